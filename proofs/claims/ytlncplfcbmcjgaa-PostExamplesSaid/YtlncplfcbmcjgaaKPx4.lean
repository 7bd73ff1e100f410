/-
  The statement postExamples_said, part 4 of 4: M3, P9, P10, P11, P12, A1, A2, X1, Examples0.
  Conditions: none.
-/
import Derived.Test.YtlncplfcbmcjgaaKPx1
import Derived.Test.YtlncplfcbmcjgaaKPx2
import Derived.Test.YtlncplfcbmcjgaaKPx3
import Derived.Test.YtlncplfcbmcjgaaRows
import Derived.Test.YtlncplfcbmcjgaaProg
import Derived.KernelRfl
namespace Go.Proofs.Ytlncplfcbmcjgaa
section
open Go.RowKit
set_option linter.unusedVariables false
set_option maxRecDepth 100000 in
set_option maxHeartbeats 400000 in
theorem wlacks_c (d : GuardM) (kA : Option Addr) (kC : Nat) (pA : Option Addr) (pC : Nat) (nA : Option Addr) (nC : Nat) (tz : List RA) (tA : Option Addr) (tC : Nat) (gw : Nat) (s : Nat) (hin : GuardIn d) (htr : trackOk d.Track = true) (hok : GuardOk d) (htz : tz.length = d.Posts.length) (hsb : s < 256) :
    FnX Try.prog 73 [(Value.pointer (some ⟨gw, 0, none⟩)), (Value.int .i64 ((s : Nat) : Int))] [(rd kA d.Track.length 9 (d.Track.map StretchV.cells)), (rd pA d.Posts.length 7 (d.Posts.map PostV.cells)), (rd nA d.Needs.length 3 (d.Needs.map NeedV.cells)), (rd tA ((timesL d).length) 1 (List.zipWith rowC (timesL d) tz)), (bun (nest rowR (timesL d) tz)), (blk gw 89 (WatchV.cells (WatchV.mk (GuardV.mk (TrackV.mk (Slc.mk kA d.Track.length kC)) (Slc.mk pA d.Posts.length pC) (Slc.mk nA d.Needs.length nC) d.Tower d.Radio) (Slc.mk tA ((timesL d).length) tC))))] (fun (x : (Option Addr) × Nat) => (Value.slice x.1 ((lacksL d (bitS s)).length) x.2)) (fun (x : (Option Addr) × Nat) => True) (fun (x : (Option Addr) × Nat) => [(own x.1 x.2 3 1 ((lacksL d (bitS s)).map iC))]) := by
 have hlen := hin.trk
 have hside := hin.side
 have hpl := hin.pst
 have hnl := hin.nds
 have hnk := hin.nk
 have hpk := hin.pk
 have hn8 := hok.len
 refine fnX_of go73 Try.func73 rfl rfl fun w0 Q hQ hN => ?_
 try dsimp only
 refine WS fun _ hK1 => rS (AG rfl) <| RK hK1 <| w_scope rfl <| WS fun _ hK2 => rS (MV rfl) <| rS (MV rfl) <| cX (wcalled_c d kA kC pA pC nA nC tA ((timesL d).length) tC gw s hin htr hok hsb) (ha_at 0 rfl rfl <| ha_at 1 rfl rfl <| ha_at 2 rfl rfl <| ha_at 5 rfl rfl <| ha_nil) rfl fun y3 hy4 => ?_
 obtain ⟨a5, c6⟩ := y3
 try dsimp only
 refine rS (AG rfl) <| RK hK2 <| WS fun _ hK7 => rS (AG rfl) <| RK hK7 <| w_seq fun _ hK8 => w_label <| KK hK8 <| w_seq fun _ hK9 => WS fun _ hK10 => ?_
 refine rS (MV rfl) <| rS (SX (sd_nil_p rfl rfl) rfl rfl) <| rS (FA 0 rfl fo89_0 rfl) <| rS (FA 2 rfl fo32_2 rfl) <| rS (L1R (Value.slice nA d.Needs.length nC) 6 rfl tk26 rfl rfl) <| rS (LN rfl ut26) <| rS (MV rfl) <| RK hK10 <| w_block <| w_own_nil 3 1 ?_
 have hinit : (0 ≤ d.Needs.length) := by exact Nat.zero_le _
 refine w_loop (ι := { z : Nat × (Option Addr) × Nat // (z.1 ≤ d.Needs.length) }) (fun z => [(0, (Value.pointer (some ⟨gw, 0, none⟩))), (1, (Value.int .i64 ((s : Nat) : Int))), (5, (Value.slice a5 ((calledL d (bitS s)).length) c6)), (6, (Value.slice z.1.2.1 ((idxL z.1.1 (LackP d (bitS s))).length) z.1.2.2)), (16, (Value.slice nA d.Needs.length nC)), (17, (Value.int .i64 ((d.Needs.length : Nat) : Int))), (18, (Value.int .i64 ((z.1.1 : Nat) : Int)))]) (fun z => [(own z.1.2.1 z.1.2.2 3 1 ((idxL z.1.1 (LackP d (bitS s))).map iC)), (own a5 c6 3 1 ((calledL d (bitS s)).map iC)), (rd kA d.Track.length 9 (d.Track.map StretchV.cells)).ro, (rd pA d.Posts.length 7 (d.Posts.map PostV.cells)).ro, (rd nA d.Needs.length 3 (d.Needs.map NeedV.cells)).ro, (rd tA ((timesL d).length) 1 (List.zipWith rowC (timesL d) tz)).ro, (bun (nest rowR (timesL d) tz)).ro, (blk gw 89 (WatchV.cells (WatchV.mk (GuardV.mk (TrackV.mk (Slc.mk kA d.Track.length kC)) (Slc.mk pA d.Posts.length pC) (Slc.mk nA d.Needs.length nC) d.Tower d.Radio) (Slc.mk tA ((timesL d).length) tC)))).ro]) (fun z => d.Needs.length - z.1.1) ⟨(0, none, 0), hinit⟩ (Sub.cons rfl <| Sub.cons rfl <| Sub.cons rfl <| Sub.cons rfl <| Sub.cons rfl <| Sub.cons rfl <| Sub.cons rfl <| Sub.nil _) (fun w hs => St.sel [0, 1, 2, 3, 4, 5, 6, 7] rfl rfl hs) ?_
 clear hinit
 rintro ⟨⟨j, la, lc⟩, hl4_0⟩ J11 hJ11
 try dsimp only at hl4_0
 try dsimp only
 refine WS fun _ hK12 => rS (BI rfl b_lss) <| RK hK12 <| w_seq fun _ hK13 => ?_
 refine w_if rfl (fun h14 => ?_) (fun h14 => ?_)
 rotate_left 1
 · replace h14 := DF h14
   refine w_exit <| k_exit_then <| k_exit_then <| k_exit_same <| KK hK9 <| WS fun _ hK29 => ?_
   rw [show idxL j (LackP d (bitS s)) = lacksL d (bitS s) from by unfold lacksL; rw [show j = d.Needs.length by omega]]
   refine rS (MV rfl) <| rS (AG rfl) <| RK hK29 <| w_ret ?_
   refine hQ _ _ _ (l_nil (vs := [(Value.slice la ((lacksL d (bitS s)).length) lc)]) ⟨rfl, trivial⟩ fun w hs => endX (la, lc) [0] ?_ ?_ rfl rfl rfl hs)
   · rfl
   · trivial
 replace h14 := DT h14
 refine WK hK13 <| w_seq fun _ hK15 => w_block <| WS fun _ hK16 => rS (MV rfl) ?_
 obtain ⟨n, hn⟩ : ∃ y_, d.Needs[j]? = some y_ := ⟨d.Needs[j]'(by omega), List.getElem?_eq_getElem _⟩
 have hnm : (d.Needs.map NeedV.cells)[j]? = some (NeedV.cells n) := by rw [List.getElem?_map, hn]; rfl
 refine rS (IA j rfl (has_at 4 rfl) te26 (by decide) (by omega) (by omega)) <| rS (LEN j 0 (NeedV.cells n) rfl tk57 (has_at 4 rfl) hnm rfl (by decide) rfl rfl) <| AL rfl tz57 fun b17 => rS (AG rfl) <| SW0 rfl ts57 rfl <| RK hK16 <| w_seq fun _ hK18 => WS fun _ hK19 => ?_
 have hno := hok.need n (List.mem_of_getElem? hn)
 refine rS (MV rfl) <| rS (LW 0 rfl tk57 rfl rfl) <| rS (MV rfl) <| cX (wmeets_c d kA kC pA pC nA nC tz tA tC gw n (calledL d (bitS s)) a5 c6 hin htr hok htz (by exact hno) (by exact called_mem) (by exact Nat.le_trans called_len (by omega))) (ha_at 3 rfl rfl <| ha_at 4 rfl rfl <| ha_at 5 rfl rfl <| ha_at 6 rfl rfl <| ha_at 7 rfl rfl <| ha_at 8 rfl rfl <| ha_cons (has_own_n (n := (calledL d (bitS s)).length) 2 rfl (by simp)) <| ha_nil) rfl fun y20 hy21 => ?_
 obtain ⟨a22, c23⟩ := y20
 try dsimp only
 rw [meets_filter]
 refine rS (LN rfl ut33) <| rS (BI rfl b_gtr) <| RK hK19 ?_
 refine w_if rfl (fun hg28 => ?_) (fun hg28 => ?_)
 · replace hg28 := DT hg28
   refine w_exit <| k_exit_then <| k_exit_same <| KK hK15 <| w_region <| rS (BI rfl (b_add ⟨by omega, by omega⟩)) <| rS (MV rfl) <| r_nil ?_
   rw [show (idxL j (LackP d (bitS s))) = (idxL (j + 1) (LackP d (bitS s))) from (idxL_no (fun q => by obtain ⟨n2, hn2, h2⟩ := q; rw [hn] at hn2; cases hn2; rw [h2] at hg28; simp at hg28)).symm]
   have hb24 : (Value.int .i64 (((j + 1) : Nat) : Int)) = (Value.int .i64 (((j : Nat) : Int) + 1)) := by exact congrArg (Value.int .i64) (by omega)
   refine k_then (hJ11 ⟨((j + 1), la, lc), (by first | omega | (simp only []; omega))⟩ _ _ _ rfl (by first | omega | (simp; omega)) (Sub.cons rfl <| Sub.cons rfl <| Sub.cons rfl <| Sub.cons rfl <| Sub.cons rfl <| Sub.cons rfl <| sub_val rfl hb24 <| Sub.nil _) (fun w hs => St.sel [2, 3, 4, 5, 6, 7, 8, 9] rfl rfl hs))
 replace hg28 := DF hg28
 refine WK hK18 <| w_region <| rS (MV rfl) <| rS (MV rfl) <| r_bs (xs := [.tmp 30]) (cs := [(Value.int .i64 ((j : Nat) : Int))]) rfl te33 tz3 rfl rfl rfl rfl (by simp [Value.cells]) rfl rfl fun b25 => r_append (es2 := (List.map iC (idxL (j + 1) (LackP d (bitS s))))) (m' := (idxL (j + 1) (LackP d (bitS s))).length) 3 rfl rfl rfl ta33 rfl rfl (by simp) (has_rd_blk (es := List.map iC [((j : Nat) : Int)]) 0 rfl rfl (by simp [iC_length]) rfl) (one_iC _) (by have := idxL_len (n := j) (p := LackP d (bitS s)); omega) (by have := idxL_len (n := j) (p := LackP d (bitS s)); simp only [maxLen]; omega) (by rw [idxL_yes (p := LackP d (bitS s)) ⟨n, hn, List.eq_nil_of_length_eq_zero (by omega)⟩]; simp) (by simp) rfl fun a26 c27 => ?_
 try dsimp only
 refine rS (AG rfl) <| r_nil <| k_block <| KK hK15 <| w_region <| rS (BI rfl (b_add ⟨by omega, by omega⟩)) <| rS (MV rfl) <| r_nil ?_
 have hb28 : (Value.int .i64 (((j + 1) : Nat) : Int)) = (Value.int .i64 (((j : Nat) : Int) + 1)) := by exact congrArg (Value.int .i64) (by omega)
 refine k_then (hJ11 ⟨((j + 1), a26, c27), (by first | omega | (simp only []; omega))⟩ _ _ _ rfl (by first | omega | (simp; omega)) (Sub.cons rfl <| Sub.cons rfl <| Sub.cons rfl <| Sub.cons rfl <| Sub.cons rfl <| Sub.cons rfl <| sub_val rfl hb28 <| Sub.nil _) (fun w hs => St.sel [3, 4, 5, 6, 7, 8, 9, 10] rfl rfl hs))
set_option maxRecDepth 100000 in
set_option maxHeartbeats 400000 in
theorem wweak_c (d : GuardM) (kA : Option Addr) (kC : Nat) (pA : Option Addr) (pC : Nat) (nA : Option Addr) (nC : Nat) (tz : List RA) (tA : Option Addr) (tC : Nat) (gw : Nat) (s : Nat) (hin : GuardIn d) (htr : trackOk d.Track = true) (hok : GuardOk d) (htz : tz.length = d.Posts.length) (hsb : s < 256) :
    FnX Try.prog 75 [(Value.pointer (some ⟨gw, 0, none⟩)), (Value.int .i64 ((s : Nat) : Int))] [(rd kA d.Track.length 9 (d.Track.map StretchV.cells)), (rd pA d.Posts.length 7 (d.Posts.map PostV.cells)), (rd nA d.Needs.length 3 (d.Needs.map NeedV.cells)), (rd tA ((timesL d).length) 1 (List.zipWith rowC (timesL d) tz)), (bun (nest rowR (timesL d) tz)), (blk gw 89 (WatchV.cells (WatchV.mk (GuardV.mk (TrackV.mk (Slc.mk kA d.Track.length kC)) (Slc.mk pA d.Posts.length pC) (Slc.mk nA d.Needs.length nC) d.Tower d.Radio) (Slc.mk tA ((timesL d).length) tC))))] (fun (x : (Option Addr) × Nat) => (Value.slice x.1 ((weakL d (bitS s)).length) x.2)) (fun (x : (Option Addr) × Nat) => True) (fun (x : (Option Addr) × Nat) => [(own x.1 x.2 3 1 ((weakL d (bitS s)).map iC))]) := by
 have hlen := hin.trk
 have hside := hin.side
 have hpl := hin.pst
 have hnl := hin.nds
 have hnk := hin.nk
 have hpk := hin.pk
 have hn8 := hok.len
 refine fnX_of go75 Try.func75 rfl rfl fun w0 Q hQ hN => ?_
 try dsimp only
 refine WS fun _ hK1 => rS (AG rfl) <| RK hK1 <| WS fun _ hK2 => rS (AG rfl) <| RK hK2 <| w_seq fun _ hK3 => WS fun _ hK4 => rS (MV rfl) <| rS (SX (sd_nil_p rfl rfl) rfl rfl) ?_
 refine rS (FA 0 rfl fo89_0 rfl) <| rS (FA 1 rfl fo32_1 rfl) <| rS (L1R (Value.slice pA d.Posts.length pC) 5 rfl tk25 rfl rfl) <| rS (LN rfl ut25) <| rS (MV rfl) <| RK hK4 <| w_block <| w_own_nil 3 1 ?_
 have hinit : (0 ≤ d.Posts.length) := by exact Nat.zero_le _
 refine w_loop (ι := { z : Nat × (Option Addr) × Nat // (z.1 ≤ d.Posts.length) }) (fun z => [(0, (Value.pointer (some ⟨gw, 0, none⟩))), (1, (Value.int .i64 ((s : Nat) : Int))), (5, (Value.slice z.1.2.1 ((idxL z.1.1 (fun i => bitS s i ∧ lacksL d (less1 (bitS s) i) ≠ [])).length) z.1.2.2)), (11, (Value.slice pA d.Posts.length pC)), (12, (Value.int .i64 ((d.Posts.length : Nat) : Int))), (13, (Value.int .i64 ((z.1.1 : Nat) : Int)))]) (fun z => [(own z.1.2.1 z.1.2.2 3 1 ((idxL z.1.1 (fun i => bitS s i ∧ lacksL d (less1 (bitS s) i) ≠ [])).map iC)), (rd kA d.Track.length 9 (d.Track.map StretchV.cells)).ro, (rd pA d.Posts.length 7 (d.Posts.map PostV.cells)).ro, (rd nA d.Needs.length 3 (d.Needs.map NeedV.cells)).ro, (rd tA ((timesL d).length) 1 (List.zipWith rowC (timesL d) tz)).ro, (bun (nest rowR (timesL d) tz)).ro, (blk gw 89 (WatchV.cells (WatchV.mk (GuardV.mk (TrackV.mk (Slc.mk kA d.Track.length kC)) (Slc.mk pA d.Posts.length pC) (Slc.mk nA d.Needs.length nC) d.Tower d.Radio) (Slc.mk tA ((timesL d).length) tC)))).ro]) (fun z => d.Posts.length - z.1.1) ⟨(0, none, 0), hinit⟩ (Sub.cons rfl <| Sub.cons rfl <| Sub.cons rfl <| Sub.cons rfl <| Sub.cons rfl <| Sub.cons rfl <| Sub.nil _) (fun w hs => St.sel [0, 1, 2, 3, 4, 5, 6] rfl rfl hs) ?_
 clear hinit
 rintro ⟨⟨j, la, lc⟩, hl3_0⟩ J5 hJ5
 try dsimp only at hl3_0
 try dsimp only
 refine WS fun _ hK6 => rS (BI rfl b_lss) <| RK hK6 <| w_seq fun _ hK7 => ?_
 refine w_if rfl (fun h8 => ?_) (fun h8 => ?_)
 rotate_left 1
 · replace h8 := DF h8
   refine w_exit <| k_exit_then <| k_exit_then <| k_exit_same <| KK hK3 <| WS fun _ hK22 => ?_
   rw [show idxL j (fun i => bitS s i ∧ lacksL d (less1 (bitS s) i) ≠ []) = weakL d (bitS s) from by unfold weakL; rw [show j = d.Posts.length by omega]]
   refine rS (MV rfl) <| rS (AG rfl) <| RK hK22 <| w_ret ?_
   refine hQ _ _ _ (l_nil (vs := [(Value.slice la ((weakL d (bitS s)).length) lc)]) ⟨rfl, trivial⟩ fun w hs => endX (la, lc) [0] ?_ ?_ rfl rfl rfl hs)
   · rfl
   · trivial
 replace h8 := DT h8
 refine WK hK7 <| w_seq fun _ hK9 => w_block <| WS fun _ hK10 => rS (MV rfl) <| rS (AG rfl) <| RK hK10 <| WS fun _ hK11 => rS (MV rfl) <| rS (MV rfl) ?_
 refine rS (BI rfl (b_shrN (i := j) (by omega) (by omega))) <| rS (BI rfl (b_and1 (m := (s / 2 ^ j)) (by omega) (Nat.lt_of_le_of_lt (Nat.div_le_self _ _) (by omega)))) <| rS (BI rfl b_eql) <| rS (MV rfl) ?_
 refine r_bool (t := 21) rfl (fun hg21 => ?_) (fun hg21 => ?_)
 rotate_left 1
 · replace hg21 := DF hg21
   refine rS (OX rfl) <| rS (OX rfl) <| rS (OX rfl) <| rS (OX rfl) <| rS (OX rfl) <| rS (OX rfl) <| rS (OX rfl) <| rS (OX rfl) <| rS (PK rfl) <| RK hK11 ?_
   refine w_if_false rfl <| w_skip <| k_block <| KK hK9 <| w_region <| rS (BI rfl (b_add ⟨by omega, by omega⟩)) <| rS (MV rfl) <| r_nil ?_
   rw [show (idxL j (fun i => bitS s i ∧ lacksL d (less1 (bitS s) i) ≠ [])) = (idxL (j + 1) (fun i => bitS s i ∧ lacksL d (less1 (bitS s) i) ≠ [])) from (idxL_no (show ¬ (bitS s j ∧ lacksL d (less1 (bitS s) j) ≠ []) from fun q => by first | exact hg21 (bit_iff.2 q.1) | exact q.2 (by rw [← hlk]; exact List.eq_nil_of_length_eq_zero (by omega)))).symm]
   have hb21 : (Value.int .i64 (((j + 1) : Nat) : Int)) = (Value.int .i64 (((j : Nat) : Int) + 1)) := by exact congrArg (Value.int .i64) (by omega)
   refine k_then (hJ5 ⟨((j + 1), la, lc), (by first | omega | (simp only []; omega))⟩ _ _ _ rfl (by first | omega | (simp; omega)) (Sub.cons rfl <| Sub.cons rfl <| Sub.cons rfl <| Sub.cons rfl <| Sub.cons rfl <| sub_val rfl hb21 <| Sub.nil _) (fun w hs => St.sel [0, 1, 2, 3, 4, 5, 6] rfl rfl hs))
 replace hg21 := DT hg21
 refine rS (MV rfl) <| rS (MV rfl) <| rS (MV rfl) ?_
 have hp1 := pow_256 (n := j) (by omega)
 refine rS (BI rfl (b_shl1 (i := j) (by omega) (by omega))) ?_
 have hcl : clrB s j < 256 := Nat.lt_of_le_of_lt clr_le hsb
 have hlk : lacksL d (bitS (clrB s j)) = lacksL d (less1 (bitS s) j) := lacks_congr fun k hk => clrS hsb (by omega) (by omega)
 have hp2 : 2 ^ j ≤ 256 := (pow_256 (by omega)).2
 refine rS (BI rfl (b_andNot (s := s) (i := j) (by omega) rfl (by omega) (by omega))) <| cX (wlacks_c d kA kC pA pC nA nC tz tA tC gw (clrB s j) hin htr hok htz (by first | assumption | omega | (simp; done) | (simp; omega))) (ha_at 1 rfl rfl <| ha_at 2 rfl rfl <| ha_at 3 rfl rfl <| ha_at 4 rfl rfl <| ha_at 5 rfl rfl <| ha_at 6 rfl rfl <| ha_nil) rfl fun y12 hy13 => ?_
 obtain ⟨a14, c15⟩ := y12
 try dsimp only
 refine rS (LN rfl ut33) <| rS (BI rfl b_gtr) <| rS (PK rfl) <| RK hK11 ?_
 refine w_if rfl (fun hg30 => ?_) (fun hg30 => ?_)
 rotate_left 1
 · replace hg30 := DF hg30
   refine w_skip <| k_block <| KK hK9 <| w_region <| rS (BI rfl (b_add ⟨by omega, by omega⟩)) <| rS (MV rfl) <| r_nil ?_
   rw [show (idxL j (fun i => bitS s i ∧ lacksL d (less1 (bitS s) i) ≠ [])) = (idxL (j + 1) (fun i => bitS s i ∧ lacksL d (less1 (bitS s) i) ≠ [])) from (idxL_no (show ¬ (bitS s j ∧ lacksL d (less1 (bitS s) j) ≠ []) from fun q => by first | exact hg21 (bit_iff.2 q.1) | exact q.2 (by rw [← hlk]; exact List.eq_nil_of_length_eq_zero (by omega)))).symm]
   have hb20 : (Value.int .i64 (((j + 1) : Nat) : Int)) = (Value.int .i64 (((j : Nat) : Int) + 1)) := by exact congrArg (Value.int .i64) (by omega)
   refine k_then (hJ5 ⟨((j + 1), la, lc), (by first | omega | (simp only []; omega))⟩ _ _ _ rfl (by first | omega | (simp; omega)) (Sub.cons rfl <| Sub.cons rfl <| Sub.cons rfl <| Sub.cons rfl <| Sub.cons rfl <| sub_val rfl hb20 <| Sub.nil _) (fun w hs => St.sel [1, 2, 3, 4, 5, 6, 7] rfl rfl hs))
 replace hg30 := DT hg30
 refine w_region <| rS (MV rfl) <| rS (MV rfl) <| r_bs (xs := [.tmp 32]) (cs := [(Value.int .i64 ((j : Nat) : Int))]) rfl te33 tz3 rfl rfl rfl rfl (by simp [Value.cells]) rfl rfl fun b16 => r_append (es2 := (List.map iC (idxL (j + 1) (fun i => bitS s i ∧ lacksL d (less1 (bitS s) i) ≠ [])))) (m' := (idxL (j + 1) (fun i => bitS s i ∧ lacksL d (less1 (bitS s) i) ≠ [])).length) 2 rfl rfl rfl ta33 rfl rfl (by simp) (has_rd_blk (es := List.map iC [((j : Nat) : Int)]) 0 rfl rfl (by simp [iC_length]) rfl) (one_iC _) (by have := idxL_len (n := j) (p := fun i => bitS s i ∧ lacksL d (less1 (bitS s) i) ≠ []); omega) (by have := idxL_len (n := j) (p := fun i => bitS s i ∧ lacksL d (less1 (bitS s) i) ≠ []); simp only [maxLen]; omega) (by rw [idxL_yes (p := fun i => bitS s i ∧ lacksL d (less1 (bitS s) i) ≠ []) (show bitS s j ∧ lacksL d (less1 (bitS s) j) ≠ [] from ⟨bit_iff.1 hg21, fun q => by rw [hlk, q] at hg30; simp at hg30⟩)]; simp) (by simp) rfl fun a17 c18 => ?_
 try dsimp only
 refine rS (AG rfl) <| r_nil <| k_block <| KK hK9 <| w_region <| rS (BI rfl (b_add ⟨by omega, by omega⟩)) <| rS (MV rfl) <| r_nil ?_
 have hb19 : (Value.int .i64 (((j + 1) : Nat) : Int)) = (Value.int .i64 (((j : Nat) : Int) + 1)) := by exact congrArg (Value.int .i64) (by omega)
 refine k_then (hJ5 ⟨((j + 1), a17, c18), (by first | omega | (simp only []; omega))⟩ _ _ _ rfl (by first | omega | (simp; omega)) (Sub.cons rfl <| Sub.cons rfl <| Sub.cons rfl <| Sub.cons rfl <| Sub.cons rfl <| sub_val rfl hb19 <| Sub.nil _) (fun w hs => St.sel [2, 3, 4, 5, 6, 7, 8] rfl rfl hs))
set_option maxRecDepth 100000 in
set_option maxHeartbeats 400000 in
theorem wstrong_c (d : GuardM) (kA : Option Addr) (kC : Nat) (pA : Option Addr) (pC : Nat) (nA : Option Addr) (nC : Nat) (tz : List RA) (tA : Option Addr) (tC : Nat) (gw : Nat) (s : Nat) (hin : GuardIn d) (htr : trackOk d.Track = true) (hok : GuardOk d) (htz : tz.length = d.Posts.length) (hsb : s < 256) :
    FnV Try.prog 82 [(Value.pointer (some ⟨gw, 0, none⟩)), (Value.int .i64 ((s : Nat) : Int))] [(rd kA d.Track.length 9 (d.Track.map StretchV.cells)), (rd pA d.Posts.length 7 (d.Posts.map PostV.cells)), (rd nA d.Needs.length 3 (d.Needs.map NeedV.cells)), (rd tA ((timesL d).length) 1 (List.zipWith rowC (timesL d) tz)), (bun (nest rowR (timesL d) tz)), (blk gw 89 (WatchV.cells (WatchV.mk (GuardV.mk (TrackV.mk (Slc.mk kA d.Track.length kC)) (Slc.mk pA d.Posts.length pC) (Slc.mk nA d.Needs.length nC) d.Tower d.Radio) (Slc.mk tA ((timesL d).length) tC))))] (Value.bool (decide (StrongP d (bitS s)))) := by
 have hlen := hin.trk
 have hside := hin.side
 have hpl := hin.pst
 have hnl := hin.nds
 have hnk := hin.nk
 have hpk := hin.pk
 refine fnV_of go82 Try.func82 rfl rfl fun w0 Q hQ hN => ?_
 try dsimp only
 refine WS fun _ hK1 => rS (AG rfl) <| RK hK1 <| WS fun _ hK2 => rS (MV rfl) <| rS (MV rfl) <| cX (wlacks_c d kA kC pA pC nA nC tz tA tC gw s hin htr hok htz hsb) (ha_at 0 rfl rfl <| ha_at 1 rfl rfl <| ha_at 2 rfl rfl <| ha_at 3 rfl rfl <| ha_at 4 rfl rfl <| ha_at 5 rfl rfl <| ha_nil) rfl fun y3 hy4 => ?_
 obtain ⟨a5, c6⟩ := y3
 try dsimp only
 refine rS (LN rfl ut33) <| rS (BI rfl b_eql) <| rS (MV rfl) ?_
 refine r_bool (t := 10) rfl (fun hg10 => ?_) (fun hg10 => ?_)
 rotate_left 1
 · replace hg10 := DF hg10
   refine rS (OX rfl) <| rS (OX rfl) <| rS (OX rfl) <| rS (OX rfl) <| rS (OX rfl) <| rS (PK rfl) <| rS (AG rfl) <| RK hK2 <| w_ret <| Q1 hQ rfl rfl rfl ?_
   first | exact congrArg Value.bool (strong_one hg10) | exact congrArg Value.bool (strong_two hg10)
 replace hg10 := DT hg10
 refine rS (MV rfl) <| rS (MV rfl) <| cX (wweak_c d kA kC pA pC nA nC tz tA tC gw s hin htr hok htz hsb) (ha_at 1 rfl rfl <| ha_at 2 rfl rfl <| ha_at 3 rfl rfl <| ha_at 4 rfl rfl <| ha_at 5 rfl rfl <| ha_at 6 rfl rfl <| ha_nil) rfl fun y7 hy8 => ?_
 obtain ⟨a9, c10⟩ := y7
 try dsimp only
 refine rS (LN rfl ut33) <| rS (BI rfl b_eql) <| rS (PK rfl) <| rS (AG rfl) <| RK hK2 <| w_ret <| Q1 hQ rfl rfl rfl ?_
 first | exact congrArg Value.bool (strong_one hg10) | exact congrArg Value.bool (strong_two hg10)
end
section
open Go.RowKit
set_option linter.unusedVariables false
set_option maxRecDepth 100000 in
set_option maxHeartbeats 400000 in
theorem Called_c (d : GuardM) (kA : Option Addr) (kC : Nat) (pA : Option Addr) (pC : Nat) (nA : Option Addr) (nC : Nat) (l : List Int) (lA : Option Addr) (lC : Nat) (hin : GuardIn d) (hll : l.length ≤ 1000000) :
    FnX Try.prog 19 [(Value.agg (GuardV.cells (GuardV.mk (TrackV.mk (Slc.mk kA d.Track.length kC)) (Slc.mk pA d.Posts.length pC) (Slc.mk nA d.Needs.length nC) d.Tower d.Radio)).toArray), (Value.slice lA l.length lC)] [(rd kA d.Track.length 9 (d.Track.map StretchV.cells)), (rd pA d.Posts.length 7 (d.Posts.map PostV.cells)), (rd nA d.Needs.length 3 (d.Needs.map NeedV.cells)), (rd lA l.length 1 (l.map iC))] (fun (x : (Option Addr) × Nat) => (Value.tuple [(Value.slice x.1 ((calledV d l).length) x.2), (Value.int .i64 (mannedE d l))].toArray)) (fun (x : (Option Addr) × Nat) => True) (fun (x : (Option Addr) × Nat) => [(own x.1 x.2 3 1 ((calledV d l).map iC))]) := by
 have hlen := hin.trk
 have hside := hin.side
 have hpl := hin.pst
 have hnl := hin.nds
 have hnk := hin.nk
 have hpk := hin.pk
 refine fnX_of go19 Try.func19 rfl rfl fun w0 Q hQ hN => ?_
 try dsimp only
 refine WS fun _ hK1 => BXA rfl fun b2 => rS (AG rfl) <| rS (AG rfl) <| RK hK1 <| WS fun _ hK3 => rS (LW 0 rfl tk32 rfl rfl) <| rS (MV rfl) <| cX (manned_c d kA kC pA pC nA nC l lA lC hin hll) (ha_at 1 rfl rfl <| ha_at 2 rfl rfl <| ha_at 3 rfl rfl <| ha_at 4 rfl rfl <| ha_nil) rfl fun y4 hy5 => ?_
 obtain ⟨ok11, ec6, gw7, tA8, tC9, tz10⟩ := y4
 cases ok11
 · obtain ⟨hec, he⟩ := hy5.2 rfl
   try dsimp only at hec he
   subst hec
   try dsimp only [cond_true, cond_false, List.cons_append, List.nil_append]
   refine rS (MV rfl) <| rS (EX rfl) <| rS (EX rfl) <| rS (EX rfl) <| rS (AG rfl) <| rS (AG rfl) <| rS (AG rfl) <| RK hK3 <| w_seq fun _ hK12 => WS fun _ hK13 => ?_
   refine rS (MV rfl) <| rS (BI rfl b_neq) <| RK hK13 ?_
   refine w_if rfl (fun hg17 => ?_) (fun hg17 => ?_)
   rotate_left 1
   · replace hg17 := XF hg17
     exact absurd hg17 he
   replace hg17 := XT hg17
   refine WS fun _ hK14 => r_own_nil 3 1 ?_
   rw [show (own none 0 3 1 ([] : List (List Value))) = own none 0 3 1 ((calledV d l).map iC) from by rw [calledV_no he]; rfl]
   refine rS (MV rfl) <| rS (AG rfl) <| rS (AG rfl) <| RK hK14 <| w_ret ?_
   refine hQ _ _ _ (l_nil (vs := [(Value.slice none 0 0), (Value.int .i64 (mannedE d l))]) ⟨rfl, rfl, trivial⟩ fun w hs => endX (none, 0) [0] ?_ ?_ rfl rfl rfl hs)
   · first | rfl | (rw [calledV_no he]; rfl) | (rw [he]; rfl)
   · trivial
 obtain ⟨he, htz⟩ := hy5.1 rfl
 try dsimp only [cond_true, cond_false, List.cons_append, List.nil_append]
 obtain ⟨hg0, hem⟩ := manned_zero he
 obtain ⟨htr, hok⟩ := guardE_zero hg0
 have hn8 := hok.len
 have hsb := setAll_b (l := l) hn8.1
 have hbit := fun k (hk : k < d.Posts.length) => setAll_bit hn8.1 (l := l) (fun x hx => by have := empty_mem hem x hx; omega) hk
 refine rS (MV rfl) <| rS (EX rfl) <| rS (EX rfl) <| rS (EX rfl) <| rS (AG rfl) <| rS (AG rfl) <| rS (AG rfl) <| RK hK3 <| w_seq fun _ hK15 => WS fun _ hK16 => ?_
 refine rS (MV rfl) <| rS (SX (sd_bin (r := .bool false) rfl rfl rfl b_neq) rfl rfl) <| RK hK16 <| w_if_false rfl <| WK hK15 <| WS fun _ hK17 => rS (MV rfl) <| rS (MV rfl) <| cX (wcalled_c d kA kC pA pC nA nC tA8 ((timesL d).length) tC9 gw7 (setAll d.Posts.length l) hin (by first | assumption | omega | (simp; done) | (simp; omega)) (by first | assumption | omega | (simp; done) | (simp; omega)) (by first | assumption | omega | (simp; done) | (simp; omega))) (ha_at 4 rfl rfl <| ha_at 5 rfl rfl <| ha_at 6 rfl rfl <| ha_at 0 rfl rfl <| ha_nil) rfl fun y18 hy19 => ?_
 obtain ⟨a20, c21⟩ := y18
 try dsimp only
 rw [show calledL d (bitS (setAll d.Posts.length l)) = calledV d l from by rw [calledV_ok he]; exact called_congr hbit]
 refine rS (AG rfl) <| rS (AG rfl) <| RK hK17 <| w_ret ?_
 refine hQ _ _ _ (l_nil (vs := [(Value.slice a20 ((calledV d l).length) c21), (Value.int .i64 0)]) ⟨rfl, rfl, trivial⟩ fun w hs => endX (a20, c21) [0] ?_ ?_ rfl rfl rfl hs)
 · first | rfl | (rw [calledV_no he]; rfl) | (rw [he]; rfl)
 · trivial
set_option maxRecDepth 100000 in
set_option maxHeartbeats 400000 in
theorem Lacks_c (d : GuardM) (kA : Option Addr) (kC : Nat) (pA : Option Addr) (pC : Nat) (nA : Option Addr) (nC : Nat) (l : List Int) (lA : Option Addr) (lC : Nat) (hin : GuardIn d) (hll : l.length ≤ 1000000) :
    FnX Try.prog 43 [(Value.agg (GuardV.cells (GuardV.mk (TrackV.mk (Slc.mk kA d.Track.length kC)) (Slc.mk pA d.Posts.length pC) (Slc.mk nA d.Needs.length nC) d.Tower d.Radio)).toArray), (Value.slice lA l.length lC)] [(rd kA d.Track.length 9 (d.Track.map StretchV.cells)), (rd pA d.Posts.length 7 (d.Posts.map PostV.cells)), (rd nA d.Needs.length 3 (d.Needs.map NeedV.cells)), (rd lA l.length 1 (l.map iC))] (fun (x : (Option Addr) × Nat) => (Value.tuple [(Value.slice x.1 ((lacksV d l).length) x.2), (Value.int .i64 (mannedE d l))].toArray)) (fun (x : (Option Addr) × Nat) => True) (fun (x : (Option Addr) × Nat) => [(own x.1 x.2 3 1 ((lacksV d l).map iC))]) := by
 have hlen := hin.trk
 have hside := hin.side
 have hpl := hin.pst
 have hnl := hin.nds
 have hnk := hin.nk
 have hpk := hin.pk
 refine fnX_of go43 Try.func43 rfl rfl fun w0 Q hQ hN => ?_
 try dsimp only
 refine WS fun _ hK1 => BXA rfl fun b2 => rS (AG rfl) <| rS (AG rfl) <| RK hK1 <| WS fun _ hK3 => rS (LW 0 rfl tk32 rfl rfl) <| rS (MV rfl) <| cX (manned_c d kA kC pA pC nA nC l lA lC hin hll) (ha_at 1 rfl rfl <| ha_at 2 rfl rfl <| ha_at 3 rfl rfl <| ha_at 4 rfl rfl <| ha_nil) rfl fun y4 hy5 => ?_
 obtain ⟨ok11, ec6, gw7, tA8, tC9, tz10⟩ := y4
 cases ok11
 · obtain ⟨hec, he⟩ := hy5.2 rfl
   try dsimp only at hec he
   subst hec
   try dsimp only [cond_true, cond_false, List.cons_append, List.nil_append]
   refine rS (MV rfl) <| rS (EX rfl) <| rS (EX rfl) <| rS (EX rfl) <| rS (AG rfl) <| rS (AG rfl) <| rS (AG rfl) <| RK hK3 <| w_seq fun _ hK12 => WS fun _ hK13 => ?_
   refine rS (MV rfl) <| rS (BI rfl b_neq) <| RK hK13 ?_
   refine w_if rfl (fun hg17 => ?_) (fun hg17 => ?_)
   rotate_left 1
   · replace hg17 := XF hg17
     exact absurd hg17 he
   replace hg17 := XT hg17
   refine WS fun _ hK14 => r_own_nil 3 1 ?_
   rw [show (own none 0 3 1 ([] : List (List Value))) = own none 0 3 1 ((lacksV d l).map iC) from by rw [lacksV_no he]; rfl]
   refine rS (MV rfl) <| rS (AG rfl) <| rS (AG rfl) <| RK hK14 <| w_ret ?_
   refine hQ _ _ _ (l_nil (vs := [(Value.slice none 0 0), (Value.int .i64 (mannedE d l))]) ⟨rfl, rfl, trivial⟩ fun w hs => endX (none, 0) [0] ?_ ?_ rfl rfl rfl hs)
   · first | rfl | (rw [lacksV_no he]; rfl) | (rw [he]; rfl)
   · trivial
 obtain ⟨he, htz⟩ := hy5.1 rfl
 try dsimp only [cond_true, cond_false, List.cons_append, List.nil_append]
 obtain ⟨hg0, hem⟩ := manned_zero he
 obtain ⟨htr, hok⟩ := guardE_zero hg0
 have hn8 := hok.len
 have hsb := setAll_b (l := l) hn8.1
 have hbit := fun k (hk : k < d.Posts.length) => setAll_bit hn8.1 (l := l) (fun x hx => by have := empty_mem hem x hx; omega) hk
 refine rS (MV rfl) <| rS (EX rfl) <| rS (EX rfl) <| rS (EX rfl) <| rS (AG rfl) <| rS (AG rfl) <| rS (AG rfl) <| RK hK3 <| w_seq fun _ hK15 => WS fun _ hK16 => ?_
 refine rS (MV rfl) <| rS (SX (sd_bin (r := .bool false) rfl rfl rfl b_neq) rfl rfl) <| RK hK16 <| w_if_false rfl <| WK hK15 <| WS fun _ hK17 => rS (MV rfl) <| rS (MV rfl) <| cX (wlacks_c d kA kC pA pC nA nC tz10 tA8 tC9 gw7 (setAll d.Posts.length l) hin (by first | assumption | omega | (simp; done) | (simp; omega)) (by first | assumption | omega | (simp; done) | (simp; omega)) (by first | assumption | omega | (simp; done) | (simp; omega)) (by first | assumption | omega | (simp; done) | (simp; omega))) (ha_at 4 rfl rfl <| ha_at 5 rfl rfl <| ha_at 6 rfl rfl <| ha_cons (has_own_n (n := (timesL d).length) 1 rfl (rows_len (by rw [timesL_len]; exact htz))) <| ha_cons (bun_bund 2 rfl rowO_R) <| ha_at 0 rfl rfl <| ha_nil) rfl fun y18 hy19 => ?_
 obtain ⟨a20, c21⟩ := y18
 try dsimp only
 rw [show lacksL d (bitS (setAll d.Posts.length l)) = lacksV d l from by rw [lacksV_ok he]; exact lacks_congr hbit]
 refine rS (AG rfl) <| rS (AG rfl) <| RK hK17 <| w_ret ?_
 refine hQ _ _ _ (l_nil (vs := [(Value.slice a20 ((lacksV d l).length) c21), (Value.int .i64 0)]) ⟨rfl, rfl, trivial⟩ fun w hs => endX (a20, c21) [0] ?_ ?_ rfl rfl rfl hs)
 · first | rfl | (rw [lacksV_no he]; rfl) | (rw [he]; rfl)
 · trivial
set_option maxRecDepth 100000 in
set_option maxHeartbeats 400000 in
theorem Meets_c (d : GuardM) (kA : Option Addr) (kC : Nat) (pA : Option Addr) (pC : Nat) (nA : Option Addr) (nC : Nat) (nd : Int) (l : List Int) (lA : Option Addr) (lC : Nat) (hin : GuardIn d) (hll : l.length ≤ 1000000) :
    FnX Try.prog 21 [(Value.agg (GuardV.cells (GuardV.mk (TrackV.mk (Slc.mk kA d.Track.length kC)) (Slc.mk pA d.Posts.length pC) (Slc.mk nA d.Needs.length nC) d.Tower d.Radio)).toArray), (Value.int .i64 nd), (Value.slice lA l.length lC)] [(rd kA d.Track.length 9 (d.Track.map StretchV.cells)), (rd pA d.Posts.length 7 (d.Posts.map PostV.cells)), (rd nA d.Needs.length 3 (d.Needs.map NeedV.cells)), (rd lA l.length 1 (l.map iC))] (fun (x : (Option Addr) × Nat) => (Value.tuple [(Value.slice x.1 ((meetsV d nd l).length) x.2), (Value.int .i64 (meetsE d nd l))].toArray)) (fun (x : (Option Addr) × Nat) => True) (fun (x : (Option Addr) × Nat) => [(own x.1 x.2 3 1 ((meetsV d nd l).map iC))]) := by
 have hlen := hin.trk
 have hside := hin.side
 have hpl := hin.pst
 have hnl := hin.nds
 have hnk := hin.nk
 have hpk := hin.pk
 refine fnX_of go21 Try.func21 rfl rfl fun w0 Q hQ hN => ?_
 try dsimp only
 refine WS fun _ hK1 => BXA rfl fun b2 => rS (AG rfl) <| rS (AG rfl) <| RK hK1 <| WS fun _ hK3 => rS (LW 0 rfl tk32 rfl rfl) <| rS (MV rfl) <| cX (manned_c d kA kC pA pC nA nC l lA lC hin hll) (ha_at 1 rfl rfl <| ha_at 2 rfl rfl <| ha_at 3 rfl rfl <| ha_at 4 rfl rfl <| ha_nil) rfl fun y4 hy5 => ?_
 obtain ⟨ok11, ec6, gw7, tA8, tC9, tz10⟩ := y4
 cases ok11
 · obtain ⟨hec, he⟩ := hy5.2 rfl
   try dsimp only at hec he
   subst hec
   try dsimp only [cond_true, cond_false, List.cons_append, List.nil_append]
   refine rS (MV rfl) <| rS (EX rfl) <| rS (EX rfl) <| rS (EX rfl) <| rS (AG rfl) <| rS (AG rfl) <| rS (AG rfl) <| RK hK3 <| w_seq fun _ hK12 => WS fun _ hK13 => ?_
   refine rS (MV rfl) <| rS (BI rfl b_neq) <| RK hK13 ?_
   refine w_if rfl (fun hg19 => ?_) (fun hg19 => ?_)
   rotate_left 1
   · replace hg19 := XF hg19
     exact absurd hg19 he
   replace hg19 := XT hg19
   refine WS fun _ hK14 => rS (MV rfl) ?_
   obtain ⟨hme, hme2⟩ := meetsE_bad (nd := nd) he
   refine r_own_nil 3 1 ?_
   rw [show (own none 0 3 1 ([] : List (List Value))) = own none 0 3 1 ((meetsV d nd l).map iC) from by rw [meetsV_no hme]; rfl]
   refine rS (AG rfl) <| rS (AG rfl) <| RK hK14 <| w_ret ?_
   refine hQ _ _ _ (l_nil (vs := [(Value.slice none 0 0), (Value.int .i64 (mannedE d l))]) ⟨rfl, rfl, trivial⟩ fun w hs => endX (none, 0) [0] ?_ ?_ rfl rfl rfl hs)
   · first | (rw [hmi.1] <;> rfl) | (rw [meetsV_no hme, hme2] <;> rfl)
   · trivial
 obtain ⟨he, htz⟩ := hy5.1 rfl
 try dsimp only [cond_true, cond_false, List.cons_append, List.nil_append]
 obtain ⟨hg0, hem⟩ := manned_zero he
 obtain ⟨htr, hok⟩ := guardE_zero hg0
 have hn8 := hok.len
 have hsb := setAll_b (l := l) hn8.1
 have hbit := fun k (hk : k < d.Posts.length) => setAll_bit hn8.1 (l := l) (fun x hx => by have := empty_mem hem x hx; omega) hk
 refine rS (MV rfl) <| rS (EX rfl) <| rS (EX rfl) <| rS (EX rfl) <| rS (AG rfl) <| rS (AG rfl) <| rS (AG rfl) <| RK hK3 <| w_seq fun _ hK15 => WS fun _ hK16 => ?_
 refine rS (MV rfl) <| rS (SX (sd_bin (r := .bool false) rfl rfl rfl b_neq) rfl rfl) <| RK hK16 <| w_if_false rfl <| WK hK15 <| w_seq fun _ hK17 => WS fun _ hK18 => rS (FA 2 rfl fo32_2 rfl) <| rS (L1 (Value.slice nA d.Needs.length nC) 3 rfl tk26 rfl rfl) <| rS (LN rfl ut26) ?_
 refine rS (BI rfl (b_sub ⟨by omega, by omega⟩)) <| rS (MV rfl) <| r_bs (xs := [.tmp 25]) (cs := [(Value.int .i64 nd)]) rfl te33 tz3 rfl rfl rfl rfl (by simp [Value.cells]) rfl rfl fun b19 => rS (CL (FnV.eq (in_post 0 (((d.Needs.length : Nat) : Int) - 1) ([nd]) (some ⟨b19, 0, none⟩) 1 (by first | assumption | omega | (simp; done) | (simp; omega))) inAll_one) (ha_cons (has_rd_blk 0 rfl rfl (by simp [iC_length]) rfl) <| ha_nil) rfl) <| rS (NT rfl) <| RK hK18 ?_
 refine w_if rfl (fun hg28 => ?_) (fun hg28 => ?_)
 · replace hg28 := XT hg28
   refine WS fun _ hK20 => ?_
   obtain ⟨hme, hme2⟩ := meetsE_out (nd := nd) he (by omega)
   refine r_own_nil 3 1 ?_
   rw [show (own none 0 3 1 ([] : List (List Value))) = own none 0 3 1 ((meetsV d nd l).map iC) from by rw [meetsV_no hme]; rfl]
   refine rS (AG rfl) <| rS (AG rfl) <| RK hK20 <| w_ret ?_
   refine hQ _ _ _ (l_nil (vs := [(Value.slice none 0 0), (Value.int .i64 2)]) ⟨rfl, rfl, trivial⟩ fun w hs => endX (none, 0) [0] ?_ ?_ rfl rfl rfl hs)
   · first | (rw [hmi.1] <;> rfl) | (rw [meetsV_no hme, hme2] <;> rfl)
   · trivial
 replace hg28 := XF hg28
 refine WK hK17 <| w_seq fun _ hK21 => w_draw4 mixed [0, 1, 2, 3, 4, 5, 6, 7, 11] [8, 9, 10] [false, false, false, false, false, false, false, false, false] [false, false, false] [(blk b19 3 [(Value.int .i64 nd)]), (blk gw7 89 (WatchV.cells (WatchV.mk (GuardV.mk (TrackV.mk (Slc.mk kA d.Track.length kC)) (Slc.mk pA d.Posts.length pC) (Slc.mk nA d.Needs.length nC) d.Tower d.Radio) (Slc.mk tA8 ((timesL d).length) tC9)))), (own tA8 tC9 33 1 (List.zipWith rowC (timesL d) tz10)), (bund (nest rowO (timesL d) tz10)), (blk b2 32 (GuardV.cells (GuardV.mk (TrackV.mk (Slc.mk kA d.Track.length kC)) (Slc.mk pA d.Posts.length pC) (Slc.mk nA d.Needs.length nC) d.Tower d.Radio))), (rd kA d.Track.length 9 (d.Track.map StretchV.cells)).ro, (rd pA d.Posts.length 7 (d.Posts.map PostV.cells)).ro, (rd nA d.Needs.length 3 (d.Needs.map NeedV.cells)).ro, (rd lA l.length 1 (l.map iC)).ro] [] (by kernel_rfl) (fun w hs => St.sel [0, 1, 2, 3, 4, 5, 6, 7, 8] rfl rfl hs) (fun w hs => St.sel [] rfl rfl hs) <| eS rfl (MV rfl) <| eS rfl (FA 2 rfl fo32_2 rfl) <| eS rfl (L1 (Value.slice nA d.Needs.length nC) 4 rfl tk26 rfl rfl) <| eS rfl (MV rfl) ?_
 obtain ⟨n, hn⟩ : ∃ y_, d.Needs[(nd).toNat]? = some y_ := ⟨d.Needs[(nd).toNat]'(by omega), List.getElem?_eq_getElem _⟩
 have hnm : (d.Needs.map NeedV.cells)[(nd).toNat]? = some (NeedV.cells n) := by rw [List.getElem?_map, hn]; rfl
 refine eS rfl (IA ((nd).toNat) rfl (has_at 7 rfl) te26 (by decide) (by omega) (by omega)) <| eS rfl (LEN ((nd).toNat) 0 (NeedV.cells n) rfl tk57 (has_at 7 rfl) hnm rfl (by decide) rfl rfl) ?_
 have hno := hok.need n (List.mem_of_getElem? hn)
 have hmi := meetsE_in he (by omega) hn
 refine eS rfl (MV rfl) <| eS rfl (MV rfl) <| eS rfl (AG rfl) <| d_fin rfl <| t_cons rfl fun T22 hT22 => cX (wcalled_c d kA kC pA pC nA nC tA8 ((timesL d).length) tC9 gw7 (setAll d.Posts.length l) hin (by first | assumption | omega | (simp; done) | (simp; omega)) (by first | assumption | omega | (simp; done) | (simp; omega)) (by first | assumption | omega | (simp; done) | (simp; omega))) (ha_at 5 rfl rfl <| ha_at 6 rfl rfl <| ha_at 7 rfl rfl <| ha_at 1 rfl rfl <| ha_nil) rfl fun y23 hy24 => ?_
 obtain ⟨a25, c26⟩ := y23
 try dsimp only
 refine r_nil (hT22 _ _ (fun w hs => St.sel [1, 2, 3, 4, 5, 6, 7, 8, 9] rfl rfl hs) ?_)
 refine t_cons rfl fun T27 hT27 => cX (wmeets_c d kA kC pA pC nA nC tz10 tA8 tC9 gw7 n (calledL d (bitS (setAll d.Posts.length l))) a25 c26 hin (by first | assumption | omega | (simp; done) | (simp; omega)) (by first | assumption | omega | (simp; done) | (simp; omega)) (by first | assumption | omega | (simp; done) | (simp; omega)) (by exact hno) (by exact called_mem) (by exact Nat.le_trans called_len (by omega))) (ha_at 6 rfl rfl <| ha_at 7 rfl rfl <| ha_at 8 rfl rfl <| ha_cons (has_own_n (n := (timesL d).length) 3 rfl (rows_len (by rw [timesL_len]; exact htz))) <| ha_cons (bun_bund 4 rfl rowO_R) <| ha_at 2 rfl rfl <| ha_cons (has_own_n (n := (calledL d (bitS (setAll d.Posts.length l))).length) 0 rfl (by simp)) <| ha_nil) rfl fun y28 hy29 => ?_
 obtain ⟨a30, c31⟩ := y28
 try dsimp only
 refine r_nil (hT27 _ _ (fun w hs => St.sel [2, 3, 4, 5, 6, 7, 8, 9, 10] rfl rfl hs) ?_)
 refine t_cons rfl fun T32 hT32 => ?_
 rw [meets_filter, show meetsL d n (bitS (setAll d.Posts.length l)) = meetsV d nd l from by rw [hmi.2]; exact meets_congr hbit]
 refine rS (AG rfl) ?_
 refine r_nil (hT32 _ _ (fun w hs => St.sel [2, 3, 4, 5, 6, 7, 8, 9, 10] rfl rfl hs) ?_)
 refine t_fin rfl <| KK hK21 <| w_ret ?_
 refine hQ _ _ _ (l_nil (vs := [(Value.slice a30 ((meetsV d nd l).length) c31), (Value.int .i64 0)]) ⟨rfl, rfl, trivial⟩ fun w hs => endX (a30, c31) [0] ?_ ?_ rfl rfl rfl hs)
 · first | (rw [hmi.1] <;> rfl) | (rw [meetsV_no hme, hme2] <;> rfl)
 · trivial
set_option maxRecDepth 100000 in
set_option maxHeartbeats 400000 in
theorem Weak_c (d : GuardM) (kA : Option Addr) (kC : Nat) (pA : Option Addr) (pC : Nat) (nA : Option Addr) (nC : Nat) (hin : GuardIn d) :
    FnX Try.prog 29 [(Value.agg (GuardV.cells (GuardV.mk (TrackV.mk (Slc.mk kA d.Track.length kC)) (Slc.mk pA d.Posts.length pC) (Slc.mk nA d.Needs.length nC) d.Tower d.Radio)).toArray)] [(rd kA d.Track.length 9 (d.Track.map StretchV.cells)), (rd pA d.Posts.length 7 (d.Posts.map PostV.cells)), (rd nA d.Needs.length 3 (d.Needs.map NeedV.cells))] (fun (x : (Option Addr) × Nat) => (Value.tuple [(Value.slice x.1 ((weakV d).length) x.2), (Value.int .i64 (weakE d))].toArray)) (fun (x : (Option Addr) × Nat) => True) (fun (x : (Option Addr) × Nat) => [(own x.1 x.2 3 1 ((weakV d).map iC))]) := by
 have hlen := hin.trk
 have hside := hin.side
 have hpl := hin.pst
 have hnl := hin.nds
 have hnk := hin.nk
 have hpk := hin.pk
 refine fnX_of go29 Try.func29 rfl rfl fun w0 Q hQ hN => ?_
 try dsimp only
 refine WS fun _ hK1 => BXA rfl fun b2 => rS (AG rfl) <| rS (AG rfl) <| RK hK1 <| WS fun _ hK3 => rS (LW 0 rfl tk32 rfl rfl) <| cX (popen_c d kA kC pA pC nA nC hin) (ha_at 1 rfl rfl <| ha_at 2 rfl rfl <| ha_at 3 rfl rfl <| ha_nil) rfl fun y4 hy5 => ?_
 obtain ⟨ok11, ec6, gw7, tA8, tC9, tz10⟩ := y4
 cases ok11
 · obtain ⟨hec, he⟩ := hy5.2 rfl
   try dsimp only at hec he
   subst hec
   try dsimp only [cond_true, cond_false, List.cons_append, List.nil_append]
   refine rS (MV rfl) <| rS (EX rfl) <| rS (EX rfl) <| rS (AG rfl) <| rS (AG rfl) <| RK hK3 <| w_seq fun _ hK12 => WS fun _ hK13 => rS (MV rfl) <| rS (BI rfl b_neq) ?_
   refine RK hK13 ?_
   refine w_if rfl (fun hg12 => ?_) (fun hg12 => ?_)
   rotate_left 1
   · replace hg12 := XF hg12
     exact absurd hg12 he
   replace hg12 := XT hg12
   refine WS fun _ hK14 => rS (MV rfl) ?_
   obtain ⟨hwe, hwv⟩ := weak_bad he
   refine r_own_nil 3 1 ?_
   rw [show (own none 0 3 1 ([] : List (List Value))) = own none 0 3 1 ((weakV d).map iC) from by rw [hwv]; rfl]
   refine rS (AG rfl) <| rS (AG rfl) <| RK hK14 <| w_ret ?_
   refine hQ _ _ _ (l_nil (vs := [(Value.slice none 0 0), (Value.int .i64 (guardE d))]) ⟨rfl, rfl, trivial⟩ fun w hs => endX (none, 0) [0] ?_ ?_ rfl rfl rfl hs)
   · first | (rw [hwv, hwe] <;> rfl) | (rw [(weak_in he (by rw [← hlf]; exact List.eq_nil_of_length_eq_zero (by omega))).1] <;> rfl)
   · trivial
 obtain ⟨he, htz⟩ := hy5.1 rfl
 try dsimp only [cond_true, cond_false, List.cons_append, List.nil_append]
 obtain ⟨htr, hok⟩ := guardE_zero he
 have hn8 := hok.len
 have hsb := setAll_b (l := []) hn8.1
 have hbit : ∀ k, k < d.Posts.length → ((bitS (setAll d.Posts.length [])) k ↔ allS k) := fun k hk => by rw [setAll_bit hn8.1 (l := []) (by simp) hk]; simp [allS]
 have hlf : lacksL d (bitS (setAll d.Posts.length [])) = lacksL d allS := lacks_congr hbit
 refine rS (MV rfl) <| rS (EX rfl) <| rS (EX rfl) <| rS (AG rfl) <| rS (AG rfl) <| RK hK3 <| w_seq fun _ hK15 => WS fun _ hK16 => rS (MV rfl) <| rS (SX (sd_bin (r := .bool false) rfl rfl rfl b_neq) rfl rfl) ?_
 refine RK hK16 <| w_if_false rfl <| WK hK15 <| w_seq fun _ hK17 => WS fun _ hK18 => rS (MV rfl) <| rS (MV rfl) <| rS (CL (all_c d kA kC pA pC nA nC tA8 ((timesL d).length) tC9 gw7 ([]) none 0 (by first | assumption | omega | (simp; done) | (simp; omega)) (by first | assumption | omega | (simp; done) | (simp; omega)) (by first | assumption | omega | (simp; done) | (simp; omega))) (ha_at 4 rfl rfl <| ha_at 5 rfl rfl <| ha_at 6 rfl rfl <| ha_at 0 rfl rfl <| ha_cons (rd_nil _ _) <| ha_nil) rfl) <| cX (wlacks_c d kA kC pA pC nA nC tz10 tA8 tC9 gw7 (setAll d.Posts.length ([])) hin (by first | assumption | omega | (simp; done) | (simp; omega)) (by first | assumption | omega | (simp; done) | (simp; omega)) (by first | assumption | omega | (simp; done) | (simp; omega)) (by first | assumption | omega | (simp; done) | (simp; omega))) (ha_at 4 rfl rfl <| ha_at 5 rfl rfl <| ha_at 6 rfl rfl <| ha_cons (has_own_n (n := (timesL d).length) 1 rfl (rows_len (by rw [timesL_len]; exact htz))) <| ha_cons (bun_bund 2 rfl rowO_R) <| ha_at 0 rfl rfl <| ha_nil) rfl fun y19 hy20 => ?_
 obtain ⟨a21, c22⟩ := y19
 try dsimp only
 refine rS (LN rfl ut33) <| rS (BI rfl b_gtr) <| RK hK18 ?_
 refine w_if rfl (fun hg19 => ?_) (fun hg19 => ?_)
 · replace hg19 := DT hg19
   refine WS fun _ hK23 => ?_
   obtain ⟨hwe, hwv⟩ := weak_none he (fun q => by rw [hlf, q] at hg19; simp at hg19)
   refine r_own_nil 3 1 ?_
   rw [show (own none 0 3 1 ([] : List (List Value))) = own none 0 3 1 ((weakV d).map iC) from by rw [hwv]; rfl]
   refine rS (AG rfl) <| rS (AG rfl) <| RK hK23 <| w_ret ?_
   refine hQ _ _ _ (l_nil (vs := [(Value.slice none 0 0), (Value.int .i64 6)]) ⟨rfl, rfl, trivial⟩ fun w hs => endX (none, 0) [0] ?_ ?_ rfl rfl rfl hs)
   · first | (rw [hwv, hwe] <;> rfl) | (rw [(weak_in he (by rw [← hlf]; exact List.eq_nil_of_length_eq_zero (by omega))).1] <;> rfl)
   · trivial
 replace hg19 := DF hg19
 refine WK hK17 <| WS fun _ hK24 => rS (MV rfl) <| rS (MV rfl) <| rS (CL (all_c d kA kC pA pC nA nC tA8 ((timesL d).length) tC9 gw7 ([]) none 0 (by first | assumption | omega | (simp; done) | (simp; omega)) (by first | assumption | omega | (simp; done) | (simp; omega)) (by first | assumption | omega | (simp; done) | (simp; omega))) (ha_at 5 rfl rfl <| ha_at 6 rfl rfl <| ha_at 7 rfl rfl <| ha_at 1 rfl rfl <| ha_cons (rd_nil _ _) <| ha_nil) rfl) <| cX (wweak_c d kA kC pA pC nA nC tz10 tA8 tC9 gw7 (setAll d.Posts.length ([])) hin (by first | assumption | omega | (simp; done) | (simp; omega)) (by first | assumption | omega | (simp; done) | (simp; omega)) (by first | assumption | omega | (simp; done) | (simp; omega)) (by first | assumption | omega | (simp; done) | (simp; omega))) (ha_at 5 rfl rfl <| ha_at 6 rfl rfl <| ha_at 7 rfl rfl <| ha_cons (has_own_n (n := (timesL d).length) 2 rfl (rows_len (by rw [timesL_len]; exact htz))) <| ha_cons (bun_bund 3 rfl rowO_R) <| ha_at 1 rfl rfl <| ha_nil) rfl fun y25 hy26 => ?_
 obtain ⟨a27, c28⟩ := y25
 try dsimp only
 refine rS (AG rfl) ?_
 rw [show weakL d (bitS (setAll d.Posts.length [])) = weakV d from by rw [(weak_in he (by rw [← hlf]; exact List.eq_nil_of_length_eq_zero (by omega))).2]; exact weak_congr hbit]
 refine rS (AG rfl) <| RK hK24 <| w_ret ?_
 refine hQ _ _ _ (l_nil (vs := [(Value.slice a27 ((weakV d).length) c28), (Value.int .i64 0)]) ⟨rfl, rfl, trivial⟩ fun w hs => endX (a27, c28) [0] ?_ ?_ rfl rfl rfl hs)
 · first | (rw [hwv, hwe] <;> rfl) | (rw [(weak_in he (by rw [← hlf]; exact List.eq_nil_of_length_eq_zero (by omega))).1] <;> rfl)
 · trivial
set_option maxRecDepth 100000 in
set_option maxHeartbeats 400000 in
theorem Spare_c (d : GuardM) (kA : Option Addr) (kC : Nat) (pA : Option Addr) (pC : Nat) (nA : Option Addr) (nC : Nat) (hin : GuardIn d) :
    FnX Try.prog 37 [(Value.agg (GuardV.cells (GuardV.mk (TrackV.mk (Slc.mk kA d.Track.length kC)) (Slc.mk pA d.Posts.length pC) (Slc.mk nA d.Needs.length nC) d.Tower d.Radio)).toArray)] [(rd kA d.Track.length 9 (d.Track.map StretchV.cells)), (rd pA d.Posts.length 7 (d.Posts.map PostV.cells)), (rd nA d.Needs.length 3 (d.Needs.map NeedV.cells))] (fun (x : (Option Addr) × Nat) => (Value.tuple [(Value.slice x.1 ((spareV d).length) x.2), (Value.int .i64 (guardE d))].toArray)) (fun (x : (Option Addr) × Nat) => True) (fun (x : (Option Addr) × Nat) => [(own x.1 x.2 3 1 ((spareV d).map iC))]) := by
 have hlen := hin.trk
 have hside := hin.side
 have hpl := hin.pst
 have hnl := hin.nds
 have hnk := hin.nk
 have hpk := hin.pk
 refine fnX_of go37 Try.func37 rfl rfl fun w0 Q hQ hN => ?_
 try dsimp only
 refine WS fun _ hK1 => BXA rfl fun b2 => rS (AG rfl) <| rS (AG rfl) <| RK hK1 <| WS fun _ hK3 => rS (LW 0 rfl tk32 rfl rfl) <| cX (popen_c d kA kC pA pC nA nC hin) (ha_at 1 rfl rfl <| ha_at 2 rfl rfl <| ha_at 3 rfl rfl <| ha_nil) rfl fun y4 hy5 => ?_
 obtain ⟨ok11, ec6, gw7, tA8, tC9, tz10⟩ := y4
 cases ok11
 · obtain ⟨hec, he⟩ := hy5.2 rfl
   try dsimp only at hec he
   subst hec
   try dsimp only [cond_true, cond_false, List.cons_append, List.nil_append]
   refine rS (MV rfl) <| rS (EX rfl) <| rS (EX rfl) <| rS (AG rfl) <| rS (AG rfl) <| RK hK3 <| w_seq fun _ hK12 => WS fun _ hK13 => rS (MV rfl) <| rS (BI rfl b_neq) ?_
   refine RK hK13 ?_
   refine w_if rfl (fun hg14 => ?_) (fun hg14 => ?_)
   rotate_left 1
   · replace hg14 := XF hg14
     exact absurd hg14 he
   replace hg14 := XT hg14
   refine WS fun _ hK14 => rS (MV rfl) <| r_own_nil 3 1 ?_
   rw [show (own none 0 3 1 ([] : List (List Value))) = own none 0 3 1 ((spareV d).map iC) from by rw [spareV_no he]; rfl]
   refine rS (AG rfl) <| rS (AG rfl) <| RK hK14 <| w_ret ?_
   refine hQ _ _ _ (l_nil (vs := [(Value.slice none 0 0), (Value.int .i64 (guardE d))]) ⟨rfl, rfl, trivial⟩ fun w hs => endX (none, 0) [0] ?_ ?_ rfl rfl rfl hs)
   · first | (rw [spareV_no he] <;> rfl) | (rw [he] <;> rfl)
   · trivial
 obtain ⟨he, htz⟩ := hy5.1 rfl
 try dsimp only [cond_true, cond_false, List.cons_append, List.nil_append]
 obtain ⟨htr, hok⟩ := guardE_zero he
 have hn8 := hok.len
 refine rS (MV rfl) <| rS (EX rfl) <| rS (EX rfl) <| rS (AG rfl) <| rS (AG rfl) <| RK hK3 <| w_seq fun _ hK15 => WS fun _ hK16 => rS (MV rfl) <| rS (SX (sd_bin (r := .bool false) rfl rfl rfl b_neq) rfl rfl) ?_
 refine RK hK16 <| w_if_false rfl <| WK hK15 <| WS fun _ hK17 => rS (AG rfl) <| RK hK17 <| w_seq fun _ hK18 => WS fun _ hK19 => rS (FA 1 rfl fo32_1 rfl) <| rS (L1 (Value.slice pA d.Posts.length pC) 3 rfl tk25 rfl rfl) ?_
 refine rS (LN rfl ut25) <| rS (MV rfl) <| RK hK19 <| w_block <| w_own_nil 3 1 ?_
 have hinit : (0 ≤ d.Posts.length) := by exact Nat.zero_le _
 refine w_loop (ι := { z : Nat × (Option Addr) × Nat // (z.1 ≤ d.Posts.length) }) (fun z => [(1, (Value.pointer (some ⟨b2, 0, none⟩))), (2, (Value.slice none 0 0)), (3, (Value.int .i64 0)), (4, (Value.pointer (some ⟨gw7, 0, none⟩))), (6, (Value.slice z.1.2.1 ((idxL z.1.1 (fun i => StrongP d (less1 allS i))).length) z.1.2.2)), (17, (Value.slice pA d.Posts.length pC)), (18, (Value.int .i64 ((d.Posts.length : Nat) : Int))), (19, (Value.int .i64 ((z.1.1 : Nat) : Int)))]) (fun z => [(own z.1.2.1 z.1.2.2 3 1 ((idxL z.1.1 (fun i => StrongP d (less1 allS i))).map iC)), (blk gw7 89 (WatchV.cells (WatchV.mk (GuardV.mk (TrackV.mk (Slc.mk kA d.Track.length kC)) (Slc.mk pA d.Posts.length pC) (Slc.mk nA d.Needs.length nC) d.Tower d.Radio) (Slc.mk tA8 ((timesL d).length) tC9)))), (own tA8 tC9 33 1 (List.zipWith rowC (timesL d) tz10)), (bund (nest rowO (timesL d) tz10)), (blk b2 32 (GuardV.cells (GuardV.mk (TrackV.mk (Slc.mk kA d.Track.length kC)) (Slc.mk pA d.Posts.length pC) (Slc.mk nA d.Needs.length nC) d.Tower d.Radio))), (rd kA d.Track.length 9 (d.Track.map StretchV.cells)).ro, (rd pA d.Posts.length 7 (d.Posts.map PostV.cells)).ro, (rd nA d.Needs.length 3 (d.Needs.map NeedV.cells)).ro]) (fun z => d.Posts.length - z.1.1) ⟨(0, none, 0), hinit⟩ (Sub.cons rfl <| Sub.cons rfl <| Sub.cons rfl <| Sub.cons rfl <| Sub.cons rfl <| Sub.cons rfl <| Sub.cons rfl <| Sub.cons rfl <| Sub.nil _) (fun w hs => St.sel [0, 1, 2, 3, 4, 5, 6, 7] rfl rfl hs) ?_
 clear hinit
 rintro ⟨⟨j, la, lc⟩, hl6_0⟩ J20 hJ20
 try dsimp only at hl6_0
 try dsimp only
 refine WS fun _ hK21 => rS (BI rfl b_lss) <| RK hK21 <| w_seq fun _ hK22 => ?_
 refine w_if rfl (fun h23 => ?_) (fun h23 => ?_)
 rotate_left 1
 · replace h23 := DF h23
   refine w_exit <| k_exit_then <| k_exit_then <| k_exit_same <| KK hK18 <| WS fun _ hK33 => ?_
   rw [show idxL j (fun i => StrongP d (less1 allS i)) = spareV d from by rw [spareV_ok he, show j = d.Posts.length by omega]]
   refine rS (MV rfl) <| rS (AG rfl) <| rS (AG rfl) <| RK hK33 <| w_ret ?_
   refine hQ _ _ _ (l_nil (vs := [(Value.slice la ((spareV d).length) lc), (Value.int .i64 0)]) ⟨rfl, rfl, trivial⟩ fun w hs => endX (la, lc) [0] ?_ ?_ rfl rfl rfl hs)
   · first | (rw [spareV_no he] <;> rfl) | (rw [he] <;> rfl)
   · trivial
 replace h23 := DT h23
 refine WK hK22 <| w_seq fun _ hK24 => w_block <| WS fun _ hK25 => rS (MV rfl) <| rS (AG rfl) <| RK hK25 <| WS fun _ hK26 => rS (MV rfl) <| rS (MV rfl) ?_
 refine rS (MV rfl) <| r_bs (xs := [.tmp 24]) (cs := [(Value.int .i64 ((j : Nat) : Int))]) rfl te33 tz3 rfl rfl rfl rfl (by simp [Value.cells]) rfl rfl fun b27 => rS (CL (all_c d kA kC pA pC nA nC tA8 ((timesL d).length) tC9 gw7 ([((j : Nat) : Int)]) (some ⟨b27, 0, none⟩) 1 (by omega) (by intro x hx; simp only [List.mem_singleton] at hx; omega) (by simp)) (ha_at 6 rfl rfl <| ha_at 7 rfl rfl <| ha_at 8 rfl rfl <| ha_at 2 rfl rfl <| ha_cons (has_rd_blk 0 rfl rfl (by simp [iC_length]) rfl) <| ha_nil) rfl) <| rS (CL (wstrong_c d kA kC pA pC nA nC tz10 tA8 tC9 gw7 (setAll d.Posts.length ([((j : Nat) : Int)])) hin (by first | assumption | omega | (simp; done) | (simp; omega)) (by first | assumption | omega | (simp; done) | (simp; omega)) (by first | assumption | omega | (simp; done) | (simp; omega)) (by exact setAll_b hn8.1)) (ha_at 6 rfl rfl <| ha_at 7 rfl rfl <| ha_at 8 rfl rfl <| ha_cons (has_own_n (n := (timesL d).length) 3 rfl (rows_len (by rw [timesL_len]; exact htz))) <| ha_cons (bun_bund 4 rfl rowO_R) <| ha_at 2 rfl rfl <| ha_nil) rfl) <| RK hK26 ?_
 refine w_if rfl (fun hg27 => ?_) (fun hg27 => ?_)
 rotate_left 1
 · replace hg27 := DF hg27
   refine w_skip <| k_block <| KK hK24 <| w_region <| rS (BI rfl (b_add ⟨by omega, by omega⟩)) <| rS (MV rfl) <| r_nil ?_
   rw [show (idxL j (fun i => StrongP d (less1 allS i))) = (idxL (j + 1) (fun i => StrongP d (less1 allS i))) from (idxL_no (show ¬ StrongP d (less1 allS j) from fun q => hg27 ((spare_iff hn8.1 (by omega)).2 q))).symm]
   have hb32 : (Value.int .i64 (((j + 1) : Nat) : Int)) = (Value.int .i64 (((j : Nat) : Int) + 1)) := by exact congrArg (Value.int .i64) (by omega)
   refine k_then (hJ20 ⟨((j + 1), la, lc), (by first | omega | (simp only []; omega))⟩ _ _ _ rfl (by first | omega | (simp; omega)) (Sub.cons rfl <| Sub.cons rfl <| Sub.cons rfl <| Sub.cons rfl <| Sub.cons rfl <| Sub.cons rfl <| Sub.cons rfl <| sub_val rfl hb32 <| Sub.nil _) (fun w hs => St.sel [1, 2, 3, 4, 5, 6, 7, 8] rfl rfl hs))
 replace hg27 := DT hg27
 refine w_region <| rS (MV rfl) <| rS (MV rfl) <| r_bs (xs := [.tmp 29]) (cs := [(Value.int .i64 ((j : Nat) : Int))]) rfl te33 tz3 rfl rfl rfl rfl (by simp [Value.cells]) rfl rfl fun b28 => r_append (es2 := (List.map iC (idxL (j + 1) (fun i => StrongP d (less1 allS i))))) (m' := (idxL (j + 1) (fun i => StrongP d (less1 allS i))).length) 2 rfl rfl rfl ta33 rfl rfl (by simp) (has_rd_blk (es := List.map iC [((j : Nat) : Int)]) 0 rfl rfl (by simp [iC_length]) rfl) (one_iC _) (by have := idxL_len (n := j) (p := fun i => StrongP d (less1 allS i)); omega) (by have := idxL_len (n := j) (p := fun i => StrongP d (less1 allS i)); simp only [maxLen]; omega) (by rw [idxL_yes (p := fun i => StrongP d (less1 allS i)) (show StrongP d (less1 allS j) from (spare_iff hn8.1 (by omega)).1 hg27)]; simp) (by simp) rfl fun a29 c30 => ?_
 try dsimp only
 refine rS (AG rfl) <| r_nil <| k_block <| KK hK24 <| w_region <| rS (BI rfl (b_add ⟨by omega, by omega⟩)) <| rS (MV rfl) <| r_nil ?_
 have hb31 : (Value.int .i64 (((j + 1) : Nat) : Int)) = (Value.int .i64 (((j : Nat) : Int) + 1)) := by exact congrArg (Value.int .i64) (by omega)
 refine k_then (hJ20 ⟨((j + 1), a29, c30), (by first | omega | (simp only []; omega))⟩ _ _ _ rfl (by first | omega | (simp; omega)) (Sub.cons rfl <| Sub.cons rfl <| Sub.cons rfl <| Sub.cons rfl <| Sub.cons rfl <| Sub.cons rfl <| Sub.cons rfl <| sub_val rfl hb31 <| Sub.nil _) (fun w hs => St.sel [2, 3, 4, 5, 6, 7, 8, 9] rfl rfl hs))
end
section
open Go.RowKit
set_option linter.unusedVariables false
set_option maxRecDepth 100000 in
set_option maxHeartbeats 400000 in
theorem ccmp_c (x : Int) (y : Int) :
    FnV Try.prog 117 [(Value.int .i64 x), (Value.int .i64 y)] [] (Value.int .i64 (cmpF x y)) := by
 refine fnV_of go117 Try.func117 rfl rfl fun w0 Q hQ hN => ?_
 try dsimp only
 refine WS fun _ hK1 => rS (AG rfl) <| RK hK1 <| WS fun _ hK2 => rS (MV rfl) <| rS (CL (isnan_c x) (ha_nil) rfl) <| rS (AG rfl) <| RK hK2 <| WS fun _ hK3 => rS (MV rfl) ?_
 refine rS (CL (isnan_c y) (ha_nil) rfl) <| rS (AG rfl) <| RK hK3 <| w_seq fun _ hK4 => WS fun _ hK5 => rS (MV rfl) <| RK hK5 <| w_if_false rfl <| WK hK4 <| w_seq fun _ hK6 => ?_
 refine WS fun _ hK7 => rS (MV rfl) <| RK hK7 <| w_if_false rfl <| WK hK6 <| w_seq fun _ hK8 => WS fun _ hK9 => rS (MV rfl) <| rS (MV rfl) <| rS (BI rfl b_lss) ?_
 refine RK hK9 ?_
 refine w_if rfl (fun hg16 => ?_) (fun hg16 => ?_)
 · replace hg16 := DT hg16
   refine WS fun _ hK10 => rS (AG rfl) <| RK hK10 <| w_ret <| Q1 hQ rfl rfl rfl ?_
   first | exact congrArg (Value.int .i64) (cmp_lt hg16).symm | exact congrArg (Value.int .i64) (cmp_gt hg19).symm | exact congrArg (Value.int .i64) (cmp_eq hg16 hg19).symm
 replace hg16 := DF hg16
 refine WK hK8 <| w_seq fun _ hK11 => WS fun _ hK12 => rS (MV rfl) <| rS (MV rfl) <| rS (BI rfl b_gtr) <| RK hK12 ?_
 refine w_if rfl (fun hg19 => ?_) (fun hg19 => ?_)
 · replace hg19 := DT hg19
   refine WS fun _ hK13 => rS (AG rfl) <| RK hK13 <| w_ret <| Q1 hQ rfl rfl rfl ?_
   first | exact congrArg (Value.int .i64) (cmp_lt hg16).symm | exact congrArg (Value.int .i64) (cmp_gt hg19).symm | exact congrArg (Value.int .i64) (cmp_eq hg16 hg19).symm
 replace hg19 := DF hg19
 refine WK hK11 <| WS fun _ hK14 => rS (AG rfl) <| RK hK14 <| w_ret <| Q1 hQ rfl rfl rfl ?_
 first | exact congrArg (Value.int .i64) (cmp_lt hg16).symm | exact congrArg (Value.int .i64) (cmp_gt hg19).symm | exact congrArg (Value.int .i64) (cmp_eq hg16 hg19).symm
set_option maxRecDepth 100000 in
set_option maxHeartbeats 400000 in
theorem scompare_c (a : List Int) (aA : Option Addr) (aC : Nat) (b : List Int) (bA : Option Addr) (bC : Nat) (ha : a.length ≤ 1000000) (hb : b.length ≤ 1000000) :
    FnV Try.prog 106 [(Value.slice aA a.length aC), (Value.slice bA b.length bC)] [(rd aA a.length 1 (a.map iC)), (rd bA b.length 1 (b.map iC))] (Value.int .i64 (cmpL a b)) := by
 refine fnV_of go106 Try.func106 rfl rfl fun w0 Q hQ hN => ?_
 try dsimp only
 refine WS fun _ hK1 => rS (AG rfl) <| RK hK1 <| w_seq fun _ hK2 => WS fun _ hK3 => rS (MV rfl) <| rS (LN rfl ut33) <| rS (MV rfl) <| RK hK3 <| w_block ?_
 have hinit : (0 ≤ a.length) ∧ (0 ≤ b.length) ∧ (cmpL a b = cmpL (a.drop 0) (b.drop 0)) := by exact ⟨Nat.zero_le _, Nat.zero_le _, rfl⟩
 refine w_loop (ι := { z : Nat // (z ≤ a.length) ∧ (z ≤ b.length) ∧ (cmpL a b = cmpL (a.drop z) (b.drop z)) }) (fun z => [(0, (Value.slice aA a.length aC)), (1, (Value.slice bA b.length bC)), (9, (Value.slice aA a.length aC)), (10, (Value.int .i64 ((a.length : Nat) : Int))), (11, (Value.int .i64 ((z.1 : Nat) : Int)))]) (fun z => [(rd aA a.length 1 (a.map iC)).ro, (rd bA b.length 1 (b.map iC)).ro]) (fun z => a.length - z.1) ⟨0, hinit⟩ (Sub.cons rfl <| Sub.cons rfl <| Sub.cons rfl <| Sub.cons rfl <| Sub.cons rfl <| Sub.nil _) (fun w hs => St.sel [0, 1] rfl rfl hs) ?_
 clear hinit
 rintro ⟨i, ⟨hl2_0, hl2_1, hl2_2⟩⟩ J4 hJ4
 try dsimp only
 refine WS fun _ hK5 => rS (BI rfl b_lss) <| RK hK5 <| w_seq fun _ hK6 => ?_
 refine w_if rfl (fun h7 => ?_) (fun h7 => ?_)
 rotate_left 1
 · replace h7 := DF h7
   refine w_exit <| k_exit_then <| k_exit_then <| k_exit_same <| KK hK2 <| w_seq fun _ hK18 => WS fun _ hK19 => rS (MV rfl) <| rS (LN rfl ut33) <| rS (MV rfl) ?_
   refine rS (LN rfl ut33) <| rS (BI rfl b_lss) <| RK hK19 ?_
   refine w_if rfl (fun hg35 => ?_) (fun hg35 => ?_)
   · replace hg35 := DT hg35
     refine WS fun _ hK20 => rS (AG rfl) <| RK hK20 <| w_ret <| Q1 hQ rfl rfl rfl ?_
     first | exact congrArg (Value.int .i64) (by rw [hl2_2]; exact (cmp_out (by omega) (by omega)).symm) | exact congrArg (Value.int .i64) (by rw [hl2_2]; exact (cmp_at hx hy (by omega)).symm) | exact congrArg (Value.int .i64) (by rw [hl2_2]; exact (cmp_short (by omega) (by omega)).symm) | exact congrArg (Value.int .i64) (by rw [hl2_2]; exact (cmp_same (by omega) (by omega)).symm)
   replace hg35 := DF hg35
   refine WK hK18 <| WS fun _ hK21 => rS (AG rfl) <| RK hK21 <| w_ret <| Q1 hQ rfl rfl rfl ?_
   first | exact congrArg (Value.int .i64) (by rw [hl2_2]; exact (cmp_out (by omega) (by omega)).symm) | exact congrArg (Value.int .i64) (by rw [hl2_2]; exact (cmp_at hx hy (by omega)).symm) | exact congrArg (Value.int .i64) (by rw [hl2_2]; exact (cmp_short (by omega) (by omega)).symm) | exact congrArg (Value.int .i64) (by rw [hl2_2]; exact (cmp_same (by omega) (by omega)).symm)
 replace h7 := DT h7
 refine WK hK6 <| w_seq fun _ hK8 => w_block <| WS fun _ hK9 => rS (MV rfl) ?_
 obtain ⟨x, hx⟩ : ∃ y_, a[i]? = some y_ := ⟨a[i]'(by omega), List.getElem?_eq_getElem _⟩
 have hxm : (a.map iC)[i]? = some (iC x) := by rw [List.getElem?_map, hx]; rfl
 refine rS (IA i rfl (has_at 0 rfl) te33 (by decide) (by omega) (by omega)) <| rS (LE1 i 0 (Value.int .i64 x) rfl tk3 (has_at 0 rfl) hxm rfl (by decide) rfl) <| rS (AG rfl) <| rS (AG rfl) <| RK hK9 <| w_seq fun _ hK10 => WS fun _ hK11 => rS (MV rfl) <| rS (MV rfl) <| rS (LN rfl ut33) ?_
 refine rS (BI rfl b_geq) <| RK hK11 ?_
 refine w_if rfl (fun hg19 => ?_) (fun hg19 => ?_)
 · replace hg19 := DT hg19
   refine WS fun _ hK12 => rS (AG rfl) <| RK hK12 <| w_ret <| Q1 hQ rfl rfl rfl ?_
   first | exact congrArg (Value.int .i64) (by rw [hl2_2]; exact (cmp_out (by omega) (by omega)).symm) | exact congrArg (Value.int .i64) (by rw [hl2_2]; exact (cmp_at hx hy (by omega)).symm) | exact congrArg (Value.int .i64) (by rw [hl2_2]; exact (cmp_short (by omega) (by omega)).symm) | exact congrArg (Value.int .i64) (by rw [hl2_2]; exact (cmp_same (by omega) (by omega)).symm)
 replace hg19 := DF hg19
 refine WK hK10 <| WS fun _ hK13 => rS (MV rfl) <| rS (MV rfl) ?_
 obtain ⟨y, hy⟩ : ∃ y_, b[i]? = some y_ := ⟨b[i]'(by omega), List.getElem?_eq_getElem _⟩
 have hym : (b.map iC)[i]? = some (iC y) := by rw [List.getElem?_map, hy]; rfl
 refine rS (IA i rfl (has_at 1 rfl) te33 (by decide) (by omega) (by omega)) <| rS (LE1 i 0 (Value.int .i64 y) rfl tk3 (has_at 1 rfl) hym rfl (by decide) rfl) <| rS (AG rfl) <| RK hK13 <| WS fun _ hK14 => rS (MV rfl) <| rS (MV rfl) <| rS (CL (ccmp_c x y) (ha_nil) rfl) <| rS (AG rfl) <| RK hK14 ?_
 refine WS fun _ hK15 => rS (MV rfl) <| rS (BI rfl b_neq) <| RK hK15 ?_
 refine w_if rfl (fun hg28 => ?_) (fun hg28 => ?_)
 · replace hg28 := XT hg28
   refine WS fun _ hK16 => rS (MV rfl) <| rS (AG rfl) <| RK hK16 <| w_ret <| Q1 hQ rfl rfl rfl ?_
   first | exact congrArg (Value.int .i64) (by rw [hl2_2]; exact (cmp_out (by omega) (by omega)).symm) | exact congrArg (Value.int .i64) (by rw [hl2_2]; exact (cmp_at hx hy (by omega)).symm) | exact congrArg (Value.int .i64) (by rw [hl2_2]; exact (cmp_short (by omega) (by omega)).symm) | exact congrArg (Value.int .i64) (by rw [hl2_2]; exact (cmp_same (by omega) (by omega)).symm)
 replace hg28 := XF hg28
 refine w_skip <| k_block <| KK hK8 <| w_region <| rS (BI rfl (b_add ⟨by omega, by omega⟩)) <| rS (MV rfl) <| r_nil ?_
 have hb17 : (Value.int .i64 (((i + 1) : Nat) : Int)) = (Value.int .i64 (((i : Nat) : Int) + 1)) := by exact congrArg (Value.int .i64) (by omega)
 refine k_then (hJ4 ⟨(i + 1), ⟨by omega, by omega, hl2_2.trans (cmp_step hx hy (by omega))⟩⟩ _ _ _ rfl (by first | omega | (simp; omega)) (Sub.cons rfl <| Sub.cons rfl <| Sub.cons rfl <| Sub.cons rfl <| sub_val rfl hb17 <| Sub.nil _) (fun w hs => St.sel [0, 1] rfl rfl hs))
set_option maxRecDepth 100000 in
set_option maxHeartbeats 2000000 in
theorem best_c (l : List PostV) (lA : Option Addr) (lC : Nat) (f : Value) (p : Int → Bool) (X : Assn) (hf : ∀ x0, (∃ z : Nat, x0 = (z : Int) ∧ z < 2 ^ l.length) → Clo Try.prog f [.int .i64 x0] [X] (.bool (p x0))) (hlen : l.length ≤ 8) :
    FnX Try.prog 84 [(Value.slice lA l.length lC), f] [(rd lA l.length 7 (l.map PostV.cells)), X] (fun (x : (List Int) × (Option Addr) × Nat × Bool) => (Value.tuple [(Value.slice x.2.1 x.1.length x.2.2.1), (Value.bool x.2.2.2)].toArray)) (fun (x : (List Int) × (Option Addr) × Nat × Bool) => bestTo l.length (fun z => p ((z : Nat) : Int)) (2 ^ l.length) = cond x.2.2.2 (some x.1) none) (fun (x : (List Int) × (Option Addr) × Nat × Bool) => [(own x.2.1 x.2.2.1 3 1 (x.1.map iC))]) := by
 have hp2 := pow_256 hlen
 refine fnX_of go84 Try.func84 rfl rfl fun w0 Q hQ hN => ?_
 try dsimp only
 refine WS fun _ hK1 => rS (AG rfl) <| rS (AG rfl) <| RK hK1 <| w_seq fun _ hK2 => WS fun _ hK3 => rS (MV rfl) <| rS (LN rfl ut25) <| rS (BI rfl (b_shl1 (i := l.length) (by omega) (by omega))) <| rS (MV rfl) ?_
 refine RK hK3 <| w_block <| w_own_nil 3 1 ?_
 have hinit : (0 ≤ 2 ^ l.length) ∧ (bestTo l.length (fun z => p ((z : Nat) : Int)) 0 = cond false (some ([] : List Int)) none) ∧ (([] : List Int).length ≤ 8) := by exact ⟨Nat.zero_le _, rfl, Nat.zero_le _⟩
 refine w_loop (ι := { z : Nat × (List Int) × (Option Addr) × Nat × Bool // (z.1 ≤ 2 ^ l.length) ∧ (bestTo l.length (fun z => p ((z : Nat) : Int)) z.1 = cond z.2.2.2.2 (some z.2.1) none) ∧ (z.2.1.length ≤ 8) }) (fun z => [(0, (Value.slice lA l.length lC)), (1, f), (4, (Value.slice z.1.2.2.1 z.1.2.1.length z.1.2.2.2.1)), (5, (Value.bool z.1.2.2.2.2)), (11, (Value.int .i64 ((2 ^ l.length : Nat) : Int))), (12, (Value.int .i64 ((z.1.1 : Nat) : Int)))]) (fun z => [(own z.1.2.2.1 z.1.2.2.2.1 3 1 (z.1.2.1.map iC)), (rd lA l.length 7 (l.map PostV.cells)).ro, X.ro]) (fun z => 2 ^ l.length - z.1.1) ⟨(0, ([] : List Int), none, 0, false), hinit⟩ (Sub.cons rfl <| Sub.cons rfl <| Sub.cons rfl <| Sub.cons rfl <| Sub.cons rfl <| Sub.cons rfl <| Sub.nil _) (fun w hs => St.sel [0, 1, 2] rfl rfl hs) ?_
 clear hinit
 rintro ⟨⟨zz, fl, fa, fc, bo⟩, ⟨hl2_0, hl2_1, hl2_2⟩⟩ J4 hJ4
 try dsimp only at hl2_0 hl2_1 hl2_2
 try dsimp only
 refine WS fun _ hK5 => rS (BI rfl b_lss) <| RK hK5 <| w_seq fun _ hK6 => ?_
 refine w_if rfl (fun h7 => ?_) (fun h7 => ?_)
 rotate_left 1
 · replace h7 := DF h7
   refine w_exit <| k_exit_then <| k_exit_then <| k_exit_same <| KK hK2 <| WS fun _ hK38 => rS (MV rfl) <| rS (MV rfl) <| rS (AG rfl) <| rS (AG rfl) ?_
   refine RK hK38 <| w_ret ?_
   refine hQ _ _ _ (l_nil (vs := [(Value.slice fa fl.length fc), (Value.bool bo)]) ⟨rfl, rfl, trivial⟩ fun w hs => endX (fl, fa, fc, bo) [0] ?_ ?_ rfl rfl rfl hs)
   · rfl
   · (rw [show 2 ^ l.length = zz by omega]; exact hl2_1)
 replace h7 := DT h7
 refine WK hK6 <| w_seq fun _ hK8 => w_block <| WS fun _ hK9 => rS (MV rfl) <| rS (AG rfl) <| RK hK9 <| WS fun _ hK10 => rS (AG rfl) <| RK hK10 ?_
 refine w_seq fun _ hK11 => WS fun _ hK12 => rS (MV rfl) <| rS (LN rfl ut25) <| rS (MV rfl) <| RK hK12 <| w_block <| w_own_nil 3 1 ?_
 have hinit : (0 ≤ l.length) := by exact Nat.zero_le _
 refine w_loop (ι := { z : Nat × (Option Addr) × Nat // (z.1 ≤ l.length) }) (fun z => [(0, (Value.slice lA l.length lC)), (1, f), (4, (Value.slice fa fl.length fc)), (5, (Value.bool bo)), (6, (Value.int .i64 ((zz : Nat) : Int))), (7, (Value.slice z.1.2.1 ((idxL z.1.1 (bitS zz)).length) z.1.2.2)), (11, (Value.int .i64 ((2 ^ l.length : Nat) : Int))), (12, (Value.int .i64 ((zz : Nat) : Int))), (15, (Value.slice lA l.length lC)), (16, (Value.int .i64 ((l.length : Nat) : Int))), (17, (Value.int .i64 ((z.1.1 : Nat) : Int)))]) (fun z => [(own z.1.2.1 z.1.2.2 3 1 ((idxL z.1.1 (bitS zz)).map iC)), (own fa fc 3 1 (fl.map iC)), (rd lA l.length 7 (l.map PostV.cells)).ro, X.ro]) (fun z => l.length - z.1.1) ⟨(0, none, 0), hinit⟩ (Sub.cons rfl <| Sub.cons rfl <| Sub.cons rfl <| Sub.cons rfl <| Sub.cons rfl <| Sub.cons rfl <| Sub.cons rfl <| Sub.cons rfl <| Sub.cons rfl <| Sub.cons rfl <| Sub.cons rfl <| Sub.nil _) (fun w hs => St.sel [0, 1, 2, 3] rfl rfl hs) ?_
 clear hinit
 rintro ⟨⟨j, la, lc⟩, hl6_0⟩ J13 hJ13
 try dsimp only at hl6_0
 try dsimp only
 refine WS fun _ hK14 => rS (BI rfl b_lss) <| RK hK14 <| w_seq fun _ hK15 => ?_
 refine w_if rfl (fun h16 => ?_) (fun h16 => ?_)
 · replace h16 := DT h16
   refine WK hK15 <| w_seq fun _ hK17 => w_block <| WS fun _ hK18 => rS (MV rfl) <| rS (AG rfl) <| RK hK18 <| WS fun _ hK19 => rS (MV rfl) <| rS (MV rfl) ?_
   refine rS (BI rfl (b_shrN (i := j) (by omega) (by omega))) <| rS (BI rfl (b_and1 (m := (zz / 2 ^ j)) (by omega) (Nat.lt_of_le_of_lt (Nat.div_le_self _ _) (by omega)))) <| rS (BI rfl b_eql) <| RK hK19 ?_
   refine w_if rfl (fun hg24 => ?_) (fun hg24 => ?_)
   rotate_left 1
   · replace hg24 := DF hg24
     refine w_skip <| k_block <| KK hK17 <| w_region <| rS (BI rfl (b_add ⟨by omega, by omega⟩)) <| rS (MV rfl) <| r_nil ?_
     rw [show (idxL j (bitS zz)) = (idxL (j + 1) (bitS zz)) from (idxL_no (fun q => hg24 (bit_iff.2 q))).symm]
     have hb24 : (Value.int .i64 (((j + 1) : Nat) : Int)) = (Value.int .i64 (((j : Nat) : Int) + 1)) := by exact congrArg (Value.int .i64) (by omega)
     refine k_then (hJ13 ⟨((j + 1), la, lc), (by first | omega | (simp only []; omega))⟩ _ _ _ rfl (by first | omega | (simp; omega)) (Sub.cons rfl <| Sub.cons rfl <| Sub.cons rfl <| Sub.cons rfl <| Sub.cons rfl <| Sub.cons rfl <| Sub.cons rfl <| Sub.cons rfl <| Sub.cons rfl <| Sub.cons rfl <| sub_val rfl hb24 <| Sub.nil _) (fun w hs => St.sel [0, 1, 2, 3] rfl rfl hs))
   replace hg24 := DT hg24
   refine w_region <| rS (MV rfl) <| rS (MV rfl) <| r_bs (xs := [.tmp 26]) (cs := [(Value.int .i64 ((j : Nat) : Int))]) rfl te33 tz3 rfl rfl rfl rfl (by simp [Value.cells]) rfl rfl fun b20 => r_append (es2 := (List.map iC (idxL (j + 1) (bitS zz)))) (m' := (idxL (j + 1) (bitS zz)).length) 1 rfl rfl rfl ta33 rfl rfl (by simp) (has_rd_blk (es := List.map iC [((j : Nat) : Int)]) 0 rfl rfl (by simp [iC_length]) rfl) (one_iC _) (by have := idxL_len (n := j) (p := bitS zz); omega) (by have := idxL_len (n := j) (p := bitS zz); simp only [maxLen]; omega) (by rw [idxL_yes (p := bitS zz) (bit_iff.1 hg24)]; simp) (by simp) rfl fun a21 c22 => ?_
   try dsimp only
   refine rS (AG rfl) <| r_nil <| k_block <| KK hK17 <| w_region <| rS (BI rfl (b_add ⟨by omega, by omega⟩)) <| rS (MV rfl) <| r_nil ?_
   have hb23 : (Value.int .i64 (((j + 1) : Nat) : Int)) = (Value.int .i64 (((j : Nat) : Int) + 1)) := by exact congrArg (Value.int .i64) (by omega)
   refine k_then (hJ13 ⟨((j + 1), a21, c22), (by first | omega | (simp only []; omega))⟩ _ _ _ rfl (by first | omega | (simp; omega)) (Sub.cons rfl <| Sub.cons rfl <| Sub.cons rfl <| Sub.cons rfl <| Sub.cons rfl <| Sub.cons rfl <| Sub.cons rfl <| Sub.cons rfl <| Sub.cons rfl <| Sub.cons rfl <| sub_val rfl hb23 <| Sub.nil _) (fun w hs => St.sel [1, 2, 3, 4] rfl rfl hs))
 replace h16 := DF h16
 refine w_exit <| k_exit_then <| k_exit_then <| k_exit_same <| KK hK11 <| w_seq fun _ hK25 => WS fun _ hK26 => ?_
 have hal := idxL_len (n := l.length) (p := bitS zz)
 rw [show idxL j (bitS zz) = idxL l.length (bitS zz) from by rw [show j = l.length by omega]]
 refine rS (MV rfl) <| rS (MV rfl) ?_
 refine r_bool (t := 31) rfl (fun hg31 => ?_) (fun hg31 => ?_)
 rotate_left 1
 · refine rS (OX rfl) ?_
   refine rS (OX rfl) <| rS (OX rfl) <| rS (OX rfl) <| rS (OX rfl) <| rS (OX rfl) <| rS (OX rfl) <| rS (OX rfl) <| rS (OX rfl) <| rS (OX rfl) <| rS (OX rfl) ?_
   refine rS (OX rfl) <| rS (OX rfl) <| rS (OX rfl) <| rS (OX rfl) <| rS (OX rfl) <| rS (OX rfl) <| rS (OX rfl) <| rS (PK rfl) <| RK hK26 <| w_if_false rfl ?_
   refine WK hK25 <| WS fun _ hK35 => rS (MV rfl) <| rS (MV rfl) <| rS (SX (sd_clo rfl rfl rfl (hf ((zz : Nat) : Int) ⟨zz, rfl, by omega⟩) (ha_at 3 rfl rfl <| ha_nil)) rfl rfl) <| RK hK35 ?_
   refine w_if rfl (fun hg53 => ?_) (fun hg53 => ?_)
   rotate_left 1
   · refine w_skip ?_
     refine k_block <| KK hK8 <| w_region <| rS (BI rfl (b_add ⟨by omega, by omega⟩)) <| rS (MV rfl) <| r_nil ?_
     have hb37 : (Value.int .i64 (((zz + 1) : Nat) : Int)) = (Value.int .i64 (((zz : Nat) : Int) + 1)) := by exact congrArg (Value.int .i64) (by omega)
     refine k_then (hJ4 ⟨((zz + 1), fl, fa, fc, bo), ⟨by dsimp only; omega, by dsimp only; first | exact best_worse hl2_1 hg31 (by unfold Worse; omega) | exact best_no hl2_1 hg53 | exact best_yes hl2_1 (fun hb => by first | exact absurd (hg31.symm.trans hb) Bool.false_ne_true | (unfold Worse; omega)) hg53, by dsimp only; omega⟩⟩ _ _ _ rfl (by first | omega | (simp; omega)) (Sub.cons rfl <| Sub.cons rfl <| Sub.cons rfl <| Sub.cons rfl <| Sub.cons rfl <| sub_val rfl hb37 <| Sub.nil _) (fun w hs => St.sel [1, 2, 3] rfl rfl hs))
   refine w_region <| rS (MV rfl) <| rS (AG rfl) <| rS (AG rfl) <| r_nil <| k_block <| KK hK8 <| w_region <| rS (BI rfl (b_add ⟨by omega, by omega⟩)) <| rS (MV rfl) ?_
   refine r_nil ?_
   have hb36 : (Value.int .i64 (((zz + 1) : Nat) : Int)) = (Value.int .i64 (((zz : Nat) : Int) + 1)) := by exact congrArg (Value.int .i64) (by omega)
   refine k_then (hJ4 ⟨((zz + 1), (idxL l.length (bitS zz)), la, lc, true), ⟨by dsimp only; omega, by dsimp only; first | exact best_worse hl2_1 hg31 (by unfold Worse; omega) | exact best_no hl2_1 hg53 | exact best_yes hl2_1 (fun hb => by first | exact absurd (hg31.symm.trans hb) Bool.false_ne_true | (unfold Worse; omega)) hg53, by dsimp only; omega⟩⟩ _ _ _ rfl (by first | omega | (simp; omega)) (Sub.cons rfl <| Sub.cons rfl <| Sub.cons rfl <| Sub.cons rfl <| Sub.cons rfl <| sub_val rfl hb36 <| Sub.nil _) (fun w hs => St.sel [0, 2, 3] rfl rfl hs))
 refine rS (MV rfl) <| rS (LN rfl ut33) <| rS (MV rfl) <| rS (LN rfl ut33) <| rS (BI rfl b_gtr) <| rS (MV rfl) ?_
 refine r_bool (t := 37) rfl (fun hg37 => ?_) (fun hg37 => ?_)
 · replace hg37 := DT hg37
   refine rS (OX rfl) <| rS (OX rfl) <| rS (OX rfl) <| rS (OX rfl) <| rS (OX rfl) <| rS (OX rfl) <| rS (OX rfl) <| rS (OX rfl) <| rS (OX rfl) <| rS (OX rfl) ?_
   refine rS (OX rfl) <| rS (PK rfl) <| rS (PK rfl) <| RK hK26 <| w_if_true rfl <| w_exit <| k_exit_then <| k_exit_same <| KK hK8 <| w_region ?_
   refine rS (BI rfl (b_add ⟨by omega, by omega⟩)) <| rS (MV rfl) <| r_nil ?_
   have hb27 : (Value.int .i64 (((zz + 1) : Nat) : Int)) = (Value.int .i64 (((zz : Nat) : Int) + 1)) := by exact congrArg (Value.int .i64) (by omega)
   refine k_then (hJ4 ⟨((zz + 1), fl, fa, fc, bo), ⟨by dsimp only; omega, by dsimp only; first | exact best_worse hl2_1 hg31 (by unfold Worse; omega) | exact best_no hl2_1 hg53 | exact best_yes hl2_1 (fun hb => by first | exact absurd (hg31.symm.trans hb) Bool.false_ne_true | (unfold Worse; omega)) hg53, by dsimp only; omega⟩⟩ _ _ _ rfl (by first | omega | (simp; omega)) (Sub.cons rfl <| Sub.cons rfl <| Sub.cons rfl <| Sub.cons rfl <| Sub.cons rfl <| sub_val rfl hb27 <| Sub.nil _) (fun w hs => St.sel [1, 2, 3] rfl rfl hs))
 replace hg37 := DF hg37
 refine rS (MV rfl) <| rS (LN rfl ut33) <| rS (MV rfl) <| rS (LN rfl ut33) <| rS (BI rfl b_eql) <| rS (MV rfl) ?_
 refine r_bool (t := 43) rfl (fun hg43 => ?_) (fun hg43 => ?_)
 rotate_left 1
 · replace hg43 := DF hg43
   refine rS (OX rfl) <| rS (OX rfl) <| rS (OX rfl) <| rS (OX rfl) <| rS (PK rfl) <| rS (PK rfl) <| rS (PK rfl) <| RK hK26 <| w_if_false rfl <| WK hK25 ?_
   refine WS fun _ hK32 => rS (MV rfl) <| rS (MV rfl) <| rS (SX (sd_clo rfl rfl rfl (hf ((zz : Nat) : Int) ⟨zz, rfl, by omega⟩) (ha_at 3 rfl rfl <| ha_nil)) rfl rfl) <| RK hK32 ?_
   refine w_if rfl (fun hg53 => ?_) (fun hg53 => ?_)
   rotate_left 1
   · refine w_skip ?_
     refine k_block <| KK hK8 <| w_region <| rS (BI rfl (b_add ⟨by omega, by omega⟩)) <| rS (MV rfl) <| r_nil ?_
     have hb34 : (Value.int .i64 (((zz + 1) : Nat) : Int)) = (Value.int .i64 (((zz : Nat) : Int) + 1)) := by exact congrArg (Value.int .i64) (by omega)
     refine k_then (hJ4 ⟨((zz + 1), fl, fa, fc, bo), ⟨by dsimp only; omega, by dsimp only; first | exact best_worse hl2_1 hg31 (by unfold Worse; omega) | exact best_no hl2_1 hg53 | exact best_yes hl2_1 (fun hb => by first | exact absurd (hg31.symm.trans hb) Bool.false_ne_true | (unfold Worse; omega)) hg53, by dsimp only; omega⟩⟩ _ _ _ rfl (by first | omega | (simp; omega)) (Sub.cons rfl <| Sub.cons rfl <| Sub.cons rfl <| Sub.cons rfl <| Sub.cons rfl <| sub_val rfl hb34 <| Sub.nil _) (fun w hs => St.sel [1, 2, 3] rfl rfl hs))
   refine w_region <| rS (MV rfl) <| rS (AG rfl) <| rS (AG rfl) <| r_nil <| k_block <| KK hK8 <| w_region <| rS (BI rfl (b_add ⟨by omega, by omega⟩)) <| rS (MV rfl) ?_
   refine r_nil ?_
   have hb33 : (Value.int .i64 (((zz + 1) : Nat) : Int)) = (Value.int .i64 (((zz : Nat) : Int) + 1)) := by exact congrArg (Value.int .i64) (by omega)
   refine k_then (hJ4 ⟨((zz + 1), (idxL l.length (bitS zz)), la, lc, true), ⟨by dsimp only; omega, by dsimp only; first | exact best_worse hl2_1 hg31 (by unfold Worse; omega) | exact best_no hl2_1 hg53 | exact best_yes hl2_1 (fun hb => by first | exact absurd (hg31.symm.trans hb) Bool.false_ne_true | (unfold Worse; omega)) hg53, by dsimp only; omega⟩⟩ _ _ _ rfl (by first | omega | (simp; omega)) (Sub.cons rfl <| Sub.cons rfl <| Sub.cons rfl <| Sub.cons rfl <| Sub.cons rfl <| sub_val rfl hb33 <| Sub.nil _) (fun w hs => St.sel [0, 2, 3] rfl rfl hs))
 replace hg43 := DT hg43
 refine rS (MV rfl) <| rS (MV rfl) <| rS (CL (scompare_c (idxL l.length (bitS zz)) la lc fl fa fc (by omega) (by omega)) (ha_cons (has_own_n (n := (idxL l.length (bitS zz)).length) 0 rfl (by simp)) <| ha_cons (has_own_n (n := fl.length) 1 rfl (by simp)) <| ha_nil) rfl) <| rS (BI rfl b_gtr) <| rS (PK rfl) <| rS (PK rfl) <| rS (PK rfl) <| RK hK26 ?_
 refine w_if rfl (fun hg50 => ?_) (fun hg50 => ?_)
 · replace hg50 := DT hg50
   refine w_exit <| k_exit_then <| k_exit_same <| KK hK8 <| w_region <| rS (BI rfl (b_add ⟨by omega, by omega⟩)) <| rS (MV rfl) <| r_nil ?_
   have hb28 : (Value.int .i64 (((zz + 1) : Nat) : Int)) = (Value.int .i64 (((zz : Nat) : Int) + 1)) := by exact congrArg (Value.int .i64) (by omega)
   refine k_then (hJ4 ⟨((zz + 1), fl, fa, fc, bo), ⟨by dsimp only; omega, by dsimp only; first | exact best_worse hl2_1 hg31 (by unfold Worse; omega) | exact best_no hl2_1 hg53 | exact best_yes hl2_1 (fun hb => by first | exact absurd (hg31.symm.trans hb) Bool.false_ne_true | (unfold Worse; omega)) hg53, by dsimp only; omega⟩⟩ _ _ _ rfl (by first | omega | (simp; omega)) (Sub.cons rfl <| Sub.cons rfl <| Sub.cons rfl <| Sub.cons rfl <| Sub.cons rfl <| sub_val rfl hb28 <| Sub.nil _) (fun w hs => St.sel [1, 2, 3] rfl rfl hs))
 replace hg50 := DF hg50
 refine WK hK25 <| WS fun _ hK29 => rS (MV rfl) <| rS (MV rfl) <| rS (SX (sd_clo rfl rfl rfl (hf ((zz : Nat) : Int) ⟨zz, rfl, by omega⟩) (ha_at 3 rfl rfl <| ha_nil)) rfl rfl) <| RK hK29 ?_
 refine w_if rfl (fun hg53 => ?_) (fun hg53 => ?_)
 rotate_left 1
 · refine w_skip ?_
   refine k_block <| KK hK8 <| w_region <| rS (BI rfl (b_add ⟨by omega, by omega⟩)) <| rS (MV rfl) <| r_nil ?_
   have hb31 : (Value.int .i64 (((zz + 1) : Nat) : Int)) = (Value.int .i64 (((zz : Nat) : Int) + 1)) := by exact congrArg (Value.int .i64) (by omega)
   refine k_then (hJ4 ⟨((zz + 1), fl, fa, fc, bo), ⟨by dsimp only; omega, by dsimp only; first | exact best_worse hl2_1 hg31 (by unfold Worse; omega) | exact best_no hl2_1 hg53 | exact best_yes hl2_1 (fun hb => by first | exact absurd (hg31.symm.trans hb) Bool.false_ne_true | (unfold Worse; omega)) hg53, by dsimp only; omega⟩⟩ _ _ _ rfl (by first | omega | (simp; omega)) (Sub.cons rfl <| Sub.cons rfl <| Sub.cons rfl <| Sub.cons rfl <| Sub.cons rfl <| sub_val rfl hb31 <| Sub.nil _) (fun w hs => St.sel [1, 2, 3] rfl rfl hs))
 refine w_region <| rS (MV rfl) <| rS (AG rfl) <| rS (AG rfl) <| r_nil <| k_block <| KK hK8 <| w_region <| rS (BI rfl (b_add ⟨by omega, by omega⟩)) <| rS (MV rfl) ?_
 refine r_nil ?_
 have hb30 : (Value.int .i64 (((zz + 1) : Nat) : Int)) = (Value.int .i64 (((zz : Nat) : Int) + 1)) := by exact congrArg (Value.int .i64) (by omega)
 refine k_then (hJ4 ⟨((zz + 1), (idxL l.length (bitS zz)), la, lc, true), ⟨by dsimp only; omega, by dsimp only; first | exact best_worse hl2_1 hg31 (by unfold Worse; omega) | exact best_no hl2_1 hg53 | exact best_yes hl2_1 (fun hb => by first | exact absurd (hg31.symm.trans hb) Bool.false_ne_true | (unfold Worse; omega)) hg53, by dsimp only; omega⟩⟩ _ _ _ rfl (by first | omega | (simp; omega)) (Sub.cons rfl <| Sub.cons rfl <| Sub.cons rfl <| Sub.cons rfl <| Sub.cons rfl <| sub_val rfl hb30 <| Sub.nil _) (fun w hs => St.sel [0, 2, 3] rfl rfl hs))
end
section
open Go.RowKit
set_option linter.unusedVariables false
set_option maxRecDepth 100000 in
set_option maxHeartbeats 400000 in
theorem few1_c (x : Int) (d : GuardM) (kA : Option Addr) (kC : Nat) (pA : Option Addr) (pC : Nat) (nA : Option Addr) (nC : Nat) (tz : List RA) (tA : Option Addr) (tC : Nat) (gw : Nat) (g1 : Nat) (hin : GuardIn d) (htr : trackOk d.Track = true) (hok : GuardOk d) (htz : tz.length = d.Posts.length) (hx : 0 ≤ x ∧ x < 256) :
    FnV Try.prog 85 [(Value.int .i64 x), (Value.pointer (some ⟨g1, 0, none⟩))] [(rd kA d.Track.length 9 (d.Track.map StretchV.cells)), (rd pA d.Posts.length 7 (d.Posts.map PostV.cells)), (rd nA d.Needs.length 3 (d.Needs.map NeedV.cells)), (rd tA ((timesL d).length) 1 (List.zipWith rowC (timesL d) tz)), (bun (nest rowR (timesL d) tz)), (blk gw 89 (WatchV.cells (WatchV.mk (GuardV.mk (TrackV.mk (Slc.mk kA d.Track.length kC)) (Slc.mk pA d.Posts.length pC) (Slc.mk nA d.Needs.length nC) d.Tower d.Radio) (Slc.mk tA ((timesL d).length) tC)))), (blk g1 84 [(Value.pointer (some ⟨gw, 0, none⟩))])] (Value.bool (decide (StrongP d (bitS x.toNat)))) := by
 have hlen := hin.trk
 have hside := hin.side
 have hpl := hin.pst
 have hnl := hin.nds
 have hnk := hin.nk
 have hpk := hin.pk
 obtain ⟨s, rfl⟩ : ∃ s : Nat, x = (s : Int) := ⟨x.toNat, by omega⟩
 refine fnV_of go85 Try.func85 rfl rfl fun w0 Q hQ hN => ?_
 try dsimp only
 refine WS fun _ hK1 => rS (AG rfl) <| RK hK1 <| WS fun _ hK2 => rS (L1Q 6 rfl tk84 rfl) <| rS (MV rfl) <| rS (CL (wstrong_c d kA kC pA pC nA nC tz tA tC gw s hin htr hok htz (by first | assumption | omega | (simp; done) | (simp; omega))) (ha_at 0 rfl rfl <| ha_at 1 rfl rfl <| ha_at 2 rfl rfl <| ha_at 3 rfl rfl <| ha_at 4 rfl rfl <| ha_at 5 rfl rfl <| ha_nil) rfl) <| rS (AG rfl) <| RK hK2 <| w_ret ?_
 exact Q1 hQ rfl rfl rfl rfl
set_option maxRecDepth 100000 in
set_option maxHeartbeats 400000 in
theorem Fewest_c (d : GuardM) (kA : Option Addr) (kC : Nat) (pA : Option Addr) (pC : Nat) (nA : Option Addr) (nC : Nat) (hin : GuardIn d) :
    FnX Try.prog 44 [(Value.agg (GuardV.cells (GuardV.mk (TrackV.mk (Slc.mk kA d.Track.length kC)) (Slc.mk pA d.Posts.length pC) (Slc.mk nA d.Needs.length nC) d.Tower d.Radio)).toArray)] [(rd kA d.Track.length 9 (d.Track.map StretchV.cells)), (rd pA d.Posts.length 7 (d.Posts.map PostV.cells)), (rd nA d.Needs.length 3 (d.Needs.map NeedV.cells))] (fun (x : (Option Addr) × Nat) => (Value.tuple [(Value.slice x.1 ((fewV d).length) x.2), (Value.int .i64 (fewE d))].toArray)) (fun (x : (Option Addr) × Nat) => True) (fun (x : (Option Addr) × Nat) => [(own x.1 x.2 3 1 ((fewV d).map iC))]) := by
 have hlen := hin.trk
 have hside := hin.side
 have hpl := hin.pst
 have hnl := hin.nds
 have hnk := hin.nk
 have hpk := hin.pk
 refine fnX_of go44 Try.func44 rfl rfl fun w0 Q hQ hN => ?_
 try dsimp only
 refine WS fun _ hK1 => BXA rfl fun b2 => rS (AG rfl) <| rS (AG rfl) <| RK hK1 <| WS fun _ hK3 => rS (LW 0 rfl tk32 rfl rfl) <| cX (popen_c d kA kC pA pC nA nC hin) (ha_at 1 rfl rfl <| ha_at 2 rfl rfl <| ha_at 3 rfl rfl <| ha_nil) rfl fun y4 hy5 => ?_
 obtain ⟨ok11, ec6, gw7, tA8, tC9, tz10⟩ := y4
 cases ok11
 · obtain ⟨hec, he⟩ := hy5.2 rfl
   try dsimp only at hec he
   subst hec
   try dsimp only [cond_true, cond_false, List.cons_append, List.nil_append]
   refine rS (MV rfl) <| rS (EX rfl) <| rS (EX rfl) <| AL rfl tz84 fun b12 => SO0 rfl ts84 rfl rfl <| rS (AG rfl) <| RK hK3 <| w_seq fun _ hK13 => WS fun _ hK14 => rS (MV rfl) ?_
   refine rS (BI rfl b_neq) <| RK hK14 ?_
   refine w_if rfl (fun hg13 => ?_) (fun hg13 => ?_)
   rotate_left 1
   · replace hg13 := XF hg13
     exact absurd hg13 he
   replace hg13 := XT hg13
   refine WS fun _ hK15 => rS (MV rfl) ?_
   obtain ⟨hfe, hfv⟩ := few_bad he
   refine r_own_nil 3 1 ?_
   rw [show (own none 0 3 1 ([] : List (List Value))) = own none 0 3 1 ((fewV d).map iC) from by rw [hfv]; rfl]
   refine rS (AG rfl) <| rS (AG rfl) <| RK hK15 <| w_ret ?_
   refine hQ _ _ _ (l_nil (vs := [(Value.slice none 0 0), (Value.int .i64 (guardE d))]) ⟨rfl, rfl, trivial⟩ fun w hs => endX (none, 0) [0] ?_ ?_ rfl rfl rfl hs)
   · (rw [hfe] <;> first | rfl | (rw [hfv]; rfl))
   · trivial
 obtain ⟨he, htz⟩ := hy5.1 rfl
 try dsimp only [cond_true, cond_false, List.cons_append, List.nil_append]
 obtain ⟨htr, hok⟩ := guardE_zero he
 have hn8 := hok.len
 have hp2 := pow_256 hn8.1
 refine rS (MV rfl) <| rS (EX rfl) <| rS (EX rfl) <| AL rfl tz84 fun b16 => SO0 rfl ts84 rfl rfl <| rS (AG rfl) <| RK hK3 <| w_seq fun _ hK17 => WS fun _ hK18 => rS (MV rfl) ?_
 refine rS (SX (sd_bin (r := .bool false) rfl rfl rfl b_neq) rfl rfl) <| RK hK18 <| w_if_false rfl <| WK hK17 <| WS fun _ hK19 => rS (FA 1 rfl fo32_1 rfl) <| rS (L1 (Value.slice pA d.Posts.length pC) 4 rfl tk25 rfl rfl) <| rS (FU rfl) <| cX (best_c d.Posts pA pC (Value.func (.func 85) [].toArray [(Value.pointer (some ⟨b16, 0, none⟩))].toArray) (fun u20 => (decide (StrongP d (bitS u20.toNat)))) (bun [(rd kA d.Track.length 9 (d.Track.map StretchV.cells)), (rd pA d.Posts.length 7 (d.Posts.map PostV.cells)), (rd nA d.Needs.length 3 (d.Needs.map NeedV.cells)), (rd tA8 ((timesL d).length) 1 (List.zipWith rowC (timesL d) tz10)), (bun (nest rowR (timesL d) tz10)), (blk gw7 89 (WatchV.cells (WatchV.mk (GuardV.mk (TrackV.mk (Slc.mk kA d.Track.length kC)) (Slc.mk pA d.Posts.length pC) (Slc.mk nA d.Needs.length nC) d.Tower d.Radio) (Slc.mk tA8 ((timesL d).length) tC9)))), (blk b16 84 [(Value.pointer (some ⟨gw7, 0, none⟩))])]) (by intro u20 hmem; exact clo_of (fi := []) (ca := [(Value.pointer (some ⟨b16, 0, none⟩))]) (fnV_bun (few1_c u20 d kA kC pA pC nA nC tz10 tA8 tC9 gw7 b16 (by first | assumption | (obtain ⟨z_, hz1, hz2⟩ := hmem; omega) | omega) (by first | assumption | (obtain ⟨z_, hz1, hz2⟩ := hmem; omega) | omega) (by first | assumption | (obtain ⟨z_, hz1, hz2⟩ := hmem; omega) | omega) (by first | assumption | (obtain ⟨z_, hz1, hz2⟩ := hmem; omega) | omega) (by first | assumption | (obtain ⟨z_, hz1, hz2⟩ := hmem; omega) | omega)) (ha_at 0 rfl rfl <| ha_at 1 rfl rfl <| ha_at 2 rfl rfl <| ha_at 3 rfl rfl <| ha_at 4 rfl rfl <| ha_at 5 rfl rfl <| ha_at 6 rfl rfl <| ha_nil))) (by omega)) (ha_at 6 rfl rfl <| ha_cons (has_bun (ha_at 5 rfl rfl <| ha_at 6 rfl rfl <| ha_at 7 rfl rfl <| ha_cons (has_own_n (n := (timesL d).length) 2 rfl (rows_len (by rw [timesL_len]; exact htz))) <| ha_cons (bun_bund 3 rfl rowO_R) <| ha_at 1 rfl rfl <| ha_at 0 rfl rfl <| ha_nil)) <| ha_nil) rfl fun y21 hy22 => ?_
 obtain ⟨fl23, a24, c25, bo26⟩ := y21
 try dsimp only
 have hbest := hy22
 refine rS (MV rfl) <| rS (EX rfl) <| rS (EX rfl) <| rS (AG rfl) <| rS (AG rfl) <| RK hK19 <| w_seq fun _ hK27 => WS fun _ hK28 => rS (MV rfl) <| rS (NT rfl) ?_
 refine RK hK28 ?_
 refine w_if rfl (fun hg24 => ?_) (fun hg24 => ?_)
 rotate_left 1
 · rw [Bool.not_eq_false'] at hg24
   refine WK hK27 <| WS fun _ hK30 => ?_
   try dsimp only at hbest
   obtain ⟨hfe, hfv⟩ := few_some he (by rw [hg24] at hbest; exact hbest)
   rw [← hfv]
   refine rS (MV rfl) <| rS (AG rfl) <| rS (AG rfl) <| RK hK30 <| w_ret ?_
   refine hQ _ _ _ (l_nil (vs := [(Value.slice a24 ((fewV d).length) c25), (Value.int .i64 0)]) ⟨rfl, rfl, trivial⟩ fun w hs => endX (a24, c25) [0] ?_ ?_ rfl rfl rfl hs)
   · (rw [hfe] <;> first | rfl | (rw [hfv]; rfl))
   · trivial
 rw [Bool.not_eq_true'] at hg24
 refine WS fun _ hK29 => ?_
 try dsimp only at hbest
 obtain ⟨hfe, hfv⟩ := few_none he (by rw [hg24] at hbest; exact hbest)
 refine r_own_nil 3 1 ?_
 rw [show (own none 0 3 1 ([] : List (List Value))) = own none 0 3 1 ((fewV d).map iC) from by rw [hfv]; rfl]
 refine rS (AG rfl) <| rS (AG rfl) <| RK hK29 <| w_ret ?_
 refine hQ _ _ _ (l_nil (vs := [(Value.slice none 0 0), (Value.int .i64 6)]) ⟨rfl, rfl, trivial⟩ fun w hs => endX (none, 0) [0] ?_ ?_ rfl rfl rfl hs)
 · (rw [hfe] <;> first | rfl | (rw [hfv]; rfl))
 · trivial
end
section
open Go.RowKit
set_option linter.unusedVariables false
set_option maxRecDepth 100000 in
set_option maxHeartbeats 400000 in
theorem Time_c (d : GuardM) (kA : Option Addr) (kC : Nat) (pA : Option Addr) (pC : Nat) (nA : Option Addr) (nC : Nat) (a : Int) (k : Int) (hin : GuardIn d) :
    FnV Try.prog 17 [(Value.agg (GuardV.cells (GuardV.mk (TrackV.mk (Slc.mk kA d.Track.length kC)) (Slc.mk pA d.Posts.length pC) (Slc.mk nA d.Needs.length nC) d.Tower d.Radio)).toArray), (Value.int .i64 a), (Value.int .i64 k)] [(rd kA d.Track.length 9 (d.Track.map StretchV.cells)), (rd pA d.Posts.length 7 (d.Posts.map PostV.cells)), (rd nA d.Needs.length 3 (d.Needs.map NeedV.cells))] (Value.tuple [(Value.int .i64 (timeV d a k)), (Value.int .i64 (farE d a k))].toArray) := by
 have hlen := hin.trk
 have hside := hin.side
 have hpl := hin.pst
 have hnl := hin.nds
 have hnk := hin.nk
 have hpk := hin.pk
 refine fnV_of go17 Try.func17 rfl rfl fun w0 Q hQ hN => ?_
 try dsimp only
 refine WS fun _ hK1 => BXA rfl fun b2 => rS (AG rfl) <| rS (AG rfl) <| RK hK1 <| WS fun _ hK3 => rS (LW 0 rfl tk32 rfl rfl) <| cX (popen_c d kA kC pA pC nA nC hin) (ha_at 1 rfl rfl <| ha_at 2 rfl rfl <| ha_at 3 rfl rfl <| ha_nil) rfl fun y4 hy5 => ?_
 obtain ⟨ok11, ec6, gw7, tA8, tC9, tz10⟩ := y4
 cases ok11
 · obtain ⟨hec, he⟩ := hy5.2 rfl
   try dsimp only at hec he
   subst hec
   try dsimp only [cond_true, cond_false, List.cons_append, List.nil_append]
   refine rS (MV rfl) <| rS (EX rfl) <| rS (EX rfl) <| rS (AG rfl) <| rS (AG rfl) <| RK hK3 <| w_seq fun _ hK12 => WS fun _ hK13 => rS (MV rfl) <| rS (BI rfl b_neq) ?_
   refine RK hK13 ?_
   refine w_if rfl (fun hg16 => ?_) (fun hg16 => ?_)
   rotate_left 1
   · replace hg16 := XF hg16
     exact absurd hg16 he
   replace hg16 := XT hg16
   refine WS fun _ hK14 => rS (MV rfl) <| rS (AG rfl) <| rS (AG rfl) <| RK hK14 <| w_ret <| Q2 hQ rfl rfl rfl rfl ?_
   first | (have e := far_bad (a := a) (k := k) he; rw [e.1, e.2.2] <;> rfl) | (have e := far_out (a := a) (k := k) he (by omega); rw [e.1, e.2.2] <;> rfl) | (have e := far_in (k := k) he (by omega) hp; rw [e.1, e.2.2]; have hte : tm = timeF d.Track _ k := (by rw [hmt] at htm; have e0 := timesP_at htm; rw [Int.toNat_of_nonneg (by omega)] at e0; exact e0); rw [hte] <;> rfl)
 obtain ⟨he, htz⟩ := hy5.1 rfl
 try dsimp only [cond_true, cond_false, List.cons_append, List.nil_append]
 obtain ⟨htr, hok⟩ := guardE_zero he
 have htl := timesL_len (d := d)
 try dsimp only at htz
 refine rS (MV rfl) <| rS (EX rfl) <| rS (EX rfl) <| rS (AG rfl) <| rS (AG rfl) <| RK hK3 <| w_seq fun _ hK15 => WS fun _ hK16 => rS (MV rfl) <| rS (SX (sd_bin (r := .bool false) rfl rfl rfl b_neq) rfl rfl) ?_
 refine RK hK16 <| w_if_false rfl <| WK hK15 <| w_seq fun _ hK17 => WS fun _ hK18 => rS (FA 1 rfl fo32_1 rfl) <| rS (L1 (Value.slice pA d.Posts.length pC) 3 rfl tk25 rfl rfl) <| rS (LN rfl ut25) <| rS (BI rfl (b_sub ⟨by omega, by omega⟩)) <| rS (MV rfl) ?_
 refine r_bs (xs := [.tmp 22]) (cs := [(Value.int .i64 a)]) rfl te33 tz3 rfl rfl rfl rfl (by simp [Value.cells]) rfl rfl fun b19 => rS (CL (FnV.eq (in_post 0 (((d.Posts.length : Nat) : Int) - 1) ([a]) (some ⟨b19, 0, none⟩) 1 (by first | assumption | omega | (simp; done) | (simp; omega))) inAll_one) (ha_cons (has_rd_blk 0 rfl rfl (by simp [iC_length]) rfl) <| ha_nil) rfl) <| rS (NT rfl) <| rS (MV rfl) ?_
 refine r_bool (t := 26) rfl (fun hg26 => ?_) (fun hg26 => ?_)
 · replace hg26 := XT hg26
   refine rS (OX rfl) <| rS (OX rfl) <| rS (OX rfl) <| rS (OX rfl) <| rS (OX rfl) <| rS (OX rfl) <| rS (OX rfl) <| rS (OX rfl) <| rS (OX rfl) <| rS (PK rfl) ?_
   refine RK hK18 <| w_if_true rfl <| WS fun _ hK20 => rS (AG rfl) <| rS (AG rfl) <| RK hK20 <| w_ret <| Q2 hQ rfl rfl rfl rfl ?_
   first | (have e := far_bad (a := a) (k := k) he; rw [e.1, e.2.2] <;> rfl) | (have e := far_out (a := a) (k := k) he (by omega); rw [e.1, e.2.2] <;> rfl) | (have e := far_in (k := k) he (by omega) hp; rw [e.1, e.2.2]; have hte : tm = timeF d.Track _ k := (by rw [hmt] at htm; have e0 := timesP_at htm; rw [Int.toNat_of_nonneg (by omega)] at e0; exact e0); rw [hte] <;> rfl)
 replace hg26 := XF hg26
 refine rS (FA 0 rfl fo32_0 rfl) <| rS (FA 0 rfl fo24_0 rfl) <| rS (L1 (Value.slice kA d.Track.length kC) 4 rfl tk22 rfl rfl) <| rS (LN rfl ut22) <| rS (BI rfl (b_sub ⟨by omega, by omega⟩)) <| rS (MV rfl) <| r_bs (xs := [.tmp 32]) (cs := [(Value.int .i64 k)]) rfl te33 tz3 rfl rfl rfl rfl (by simp [Value.cells]) rfl rfl fun b21 => rS (CL (FnV.eq (in_post 0 (((d.Track.length : Nat) : Int) - 1) ([k]) (some ⟨b21, 0, none⟩) 1 (by first | assumption | omega | (simp; done) | (simp; omega))) inAll_one) (ha_cons (has_rd_blk 0 rfl rfl (by simp [iC_length]) rfl) <| ha_nil) rfl) <| rS (NT rfl) <| rS (PK rfl) ?_
 refine RK hK18 ?_
 refine w_if rfl (fun hg36 => ?_) (fun hg36 => ?_)
 · replace hg36 := XT hg36
   refine WS fun _ hK22 => rS (AG rfl) <| rS (AG rfl) <| RK hK22 <| w_ret <| Q2 hQ rfl rfl rfl rfl ?_
   first | (have e := far_bad (a := a) (k := k) he; rw [e.1, e.2.2] <;> rfl) | (have e := far_out (a := a) (k := k) he (by omega); rw [e.1, e.2.2] <;> rfl) | (have e := far_in (k := k) he (by omega) hp; rw [e.1, e.2.2]; have hte : tm = timeF d.Track _ k := (by rw [hmt] at htm; have e0 := timesP_at htm; rw [Int.toNat_of_nonneg (by omega)] at e0; exact e0); rw [hte] <;> rfl)
 replace hg36 := XF hg36
 refine WK hK17 <| WS fun _ hK23 => rS (MV rfl) <| rS (SX (sd_nil_p rfl rfl) rfl rfl) <| rS (FA 7 rfl fo89_1 rfl) <| rS (L1 (Value.slice tA8 ((timesL d).length) tC9) 2 rfl tk87 rfl rfl) <| rS (MV rfl) ?_
 obtain ⟨ms, hms⟩ : ∃ y_, (timesL d)[(a).toNat]? = some y_ := ⟨(timesL d)[(a).toNat]'(by omega), List.getElem?_eq_getElem _⟩
 obtain ⟨msa, hmsa⟩ : ∃ y_, tz10[(a).toNat]? = some y_ := ⟨tz10[(a).toNat]'(by omega), List.getElem?_eq_getElem _⟩
 have hmsm : (List.zipWith rowC (timesL d) tz10)[(a).toNat]? = some (rowC ms msa) := zip_get hms hmsa
 refine rS (IA ((a).toNat) rfl (has_own_n (n := (timesL d).length) 3 rfl (rows_len (by rw [timesL_len]; exact htz))) te87 (by decide) (by omega) (by omega)) <| rS (LE1 ((a).toNat) 0 (Value.slice msa.1 ms.length msa.2) rfl tk33 (has_own_n (n := (timesL d).length) 3 rfl (rows_len (by rw [timesL_len]; exact htz))) hmsm rfl (by decide) rfl) ?_
 have hp : d.Posts[a.toNat]? = some (d.Posts[a.toNat]'(by omega)) := List.getElem?_eq_getElem _
 have hmt := timesL_at hp hms
 have hml : ms.length = d.Track.length := by rw [hmt]; exact timesP_len
 refine rS (MV rfl) ?_
 obtain ⟨tm, htm⟩ : ∃ y_, ms[(k).toNat]? = some y_ := ⟨ms[(k).toNat]'(by omega), List.getElem?_eq_getElem _⟩
 have htmm : (ms.map iC)[(k).toNat]? = some (iC tm) := by rw [List.getElem?_map, htm]; rfl
 refine rS (IA ((k).toNat) rfl (show Has _ (rd msa.1 ms.length 1 (ms.map iC)).holds from (fun w hw => (bun_bund 4 rfl rowO_R) w hw _ (mem_nest hms hmsa (by simp [rowR])))) te33 (by decide) (by omega) (by omega)) <| rS (LE1 ((k).toNat) 0 (Value.int .i64 tm) rfl tk3 (show Has _ (rd msa.1 ms.length 1 (ms.map iC)).holds from (fun w hw => (bun_bund 4 rfl rowO_R) w hw _ (mem_nest hms hmsa (by simp [rowR])))) htmm rfl (by decide) rfl) <| rS (AG rfl) <| rS (AG rfl) <| RK hK23 <| w_ret <| Q2 hQ rfl rfl rfl rfl ?_
 first | (have e := far_bad (a := a) (k := k) he; rw [e.1, e.2.2] <;> rfl) | (have e := far_out (a := a) (k := k) he (by omega); rw [e.1, e.2.2] <;> rfl) | (have e := far_in (k := k) he (by omega) hp; rw [e.1, e.2.2]; have hte : tm = timeF d.Track _ k := (by rw [hmt] at htm; have e0 := timesP_at htm; rw [Int.toNat_of_nonneg (by omega)] at e0; exact e0); rw [hte] <;> rfl)
end
section
open Go.RowKit
set_option linter.unusedVariables false
set_option maxRecDepth 100000 in
set_option maxHeartbeats 400000 in
theorem lspan_c (x : Int) (y : Int) :
    FnV Try.prog 83 [(Value.int .i64 x), (Value.int .i64 y)] [] (Value.agg (SpanV.cells (SpanV.mk x y)).toArray) := by
 refine fnV_of go83 Try.func83 rfl rfl fun w0 Q hQ hN => ?_
 try dsimp only
 refine WS fun _ hK1 => AL rfl tz28 fun b2 => RK hK1 <| WS fun _ hK3 => rS (MV rfl) <| rS (MV rfl) <| rS (SX (sd_build (xs := [(0, .tmp 5), (1, .tmp 6)]) (cs := (SpanV.cells (SpanV.mk x y))) rfl rfl (built_of tb28 rfl)) rfl rfl) <| SW0 rfl ts28 rfl <| RK hK3 <| w_ret ?_
 refine hQ _ _ _ (l_nil (vs := [(Value.agg (SpanV.cells (SpanV.mk x y)).toArray)]) ⟨⟨_, rfl, .inl ⟨_, _, tk28, at_blk (vs := (SpanV.cells (SpanV.mk x y))) 0 rfl rfl, rfl, rfl⟩⟩, trivial⟩ fun w hs => endV ?_ hs)
 show (Value.agg (SpanV.cells (SpanV.mk x y)).toArray) = (Value.agg (SpanV.cells (SpanV.mk x y)).toArray)
 clear hs w hQ hN hK3 hK1
 rfl
set_option maxRecDepth 100000 in
set_option maxHeartbeats 400000 in
theorem exguard_c (r : Int) :
    FnX Try.prog 42 [(Value.int .i64 r)] [] (fun (x : (Option Addr) × Nat × (Option Addr) × Nat × (Option Addr) × Nat) => (Value.agg (GuardV.cells (GuardV.mk (TrackV.mk (Slc.mk x.1 ((exG r 100).Track.length) x.2.1)) (Slc.mk x.2.2.1 ((exG r 100).Posts.length) x.2.2.2.1) (Slc.mk x.2.2.2.2.1 ((exG r 100).Needs.length) x.2.2.2.2.2) ((exG r 100).Tower) ((exG r 100).Radio))).toArray)) (fun (x : (Option Addr) × Nat × (Option Addr) × Nat × (Option Addr) × Nat) => True) (fun (x : (Option Addr) × Nat × (Option Addr) × Nat × (Option Addr) × Nat) => [(own x.1 x.2.1 110 9 ((exG r 100).Track.map StretchV.cells)), (own x.2.2.1 x.2.2.2.1 62 7 ((exG r 100).Posts.map PostV.cells)), (own x.2.2.2.2.1 x.2.2.2.2.2 57 3 ((exG r 100).Needs.map NeedV.cells))]) := by
 refine fnX_of go42 Try.func42 rfl rfl fun w0 Q hQ hN => ?_
 try dsimp only
 refine WS fun _ hK1 => AL rfl tz32 fun b2 => RK hK1 <| WS fun _ hK3 => rS (CL (lspan_c 10000 10200) (ha_nil) rfl) <| rS (SX (sd_build (xs := [(0, .const (Value.int .i64 1)), (1, .tmp 3)]) (cs := (StretchV.cells (StretchV.mk 1 (SpanV.mk 10000 10200) (SpanV.mk 0 0) (SpanV.mk 0 0) 0 0))) rfl rfl (built_of tb110 rfl)) rfl rfl) <| rS (CL (lspan_c 5000 5000) (ha_nil) rfl) <| rS (CL (lspan_c 2000 2000) (ha_nil) rfl) <| rS (SX (sd_build (xs := [(0, .const (Value.int .i64 2)), (1, .tmp 5), (3, .tmp 6), (4, .const (Value.int .u8 1))]) (cs := (StretchV.cells (StretchV.mk 2 (SpanV.mk 5000 5000) (SpanV.mk 0 0) (SpanV.mk 2000 2000) 1 0))) rfl rfl (built_of tb110 rfl)) rfl rfl) <| r_bs (xs := [.tmp 4, .tmp 7]) (cs := ((StretchV.cells (StretchV.mk 1 (SpanV.mk 10000 10200) (SpanV.mk 0 0) (SpanV.mk 0 0) 0 0)) ++ (StretchV.cells (StretchV.mk 2 (SpanV.mk 5000 5000) (SpanV.mk 0 0) (SpanV.mk 2000 2000) 1 0)))) rfl te22 tz110 rfl rfl rfl rfl (by simp [Value.cells, StretchV.cells_length]) rfl rfl fun b4 => ?_
 refine rS (SX (sd_build (xs := [(0, .tmp 8)]) (cs := (TrackV.cells (TrackV.mk (Slc.mk (some ⟨b4, 0, none⟩) 2 2)))) rfl rfl (built_of tb24 rfl)) rfl rfl) <| rS (CL (lspan_c 9000 9000) (ha_nil) rfl) <| rS (SX (sd_build (xs := [(1, .tmp 10)]) (cs := (SpotV.cells (SpotV.mk 0 (SpanV.mk 9000 9000)))) rfl rfl (built_of tb30 rfl)) rfl rfl) <| rS (SX (sd_build (xs := [(0, .const (Value.int .i64 2)), (1, .const (Value.int .u8 1)), (2, .tmp 11), (3, .const (Value.int .i64 20)), (4, .const (Value.int .i64 10))]) (cs := (PostV.cells (PostV.mk 2 1 (SpotV.mk 0 (SpanV.mk 9000 9000)) 20 10))) rfl rfl (built_of tb62 rfl)) rfl rfl) <| rS (CL (lspan_c 1000 1000) (ha_nil) rfl) <| rS (SX (sd_build (xs := [(0, .const (Value.int .i64 1)), (1, .tmp 13)]) (cs := (SpotV.cells (SpotV.mk 1 (SpanV.mk 1000 1000)))) rfl rfl (built_of tb30 rfl)) rfl rfl) <| rS (SX (sd_build (xs := [(0, .const (Value.int .i64 5)), (1, .const (Value.int .u8 1)), (2, .tmp 14), (3, .const (Value.int .i64 30)), (4, .const (Value.int .i64 10))]) (cs := (PostV.cells (PostV.mk 5 1 (SpotV.mk 1 (SpanV.mk 1000 1000)) 30 10))) rfl rfl (built_of tb62 rfl)) rfl rfl) <| rS (CL (lspan_c 4000 4000) (ha_nil) rfl) <| rS (SX (sd_build (xs := [(0, .const (Value.int .i64 1)), (1, .tmp 16)]) (cs := (SpotV.cells (SpotV.mk 1 (SpanV.mk 4000 4000)))) rfl rfl (built_of tb30 rfl)) rfl rfl) <| rS (SX (sd_build (xs := [(0, .const (Value.int .i64 6)), (1, .const (Value.int .u8 1)), (2, .tmp 17), (3, .const (Value.int .i64 10)), (4, .const (Value.int .i64 10))]) (cs := (PostV.cells (PostV.mk 6 1 (SpotV.mk 1 (SpanV.mk 4000 4000)) 10 10))) rfl rfl (built_of tb62 rfl)) rfl rfl) ?_
 refine r_bs (xs := [.tmp 12, .tmp 15, .tmp 18]) (cs := ((PostV.cells (PostV.mk 2 1 (SpotV.mk 0 (SpanV.mk 9000 9000)) 20 10)) ++ (PostV.cells (PostV.mk 5 1 (SpotV.mk 1 (SpanV.mk 1000 1000)) 30 10)) ++ (PostV.cells (PostV.mk 6 1 (SpotV.mk 1 (SpanV.mk 4000 4000)) 10 10)))) rfl te25 tz62 rfl rfl rfl rfl (by simp [Value.cells, PostV.cells_length]) rfl rfl fun b5 => rS (SX (sd_build (xs := [(0, .const (Value.int .i64 1)), (1, .const (Value.int .u8 1)), (2, .const (Value.int .i64 100))]) (cs := (NeedV.cells (NeedV.mk 1 1 100))) rfl rfl (built_of tb57 rfl)) rfl rfl) <| r_bs (xs := [.tmp 20]) (cs := (NeedV.cells (NeedV.mk 1 1 100))) rfl te26 tz57 rfl rfl rfl rfl (by simp [Value.cells, NeedV.cells_length]) rfl rfl fun b6 => rS (CL (lspan_c 5000 5000) (ha_nil) rfl) <| rS (SX (sd_build (xs := [(1, .tmp 22)]) (cs := (SpotV.cells (SpotV.mk 0 (SpanV.mk 5000 5000)))) rfl rfl (built_of tb30 rfl)) rfl rfl) <| rS (MV rfl) <| rS (SX (sd_build (xs := [(0, .tmp 9), (1, .tmp 19), (2, .tmp 21), (3, .tmp 23), (4, .tmp 24)]) (cs := (GuardV.cells (GuardV.mk (TrackV.mk (Slc.mk (some ⟨b4, 0, none⟩) 2 2)) (Slc.mk (some ⟨b5, 0, none⟩) 3 3) (Slc.mk (some ⟨b6, 0, none⟩) 1 1) (SpotV.mk 0 (SpanV.mk 5000 5000)) r))) rfl rfl (built_of tb32 rfl)) rfl rfl) <| r_blk_own (es := ((exG r 100).Track.map StretchV.cells)) (C' := [_, _, (own (some ⟨b4, 0, none⟩) 2 110 9 ((exG r 100).Track.map StretchV.cells)), _]) 2 rfl (map_len StretchV.cells_length _) rfl (by show _ ≤ maxLen; exact Nat.le_trans (m := 10) (by first | decide | (show (1 : Nat) ≤ 10; decide) | (show (2 : Nat) ≤ 10; decide) | (show (3 : Nat) ≤ 10; decide)) (by decide)) rfl <| r_blk_own (es := ((exG r 100).Posts.map PostV.cells)) (C' := [_, (own (some ⟨b5, 0, none⟩) 3 62 7 ((exG r 100).Posts.map PostV.cells)), _, _]) 1 rfl (map_len PostV.cells_length _) rfl (by show _ ≤ maxLen; exact Nat.le_trans (m := 10) (by first | decide | (show (1 : Nat) ≤ 10; decide) | (show (2 : Nat) ≤ 10; decide) | (show (3 : Nat) ≤ 10; decide)) (by decide)) rfl <| r_blk_own (es := ((exG r 100).Needs.map NeedV.cells)) (C' := [(own (some ⟨b6, 0, none⟩) 1 57 3 ((exG r 100).Needs.map NeedV.cells)), _, _, _]) 0 rfl (map_len NeedV.cells_length _) rfl (by show _ ≤ maxLen; exact Nat.le_trans (m := 10) (by first | decide | (show (1 : Nat) ≤ 10; decide) | (show (2 : Nat) ≤ 10; decide) | (show (3 : Nat) ≤ 10; decide)) (by decide)) rfl ?_
 refine SW3 rfl ts32 rfl <| RK hK3 <| w_ret ?_
 refine hQ _ _ _ (l_nil (vs := [(Value.agg (GuardV.cells (GuardV.mk (TrackV.mk (Slc.mk (some ⟨b4, 0, none⟩) 2 2)) (Slc.mk (some ⟨b5, 0, none⟩) 3 3) (Slc.mk (some ⟨b6, 0, none⟩) 1 1) (SpotV.mk 0 (SpanV.mk 5000 5000)) r)).toArray)]) ⟨⟨_, rfl, .inl ⟨_, _, tk32, at_blk (vs := (GuardV.cells (GuardV.mk (TrackV.mk (Slc.mk (some ⟨b4, 0, none⟩) 2 2)) (Slc.mk (some ⟨b5, 0, none⟩) 3 3) (Slc.mk (some ⟨b6, 0, none⟩) 1 1) (SpotV.mk 0 (SpanV.mk 5000 5000)) r))) 3 rfl rfl, rfl, rfl⟩⟩, trivial⟩ fun w hs => endX ((some ⟨b4, 0, none⟩), 2, (some ⟨b5, 0, none⟩), 3, (some ⟨b6, 0, none⟩), 1) [2, 1, 0] ?_ ?_ rfl rfl rfl hs)
 · rfl
 · trivial
end
section
open Go.RowKit
set_option linter.unusedVariables false
set_option maxRecDepth 100000 in
set_option maxHeartbeats 400000 in
theorem exfar_c (a : Int) (n : Int) (t : Int) :
    FnV Try.prog 41 [(Value.int .i64 a), (Value.int .i64 n), (Value.int .i64 t)] [] (Value.bool (decide (farOk a n t))) := by
 refine fnV_of go41 Try.func41 rfl rfl fun w0 Q hQ hN => ?_
 try dsimp only
 refine WS fun _ hK1 => rS (AG rfl) <| RK hK1 <| WS fun _ hK2 => cX (exguard_c 6000) (ha_nil) rfl fun y3 hy4 => ?_
 obtain ⟨a15, c16, a27, c28, a39, c310⟩ := y3
 try dsimp only
 refine rS (MV rfl) <| rS (CL (Far_c (GuardM.mk ((exG 6000 100).Track) ((exG 6000 100).Posts) ((exG 6000 100).Needs) ((exG 6000 100).Tower) ((exG 6000 100).Radio)) a15 c16 a27 c28 a39 c310 a 1 (by exact exp_in)) (ha_cons (has_own_n (n := ((exG 6000 100).Track).length) 0 rfl (by simp)) <| ha_cons (has_own_n (n := ((exG 6000 100).Posts).length) 1 rfl (by simp)) <| ha_cons (has_own_n (n := ((exG 6000 100).Needs).length) 2 rfl (by simp)) <| ha_nil) rfl) <| rS (MV rfl) <| rS (EX rfl) <| rS (EX rfl) <| rS (AG rfl) <| rS (AG rfl) <| RK hK2 <| WS fun _ hK11 => cX (exguard_c 6000) (ha_nil) rfl fun y12 hy13 => ?_
 obtain ⟨a114, c115, a216, c217, a318, c319⟩ := y12
 try dsimp only
 refine rS (MV rfl) <| rS (CL (Time_c (GuardM.mk ((exG 6000 100).Track) ((exG 6000 100).Posts) ((exG 6000 100).Needs) ((exG 6000 100).Tower) ((exG 6000 100).Radio)) a114 c115 a216 c217 a318 c319 a 1 (by exact exp_in)) (ha_cons (has_own_n (n := ((exG 6000 100).Track).length) 0 rfl (by simp)) <| ha_cons (has_own_n (n := ((exG 6000 100).Posts).length) 1 rfl (by simp)) <| ha_cons (has_own_n (n := ((exG 6000 100).Needs).length) 2 rfl (by simp)) <| ha_nil) rfl) <| rS (MV rfl) <| rS (EX rfl) <| rS (EX rfl) <| rS (AG rfl) <| rS (AG rfl) <| RK hK11 <| WS fun _ hK20 => rS (MV rfl) ?_
 refine rS (BI rfl b_eql) <| rS (MV rfl) ?_
 refine r_bool (t := 25) rfl (fun hg25 => ?_) (fun hg25 => ?_)
 rotate_left 1
 · replace hg25 := DF hg25
   refine rS (OX rfl) <| rS (OX rfl) <| rS (OX rfl) <| rS (PK rfl) <| rS (MV rfl) <| rS (OX rfl) <| rS (OX rfl) <| rS (PK rfl) <| rS (MV rfl) <| rS (OX rfl) ?_
   refine rS (OX rfl) <| rS (OX rfl) <| rS (PK rfl) <| rS (AG rfl) <| RK hK20 <| w_ret <| Q1 hQ rfl rfl rfl ?_
   first | exact congrArg Value.bool (decide_eq_false fun q => hg25 q.1.1).symm | exact congrArg Value.bool (decide_eq_false fun q => hg30 q.1.2).symm | exact congrArg Value.bool (decide_eq_false fun q => hg34 q.2.1).symm | exact congrArg Value.bool (decide_eq_decide.2 ⟨fun q => ⟨⟨hg25, hg30⟩, hg34, q⟩, fun q => q.2.2⟩)
 replace hg25 := DT hg25
 refine rS (MV rfl) <| rS (MV rfl) <| rS (BI rfl b_eql) <| rS (PK rfl) <| rS (MV rfl) ?_
 refine r_bool (t := 30) rfl (fun hg30 => ?_) (fun hg30 => ?_)
 rotate_left 1
 · replace hg30 := DF hg30
   refine rS (OX rfl) <| rS (OX rfl) <| rS (PK rfl) <| rS (MV rfl) <| rS (OX rfl) <| rS (OX rfl) <| rS (OX rfl) <| rS (PK rfl) <| rS (AG rfl) <| RK hK20 ?_
   refine w_ret <| Q1 hQ rfl rfl rfl ?_
   first | exact congrArg Value.bool (decide_eq_false fun q => hg25 q.1.1).symm | exact congrArg Value.bool (decide_eq_false fun q => hg30 q.1.2).symm | exact congrArg Value.bool (decide_eq_false fun q => hg34 q.2.1).symm | exact congrArg Value.bool (decide_eq_decide.2 ⟨fun q => ⟨⟨hg25, hg30⟩, hg34, q⟩, fun q => q.2.2⟩)
 replace hg30 := DT hg30
 refine rS (MV rfl) <| rS (BI rfl b_eql) <| rS (PK rfl) <| rS (MV rfl) ?_
 refine r_bool (t := 34) rfl (fun hg34 => ?_) (fun hg34 => ?_)
 rotate_left 1
 · replace hg34 := DF hg34
   refine rS (OX rfl) <| rS (OX rfl) <| rS (OX rfl) <| rS (PK rfl) <| rS (AG rfl) <| RK hK20 <| w_ret <| Q1 hQ rfl rfl rfl ?_
   first | exact congrArg Value.bool (decide_eq_false fun q => hg25 q.1.1).symm | exact congrArg Value.bool (decide_eq_false fun q => hg30 q.1.2).symm | exact congrArg Value.bool (decide_eq_false fun q => hg34 q.2.1).symm | exact congrArg Value.bool (decide_eq_decide.2 ⟨fun q => ⟨⟨hg25, hg30⟩, hg34, q⟩, fun q => q.2.2⟩)
 replace hg34 := DT hg34
 refine rS (MV rfl) <| rS (MV rfl) <| rS (BI rfl b_eql) <| rS (PK rfl) <| rS (AG rfl) <| RK hK20 <| w_ret <| Q1 hQ rfl rfl rfl ?_
 first | exact congrArg Value.bool (decide_eq_false fun q => hg25 q.1.1).symm | exact congrArg Value.bool (decide_eq_false fun q => hg30 q.1.2).symm | exact congrArg Value.bool (decide_eq_false fun q => hg34 q.2.1).symm | exact congrArg Value.bool (decide_eq_decide.2 ⟨fun q => ⟨⟨hg25, hg30⟩, hg34, q⟩, fun q => q.2.2⟩)
set_option maxRecDepth 100000 in
set_option maxHeartbeats 400000 in
theorem excalled_c (la : List Int) (laA : Option Addr) (laC : Nat) (lb : List Int) (lbA : Option Addr) (lbC : Nat) (h1 : la.length ≤ 1000000) (h2 : lb.length ≤ 1000000) :
    FnV Try.prog 72 [(Value.slice laA la.length laC), (Value.slice lbA lb.length lbC)] [(rd laA la.length 1 (la.map iC)), (rd lbA lb.length 1 (lb.map iC))] (Value.bool (decide (mannedE (exG 6000 100) la = 0 ∧ calledV (exG 6000 100) la = lb))) := by
 refine fnV_of go72 Try.func72 rfl rfl fun w0 Q hQ hN => ?_
 try dsimp only
 refine WS fun _ hK1 => rS (AG rfl) <| RK hK1 <| WS fun _ hK2 => cX (exguard_c 6000) (ha_nil) rfl fun y3 hy4 => ?_
 obtain ⟨a15, c16, a27, c28, a39, c310⟩ := y3
 try dsimp only
 refine rS (MV rfl) <| cX (Called_c (GuardM.mk ((exG 6000 100).Track) ((exG 6000 100).Posts) ((exG 6000 100).Needs) ((exG 6000 100).Tower) ((exG 6000 100).Radio)) a15 c16 a27 c28 a39 c310 la laA laC (by exact exp_in) h1) (ha_cons (has_own_n (n := ((exG 6000 100).Track).length) 0 rfl (by simp)) <| ha_cons (has_own_n (n := ((exG 6000 100).Posts).length) 1 rfl (by simp)) <| ha_cons (has_own_n (n := ((exG 6000 100).Needs).length) 2 rfl (by simp)) <| ha_at 3 rfl rfl <| ha_nil) rfl fun y11 hy12 => ?_
 obtain ⟨a13, c14⟩ := y11
 try dsimp only
 refine rS (MV rfl) <| rS (EX rfl) <| rS (EX rfl) <| rS (AG rfl) <| rS (AG rfl) <| RK hK2 <| WS fun _ hK15 => rS (MV rfl) <| rS (BI rfl b_eql) <| rS (MV rfl) ?_
 refine r_bool (t := 15) rfl (fun hg15 => ?_) (fun hg15 => ?_)
 rotate_left 1
 · replace hg15 := DF hg15
   refine rS (OX rfl) <| rS (OX rfl) <| rS (OX rfl) <| rS (PK rfl) <| rS (AG rfl) <| RK hK15 <| w_ret <| Q1 hQ rfl rfl rfl ?_
   first | exact congrArg Value.bool (decide_eq_false fun q => hg15 q.1).symm | exact congrArg Value.bool (decide_eq_decide.2 ⟨fun q => ⟨hg15, q⟩, fun q => q.2⟩)
 replace hg15 := DT hg15
 refine rS (MV rfl) <| rS (MV rfl) <| rS (CL (sameints_c (calledV (GuardM.mk ((exG 6000 100).Track) ((exG 6000 100).Posts) ((exG 6000 100).Needs) ((exG 6000 100).Tower) ((exG 6000 100).Radio)) la) a13 c14 lb lbA lbC (by exact Nat.le_trans calledV_len (show (3 : Nat) ≤ 1000000 by decide)) (by exact h2)) (ha_cons (has_own_n (n := (calledV (GuardM.mk ((exG 6000 100).Track) ((exG 6000 100).Posts) ((exG 6000 100).Needs) ((exG 6000 100).Tower) ((exG 6000 100).Radio)) la).length) 0 rfl (by simp)) <| ha_at 5 rfl rfl <| ha_nil) rfl) <| rS (PK rfl) <| rS (AG rfl) <| RK hK15 <| w_ret <| Q1 hQ rfl rfl rfl ?_
 first | exact congrArg Value.bool (decide_eq_false fun q => hg15 q.1).symm | exact congrArg Value.bool (decide_eq_decide.2 ⟨fun q => ⟨hg15, q⟩, fun q => q.2⟩)
set_option maxRecDepth 100000 in
set_option maxHeartbeats 400000 in
theorem alive_c  :
    FnV Try.prog 27 [] [] (Value.bool true) := by
 refine fnV_of go27 Try.func27 rfl rfl fun w0 Q hQ hN => ?_
 try dsimp only
 refine WS fun _ hK1 => rS (AG rfl) <| RK hK1 <| WS fun _ hK2 => cX (exguard_c 6000) (ha_nil) rfl fun y3 hy4 => ?_
 obtain ⟨a15, c16, a27, c28, a39, c310⟩ := y3
 try dsimp only
 refine cX (Meets_c (GuardM.mk ((exG 6000 100).Track) ((exG 6000 100).Posts) ((exG 6000 100).Needs) ((exG 6000 100).Tower) ((exG 6000 100).Radio)) a15 c16 a27 c28 a39 c310 0 ([]) none 0 (by exact exp_in) (by decide)) (ha_cons (has_own_n (n := ((exG 6000 100).Track).length) 0 rfl (by simp)) <| ha_cons (has_own_n (n := ((exG 6000 100).Posts).length) 1 rfl (by simp)) <| ha_cons (has_own_n (n := ((exG 6000 100).Needs).length) 2 rfl (by simp)) <| ha_cons (rd_nil _ _) <| ha_nil) rfl fun y11 hy12 => ?_
 obtain ⟨a13, c14⟩ := y11
 try dsimp only
 refine rS (MV rfl) <| rS (EX rfl) <| rS (EX rfl) <| rS (AG rfl) <| rS (AG rfl) <| RK hK2 <| WS fun _ hK15 => cX (exguard_c 6000) (ha_nil) rfl fun y16 hy17 => ?_
 obtain ⟨a118, c119, a220, c221, a322, c323⟩ := y16
 try dsimp only
 refine cX (Weak_c (GuardM.mk ((exG 6000 100).Track) ((exG 6000 100).Posts) ((exG 6000 100).Needs) ((exG 6000 100).Tower) ((exG 6000 100).Radio)) a118 c119 a220 c221 a322 c323 (by exact exp_in)) (ha_cons (has_own_n (n := ((exG 6000 100).Track).length) 0 rfl (by simp)) <| ha_cons (has_own_n (n := ((exG 6000 100).Posts).length) 1 rfl (by simp)) <| ha_cons (has_own_n (n := ((exG 6000 100).Needs).length) 2 rfl (by simp)) <| ha_nil) rfl fun y24 hy25 => ?_
 obtain ⟨a26, c27⟩ := y24
 try dsimp only
 refine rS (MV rfl) <| rS (EX rfl) <| rS (EX rfl) <| rS (AG rfl) <| rS (AG rfl) <| RK hK15 <| WS fun _ hK28 => cX (exguard_c 6200) (ha_nil) rfl fun y29 hy30 => ?_
 obtain ⟨a131, c132, a233, c234, a335, c336⟩ := y29
 try dsimp only
 refine cX (Fewest_c (GuardM.mk ((exG 6200 100).Track) ((exG 6200 100).Posts) ((exG 6200 100).Needs) ((exG 6200 100).Tower) ((exG 6200 100).Radio)) a131 c132 a233 c234 a335 c336 (by exact exp_in)) (ha_cons (has_own_n (n := ((exG 6200 100).Track).length) 0 rfl (by simp)) <| ha_cons (has_own_n (n := ((exG 6200 100).Posts).length) 1 rfl (by simp)) <| ha_cons (has_own_n (n := ((exG 6200 100).Needs).length) 2 rfl (by simp)) <| ha_nil) rfl fun y37 hy38 => ?_
 obtain ⟨a39, c40⟩ := y37
 try dsimp only
 refine rS (MV rfl) <| rS (EX rfl) <| rS (EX rfl) <| rS (AG rfl) <| rS (AG rfl) <| RK hK28 <| WS fun _ hK41 => cX (exguard_c 6200) (ha_nil) rfl fun y42 hy43 => ?_
 obtain ⟨a144, c145, a246, c247, a348, c349⟩ := y42
 try dsimp only
 refine cX (Spare_c (GuardM.mk ((exG 6200 100).Track) ((exG 6200 100).Posts) ((exG 6200 100).Needs) ((exG 6200 100).Tower) ((exG 6200 100).Radio)) a144 c145 a246 c247 a348 c349 (by exact exp_in)) (ha_cons (has_own_n (n := ((exG 6200 100).Track).length) 0 rfl (by simp)) <| ha_cons (has_own_n (n := ((exG 6200 100).Posts).length) 1 rfl (by simp)) <| ha_cons (has_own_n (n := ((exG 6200 100).Needs).length) 2 rfl (by simp)) <| ha_nil) rfl fun y50 hy51 => ?_
 obtain ⟨a52, c53⟩ := y50
 try dsimp only
 refine rS (MV rfl) <| rS (EX rfl) <| rS (EX rfl) <| rS (AG rfl) <| rS (AG rfl) <| RK hK41 <| WS fun _ hK54 => rS (CL (exfar_c 0 6200 82) (ha_nil) rfl) <| rS (MV rfl) ?_
 refine r_bool (t := 30) rfl (fun hg30 => ?_) (fun hg30 => ?_)
 rotate_left 1
 · replace hg30 := DF hg30
   exact absurd exp_f0 hg30
 replace hg30 := DT hg30
 refine rS (CL (exfar_c 1 4000 70) (ha_nil) rfl) <| rS (PK rfl) <| rS (MV rfl) ?_
 refine r_bool (t := 33) rfl (fun hg33 => ?_) (fun hg33 => ?_)
 rotate_left 1
 · replace hg33 := DF hg33
   exact absurd exp_f1 hg33
 replace hg33 := DT hg33
 refine r_bs (xs := [.const (Value.int .i64 0), .const (Value.int .i64 1), .const (Value.int .i64 2)]) (cs := [(Value.int .i64 0), (Value.int .i64 1), (Value.int .i64 2)]) rfl te33 tz3 rfl rfl rfl rfl (by simp [Value.cells]) rfl rfl fun b55 => rS (CL (excalled_c ([]) none 0 ([0, 1, 2]) (some ⟨b55, 0, none⟩) 3 (by decide) (by decide)) (ha_cons (rd_nil _ _) <| ha_cons (has_rd_blk 0 rfl rfl (by simp [iC_length]) rfl) <| ha_nil) rfl) <| rS (PK rfl) <| rS (MV rfl) ?_
 refine r_bool (t := 37) rfl (fun hg37 => ?_) (fun hg37 => ?_)
 rotate_left 1
 · replace hg37 := DF hg37
   exact absurd exp_c0 hg37
 replace hg37 := DT hg37
 refine r_bs (xs := [.const (Value.int .i64 0)]) (cs := [(Value.int .i64 0)]) rfl te33 tz3 rfl rfl rfl rfl (by simp [Value.cells]) rfl rfl fun b56 => rS (CL (excalled_c ([0]) (some ⟨b56, 0, none⟩) 1 ([]) none 0 (by decide) (by decide)) (ha_cons (has_rd_blk 0 rfl rfl (by simp [iC_length]) rfl) <| ha_cons (rd_nil _ _) <| ha_nil) rfl) <| rS (PK rfl) <| rS (MV rfl) ?_
 refine r_bool (t := 41) rfl (fun hg41 => ?_) (fun hg41 => ?_)
 rotate_left 1
 · replace hg41 := DF hg41
   exact absurd exp_c1 hg41
 replace hg41 := DT hg41
 refine r_bs (xs := [.const (Value.int .i64 1)]) (cs := [(Value.int .i64 1)]) rfl te33 tz3 rfl rfl rfl rfl (by simp [Value.cells]) rfl rfl fun b57 => r_bs (xs := [.const (Value.int .i64 0), .const (Value.int .i64 2)]) (cs := [(Value.int .i64 0), (Value.int .i64 2)]) rfl te33 tz3 rfl rfl rfl rfl (by simp [Value.cells]) rfl rfl fun b58 => rS (CL (excalled_c ([1]) (some ⟨b57, 0, none⟩) 1 ([0, 2]) (some ⟨b58, 0, none⟩) 2 (by decide) (by decide)) (ha_cons (has_rd_blk 1 rfl rfl (by simp [iC_length]) rfl) <| ha_cons (has_rd_blk 0 rfl rfl (by simp [iC_length]) rfl) <| ha_nil) rfl) <| rS (PK rfl) <| rS (MV rfl) ?_
 refine r_bool (t := 46) rfl (fun hg46 => ?_) (fun hg46 => ?_)
 rotate_left 1
 · replace hg46 := DF hg46
   exact absurd exp_c2 hg46
 replace hg46 := DT hg46
 refine rS (MV rfl) <| rS (BI rfl b_eql) <| rS (PK rfl) <| rS (MV rfl) ?_
 refine r_bool (t := 50) rfl (fun hg50 => ?_) (fun hg50 => ?_)
 rotate_left 1
 · replace hg50 := DF hg50
   exact absurd exp_meets.1 hg50
 replace hg50 := DT hg50
 refine rS (MV rfl) <| r_bs (xs := [.const (Value.int .i64 0), .const (Value.int .i64 1), .const (Value.int .i64 2)]) (cs := [(Value.int .i64 0), (Value.int .i64 1), (Value.int .i64 2)]) rfl te33 tz3 rfl rfl rfl rfl (by simp [Value.cells]) rfl rfl fun b59 => rS (CL (sameints_c (meetsV (GuardM.mk ((exG 6000 100).Track) ((exG 6000 100).Posts) ((exG 6000 100).Needs) ((exG 6000 100).Tower) ((exG 6000 100).Radio)) 0 ([])) a13 c14 ([0, 1, 2]) (some ⟨b59, 0, none⟩) 3 (by rw [exp_meets.2]; decide) (by decide)) (ha_cons (has_own_n (n := (meetsV (GuardM.mk ((exG 6000 100).Track) ((exG 6000 100).Posts) ((exG 6000 100).Needs) ((exG 6000 100).Tower) ((exG 6000 100).Radio)) 0 ([])).length) 17 rfl (by simp)) <| ha_cons (has_rd_blk 0 rfl rfl (by simp [iC_length]) rfl) <| ha_nil) rfl) <| rS (PK rfl) <| rS (MV rfl) ?_
 refine r_bool (t := 55) rfl (fun hg55 => ?_) (fun hg55 => ?_)
 rotate_left 1
 · replace hg55 := DF hg55
   exact absurd exp_meets.2 hg55
 replace hg55 := DT hg55
 refine rS (MV rfl) <| rS (BI rfl b_eql) <| rS (PK rfl) <| rS (MV rfl) ?_
 refine r_bool (t := 59) rfl (fun hg59 => ?_) (fun hg59 => ?_)
 rotate_left 1
 · replace hg59 := DF hg59
   exact absurd exp_weak.1 hg59
 replace hg59 := DT hg59
 refine rS (MV rfl) <| r_bs (xs := [.const (Value.int .i64 0)]) (cs := [(Value.int .i64 0)]) rfl te33 tz3 rfl rfl rfl rfl (by simp [Value.cells]) rfl rfl fun b60 => rS (CL (sameints_c (weakV (GuardM.mk ((exG 6000 100).Track) ((exG 6000 100).Posts) ((exG 6000 100).Needs) ((exG 6000 100).Tower) ((exG 6000 100).Radio))) a26 c27 ([0]) (some ⟨b60, 0, none⟩) 1 (by rw [exp_weak.2]; decide) (by decide)) (ha_cons (has_own_n (n := (weakV (GuardM.mk ((exG 6000 100).Track) ((exG 6000 100).Posts) ((exG 6000 100).Needs) ((exG 6000 100).Tower) ((exG 6000 100).Radio))).length) 14 rfl (by simp)) <| ha_cons (has_rd_blk 0 rfl rfl (by simp [iC_length]) rfl) <| ha_nil) rfl) <| rS (PK rfl) <| rS (MV rfl) ?_
 refine r_bool (t := 64) rfl (fun hg64 => ?_) (fun hg64 => ?_)
 rotate_left 1
 · replace hg64 := DF hg64
   exact absurd exp_weak.2 hg64
 replace hg64 := DT hg64
 refine rS (MV rfl) <| rS (BI rfl b_eql) <| rS (PK rfl) <| rS (MV rfl) ?_
 refine r_bool (t := 68) rfl (fun hg68 => ?_) (fun hg68 => ?_)
 rotate_left 1
 · replace hg68 := DF hg68
   exact absurd exp_few.1 hg68
 replace hg68 := DT hg68
 refine rS (MV rfl) <| r_bs (xs := [.const (Value.int .i64 0), .const (Value.int .i64 1)]) (cs := [(Value.int .i64 0), (Value.int .i64 1)]) rfl te33 tz3 rfl rfl rfl rfl (by simp [Value.cells]) rfl rfl fun b61 => rS (CL (sameints_c (fewV (GuardM.mk ((exG 6200 100).Track) ((exG 6200 100).Posts) ((exG 6200 100).Needs) ((exG 6200 100).Tower) ((exG 6200 100).Radio))) a39 c40 ([0, 1]) (some ⟨b61, 0, none⟩) 2 (by rw [exp_few.2]; decide) (by decide)) (ha_cons (has_own_n (n := (fewV (GuardM.mk ((exG 6200 100).Track) ((exG 6200 100).Posts) ((exG 6200 100).Needs) ((exG 6200 100).Tower) ((exG 6200 100).Radio))).length) 11 rfl (by simp)) <| ha_cons (has_rd_blk 0 rfl rfl (by simp [iC_length]) rfl) <| ha_nil) rfl) <| rS (PK rfl) <| rS (MV rfl) ?_
 refine r_bool (t := 73) rfl (fun hg73 => ?_) (fun hg73 => ?_)
 rotate_left 1
 · replace hg73 := DF hg73
   exact absurd exp_few.2 hg73
 replace hg73 := DT hg73
 refine rS (MV rfl) <| rS (BI rfl b_eql) <| rS (PK rfl) <| rS (MV rfl) ?_
 refine r_bool (t := 77) rfl (fun hg77 => ?_) (fun hg77 => ?_)
 rotate_left 1
 · replace hg77 := DF hg77
   exact absurd exp_spare.1 hg77
 replace hg77 := DT hg77
 refine rS (MV rfl) <| r_bs (xs := [.const (Value.int .i64 2)]) (cs := [(Value.int .i64 2)]) rfl te33 tz3 rfl rfl rfl rfl (by simp [Value.cells]) rfl rfl fun b62 => rS (CL (sameints_c (spareV (GuardM.mk ((exG 6200 100).Track) ((exG 6200 100).Posts) ((exG 6200 100).Needs) ((exG 6200 100).Tower) ((exG 6200 100).Radio))) a52 c53 ([2]) (some ⟨b62, 0, none⟩) 1 (by rw [exp_spare.2]; decide) (by decide)) (ha_cons (has_own_n (n := (spareV (GuardM.mk ((exG 6200 100).Track) ((exG 6200 100).Posts) ((exG 6200 100).Needs) ((exG 6200 100).Tower) ((exG 6200 100).Radio))).length) 8 rfl (by simp)) <| ha_cons (has_rd_blk 0 rfl rfl (by simp [iC_length]) rfl) <| ha_nil) rfl) <| rS (PK rfl) <| rS (AG rfl) <| RK hK54 <| w_ret <| Q1 hQ rfl rfl rfl ?_
 exact congrArg Value.bool (decide_eq_true exp_spare.2)
end
section
open Go.RowKit
set_option linter.unusedVariables false
set_option maxRecDepth 100000 in
set_option maxHeartbeats 12000000 in
theorem postExamples_c  :
    FnV Try.prog 8 [] [] (Value.bool true) := by
 have hpl3 : (exG 6000 100).Posts.length = 3 := rfl
 have hnl1 : (exG 6000 100).Needs.length = 1 := rfl
 refine fnV_of go8 Try.func8 rfl rfl fun w0 Q hQ hN => ?_
 try dsimp only
 refine WS fun _ hK1 => rS (AG rfl) <| RK hK1 <| w_seq fun _ hK2 => WS fun _ hK3 => rS (MV rfl) <| rS (CL alive_c (ha_nil) rfl) <| rS (NT rfl) <| rS (PK rfl) <| rS (MV rfl) ?_
 refine rS (CL (exfar_c 2 4000 50) (ha_nil) rfl) <| rS (NT rfl) <| rS (PK rfl) <| RK hK3 ?_
 refine w_if rfl (fun hg29 => ?_) (fun hg29 => ?_)
 · replace hg29 := XT hg29
   exact absurd exp_f2 hg29
 replace hg29 := XF hg29
 refine WK hK2 <| WS fun _ hK4 => cX (exguard_c 6000) (ha_nil) rfl fun y5 hy6 => ?_
 obtain ⟨a17, c18, a29, c210, a311, c312⟩ := y5
 try dsimp only
 refine cX (exguard_c 6000) (ha_nil) rfl fun y13 hy14 => ?_
 obtain ⟨a115, c116, a217, c218, a319, c320⟩ := y13
 try dsimp only
 refine AL rfl tz32 fun b21 => AL rfl tz32 fun b22 => SW1 rfl ts32 rfl <| SW0 rfl ts32 rfl <| RK hK4 <| WS fun _ hK23 => rS (FA 1 rfl fo32_1 rfl) <| rS (L1 (Value.slice a29 ((exG 6000 100).Posts.length) c210) 1 rfl tk25 rfl rfl) ?_
 obtain ⟨x, hx⟩ : ∃ y_, ((exG 6000 100).Posts)[0]? = some y_ := ⟨((exG 6000 100).Posts)[0]'(by omega), List.getElem?_eq_getElem _⟩
 have hxm : ((exG 6000 100).Posts.map PostV.cells)[0]? = some (PostV.cells x) := by rw [List.getElem?_map, hx]; rfl
 refine rS (IA 0 rfl (has_own_n (n := (exG 6000 100).Posts.length) 6 rfl (by first | (simp; done) | (simp; omega))) te25 (by decide) rfl (by omega)) <| rS (FAR ((0 * 7) + 6) rfl (has_own_n (n := ((exG 6000 100).Posts).length) 6 rfl (by simp)) (Nat.mul_pos (by omega) (by decide)) fo62_4 rfl) ?_
 have hb24 : (((exG 6000 100).Posts).set 0 (PostV.mk x.Id x.Kind x.Spot x.Delay 0)) = [exPz, exP1, exP2] := by cases hx; rfl
 refine r_store_own (k := 0) (o := 6) (vs := [(Value.int .i64 0)]) (es' := (List.map PostV.cells [exPz, exP1, exP2])) (C' := [_, _, _, _, _, _, (own a29 c210 62 7 (List.map PostV.cells [exPz, exP1, exP2])), _]) 6 rfl rfl rfl ts3 rfl rfl rfl rfl hxm rfl (by decide) (by exact (List.map_set (f := PostV.cells) (l := (exG 6000 100).Posts) (i := 0) (a := (PostV.mk x.Id x.Kind x.Spot x.Delay 0))).symm.trans (congrArg _ hb24)) rfl <| RK hK23 <| WS fun _ hK25 => rS (FA 2 rfl fo32_2 rfl) <| rS (L1 (Value.slice a319 ((exG 6000 100).Needs.length) c320) 0 rfl tk26 rfl rfl) ?_
 obtain ⟨y, hy⟩ : ∃ y_, ((exG 6000 100).Needs)[0]? = some y_ := ⟨((exG 6000 100).Needs)[0]'(by omega), List.getElem?_eq_getElem _⟩
 have hym : ((exG 6000 100).Needs.map NeedV.cells)[0]? = some (NeedV.cells y) := by rw [List.getElem?_map, hy]; rfl
 refine rS (IA 0 rfl (has_own_n (n := (exG 6000 100).Needs.length) 4 rfl (by first | (simp; done) | (simp; omega))) te26 (by decide) rfl (by omega)) <| rS (FAR ((0 * 3) + 2) rfl (has_own_n (n := ((exG 6000 100).Needs).length) 4 rfl (by simp)) (Nat.mul_pos (by omega) (by decide)) fo57_2 rfl) ?_
 have hb26 : (((exG 6000 100).Needs).set 0 (NeedV.mk y.Stretch y.Kind 49)) = (exG 6000 49).Needs := by cases hy; rfl
 refine r_store_own (k := 0) (o := 2) (vs := [(Value.int .i64 49)]) (es' := (List.map NeedV.cells (exG 6000 49).Needs)) (C' := [_, _, _, _, (own a319 c320 57 3 (List.map NeedV.cells (exG 6000 49).Needs)), _, _, _]) 4 rfl rfl rfl ts3 rfl rfl rfl rfl hym rfl (by decide) (by exact (List.map_set (f := NeedV.cells) (l := (exG 6000 100).Needs) (i := 0) (a := (NeedV.mk y.Stretch y.Kind 49))).symm.trans (congrArg _ hb26)) rfl <| RK hK25 <| WS fun _ hK27 => cX (exguard_c 6000) (ha_nil) rfl fun y28 hy29 => ?_
 obtain ⟨a130, c131, a232, c233, a334, c335⟩ := y28
 try dsimp only
 refine AL rfl tz32 fun b36 => SW0 rfl ts32 rfl <| RK hK27 <| WS fun _ hK37 => rS (SX (sd_build (xs := []) (cs := (TrackV.cells (TrackV.mk (Slc.mk none 0 0)))) rfl rfl (built_of tb24 rfl)) rfl rfl) <| rS (FA 0 rfl fo32_0 rfl) <| ST0 (GuardV.cells (GuardV.mk (TrackV.mk (Slc.mk none 0 0)) (Slc.mk a232 ((exG 6000 100).Posts.length) c233) (Slc.mk a334 ((exG 6000 100).Needs.length) c335) ((exG 6000 100).Tower) ((exG 6000 100).Radio))) rfl ts24 rfl rfl <| RK hK37 <| WS fun _ hK38 => cX (exguard_c 6000) (ha_nil) rfl fun y39 hy40 => ?_
 obtain ⟨a141, c142, a243, c244, a345, c346⟩ := y39
 try dsimp only
 refine rS (CL (Far_c (GuardM.mk ((exG 6000 100).Track) ((exG 6000 100).Posts) ((exG 6000 100).Needs) ((exG 6000 100).Tower) ((exG 6000 100).Radio)) a141 c142 a243 c244 a345 c346 3 0 (by exact exp_in)) (ha_cons (has_own_n (n := ((exG 6000 100).Track).length) 0 rfl (by simp)) <| ha_cons (has_own_n (n := ((exG 6000 100).Posts).length) 1 rfl (by simp)) <| ha_cons (has_own_n (n := ((exG 6000 100).Needs).length) 2 rfl (by simp)) <| ha_nil) rfl) <| rS (MV rfl) <| rS (EX rfl) <| rS (EX rfl) <| rS (AG rfl) <| rS (AG rfl) <| RK hK38 <| WS fun _ hK47 => cX (exguard_c 6000) (ha_nil) rfl fun y48 hy49 => ?_
 obtain ⟨a150, c151, a252, c253, a354, c355⟩ := y48
 try dsimp only
 refine rS (CL (Time_c (GuardM.mk ((exG 6000 100).Track) ((exG 6000 100).Posts) ((exG 6000 100).Needs) ((exG 6000 100).Tower) ((exG 6000 100).Radio)) a150 c151 a252 c253 a354 c355 0 2 (by exact exp_in)) (ha_cons (has_own_n (n := ((exG 6000 100).Track).length) 0 rfl (by simp)) <| ha_cons (has_own_n (n := ((exG 6000 100).Posts).length) 1 rfl (by simp)) <| ha_cons (has_own_n (n := ((exG 6000 100).Needs).length) 2 rfl (by simp)) <| ha_nil) rfl) <| rS (MV rfl) <| rS (EX rfl) <| rS (EX rfl) <| rS (AG rfl) <| rS (AG rfl) <| RK hK47 <| WS fun _ hK56 => cX (exguard_c 6000) (ha_nil) rfl fun y57 hy58 => ?_
 obtain ⟨a159, c160, a261, c262, a363, c364⟩ := y57
 try dsimp only
 refine r_bs (xs := [.const (Value.int .i64 1), .const (Value.int .i64 0)]) (cs := [(Value.int .i64 1), (Value.int .i64 0)]) rfl te33 tz3 rfl rfl rfl rfl (by simp [Value.cells]) rfl rfl fun b65 => cX (Called_c (GuardM.mk ((exG 6000 100).Track) ((exG 6000 100).Posts) ((exG 6000 100).Needs) ((exG 6000 100).Tower) ((exG 6000 100).Radio)) a159 c160 a261 c262 a363 c364 ([1, 0]) (some ⟨b65, 0, none⟩) 2 (by exact exp_in) (by decide)) (ha_cons (has_own_n (n := ((exG 6000 100).Track).length) 1 rfl (by simp)) <| ha_cons (has_own_n (n := ((exG 6000 100).Posts).length) 2 rfl (by simp)) <| ha_cons (has_own_n (n := ((exG 6000 100).Needs).length) 3 rfl (by simp)) <| ha_cons (has_rd_blk 0 rfl rfl (by simp [iC_length]) rfl) <| ha_nil) rfl fun y66 hy67 => ?_
 obtain ⟨a68, c69⟩ := y66
 try dsimp only
 refine rS (MV rfl) <| rS (EX rfl) <| rS (EX rfl) <| rS (AG rfl) <| rS (AG rfl) <| RK hK56 <| WS fun _ hK70 => cX (exguard_c 6000) (ha_nil) rfl fun y71 hy72 => ?_
 obtain ⟨a173, c174, a275, c276, a377, c378⟩ := y71
 try dsimp only
 refine cX (Meets_c (GuardM.mk ((exG 6000 100).Track) ((exG 6000 100).Posts) ((exG 6000 100).Needs) ((exG 6000 100).Tower) ((exG 6000 100).Radio)) a173 c174 a275 c276 a377 c378 1 ([]) none 0 (by exact exp_in) (by decide)) (ha_cons (has_own_n (n := ((exG 6000 100).Track).length) 0 rfl (by simp)) <| ha_cons (has_own_n (n := ((exG 6000 100).Posts).length) 1 rfl (by simp)) <| ha_cons (has_own_n (n := ((exG 6000 100).Needs).length) 2 rfl (by simp)) <| ha_cons (rd_nil _ _) <| ha_nil) rfl fun y79 hy80 => ?_
 obtain ⟨a81, c82⟩ := y79
 try dsimp only
 refine rS (MV rfl) <| rS (EX rfl) <| rS (EX rfl) <| rS (AG rfl) <| rS (AG rfl) <| RK hK70 <| WS fun _ hK83 => rS (LW 19 rfl tk32 rfl rfl) <| cX (Lacks_c (GuardM.mk ((exG 6000 100).Track) ((exG 6000 100).Posts) ((exG 6000 49).Needs) ((exG 6000 100).Tower) ((exG 6000 100).Radio)) a115 c116 a217 c218 a319 c320 ([]) none 0 (by exact exp_in) (by decide)) (ha_cons (has_own_n (n := ((exG 6000 100).Track).length) 21 rfl (by simp)) <| ha_cons (has_own_n (n := ((exG 6000 100).Posts).length) 22 rfl (by simp)) <| ha_cons (has_own_n (n := ((exG 6000 49).Needs).length) 23 rfl (by simp)) <| ha_cons (rd_nil _ _) <| ha_nil) rfl fun y84 hy85 => ?_
 obtain ⟨a86, c87⟩ := y84
 try dsimp only
 refine rS (MV rfl) <| rS (EX rfl) <| rS (EX rfl) <| rS (AG rfl) <| rS (AG rfl) <| RK hK83 <| WS fun _ hK88 => rS (LW 20 rfl tk32 rfl rfl) <| cX (Weak_c (GuardM.mk ((exG 6000 100).Track) ((exG 6000 100).Posts) ((exG 6000 49).Needs) ((exG 6000 100).Tower) ((exG 6000 100).Radio)) a115 c116 a217 c218 a319 c320 (by exact exp_in)) (ha_cons (has_own_n (n := ((exG 6000 100).Track).length) 22 rfl (by simp)) <| ha_cons (has_own_n (n := ((exG 6000 100).Posts).length) 23 rfl (by simp)) <| ha_cons (has_own_n (n := ((exG 6000 49).Needs).length) 24 rfl (by simp)) <| ha_nil) rfl fun y89 hy90 => ?_
 obtain ⟨a91, c92⟩ := y89
 try dsimp only
 refine rS (MV rfl) <| rS (EX rfl) <| rS (EX rfl) <| rS (AG rfl) <| rS (AG rfl) <| RK hK88 <| WS fun _ hK93 => rS (LW 21 rfl tk32 rfl rfl) <| cX (Fewest_c (GuardM.mk ((exG 6000 100).Track) ((exG 6000 100).Posts) ((exG 6000 49).Needs) ((exG 6000 100).Tower) ((exG 6000 100).Radio)) a115 c116 a217 c218 a319 c320 (by exact exp_in)) (ha_cons (has_own_n (n := ((exG 6000 100).Track).length) 23 rfl (by simp)) <| ha_cons (has_own_n (n := ((exG 6000 100).Posts).length) 24 rfl (by simp)) <| ha_cons (has_own_n (n := ((exG 6000 49).Needs).length) 25 rfl (by simp)) <| ha_nil) rfl fun y94 hy95 => ?_
 obtain ⟨a96, c97⟩ := y94
 try dsimp only
 refine rS (MV rfl) <| rS (EX rfl) <| rS (EX rfl) <| rS (AG rfl) <| rS (AG rfl) <| RK hK93 <| WS fun _ hK98 => rS (LW 22 rfl tk32 rfl rfl) <| cX (Spare_c (GuardM.mk ((exG 6000 100).Track) ((exG 6000 100).Posts) ((exG 6000 49).Needs) ((exG 6000 100).Tower) ((exG 6000 100).Radio)) a115 c116 a217 c218 a319 c320 (by exact exp_in)) (ha_cons (has_own_n (n := ((exG 6000 100).Track).length) 24 rfl (by simp)) <| ha_cons (has_own_n (n := ((exG 6000 100).Posts).length) 25 rfl (by simp)) <| ha_cons (has_own_n (n := ((exG 6000 49).Needs).length) 26 rfl (by simp)) <| ha_nil) rfl fun y99 hy100 => ?_
 obtain ⟨a101, c102⟩ := y99
 try dsimp only
 refine rS (MV rfl) <| rS (EX rfl) <| rS (EX rfl) <| rS (AG rfl) <| rS (AG rfl) <| RK hK98 <| WS fun _ hK103 => cX (exguard_c 6000) (ha_nil) rfl fun y104 hy105 => ?_
 obtain ⟨a1106, c1107, a2108, c2109, a3110, c3111⟩ := y104
 try dsimp only
 refine cX (Fewest_c (GuardM.mk ((exG 6000 100).Track) ((exG 6000 100).Posts) ((exG 6000 100).Needs) ((exG 6000 100).Tower) ((exG 6000 100).Radio)) a1106 c1107 a2108 c2109 a3110 c3111 (by exact exp_in)) (ha_cons (has_own_n (n := ((exG 6000 100).Track).length) 0 rfl (by simp)) <| ha_cons (has_own_n (n := ((exG 6000 100).Posts).length) 1 rfl (by simp)) <| ha_cons (has_own_n (n := ((exG 6000 100).Needs).length) 2 rfl (by simp)) <| ha_nil) rfl fun y112 hy113 => ?_
 obtain ⟨a114, c115⟩ := y112
 try dsimp only
 refine rS (MV rfl) <| rS (EX rfl) <| rS (EX rfl) <| rS (AG rfl) <| rS (AG rfl) <| RK hK103 <| WS fun _ hK116 => rS (MV rfl) <| rS (BI rfl b_eql) <| rS (MV rfl) ?_
 refine r_bool (t := 91) rfl (fun hg91 => ?_) (fun hg91 => ?_)
 rotate_left 1
 · replace hg91 := DF hg91
   exact absurd exq_far hg91
 replace hg91 := DT hg91
 refine rS (MV rfl) <| rS (BI rfl b_eql) <| rS (PK rfl) <| rS (MV rfl) ?_
 refine r_bool (t := 95) rfl (fun hg95 => ?_) (fun hg95 => ?_)
 rotate_left 1
 · replace hg95 := DF hg95
   exact absurd exq_time hg95
 replace hg95 := DT hg95
 refine rS (MV rfl) <| rS (BI rfl b_eql) <| rS (PK rfl) <| rS (MV rfl) ?_
 refine r_bool (t := 99) rfl (fun hg99 => ?_) (fun hg99 => ?_)
 rotate_left 1
 · replace hg99 := DF hg99
   exact absurd exq_called hg99
 replace hg99 := DT hg99
 refine rS (MV rfl) <| rS (BI rfl b_eql) <| rS (PK rfl) <| rS (MV rfl) ?_
 refine r_bool (t := 103) rfl (fun hg103 => ?_) (fun hg103 => ?_)
 rotate_left 1
 · replace hg103 := DF hg103
   exact absurd exq_meets hg103
 replace hg103 := DT hg103
 refine rS (MV rfl) <| rS (BI rfl b_eql) <| rS (PK rfl) <| rS (MV rfl) ?_
 refine r_bool (t := 107) rfl (fun hg107 => ?_) (fun hg107 => ?_)
 rotate_left 1
 · replace hg107 := DF hg107
   exact absurd exq_lacks.1 hg107
 replace hg107 := DT hg107
 refine rS (MV rfl) <| r_bs (xs := [.const (Value.int .i64 0)]) (cs := [(Value.int .i64 0)]) rfl te33 tz3 rfl rfl rfl rfl (by simp [Value.cells]) rfl rfl fun b117 => rS (CL (sameints_c (lacksV (GuardM.mk ((exG 6000 100).Track) ((exG 6000 100).Posts) ((exG 6000 49).Needs) ((exG 6000 100).Tower) ((exG 6000 100).Radio)) ([])) a86 c87 ([0]) (some ⟨b117, 0, none⟩) 1 (by exact Nat.le_trans lacksV_len (show (1 : Nat) ≤ 1000000 by decide)) (by decide)) (ha_cons (has_own_n (n := (lacksV (GuardM.mk ((exG 6000 100).Track) ((exG 6000 100).Posts) ((exG 6000 49).Needs) ((exG 6000 100).Tower) ((exG 6000 100).Radio)) ([])).length) 8 rfl (by simp)) <| ha_cons (has_rd_blk 0 rfl rfl (by simp [iC_length]) rfl) <| ha_nil) rfl) <| rS (PK rfl) <| rS (MV rfl) ?_
 refine r_bool (t := 112) rfl (fun hg112 => ?_) (fun hg112 => ?_)
 rotate_left 1
 · replace hg112 := DF hg112
   exact absurd exq_lacks.2 hg112
 replace hg112 := DT hg112
 refine rS (MV rfl) <| rS (BI rfl b_eql) <| rS (PK rfl) <| rS (MV rfl) ?_
 refine r_bool (t := 116) rfl (fun hg116 => ?_) (fun hg116 => ?_)
 rotate_left 1
 · replace hg116 := DF hg116
   exact absurd exq_weak hg116
 replace hg116 := DT hg116
 refine rS (MV rfl) <| rS (BI rfl b_eql) <| rS (PK rfl) <| rS (MV rfl) ?_
 refine r_bool (t := 120) rfl (fun hg120 => ?_) (fun hg120 => ?_)
 rotate_left 1
 · replace hg120 := DF hg120
   exact absurd exq_few hg120
 replace hg120 := DT hg120
 refine rS (MV rfl) <| rS (BI rfl b_eql) <| rS (PK rfl) <| rS (MV rfl) ?_
 refine r_bool (t := 124) rfl (fun hg124 => ?_) (fun hg124 => ?_)
 rotate_left 1
 · replace hg124 := DF hg124
   exact absurd exq_spare.1 hg124
 replace hg124 := DT hg124
 refine rS (MV rfl) <| rS (LN rfl ut33) <| rS (BI rfl b_eql) <| rS (PK rfl) <| rS (MV rfl) ?_
 refine r_bool (t := 129) rfl (fun hg129 => ?_) (fun hg129 => ?_)
 rotate_left 1
 · replace hg129 := DF hg129
   exact absurd (show ((spareV (exG 6000 49)).length : Int) = 0 by rw [exq_spare.2]; rfl) hg129
 replace hg129 := DT hg129
 refine rS (MV rfl) <| rS (BI rfl b_eql) <| rS (PK rfl) <| rS (MV rfl) ?_
 refine r_bool (t := 133) rfl (fun hg133 => ?_) (fun hg133 => ?_)
 rotate_left 1
 · replace hg133 := DF hg133
   exact absurd exq_few6 hg133
 replace hg133 := DT hg133
 refine rS (LW 29 rfl tk32 rfl rfl) <| rS (CL (pcheck_c (GuardM.mk ((exG 6000 100).Track) ([exPz, exP1, exP2]) ((exG 6000 100).Needs) ((exG 6000 100).Tower) ((exG 6000 100).Radio)) a17 c18 a29 c210 a311 c312 (by exact exq_in1)) (ha_cons (has_own_n (n := ((exG 6000 100).Track).length) 33 rfl (by simp)) <| ha_cons (has_own_n (n := ([exPz, exP1, exP2]).length) 34 rfl (by simp)) <| ha_cons (has_own_n (n := ((exG 6000 100).Needs).length) 35 rfl (by simp)) <| ha_nil) rfl) <| rS (BI rfl b_eql) <| rS (PK rfl) <| rS (MV rfl) ?_
 refine r_bool (t := 138) rfl (fun hg138 => ?_) (fun hg138 => ?_)
 rotate_left 1
 · replace hg138 := DF hg138
   exact absurd exq_odd hg138
 replace hg138 := DT hg138
 refine rS (LW 24 rfl tk32 rfl rfl) <| rS (CL (pcheck_c (GuardM.mk ([]) ((exG 6000 100).Posts) ((exG 6000 100).Needs) ((exG 6000 100).Tower) ((exG 6000 100).Radio)) none 0 a232 c233 a334 c335 (by exact exq_in2)) (ha_cons (rd_nil _ _) <| ha_cons (has_own_n (n := ((exG 6000 100).Posts).length) 26 rfl (by simp)) <| ha_cons (has_own_n (n := ((exG 6000 100).Needs).length) 27 rfl (by simp)) <| ha_nil) rfl) <| rS (BI rfl b_eql) <| rS (PK rfl) <| rS (AG rfl) <| RK hK116 <| w_ret <| Q1 hQ rfl rfl rfl ?_
 exact congrArg Value.bool (decide_eq_true exq_torn)
end
section
open Go.ChangeShapes Go.WideShapes Go.ChangeAt Go.RowKit
set_option linter.unusedVariables false
theorem own_postExamples : ownKnob Try.prog.godebug = none := by kernel_rfl
theorem laid_postExamples : laidOutB Try.prog = true := by kernel_rfl
set_option maxRecDepth 100000 in
theorem postExamples_lifted (os : Os) (started : os.Started) (H : Type) (enc : TypeId × Value → H) :
    ReturnsInHanded {} Try.checked os 8 .any (Rows.postExamplesSpec.pre6 enc Try.prog Try.f8 Rows.postExamplesRow.domain false) (Rows.postExamplesSpec.post enc Try.prog Try.f8 false true false false) := by
  refine returnsInHanded_of_change (C := Try.checked) own_postExamples started (by kernel_rfl) Try.func8
    (ChangeSpec.witness6 (enc := enc) (C := Try.checked) false ⟨#[], #[], []⟩ 8 (by kernel_rfl) (by kernel_rfl) (by kernel_rfl) (by kernel_rfl)) ?_
  intro W base args ds gs before hval0 hW hcnd _
  have hval : ∀ (j : Nat) t v, Try.f8.params[j]? = some t → args[j]? = some v → Value.okWide Try.prog W .any base t v := hval0
  have hW' := hW
  obtain ⟨p, q, hA0, hV, rfl, hfz, hnd⟩ := hW
  have hA : DataW.TrodAll enc Try.prog W 0 (fun _ => true) true Try.f8.params.toList args.toList ds p := hA0
  have hA1 := hA
  rw [Try.params8] at hA hval
  obtain ⟨hargs, rfl, rfl⟩ := trodAll_nil hA
  obtain rfl : args = #[] := by cases args; simp_all
  obtain ⟨rfl, rfl⟩ := trodVars_none hV
  simp only [List.append_nil] at hW' hA1
  have hrun := postExamples_c.run W (by intro A hA; cases hA)
  refine (hrun).mono fun e W' ⟨he, hk⟩ => ?_
  subst he
  exact ⟨_, rfl, law_post laid_postExamples hW' hA1 rfl rfl (by kernel_rfl) hk.below (by kernel_rfl) ut4⟩
/-- the statement -/
theorem postExamples_said : Rows.PostExamplesSaid :=
  OpenClaim.holds_of_wide 8 Try.f8 rfl rfl rfl rfl rfl rfl rfl ⟨rfl, rfl, rfl, rfl, rfl⟩ rfl rfl rfl rfl rfl (by kernel_rfl) Try.func8 (by kernel_rfl)
    (of_decide_eq_true (by kernel_rfl)) (by unfold Func.isWrapper; first | (rw [if_pos (by decide +kernel)]; kernel_rfl) | (rw [if_neg (by decide +kernel)]; exact ⟨rfl, rfl⟩))
    (fun os started H enc _ => postExamples_lifted os started H enc)
#print axioms postExamples_said
end
end Go.Proofs.Ytlncplfcbmcjgaa
