/-
  The statement postFewest_said, part 5 of 5: X6, GuardOpen, Fewest0.
  Conditions: none.
-/
import Derived.Test.YtlncplfcbmcjgaaKPf1
import Derived.Test.YtlncplfcbmcjgaaKPf2
import Derived.Test.YtlncplfcbmcjgaaKPf3
import Derived.Test.YtlncplfcbmcjgaaKPf4
import Derived.Test.YtlncplfcbmcjgaaRows
import Derived.Test.YtlncplfcbmcjgaaProg
import Derived.KernelRfl
namespace Go.Proofs.Ytlncplfcbmcjgaa
section
open Go.RowKit
set_option linter.unusedVariables false
set_option maxRecDepth 100000 in
set_option maxHeartbeats 4000000 in
theorem postFewest_c (d : GuardM) (kA : Option Addr) (kC : Nat) (pA : Option Addr) (pC : Nat) (nA : Option Addr) (nC : Nat) (bn : Nat) (hraw : GuardRaw d) (hbn : bn ≤ 255) :
    FnV Try.prog 10 [(Value.agg (GuardV.cells (GuardV.mk (TrackV.mk (Slc.mk kA d.Track.length kC)) (Slc.mk pA d.Posts.length pC) (Slc.mk nA d.Needs.length nC) d.Tower d.Radio)).toArray), (Value.int .u8 ((bn : Nat) : Int))] [(rd kA d.Track.length 9 (d.Track.map StretchV.cells)), (rd pA d.Posts.length 7 (d.Posts.map PostV.cells)), (rd nA d.Needs.length 3 (d.Needs.map NeedV.cells))] (Value.bool true) := by
 refine fnV_of go10 Try.func10 rfl rfl fun w0 Q hQ hN => ?_
 try dsimp only
 refine WS fun _ hK1 => BXA rfl fun b2 => rS (AG rfl) <| RK hK1 <| WS fun _ hK3 => rS (CL alive_c (ha_nil) rfl) <| rS (AG rfl) <| RK hK3 <| w_seq fun _ hK4 => WS fun _ hK5 => ?_
 refine rS (LW 0 rfl tk32 rfl rfl) <| rS (CL (ready_c d kA kC pA pC nA nC hraw) (ha_at 1 rfl rfl <| ha_at 2 rfl rfl <| ha_at 3 rfl rfl <| ha_nil) rfl) <| rS (NT rfl) <| rS (MV rfl) ?_
 refine r_bool (t := 21) rfl (fun hg21 => ?_) (fun hg21 => ?_)
 · replace hg21 := XT hg21
   refine rS (OX rfl) <| rS (OX rfl) <| rS (PK rfl) <| RK hK5 <| w_if_true rfl <| WS fun _ hK6 => rS (MV rfl) <| rS (AG rfl) <| RK hK6 <| w_ret ?_
   refine Q1 hQ rfl rfl rfl ?_
   first | rfl | exact congrArg Value.bool (decide_eq_true (by omega))
 replace hg21 := XF hg21
 refine rS (MV rfl) <| rS (NT rfl) <| rS (PK rfl) <| RK hK5 <| w_if_false rfl <| WK hK4 <| WS fun _ hK7 => ?_
 have hin := hraw.small hg21.1
 have hge := hg21.2
 obtain ⟨htr, hok⟩ := guardE_zero hge
 have hn8 := hok.len
 have htl := trackOk_le htr
 have hfv := fewV_len (d := d)
 refine rS (LW 0 rfl tk32 rfl rfl) <| cX (Fewest_c d kA kC pA pC nA nC (by exact hin)) (ha_at 1 rfl rfl <| ha_at 2 rfl rfl <| ha_at 3 rfl rfl <| ha_nil) rfl fun y8 hy9 => ?_
 obtain ⟨a10, c11⟩ := y8
 try dsimp only
 refine rS (MV rfl) <| rS (EX rfl) <| rS (EX rfl) <| rS (AG rfl) <| rS (AG rfl) <| RK hK7 <| WS fun _ hK12 => rS (AG rfl) <| RK hK12 <| w_seq fun _ hK13 => ?_
 refine WS fun _ hK14 => rS (FA 1 rfl fo32_1 rfl) <| rS (L1 (Value.slice pA d.Posts.length pC) 1 rfl tk25 rfl rfl) <| rS (LN rfl ut25) <| rS (MV rfl) <| RK hK14 <| w_block <| w_own_nil 3 1 ?_
 have hinit : (0 ≤ d.Posts.length) := by exact Nat.zero_le _
 refine w_loop (ι := { z : Nat × (Option Addr) × Nat // (z.1 ≤ d.Posts.length) }) (fun z => [(1, (Value.int .u8 ((bn : Nat) : Int))), (2, (Value.pointer (some ⟨b2, 0, none⟩))), (5, (Value.bool true)), (6, (Value.slice a10 ((fewV d).length) c11)), (7, (Value.int .i64 (fewE d))), (8, (Value.slice z.1.2.1 ((idxL z.1.1 (bitS bn)).length) z.1.2.2)), (32, (Value.slice pA d.Posts.length pC)), (33, (Value.int .i64 ((d.Posts.length : Nat) : Int))), (34, (Value.int .i64 ((z.1.1 : Nat) : Int)))]) (fun z => [(own z.1.2.1 z.1.2.2 3 1 ((idxL z.1.1 (bitS bn)).map iC)), (own a10 c11 3 1 ((fewV d).map iC)), (blk b2 32 (GuardV.cells (GuardV.mk (TrackV.mk (Slc.mk kA d.Track.length kC)) (Slc.mk pA d.Posts.length pC) (Slc.mk nA d.Needs.length nC) d.Tower d.Radio))), (rd kA d.Track.length 9 (d.Track.map StretchV.cells)).ro, (rd pA d.Posts.length 7 (d.Posts.map PostV.cells)).ro, (rd nA d.Needs.length 3 (d.Needs.map NeedV.cells)).ro]) (fun z => d.Posts.length - z.1.1) ⟨(0, none, 0), hinit⟩ (Sub.cons rfl <| Sub.cons rfl <| Sub.cons rfl <| Sub.cons rfl <| Sub.cons rfl <| Sub.cons rfl <| Sub.cons rfl <| Sub.cons rfl <| Sub.cons rfl <| Sub.nil _) (fun w hs => St.sel [0, 1, 2, 3, 4, 5] rfl rfl hs) ?_
 clear hinit
 rintro ⟨⟨m, la, lc⟩, hl7_0⟩ J15 hJ15
 try dsimp only at hl7_0
 try dsimp only
 refine WS fun _ hK16 => rS (BI rfl b_lss) <| RK hK16 <| w_seq fun _ hK17 => ?_
 refine w_if rfl (fun h18 => ?_) (fun h18 => ?_)
 · replace h18 := DT h18
   refine WK hK17 <| w_seq fun _ hK19 => w_block <| WS fun _ hK20 => rS (MV rfl) <| rS (AG rfl) <| RK hK20 <| WS fun _ hK21 => rS (MV rfl) <| rS (MV rfl) ?_
   refine rS (BI rfl (b_shr8 (i := m) (by omega) (by omega))) <| rS (BI rfl (b_and8 (m := (bn / 2 ^ m)) (by omega) (Nat.le_trans (Nat.div_le_self _ _) (by omega)))) <| rS (BI rfl b_eql) <| RK hK21 ?_
   refine w_if rfl (fun hg41 => ?_) (fun hg41 => ?_)
   rotate_left 1
   · replace hg41 := DF hg41
     refine w_skip <| k_block <| KK hK19 <| w_region <| rS (BI rfl (b_add ⟨by omega, by omega⟩)) <| rS (MV rfl) <| r_nil ?_
     rw [show (idxL m (bitS bn)) = (idxL (m + 1) (bitS bn)) from (idxL_no (fun q => hg41 (bit_iff.2 q))).symm]
     have hb26 : (Value.int .i64 (((m + 1) : Nat) : Int)) = (Value.int .i64 (((m : Nat) : Int) + 1)) := by exact congrArg (Value.int .i64) (by omega)
     refine k_then (hJ15 ⟨((m + 1), la, lc), (by first | omega | (simp only []; omega))⟩ _ _ _ rfl (by first | omega | (simp; omega)) (Sub.cons rfl <| Sub.cons rfl <| Sub.cons rfl <| Sub.cons rfl <| Sub.cons rfl <| Sub.cons rfl <| Sub.cons rfl <| Sub.cons rfl <| sub_val rfl hb26 <| Sub.nil _) (fun w hs => St.sel [0, 1, 2, 3, 4, 5] rfl rfl hs))
   replace hg41 := DT hg41
   refine w_region <| rS (MV rfl) <| rS (MV rfl) <| r_bs (xs := [.tmp 43]) (cs := [(Value.int .i64 ((m : Nat) : Int))]) rfl te33 tz3 rfl rfl rfl rfl (by simp [Value.cells]) rfl rfl fun b22 => r_append (es2 := (List.map iC (idxL (m + 1) (bitS bn)))) (m' := (idxL (m + 1) (bitS bn)).length) 1 rfl rfl rfl ta33 rfl rfl (by simp) (has_rd_blk (es := List.map iC [((m : Nat) : Int)]) 0 rfl rfl (by simp [iC_length]) rfl) (one_iC _) (by have := idxL_len (n := m) (p := bitS bn); omega) (by have := idxL_len (n := m) (p := bitS bn); simp only [maxLen]; omega) (by rw [idxL_yes (p := bitS bn) (bit_iff.1 hg41)]; simp) (by simp) rfl fun a23 c24 => ?_
   try dsimp only
   refine rS (AG rfl) <| r_nil <| k_block <| KK hK19 <| w_region <| rS (BI rfl (b_add ⟨by omega, by omega⟩)) <| rS (MV rfl) <| r_nil ?_
   have hb25 : (Value.int .i64 (((m + 1) : Nat) : Int)) = (Value.int .i64 (((m : Nat) : Int) + 1)) := by exact congrArg (Value.int .i64) (by omega)
   refine k_then (hJ15 ⟨((m + 1), a23, c24), (by first | omega | (simp only []; omega))⟩ _ _ _ rfl (by first | omega | (simp; omega)) (Sub.cons rfl <| Sub.cons rfl <| Sub.cons rfl <| Sub.cons rfl <| Sub.cons rfl <| Sub.cons rfl <| Sub.cons rfl <| Sub.cons rfl <| sub_val rfl hb25 <| Sub.nil _) (fun w hs => St.sel [1, 2, 3, 4, 5, 6] rfl rfl hs))
 replace h18 := DF h18
 refine w_exit <| k_exit_then <| k_exit_then <| k_exit_same <| KK hK13 <| WS fun _ hK27 => ?_
 rw [show idxL m (bitS bn) = idxL d.Posts.length (bitS bn) from by rw [show m = d.Posts.length by omega]]
 refine rS (LW 2 rfl tk32 rfl rfl) ?_
 have hel := idxL_len (n := d.Posts.length) (p := bitS bn)
 refine rS (MV rfl) <| cX (only_c d kA kC pA pC nA nC (idxL d.Posts.length (bitS bn)) la lc (by exact hin) (by exact idx_b) (by omega)) (ha_at 3 rfl rfl <| ha_at 4 rfl rfl <| ha_at 5 rfl rfl <| ha_cons (has_own_n (n := (idxL d.Posts.length (bitS bn)).length) 0 rfl (by simp)) <| ha_nil) rfl fun y28 hy29 => ?_
 obtain ⟨a130, c131, a232, c233, a334, c335⟩ := y28
 try dsimp only
 refine rS (CL (lstrong_c (GuardM.mk d.Track (onlyL d (idxL d.Posts.length (bitS bn))) d.Needs d.Tower d.Radio) a130 c131 a232 c233 a334 c335 (by exact only_in hin idx_b (by omega))) (ha_cons (has_own_n (n := d.Track.length) 0 rfl (by simp)) <| ha_cons (has_own_n (n := (onlyL d (idxL d.Posts.length (bitS bn))).length) 1 rfl (by simp)) <| ha_cons (has_own_n (n := d.Needs.length) 2 rfl (by simp)) <| ha_nil) rfl) <| rS (AG rfl) <| RK hK27 <| w_seq fun _ hK36 => WS fun _ hK37 => rS (MV rfl) <| rS (BI rfl b_neq) <| RK hK37 ?_
 refine w_if rfl (fun hg52 => ?_) (fun hg52 => ?_)
 · replace hg52 := XT hg52
   refine WS fun _ hK38 => ?_
   have hn6 := few_never6 hge hg52
   refine rS (MV rfl) <| rS (MV rfl) <| rS (MV rfl) <| rS (BI rfl b_eql) <| rS (PK rfl) <| rS (MV rfl) ?_
   refine r_bool (t := 58) rfl (fun hg58 => ?_) (fun hg58 => ?_)
   rotate_left 1
   · replace hg58 := DF hg58
     exact absurd hn6.1 hg58
   replace hg58 := DT hg58
   refine rS (MV rfl) <| rS (NT rfl) <| rS (PK rfl) <| rS (MV rfl) ?_
   refine r_bool (t := 62) rfl (fun hg62 => ?_) (fun hg62 => ?_)
   rotate_left 1
   · replace hg62 := XF hg62
     exact absurd ((only_so hge).1 hg62) (hn6.2.1 _)
   replace hg62 := XT hg62
   refine rS (LW 5 rfl tk32 rfl rfl) <| rS (CL (lstrong_c d kA kC pA pC nA nC (by exact hin)) (ha_at 6 rfl rfl <| ha_at 7 rfl rfl <| ha_at 8 rfl rfl <| ha_nil) rfl) <| rS (NT rfl) <| rS (PK rfl) <| rS (MV rfl) ?_
   refine r_bool (t := 67) rfl (fun hg67 => ?_) (fun hg67 => ?_)
   rotate_left 1
   · replace hg67 := XF hg67
     exact absurd ((strong_iff hge).1 hg67) (hn6.2.1 _)
   replace hg67 := XT hg67
   refine rS (FA 2 rfl fo32_2 rfl) <| rS (L1 (Value.slice nA d.Needs.length nC) 5 rfl tk26 rfl rfl) <| rS (LN rfl ut26) <| rS (BI rfl b_gtr) <| rS (PK rfl) <| rS (AG rfl) <| RK hK38 <| w_ret <| Q1 hQ rfl rfl rfl ?_
   first | rfl | exact congrArg Value.bool (decide_eq_true (by omega))
 replace hg52 := XF hg52
 refine WK hK36 <| w_seq fun _ hK39 => WS fun _ hK40 => ?_
 have hfb := few_b hge hg52
 refine rS (MV rfl) <| rS (LN rfl ut33) <| rS (MV rfl) <| RK hK40 <| w_block ?_
 have hinit : (0 ≤ (fewV d).length) := by exact Nat.zero_le _
 refine w_loop (ι := { z : Nat // (z ≤ (fewV d).length) }) (fun z => [(2, (Value.pointer (some ⟨b2, 0, none⟩))), (5, (Value.bool true)), (6, (Value.slice a10 ((fewV d).length) c11)), (8, (Value.slice la ((idxL d.Posts.length (bitS bn)).length) lc)), (10, (Value.bool (decide (weakE (GuardM.mk d.Track (onlyL d (idxL d.Posts.length (bitS bn))) d.Needs d.Tower d.Radio) = 0 ∧ ((weakV (GuardM.mk d.Track (onlyL d (idxL d.Posts.length (bitS bn))) d.Needs d.Tower d.Radio)).length : Int) = 0)))), (73, (Value.slice a10 ((fewV d).length) c11)), (74, (Value.int .i64 (((fewV d).length : Nat) : Int))), (75, (Value.int .i64 ((z.1 : Nat) : Int)))]) (fun z => [(own a130 c131 110 9 (d.Track.map StretchV.cells)), (own a232 c233 62 7 ((onlyL d (idxL d.Posts.length (bitS bn))).map PostV.cells)), (own a334 c335 57 3 (d.Needs.map NeedV.cells)), (own la lc 3 1 ((idxL d.Posts.length (bitS bn)).map iC)), (own a10 c11 3 1 ((fewV d).map iC)), (blk b2 32 (GuardV.cells (GuardV.mk (TrackV.mk (Slc.mk kA d.Track.length kC)) (Slc.mk pA d.Posts.length pC) (Slc.mk nA d.Needs.length nC) d.Tower d.Radio))), (rd kA d.Track.length 9 (d.Track.map StretchV.cells)).ro, (rd pA d.Posts.length 7 (d.Posts.map PostV.cells)).ro, (rd nA d.Needs.length 3 (d.Needs.map NeedV.cells)).ro]) (fun z => (fewV d).length - z.1) ⟨0, hinit⟩ (Sub.cons rfl <| Sub.cons rfl <| Sub.cons rfl <| Sub.cons rfl <| Sub.cons rfl <| Sub.cons rfl <| Sub.cons rfl <| Sub.cons rfl <| Sub.nil _) (fun w hs => St.sel [0, 1, 2, 3, 4, 5, 6, 7, 8] rfl rfl hs) ?_
 clear hinit
 rintro ⟨i, hl16_0⟩ J41 hJ41
 try dsimp only
 refine WS fun _ hK42 => rS (BI rfl b_lss) <| RK hK42 <| w_seq fun _ hK43 => ?_
 refine w_if rfl (fun h44 => ?_) (fun h44 => ?_)
 · replace h44 := DT h44
   refine WK hK43 <| w_seq fun _ hK45 => w_block <| WS fun _ hK46 => rS (MV rfl) ?_
   obtain ⟨x, hx⟩ : ∃ y_, (fewV d)[i]? = some y_ := ⟨(fewV d)[i]'(by omega), List.getElem?_eq_getElem _⟩
   have hxm : ((fewV d).map iC)[i]? = some (iC x) := by rw [List.getElem?_map, hx]; rfl
   refine rS (IA i rfl (has_own_n (n := (fewV d).length) 4 rfl (by simp)) te33 (by decide) (by omega) (by omega)) <| rS (LE1 i 0 (Value.int .i64 x) rfl tk3 (has_own_n (n := (fewV d).length) 4 rfl (by simp)) hxm rfl (by decide) rfl) <| rS (AG rfl) <| rS (AG rfl) <| RK hK46 <| WS fun _ hK47 => ?_
   have hxb := hfb.2 x (List.mem_of_getElem? hx)
   refine rS (MV rfl) <| rS (BI rfl b_lss) <| rS (MV rfl) ?_
   refine r_bool (t := 82) rfl (fun hg82 => ?_) (fun hg82 => ?_)
   · replace hg82 := DT hg82
     exfalso; omega
   replace hg82 := DF hg82
   refine rS (MV rfl) <| rS (FA 1 rfl fo32_1 rfl) <| rS (L1 (Value.slice pA d.Posts.length pC) 5 rfl tk25 rfl rfl) <| rS (LN rfl ut25) <| rS (BI rfl b_geq) <| rS (PK rfl) <| rS (MV rfl) ?_
   refine r_bool (t := 89) rfl (fun hg89 => ?_) (fun hg89 => ?_)
   · replace hg89 := DT hg89
     exfalso; omega
   replace hg89 := DF hg89
   refine rS (MV rfl) <| rS (BI rfl b_gtr) <| rS (MV rfl) ?_
   refine r_bool (t := 92) rfl (fun hg92 => ?_) (fun hg92 => ?_)
   rotate_left 1
   · replace hg92 := DF hg92
     refine rS (OX rfl) <| rS (OX rfl) <| rS (OX rfl) <| rS (OX rfl) <| rS (OX rfl) <| rS (OX rfl) <| rS (OX rfl) <| rS (PK rfl) <| rS (PK rfl) <| RK hK47 ?_
     refine w_if_false rfl <| w_skip <| k_block <| KK hK45 <| w_region <| rS (BI rfl (b_add ⟨by omega, by omega⟩)) <| rS (MV rfl) <| r_nil ?_
     have hb49 : (Value.int .i64 (((i + 1) : Nat) : Int)) = (Value.int .i64 (((i : Nat) : Int) + 1)) := by exact congrArg (Value.int .i64) (by omega)
     refine k_then (hJ41 ⟨(i + 1), (by first | omega | (simp only []; omega))⟩ _ _ _ rfl (by first | omega | (simp; omega)) (Sub.cons rfl <| Sub.cons rfl <| Sub.cons rfl <| Sub.cons rfl <| Sub.cons rfl <| Sub.cons rfl <| Sub.cons rfl <| sub_val rfl hb49 <| Sub.nil _) (fun w hs => St.sel [0, 1, 2, 3, 4, 5, 6, 7, 8] rfl rfl hs))
   replace hg92 := DT hg92
   refine rS (MV rfl) <| rS (MV rfl) <| rS (MV rfl) <| rS (BI rfl (b_sub ⟨by omega, by omega⟩)) ?_
   obtain ⟨y, hy⟩ : ∃ y_, (fewV d)[(i - 1)]? = some y_ := ⟨(fewV d)[(i - 1)]'(by omega), List.getElem?_eq_getElem _⟩
   have hym : ((fewV d).map iC)[(i - 1)]? = some (iC y) := by rw [List.getElem?_map, hy]; rfl
   refine rS (IA (i - 1) rfl (has_own_n (n := (fewV d).length) 4 rfl (by simp)) te33 (by decide) (by omega) (by omega)) <| rS (LE1 (i - 1) 0 (Value.int .i64 y) rfl tk3 (has_own_n (n := (fewV d).length) 4 rfl (by simp)) hym rfl (by decide) rfl) ?_
   have hyx := few_lt hge hg52 hx hy (by omega)
   refine rS (BI rfl b_leq) <| rS (PK rfl) <| rS (PK rfl) <| RK hK47 ?_
   refine w_if rfl (fun hg101 => ?_) (fun hg101 => ?_)
   · replace hg101 := DT hg101
     exfalso; omega
   replace hg101 := DF hg101
   refine w_skip <| k_block <| KK hK45 <| w_region <| rS (BI rfl (b_add ⟨by omega, by omega⟩)) <| rS (MV rfl) <| r_nil ?_
   have hb48 : (Value.int .i64 (((i + 1) : Nat) : Int)) = (Value.int .i64 (((i : Nat) : Int) + 1)) := by exact congrArg (Value.int .i64) (by omega)
   refine k_then (hJ41 ⟨(i + 1), (by first | omega | (simp only []; omega))⟩ _ _ _ rfl (by first | omega | (simp; omega)) (Sub.cons rfl <| Sub.cons rfl <| Sub.cons rfl <| Sub.cons rfl <| Sub.cons rfl <| Sub.cons rfl <| Sub.cons rfl <| sub_val rfl hb48 <| Sub.nil _) (fun w hs => St.sel [0, 1, 2, 3, 4, 5, 6, 7, 8] rfl rfl hs))
 replace h44 := DF h44
 refine w_exit <| k_exit_then <| k_exit_then <| k_exit_same <| KK hK39 <| w_seq fun _ hK50 => WS fun _ hK51 => rS (LW 5 rfl tk32 rfl rfl) <| rS (MV rfl) <| cX (only_c d kA kC pA pC nA nC (fewV d) a10 c11 (by exact hin) (by exact hfb.2) (by omega)) (ha_at 6 rfl rfl <| ha_at 7 rfl rfl <| ha_at 8 rfl rfl <| ha_cons (has_own_n (n := (fewV d).length) 4 rfl (by simp)) <| ha_nil) rfl fun y52 hy53 => ?_
 obtain ⟨a154, c155, a256, c257, a358, c359⟩ := y52
 try dsimp only
 refine rS (CL (lstrong_c (GuardM.mk d.Track (onlyL d (fewV d)) d.Needs d.Tower d.Radio) a154 c155 a256 c257 a358 c359 (by exact only_in hin hfb.2 (by omega))) (ha_cons (has_own_n (n := d.Track.length) 0 rfl (by simp)) <| ha_cons (has_own_n (n := (onlyL d (fewV d)).length) 1 rfl (by simp)) <| ha_cons (has_own_n (n := d.Needs.length) 2 rfl (by simp)) <| ha_nil) rfl) <| rS (NT rfl) <| rS (MV rfl) ?_
 refine r_bool (t := 108) rfl (fun hg108 => ?_) (fun hg108 => ?_)
 · replace hg108 := XT hg108
   exact absurd (few_so hge hg52) hg108
 replace hg108 := XF hg108
 refine rS (FA 2 rfl fo32_2 rfl) <| rS (L1 (Value.slice nA d.Needs.length nC) 8 rfl tk26 rfl rfl) <| rS (LN rfl ut26) <| rS (BI rfl b_eql) <| rS (MV rfl) ?_
 refine r_bool (t := 113) rfl (fun hg113 => ?_) (fun hg113 => ?_)
 rotate_left 1
 · replace hg113 := DF hg113
   refine rS (OX rfl) <| rS (OX rfl) <| rS (OX rfl) <| rS (PK rfl) <| rS (PK rfl) <| rS (MV rfl) <| rS (MV rfl) <| rS (MV rfl) ?_
   refine r_bool (t := 121) rfl (fun hg121 => ?_) (fun hg121 => ?_)
   rotate_left 1
   · replace hg121 := DF hg121
     refine rS (OX rfl) <| rS (OX rfl) <| rS (OX rfl) <| rS (PK rfl) <| rS (PK rfl) <| RK hK51 <| w_if_false rfl <| WK hK50 <| WS fun _ hK141 => rS (LW 8 rfl tk32 rfl rfl) ?_
     refine rS (MV rfl) <| cX (only_c d kA kC pA pC nA nC (fewV d) a10 c11 (by exact hin) (by exact hfb.2) (by omega)) (ha_at 9 rfl rfl <| ha_at 10 rfl rfl <| ha_at 11 rfl rfl <| ha_cons (has_own_n (n := (fewV d).length) 7 rfl (by simp)) <| ha_nil) rfl fun y142 hy143 => ?_
     obtain ⟨a1144, c1145, a2146, c2147, a3148, c3149⟩ := y142
     try dsimp only
     refine AL rfl tz32 fun b150 => SW0 rfl ts32 rfl <| RK hK141 <| w_seq fun _ hK151 => WS fun _ hK152 => rS (MV rfl) <| rS (LN rfl ut33) <| rS (MV rfl) <| RK hK152 <| w_block ?_
     have hinit : (0 ≤ (fewV d).length) := by exact Nat.zero_le _
     refine w_loop (ι := { z : Nat // (z ≤ (fewV d).length) }) (fun z => [(2, (Value.pointer (some ⟨b2, 0, none⟩))), (5, (Value.bool true)), (6, (Value.slice a10 ((fewV d).length) c11)), (13, (Value.pointer (some ⟨b150, 0, none⟩))), (130, (Value.slice a10 ((fewV d).length) c11)), (131, (Value.int .i64 (((fewV d).length : Nat) : Int))), (132, (Value.int .i64 ((z.1 : Nat) : Int)))]) (fun z => [(blk b150 32 (GuardV.cells (GuardV.mk (TrackV.mk (Slc.mk a1144 d.Track.length c1145)) (Slc.mk a2146 ((onlyL d (fewV d)).length) c2147) (Slc.mk a3148 d.Needs.length c3149) d.Tower d.Radio))), (own a1144 c1145 110 9 (d.Track.map StretchV.cells)), (own a2146 c2147 62 7 ((onlyL d (fewV d)).map PostV.cells)), (own a3148 c3149 57 3 (d.Needs.map NeedV.cells)), (own a154 c155 110 9 (d.Track.map StretchV.cells)), (own a256 c257 62 7 ((onlyL d (fewV d)).map PostV.cells)), (own a358 c359 57 3 (d.Needs.map NeedV.cells)), (own a130 c131 110 9 (d.Track.map StretchV.cells)), (own a232 c233 62 7 ((onlyL d (idxL d.Posts.length (bitS bn))).map PostV.cells)), (own a334 c335 57 3 (d.Needs.map NeedV.cells)), (own la lc 3 1 ((idxL d.Posts.length (bitS bn)).map iC)), (own a10 c11 3 1 ((fewV d).map iC)), (blk b2 32 (GuardV.cells (GuardV.mk (TrackV.mk (Slc.mk kA d.Track.length kC)) (Slc.mk pA d.Posts.length pC) (Slc.mk nA d.Needs.length nC) d.Tower d.Radio))), (rd kA d.Track.length 9 (d.Track.map StretchV.cells)).ro, (rd pA d.Posts.length 7 (d.Posts.map PostV.cells)).ro, (rd nA d.Needs.length 3 (d.Needs.map NeedV.cells)).ro]) (fun z => (fewV d).length - z.1) ⟨0, hinit⟩ (Sub.cons rfl <| Sub.cons rfl <| Sub.cons rfl <| Sub.cons rfl <| Sub.cons rfl <| Sub.cons rfl <| Sub.cons rfl <| Sub.nil _) (fun w hs => St.sel [0, 1, 2, 3, 4, 5, 6, 7, 8, 9, 10, 11, 12, 13, 14, 15] rfl rfl hs) ?_
     clear hinit
     rintro ⟨j, hl25_0⟩ J153 hJ153
     try dsimp only
     refine WS fun _ hK154 => rS (BI rfl b_lss) <| RK hK154 <| w_seq fun _ hK155 => ?_
     refine w_if rfl (fun h156 => ?_) (fun h156 => ?_)
     rotate_left 1
     · replace h156 := DF h156
       refine w_exit <| k_exit_then <| k_exit_then <| k_exit_same <| KK hK151 <| WS fun _ hK167 => rS (MV rfl) <| rS (AG rfl) <| RK hK167 <| w_ret ?_
       refine Q1 hQ rfl rfl rfl ?_
       first | rfl | exact congrArg Value.bool (decide_eq_true (by omega))
     replace h156 := DT h156
     refine WK hK155 <| w_seq fun _ hK157 => w_block <| WS fun _ hK158 => rS (MV rfl) <| rS (AG rfl) <| RK hK158 <| WS fun _ hK159 => ?_
     have hfo := few_one hge hg52 (show j < (fewV d).length by omega)
     refine rS (LW 0 rfl tk32 rfl rfl) <| rS (MV rfl) <| r_bs (xs := [.tmp 137]) (cs := [(Value.int .i64 ((j : Nat) : Int))]) rfl te33 tz3 rfl rfl rfl rfl (by simp [Value.cells]) rfl rfl fun b160 => cX (Lacks_c (GuardM.mk d.Track (onlyL d (fewV d)) d.Needs d.Tower d.Radio) a1144 c1145 a2146 c2147 a3148 c3149 ([((j : Nat) : Int)]) (some ⟨b160, 0, none⟩) 1 (by exact only_in hin hfb.2 (by omega)) (by simp)) (ha_cons (has_own_n (n := d.Track.length) 2 rfl (by simp)) <| ha_cons (has_own_n (n := (onlyL d (fewV d)).length) 3 rfl (by simp)) <| ha_cons (has_own_n (n := d.Needs.length) 4 rfl (by simp)) <| ha_cons (has_rd_blk 0 rfl rfl (by simp [iC_length]) rfl) <| ha_nil) rfl fun y161 hy162 => ?_
     obtain ⟨a163, c164⟩ := y161
     try dsimp only
     refine rS (MV rfl) <| rS (EX rfl) <| rS (EX rfl) <| rS (AG rfl) <| rS (AG rfl) <| RK hK159 <| WS fun _ hK165 => rS (MV rfl) <| rS (BI rfl b_neq) <| rS (MV rfl) ?_
     refine r_bool (t := 144) rfl (fun hg144 => ?_) (fun hg144 => ?_)
     · replace hg144 := XT hg144
       exact absurd hfo.1 hg144
     replace hg144 := XF hg144
     refine rS (MV rfl) <| rS (LN rfl ut33) <| rS (BI rfl b_gtr) <| rS (PK rfl) <| RK hK165 ?_
     refine w_if rfl (fun hg148 => ?_) (fun hg148 => ?_)
     · replace hg148 := DT hg148
       exfalso; have e : (lacksV (onlyG d (fewV d)) [((j : Nat) : Int)]).length = 0 := (by rw [hfo.2]; rfl); have hg148 : 0 < ((lacksV (onlyG d (fewV d)) [((j : Nat) : Int)]).length : Int) := hg148; omega
     replace hg148 := DF hg148
     refine w_skip <| k_block <| KK hK157 <| w_region <| rS (BI rfl (b_add ⟨by omega, by omega⟩)) <| rS (MV rfl) <| r_nil ?_
     have hb166 : (Value.int .i64 (((j + 1) : Nat) : Int)) = (Value.int .i64 (((j : Nat) : Int) + 1)) := by exact congrArg (Value.int .i64) (by omega)
     refine k_then (hJ153 ⟨(j + 1), (by first | omega | (simp only []; omega))⟩ _ _ _ rfl (by first | omega | (simp; omega)) (Sub.cons rfl <| Sub.cons rfl <| Sub.cons rfl <| Sub.cons rfl <| Sub.cons rfl <| Sub.cons rfl <| sub_val rfl hb166 <| Sub.nil _) (fun w hs => St.sel [2, 3, 4, 5, 6, 7, 8, 9, 10, 11, 12, 13, 14, 15, 16, 17] rfl rfl hs))
   replace hg121 := DT hg121
   refine rS (MV rfl) <| rS (MV rfl) <| rS (CL (rbefore_c (idxL d.Posts.length (bitS bn)) la lc (fewV d) a10 c11 (by omega) (by omega)) (ha_cons (has_own_n (n := (idxL d.Posts.length (bitS bn)).length) 6 rfl (by simp)) <| ha_cons (has_own_n (n := (fewV d).length) 7 rfl (by simp)) <| ha_nil) rfl) <| rS (PK rfl) <| rS (PK rfl) <| RK hK51 ?_
   refine w_if rfl (fun hg126 => ?_) (fun hg126 => ?_)
   · replace hg126 := DT hg126
     exact absurd hg126 (few_min hge hg52 ((only_so hge).1 (by assumption)))
   replace hg126 := DF hg126
   refine WK hK50 <| WS fun _ hK114 => rS (LW 8 rfl tk32 rfl rfl) <| rS (MV rfl) <| cX (only_c d kA kC pA pC nA nC (fewV d) a10 c11 (by exact hin) (by exact hfb.2) (by omega)) (ha_at 9 rfl rfl <| ha_at 10 rfl rfl <| ha_at 11 rfl rfl <| ha_cons (has_own_n (n := (fewV d).length) 7 rfl (by simp)) <| ha_nil) rfl fun y115 hy116 => ?_
   obtain ⟨a1117, c1118, a2119, c2120, a3121, c3122⟩ := y115
   try dsimp only
   refine AL rfl tz32 fun b123 => SW0 rfl ts32 rfl <| RK hK114 <| w_seq fun _ hK124 => WS fun _ hK125 => rS (MV rfl) <| rS (LN rfl ut33) <| rS (MV rfl) <| RK hK125 <| w_block ?_
   have hinit : (0 ≤ (fewV d).length) := by exact Nat.zero_le _
   refine w_loop (ι := { z : Nat // (z ≤ (fewV d).length) }) (fun z => [(2, (Value.pointer (some ⟨b2, 0, none⟩))), (5, (Value.bool true)), (6, (Value.slice a10 ((fewV d).length) c11)), (13, (Value.pointer (some ⟨b123, 0, none⟩))), (130, (Value.slice a10 ((fewV d).length) c11)), (131, (Value.int .i64 (((fewV d).length : Nat) : Int))), (132, (Value.int .i64 ((z.1 : Nat) : Int)))]) (fun z => [(blk b123 32 (GuardV.cells (GuardV.mk (TrackV.mk (Slc.mk a1117 d.Track.length c1118)) (Slc.mk a2119 ((onlyL d (fewV d)).length) c2120) (Slc.mk a3121 d.Needs.length c3122) d.Tower d.Radio))), (own a1117 c1118 110 9 (d.Track.map StretchV.cells)), (own a2119 c2120 62 7 ((onlyL d (fewV d)).map PostV.cells)), (own a3121 c3122 57 3 (d.Needs.map NeedV.cells)), (own a154 c155 110 9 (d.Track.map StretchV.cells)), (own a256 c257 62 7 ((onlyL d (fewV d)).map PostV.cells)), (own a358 c359 57 3 (d.Needs.map NeedV.cells)), (own a130 c131 110 9 (d.Track.map StretchV.cells)), (own a232 c233 62 7 ((onlyL d (idxL d.Posts.length (bitS bn))).map PostV.cells)), (own a334 c335 57 3 (d.Needs.map NeedV.cells)), (own la lc 3 1 ((idxL d.Posts.length (bitS bn)).map iC)), (own a10 c11 3 1 ((fewV d).map iC)), (blk b2 32 (GuardV.cells (GuardV.mk (TrackV.mk (Slc.mk kA d.Track.length kC)) (Slc.mk pA d.Posts.length pC) (Slc.mk nA d.Needs.length nC) d.Tower d.Radio))), (rd kA d.Track.length 9 (d.Track.map StretchV.cells)).ro, (rd pA d.Posts.length 7 (d.Posts.map PostV.cells)).ro, (rd nA d.Needs.length 3 (d.Needs.map NeedV.cells)).ro]) (fun z => (fewV d).length - z.1) ⟨0, hinit⟩ (Sub.cons rfl <| Sub.cons rfl <| Sub.cons rfl <| Sub.cons rfl <| Sub.cons rfl <| Sub.cons rfl <| Sub.cons rfl <| Sub.nil _) (fun w hs => St.sel [0, 1, 2, 3, 4, 5, 6, 7, 8, 9, 10, 11, 12, 13, 14, 15] rfl rfl hs) ?_
   clear hinit
   rintro ⟨j, hl25_0⟩ J126 hJ126
   try dsimp only
   refine WS fun _ hK127 => rS (BI rfl b_lss) <| RK hK127 <| w_seq fun _ hK128 => ?_
   refine w_if rfl (fun h129 => ?_) (fun h129 => ?_)
   rotate_left 1
   · replace h129 := DF h129
     refine w_exit <| k_exit_then <| k_exit_then <| k_exit_same <| KK hK124 <| WS fun _ hK140 => rS (MV rfl) <| rS (AG rfl) <| RK hK140 <| w_ret ?_
     refine Q1 hQ rfl rfl rfl ?_
     first | rfl | exact congrArg Value.bool (decide_eq_true (by omega))
   replace h129 := DT h129
   refine WK hK128 <| w_seq fun _ hK130 => w_block <| WS fun _ hK131 => rS (MV rfl) <| rS (AG rfl) <| RK hK131 <| WS fun _ hK132 => ?_
   have hfo := few_one hge hg52 (show j < (fewV d).length by omega)
   refine rS (LW 0 rfl tk32 rfl rfl) <| rS (MV rfl) <| r_bs (xs := [.tmp 137]) (cs := [(Value.int .i64 ((j : Nat) : Int))]) rfl te33 tz3 rfl rfl rfl rfl (by simp [Value.cells]) rfl rfl fun b133 => cX (Lacks_c (GuardM.mk d.Track (onlyL d (fewV d)) d.Needs d.Tower d.Radio) a1117 c1118 a2119 c2120 a3121 c3122 ([((j : Nat) : Int)]) (some ⟨b133, 0, none⟩) 1 (by exact only_in hin hfb.2 (by omega)) (by simp)) (ha_cons (has_own_n (n := d.Track.length) 2 rfl (by simp)) <| ha_cons (has_own_n (n := (onlyL d (fewV d)).length) 3 rfl (by simp)) <| ha_cons (has_own_n (n := d.Needs.length) 4 rfl (by simp)) <| ha_cons (has_rd_blk 0 rfl rfl (by simp [iC_length]) rfl) <| ha_nil) rfl fun y134 hy135 => ?_
   obtain ⟨a136, c137⟩ := y134
   try dsimp only
   refine rS (MV rfl) <| rS (EX rfl) <| rS (EX rfl) <| rS (AG rfl) <| rS (AG rfl) <| RK hK132 <| WS fun _ hK138 => rS (MV rfl) <| rS (BI rfl b_neq) <| rS (MV rfl) ?_
   refine r_bool (t := 144) rfl (fun hg144 => ?_) (fun hg144 => ?_)
   · replace hg144 := XT hg144
     exact absurd hfo.1 hg144
   replace hg144 := XF hg144
   refine rS (MV rfl) <| rS (LN rfl ut33) <| rS (BI rfl b_gtr) <| rS (PK rfl) <| RK hK138 ?_
   refine w_if rfl (fun hg148 => ?_) (fun hg148 => ?_)
   · replace hg148 := DT hg148
     exfalso; have e : (lacksV (onlyG d (fewV d)) [((j : Nat) : Int)]).length = 0 := (by rw [hfo.2]; rfl); have hg148 : 0 < ((lacksV (onlyG d (fewV d)) [((j : Nat) : Int)]).length : Int) := hg148; omega
   replace hg148 := DF hg148
   refine w_skip <| k_block <| KK hK130 <| w_region <| rS (BI rfl (b_add ⟨by omega, by omega⟩)) <| rS (MV rfl) <| r_nil ?_
   have hb139 : (Value.int .i64 (((j + 1) : Nat) : Int)) = (Value.int .i64 (((j : Nat) : Int) + 1)) := by exact congrArg (Value.int .i64) (by omega)
   refine k_then (hJ126 ⟨(j + 1), (by first | omega | (simp only []; omega))⟩ _ _ _ rfl (by first | omega | (simp; omega)) (Sub.cons rfl <| Sub.cons rfl <| Sub.cons rfl <| Sub.cons rfl <| Sub.cons rfl <| Sub.cons rfl <| sub_val rfl hb139 <| Sub.nil _) (fun w hs => St.sel [2, 3, 4, 5, 6, 7, 8, 9, 10, 11, 12, 13, 14, 15, 16, 17] rfl rfl hs))
 replace hg113 := DT hg113
 refine rS (MV rfl) <| rS (LN rfl ut33) <| rS (BI rfl b_gtr) <| rS (PK rfl) <| rS (PK rfl) <| rS (MV rfl) ?_
 refine r_bool (t := 119) rfl (fun hg119 => ?_) (fun hg119 => ?_)
 · replace hg119 := DT hg119
   exfalso; have e := few_nil hge hg52 (by omega); rw [e] at hg119; simp at hg119
 replace hg119 := DF hg119
 refine rS (MV rfl) <| rS (MV rfl) ?_
 refine r_bool (t := 121) rfl (fun hg121 => ?_) (fun hg121 => ?_)
 rotate_left 1
 · replace hg121 := DF hg121
   refine rS (OX rfl) <| rS (OX rfl) <| rS (OX rfl) <| rS (PK rfl) <| rS (PK rfl) <| RK hK51 <| w_if_false rfl <| WK hK50 <| WS fun _ hK87 => rS (LW 8 rfl tk32 rfl rfl) ?_
   refine rS (MV rfl) <| cX (only_c d kA kC pA pC nA nC (fewV d) a10 c11 (by exact hin) (by exact hfb.2) (by omega)) (ha_at 9 rfl rfl <| ha_at 10 rfl rfl <| ha_at 11 rfl rfl <| ha_cons (has_own_n (n := (fewV d).length) 7 rfl (by simp)) <| ha_nil) rfl fun y88 hy89 => ?_
   obtain ⟨a190, c191, a292, c293, a394, c395⟩ := y88
   try dsimp only
   refine AL rfl tz32 fun b96 => SW0 rfl ts32 rfl <| RK hK87 <| w_seq fun _ hK97 => WS fun _ hK98 => rS (MV rfl) <| rS (LN rfl ut33) <| rS (MV rfl) <| RK hK98 <| w_block ?_
   have hinit : (0 ≤ (fewV d).length) := by exact Nat.zero_le _
   refine w_loop (ι := { z : Nat // (z ≤ (fewV d).length) }) (fun z => [(2, (Value.pointer (some ⟨b2, 0, none⟩))), (5, (Value.bool true)), (6, (Value.slice a10 ((fewV d).length) c11)), (13, (Value.pointer (some ⟨b96, 0, none⟩))), (130, (Value.slice a10 ((fewV d).length) c11)), (131, (Value.int .i64 (((fewV d).length : Nat) : Int))), (132, (Value.int .i64 ((z.1 : Nat) : Int)))]) (fun z => [(blk b96 32 (GuardV.cells (GuardV.mk (TrackV.mk (Slc.mk a190 d.Track.length c191)) (Slc.mk a292 ((onlyL d (fewV d)).length) c293) (Slc.mk a394 d.Needs.length c395) d.Tower d.Radio))), (own a190 c191 110 9 (d.Track.map StretchV.cells)), (own a292 c293 62 7 ((onlyL d (fewV d)).map PostV.cells)), (own a394 c395 57 3 (d.Needs.map NeedV.cells)), (own a154 c155 110 9 (d.Track.map StretchV.cells)), (own a256 c257 62 7 ((onlyL d (fewV d)).map PostV.cells)), (own a358 c359 57 3 (d.Needs.map NeedV.cells)), (own a130 c131 110 9 (d.Track.map StretchV.cells)), (own a232 c233 62 7 ((onlyL d (idxL d.Posts.length (bitS bn))).map PostV.cells)), (own a334 c335 57 3 (d.Needs.map NeedV.cells)), (own la lc 3 1 ((idxL d.Posts.length (bitS bn)).map iC)), (own a10 c11 3 1 ((fewV d).map iC)), (blk b2 32 (GuardV.cells (GuardV.mk (TrackV.mk (Slc.mk kA d.Track.length kC)) (Slc.mk pA d.Posts.length pC) (Slc.mk nA d.Needs.length nC) d.Tower d.Radio))), (rd kA d.Track.length 9 (d.Track.map StretchV.cells)).ro, (rd pA d.Posts.length 7 (d.Posts.map PostV.cells)).ro, (rd nA d.Needs.length 3 (d.Needs.map NeedV.cells)).ro]) (fun z => (fewV d).length - z.1) ⟨0, hinit⟩ (Sub.cons rfl <| Sub.cons rfl <| Sub.cons rfl <| Sub.cons rfl <| Sub.cons rfl <| Sub.cons rfl <| Sub.cons rfl <| Sub.nil _) (fun w hs => St.sel [0, 1, 2, 3, 4, 5, 6, 7, 8, 9, 10, 11, 12, 13, 14, 15] rfl rfl hs) ?_
   clear hinit
   rintro ⟨j, hl25_0⟩ J99 hJ99
   try dsimp only
   refine WS fun _ hK100 => rS (BI rfl b_lss) <| RK hK100 <| w_seq fun _ hK101 => ?_
   refine w_if rfl (fun h102 => ?_) (fun h102 => ?_)
   rotate_left 1
   · replace h102 := DF h102
     refine w_exit <| k_exit_then <| k_exit_then <| k_exit_same <| KK hK97 <| WS fun _ hK113 => rS (MV rfl) <| rS (AG rfl) <| RK hK113 <| w_ret ?_
     refine Q1 hQ rfl rfl rfl ?_
     first | rfl | exact congrArg Value.bool (decide_eq_true (by omega))
   replace h102 := DT h102
   refine WK hK101 <| w_seq fun _ hK103 => w_block <| WS fun _ hK104 => rS (MV rfl) <| rS (AG rfl) <| RK hK104 <| WS fun _ hK105 => ?_
   have hfo := few_one hge hg52 (show j < (fewV d).length by omega)
   refine rS (LW 0 rfl tk32 rfl rfl) <| rS (MV rfl) <| r_bs (xs := [.tmp 137]) (cs := [(Value.int .i64 ((j : Nat) : Int))]) rfl te33 tz3 rfl rfl rfl rfl (by simp [Value.cells]) rfl rfl fun b106 => cX (Lacks_c (GuardM.mk d.Track (onlyL d (fewV d)) d.Needs d.Tower d.Radio) a190 c191 a292 c293 a394 c395 ([((j : Nat) : Int)]) (some ⟨b106, 0, none⟩) 1 (by exact only_in hin hfb.2 (by omega)) (by simp)) (ha_cons (has_own_n (n := d.Track.length) 2 rfl (by simp)) <| ha_cons (has_own_n (n := (onlyL d (fewV d)).length) 3 rfl (by simp)) <| ha_cons (has_own_n (n := d.Needs.length) 4 rfl (by simp)) <| ha_cons (has_rd_blk 0 rfl rfl (by simp [iC_length]) rfl) <| ha_nil) rfl fun y107 hy108 => ?_
   obtain ⟨a109, c110⟩ := y107
   try dsimp only
   refine rS (MV rfl) <| rS (EX rfl) <| rS (EX rfl) <| rS (AG rfl) <| rS (AG rfl) <| RK hK105 <| WS fun _ hK111 => rS (MV rfl) <| rS (BI rfl b_neq) <| rS (MV rfl) ?_
   refine r_bool (t := 144) rfl (fun hg144 => ?_) (fun hg144 => ?_)
   · replace hg144 := XT hg144
     exact absurd hfo.1 hg144
   replace hg144 := XF hg144
   refine rS (MV rfl) <| rS (LN rfl ut33) <| rS (BI rfl b_gtr) <| rS (PK rfl) <| RK hK111 ?_
   refine w_if rfl (fun hg148 => ?_) (fun hg148 => ?_)
   · replace hg148 := DT hg148
     exfalso; have e : (lacksV (onlyG d (fewV d)) [((j : Nat) : Int)]).length = 0 := (by rw [hfo.2]; rfl); have hg148 : 0 < ((lacksV (onlyG d (fewV d)) [((j : Nat) : Int)]).length : Int) := hg148; omega
   replace hg148 := DF hg148
   refine w_skip <| k_block <| KK hK103 <| w_region <| rS (BI rfl (b_add ⟨by omega, by omega⟩)) <| rS (MV rfl) <| r_nil ?_
   have hb112 : (Value.int .i64 (((j + 1) : Nat) : Int)) = (Value.int .i64 (((j : Nat) : Int) + 1)) := by exact congrArg (Value.int .i64) (by omega)
   refine k_then (hJ99 ⟨(j + 1), (by first | omega | (simp only []; omega))⟩ _ _ _ rfl (by first | omega | (simp; omega)) (Sub.cons rfl <| Sub.cons rfl <| Sub.cons rfl <| Sub.cons rfl <| Sub.cons rfl <| Sub.cons rfl <| sub_val rfl hb112 <| Sub.nil _) (fun w hs => St.sel [2, 3, 4, 5, 6, 7, 8, 9, 10, 11, 12, 13, 14, 15, 16, 17] rfl rfl hs))
 replace hg121 := DT hg121
 refine rS (MV rfl) <| rS (MV rfl) <| rS (CL (rbefore_c (idxL d.Posts.length (bitS bn)) la lc (fewV d) a10 c11 (by omega) (by omega)) (ha_cons (has_own_n (n := (idxL d.Posts.length (bitS bn)).length) 6 rfl (by simp)) <| ha_cons (has_own_n (n := (fewV d).length) 7 rfl (by simp)) <| ha_nil) rfl) <| rS (PK rfl) <| rS (PK rfl) <| RK hK51 ?_
 refine w_if rfl (fun hg126 => ?_) (fun hg126 => ?_)
 · replace hg126 := DT hg126
   exact absurd hg126 (few_min hge hg52 ((only_so hge).1 (by assumption)))
 replace hg126 := DF hg126
 refine WK hK50 <| WS fun _ hK60 => rS (LW 8 rfl tk32 rfl rfl) <| rS (MV rfl) <| cX (only_c d kA kC pA pC nA nC (fewV d) a10 c11 (by exact hin) (by exact hfb.2) (by omega)) (ha_at 9 rfl rfl <| ha_at 10 rfl rfl <| ha_at 11 rfl rfl <| ha_cons (has_own_n (n := (fewV d).length) 7 rfl (by simp)) <| ha_nil) rfl fun y61 hy62 => ?_
 obtain ⟨a163, c164, a265, c266, a367, c368⟩ := y61
 try dsimp only
 refine AL rfl tz32 fun b69 => SW0 rfl ts32 rfl <| RK hK60 <| w_seq fun _ hK70 => WS fun _ hK71 => rS (MV rfl) <| rS (LN rfl ut33) <| rS (MV rfl) <| RK hK71 <| w_block ?_
 have hinit : (0 ≤ (fewV d).length) := by exact Nat.zero_le _
 refine w_loop (ι := { z : Nat // (z ≤ (fewV d).length) }) (fun z => [(2, (Value.pointer (some ⟨b2, 0, none⟩))), (5, (Value.bool true)), (6, (Value.slice a10 ((fewV d).length) c11)), (13, (Value.pointer (some ⟨b69, 0, none⟩))), (130, (Value.slice a10 ((fewV d).length) c11)), (131, (Value.int .i64 (((fewV d).length : Nat) : Int))), (132, (Value.int .i64 ((z.1 : Nat) : Int)))]) (fun z => [(blk b69 32 (GuardV.cells (GuardV.mk (TrackV.mk (Slc.mk a163 d.Track.length c164)) (Slc.mk a265 ((onlyL d (fewV d)).length) c266) (Slc.mk a367 d.Needs.length c368) d.Tower d.Radio))), (own a163 c164 110 9 (d.Track.map StretchV.cells)), (own a265 c266 62 7 ((onlyL d (fewV d)).map PostV.cells)), (own a367 c368 57 3 (d.Needs.map NeedV.cells)), (own a154 c155 110 9 (d.Track.map StretchV.cells)), (own a256 c257 62 7 ((onlyL d (fewV d)).map PostV.cells)), (own a358 c359 57 3 (d.Needs.map NeedV.cells)), (own a130 c131 110 9 (d.Track.map StretchV.cells)), (own a232 c233 62 7 ((onlyL d (idxL d.Posts.length (bitS bn))).map PostV.cells)), (own a334 c335 57 3 (d.Needs.map NeedV.cells)), (own la lc 3 1 ((idxL d.Posts.length (bitS bn)).map iC)), (own a10 c11 3 1 ((fewV d).map iC)), (blk b2 32 (GuardV.cells (GuardV.mk (TrackV.mk (Slc.mk kA d.Track.length kC)) (Slc.mk pA d.Posts.length pC) (Slc.mk nA d.Needs.length nC) d.Tower d.Radio))), (rd kA d.Track.length 9 (d.Track.map StretchV.cells)).ro, (rd pA d.Posts.length 7 (d.Posts.map PostV.cells)).ro, (rd nA d.Needs.length 3 (d.Needs.map NeedV.cells)).ro]) (fun z => (fewV d).length - z.1) ⟨0, hinit⟩ (Sub.cons rfl <| Sub.cons rfl <| Sub.cons rfl <| Sub.cons rfl <| Sub.cons rfl <| Sub.cons rfl <| Sub.cons rfl <| Sub.nil _) (fun w hs => St.sel [0, 1, 2, 3, 4, 5, 6, 7, 8, 9, 10, 11, 12, 13, 14, 15] rfl rfl hs) ?_
 clear hinit
 rintro ⟨j, hl25_0⟩ J72 hJ72
 try dsimp only
 refine WS fun _ hK73 => rS (BI rfl b_lss) <| RK hK73 <| w_seq fun _ hK74 => ?_
 refine w_if rfl (fun h75 => ?_) (fun h75 => ?_)
 rotate_left 1
 · replace h75 := DF h75
   refine w_exit <| k_exit_then <| k_exit_then <| k_exit_same <| KK hK70 <| WS fun _ hK86 => rS (MV rfl) <| rS (AG rfl) <| RK hK86 <| w_ret ?_
   refine Q1 hQ rfl rfl rfl ?_
   first | rfl | exact congrArg Value.bool (decide_eq_true (by omega))
 replace h75 := DT h75
 refine WK hK74 <| w_seq fun _ hK76 => w_block <| WS fun _ hK77 => rS (MV rfl) <| rS (AG rfl) <| RK hK77 <| WS fun _ hK78 => ?_
 have hfo := few_one hge hg52 (show j < (fewV d).length by omega)
 refine rS (LW 0 rfl tk32 rfl rfl) <| rS (MV rfl) <| r_bs (xs := [.tmp 137]) (cs := [(Value.int .i64 ((j : Nat) : Int))]) rfl te33 tz3 rfl rfl rfl rfl (by simp [Value.cells]) rfl rfl fun b79 => cX (Lacks_c (GuardM.mk d.Track (onlyL d (fewV d)) d.Needs d.Tower d.Radio) a163 c164 a265 c266 a367 c368 ([((j : Nat) : Int)]) (some ⟨b79, 0, none⟩) 1 (by exact only_in hin hfb.2 (by omega)) (by simp)) (ha_cons (has_own_n (n := d.Track.length) 2 rfl (by simp)) <| ha_cons (has_own_n (n := (onlyL d (fewV d)).length) 3 rfl (by simp)) <| ha_cons (has_own_n (n := d.Needs.length) 4 rfl (by simp)) <| ha_cons (has_rd_blk 0 rfl rfl (by simp [iC_length]) rfl) <| ha_nil) rfl fun y80 hy81 => ?_
 obtain ⟨a82, c83⟩ := y80
 try dsimp only
 refine rS (MV rfl) <| rS (EX rfl) <| rS (EX rfl) <| rS (AG rfl) <| rS (AG rfl) <| RK hK78 <| WS fun _ hK84 => rS (MV rfl) <| rS (BI rfl b_neq) <| rS (MV rfl) ?_
 refine r_bool (t := 144) rfl (fun hg144 => ?_) (fun hg144 => ?_)
 · replace hg144 := XT hg144
   exact absurd hfo.1 hg144
 replace hg144 := XF hg144
 refine rS (MV rfl) <| rS (LN rfl ut33) <| rS (BI rfl b_gtr) <| rS (PK rfl) <| RK hK84 ?_
 refine w_if rfl (fun hg148 => ?_) (fun hg148 => ?_)
 · replace hg148 := DT hg148
   exfalso; have e : (lacksV (onlyG d (fewV d)) [((j : Nat) : Int)]).length = 0 := (by rw [hfo.2]; rfl); have hg148 : 0 < ((lacksV (onlyG d (fewV d)) [((j : Nat) : Int)]).length : Int) := hg148; omega
 replace hg148 := DF hg148
 refine w_skip <| k_block <| KK hK76 <| w_region <| rS (BI rfl (b_add ⟨by omega, by omega⟩)) <| rS (MV rfl) <| r_nil ?_
 have hb85 : (Value.int .i64 (((j + 1) : Nat) : Int)) = (Value.int .i64 (((j : Nat) : Int) + 1)) := by exact congrArg (Value.int .i64) (by omega)
 refine k_then (hJ72 ⟨(j + 1), (by first | omega | (simp only []; omega))⟩ _ _ _ rfl (by first | omega | (simp; omega)) (Sub.cons rfl <| Sub.cons rfl <| Sub.cons rfl <| Sub.cons rfl <| Sub.cons rfl <| Sub.cons rfl <| sub_val rfl hb85 <| Sub.nil _) (fun w hs => St.sel [2, 3, 4, 5, 6, 7, 8, 9, 10, 11, 12, 13, 14, 15, 16, 17] rfl rfl hs))
end
section
open Go.RowKit
set_option linter.unusedVariables false
def ReadsAs {α : Type} (cells : α → List Value) (sz : Nat) (R : World → α → Prop) (w : World) (s : Slc) : Prop := ∃ l : List α, s.n = l.length ∧ (rd s.a l.length sz (l.map cells)).holds w ∧ (∀ x ∈ l, R w x) ∧ l.length ≤ maxLen ∧ s.n ≤ s.c
theorem open_guard {w : World} {s : GuardV} {R1 : World → StretchV → Prop} {R2 : World → PostV → Prop} {R3 : World → NeedV → Prop} (h1 : ReadsAs StretchV.cells 9 R1 w s.Track.Stretches) (hs : ∀ x, R1 w x → 0 ≤ x.Side ∧ x.Side ≤ 255) (h2 : ReadsAs PostV.cells 7 R2 w s.Posts) (hp : ∀ x, R2 w x → 0 ≤ x.Kind ∧ x.Kind ≤ 255) (h3 : ReadsAs NeedV.cells 3 R3 w s.Needs) (hn : ∀ x, R3 w x → 0 ≤ x.Kind ∧ x.Kind ≤ 255) :
    ∃ (d : GuardM) (kA : Option Addr) (kC : Nat) (pA : Option Addr) (pC : Nat) (nA : Option Addr) (nC : Nat), s = GuardV.mk (TrackV.mk (Slc.mk kA d.Track.length kC)) (Slc.mk pA d.Posts.length pC) (Slc.mk nA d.Needs.length nC) d.Tower d.Radio ∧ GuardRaw d ∧
      ((rd kA d.Track.length 9 (d.Track.map StretchV.cells)).holds w ∧ (rd pA d.Posts.length 7 (d.Posts.map PostV.cells)).holds w ∧ (rd nA d.Needs.length 3 (d.Needs.map NeedV.cells)).holds w) ∧ d.Tower = s.Tower ∧ d.Radio = s.Radio := by
  obtain ⟨⟨⟨ka, kn, kc⟩⟩, ⟨pa, pn, pc⟩, ⟨na, nn, nc⟩, tw, ra⟩ := s
  obtain ⟨ts, t1, t2, t3, t4, t5⟩ := h1
  obtain ⟨ps, p1, p2, p3, p4, p5⟩ := h2
  obtain ⟨ns, n1, n2, n3, n4, n5⟩ := h3
  simp only at t1 p1 n1
  subst t1 p1 n1
  exact ⟨⟨ts, ps, ns, tw, ra⟩, ka, kc, pa, pc, na, nc, rfl, ⟨t4, fun x hx => hs x (t3 x hx), p4, fun x hx => hp x (p3 x hx), n4, fun x hx => hn x (n3 x hx)⟩, ⟨t2, p2, n2⟩, rfl, rfl⟩
end
section
open Go.ChangeShapes Go.WideShapes Go.ChangeAt Go.RowKit
set_option linter.unusedVariables false
theorem cz32 : Try.prog.cellsOf 32 = 7 := by kernel_rfl
theorem cz24 : Try.prog.cellsOf 24 = 1 := by kernel_rfl
theorem cz22 : Try.prog.cellsOf 22 = 1 := by kernel_rfl
theorem cz110 : Try.prog.cellsOf 110 = 9 := by kernel_rfl
theorem cz3 : Try.prog.cellsOf 3 = 1 := by kernel_rfl
def Is3 (w : World) (n : Int) : Prop := In64 n
theorem op3 : OpR Try.prog 3 Int iC Is3 := op_i64 ut3
theorem cz28 : Try.prog.cellsOf 28 = 2 := by kernel_rfl
structure Is28 (w : World) (s : SpanV) : Prop where
  Lo : Is3 w s.Lo
  Hi : Is3 w s.Hi
theorem fx28 : fL Try.prog 28 = some [(3, 0), (3, 1)] := by kernel_rfl
theorem op28 : OpR Try.prog 28 SpanV SpanV.cells Is28 := fun {H} enc w base sp held fuel cs x h => by
  obtain ⟨hl, hp⟩ := op_parts fx28 h
  obtain ⟨n0, y0, h0⟩ := hp 0 3 0 rfl
  obtain ⟨s0, c0, r0⟩ := op3 _ _ _ _ _ _ _ _ h0
  obtain ⟨n1, y1, h1⟩ := hp 1 3 1 rfl
  obtain ⟨s1, c1, r1⟩ := op3 _ _ _ _ _ _ _ _ h1
  refine ⟨⟨s0, s1⟩, ?_, ⟨r0, r1⟩⟩
  have e1 := parts_last (hl.trans cz28) (by rw [cz3]) c1
  have e0 := parts_cons c0 (m := 1) (by rw [cz3]) e1
  exact e0
theorem cz5 : Try.prog.cellsOf 5 = 1 := by kernel_rfl
def Is5 (w : World) (n : Int) : Prop := 0 ≤ n ∧ n ≤ 255
theorem op5 : OpR Try.prog 5 Int iC_u8 Is5 := op_u8 ut5
structure Is110 (w : World) (s : StretchV) : Prop where
  Id : Is3 w s.Id
  Long : Is28 w s.Long
  Fall : Is28 w s.Fall
  Radius : Is28 w s.Radius
  Side : Is5 w s.Side
  Wall : Is3 w s.Wall
theorem fx110 : fL Try.prog 110 = some [(3, 0), (28, 1), (28, 3), (28, 5), (5, 7), (3, 8)] := by kernel_rfl
theorem op110 : OpR Try.prog 110 StretchV StretchV.cells Is110 := fun {H} enc w base sp held fuel cs x h => by
  obtain ⟨hl, hp⟩ := op_parts fx110 h
  obtain ⟨n0, y0, h0⟩ := hp 0 3 0 rfl
  obtain ⟨s0, c0, r0⟩ := op3 _ _ _ _ _ _ _ _ h0
  obtain ⟨n1, y1, h1⟩ := hp 1 28 1 rfl
  obtain ⟨s1, c1, r1⟩ := op28 _ _ _ _ _ _ _ _ h1
  obtain ⟨n2, y2, h2⟩ := hp 2 28 3 rfl
  obtain ⟨s2, c2, r2⟩ := op28 _ _ _ _ _ _ _ _ h2
  obtain ⟨n3, y3, h3⟩ := hp 3 28 5 rfl
  obtain ⟨s3, c3, r3⟩ := op28 _ _ _ _ _ _ _ _ h3
  obtain ⟨n4, y4, h4⟩ := hp 4 5 7 rfl
  obtain ⟨s4, c4, r4⟩ := op5 _ _ _ _ _ _ _ _ h4
  obtain ⟨n5, y5, h5⟩ := hp 5 3 8 rfl
  obtain ⟨s5, c5, r5⟩ := op3 _ _ _ _ _ _ _ _ h5
  refine ⟨⟨s0, s1, s2, s3, s4, s5⟩, ?_, ⟨r0, r1, r2, r3, r4, r5⟩⟩
  have e5 := parts_last (hl.trans cz110) (by rw [cz3]) c5
  have e4 := parts_cons c4 (m := 8) (by rw [cz5]) e5
  have e3 := parts_cons c3 (m := 7) (by rw [cz28]) e4
  have e2 := parts_cons c2 (m := 5) (by rw [cz28]) e3
  have e1 := parts_cons c1 (m := 3) (by rw [cz28]) e2
  have e0 := parts_cons c0 (m := 1) (by rw [cz3]) e1
  exact e0
def Is22 (w : World) (s : Slc) : Prop := ∃ l : List StretchV, s.n = l.length ∧ (rd s.a l.length 9 (l.map StretchV.cells)).holds w ∧ (∀ x ∈ l, Is110 w x) ∧ l.length ≤ maxLen ∧ s.n ≤ s.c
theorem op22 : OpR Try.prog 22 Slc (fun s => [Value.slice s.a s.n s.c]) Is22 := op_slice ut22 cz110 op110
structure Is24 (w : World) (s : TrackV) : Prop where
  Stretches : Is22 w s.Stretches
theorem fx24 : fL Try.prog 24 = some [(22, 0)] := by kernel_rfl
theorem op24 : OpR Try.prog 24 TrackV TrackV.cells Is24 := fun {H} enc w base sp held fuel cs x h => by
  obtain ⟨hl, hp⟩ := op_parts fx24 h
  obtain ⟨n0, y0, h0⟩ := hp 0 22 0 rfl
  obtain ⟨s0, c0, r0⟩ := op22 _ _ _ _ _ _ _ _ h0
  refine ⟨⟨s0⟩, ?_, ⟨r0⟩⟩
  have e0 := parts_last (hl.trans cz24) (by rw [cz22]) c0
  exact e0
theorem cz25 : Try.prog.cellsOf 25 = 1 := by kernel_rfl
theorem cz62 : Try.prog.cellsOf 62 = 7 := by kernel_rfl
theorem cz30 : Try.prog.cellsOf 30 = 3 := by kernel_rfl
structure Is30 (w : World) (s : SpotV) : Prop where
  Stretch : Is3 w s.Stretch
  Off : Is28 w s.Off
theorem fx30 : fL Try.prog 30 = some [(3, 0), (28, 1)] := by kernel_rfl
theorem op30 : OpR Try.prog 30 SpotV SpotV.cells Is30 := fun {H} enc w base sp held fuel cs x h => by
  obtain ⟨hl, hp⟩ := op_parts fx30 h
  obtain ⟨n0, y0, h0⟩ := hp 0 3 0 rfl
  obtain ⟨s0, c0, r0⟩ := op3 _ _ _ _ _ _ _ _ h0
  obtain ⟨n1, y1, h1⟩ := hp 1 28 1 rfl
  obtain ⟨s1, c1, r1⟩ := op28 _ _ _ _ _ _ _ _ h1
  refine ⟨⟨s0, s1⟩, ?_, ⟨r0, r1⟩⟩
  have e1 := parts_last (hl.trans cz30) (by rw [cz28]) c1
  have e0 := parts_cons c0 (m := 1) (by rw [cz3]) e1
  exact e0
structure Is62 (w : World) (s : PostV) : Prop where
  Id : Is3 w s.Id
  Kind : Is5 w s.Kind
  Spot : Is30 w s.Spot
  Delay : Is3 w s.Delay
  Pace : Is3 w s.Pace
theorem fx62 : fL Try.prog 62 = some [(3, 0), (5, 1), (30, 2), (3, 5), (3, 6)] := by kernel_rfl
theorem op62 : OpR Try.prog 62 PostV PostV.cells Is62 := fun {H} enc w base sp held fuel cs x h => by
  obtain ⟨hl, hp⟩ := op_parts fx62 h
  obtain ⟨n0, y0, h0⟩ := hp 0 3 0 rfl
  obtain ⟨s0, c0, r0⟩ := op3 _ _ _ _ _ _ _ _ h0
  obtain ⟨n1, y1, h1⟩ := hp 1 5 1 rfl
  obtain ⟨s1, c1, r1⟩ := op5 _ _ _ _ _ _ _ _ h1
  obtain ⟨n2, y2, h2⟩ := hp 2 30 2 rfl
  obtain ⟨s2, c2, r2⟩ := op30 _ _ _ _ _ _ _ _ h2
  obtain ⟨n3, y3, h3⟩ := hp 3 3 5 rfl
  obtain ⟨s3, c3, r3⟩ := op3 _ _ _ _ _ _ _ _ h3
  obtain ⟨n4, y4, h4⟩ := hp 4 3 6 rfl
  obtain ⟨s4, c4, r4⟩ := op3 _ _ _ _ _ _ _ _ h4
  refine ⟨⟨s0, s1, s2, s3, s4⟩, ?_, ⟨r0, r1, r2, r3, r4⟩⟩
  have e4 := parts_last (hl.trans cz62) (by rw [cz3]) c4
  have e3 := parts_cons c3 (m := 6) (by rw [cz3]) e4
  have e2 := parts_cons c2 (m := 5) (by rw [cz30]) e3
  have e1 := parts_cons c1 (m := 2) (by rw [cz5]) e2
  have e0 := parts_cons c0 (m := 1) (by rw [cz3]) e1
  exact e0
def Is25 (w : World) (s : Slc) : Prop := ∃ l : List PostV, s.n = l.length ∧ (rd s.a l.length 7 (l.map PostV.cells)).holds w ∧ (∀ x ∈ l, Is62 w x) ∧ l.length ≤ maxLen ∧ s.n ≤ s.c
theorem op25 : OpR Try.prog 25 Slc (fun s => [Value.slice s.a s.n s.c]) Is25 := op_slice ut25 cz62 op62
theorem cz26 : Try.prog.cellsOf 26 = 1 := by kernel_rfl
theorem cz57 : Try.prog.cellsOf 57 = 3 := by kernel_rfl
structure Is57 (w : World) (s : NeedV) : Prop where
  Stretch : Is3 w s.Stretch
  Kind : Is5 w s.Kind
  Seconds : Is3 w s.Seconds
theorem fx57 : fL Try.prog 57 = some [(3, 0), (5, 1), (3, 2)] := by kernel_rfl
theorem op57 : OpR Try.prog 57 NeedV NeedV.cells Is57 := fun {H} enc w base sp held fuel cs x h => by
  obtain ⟨hl, hp⟩ := op_parts fx57 h
  obtain ⟨n0, y0, h0⟩ := hp 0 3 0 rfl
  obtain ⟨s0, c0, r0⟩ := op3 _ _ _ _ _ _ _ _ h0
  obtain ⟨n1, y1, h1⟩ := hp 1 5 1 rfl
  obtain ⟨s1, c1, r1⟩ := op5 _ _ _ _ _ _ _ _ h1
  obtain ⟨n2, y2, h2⟩ := hp 2 3 2 rfl
  obtain ⟨s2, c2, r2⟩ := op3 _ _ _ _ _ _ _ _ h2
  refine ⟨⟨s0, s1, s2⟩, ?_, ⟨r0, r1, r2⟩⟩
  have e2 := parts_last (hl.trans cz57) (by rw [cz3]) c2
  have e1 := parts_cons c1 (m := 2) (by rw [cz5]) e2
  have e0 := parts_cons c0 (m := 1) (by rw [cz3]) e1
  exact e0
def Is26 (w : World) (s : Slc) : Prop := ∃ l : List NeedV, s.n = l.length ∧ (rd s.a l.length 3 (l.map NeedV.cells)).holds w ∧ (∀ x ∈ l, Is57 w x) ∧ l.length ≤ maxLen ∧ s.n ≤ s.c
theorem op26 : OpR Try.prog 26 Slc (fun s => [Value.slice s.a s.n s.c]) Is26 := op_slice ut26 cz57 op57
structure Is32 (w : World) (s : GuardV) : Prop where
  Track : Is24 w s.Track
  Posts : Is25 w s.Posts
  Needs : Is26 w s.Needs
  Tower : Is30 w s.Tower
  Radio : Is3 w s.Radio
theorem fx32 : fL Try.prog 32 = some [(24, 0), (25, 1), (26, 2), (30, 3), (3, 6)] := by kernel_rfl
theorem op32 : OpR Try.prog 32 GuardV GuardV.cells Is32 := fun {H} enc w base sp held fuel cs x h => by
  obtain ⟨hl, hp⟩ := op_parts fx32 h
  obtain ⟨n0, y0, h0⟩ := hp 0 24 0 rfl
  obtain ⟨s0, c0, r0⟩ := op24 _ _ _ _ _ _ _ _ h0
  obtain ⟨n1, y1, h1⟩ := hp 1 25 1 rfl
  obtain ⟨s1, c1, r1⟩ := op25 _ _ _ _ _ _ _ _ h1
  obtain ⟨n2, y2, h2⟩ := hp 2 26 2 rfl
  obtain ⟨s2, c2, r2⟩ := op26 _ _ _ _ _ _ _ _ h2
  obtain ⟨n3, y3, h3⟩ := hp 3 30 3 rfl
  obtain ⟨s3, c3, r3⟩ := op30 _ _ _ _ _ _ _ _ h3
  obtain ⟨n4, y4, h4⟩ := hp 4 3 6 rfl
  obtain ⟨s4, c4, r4⟩ := op3 _ _ _ _ _ _ _ _ h4
  refine ⟨⟨s0, s1, s2, s3, s4⟩, ?_, ⟨r0, r1, r2, r3, r4⟩⟩
  have e4 := parts_last (hl.trans cz32) (by rw [cz3]) c4
  have e3 := parts_cons c3 (m := 6) (by rw [cz30]) e4
  have e2 := parts_cons c2 (m := 3) (by rw [cz26]) e3
  have e1 := parts_cons c1 (m := 2) (by rw [cz25]) e2
  have e0 := parts_cons c0 (m := 1) (by rw [cz24]) e1
  exact e0
theorem own_postFewest : ownKnob Try.prog.godebug = none := by kernel_rfl
theorem laid_postFewest : laidOutB Try.prog = true := by kernel_rfl
set_option maxRecDepth 100000 in
theorem postFewest_lifted (os : Os) (started : os.Started) (H : Type) (enc : TypeId × Value → H) :
    ReturnsInHanded {} Try.checked os 10 .any (Rows.postFewestSpec.pre6 enc Try.prog Try.f10 Rows.postFewestRow.domain false) (Rows.postFewestSpec.post enc Try.prog Try.f10 false true false false) := by
  refine returnsInHanded_of_change (C := Try.checked) own_postFewest started (by kernel_rfl) Try.func10
    (ChangeSpec.witness6 (enc := enc) (C := Try.checked) false ⟨#[], #[.agg #[(Value.slice none 0 0), (Value.slice none 0 0), (Value.slice none 0 0), (Value.int .i64 0), (Value.int .i64 0), (Value.int .i64 0), (Value.int .i64 0)], Value.int .u8 0], []⟩ 8 (by kernel_rfl) (by kernel_rfl) (by kernel_rfl) (by kernel_rfl)) ?_
  intro W base args ds gs before hval0 hW hcnd _
  have hval : ∀ (j : Nat) t v, Try.f10.params[j]? = some t → args[j]? = some v → Value.okWide Try.prog W .any base t v := hval0
  have hW' := hW
  obtain ⟨p, q, hA0, hV, rfl, hfz, hnd⟩ := hW
  have hA : DataW.TrodAll enc Try.prog W 0 (fun _ => true) true Try.f10.params.toList args.toList ds p := hA0
  have hA1 := hA
  rw [Try.params10] at hA hval
  obtain ⟨v0, vs0, d0, ds0, p0, q0, hargs, rfl, rfl, h0, r0⟩ := trodAll_cons hA
  obtain ⟨v1, vs1, d1, ds1, p1, q1, rfl, rfl, rfl, h1, r1⟩ := trodAll_cons r0
  obtain ⟨rfl, rfl, rfl⟩ := trodAll_nil r1
  obtain rfl : args = #[v0, v1] := by cases args; simp_all
  obtain ⟨rfl, rfl⟩ := trodVars_none hV
  obtain ⟨s0, rfl, R0⟩ := arg_struct fx32 op32 (hval 0 32 v0 rfl rfl) h0
  obtain ⟨s1, rfl, R1⟩ := arg_int (k := .u8) ut5 (hval 1 5 v1 rfl rfl) h1
  simp only [List.append_nil] at hW' hA1
  obtain ⟨d, kA, kC, pA, pC, nA, nC, rfl, hraw, hg3, _⟩ := open_guard (R1 := Is110) (R2 := Is62) (R3 := Is57) R0.Track.Stretches (fun x hx => hx.Side) R0.Posts (fun x hx => hx.Kind) R0.Needs (fun x hx => hx.Kind)
  have hb8 : 0 ≤ s1 ∧ s1 ≤ 255 := R1
  obtain ⟨bn, rfl⟩ : ∃ bn : Nat, s1 = (bn : Int) := ⟨s1.toNat, by omega⟩
  have hrun := (postFewest_c d kA kC pA pC nA nC bn hraw (by omega)).run W (by intro A hA; simp only [List.mem_cons, List.not_mem_nil, or_false] at hA; rcases hA with rfl | rfl | rfl; exact hg3.1; exact hg3.2.1; exact hg3.2.2)
  refine (hrun).mono fun e W' ⟨he, hk⟩ => ?_
  subst he
  exact ⟨_, rfl, law_post laid_postFewest hW' hA1 rfl rfl (by kernel_rfl) hk.below (by kernel_rfl) ut4⟩
/-- the statement -/
theorem postFewest_said : Rows.PostFewestSaid :=
  OpenClaim.holds_of_wide 10 Try.f10 rfl rfl rfl rfl rfl rfl rfl ⟨rfl, rfl, rfl, rfl, rfl⟩ rfl rfl rfl rfl rfl (by kernel_rfl) Try.func10 (by kernel_rfl)
    (of_decide_eq_true (by kernel_rfl)) (by unfold Func.isWrapper; first | (rw [if_pos (by decide +kernel)]; kernel_rfl) | (rw [if_neg (by decide +kernel)]; exact ⟨rfl, rfl⟩))
    (fun os started H enc _ => postFewest_lifted os started H enc)
#print axioms postFewest_said
end
end Go.Proofs.Ytlncplfcbmcjgaa
