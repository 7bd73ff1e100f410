/-
  The statement postWeak_said, part 5 of 5: X2, GuardOpen, Weak0.
  Conditions: none.
-/
import Derived.Test.YtlncplfcbmcjgaaKPw1
import Derived.Test.YtlncplfcbmcjgaaKPw2
import Derived.Test.YtlncplfcbmcjgaaKPw3
import Derived.Test.YtlncplfcbmcjgaaKPw4
import Derived.Test.YtlncplfcbmcjgaaRows
import Derived.Test.YtlncplfcbmcjgaaProg
import Derived.KernelRfl
namespace Go.Proofs.Ytlncplfcbmcjgaa
section
open Go.RowKit
set_option linter.unusedVariables false
set_option maxRecDepth 100000 in
set_option maxHeartbeats 4000000 in
theorem postWeak_c (d : GuardM) (kA : Option Addr) (kC : Nat) (pA : Option Addr) (pC : Nat) (nA : Option Addr) (nC : Nat) (bn : Nat) (hraw : GuardRaw d) (hbn : bn ≤ 255) :
    FnV Try.prog 9 [(Value.agg (GuardV.cells (GuardV.mk (TrackV.mk (Slc.mk kA d.Track.length kC)) (Slc.mk pA d.Posts.length pC) (Slc.mk nA d.Needs.length nC) d.Tower d.Radio)).toArray), (Value.int .u8 ((bn : Nat) : Int))] [(rd kA d.Track.length 9 (d.Track.map StretchV.cells)), (rd pA d.Posts.length 7 (d.Posts.map PostV.cells)), (rd nA d.Needs.length 3 (d.Needs.map NeedV.cells))] (Value.bool true) := by
 refine fnV_of go9 Try.func9 rfl rfl fun w0 Q hQ hN => ?_
 try dsimp only
 refine WS fun _ hK1 => BXA rfl fun b2 => rS (AG rfl) <| RK hK1 <| WS fun _ hK3 => rS (CL alive_c (ha_nil) rfl) <| rS (AG rfl) <| RK hK3 <| w_seq fun _ hK4 => WS fun _ hK5 => ?_
 refine rS (LW 0 rfl tk32 rfl rfl) <| rS (CL (ready_c d kA kC pA pC nA nC hraw) (ha_at 1 rfl rfl <| ha_at 2 rfl rfl <| ha_at 3 rfl rfl <| ha_nil) rfl) <| rS (NT rfl) <| rS (MV rfl) ?_
 refine r_bool (t := 28) rfl (fun hg28 => ?_) (fun hg28 => ?_)
 · replace hg28 := XT hg28
   refine rS (OX rfl) <| rS (OX rfl) <| rS (PK rfl) <| RK hK5 <| w_if_true rfl <| WS fun _ hK6 => rS (MV rfl) <| rS (AG rfl) <| RK hK6 <| w_ret ?_
   refine Q1 hQ rfl rfl rfl ?_
   first | rfl | exact congrArg Value.bool (decide_eq_true (by omega))
 replace hg28 := XF hg28
 refine rS (MV rfl) <| rS (NT rfl) <| rS (PK rfl) <| RK hK5 <| w_if_false rfl <| WK hK4 <| WS fun _ hK7 => ?_
 have hin := hraw.small hg28.1
 have hge := hg28.2
 obtain ⟨htr, hok⟩ := guardE_zero hge
 have hn8 := hok.len
 have htl := trackOk_le htr
 have hl0 := lacks_nil hge
 have hwi := weak_iff hge
 have hlz : weakE d = 0 ↔ ((lacksV d []).length : Int) = 0 := ⟨fun q => by rw [hl0.2, hwi.1 q]; rfl, fun q => hwi.2 (by rw [← hl0.2]; exact List.eq_nil_of_length_eq_zero (by omega))⟩
 have hwv := weakV_len (d := d)
 have hlv := lacksV_len (d := d) (l := [])
 have hwl : (weakV d).length = (idxL d.Posts.length (WeakP d)).length := by rw [weakV_idx]
 refine rS (LW 0 rfl tk32 rfl rfl) <| cX (Weak_c d kA kC pA pC nA nC (by exact hin)) (ha_at 1 rfl rfl <| ha_at 2 rfl rfl <| ha_at 3 rfl rfl <| ha_nil) rfl fun y8 hy9 => ?_
 obtain ⟨a10, c11⟩ := y8
 try dsimp only
 refine rS (MV rfl) <| rS (EX rfl) <| rS (EX rfl) <| rS (AG rfl) <| rS (AG rfl) <| RK hK7 <| WS fun _ hK12 => rS (LW 1 rfl tk32 rfl rfl) <| cX (Lacks_c d kA kC pA pC nA nC ([]) none 0 (by exact hin) (by decide)) (ha_at 2 rfl rfl <| ha_at 3 rfl rfl <| ha_at 4 rfl rfl <| ha_cons (rd_nil _ _) <| ha_nil) rfl fun y13 hy14 => ?_
 obtain ⟨a15, c16⟩ := y13
 try dsimp only
 refine rS (MV rfl) <| rS (EX rfl) <| rS (EX rfl) <| rS (AG rfl) <| rS (AG rfl) <| RK hK12 <| w_seq fun _ hK17 => WS fun _ hK18 => rS (MV rfl) <| rS (BI rfl b_neq) ?_
 refine rS (MV rfl) ?_
 refine r_bool (t := 45) rfl (fun hg45 => ?_) (fun hg45 => ?_)
 · replace hg45 := XT hg45
   exact absurd hl0.1 hg45
 replace hg45 := XF hg45
 refine rS (MV rfl) <| rS (BI rfl b_eql) <| rS (MV rfl) <| rS (LN rfl ut33) <| rS (BI rfl b_eql) <| rS (BI rfl (b_neqb ut4)) <| rS (PK rfl) <| rS (MV rfl) ?_
 refine r_bool (t := 53) rfl (fun hg53 => ?_) (fun hg53 => ?_)
 · rw [Bool.not_eq_true'] at hg53
   first | exact absurd (decide_eq_decide.2 hlz) hg53 | exact absurd hlz hg53 | (exfalso; simp [hlz] at hg53; done)
 rw [Bool.not_eq_false'] at hg53
 refine rS (MV rfl) <| rS (BI rfl b_neq) <| rS (MV rfl) ?_
 refine r_bool (t := 56) rfl (fun hg56 => ?_) (fun hg56 => ?_)
 rotate_left 1
 · replace hg56 := XF hg56
   refine rS (OX rfl) <| rS (OX rfl) <| rS (OX rfl) <| rS (OX rfl) <| rS (OX rfl) <| rS (OX rfl) <| rS (OX rfl) <| rS (PK rfl) <| rS (PK rfl) <| RK hK18 ?_
   refine w_if_false rfl <| WK hK17 <| WS fun _ hK107 => rS (AG rfl) <| RK hK107 <| w_seq fun _ hK108 => WS fun _ hK109 => rS (FA 1 rfl fo32_1 rfl) <| rS (L1 (Value.slice pA d.Posts.length pC) 2 rfl tk25 rfl rfl) <| rS (LN rfl ut25) ?_
   refine rS (MV rfl) <| RK hK109 <| w_block ?_
   have hinit : (0 ≤ d.Posts.length) := by exact Nat.zero_le _
   have hb110 : (Value.int .i64 (((idxL 0 (WeakP d)).length : Nat) : Int)) = (Value.int .i64 0) := by rfl
   refine w_loop (ι := { z : Nat // (z ≤ d.Posts.length) }) (fun z => [(1, (Value.int .u8 ((bn : Nat) : Int))), (2, (Value.pointer (some ⟨b2, 0, none⟩))), (5, (Value.bool true)), (6, (Value.slice a10 ((weakV d).length) c11)), (7, (Value.int .i64 (weakE d))), (10, (Value.int .i64 (((idxL z.1 (WeakP d)).length : Nat) : Int))), (67, (Value.slice pA d.Posts.length pC)), (68, (Value.int .i64 ((d.Posts.length : Nat) : Int))), (69, (Value.int .i64 ((z.1 : Nat) : Int)))]) (fun z => [(own a15 c16 3 1 ((lacksV d ([])).map iC)), (own a10 c11 3 1 ((weakV d).map iC)), (blk b2 32 (GuardV.cells (GuardV.mk (TrackV.mk (Slc.mk kA d.Track.length kC)) (Slc.mk pA d.Posts.length pC) (Slc.mk nA d.Needs.length nC) d.Tower d.Radio))), (rd kA d.Track.length 9 (d.Track.map StretchV.cells)).ro, (rd pA d.Posts.length 7 (d.Posts.map PostV.cells)).ro, (rd nA d.Needs.length 3 (d.Needs.map NeedV.cells)).ro]) (fun z => d.Posts.length - z.1) ⟨0, hinit⟩ (Sub.cons rfl <| Sub.cons rfl <| Sub.cons rfl <| Sub.cons rfl <| Sub.cons rfl <| sub_val rfl hb110 <| Sub.cons rfl <| Sub.cons rfl <| Sub.cons rfl <| Sub.nil _) (fun w hs => St.sel [0, 1, 2, 3, 4, 5] rfl rfl hs) ?_
   clear hinit
   rintro ⟨j, hl10_0⟩ J111 hJ111
   try dsimp only
   refine WS fun _ hK112 => rS (BI rfl b_lss) <| RK hK112 <| w_seq fun _ hK113 => ?_
   refine w_if rfl (fun h114 => ?_) (fun h114 => ?_)
   · replace h114 := DT h114
     refine WK hK113 <| w_seq fun _ hK115 => w_block <| WS fun _ hK116 => rS (MV rfl) <| rS (AG rfl) <| RK hK116 <| WS fun _ hK117 => ?_
     have hlo := lacks_one hge (show j < d.Posts.length by omega)
     have hli := lacksV_len (d := d) (l := [((j : Nat) : Int)])
     have hji := idx_le (P := WeakP d) (show j ≤ d.Posts.length by omega)
     refine rS (LW 2 rfl tk32 rfl rfl) <| rS (MV rfl) <| r_bs (xs := [.tmp 74]) (cs := [(Value.int .i64 ((j : Nat) : Int))]) rfl te33 tz3 rfl rfl rfl rfl (by simp [Value.cells]) rfl rfl fun b118 => cX (Lacks_c d kA kC pA pC nA nC ([((j : Nat) : Int)]) (some ⟨b118, 0, none⟩) 1 (by exact hin) (by simp)) (ha_at 4 rfl rfl <| ha_at 5 rfl rfl <| ha_at 6 rfl rfl <| ha_cons (has_rd_blk 0 rfl rfl (by simp [iC_length]) rfl) <| ha_nil) rfl fun y119 hy120 => ?_
     obtain ⟨a121, c122⟩ := y119
     try dsimp only
     refine rS (MV rfl) <| rS (EX rfl) <| rS (EX rfl) <| rS (AG rfl) <| rS (AG rfl) <| RK hK117 <| WS fun _ hK123 => rS (MV rfl) <| rS (MV rfl) <| rS (LN rfl ut33) ?_
     refine rS (BI rfl b_lss) <| rS (MV rfl) ?_
     refine r_bool (t := 83) rfl (fun hg83 => ?_) (fun hg83 => ?_)
     rotate_left 1
     · replace hg83 := DF hg83
       refine rS (OX rfl) <| rS (OX rfl) <| rS (OX rfl) <| rS (OX rfl) <| rS (OX rfl) <| rS (OX rfl) <| rS (PK rfl) <| rS (AG rfl) <| RK hK123 <| w_seq fun _ hK136 => ?_
       refine WS fun _ hK137 => rS (MV rfl) <| RK hK137 <| w_if_false rfl <| WK hK136 <| WS fun _ hK138 => rS (MV rfl) <| rS (BI rfl b_neq) <| rS (MV rfl) ?_
       refine r_bool (t := 96) rfl (fun hg96 => ?_) (fun hg96 => ?_)
       · replace hg96 := XT hg96
         exact absurd hlo.1 hg96
       replace hg96 := XF hg96
       refine rS (MV rfl) <| rS (BI rfl b_eql) <| rS (MV rfl) ?_
       refine r_bool (t := 99) rfl (fun hg99 => ?_) (fun hg99 => ?_)
       rotate_left 1
       · replace hg99 := DF hg99
         refine rS (OX rfl) <| rS (OX rfl) <| rS (OX rfl) <| rS (OX rfl) <| rS (OX rfl) <| rS (PK rfl) <| rS (PK rfl) <| RK hK138 <| w_if_false rfl <| w_skip ?_
         refine k_block <| KK hK115 <| w_region <| rS (BI rfl (b_add ⟨by omega, by omega⟩)) <| rS (MV rfl) <| r_nil ?_
         have hb141 : (Value.int .i64 (((idxL (j + 1) (WeakP d)).length : Nat) : Int)) = (Value.int .i64 (((idxL j (WeakP d)).length : Nat) : Int)) := by exact congrArg (Value.int .i64) (by first | (have e := idx_len_yes (P := WeakP d) (j := j) (hxi.1 (by first | assumption | omega)); omega) | (have e := idx_len_no (P := WeakP d) (j := j) (fun q => by first | exact absurd (hxi.2 q) (by first | assumption | omega) | exact absurd (idx_lt (n := d.Posts.length) (by omega) q) (by omega)); omega))
         have hb142 : (Value.int .i64 (((j + 1) : Nat) : Int)) = (Value.int .i64 (((j : Nat) : Int) + 1)) := by exact congrArg (Value.int .i64) (by omega)
         refine k_then (hJ111 ⟨(j + 1), (by first | omega | (simp only []; omega))⟩ _ _ _ rfl (by first | omega | (simp; omega)) (Sub.cons rfl <| Sub.cons rfl <| Sub.cons rfl <| Sub.cons rfl <| Sub.cons rfl <| sub_val rfl hb141 <| Sub.cons rfl <| Sub.cons rfl <| sub_val rfl hb142 <| Sub.nil _) (fun w hs => St.sel [2, 3, 4, 5, 6, 7] rfl rfl hs))
       replace hg99 := DT hg99
       refine rS (MV rfl) <| rS (MV rfl) <| rS (LN rfl ut33) <| rS (BI rfl b_gtr) <| rS (BI rfl (b_neqb ut4)) <| rS (PK rfl) <| rS (PK rfl) <| RK hK138 ?_
       refine w_if rfl (fun hg106 => ?_) (fun hg106 => ?_)
       · rw [Bool.not_eq_true'] at hg106
         have hwp := weakP_one hge (show j < d.Posts.length by omega) hg99; first | exact (beq_no hg106 (hxi.trans hwp)).elim | exact (beq_no2 hg106 (fun q => idx_out (n := d.Posts.length) (by omega) (by omega) (hwp.2 q))).elim
       rw [Bool.not_eq_false'] at hg106
       refine w_skip <| k_block <| KK hK115 <| w_region <| rS (BI rfl (b_add ⟨by omega, by omega⟩)) <| rS (MV rfl) <| r_nil ?_
       have hb139 : (Value.int .i64 (((idxL (j + 1) (WeakP d)).length : Nat) : Int)) = (Value.int .i64 (((idxL j (WeakP d)).length : Nat) : Int)) := by exact congrArg (Value.int .i64) (by first | (have e := idx_len_yes (P := WeakP d) (j := j) (hxi.1 (by first | assumption | omega)); omega) | (have e := idx_len_no (P := WeakP d) (j := j) (fun q => by first | exact absurd (hxi.2 q) (by first | assumption | omega) | exact absurd (idx_lt (n := d.Posts.length) (by omega) q) (by omega)); omega))
       have hb140 : (Value.int .i64 (((j + 1) : Nat) : Int)) = (Value.int .i64 (((j : Nat) : Int) + 1)) := by exact congrArg (Value.int .i64) (by omega)
       refine k_then (hJ111 ⟨(j + 1), (by first | omega | (simp only []; omega))⟩ _ _ _ rfl (by first | omega | (simp; omega)) (Sub.cons rfl <| Sub.cons rfl <| Sub.cons rfl <| Sub.cons rfl <| Sub.cons rfl <| sub_val rfl hb139 <| Sub.cons rfl <| Sub.cons rfl <| sub_val rfl hb140 <| Sub.nil _) (fun w hs => St.sel [2, 3, 4, 5, 6, 7] rfl rfl hs))
     replace hg83 := DT hg83
     refine rS (MV rfl) <| rS (MV rfl) ?_
     obtain ⟨x, hx⟩ : ∃ y_, (weakV d)[(idxL j (WeakP d)).length]? = some y_ := ⟨(weakV d)[(idxL j (WeakP d)).length]'(by omega), List.getElem?_eq_getElem _⟩
     have hxm : ((weakV d).map iC)[(idxL j (WeakP d)).length]? = some (iC x) := by rw [List.getElem?_map, hx]; rfl
     refine rS (IA ((idxL j (WeakP d)).length) rfl (has_own_n (n := (weakV d).length) 3 rfl (by simp)) te33 (by decide) (by omega) (by omega)) <| rS (LE1 ((idxL j (WeakP d)).length) 0 (Value.int .i64 x) rfl tk3 (has_own_n (n := (weakV d).length) 3 rfl (by simp)) hxm rfl (by decide) rfl) ?_
     have hxi := idx_iff (P := WeakP d) (show j < d.Posts.length by omega) (by rw [← weakV_idx]; exact hx)
     refine rS (MV rfl) <| rS (BI rfl b_eql) <| rS (PK rfl) <| rS (AG rfl) <| RK hK123 <| w_seq fun _ hK124 => WS fun _ hK125 => rS (MV rfl) <| RK hK125 ?_
     refine w_if rfl (fun hg91 => ?_) (fun hg91 => ?_)
     rotate_left 1
     · replace hg91 := DF hg91
       refine WK hK124 <| WS fun _ hK131 => rS (MV rfl) <| rS (BI rfl b_neq) <| rS (MV rfl) ?_
       refine r_bool (t := 96) rfl (fun hg96 => ?_) (fun hg96 => ?_)
       · replace hg96 := XT hg96
         exact absurd hlo.1 hg96
       replace hg96 := XF hg96
       refine rS (MV rfl) <| rS (BI rfl b_eql) <| rS (MV rfl) ?_
       refine r_bool (t := 99) rfl (fun hg99 => ?_) (fun hg99 => ?_)
       rotate_left 1
       · replace hg99 := DF hg99
         refine rS (OX rfl) <| rS (OX rfl) <| rS (OX rfl) <| rS (OX rfl) <| rS (OX rfl) <| rS (PK rfl) <| rS (PK rfl) <| RK hK131 <| w_if_false rfl <| w_skip ?_
         refine k_block <| KK hK115 <| w_region <| rS (BI rfl (b_add ⟨by omega, by omega⟩)) <| rS (MV rfl) <| r_nil ?_
         have hb134 : (Value.int .i64 (((idxL (j + 1) (WeakP d)).length : Nat) : Int)) = (Value.int .i64 (((idxL j (WeakP d)).length : Nat) : Int)) := by exact congrArg (Value.int .i64) (by first | (have e := idx_len_yes (P := WeakP d) (j := j) (hxi.1 (by first | assumption | omega)); omega) | (have e := idx_len_no (P := WeakP d) (j := j) (fun q => by first | exact absurd (hxi.2 q) (by first | assumption | omega) | exact absurd (idx_lt (n := d.Posts.length) (by omega) q) (by omega)); omega))
         have hb135 : (Value.int .i64 (((j + 1) : Nat) : Int)) = (Value.int .i64 (((j : Nat) : Int) + 1)) := by exact congrArg (Value.int .i64) (by omega)
         refine k_then (hJ111 ⟨(j + 1), (by first | omega | (simp only []; omega))⟩ _ _ _ rfl (by first | omega | (simp; omega)) (Sub.cons rfl <| Sub.cons rfl <| Sub.cons rfl <| Sub.cons rfl <| Sub.cons rfl <| sub_val rfl hb134 <| Sub.cons rfl <| Sub.cons rfl <| sub_val rfl hb135 <| Sub.nil _) (fun w hs => St.sel [2, 3, 4, 5, 6, 7] rfl rfl hs))
       replace hg99 := DT hg99
       refine rS (MV rfl) <| rS (MV rfl) <| rS (LN rfl ut33) <| rS (BI rfl b_gtr) <| rS (BI rfl (b_neqb ut4)) <| rS (PK rfl) <| rS (PK rfl) <| RK hK131 ?_
       refine w_if rfl (fun hg106 => ?_) (fun hg106 => ?_)
       · rw [Bool.not_eq_true'] at hg106
         have hwp := weakP_one hge (show j < d.Posts.length by omega) hg99; first | exact (beq_no hg106 (hxi.trans hwp)).elim | exact (beq_no2 hg106 (fun q => idx_out (n := d.Posts.length) (by omega) (by omega) (hwp.2 q))).elim
       rw [Bool.not_eq_false'] at hg106
       refine w_skip <| k_block <| KK hK115 <| w_region <| rS (BI rfl (b_add ⟨by omega, by omega⟩)) <| rS (MV rfl) <| r_nil ?_
       have hb132 : (Value.int .i64 (((idxL (j + 1) (WeakP d)).length : Nat) : Int)) = (Value.int .i64 (((idxL j (WeakP d)).length : Nat) : Int)) := by exact congrArg (Value.int .i64) (by first | (have e := idx_len_yes (P := WeakP d) (j := j) (hxi.1 (by first | assumption | omega)); omega) | (have e := idx_len_no (P := WeakP d) (j := j) (fun q => by first | exact absurd (hxi.2 q) (by first | assumption | omega) | exact absurd (idx_lt (n := d.Posts.length) (by omega) q) (by omega)); omega))
       have hb133 : (Value.int .i64 (((j + 1) : Nat) : Int)) = (Value.int .i64 (((j : Nat) : Int) + 1)) := by exact congrArg (Value.int .i64) (by omega)
       refine k_then (hJ111 ⟨(j + 1), (by first | omega | (simp only []; omega))⟩ _ _ _ rfl (by first | omega | (simp; omega)) (Sub.cons rfl <| Sub.cons rfl <| Sub.cons rfl <| Sub.cons rfl <| Sub.cons rfl <| sub_val rfl hb132 <| Sub.cons rfl <| Sub.cons rfl <| sub_val rfl hb133 <| Sub.nil _) (fun w hs => St.sel [2, 3, 4, 5, 6, 7] rfl rfl hs))
     replace hg91 := DT hg91
     refine w_region <| rS (MV rfl) <| rS (BI rfl (b_add ⟨by omega, by omega⟩)) <| rS (AG rfl) <| RK hK124 <| WS fun _ hK126 => rS (MV rfl) <| rS (BI rfl b_neq) <| rS (MV rfl) ?_
     refine r_bool (t := 96) rfl (fun hg96 => ?_) (fun hg96 => ?_)
     · replace hg96 := XT hg96
       exact absurd hlo.1 hg96
     replace hg96 := XF hg96
     refine rS (MV rfl) <| rS (BI rfl b_eql) <| rS (MV rfl) ?_
     refine r_bool (t := 99) rfl (fun hg99 => ?_) (fun hg99 => ?_)
     rotate_left 1
     · replace hg99 := DF hg99
       refine rS (OX rfl) <| rS (OX rfl) <| rS (OX rfl) <| rS (OX rfl) <| rS (OX rfl) <| rS (PK rfl) <| rS (PK rfl) <| RK hK126 <| w_if_false rfl <| w_skip ?_
       refine k_block <| KK hK115 <| w_region <| rS (BI rfl (b_add ⟨by omega, by omega⟩)) <| rS (MV rfl) <| r_nil ?_
       have hb129 : (Value.int .i64 (((idxL (j + 1) (WeakP d)).length : Nat) : Int)) = (Value.int .i64 ((((idxL j (WeakP d)).length : Nat) : Int) + 1)) := by exact congrArg (Value.int .i64) (by first | (have e := idx_len_yes (P := WeakP d) (j := j) (hxi.1 (by first | assumption | omega)); omega) | (have e := idx_len_no (P := WeakP d) (j := j) (fun q => by first | exact absurd (hxi.2 q) (by first | assumption | omega) | exact absurd (idx_lt (n := d.Posts.length) (by omega) q) (by omega)); omega))
       have hb130 : (Value.int .i64 (((j + 1) : Nat) : Int)) = (Value.int .i64 (((j : Nat) : Int) + 1)) := by exact congrArg (Value.int .i64) (by omega)
       refine k_then (hJ111 ⟨(j + 1), (by first | omega | (simp only []; omega))⟩ _ _ _ rfl (by first | omega | (simp; omega)) (Sub.cons rfl <| Sub.cons rfl <| Sub.cons rfl <| Sub.cons rfl <| Sub.cons rfl <| sub_val rfl hb129 <| Sub.cons rfl <| Sub.cons rfl <| sub_val rfl hb130 <| Sub.nil _) (fun w hs => St.sel [2, 3, 4, 5, 6, 7] rfl rfl hs))
     replace hg99 := DT hg99
     refine rS (MV rfl) <| rS (MV rfl) <| rS (LN rfl ut33) <| rS (BI rfl b_gtr) <| rS (BI rfl (b_neqb ut4)) <| rS (PK rfl) <| rS (PK rfl) <| RK hK126 ?_
     refine w_if rfl (fun hg106 => ?_) (fun hg106 => ?_)
     · rw [Bool.not_eq_true'] at hg106
       have hwp := weakP_one hge (show j < d.Posts.length by omega) hg99; first | exact (beq_no hg106 (hxi.trans hwp)).elim | exact (beq_no2 hg106 (fun q => idx_out (n := d.Posts.length) (by omega) (by omega) (hwp.2 q))).elim
     rw [Bool.not_eq_false'] at hg106
     refine w_skip <| k_block <| KK hK115 <| w_region <| rS (BI rfl (b_add ⟨by omega, by omega⟩)) <| rS (MV rfl) <| r_nil ?_
     have hb127 : (Value.int .i64 (((idxL (j + 1) (WeakP d)).length : Nat) : Int)) = (Value.int .i64 ((((idxL j (WeakP d)).length : Nat) : Int) + 1)) := by exact congrArg (Value.int .i64) (by first | (have e := idx_len_yes (P := WeakP d) (j := j) (hxi.1 (by first | assumption | omega)); omega) | (have e := idx_len_no (P := WeakP d) (j := j) (fun q => by first | exact absurd (hxi.2 q) (by first | assumption | omega) | exact absurd (idx_lt (n := d.Posts.length) (by omega) q) (by omega)); omega))
     have hb128 : (Value.int .i64 (((j + 1) : Nat) : Int)) = (Value.int .i64 (((j : Nat) : Int) + 1)) := by exact congrArg (Value.int .i64) (by omega)
     refine k_then (hJ111 ⟨(j + 1), (by first | omega | (simp only []; omega))⟩ _ _ _ rfl (by first | omega | (simp; omega)) (Sub.cons rfl <| Sub.cons rfl <| Sub.cons rfl <| Sub.cons rfl <| Sub.cons rfl <| sub_val rfl hb127 <| Sub.cons rfl <| Sub.cons rfl <| sub_val rfl hb128 <| Sub.nil _) (fun w hs => St.sel [2, 3, 4, 5, 6, 7] rfl rfl hs))
   replace h114 := DF h114
   refine w_exit <| k_exit_then <| k_exit_then <| k_exit_same <| KK hK108 <| w_seq fun _ hK143 => ?_
   rw [show idxL j (WeakP d) = idxL d.Posts.length (WeakP d) from by rw [show j = d.Posts.length by omega]]
   refine w_region <| rS (AG rfl) <| RK hK143 <| w_seq fun _ hK144 => WS fun _ hK145 => rS (FA 1 rfl fo32_1 rfl) <| rS (L1 (Value.slice pA d.Posts.length pC) 2 rfl tk25 rfl rfl) <| rS (LN rfl ut25) <| rS (MV rfl) <| RK hK145 ?_
   refine w_block <| w_own_nil 3 1 ?_
   have hinit : (0 ≤ d.Posts.length) := by exact Nat.zero_le _
   refine w_loop (ι := { z : Nat × (Option Addr) × Nat // (z.1 ≤ d.Posts.length) }) (fun z => [(1, (Value.int .u8 ((bn : Nat) : Int))), (2, (Value.pointer (some ⟨b2, 0, none⟩))), (5, (Value.bool true)), (6, (Value.slice a10 ((weakV d).length) c11)), (10, (Value.int .i64 (((idxL d.Posts.length (WeakP d)).length : Nat) : Int))), (15, (Value.slice z.1.2.1 ((idxL z.1.1 (bitS bn)).length) z.1.2.2)), (109, (Value.slice pA d.Posts.length pC)), (110, (Value.int .i64 ((d.Posts.length : Nat) : Int))), (111, (Value.int .i64 ((z.1.1 : Nat) : Int)))]) (fun z => [(own z.1.2.1 z.1.2.2 3 1 ((idxL z.1.1 (bitS bn)).map iC)), (own a15 c16 3 1 ((lacksV d ([])).map iC)), (own a10 c11 3 1 ((weakV d).map iC)), (blk b2 32 (GuardV.cells (GuardV.mk (TrackV.mk (Slc.mk kA d.Track.length kC)) (Slc.mk pA d.Posts.length pC) (Slc.mk nA d.Needs.length nC) d.Tower d.Radio))), (rd kA d.Track.length 9 (d.Track.map StretchV.cells)).ro, (rd pA d.Posts.length 7 (d.Posts.map PostV.cells)).ro, (rd nA d.Needs.length 3 (d.Needs.map NeedV.cells)).ro]) (fun z => d.Posts.length - z.1.1) ⟨(0, none, 0), hinit⟩ (Sub.cons rfl <| Sub.cons rfl <| Sub.cons rfl <| Sub.cons rfl <| Sub.cons rfl <| Sub.cons rfl <| Sub.cons rfl <| Sub.cons rfl <| Sub.cons rfl <| Sub.nil _) (fun w hs => St.sel [0, 1, 2, 3, 4, 5, 6] rfl rfl hs) ?_
   clear hinit
   rintro ⟨⟨m, la, lc⟩, hl21_0⟩ J146 hJ146
   try dsimp only at hl21_0
   try dsimp only
   refine WS fun _ hK147 => rS (BI rfl b_lss) <| RK hK147 <| w_seq fun _ hK148 => ?_
   refine w_if rfl (fun h149 => ?_) (fun h149 => ?_)
   · replace h149 := DT h149
     refine WK hK148 <| w_seq fun _ hK150 => w_block <| WS fun _ hK151 => rS (MV rfl) <| rS (AG rfl) <| RK hK151 <| WS fun _ hK152 => rS (MV rfl) <| rS (MV rfl) ?_
     refine rS (BI rfl (b_shr8 (i := m) (by omega) (by omega))) <| rS (BI rfl (b_and8 (m := (bn / 2 ^ m)) (by omega) (Nat.le_trans (Nat.div_le_self _ _) (by omega)))) <| rS (BI rfl b_eql) <| RK hK152 ?_
     refine w_if rfl (fun hg118 => ?_) (fun hg118 => ?_)
     rotate_left 1
     · replace hg118 := DF hg118
       refine w_skip <| k_block <| KK hK150 <| w_region <| rS (BI rfl (b_add ⟨by omega, by omega⟩)) <| rS (MV rfl) <| r_nil ?_
       rw [show (idxL m (bitS bn)) = (idxL (m + 1) (bitS bn)) from (idxL_no (fun q => hg118 (bit_iff.2 q))).symm]
       have hb157 : (Value.int .i64 (((m + 1) : Nat) : Int)) = (Value.int .i64 (((m : Nat) : Int) + 1)) := by exact congrArg (Value.int .i64) (by omega)
       refine k_then (hJ146 ⟨((m + 1), la, lc), (by first | omega | (simp only []; omega))⟩ _ _ _ rfl (by first | omega | (simp; omega)) (Sub.cons rfl <| Sub.cons rfl <| Sub.cons rfl <| Sub.cons rfl <| Sub.cons rfl <| Sub.cons rfl <| Sub.cons rfl <| Sub.cons rfl <| sub_val rfl hb157 <| Sub.nil _) (fun w hs => St.sel [0, 1, 2, 3, 4, 5, 6] rfl rfl hs))
     replace hg118 := DT hg118
     refine w_region <| rS (MV rfl) <| rS (MV rfl) <| r_bs (xs := [.tmp 120]) (cs := [(Value.int .i64 ((m : Nat) : Int))]) rfl te33 tz3 rfl rfl rfl rfl (by simp [Value.cells]) rfl rfl fun b153 => r_append (es2 := (List.map iC (idxL (m + 1) (bitS bn)))) (m' := (idxL (m + 1) (bitS bn)).length) 1 rfl rfl rfl ta33 rfl rfl (by simp) (has_rd_blk (es := List.map iC [((m : Nat) : Int)]) 0 rfl rfl (by simp [iC_length]) rfl) (one_iC _) (by have := idxL_len (n := m) (p := bitS bn); omega) (by have := idxL_len (n := m) (p := bitS bn); simp only [maxLen]; omega) (by rw [idxL_yes (p := bitS bn) (bit_iff.1 hg118)]; simp) (by simp) rfl fun a154 c155 => ?_
     try dsimp only
     refine rS (AG rfl) <| r_nil <| k_block <| KK hK150 <| w_region <| rS (BI rfl (b_add ⟨by omega, by omega⟩)) <| rS (MV rfl) <| r_nil ?_
     have hb156 : (Value.int .i64 (((m + 1) : Nat) : Int)) = (Value.int .i64 (((m : Nat) : Int) + 1)) := by exact congrArg (Value.int .i64) (by omega)
     refine k_then (hJ146 ⟨((m + 1), a154, c155), (by first | omega | (simp only []; omega))⟩ _ _ _ rfl (by first | omega | (simp; omega)) (Sub.cons rfl <| Sub.cons rfl <| Sub.cons rfl <| Sub.cons rfl <| Sub.cons rfl <| Sub.cons rfl <| Sub.cons rfl <| Sub.cons rfl <| sub_val rfl hb156 <| Sub.nil _) (fun w hs => St.sel [1, 2, 3, 4, 5, 6, 7] rfl rfl hs))
   replace h149 := DF h149
   refine w_exit <| k_exit_then <| k_exit_then <| k_exit_same <| KK hK144 <| WS fun _ hK158 => ?_
   rw [show idxL m (bitS bn) = idxL d.Posts.length (bitS bn) from by rw [show m = d.Posts.length by omega]]
   refine rS (LW 3 rfl tk32 rfl rfl) ?_
   have hme : mannedE d (idxL d.Posts.length (bitS bn)) = 0 := manned_in hge empty_idx
   have hel := idxL_len (n := d.Posts.length) (p := bitS bn)
   have hlv2 := lacksV_len (d := d) (l := (idxL d.Posts.length (bitS bn)))
   have hll2 : (lacksV d (idxL d.Posts.length (bitS bn))).length = (idxL d.Needs.length (LackP d (notIn (idxL d.Posts.length (bitS bn))))).length := by rw [lacksV_idx hme]
   refine rS (MV rfl) <| cX (Lacks_c d kA kC pA pC nA nC (idxL d.Posts.length (bitS bn)) la lc (by exact hin) (by omega)) (ha_at 4 rfl rfl <| ha_at 5 rfl rfl <| ha_at 6 rfl rfl <| ha_cons (has_own_n (n := (idxL d.Posts.length (bitS bn)).length) 0 rfl (by simp)) <| ha_nil) rfl fun y159 hy160 => ?_
   obtain ⟨a161, c162⟩ := y159
   try dsimp only
   refine rS (MV rfl) <| rS (EX rfl) <| rS (EX rfl) <| rS (AG rfl) <| rS (AG rfl) <| RK hK158 <| w_seq fun _ hK163 => WS fun _ hK164 => rS (MV rfl) <| rS (BI rfl b_neq) ?_
   refine RK hK164 ?_
   refine w_if rfl (fun hg131 => ?_) (fun hg131 => ?_)
   · replace hg131 := XT hg131
     exact absurd hme hg131
   replace hg131 := XF hg131
   refine WK hK163 <| WS fun _ hK165 => rS (AG rfl) <| RK hK165 <| w_seq fun _ hK166 => WS fun _ hK167 => rS (FA 2 rfl fo32_2 rfl) <| rS (L1 (Value.slice nA d.Needs.length nC) 4 rfl tk26 rfl rfl) <| rS (LN rfl ut26) <| rS (MV rfl) ?_
   refine RK hK167 <| w_block ?_
   have hinit : (0 ≤ d.Needs.length) := by exact Nat.zero_le _
   have hb168 : (Value.int .i64 (((idxL 0 (LackP d (notIn (idxL d.Posts.length (bitS bn))))).length : Nat) : Int)) = (Value.int .i64 0) := by rfl
   refine w_loop (ι := { z : Nat // (z ≤ d.Needs.length) }) (fun z => [(2, (Value.pointer (some ⟨b2, 0, none⟩))), (5, (Value.bool true)), (6, (Value.slice a10 ((weakV d).length) c11)), (10, (Value.int .i64 (((idxL d.Posts.length (WeakP d)).length : Nat) : Int))), (15, (Value.slice la ((idxL d.Posts.length (bitS bn)).length) lc)), (17, (Value.slice a161 ((lacksV d (idxL d.Posts.length (bitS bn))).length) c162)), (19, (Value.int .i64 (((idxL z.1 (LackP d (notIn (idxL d.Posts.length (bitS bn))))).length : Nat) : Int))), (133, (Value.slice nA d.Needs.length nC)), (134, (Value.int .i64 ((d.Needs.length : Nat) : Int))), (135, (Value.int .i64 ((z.1 : Nat) : Int)))]) (fun z => [(own a161 c162 3 1 ((lacksV d (idxL d.Posts.length (bitS bn))).map iC)), (own la lc 3 1 ((idxL d.Posts.length (bitS bn)).map iC)), (own a15 c16 3 1 ((lacksV d ([])).map iC)), (own a10 c11 3 1 ((weakV d).map iC)), (blk b2 32 (GuardV.cells (GuardV.mk (TrackV.mk (Slc.mk kA d.Track.length kC)) (Slc.mk pA d.Posts.length pC) (Slc.mk nA d.Needs.length nC) d.Tower d.Radio))), (rd kA d.Track.length 9 (d.Track.map StretchV.cells)).ro, (rd pA d.Posts.length 7 (d.Posts.map PostV.cells)).ro, (rd nA d.Needs.length 3 (d.Needs.map NeedV.cells)).ro]) (fun z => d.Needs.length - z.1) ⟨0, hinit⟩ (Sub.cons rfl <| Sub.cons rfl <| Sub.cons rfl <| Sub.cons rfl <| Sub.cons rfl <| Sub.cons rfl <| sub_val rfl hb168 <| Sub.cons rfl <| Sub.cons rfl <| Sub.cons rfl <| Sub.nil _) (fun w hs => St.sel [0, 1, 2, 3, 4, 5, 6, 7] rfl rfl hs) ?_
   clear hinit
   rintro ⟨i, hl31_0⟩ J169 hJ169
   try dsimp only
   refine WS fun _ hK170 => rS (BI rfl b_lss) <| RK hK170 <| w_seq fun _ hK171 => ?_
   refine w_if rfl (fun h172 => ?_) (fun h172 => ?_)
   rotate_left 1
   · replace h172 := DF h172
     refine w_exit <| k_exit_then <| k_exit_then <| k_exit_same <| KK hK166 <| w_seq fun _ hK194 => ?_
     rw [show idxL i (LackP d (notIn (idxL d.Posts.length (bitS bn)))) = idxL d.Needs.length (LackP d (notIn (idxL d.Posts.length (bitS bn)))) from by rw [show i = d.Needs.length by omega]]
     refine w_region <| rS (MV rfl) <| rS (MV rfl) <| rS (MV rfl) <| rS (MV rfl) <| rS (LN rfl ut33) <| rS (BI rfl b_eql) <| rS (PK rfl) <| rS (MV rfl) ?_
     refine r_bool (t := 177) rfl (fun hg177 => ?_) (fun hg177 => ?_)
     rotate_left 1
     · replace hg177 := DF hg177
       exfalso; omega
     replace hg177 := DT hg177
     refine rS (MV rfl) <| rS (MV rfl) <| rS (LN rfl ut33) <| rS (BI rfl b_eql) <| rS (PK rfl) <| rS (AG rfl) <| RK hK194 <| w_ret <| Q1 hQ rfl rfl rfl ?_
     first | rfl | exact congrArg Value.bool (decide_eq_true (by omega))
   replace h172 := DT h172
   refine WK hK171 <| w_seq fun _ hK173 => w_block <| WS fun _ hK174 => rS (MV rfl) <| rS (AG rfl) <| RK hK174 <| WS fun _ hK175 => ?_
   have hlm := lack_meets hme (show i < d.Needs.length by omega)
   have hmv := meetsV_len (d := d) (k := ((i : Nat) : Int)) (l := (idxL d.Posts.length (bitS bn)))
   have hji := idx_le (P := LackP d (notIn (idxL d.Posts.length (bitS bn)))) (show i ≤ d.Needs.length by omega)
   refine rS (LW 4 rfl tk32 rfl rfl) <| rS (MV rfl) <| rS (MV rfl) <| cX (Meets_c d kA kC pA pC nA nC ((i : Nat) : Int) (idxL d.Posts.length (bitS bn)) la lc (by exact hin) (by omega)) (ha_at 5 rfl rfl <| ha_at 6 rfl rfl <| ha_at 7 rfl rfl <| ha_cons (has_own_n (n := (idxL d.Posts.length (bitS bn)).length) 1 rfl (by simp)) <| ha_nil) rfl fun y176 hy177 => ?_
   obtain ⟨a178, c179⟩ := y176
   try dsimp only
   refine rS (MV rfl) <| rS (EX rfl) <| rS (EX rfl) <| rS (AG rfl) <| rS (AG rfl) <| RK hK175 <| WS fun _ hK180 => rS (MV rfl) <| rS (MV rfl) <| rS (LN rfl ut33) ?_
   refine rS (BI rfl b_lss) <| rS (MV rfl) ?_
   refine r_bool (t := 149) rfl (fun hg149 => ?_) (fun hg149 => ?_)
   rotate_left 1
   · replace hg149 := DF hg149
     refine rS (OX rfl) <| rS (OX rfl) <| rS (OX rfl) <| rS (OX rfl) <| rS (OX rfl) <| rS (OX rfl) <| rS (PK rfl) <| rS (AG rfl) <| RK hK180 <| w_seq fun _ hK189 => ?_
     refine WS fun _ hK190 => rS (MV rfl) <| RK hK190 <| w_if_false rfl <| WK hK189 <| WS fun _ hK191 => rS (MV rfl) <| rS (BI rfl b_neq) <| rS (MV rfl) ?_
     refine r_bool (t := 162) rfl (fun hg162 => ?_) (fun hg162 => ?_)
     · replace hg162 := XT hg162
       exact absurd hlm.1 hg162
     replace hg162 := XF hg162
     refine rS (MV rfl) <| rS (MV rfl) <| rS (LN rfl ut33) <| rS (BI rfl b_eql) <| rS (BI rfl (b_neqb ut4)) <| rS (PK rfl) <| RK hK191 ?_
     refine w_if rfl (fun hg168 => ?_) (fun hg168 => ?_)
     · rw [Bool.not_eq_true'] at hg168
       first | exact (beq_no hg168 (hui.trans hlm.2)).elim | exact (beq_no2 hg168 (fun q => idx_out (n := d.Needs.length) (by omega) (by omega) (hlm.2.2 q))).elim
     rw [Bool.not_eq_false'] at hg168
     refine w_skip <| k_block <| KK hK173 <| w_region <| rS (BI rfl (b_add ⟨by omega, by omega⟩)) <| rS (MV rfl) <| r_nil ?_
     have hb192 : (Value.int .i64 (((idxL (i + 1) (LackP d (notIn (idxL d.Posts.length (bitS bn))))).length : Nat) : Int)) = (Value.int .i64 (((idxL i (LackP d (notIn (idxL d.Posts.length (bitS bn))))).length : Nat) : Int)) := by exact congrArg (Value.int .i64) (by first | (have e := idx_len_yes (P := LackP d (notIn (idxL d.Posts.length (bitS bn)))) (j := i) (hui.1 (by first | assumption | omega)); omega) | (have e := idx_len_no (P := LackP d (notIn (idxL d.Posts.length (bitS bn)))) (j := i) (fun q => by first | exact absurd (hui.2 q) (by first | assumption | omega) | exact absurd (idx_lt (n := d.Needs.length) (by omega) q) (by omega)); omega))
     have hb193 : (Value.int .i64 (((i + 1) : Nat) : Int)) = (Value.int .i64 (((i : Nat) : Int) + 1)) := by exact congrArg (Value.int .i64) (by omega)
     refine k_then (hJ169 ⟨(i + 1), (by first | omega | (simp only []; omega))⟩ _ _ _ rfl (by first | omega | (simp; omega)) (Sub.cons rfl <| Sub.cons rfl <| Sub.cons rfl <| Sub.cons rfl <| Sub.cons rfl <| Sub.cons rfl <| sub_val rfl hb192 <| Sub.cons rfl <| Sub.cons rfl <| sub_val rfl hb193 <| Sub.nil _) (fun w hs => St.sel [1, 2, 3, 4, 5, 6, 7, 8] rfl rfl hs))
   replace hg149 := DT hg149
   refine rS (MV rfl) <| rS (MV rfl) ?_
   obtain ⟨u, hu⟩ : ∃ y_, (lacksV d (idxL d.Posts.length (bitS bn)))[(idxL i (LackP d (notIn (idxL d.Posts.length (bitS bn))))).length]? = some y_ := ⟨(lacksV d (idxL d.Posts.length (bitS bn)))[(idxL i (LackP d (notIn (idxL d.Posts.length (bitS bn))))).length]'(by omega), List.getElem?_eq_getElem _⟩
   have hum : ((lacksV d (idxL d.Posts.length (bitS bn))).map iC)[(idxL i (LackP d (notIn (idxL d.Posts.length (bitS bn))))).length]? = some (iC u) := by rw [List.getElem?_map, hu]; rfl
   refine rS (IA ((idxL i (LackP d (notIn (idxL d.Posts.length (bitS bn))))).length) rfl (has_own_n (n := (lacksV d (idxL d.Posts.length (bitS bn))).length) 1 rfl (by simp)) te33 (by decide) (by omega) (by omega)) <| rS (LE1 ((idxL i (LackP d (notIn (idxL d.Posts.length (bitS bn))))).length) 0 (Value.int .i64 u) rfl tk3 (has_own_n (n := (lacksV d (idxL d.Posts.length (bitS bn))).length) 1 rfl (by simp)) hum rfl (by decide) rfl) ?_
   have hui := idx_iff (P := LackP d (notIn (idxL d.Posts.length (bitS bn)))) (show i < d.Needs.length by omega) (by rw [← lacksV_idx hme]; exact hu)
   refine rS (MV rfl) <| rS (BI rfl b_eql) <| rS (PK rfl) <| rS (AG rfl) <| RK hK180 <| w_seq fun _ hK181 => WS fun _ hK182 => rS (MV rfl) <| RK hK182 ?_
   refine w_if rfl (fun hg157 => ?_) (fun hg157 => ?_)
   rotate_left 1
   · replace hg157 := DF hg157
     refine WK hK181 <| WS fun _ hK186 => rS (MV rfl) <| rS (BI rfl b_neq) <| rS (MV rfl) ?_
     refine r_bool (t := 162) rfl (fun hg162 => ?_) (fun hg162 => ?_)
     · replace hg162 := XT hg162
       exact absurd hlm.1 hg162
     replace hg162 := XF hg162
     refine rS (MV rfl) <| rS (MV rfl) <| rS (LN rfl ut33) <| rS (BI rfl b_eql) <| rS (BI rfl (b_neqb ut4)) <| rS (PK rfl) <| RK hK186 ?_
     refine w_if rfl (fun hg168 => ?_) (fun hg168 => ?_)
     · rw [Bool.not_eq_true'] at hg168
       first | exact (beq_no hg168 (hui.trans hlm.2)).elim | exact (beq_no2 hg168 (fun q => idx_out (n := d.Needs.length) (by omega) (by omega) (hlm.2.2 q))).elim
     rw [Bool.not_eq_false'] at hg168
     refine w_skip <| k_block <| KK hK173 <| w_region <| rS (BI rfl (b_add ⟨by omega, by omega⟩)) <| rS (MV rfl) <| r_nil ?_
     have hb187 : (Value.int .i64 (((idxL (i + 1) (LackP d (notIn (idxL d.Posts.length (bitS bn))))).length : Nat) : Int)) = (Value.int .i64 (((idxL i (LackP d (notIn (idxL d.Posts.length (bitS bn))))).length : Nat) : Int)) := by exact congrArg (Value.int .i64) (by first | (have e := idx_len_yes (P := LackP d (notIn (idxL d.Posts.length (bitS bn)))) (j := i) (hui.1 (by first | assumption | omega)); omega) | (have e := idx_len_no (P := LackP d (notIn (idxL d.Posts.length (bitS bn)))) (j := i) (fun q => by first | exact absurd (hui.2 q) (by first | assumption | omega) | exact absurd (idx_lt (n := d.Needs.length) (by omega) q) (by omega)); omega))
     have hb188 : (Value.int .i64 (((i + 1) : Nat) : Int)) = (Value.int .i64 (((i : Nat) : Int) + 1)) := by exact congrArg (Value.int .i64) (by omega)
     refine k_then (hJ169 ⟨(i + 1), (by first | omega | (simp only []; omega))⟩ _ _ _ rfl (by first | omega | (simp; omega)) (Sub.cons rfl <| Sub.cons rfl <| Sub.cons rfl <| Sub.cons rfl <| Sub.cons rfl <| Sub.cons rfl <| sub_val rfl hb187 <| Sub.cons rfl <| Sub.cons rfl <| sub_val rfl hb188 <| Sub.nil _) (fun w hs => St.sel [1, 2, 3, 4, 5, 6, 7, 8] rfl rfl hs))
   replace hg157 := DT hg157
   refine w_region <| rS (MV rfl) <| rS (BI rfl (b_add ⟨by omega, by omega⟩)) <| rS (AG rfl) <| RK hK181 <| WS fun _ hK183 => rS (MV rfl) <| rS (BI rfl b_neq) <| rS (MV rfl) ?_
   refine r_bool (t := 162) rfl (fun hg162 => ?_) (fun hg162 => ?_)
   · replace hg162 := XT hg162
     exact absurd hlm.1 hg162
   replace hg162 := XF hg162
   refine rS (MV rfl) <| rS (MV rfl) <| rS (LN rfl ut33) <| rS (BI rfl b_eql) <| rS (BI rfl (b_neqb ut4)) <| rS (PK rfl) <| RK hK183 ?_
   refine w_if rfl (fun hg168 => ?_) (fun hg168 => ?_)
   · rw [Bool.not_eq_true'] at hg168
     first | exact (beq_no hg168 (hui.trans hlm.2)).elim | exact (beq_no2 hg168 (fun q => idx_out (n := d.Needs.length) (by omega) (by omega) (hlm.2.2 q))).elim
   rw [Bool.not_eq_false'] at hg168
   refine w_skip <| k_block <| KK hK173 <| w_region <| rS (BI rfl (b_add ⟨by omega, by omega⟩)) <| rS (MV rfl) <| r_nil ?_
   have hb184 : (Value.int .i64 (((idxL (i + 1) (LackP d (notIn (idxL d.Posts.length (bitS bn))))).length : Nat) : Int)) = (Value.int .i64 ((((idxL i (LackP d (notIn (idxL d.Posts.length (bitS bn))))).length : Nat) : Int) + 1)) := by exact congrArg (Value.int .i64) (by first | (have e := idx_len_yes (P := LackP d (notIn (idxL d.Posts.length (bitS bn)))) (j := i) (hui.1 (by first | assumption | omega)); omega) | (have e := idx_len_no (P := LackP d (notIn (idxL d.Posts.length (bitS bn)))) (j := i) (fun q => by first | exact absurd (hui.2 q) (by first | assumption | omega) | exact absurd (idx_lt (n := d.Needs.length) (by omega) q) (by omega)); omega))
   have hb185 : (Value.int .i64 (((i + 1) : Nat) : Int)) = (Value.int .i64 (((i : Nat) : Int) + 1)) := by exact congrArg (Value.int .i64) (by omega)
   refine k_then (hJ169 ⟨(i + 1), (by first | omega | (simp only []; omega))⟩ _ _ _ rfl (by first | omega | (simp; omega)) (Sub.cons rfl <| Sub.cons rfl <| Sub.cons rfl <| Sub.cons rfl <| Sub.cons rfl <| Sub.cons rfl <| sub_val rfl hb184 <| Sub.cons rfl <| Sub.cons rfl <| sub_val rfl hb185 <| Sub.nil _) (fun w hs => St.sel [1, 2, 3, 4, 5, 6, 7, 8] rfl rfl hs))
 replace hg56 := XT hg56
 refine rS (MV rfl) <| rS (BI rfl b_neq) <| rS (MV rfl) ?_
 refine r_bool (t := 59) rfl (fun hg59 => ?_) (fun hg59 => ?_)
 · replace hg59 := XT hg59
   exact absurd (weak_six hge hg56).1 hg59
 replace hg59 := XF hg59
 refine rS (MV rfl) <| rS (LN rfl ut33) <| rS (BI rfl b_neq) <| rS (PK rfl) <| rS (PK rfl) <| rS (PK rfl) <| RK hK18 ?_
 refine w_if rfl (fun hg65 => ?_) (fun hg65 => ?_)
 · replace hg65 := XT hg65
   exfalso; have h6 := weak_six hge (by first | assumption | omega); have h7 : (weakV d).length = 0 := (by rw [h6.2]; rfl); omega
 replace hg65 := XF hg65
 refine WK hK17 <| WS fun _ hK19 => rS (AG rfl) <| RK hK19 <| w_seq fun _ hK20 => WS fun _ hK21 => rS (FA 1 rfl fo32_1 rfl) <| rS (L1 (Value.slice pA d.Posts.length pC) 2 rfl tk25 rfl rfl) <| rS (LN rfl ut25) <| rS (MV rfl) ?_
 refine RK hK21 <| w_block ?_
 have hinit : (0 ≤ d.Posts.length) := by exact Nat.zero_le _
 have hb22 : (Value.int .i64 (((idxL 0 (WeakP d)).length : Nat) : Int)) = (Value.int .i64 0) := by rfl
 refine w_loop (ι := { z : Nat // (z ≤ d.Posts.length) }) (fun z => [(1, (Value.int .u8 ((bn : Nat) : Int))), (2, (Value.pointer (some ⟨b2, 0, none⟩))), (5, (Value.bool true)), (6, (Value.slice a10 ((weakV d).length) c11)), (7, (Value.int .i64 (weakE d))), (10, (Value.int .i64 (((idxL z.1 (WeakP d)).length : Nat) : Int))), (67, (Value.slice pA d.Posts.length pC)), (68, (Value.int .i64 ((d.Posts.length : Nat) : Int))), (69, (Value.int .i64 ((z.1 : Nat) : Int)))]) (fun z => [(own a15 c16 3 1 ((lacksV d ([])).map iC)), (own a10 c11 3 1 ((weakV d).map iC)), (blk b2 32 (GuardV.cells (GuardV.mk (TrackV.mk (Slc.mk kA d.Track.length kC)) (Slc.mk pA d.Posts.length pC) (Slc.mk nA d.Needs.length nC) d.Tower d.Radio))), (rd kA d.Track.length 9 (d.Track.map StretchV.cells)).ro, (rd pA d.Posts.length 7 (d.Posts.map PostV.cells)).ro, (rd nA d.Needs.length 3 (d.Needs.map NeedV.cells)).ro]) (fun z => d.Posts.length - z.1) ⟨0, hinit⟩ (Sub.cons rfl <| Sub.cons rfl <| Sub.cons rfl <| Sub.cons rfl <| Sub.cons rfl <| sub_val rfl hb22 <| Sub.cons rfl <| Sub.cons rfl <| Sub.cons rfl <| Sub.nil _) (fun w hs => St.sel [0, 1, 2, 3, 4, 5] rfl rfl hs) ?_
 clear hinit
 rintro ⟨j, hl10_0⟩ J23 hJ23
 try dsimp only
 refine WS fun _ hK24 => rS (BI rfl b_lss) <| RK hK24 <| w_seq fun _ hK25 => ?_
 refine w_if rfl (fun h26 => ?_) (fun h26 => ?_)
 · replace h26 := DT h26
   refine WK hK25 <| w_seq fun _ hK27 => w_block <| WS fun _ hK28 => rS (MV rfl) <| rS (AG rfl) <| RK hK28 <| WS fun _ hK29 => ?_
   have hlo := lacks_one hge (show j < d.Posts.length by omega)
   have hli := lacksV_len (d := d) (l := [((j : Nat) : Int)])
   have hji := idx_le (P := WeakP d) (show j ≤ d.Posts.length by omega)
   refine rS (LW 2 rfl tk32 rfl rfl) <| rS (MV rfl) <| r_bs (xs := [.tmp 74]) (cs := [(Value.int .i64 ((j : Nat) : Int))]) rfl te33 tz3 rfl rfl rfl rfl (by simp [Value.cells]) rfl rfl fun b30 => cX (Lacks_c d kA kC pA pC nA nC ([((j : Nat) : Int)]) (some ⟨b30, 0, none⟩) 1 (by exact hin) (by simp)) (ha_at 4 rfl rfl <| ha_at 5 rfl rfl <| ha_at 6 rfl rfl <| ha_cons (has_rd_blk 0 rfl rfl (by simp [iC_length]) rfl) <| ha_nil) rfl fun y31 hy32 => ?_
   obtain ⟨a33, c34⟩ := y31
   try dsimp only
   refine rS (MV rfl) <| rS (EX rfl) <| rS (EX rfl) <| rS (AG rfl) <| rS (AG rfl) <| RK hK29 <| WS fun _ hK35 => rS (MV rfl) <| rS (MV rfl) <| rS (LN rfl ut33) ?_
   refine rS (BI rfl b_lss) <| rS (MV rfl) ?_
   refine r_bool (t := 83) rfl (fun hg83 => ?_) (fun hg83 => ?_)
   rotate_left 1
   · replace hg83 := DF hg83
     refine rS (OX rfl) <| rS (OX rfl) <| rS (OX rfl) <| rS (OX rfl) <| rS (OX rfl) <| rS (OX rfl) <| rS (PK rfl) <| rS (AG rfl) <| RK hK35 <| w_seq fun _ hK48 => ?_
     refine WS fun _ hK49 => rS (MV rfl) <| RK hK49 <| w_if_false rfl <| WK hK48 <| WS fun _ hK50 => rS (MV rfl) <| rS (BI rfl b_neq) <| rS (MV rfl) ?_
     refine r_bool (t := 96) rfl (fun hg96 => ?_) (fun hg96 => ?_)
     · replace hg96 := XT hg96
       exact absurd hlo.1 hg96
     replace hg96 := XF hg96
     refine rS (MV rfl) <| rS (BI rfl b_eql) <| rS (MV rfl) ?_
     refine r_bool (t := 99) rfl (fun hg99 => ?_) (fun hg99 => ?_)
     rotate_left 1
     · replace hg99 := DF hg99
       refine rS (OX rfl) <| rS (OX rfl) <| rS (OX rfl) <| rS (OX rfl) <| rS (OX rfl) <| rS (PK rfl) <| rS (PK rfl) <| RK hK50 <| w_if_false rfl <| w_skip ?_
       refine k_block <| KK hK27 <| w_region <| rS (BI rfl (b_add ⟨by omega, by omega⟩)) <| rS (MV rfl) <| r_nil ?_
       have hb53 : (Value.int .i64 (((idxL (j + 1) (WeakP d)).length : Nat) : Int)) = (Value.int .i64 (((idxL j (WeakP d)).length : Nat) : Int)) := by exact congrArg (Value.int .i64) (by first | (have e := idx_len_yes (P := WeakP d) (j := j) (hxi.1 (by first | assumption | omega)); omega) | (have e := idx_len_no (P := WeakP d) (j := j) (fun q => by first | exact absurd (hxi.2 q) (by first | assumption | omega) | exact absurd (idx_lt (n := d.Posts.length) (by omega) q) (by omega)); omega))
       have hb54 : (Value.int .i64 (((j + 1) : Nat) : Int)) = (Value.int .i64 (((j : Nat) : Int) + 1)) := by exact congrArg (Value.int .i64) (by omega)
       refine k_then (hJ23 ⟨(j + 1), (by first | omega | (simp only []; omega))⟩ _ _ _ rfl (by first | omega | (simp; omega)) (Sub.cons rfl <| Sub.cons rfl <| Sub.cons rfl <| Sub.cons rfl <| Sub.cons rfl <| sub_val rfl hb53 <| Sub.cons rfl <| Sub.cons rfl <| sub_val rfl hb54 <| Sub.nil _) (fun w hs => St.sel [2, 3, 4, 5, 6, 7] rfl rfl hs))
     replace hg99 := DT hg99
     refine rS (MV rfl) <| rS (MV rfl) <| rS (LN rfl ut33) <| rS (BI rfl b_gtr) <| rS (BI rfl (b_neqb ut4)) <| rS (PK rfl) <| rS (PK rfl) <| RK hK50 ?_
     refine w_if rfl (fun hg106 => ?_) (fun hg106 => ?_)
     · rw [Bool.not_eq_true'] at hg106
       have hwp := weakP_one hge (show j < d.Posts.length by omega) hg99; first | exact (beq_no hg106 (hxi.trans hwp)).elim | exact (beq_no2 hg106 (fun q => idx_out (n := d.Posts.length) (by omega) (by omega) (hwp.2 q))).elim
     rw [Bool.not_eq_false'] at hg106
     refine w_skip <| k_block <| KK hK27 <| w_region <| rS (BI rfl (b_add ⟨by omega, by omega⟩)) <| rS (MV rfl) <| r_nil ?_
     have hb51 : (Value.int .i64 (((idxL (j + 1) (WeakP d)).length : Nat) : Int)) = (Value.int .i64 (((idxL j (WeakP d)).length : Nat) : Int)) := by exact congrArg (Value.int .i64) (by first | (have e := idx_len_yes (P := WeakP d) (j := j) (hxi.1 (by first | assumption | omega)); omega) | (have e := idx_len_no (P := WeakP d) (j := j) (fun q => by first | exact absurd (hxi.2 q) (by first | assumption | omega) | exact absurd (idx_lt (n := d.Posts.length) (by omega) q) (by omega)); omega))
     have hb52 : (Value.int .i64 (((j + 1) : Nat) : Int)) = (Value.int .i64 (((j : Nat) : Int) + 1)) := by exact congrArg (Value.int .i64) (by omega)
     refine k_then (hJ23 ⟨(j + 1), (by first | omega | (simp only []; omega))⟩ _ _ _ rfl (by first | omega | (simp; omega)) (Sub.cons rfl <| Sub.cons rfl <| Sub.cons rfl <| Sub.cons rfl <| Sub.cons rfl <| sub_val rfl hb51 <| Sub.cons rfl <| Sub.cons rfl <| sub_val rfl hb52 <| Sub.nil _) (fun w hs => St.sel [2, 3, 4, 5, 6, 7] rfl rfl hs))
   replace hg83 := DT hg83
   refine rS (MV rfl) <| rS (MV rfl) ?_
   obtain ⟨x, hx⟩ : ∃ y_, (weakV d)[(idxL j (WeakP d)).length]? = some y_ := ⟨(weakV d)[(idxL j (WeakP d)).length]'(by omega), List.getElem?_eq_getElem _⟩
   have hxm : ((weakV d).map iC)[(idxL j (WeakP d)).length]? = some (iC x) := by rw [List.getElem?_map, hx]; rfl
   refine rS (IA ((idxL j (WeakP d)).length) rfl (has_own_n (n := (weakV d).length) 3 rfl (by simp)) te33 (by decide) (by omega) (by omega)) <| rS (LE1 ((idxL j (WeakP d)).length) 0 (Value.int .i64 x) rfl tk3 (has_own_n (n := (weakV d).length) 3 rfl (by simp)) hxm rfl (by decide) rfl) ?_
   have hxi := idx_iff (P := WeakP d) (show j < d.Posts.length by omega) (by rw [← weakV_idx]; exact hx)
   refine rS (MV rfl) <| rS (BI rfl b_eql) <| rS (PK rfl) <| rS (AG rfl) <| RK hK35 <| w_seq fun _ hK36 => WS fun _ hK37 => rS (MV rfl) <| RK hK37 ?_
   refine w_if rfl (fun hg91 => ?_) (fun hg91 => ?_)
   rotate_left 1
   · replace hg91 := DF hg91
     refine WK hK36 <| WS fun _ hK43 => rS (MV rfl) <| rS (BI rfl b_neq) <| rS (MV rfl) ?_
     refine r_bool (t := 96) rfl (fun hg96 => ?_) (fun hg96 => ?_)
     · replace hg96 := XT hg96
       exact absurd hlo.1 hg96
     replace hg96 := XF hg96
     refine rS (MV rfl) <| rS (BI rfl b_eql) <| rS (MV rfl) ?_
     refine r_bool (t := 99) rfl (fun hg99 => ?_) (fun hg99 => ?_)
     rotate_left 1
     · replace hg99 := DF hg99
       refine rS (OX rfl) <| rS (OX rfl) <| rS (OX rfl) <| rS (OX rfl) <| rS (OX rfl) <| rS (PK rfl) <| rS (PK rfl) <| RK hK43 <| w_if_false rfl <| w_skip ?_
       refine k_block <| KK hK27 <| w_region <| rS (BI rfl (b_add ⟨by omega, by omega⟩)) <| rS (MV rfl) <| r_nil ?_
       have hb46 : (Value.int .i64 (((idxL (j + 1) (WeakP d)).length : Nat) : Int)) = (Value.int .i64 (((idxL j (WeakP d)).length : Nat) : Int)) := by exact congrArg (Value.int .i64) (by first | (have e := idx_len_yes (P := WeakP d) (j := j) (hxi.1 (by first | assumption | omega)); omega) | (have e := idx_len_no (P := WeakP d) (j := j) (fun q => by first | exact absurd (hxi.2 q) (by first | assumption | omega) | exact absurd (idx_lt (n := d.Posts.length) (by omega) q) (by omega)); omega))
       have hb47 : (Value.int .i64 (((j + 1) : Nat) : Int)) = (Value.int .i64 (((j : Nat) : Int) + 1)) := by exact congrArg (Value.int .i64) (by omega)
       refine k_then (hJ23 ⟨(j + 1), (by first | omega | (simp only []; omega))⟩ _ _ _ rfl (by first | omega | (simp; omega)) (Sub.cons rfl <| Sub.cons rfl <| Sub.cons rfl <| Sub.cons rfl <| Sub.cons rfl <| sub_val rfl hb46 <| Sub.cons rfl <| Sub.cons rfl <| sub_val rfl hb47 <| Sub.nil _) (fun w hs => St.sel [2, 3, 4, 5, 6, 7] rfl rfl hs))
     replace hg99 := DT hg99
     refine rS (MV rfl) <| rS (MV rfl) <| rS (LN rfl ut33) <| rS (BI rfl b_gtr) <| rS (BI rfl (b_neqb ut4)) <| rS (PK rfl) <| rS (PK rfl) <| RK hK43 ?_
     refine w_if rfl (fun hg106 => ?_) (fun hg106 => ?_)
     · rw [Bool.not_eq_true'] at hg106
       have hwp := weakP_one hge (show j < d.Posts.length by omega) hg99; first | exact (beq_no hg106 (hxi.trans hwp)).elim | exact (beq_no2 hg106 (fun q => idx_out (n := d.Posts.length) (by omega) (by omega) (hwp.2 q))).elim
     rw [Bool.not_eq_false'] at hg106
     refine w_skip <| k_block <| KK hK27 <| w_region <| rS (BI rfl (b_add ⟨by omega, by omega⟩)) <| rS (MV rfl) <| r_nil ?_
     have hb44 : (Value.int .i64 (((idxL (j + 1) (WeakP d)).length : Nat) : Int)) = (Value.int .i64 (((idxL j (WeakP d)).length : Nat) : Int)) := by exact congrArg (Value.int .i64) (by first | (have e := idx_len_yes (P := WeakP d) (j := j) (hxi.1 (by first | assumption | omega)); omega) | (have e := idx_len_no (P := WeakP d) (j := j) (fun q => by first | exact absurd (hxi.2 q) (by first | assumption | omega) | exact absurd (idx_lt (n := d.Posts.length) (by omega) q) (by omega)); omega))
     have hb45 : (Value.int .i64 (((j + 1) : Nat) : Int)) = (Value.int .i64 (((j : Nat) : Int) + 1)) := by exact congrArg (Value.int .i64) (by omega)
     refine k_then (hJ23 ⟨(j + 1), (by first | omega | (simp only []; omega))⟩ _ _ _ rfl (by first | omega | (simp; omega)) (Sub.cons rfl <| Sub.cons rfl <| Sub.cons rfl <| Sub.cons rfl <| Sub.cons rfl <| sub_val rfl hb44 <| Sub.cons rfl <| Sub.cons rfl <| sub_val rfl hb45 <| Sub.nil _) (fun w hs => St.sel [2, 3, 4, 5, 6, 7] rfl rfl hs))
   replace hg91 := DT hg91
   refine w_region <| rS (MV rfl) <| rS (BI rfl (b_add ⟨by omega, by omega⟩)) <| rS (AG rfl) <| RK hK36 <| WS fun _ hK38 => rS (MV rfl) <| rS (BI rfl b_neq) <| rS (MV rfl) ?_
   refine r_bool (t := 96) rfl (fun hg96 => ?_) (fun hg96 => ?_)
   · replace hg96 := XT hg96
     exact absurd hlo.1 hg96
   replace hg96 := XF hg96
   refine rS (MV rfl) <| rS (BI rfl b_eql) <| rS (MV rfl) ?_
   refine r_bool (t := 99) rfl (fun hg99 => ?_) (fun hg99 => ?_)
   rotate_left 1
   · replace hg99 := DF hg99
     refine rS (OX rfl) <| rS (OX rfl) <| rS (OX rfl) <| rS (OX rfl) <| rS (OX rfl) <| rS (PK rfl) <| rS (PK rfl) <| RK hK38 <| w_if_false rfl <| w_skip ?_
     refine k_block <| KK hK27 <| w_region <| rS (BI rfl (b_add ⟨by omega, by omega⟩)) <| rS (MV rfl) <| r_nil ?_
     have hb41 : (Value.int .i64 (((idxL (j + 1) (WeakP d)).length : Nat) : Int)) = (Value.int .i64 ((((idxL j (WeakP d)).length : Nat) : Int) + 1)) := by exact congrArg (Value.int .i64) (by first | (have e := idx_len_yes (P := WeakP d) (j := j) (hxi.1 (by first | assumption | omega)); omega) | (have e := idx_len_no (P := WeakP d) (j := j) (fun q => by first | exact absurd (hxi.2 q) (by first | assumption | omega) | exact absurd (idx_lt (n := d.Posts.length) (by omega) q) (by omega)); omega))
     have hb42 : (Value.int .i64 (((j + 1) : Nat) : Int)) = (Value.int .i64 (((j : Nat) : Int) + 1)) := by exact congrArg (Value.int .i64) (by omega)
     refine k_then (hJ23 ⟨(j + 1), (by first | omega | (simp only []; omega))⟩ _ _ _ rfl (by first | omega | (simp; omega)) (Sub.cons rfl <| Sub.cons rfl <| Sub.cons rfl <| Sub.cons rfl <| Sub.cons rfl <| sub_val rfl hb41 <| Sub.cons rfl <| Sub.cons rfl <| sub_val rfl hb42 <| Sub.nil _) (fun w hs => St.sel [2, 3, 4, 5, 6, 7] rfl rfl hs))
   replace hg99 := DT hg99
   refine rS (MV rfl) <| rS (MV rfl) <| rS (LN rfl ut33) <| rS (BI rfl b_gtr) <| rS (BI rfl (b_neqb ut4)) <| rS (PK rfl) <| rS (PK rfl) <| RK hK38 ?_
   refine w_if rfl (fun hg106 => ?_) (fun hg106 => ?_)
   · rw [Bool.not_eq_true'] at hg106
     have hwp := weakP_one hge (show j < d.Posts.length by omega) hg99; first | exact (beq_no hg106 (hxi.trans hwp)).elim | exact (beq_no2 hg106 (fun q => idx_out (n := d.Posts.length) (by omega) (by omega) (hwp.2 q))).elim
   rw [Bool.not_eq_false'] at hg106
   refine w_skip <| k_block <| KK hK27 <| w_region <| rS (BI rfl (b_add ⟨by omega, by omega⟩)) <| rS (MV rfl) <| r_nil ?_
   have hb39 : (Value.int .i64 (((idxL (j + 1) (WeakP d)).length : Nat) : Int)) = (Value.int .i64 ((((idxL j (WeakP d)).length : Nat) : Int) + 1)) := by exact congrArg (Value.int .i64) (by first | (have e := idx_len_yes (P := WeakP d) (j := j) (hxi.1 (by first | assumption | omega)); omega) | (have e := idx_len_no (P := WeakP d) (j := j) (fun q => by first | exact absurd (hxi.2 q) (by first | assumption | omega) | exact absurd (idx_lt (n := d.Posts.length) (by omega) q) (by omega)); omega))
   have hb40 : (Value.int .i64 (((j + 1) : Nat) : Int)) = (Value.int .i64 (((j : Nat) : Int) + 1)) := by exact congrArg (Value.int .i64) (by omega)
   refine k_then (hJ23 ⟨(j + 1), (by first | omega | (simp only []; omega))⟩ _ _ _ rfl (by first | omega | (simp; omega)) (Sub.cons rfl <| Sub.cons rfl <| Sub.cons rfl <| Sub.cons rfl <| Sub.cons rfl <| sub_val rfl hb39 <| Sub.cons rfl <| Sub.cons rfl <| sub_val rfl hb40 <| Sub.nil _) (fun w hs => St.sel [2, 3, 4, 5, 6, 7] rfl rfl hs))
 replace h26 := DF h26
 refine w_exit <| k_exit_then <| k_exit_then <| k_exit_same <| KK hK20 <| w_seq fun _ hK55 => ?_
 rw [show idxL j (WeakP d) = idxL d.Posts.length (WeakP d) from by rw [show j = d.Posts.length by omega]]
 refine w_region <| rS (AG rfl) <| RK hK55 <| w_seq fun _ hK56 => WS fun _ hK57 => rS (FA 1 rfl fo32_1 rfl) <| rS (L1 (Value.slice pA d.Posts.length pC) 2 rfl tk25 rfl rfl) <| rS (LN rfl ut25) <| rS (MV rfl) <| RK hK57 ?_
 refine w_block <| w_own_nil 3 1 ?_
 have hinit : (0 ≤ d.Posts.length) := by exact Nat.zero_le _
 refine w_loop (ι := { z : Nat × (Option Addr) × Nat // (z.1 ≤ d.Posts.length) }) (fun z => [(1, (Value.int .u8 ((bn : Nat) : Int))), (2, (Value.pointer (some ⟨b2, 0, none⟩))), (5, (Value.bool true)), (6, (Value.slice a10 ((weakV d).length) c11)), (10, (Value.int .i64 (((idxL d.Posts.length (WeakP d)).length : Nat) : Int))), (15, (Value.slice z.1.2.1 ((idxL z.1.1 (bitS bn)).length) z.1.2.2)), (109, (Value.slice pA d.Posts.length pC)), (110, (Value.int .i64 ((d.Posts.length : Nat) : Int))), (111, (Value.int .i64 ((z.1.1 : Nat) : Int)))]) (fun z => [(own z.1.2.1 z.1.2.2 3 1 ((idxL z.1.1 (bitS bn)).map iC)), (own a15 c16 3 1 ((lacksV d ([])).map iC)), (own a10 c11 3 1 ((weakV d).map iC)), (blk b2 32 (GuardV.cells (GuardV.mk (TrackV.mk (Slc.mk kA d.Track.length kC)) (Slc.mk pA d.Posts.length pC) (Slc.mk nA d.Needs.length nC) d.Tower d.Radio))), (rd kA d.Track.length 9 (d.Track.map StretchV.cells)).ro, (rd pA d.Posts.length 7 (d.Posts.map PostV.cells)).ro, (rd nA d.Needs.length 3 (d.Needs.map NeedV.cells)).ro]) (fun z => d.Posts.length - z.1.1) ⟨(0, none, 0), hinit⟩ (Sub.cons rfl <| Sub.cons rfl <| Sub.cons rfl <| Sub.cons rfl <| Sub.cons rfl <| Sub.cons rfl <| Sub.cons rfl <| Sub.cons rfl <| Sub.cons rfl <| Sub.nil _) (fun w hs => St.sel [0, 1, 2, 3, 4, 5, 6] rfl rfl hs) ?_
 clear hinit
 rintro ⟨⟨m, la, lc⟩, hl21_0⟩ J58 hJ58
 try dsimp only at hl21_0
 try dsimp only
 refine WS fun _ hK59 => rS (BI rfl b_lss) <| RK hK59 <| w_seq fun _ hK60 => ?_
 refine w_if rfl (fun h61 => ?_) (fun h61 => ?_)
 · replace h61 := DT h61
   refine WK hK60 <| w_seq fun _ hK62 => w_block <| WS fun _ hK63 => rS (MV rfl) <| rS (AG rfl) <| RK hK63 <| WS fun _ hK64 => rS (MV rfl) <| rS (MV rfl) ?_
   refine rS (BI rfl (b_shr8 (i := m) (by omega) (by omega))) <| rS (BI rfl (b_and8 (m := (bn / 2 ^ m)) (by omega) (Nat.le_trans (Nat.div_le_self _ _) (by omega)))) <| rS (BI rfl b_eql) <| RK hK64 ?_
   refine w_if rfl (fun hg118 => ?_) (fun hg118 => ?_)
   rotate_left 1
   · replace hg118 := DF hg118
     refine w_skip <| k_block <| KK hK62 <| w_region <| rS (BI rfl (b_add ⟨by omega, by omega⟩)) <| rS (MV rfl) <| r_nil ?_
     rw [show (idxL m (bitS bn)) = (idxL (m + 1) (bitS bn)) from (idxL_no (fun q => hg118 (bit_iff.2 q))).symm]
     have hb69 : (Value.int .i64 (((m + 1) : Nat) : Int)) = (Value.int .i64 (((m : Nat) : Int) + 1)) := by exact congrArg (Value.int .i64) (by omega)
     refine k_then (hJ58 ⟨((m + 1), la, lc), (by first | omega | (simp only []; omega))⟩ _ _ _ rfl (by first | omega | (simp; omega)) (Sub.cons rfl <| Sub.cons rfl <| Sub.cons rfl <| Sub.cons rfl <| Sub.cons rfl <| Sub.cons rfl <| Sub.cons rfl <| Sub.cons rfl <| sub_val rfl hb69 <| Sub.nil _) (fun w hs => St.sel [0, 1, 2, 3, 4, 5, 6] rfl rfl hs))
   replace hg118 := DT hg118
   refine w_region <| rS (MV rfl) <| rS (MV rfl) <| r_bs (xs := [.tmp 120]) (cs := [(Value.int .i64 ((m : Nat) : Int))]) rfl te33 tz3 rfl rfl rfl rfl (by simp [Value.cells]) rfl rfl fun b65 => r_append (es2 := (List.map iC (idxL (m + 1) (bitS bn)))) (m' := (idxL (m + 1) (bitS bn)).length) 1 rfl rfl rfl ta33 rfl rfl (by simp) (has_rd_blk (es := List.map iC [((m : Nat) : Int)]) 0 rfl rfl (by simp [iC_length]) rfl) (one_iC _) (by have := idxL_len (n := m) (p := bitS bn); omega) (by have := idxL_len (n := m) (p := bitS bn); simp only [maxLen]; omega) (by rw [idxL_yes (p := bitS bn) (bit_iff.1 hg118)]; simp) (by simp) rfl fun a66 c67 => ?_
   try dsimp only
   refine rS (AG rfl) <| r_nil <| k_block <| KK hK62 <| w_region <| rS (BI rfl (b_add ⟨by omega, by omega⟩)) <| rS (MV rfl) <| r_nil ?_
   have hb68 : (Value.int .i64 (((m + 1) : Nat) : Int)) = (Value.int .i64 (((m : Nat) : Int) + 1)) := by exact congrArg (Value.int .i64) (by omega)
   refine k_then (hJ58 ⟨((m + 1), a66, c67), (by first | omega | (simp only []; omega))⟩ _ _ _ rfl (by first | omega | (simp; omega)) (Sub.cons rfl <| Sub.cons rfl <| Sub.cons rfl <| Sub.cons rfl <| Sub.cons rfl <| Sub.cons rfl <| Sub.cons rfl <| Sub.cons rfl <| sub_val rfl hb68 <| Sub.nil _) (fun w hs => St.sel [1, 2, 3, 4, 5, 6, 7] rfl rfl hs))
 replace h61 := DF h61
 refine w_exit <| k_exit_then <| k_exit_then <| k_exit_same <| KK hK56 <| WS fun _ hK70 => ?_
 rw [show idxL m (bitS bn) = idxL d.Posts.length (bitS bn) from by rw [show m = d.Posts.length by omega]]
 refine rS (LW 3 rfl tk32 rfl rfl) ?_
 have hme : mannedE d (idxL d.Posts.length (bitS bn)) = 0 := manned_in hge empty_idx
 have hel := idxL_len (n := d.Posts.length) (p := bitS bn)
 have hlv2 := lacksV_len (d := d) (l := (idxL d.Posts.length (bitS bn)))
 have hll2 : (lacksV d (idxL d.Posts.length (bitS bn))).length = (idxL d.Needs.length (LackP d (notIn (idxL d.Posts.length (bitS bn))))).length := by rw [lacksV_idx hme]
 refine rS (MV rfl) <| cX (Lacks_c d kA kC pA pC nA nC (idxL d.Posts.length (bitS bn)) la lc (by exact hin) (by omega)) (ha_at 4 rfl rfl <| ha_at 5 rfl rfl <| ha_at 6 rfl rfl <| ha_cons (has_own_n (n := (idxL d.Posts.length (bitS bn)).length) 0 rfl (by simp)) <| ha_nil) rfl fun y71 hy72 => ?_
 obtain ⟨a73, c74⟩ := y71
 try dsimp only
 refine rS (MV rfl) <| rS (EX rfl) <| rS (EX rfl) <| rS (AG rfl) <| rS (AG rfl) <| RK hK70 <| w_seq fun _ hK75 => WS fun _ hK76 => rS (MV rfl) <| rS (BI rfl b_neq) ?_
 refine RK hK76 ?_
 refine w_if rfl (fun hg131 => ?_) (fun hg131 => ?_)
 · replace hg131 := XT hg131
   exact absurd hme hg131
 replace hg131 := XF hg131
 refine WK hK75 <| WS fun _ hK77 => rS (AG rfl) <| RK hK77 <| w_seq fun _ hK78 => WS fun _ hK79 => rS (FA 2 rfl fo32_2 rfl) <| rS (L1 (Value.slice nA d.Needs.length nC) 4 rfl tk26 rfl rfl) <| rS (LN rfl ut26) <| rS (MV rfl) ?_
 refine RK hK79 <| w_block ?_
 have hinit : (0 ≤ d.Needs.length) := by exact Nat.zero_le _
 have hb80 : (Value.int .i64 (((idxL 0 (LackP d (notIn (idxL d.Posts.length (bitS bn))))).length : Nat) : Int)) = (Value.int .i64 0) := by rfl
 refine w_loop (ι := { z : Nat // (z ≤ d.Needs.length) }) (fun z => [(2, (Value.pointer (some ⟨b2, 0, none⟩))), (5, (Value.bool true)), (6, (Value.slice a10 ((weakV d).length) c11)), (10, (Value.int .i64 (((idxL d.Posts.length (WeakP d)).length : Nat) : Int))), (15, (Value.slice la ((idxL d.Posts.length (bitS bn)).length) lc)), (17, (Value.slice a73 ((lacksV d (idxL d.Posts.length (bitS bn))).length) c74)), (19, (Value.int .i64 (((idxL z.1 (LackP d (notIn (idxL d.Posts.length (bitS bn))))).length : Nat) : Int))), (133, (Value.slice nA d.Needs.length nC)), (134, (Value.int .i64 ((d.Needs.length : Nat) : Int))), (135, (Value.int .i64 ((z.1 : Nat) : Int)))]) (fun z => [(own a73 c74 3 1 ((lacksV d (idxL d.Posts.length (bitS bn))).map iC)), (own la lc 3 1 ((idxL d.Posts.length (bitS bn)).map iC)), (own a15 c16 3 1 ((lacksV d ([])).map iC)), (own a10 c11 3 1 ((weakV d).map iC)), (blk b2 32 (GuardV.cells (GuardV.mk (TrackV.mk (Slc.mk kA d.Track.length kC)) (Slc.mk pA d.Posts.length pC) (Slc.mk nA d.Needs.length nC) d.Tower d.Radio))), (rd kA d.Track.length 9 (d.Track.map StretchV.cells)).ro, (rd pA d.Posts.length 7 (d.Posts.map PostV.cells)).ro, (rd nA d.Needs.length 3 (d.Needs.map NeedV.cells)).ro]) (fun z => d.Needs.length - z.1) ⟨0, hinit⟩ (Sub.cons rfl <| Sub.cons rfl <| Sub.cons rfl <| Sub.cons rfl <| Sub.cons rfl <| Sub.cons rfl <| sub_val rfl hb80 <| Sub.cons rfl <| Sub.cons rfl <| Sub.cons rfl <| Sub.nil _) (fun w hs => St.sel [0, 1, 2, 3, 4, 5, 6, 7] rfl rfl hs) ?_
 clear hinit
 rintro ⟨i, hl31_0⟩ J81 hJ81
 try dsimp only
 refine WS fun _ hK82 => rS (BI rfl b_lss) <| RK hK82 <| w_seq fun _ hK83 => ?_
 refine w_if rfl (fun h84 => ?_) (fun h84 => ?_)
 rotate_left 1
 · replace h84 := DF h84
   refine w_exit <| k_exit_then <| k_exit_then <| k_exit_same <| KK hK78 <| w_seq fun _ hK106 => ?_
   rw [show idxL i (LackP d (notIn (idxL d.Posts.length (bitS bn)))) = idxL d.Needs.length (LackP d (notIn (idxL d.Posts.length (bitS bn)))) from by rw [show i = d.Needs.length by omega]]
   refine w_region <| rS (MV rfl) <| rS (MV rfl) <| rS (MV rfl) <| rS (MV rfl) <| rS (LN rfl ut33) <| rS (BI rfl b_eql) <| rS (PK rfl) <| rS (MV rfl) ?_
   refine r_bool (t := 177) rfl (fun hg177 => ?_) (fun hg177 => ?_)
   rotate_left 1
   · replace hg177 := DF hg177
     exfalso; omega
   replace hg177 := DT hg177
   refine rS (MV rfl) <| rS (MV rfl) <| rS (LN rfl ut33) <| rS (BI rfl b_eql) <| rS (PK rfl) <| rS (AG rfl) <| RK hK106 <| w_ret <| Q1 hQ rfl rfl rfl ?_
   first | rfl | exact congrArg Value.bool (decide_eq_true (by omega))
 replace h84 := DT h84
 refine WK hK83 <| w_seq fun _ hK85 => w_block <| WS fun _ hK86 => rS (MV rfl) <| rS (AG rfl) <| RK hK86 <| WS fun _ hK87 => ?_
 have hlm := lack_meets hme (show i < d.Needs.length by omega)
 have hmv := meetsV_len (d := d) (k := ((i : Nat) : Int)) (l := (idxL d.Posts.length (bitS bn)))
 have hji := idx_le (P := LackP d (notIn (idxL d.Posts.length (bitS bn)))) (show i ≤ d.Needs.length by omega)
 refine rS (LW 4 rfl tk32 rfl rfl) <| rS (MV rfl) <| rS (MV rfl) <| cX (Meets_c d kA kC pA pC nA nC ((i : Nat) : Int) (idxL d.Posts.length (bitS bn)) la lc (by exact hin) (by omega)) (ha_at 5 rfl rfl <| ha_at 6 rfl rfl <| ha_at 7 rfl rfl <| ha_cons (has_own_n (n := (idxL d.Posts.length (bitS bn)).length) 1 rfl (by simp)) <| ha_nil) rfl fun y88 hy89 => ?_
 obtain ⟨a90, c91⟩ := y88
 try dsimp only
 refine rS (MV rfl) <| rS (EX rfl) <| rS (EX rfl) <| rS (AG rfl) <| rS (AG rfl) <| RK hK87 <| WS fun _ hK92 => rS (MV rfl) <| rS (MV rfl) <| rS (LN rfl ut33) ?_
 refine rS (BI rfl b_lss) <| rS (MV rfl) ?_
 refine r_bool (t := 149) rfl (fun hg149 => ?_) (fun hg149 => ?_)
 rotate_left 1
 · replace hg149 := DF hg149
   refine rS (OX rfl) <| rS (OX rfl) <| rS (OX rfl) <| rS (OX rfl) <| rS (OX rfl) <| rS (OX rfl) <| rS (PK rfl) <| rS (AG rfl) <| RK hK92 <| w_seq fun _ hK101 => ?_
   refine WS fun _ hK102 => rS (MV rfl) <| RK hK102 <| w_if_false rfl <| WK hK101 <| WS fun _ hK103 => rS (MV rfl) <| rS (BI rfl b_neq) <| rS (MV rfl) ?_
   refine r_bool (t := 162) rfl (fun hg162 => ?_) (fun hg162 => ?_)
   · replace hg162 := XT hg162
     exact absurd hlm.1 hg162
   replace hg162 := XF hg162
   refine rS (MV rfl) <| rS (MV rfl) <| rS (LN rfl ut33) <| rS (BI rfl b_eql) <| rS (BI rfl (b_neqb ut4)) <| rS (PK rfl) <| RK hK103 ?_
   refine w_if rfl (fun hg168 => ?_) (fun hg168 => ?_)
   · rw [Bool.not_eq_true'] at hg168
     first | exact (beq_no hg168 (hui.trans hlm.2)).elim | exact (beq_no2 hg168 (fun q => idx_out (n := d.Needs.length) (by omega) (by omega) (hlm.2.2 q))).elim
   rw [Bool.not_eq_false'] at hg168
   refine w_skip <| k_block <| KK hK85 <| w_region <| rS (BI rfl (b_add ⟨by omega, by omega⟩)) <| rS (MV rfl) <| r_nil ?_
   have hb104 : (Value.int .i64 (((idxL (i + 1) (LackP d (notIn (idxL d.Posts.length (bitS bn))))).length : Nat) : Int)) = (Value.int .i64 (((idxL i (LackP d (notIn (idxL d.Posts.length (bitS bn))))).length : Nat) : Int)) := by exact congrArg (Value.int .i64) (by first | (have e := idx_len_yes (P := LackP d (notIn (idxL d.Posts.length (bitS bn)))) (j := i) (hui.1 (by first | assumption | omega)); omega) | (have e := idx_len_no (P := LackP d (notIn (idxL d.Posts.length (bitS bn)))) (j := i) (fun q => by first | exact absurd (hui.2 q) (by first | assumption | omega) | exact absurd (idx_lt (n := d.Needs.length) (by omega) q) (by omega)); omega))
   have hb105 : (Value.int .i64 (((i + 1) : Nat) : Int)) = (Value.int .i64 (((i : Nat) : Int) + 1)) := by exact congrArg (Value.int .i64) (by omega)
   refine k_then (hJ81 ⟨(i + 1), (by first | omega | (simp only []; omega))⟩ _ _ _ rfl (by first | omega | (simp; omega)) (Sub.cons rfl <| Sub.cons rfl <| Sub.cons rfl <| Sub.cons rfl <| Sub.cons rfl <| Sub.cons rfl <| sub_val rfl hb104 <| Sub.cons rfl <| Sub.cons rfl <| sub_val rfl hb105 <| Sub.nil _) (fun w hs => St.sel [1, 2, 3, 4, 5, 6, 7, 8] rfl rfl hs))
 replace hg149 := DT hg149
 refine rS (MV rfl) <| rS (MV rfl) ?_
 obtain ⟨u, hu⟩ : ∃ y_, (lacksV d (idxL d.Posts.length (bitS bn)))[(idxL i (LackP d (notIn (idxL d.Posts.length (bitS bn))))).length]? = some y_ := ⟨(lacksV d (idxL d.Posts.length (bitS bn)))[(idxL i (LackP d (notIn (idxL d.Posts.length (bitS bn))))).length]'(by omega), List.getElem?_eq_getElem _⟩
 have hum : ((lacksV d (idxL d.Posts.length (bitS bn))).map iC)[(idxL i (LackP d (notIn (idxL d.Posts.length (bitS bn))))).length]? = some (iC u) := by rw [List.getElem?_map, hu]; rfl
 refine rS (IA ((idxL i (LackP d (notIn (idxL d.Posts.length (bitS bn))))).length) rfl (has_own_n (n := (lacksV d (idxL d.Posts.length (bitS bn))).length) 1 rfl (by simp)) te33 (by decide) (by omega) (by omega)) <| rS (LE1 ((idxL i (LackP d (notIn (idxL d.Posts.length (bitS bn))))).length) 0 (Value.int .i64 u) rfl tk3 (has_own_n (n := (lacksV d (idxL d.Posts.length (bitS bn))).length) 1 rfl (by simp)) hum rfl (by decide) rfl) ?_
 have hui := idx_iff (P := LackP d (notIn (idxL d.Posts.length (bitS bn)))) (show i < d.Needs.length by omega) (by rw [← lacksV_idx hme]; exact hu)
 refine rS (MV rfl) <| rS (BI rfl b_eql) <| rS (PK rfl) <| rS (AG rfl) <| RK hK92 <| w_seq fun _ hK93 => WS fun _ hK94 => rS (MV rfl) <| RK hK94 ?_
 refine w_if rfl (fun hg157 => ?_) (fun hg157 => ?_)
 rotate_left 1
 · replace hg157 := DF hg157
   refine WK hK93 <| WS fun _ hK98 => rS (MV rfl) <| rS (BI rfl b_neq) <| rS (MV rfl) ?_
   refine r_bool (t := 162) rfl (fun hg162 => ?_) (fun hg162 => ?_)
   · replace hg162 := XT hg162
     exact absurd hlm.1 hg162
   replace hg162 := XF hg162
   refine rS (MV rfl) <| rS (MV rfl) <| rS (LN rfl ut33) <| rS (BI rfl b_eql) <| rS (BI rfl (b_neqb ut4)) <| rS (PK rfl) <| RK hK98 ?_
   refine w_if rfl (fun hg168 => ?_) (fun hg168 => ?_)
   · rw [Bool.not_eq_true'] at hg168
     first | exact (beq_no hg168 (hui.trans hlm.2)).elim | exact (beq_no2 hg168 (fun q => idx_out (n := d.Needs.length) (by omega) (by omega) (hlm.2.2 q))).elim
   rw [Bool.not_eq_false'] at hg168
   refine w_skip <| k_block <| KK hK85 <| w_region <| rS (BI rfl (b_add ⟨by omega, by omega⟩)) <| rS (MV rfl) <| r_nil ?_
   have hb99 : (Value.int .i64 (((idxL (i + 1) (LackP d (notIn (idxL d.Posts.length (bitS bn))))).length : Nat) : Int)) = (Value.int .i64 (((idxL i (LackP d (notIn (idxL d.Posts.length (bitS bn))))).length : Nat) : Int)) := by exact congrArg (Value.int .i64) (by first | (have e := idx_len_yes (P := LackP d (notIn (idxL d.Posts.length (bitS bn)))) (j := i) (hui.1 (by first | assumption | omega)); omega) | (have e := idx_len_no (P := LackP d (notIn (idxL d.Posts.length (bitS bn)))) (j := i) (fun q => by first | exact absurd (hui.2 q) (by first | assumption | omega) | exact absurd (idx_lt (n := d.Needs.length) (by omega) q) (by omega)); omega))
   have hb100 : (Value.int .i64 (((i + 1) : Nat) : Int)) = (Value.int .i64 (((i : Nat) : Int) + 1)) := by exact congrArg (Value.int .i64) (by omega)
   refine k_then (hJ81 ⟨(i + 1), (by first | omega | (simp only []; omega))⟩ _ _ _ rfl (by first | omega | (simp; omega)) (Sub.cons rfl <| Sub.cons rfl <| Sub.cons rfl <| Sub.cons rfl <| Sub.cons rfl <| Sub.cons rfl <| sub_val rfl hb99 <| Sub.cons rfl <| Sub.cons rfl <| sub_val rfl hb100 <| Sub.nil _) (fun w hs => St.sel [1, 2, 3, 4, 5, 6, 7, 8] rfl rfl hs))
 replace hg157 := DT hg157
 refine w_region <| rS (MV rfl) <| rS (BI rfl (b_add ⟨by omega, by omega⟩)) <| rS (AG rfl) <| RK hK93 <| WS fun _ hK95 => rS (MV rfl) <| rS (BI rfl b_neq) <| rS (MV rfl) ?_
 refine r_bool (t := 162) rfl (fun hg162 => ?_) (fun hg162 => ?_)
 · replace hg162 := XT hg162
   exact absurd hlm.1 hg162
 replace hg162 := XF hg162
 refine rS (MV rfl) <| rS (MV rfl) <| rS (LN rfl ut33) <| rS (BI rfl b_eql) <| rS (BI rfl (b_neqb ut4)) <| rS (PK rfl) <| RK hK95 ?_
 refine w_if rfl (fun hg168 => ?_) (fun hg168 => ?_)
 · rw [Bool.not_eq_true'] at hg168
   first | exact (beq_no hg168 (hui.trans hlm.2)).elim | exact (beq_no2 hg168 (fun q => idx_out (n := d.Needs.length) (by omega) (by omega) (hlm.2.2 q))).elim
 rw [Bool.not_eq_false'] at hg168
 refine w_skip <| k_block <| KK hK85 <| w_region <| rS (BI rfl (b_add ⟨by omega, by omega⟩)) <| rS (MV rfl) <| r_nil ?_
 have hb96 : (Value.int .i64 (((idxL (i + 1) (LackP d (notIn (idxL d.Posts.length (bitS bn))))).length : Nat) : Int)) = (Value.int .i64 ((((idxL i (LackP d (notIn (idxL d.Posts.length (bitS bn))))).length : Nat) : Int) + 1)) := by exact congrArg (Value.int .i64) (by first | (have e := idx_len_yes (P := LackP d (notIn (idxL d.Posts.length (bitS bn)))) (j := i) (hui.1 (by first | assumption | omega)); omega) | (have e := idx_len_no (P := LackP d (notIn (idxL d.Posts.length (bitS bn)))) (j := i) (fun q => by first | exact absurd (hui.2 q) (by first | assumption | omega) | exact absurd (idx_lt (n := d.Needs.length) (by omega) q) (by omega)); omega))
 have hb97 : (Value.int .i64 (((i + 1) : Nat) : Int)) = (Value.int .i64 (((i : Nat) : Int) + 1)) := by exact congrArg (Value.int .i64) (by omega)
 refine k_then (hJ81 ⟨(i + 1), (by first | omega | (simp only []; omega))⟩ _ _ _ rfl (by first | omega | (simp; omega)) (Sub.cons rfl <| Sub.cons rfl <| Sub.cons rfl <| Sub.cons rfl <| Sub.cons rfl <| Sub.cons rfl <| sub_val rfl hb96 <| Sub.cons rfl <| Sub.cons rfl <| sub_val rfl hb97 <| Sub.nil _) (fun w hs => St.sel [1, 2, 3, 4, 5, 6, 7, 8] rfl rfl hs))
end
section
open Go.RowKit
set_option linter.unusedVariables false
def ReadsAs {α : Type} (cells : α → List Value) (sz : Nat) (R : World → α → Prop) (w : World) (s : Slc) : Prop := ∃ l : List α, s.n = l.length ∧ (rd s.a l.length sz (l.map cells)).holds w ∧ (∀ x ∈ l, R w x) ∧ l.length ≤ maxLen ∧ s.n ≤ s.c
theorem open_guard {w : World} {s : GuardV} {R1 : World → StretchV → Prop} {R2 : World → PostV → Prop} {R3 : World → NeedV → Prop} (h1 : ReadsAs StretchV.cells 9 R1 w s.Track.Stretches) (hs : ∀ x, R1 w x → 0 ≤ x.Side ∧ x.Side ≤ 255) (h2 : ReadsAs PostV.cells 7 R2 w s.Posts) (hp : ∀ x, R2 w x → 0 ≤ x.Kind ∧ x.Kind ≤ 255) (h3 : ReadsAs NeedV.cells 3 R3 w s.Needs) (hn : ∀ x, R3 w x → 0 ≤ x.Kind ∧ x.Kind ≤ 255) :
    ∃ (d : GuardM) (kA : Option Addr) (kC : Nat) (pA : Option Addr) (pC : Nat) (nA : Option Addr) (nC : Nat), s = GuardV.mk (TrackV.mk (Slc.mk kA d.Track.length kC)) (Slc.mk pA d.Posts.length pC) (Slc.mk nA d.Needs.length nC) d.Tower d.Radio ∧ GuardRaw d ∧
      ((rd kA d.Track.length 9 (d.Track.map StretchV.cells)).holds w ∧ (rd pA d.Posts.length 7 (d.Posts.map PostV.cells)).holds w ∧ (rd nA d.Needs.length 3 (d.Needs.map NeedV.cells)).holds w) ∧ d.Tower = s.Tower ∧ d.Radio = s.Radio := by
  obtain ⟨⟨⟨ka, kn, kc⟩⟩, ⟨pa, pn, pc⟩, ⟨na, nn, nc⟩, tw, ra⟩ := s
  obtain ⟨ts, t1, t2, t3, t4, t5⟩ := h1
  obtain ⟨ps, p1, p2, p3, p4, p5⟩ := h2
  obtain ⟨ns, n1, n2, n3, n4, n5⟩ := h3
  simp only at t1 p1 n1
  subst t1 p1 n1
  exact ⟨⟨ts, ps, ns, tw, ra⟩, ka, kc, pa, pc, na, nc, rfl, ⟨t4, fun x hx => hs x (t3 x hx), p4, fun x hx => hp x (p3 x hx), n4, fun x hx => hn x (n3 x hx)⟩, ⟨t2, p2, n2⟩, rfl, rfl⟩
end
section
open Go.ChangeShapes Go.WideShapes Go.ChangeAt Go.RowKit
set_option linter.unusedVariables false
theorem cz32 : Try.prog.cellsOf 32 = 7 := by kernel_rfl
theorem cz24 : Try.prog.cellsOf 24 = 1 := by kernel_rfl
theorem cz22 : Try.prog.cellsOf 22 = 1 := by kernel_rfl
theorem cz110 : Try.prog.cellsOf 110 = 9 := by kernel_rfl
theorem cz3 : Try.prog.cellsOf 3 = 1 := by kernel_rfl
def Is3 (w : World) (n : Int) : Prop := In64 n
theorem op3 : OpR Try.prog 3 Int iC Is3 := op_i64 ut3
theorem cz28 : Try.prog.cellsOf 28 = 2 := by kernel_rfl
structure Is28 (w : World) (s : SpanV) : Prop where
  Lo : Is3 w s.Lo
  Hi : Is3 w s.Hi
theorem fx28 : fL Try.prog 28 = some [(3, 0), (3, 1)] := by kernel_rfl
theorem op28 : OpR Try.prog 28 SpanV SpanV.cells Is28 := fun {H} enc w base sp held fuel cs x h => by
  obtain ⟨hl, hp⟩ := op_parts fx28 h
  obtain ⟨n0, y0, h0⟩ := hp 0 3 0 rfl
  obtain ⟨s0, c0, r0⟩ := op3 _ _ _ _ _ _ _ _ h0
  obtain ⟨n1, y1, h1⟩ := hp 1 3 1 rfl
  obtain ⟨s1, c1, r1⟩ := op3 _ _ _ _ _ _ _ _ h1
  refine ⟨⟨s0, s1⟩, ?_, ⟨r0, r1⟩⟩
  have e1 := parts_last (hl.trans cz28) (by rw [cz3]) c1
  have e0 := parts_cons c0 (m := 1) (by rw [cz3]) e1
  exact e0
theorem cz5 : Try.prog.cellsOf 5 = 1 := by kernel_rfl
def Is5 (w : World) (n : Int) : Prop := 0 ≤ n ∧ n ≤ 255
theorem op5 : OpR Try.prog 5 Int iC_u8 Is5 := op_u8 ut5
structure Is110 (w : World) (s : StretchV) : Prop where
  Id : Is3 w s.Id
  Long : Is28 w s.Long
  Fall : Is28 w s.Fall
  Radius : Is28 w s.Radius
  Side : Is5 w s.Side
  Wall : Is3 w s.Wall
theorem fx110 : fL Try.prog 110 = some [(3, 0), (28, 1), (28, 3), (28, 5), (5, 7), (3, 8)] := by kernel_rfl
theorem op110 : OpR Try.prog 110 StretchV StretchV.cells Is110 := fun {H} enc w base sp held fuel cs x h => by
  obtain ⟨hl, hp⟩ := op_parts fx110 h
  obtain ⟨n0, y0, h0⟩ := hp 0 3 0 rfl
  obtain ⟨s0, c0, r0⟩ := op3 _ _ _ _ _ _ _ _ h0
  obtain ⟨n1, y1, h1⟩ := hp 1 28 1 rfl
  obtain ⟨s1, c1, r1⟩ := op28 _ _ _ _ _ _ _ _ h1
  obtain ⟨n2, y2, h2⟩ := hp 2 28 3 rfl
  obtain ⟨s2, c2, r2⟩ := op28 _ _ _ _ _ _ _ _ h2
  obtain ⟨n3, y3, h3⟩ := hp 3 28 5 rfl
  obtain ⟨s3, c3, r3⟩ := op28 _ _ _ _ _ _ _ _ h3
  obtain ⟨n4, y4, h4⟩ := hp 4 5 7 rfl
  obtain ⟨s4, c4, r4⟩ := op5 _ _ _ _ _ _ _ _ h4
  obtain ⟨n5, y5, h5⟩ := hp 5 3 8 rfl
  obtain ⟨s5, c5, r5⟩ := op3 _ _ _ _ _ _ _ _ h5
  refine ⟨⟨s0, s1, s2, s3, s4, s5⟩, ?_, ⟨r0, r1, r2, r3, r4, r5⟩⟩
  have e5 := parts_last (hl.trans cz110) (by rw [cz3]) c5
  have e4 := parts_cons c4 (m := 8) (by rw [cz5]) e5
  have e3 := parts_cons c3 (m := 7) (by rw [cz28]) e4
  have e2 := parts_cons c2 (m := 5) (by rw [cz28]) e3
  have e1 := parts_cons c1 (m := 3) (by rw [cz28]) e2
  have e0 := parts_cons c0 (m := 1) (by rw [cz3]) e1
  exact e0
def Is22 (w : World) (s : Slc) : Prop := ∃ l : List StretchV, s.n = l.length ∧ (rd s.a l.length 9 (l.map StretchV.cells)).holds w ∧ (∀ x ∈ l, Is110 w x) ∧ l.length ≤ maxLen ∧ s.n ≤ s.c
theorem op22 : OpR Try.prog 22 Slc (fun s => [Value.slice s.a s.n s.c]) Is22 := op_slice ut22 cz110 op110
structure Is24 (w : World) (s : TrackV) : Prop where
  Stretches : Is22 w s.Stretches
theorem fx24 : fL Try.prog 24 = some [(22, 0)] := by kernel_rfl
theorem op24 : OpR Try.prog 24 TrackV TrackV.cells Is24 := fun {H} enc w base sp held fuel cs x h => by
  obtain ⟨hl, hp⟩ := op_parts fx24 h
  obtain ⟨n0, y0, h0⟩ := hp 0 22 0 rfl
  obtain ⟨s0, c0, r0⟩ := op22 _ _ _ _ _ _ _ _ h0
  refine ⟨⟨s0⟩, ?_, ⟨r0⟩⟩
  have e0 := parts_last (hl.trans cz24) (by rw [cz22]) c0
  exact e0
theorem cz25 : Try.prog.cellsOf 25 = 1 := by kernel_rfl
theorem cz62 : Try.prog.cellsOf 62 = 7 := by kernel_rfl
theorem cz30 : Try.prog.cellsOf 30 = 3 := by kernel_rfl
structure Is30 (w : World) (s : SpotV) : Prop where
  Stretch : Is3 w s.Stretch
  Off : Is28 w s.Off
theorem fx30 : fL Try.prog 30 = some [(3, 0), (28, 1)] := by kernel_rfl
theorem op30 : OpR Try.prog 30 SpotV SpotV.cells Is30 := fun {H} enc w base sp held fuel cs x h => by
  obtain ⟨hl, hp⟩ := op_parts fx30 h
  obtain ⟨n0, y0, h0⟩ := hp 0 3 0 rfl
  obtain ⟨s0, c0, r0⟩ := op3 _ _ _ _ _ _ _ _ h0
  obtain ⟨n1, y1, h1⟩ := hp 1 28 1 rfl
  obtain ⟨s1, c1, r1⟩ := op28 _ _ _ _ _ _ _ _ h1
  refine ⟨⟨s0, s1⟩, ?_, ⟨r0, r1⟩⟩
  have e1 := parts_last (hl.trans cz30) (by rw [cz28]) c1
  have e0 := parts_cons c0 (m := 1) (by rw [cz3]) e1
  exact e0
structure Is62 (w : World) (s : PostV) : Prop where
  Id : Is3 w s.Id
  Kind : Is5 w s.Kind
  Spot : Is30 w s.Spot
  Delay : Is3 w s.Delay
  Pace : Is3 w s.Pace
theorem fx62 : fL Try.prog 62 = some [(3, 0), (5, 1), (30, 2), (3, 5), (3, 6)] := by kernel_rfl
theorem op62 : OpR Try.prog 62 PostV PostV.cells Is62 := fun {H} enc w base sp held fuel cs x h => by
  obtain ⟨hl, hp⟩ := op_parts fx62 h
  obtain ⟨n0, y0, h0⟩ := hp 0 3 0 rfl
  obtain ⟨s0, c0, r0⟩ := op3 _ _ _ _ _ _ _ _ h0
  obtain ⟨n1, y1, h1⟩ := hp 1 5 1 rfl
  obtain ⟨s1, c1, r1⟩ := op5 _ _ _ _ _ _ _ _ h1
  obtain ⟨n2, y2, h2⟩ := hp 2 30 2 rfl
  obtain ⟨s2, c2, r2⟩ := op30 _ _ _ _ _ _ _ _ h2
  obtain ⟨n3, y3, h3⟩ := hp 3 3 5 rfl
  obtain ⟨s3, c3, r3⟩ := op3 _ _ _ _ _ _ _ _ h3
  obtain ⟨n4, y4, h4⟩ := hp 4 3 6 rfl
  obtain ⟨s4, c4, r4⟩ := op3 _ _ _ _ _ _ _ _ h4
  refine ⟨⟨s0, s1, s2, s3, s4⟩, ?_, ⟨r0, r1, r2, r3, r4⟩⟩
  have e4 := parts_last (hl.trans cz62) (by rw [cz3]) c4
  have e3 := parts_cons c3 (m := 6) (by rw [cz3]) e4
  have e2 := parts_cons c2 (m := 5) (by rw [cz30]) e3
  have e1 := parts_cons c1 (m := 2) (by rw [cz5]) e2
  have e0 := parts_cons c0 (m := 1) (by rw [cz3]) e1
  exact e0
def Is25 (w : World) (s : Slc) : Prop := ∃ l : List PostV, s.n = l.length ∧ (rd s.a l.length 7 (l.map PostV.cells)).holds w ∧ (∀ x ∈ l, Is62 w x) ∧ l.length ≤ maxLen ∧ s.n ≤ s.c
theorem op25 : OpR Try.prog 25 Slc (fun s => [Value.slice s.a s.n s.c]) Is25 := op_slice ut25 cz62 op62
theorem cz26 : Try.prog.cellsOf 26 = 1 := by kernel_rfl
theorem cz57 : Try.prog.cellsOf 57 = 3 := by kernel_rfl
structure Is57 (w : World) (s : NeedV) : Prop where
  Stretch : Is3 w s.Stretch
  Kind : Is5 w s.Kind
  Seconds : Is3 w s.Seconds
theorem fx57 : fL Try.prog 57 = some [(3, 0), (5, 1), (3, 2)] := by kernel_rfl
theorem op57 : OpR Try.prog 57 NeedV NeedV.cells Is57 := fun {H} enc w base sp held fuel cs x h => by
  obtain ⟨hl, hp⟩ := op_parts fx57 h
  obtain ⟨n0, y0, h0⟩ := hp 0 3 0 rfl
  obtain ⟨s0, c0, r0⟩ := op3 _ _ _ _ _ _ _ _ h0
  obtain ⟨n1, y1, h1⟩ := hp 1 5 1 rfl
  obtain ⟨s1, c1, r1⟩ := op5 _ _ _ _ _ _ _ _ h1
  obtain ⟨n2, y2, h2⟩ := hp 2 3 2 rfl
  obtain ⟨s2, c2, r2⟩ := op3 _ _ _ _ _ _ _ _ h2
  refine ⟨⟨s0, s1, s2⟩, ?_, ⟨r0, r1, r2⟩⟩
  have e2 := parts_last (hl.trans cz57) (by rw [cz3]) c2
  have e1 := parts_cons c1 (m := 2) (by rw [cz5]) e2
  have e0 := parts_cons c0 (m := 1) (by rw [cz3]) e1
  exact e0
def Is26 (w : World) (s : Slc) : Prop := ∃ l : List NeedV, s.n = l.length ∧ (rd s.a l.length 3 (l.map NeedV.cells)).holds w ∧ (∀ x ∈ l, Is57 w x) ∧ l.length ≤ maxLen ∧ s.n ≤ s.c
theorem op26 : OpR Try.prog 26 Slc (fun s => [Value.slice s.a s.n s.c]) Is26 := op_slice ut26 cz57 op57
structure Is32 (w : World) (s : GuardV) : Prop where
  Track : Is24 w s.Track
  Posts : Is25 w s.Posts
  Needs : Is26 w s.Needs
  Tower : Is30 w s.Tower
  Radio : Is3 w s.Radio
theorem fx32 : fL Try.prog 32 = some [(24, 0), (25, 1), (26, 2), (30, 3), (3, 6)] := by kernel_rfl
theorem op32 : OpR Try.prog 32 GuardV GuardV.cells Is32 := fun {H} enc w base sp held fuel cs x h => by
  obtain ⟨hl, hp⟩ := op_parts fx32 h
  obtain ⟨n0, y0, h0⟩ := hp 0 24 0 rfl
  obtain ⟨s0, c0, r0⟩ := op24 _ _ _ _ _ _ _ _ h0
  obtain ⟨n1, y1, h1⟩ := hp 1 25 1 rfl
  obtain ⟨s1, c1, r1⟩ := op25 _ _ _ _ _ _ _ _ h1
  obtain ⟨n2, y2, h2⟩ := hp 2 26 2 rfl
  obtain ⟨s2, c2, r2⟩ := op26 _ _ _ _ _ _ _ _ h2
  obtain ⟨n3, y3, h3⟩ := hp 3 30 3 rfl
  obtain ⟨s3, c3, r3⟩ := op30 _ _ _ _ _ _ _ _ h3
  obtain ⟨n4, y4, h4⟩ := hp 4 3 6 rfl
  obtain ⟨s4, c4, r4⟩ := op3 _ _ _ _ _ _ _ _ h4
  refine ⟨⟨s0, s1, s2, s3, s4⟩, ?_, ⟨r0, r1, r2, r3, r4⟩⟩
  have e4 := parts_last (hl.trans cz32) (by rw [cz3]) c4
  have e3 := parts_cons c3 (m := 6) (by rw [cz30]) e4
  have e2 := parts_cons c2 (m := 3) (by rw [cz26]) e3
  have e1 := parts_cons c1 (m := 2) (by rw [cz25]) e2
  have e0 := parts_cons c0 (m := 1) (by rw [cz24]) e1
  exact e0
theorem own_postWeak : ownKnob Try.prog.godebug = none := by kernel_rfl
theorem laid_postWeak : laidOutB Try.prog = true := by kernel_rfl
set_option maxRecDepth 100000 in
theorem postWeak_lifted (os : Os) (started : os.Started) (H : Type) (enc : TypeId × Value → H) :
    ReturnsInHanded {} Try.checked os 9 .any (Rows.postWeakSpec.pre6 enc Try.prog Try.f9 Rows.postWeakRow.domain false) (Rows.postWeakSpec.post enc Try.prog Try.f9 false true false false) := by
  refine returnsInHanded_of_change (C := Try.checked) own_postWeak started (by kernel_rfl) Try.func9
    (ChangeSpec.witness6 (enc := enc) (C := Try.checked) false ⟨#[], #[.agg #[(Value.slice none 0 0), (Value.slice none 0 0), (Value.slice none 0 0), (Value.int .i64 0), (Value.int .i64 0), (Value.int .i64 0), (Value.int .i64 0)], Value.int .u8 0], []⟩ 8 (by kernel_rfl) (by kernel_rfl) (by kernel_rfl) (by kernel_rfl)) ?_
  intro W base args ds gs before hval0 hW hcnd _
  have hval : ∀ (j : Nat) t v, Try.f9.params[j]? = some t → args[j]? = some v → Value.okWide Try.prog W .any base t v := hval0
  have hW' := hW
  obtain ⟨p, q, hA0, hV, rfl, hfz, hnd⟩ := hW
  have hA : DataW.TrodAll enc Try.prog W 0 (fun _ => true) true Try.f9.params.toList args.toList ds p := hA0
  have hA1 := hA
  rw [Try.params9] at hA hval
  obtain ⟨v0, vs0, d0, ds0, p0, q0, hargs, rfl, rfl, h0, r0⟩ := trodAll_cons hA
  obtain ⟨v1, vs1, d1, ds1, p1, q1, rfl, rfl, rfl, h1, r1⟩ := trodAll_cons r0
  obtain ⟨rfl, rfl, rfl⟩ := trodAll_nil r1
  obtain rfl : args = #[v0, v1] := by cases args; simp_all
  obtain ⟨rfl, rfl⟩ := trodVars_none hV
  obtain ⟨s0, rfl, R0⟩ := arg_struct fx32 op32 (hval 0 32 v0 rfl rfl) h0
  obtain ⟨s1, rfl, R1⟩ := arg_int (k := .u8) ut5 (hval 1 5 v1 rfl rfl) h1
  simp only [List.append_nil] at hW' hA1
  obtain ⟨d, kA, kC, pA, pC, nA, nC, rfl, hraw, hg3, _⟩ := open_guard (R1 := Is110) (R2 := Is62) (R3 := Is57) R0.Track.Stretches (fun x hx => hx.Side) R0.Posts (fun x hx => hx.Kind) R0.Needs (fun x hx => hx.Kind)
  have hb8 : 0 ≤ s1 ∧ s1 ≤ 255 := R1
  obtain ⟨bn, rfl⟩ : ∃ bn : Nat, s1 = (bn : Int) := ⟨s1.toNat, by omega⟩
  have hrun := (postWeak_c d kA kC pA pC nA nC bn hraw (by omega)).run W (by intro A hA; simp only [List.mem_cons, List.not_mem_nil, or_false] at hA; rcases hA with rfl | rfl | rfl; exact hg3.1; exact hg3.2.1; exact hg3.2.2)
  refine (hrun).mono fun e W' ⟨he, hk⟩ => ?_
  subst he
  exact ⟨_, rfl, law_post laid_postWeak hW' hA1 rfl rfl (by kernel_rfl) hk.below (by kernel_rfl) ut4⟩
/-- the statement -/
theorem postWeak_said : Rows.PostWeakSaid :=
  OpenClaim.holds_of_wide 9 Try.f9 rfl rfl rfl rfl rfl rfl rfl ⟨rfl, rfl, rfl, rfl, rfl⟩ rfl rfl rfl rfl rfl (by kernel_rfl) Try.func9 (by kernel_rfl)
    (of_decide_eq_true (by kernel_rfl)) (by unfold Func.isWrapper; first | (rw [if_pos (by decide +kernel)]; kernel_rfl) | (rw [if_neg (by decide +kernel)]; exact ⟨rfl, rfl⟩))
    (fun os started H enc _ => postWeak_lifted os started H enc)
#print axioms postWeak_said
end
end Go.Proofs.Ytlncplfcbmcjgaa
