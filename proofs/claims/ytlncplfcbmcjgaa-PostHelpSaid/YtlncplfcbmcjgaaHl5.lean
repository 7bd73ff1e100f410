/-
  The statement postHelp_said, part 5 of 5: X11, GuardOpen, Help0.
  Conditions: none.
-/
import Derived.Test.YtlncplfcbmcjgaaHl1
import Derived.Test.YtlncplfcbmcjgaaHl2
import Derived.Test.YtlncplfcbmcjgaaHl3
import Derived.Test.YtlncplfcbmcjgaaHl4
import Derived.Test.YtlncplfcbmcjgaaRows
import Derived.Test.YtlncplfcbmcjgaaProg
import Derived.KernelRfl
namespace Go.Proofs.Ytlncplfcbmcjgaa
section
open Go.RowKit
set_option linter.unusedVariables false
set_option maxRecDepth 100000 in
set_option maxHeartbeats 4000000 in
theorem postHelp_c (d : GuardM) (kA : Option Addr) (kC : Nat) (pA : Option Addr) (pC : Nat) (nA : Option Addr) (nC : Nat) (wh : Int) (nh : Int) (bl : List Int) (blA : Option Addr) (blC : Nat) (hraw : GuardRaw d) (hwh : 0 ≤ wh ∧ wh ≤ 255) (hnh : 0 ≤ nh ∧ nh ≤ 255) (hbl : ∀ z ∈ bl, 0 ≤ z ∧ z ≤ 4294967295) :
    FnV Try.prog 4 [(Value.agg (GuardV.cells (GuardV.mk (TrackV.mk (Slc.mk kA d.Track.length kC)) (Slc.mk pA d.Posts.length pC) (Slc.mk nA d.Needs.length nC) d.Tower d.Radio)).toArray), (Value.int .u8 wh), (Value.int .u8 nh), (Value.slice blA bl.length blC)] [(rd kA d.Track.length 9 (d.Track.map StretchV.cells)), (rd pA d.Posts.length 7 (d.Posts.map PostV.cells)), (rd nA d.Needs.length 3 (d.Needs.map NeedV.cells)), (rd blA bl.length 1 (bl.map iC_u32))] (Value.bool true) := by
 refine fnV_of go4 Try.func4 rfl rfl fun w0 Q hQ hN => ?_
 try dsimp only
 refine WS fun _ hK1 => BXA rfl fun b2 => BX1 rfl rfl fun b3 => rS (AG rfl) <| RK hK1 <| WS fun _ hK4 => rS (CL alive_c (ha_nil) rfl) <| rS (AG rfl) <| RK hK4 <| w_seq fun _ hK5 => ?_
 refine WS fun _ hK6 => rS (LW 1 rfl tk32 rfl rfl) <| rS (CL (ready_c d kA kC pA pC nA nC (by exact hraw)) (ha3 2 3 4 rfl rfl rfl rfl rfl rfl) rfl) <| rS (NT rfl) <| rS (MV rfl) ?_
 refine r_bool (t := 38) rfl (fun hg38 => ?_) (fun hg38 => ?_)
 · replace hg38 := XT hg38
   refine rS (OX rfl) <| rS (OX rfl) <| rS (OX rfl) <| rS (OX rfl) <| rS (PK rfl) <| rS (MV rfl) <| rS (OX rfl) <| rS (OX rfl) <| rS (PK rfl) <| RK hK6 ?_
   refine w_if_true rfl <| WS fun _ hK7 => rS (MV rfl) <| rS (AG rfl) <| RK hK7 <| w_ret <| Q1 hQ rfl rfl rfl ?_
   first | rfl | exact congrArg Value.bool (decide_eq_true (weak_six hge hg65).1) | exact congrArg Value.bool (decide_eq_true (congrArg (fun n : Nat => (n : Int)) (rounds_all hhm.1 hl29_1 hl29_2 hl29_3 (by omega))))
 replace hg38 := XF hg38
 refine rS (FA 2 rfl fo32_2 rfl) <| rS (L1 (Value.slice nA d.Needs.length nC) 1 rfl tk26 rfl rfl) <| rS (LN rfl ut26) <| rS (BI rfl b_eql) <| rS (PK rfl) <| rS (MV rfl) ?_
 refine r_bool (t := 44) rfl (fun hg44 => ?_) (fun hg44 => ?_)
 · replace hg44 := DT hg44
   refine rS (OX rfl) <| rS (OX rfl) <| rS (PK rfl) <| RK hK6 <| w_if_true rfl <| WS fun _ hK8 => rS (MV rfl) <| rS (AG rfl) <| RK hK8 <| w_ret ?_
   refine Q1 hQ rfl rfl rfl ?_
   first | rfl | exact congrArg Value.bool (decide_eq_true (weak_six hge hg65).1) | exact congrArg Value.bool (decide_eq_true (congrArg (fun n : Nat => (n : Int)) (rounds_all hhm.1 hl29_1 hl29_2 hl29_3 (by omega))))
 replace hg44 := DF hg44
 refine rS (MV rfl) <| rS (NT rfl) <| rS (PK rfl) <| RK hK6 <| w_if_false rfl <| WK hK5 <| WS fun _ hK9 => ?_
 have hin := hraw.small hg38.1
 have hge := hg38.2
 obtain ⟨htr, hok⟩ := guardE_zero hge
 have hn8 := hok.len
 have htl := trackOk_le htr
 refine rS (LW 1 rfl tk32 rfl rfl) <| cX (Weak_c d kA kC pA pC nA nC (by exact hin)) (ha3 2 3 4 rfl rfl rfl rfl rfl rfl) rfl fun y10 hy11 => ?_
 obtain ⟨a12, c13⟩ := y10
 try dsimp only
 refine rS (MV rfl) <| rS (EX rfl) <| rS (EX rfl) <| rS (AG rfl) <| rS (AG rfl) <| RK hK9 <| w_seq fun _ hK14 => WS fun _ hK15 => rS (MV rfl) <| rS (BI rfl b_neq) ?_
 refine rS (MV rfl) ?_
 refine r_bool (t := 56) rfl (fun hg56 => ?_) (fun hg56 => ?_)
 · replace hg56 := XT hg56
   refine rS (OX rfl) <| rS (OX rfl) <| rS (OX rfl) <| rS (PK rfl) <| RK hK15 <| w_if_true rfl <| WS fun _ hK16 => rS (MV rfl) <| rS (MV rfl) <| rS (MV rfl) ?_
   refine rS (BI rfl b_eql) <| rS (MV rfl) ?_
   refine r_bool (t := 65) rfl (fun hg65 => ?_) (fun hg65 => ?_)
   · replace hg65 := DT hg65
     refine rS (OX rfl) <| rS (OX rfl) <| rS (PK rfl) <| rS (PK rfl) <| rS (AG rfl) <| RK hK16 <| w_ret <| Q1 hQ rfl rfl rfl ?_
     first | rfl | exact congrArg Value.bool (decide_eq_true (weak_six hge hg65).1) | exact congrArg Value.bool (decide_eq_true (congrArg (fun n : Nat => (n : Int)) (rounds_all hhm.1 hl29_1 hl29_2 hl29_3 (by omega))))
   replace hg65 := DF hg65
   refine rS (MV rfl) <| rS (BI rfl b_eql) <| rS (PK rfl) <| rS (PK rfl) <| rS (AG rfl) <| RK hK16 <| w_ret <| Q1 hQ rfl rfl rfl ?_
   first | rfl | exact congrArg Value.bool (decide_eq_true (weak_six hge hg65).1) | exact congrArg Value.bool (decide_eq_true (congrArg (fun n : Nat => (n : Int)) (rounds_all hhm.1 hl29_1 hl29_2 hl29_3 (by omega))))
 replace hg56 := XF hg56
 refine rS (MV rfl) <| rS (LN rfl ut33) <| rS (BI rfl b_gtr) <| rS (PK rfl) <| RK hK15 ?_
 refine w_if rfl (fun hg60 => ?_) (fun hg60 => ?_)
 · replace hg60 := DT hg60
   refine WS fun _ hK17 => rS (MV rfl) <| rS (MV rfl) <| rS (MV rfl) <| rS (BI rfl b_eql) <| rS (MV rfl) ?_
   refine r_bool (t := 65) rfl (fun hg65 => ?_) (fun hg65 => ?_)
   · replace hg65 := DT hg65
     refine rS (OX rfl) <| rS (OX rfl) <| rS (PK rfl) <| rS (PK rfl) <| rS (AG rfl) <| RK hK17 <| w_ret <| Q1 hQ rfl rfl rfl ?_
     first | rfl | exact congrArg Value.bool (decide_eq_true (weak_six hge hg65).1) | exact congrArg Value.bool (decide_eq_true (congrArg (fun n : Nat => (n : Int)) (rounds_all hhm.1 hl29_1 hl29_2 hl29_3 (by omega))))
   replace hg65 := DF hg65
   refine rS (MV rfl) <| rS (BI rfl b_eql) <| rS (PK rfl) <| rS (PK rfl) <| rS (AG rfl) <| RK hK17 <| w_ret <| Q1 hQ rfl rfl rfl ?_
   first | rfl | exact congrArg Value.bool (decide_eq_true (weak_six hge hg65).1) | exact congrArg Value.bool (decide_eq_true (congrArg (fun n : Nat => (n : Int)) (rounds_all hhm.1 hl29_1 hl29_2 hl29_3 (by omega))))
 replace hg60 := DF hg60
 refine WK hK14 <| WS fun _ hK18 => r_own_nil 3 1 ?_
 try dsimp only
 refine rS (AG rfl) <| RK hK18 ?_
 refine w_join (ι := { z : (List Int) × (Option Addr) × Nat // (z.1 = [] ∨ ∃ i : Nat, i < d.Posts.length ∧ z.1 = [(i : Int)]) }) (fun z => [(2, (Value.int .u8 nh)), (4, (Value.pointer (some ⟨b2, 0, none⟩))), (7, (Value.pointer (some ⟨b3, 0, none⟩))), (9, (Value.bool true)), (12, (Value.slice z.1.2.1 z.1.1.length z.1.2.2))]) (fun z => [(own z.1.2.1 z.1.2.2 3 1 (z.1.1.map iC)), (own a12 c13 3 1 ((weakV d).map iC)), (blk b3 52 [(Value.slice blA bl.length blC)]), (blk b2 32 (GuardV.cells (GuardV.mk (TrackV.mk (Slc.mk kA d.Track.length kC)) (Slc.mk pA d.Posts.length pC) (Slc.mk nA d.Needs.length nC) d.Tower d.Radio))), (rd kA d.Track.length 9 (d.Track.map StretchV.cells)).ro, (rd pA d.Posts.length 7 (d.Posts.map PostV.cells)).ro, (rd nA d.Needs.length 3 (d.Needs.map NeedV.cells)).ro, (rd blA bl.length 1 (bl.map iC_u32)).ro]) ?_ fun K19 hK19 => ?_
 · rintro ⟨⟨em, ea, ec⟩, hjK19_0⟩
   try dsimp only at hjK19_0
   try dsimp only
   have hje := hjK19_0
   refine WS fun _ hK20 => rS (MV rfl) <| rS (SX (sd_conv (m := nh) rfl rfl ut5 ut3 (wrap_u8_i64 (by first | assumption | omega))) rfl rfl) <| rS (FA 2 rfl fo32_2 rfl) <| rS (L1 (Value.slice nA d.Needs.length nC) 3 rfl tk26 rfl rfl) <| rS (LN rfl ut26) <| rS (BI rfl (b_rem (by omega) (by omega))) <| rS (AG rfl) <| RK hK20 <| w_seq fun _ hK21 => ?_
   obtain ⟨k, hqke, hqkn⟩ : ∃ k : Nat, (nh % ((d.Needs.length : Nat) : Int)) = ((k : Nat) : Int) ∧ k < d.Needs.length := ⟨((nh % ((d.Needs.length : Nat) : Int))).toNat, by rw [Int.toNat_of_nonneg (Int.emod_nonneg _ (by omega))], by have h1 := Int.emod_nonneg nh (show (d.Needs.length : Int) ≠ 0 by omega); have h2 := Int.emod_lt_of_pos nh (show 0 < (d.Needs.length : Int) by omega); omega⟩
   rw [hqke]
   refine w_region ?_
   have heml : em.length ≤ 1 := by rcases hje with rfl | ⟨i, _, rfl⟩ <;> simp
   have hhm := help_meets hge hg56 (by omega) hje hqkn
   have hcl := calledV_len (d := d) (l := em)
   have hml := meetsV_len (d := d) (k := ((k : Nat) : Int)) (l := em)
   have hmll : (tMarks bl d.Track d.Track.length).length = d.Track.length + 1 := tMarks_len
   refine rS (LW 3 rfl tk32 rfl rfl) <| rS (MV rfl) <| cX (Called_c d kA kC pA pC nA nC em ea ec (by exact hin) (by omega)) (ha_at 4 rfl rfl <| ha_at 5 rfl rfl <| ha_at 6 rfl rfl <| ha_cons (has_own_n (n := em.length) 0 rfl (by simp)) <| ha_nil) rfl fun y22 hy23 => ?_
   obtain ⟨a24, c25⟩ := y22
   try dsimp only
   refine rS (MV rfl) <| rS (EX rfl) <| rS (EX rfl) <| rS (AG rfl) <| rS (AG rfl) <| RK hK21 <| WS fun _ hK26 => rS (LW 4 rfl tk32 rfl rfl) <| rS (MV rfl) <| rS (MV rfl) ?_
   refine cX (Meets_c d kA kC pA pC nA nC ((k : Nat) : Int) em ea ec (by exact hin) (by omega)) (ha_at 5 rfl rfl <| ha_at 6 rfl rfl <| ha_at 7 rfl rfl <| ha_cons (has_own_n (n := em.length) 1 rfl (by simp)) <| ha_nil) rfl fun y27 hy28 => ?_
   obtain ⟨a29, c30⟩ := y27
   try dsimp only
   refine rS (MV rfl) <| rS (EX rfl) <| rS (EX rfl) <| rS (AG rfl) <| rS (AG rfl) <| RK hK26 <| w_seq fun _ hK31 => WS fun _ hK32 => rS (MV rfl) <| rS (BI rfl b_neq) ?_
   refine rS (MV rfl) ?_
   refine r_bool (t := 105) rfl (fun hg105 => ?_) (fun hg105 => ?_)
   · replace hg105 := XT hg105
     exact absurd hhm.1 hg105
   replace hg105 := XF hg105
   refine rS (MV rfl) <| rS (BI rfl b_neq) <| rS (PK rfl) <| rS (MV rfl) ?_
   refine r_bool (t := 109) rfl (fun hg109 => ?_) (fun hg109 => ?_)
   · replace hg109 := XT hg109
     exact absurd hhm.2.1 hg109
   replace hg109 := XF hg109
   refine rS (MV rfl) <| rS (LN rfl ut33) <| rS (BI rfl b_eql) <| rS (PK rfl) <| RK hK32 ?_
   refine w_if rfl (fun hg113 => ?_) (fun hg113 => ?_)
   · replace hg113 := DT hg113
     exact absurd hg113 hhm.2.2
   replace hg113 := DF hg113
   refine WK hK31 <| WS fun _ hK33 => rS (FA 0 rfl fo32_0 rfl) <| rS (LP (TrackV.cells (TrackV.mk (Slc.mk kA d.Track.length kC))) 5 rfl tk24 rfl rfl rfl) <| rS (L1W 4 rfl tk52 rfl) <| cX (lmarks_c d.Track kA kC bl blA blC hbl (by exact hin.trk) (by first | assumption | omega | (simp; done) | (simp; omega))) (ha_at 6 rfl rfl <| ha_at 9 rfl rfl <| ha_nil) rfl fun y34 hy35 => ?_
   obtain ⟨a36, c37⟩ := y34
   try dsimp only
   refine AL rfl tz33 fun b38 => SO0 rfl ts33 rfl rfl <| RK hK33 <| w_seq fun _ hK39 => w_draw mixed 35 (by kernel_rfl) <| dS (L1W 0 rfl tk33 rfl) <| dS (FA 2 rfl fo32_2 rfl) <| dS (L1 (Value.slice nA d.Needs.length nC) 7 rfl tk26 rfl rfl) <| dS (MV rfl) ?_
   obtain ⟨n, hn⟩ : ∃ y_, d.Needs[k]? = some y_ := ⟨d.Needs[k]'(by omega), List.getElem?_eq_getElem _⟩
   have hnm : (d.Needs.map NeedV.cells)[k]? = some (NeedV.cells n) := by rw [List.getElem?_map, hn]; rfl
   refine dS (IA k rfl (has_at 10 rfl) te26 (by decide) (by omega) (by omega)) ?_
   have hno := hok.need n (List.mem_of_getElem? hn)
   unfold NeedOk at hno
   have htk0 := tMark_b (bl := bl) htr (i := n.Stretch.toNat) (by omega)
   have htk1 := tMark_b (bl := bl) htr (i := n.Stretch.toNat + 1) (by omega)
   have hone := tMark_one (bl := bl) htr (i := n.Stretch.toNat) (by omega)
   have hc30 := chooseF_b hbl 30
   refine dS (FAR (k * 3) rfl (has_at 10 rfl) (Nat.mul_pos (by omega) (by decide)) fo57_0 rfl) <| dS (LE1 k 0 (Value.int .i64 n.Stretch) rfl tk3 (has_at 10 rfl) hnm rfl (by decide) rfl) ?_
   obtain ⟨m1, hm1⟩ : ∃ y_, (tMarks bl d.Track d.Track.length)[(n.Stretch).toNat]? = some y_ := ⟨(tMarks bl d.Track d.Track.length)[(n.Stretch).toNat]'(by omega), List.getElem?_eq_getElem _⟩
   have hm1m : ((tMarks bl d.Track d.Track.length).map iC)[(n.Stretch).toNat]? = some (iC m1) := by rw [List.getElem?_map, hm1]; rfl
   refine dS (IA ((n.Stretch).toNat) rfl (has_own_n (n := (tMarks bl d.Track d.Track.length).length) 1 rfl (by simp)) te33 (by decide) (by omega) (by omega)) <| dS (LE1 ((n.Stretch).toNat) 0 (Value.int .i64 m1) rfl tk3 (has_own_n (n := (tMarks bl d.Track d.Track.length).length) 1 rfl (by simp)) hm1m rfl (by decide) rfl) ?_
   have e1 := tMarks_at hm1
   refine dS (L1W 6 rfl tk52 rfl) <| dS (CL (choose_c bl blA blC 30 hbl (by omega)) (ha_at 11 rfl rfl <| ha_nil) rfl) <| dS (L1W 0 rfl tk33 rfl) <| dS (FA 2 rfl fo32_2 rfl) <| dS (L1 (Value.slice nA d.Needs.length nC) 7 rfl tk26 rfl rfl) <| dS (MV rfl) <| dS (IA k rfl (has_at 10 rfl) te26 (by decide) (by omega) (by omega)) <| dS (FAR (k * 3) rfl (has_at 10 rfl) (Nat.mul_pos (by omega) (by decide)) fo57_0 rfl) <| dS (LE1 k 0 (Value.int .i64 n.Stretch) rfl tk3 (has_at 10 rfl) hnm rfl (by decide) rfl) <| dS (BI rfl (b_add ⟨by omega, by omega⟩)) ?_
   obtain ⟨m2, hm2⟩ : ∃ y_, (tMarks bl d.Track d.Track.length)[((n.Stretch + 1)).toNat]? = some y_ := ⟨(tMarks bl d.Track d.Track.length)[((n.Stretch + 1)).toNat]'(by omega), List.getElem?_eq_getElem _⟩
   have hm2m : ((tMarks bl d.Track d.Track.length).map iC)[((n.Stretch + 1)).toNat]? = some (iC m2) := by rw [List.getElem?_map, hm2]; rfl
   refine dS (IA (((n.Stretch + 1)).toNat) rfl (has_own_n (n := (tMarks bl d.Track d.Track.length).length) 1 rfl (by simp)) te33 (by decide) (by omega) (by omega)) <| dS (LE1 (((n.Stretch + 1)).toNat) 0 (Value.int .i64 m2) rfl tk3 (has_own_n (n := (tMarks bl d.Track d.Track.length).length) 1 rfl (by simp)) hm2m rfl (by decide) rfl) ?_
   have e2 := tMarks_at hm2
   rw [show (n.Stretch + 1).toNat = n.Stretch.toNat + 1 by omega] at e2
   refine dS (L1W 0 rfl tk33 rfl) <| dS (FA 2 rfl fo32_2 rfl) <| dS (L1 (Value.slice nA d.Needs.length nC) 7 rfl tk26 rfl rfl) <| dS (MV rfl) <| dS (IA k rfl (has_at 10 rfl) te26 (by decide) (by omega) (by omega)) <| dS (FAR (k * 3) rfl (has_at 10 rfl) (Nat.mul_pos (by omega) (by decide)) fo57_0 rfl) <| dS (LE1 k 0 (Value.int .i64 n.Stretch) rfl tk3 (has_at 10 rfl) hnm rfl (by decide) rfl) <| dS (IA ((n.Stretch).toNat) rfl (has_own_n (n := (tMarks bl d.Track d.Track.length).length) 1 rfl (by simp)) te33 (by decide) (by omega) (by omega)) <| dS (LE1 ((n.Stretch).toNat) 0 (Value.int .i64 m1) rfl tk3 (has_own_n (n := (tMarks bl d.Track d.Track.length).length) 1 rfl (by simp)) hm1m rfl (by decide) rfl) <| dS (BI rfl (b_sub ⟨by omega, by omega⟩)) ?_
   refine dS (BI rfl (b_add ⟨by omega, by omega⟩)) ?_
   have hr1 := Int.emod_nonneg (chooseF bl 30) (show m2 - m1 + 1 ≠ 0 by omega)
   have hr2 := Int.emod_lt_of_pos (chooseF bl 30) (show 0 < m2 - m1 + 1 by omega)
   refine dS (BI rfl (b_rem (by omega) (by omega))) <| dS (BI rfl (b_add ⟨by omega, by omega⟩)) <| dS (AG rfl) <| d_end <| RK hK39 <| w_seq fun _ hK40 => ?_
   obtain ⟨pl, hpl⟩ : ∃ z : Int, (m1 + ((chooseF bl 30) % ((m2 - m1) + 1))) = z := ⟨_, rfl⟩
   rw [hpl]
   refine w_region <| rS (FU rfl) <| rS (AG rfl) <| RK hK40 <| WS fun _ hK41 => rS (AG rfl) <| RK hK41 <| w_seq fun _ hK42 => WS fun _ hK43 => rS (MV rfl) ?_
   refine rS (LN rfl ut33) <| rS (MV rfl) <| RK hK43 <| w_block ?_
   have hinit : (0 ≤ (meetsV d ((k : Nat) : Int) em).length) := by exact Nat.zero_le _
   have hb44 : (Value.bool (decide (0 < 0))) = (Value.bool false) := by rfl
   refine w_loop (ι := { z : Nat // (z ≤ (meetsV d ((k : Nat) : Int) em).length) }) (fun z => [(4, (Value.pointer (some ⟨b2, 0, none⟩))), (7, (Value.pointer (some ⟨b3, 0, none⟩))), (9, (Value.bool true)), (12, (Value.slice ea em.length ec)), (14, (Value.int .i64 ((k : Nat) : Int))), (15, (Value.slice a24 ((calledV d em).length) c25)), (17, (Value.slice a29 ((meetsV d ((k : Nat) : Int) em).length) c30)), (19, (Value.pointer (some ⟨b38, 0, none⟩))), (20, (Value.int .i64 pl)), (21, (Value.func (.func 32) [].toArray [(Value.pointer (some ⟨b38, 0, none⟩)), (Value.pointer (some ⟨b3, 0, none⟩))].toArray)), (22, (Value.bool (decide (0 < z.1)))), (153, (Value.slice a29 ((meetsV d ((k : Nat) : Int) em).length) c30)), (154, (Value.int .i64 (((meetsV d ((k : Nat) : Int) em).length : Nat) : Int))), (155, (Value.int .i64 ((z.1 : Nat) : Int)))]) (fun z => [(blk b38 33 [(Value.slice a36 ((tMarks bl d.Track d.Track.length).length) c37)]), (own a36 c37 3 1 ((tMarks bl d.Track d.Track.length).map iC)), (own a29 c30 3 1 ((meetsV d ((k : Nat) : Int) em).map iC)), (own a24 c25 3 1 ((calledV d em).map iC)), (own ea ec 3 1 (em.map iC)), (own a12 c13 3 1 ((weakV d).map iC)), (blk b3 52 [(Value.slice blA bl.length blC)]), (blk b2 32 (GuardV.cells (GuardV.mk (TrackV.mk (Slc.mk kA d.Track.length kC)) (Slc.mk pA d.Posts.length pC) (Slc.mk nA d.Needs.length nC) d.Tower d.Radio))), (rd kA d.Track.length 9 (d.Track.map StretchV.cells)).ro, (rd pA d.Posts.length 7 (d.Posts.map PostV.cells)).ro, (rd nA d.Needs.length 3 (d.Needs.map NeedV.cells)).ro, (rd blA bl.length 1 (bl.map iC_u32)).ro]) (fun z => (meetsV d ((k : Nat) : Int) em).length - z.1) ⟨0, hinit⟩ (Sub.cons rfl <| Sub.cons rfl <| Sub.cons rfl <| Sub.cons rfl <| Sub.cons rfl <| Sub.cons rfl <| Sub.cons rfl <| Sub.cons rfl <| Sub.cons rfl <| Sub.cons rfl <| sub_val rfl hb44 <| Sub.cons rfl <| Sub.cons rfl <| Sub.cons rfl <| Sub.nil _) (fun w hs => St.sel [0, 1, 2, 3, 4, 5, 6, 7, 8, 9, 10, 11] rfl rfl hs) ?_
   clear hinit
   rintro ⟨u, hl21_0⟩ J45 hJ45
   try dsimp only
   refine WS fun _ hK46 => rS (BI rfl b_lss) <| RK hK46 <| w_seq fun _ hK47 => ?_
   refine w_if rfl (fun h48 => ?_) (fun h48 => ?_)
   · replace h48 := DT h48
     refine WK hK47 <| w_seq fun _ hK49 => w_block <| WS fun _ hK50 => ?_
     obtain ⟨x, hx⟩ : ∃ y_, (meetsV d ((k : Nat) : Int) em)[u]? = some y_ := ⟨(meetsV d ((k : Nat) : Int) em)[u]'(by omega), List.getElem?_eq_getElem _⟩
     have hxm : ((meetsV d ((k : Nat) : Int) em).map iC)[u]? = some (iC x) := by rw [List.getElem?_map, hx]; rfl
     refine rS (IA u rfl (has_own_n (n := (meetsV d ((k : Nat) : Int) em).length) 2 rfl (by simp)) te33 (by decide) (by omega) (by omega)) <| rS (LE1 u 0 (Value.int .i64 x) rfl tk3 (has_own_n (n := (meetsV d ((k : Nat) : Int) em).length) 2 rfl (by simp)) hxm rfl (by decide) rfl) <| rS (AG rfl) <| RK hK50 <| WS fun _ hK51 => ?_
     have hxm := List.mem_of_getElem? hx
     have hxb := meets_b hhm.1 hn hxm
     refine rS (FA 1 rfl fo32_1 rfl) <| rS (L1 (Value.slice pA d.Posts.length pC) 7 rfl tk25 rfl rfl) <| rS (MV rfl) ?_
     obtain ⟨p, hp⟩ : ∃ y_, d.Posts[(x).toNat]? = some y_ := ⟨d.Posts[(x).toNat]'(by omega), List.getElem?_eq_getElem _⟩
     have hpm : (d.Posts.map PostV.cells)[(x).toNat]? = some (PostV.cells p) := by rw [List.getElem?_map, hp]; rfl
     refine rS (IA ((x).toNat) rfl (has_at 9 rfl) te25 (by decide) (by omega) (by omega)) <| rS (LEN ((x).toNat) 0 (PostV.cells p) rfl tk62 (has_at 9 rfl) hpm rfl (by decide) rfl rfl) <| AL rfl tz62 fun b52 => SW0 rfl ts62 rfl <| RK hK51 <| WS fun _ hK53 => ?_
     have hpo := hok.post _ p hp
     unfold PostOk at hpo
     have hmt := meets_truthX (bl := bl) (a := pl) hhm.1 hn hxm hxb.1 hp (by omega)
     have hsb3 : -3000000 ≤ standF bl d.Track p.Spot (31 + x) - pl ∧ standF bl d.Track p.Spot (31 + x) - pl ≤ 3000000 := by have := standF_b (bl := bl) htr hpo.2.2.1 (31 + x); omega
     have hsb1 := standF_b (bl := bl) htr hpo.2.2.1 (31 + x)
     refine rS (MV rfl) <| rS (FA 2 rfl fo62_2 rfl) <| rS (LP (SpotV.cells p.Spot) 0 rfl tk30 rfl rfl rfl) <| rS (MV rfl) <| rS (BI rfl (b_add ⟨by omega, by omega⟩)) <| rS (CL (hstands_c a36 c37 b38 bl blA blC b3 d p.Spot (31 + x) (by exact hbl) (by first | assumption | omega | (simp; done) | (simp; omega)) (by exact hpo.2.2.1) (by omega)) (ha_cons (has_own_n (n := (tMarks bl d.Track d.Track.length).length) 2 rfl (by simp)) <| ha_at 1 rfl rfl <| ha_at 12 rfl rfl <| ha_at 7 rfl rfl <| ha_nil) rfl) <| rS (MV rfl) <| rS (BI rfl (b_sub ⟨by omega, by omega⟩)) <| rS (AG rfl) <| RK hK53 ?_
     obtain ⟨dd, hdd⟩ : ∃ z : Int, ((standF bl d.Track p.Spot (31 + x)) - pl) = z := ⟨_, rfl⟩
     rw [hdd]
     rw [hdd] at hmt hsb3
     refine w_draw mixed 44 (by kernel_rfl) ?_
     have hpm0 : 0 ≤ p.Pace * max dd (-dd) := Int.mul_nonneg (by omega) (by omega)
     refine dS (MV rfl) <| dS (MV rfl) ?_
     refine d_bool (t := 173) rfl (fun hg173 => ?_) (fun hg173 => ?_)
     · replace hg173 := DT hg173
       refine dS (OX rfl) <| dS (OX rfl) <| dS (OX rfl) <| dS (OX rfl) <| dS (OX rfl) <| dS (OX rfl) <| dS (OX rfl) <| dS (OX rfl) <| dS (OX rfl) <| dS (OX rfl) ?_
       refine dS (OX rfl) <| dS (OX rfl) <| dS (OX rfl) <| dS (OX rfl) <| dS (OX rfl) <| dS (OX rfl) <| dS (OX rfl) <| dS (OX rfl) <| dS (OX rfl) <| dS (OX rfl) ?_
       refine dS (OX rfl) <| dS (OX rfl) <| dS (OX rfl) <| dS (OX rfl) <| dS (OX rfl) <| dS (OX rfl) <| dS (OX rfl) <| dS (OX rfl) <| dS (OX rfl) <| dS (OX rfl) ?_
       refine dS (OX rfl) <| dS (OX rfl) <| dS (OX rfl) <| dS (OX rfl) <| dS (OX rfl) <| dS (OX rfl) <| dS (OX rfl) <| dS (OX rfl) <| dS (OX rfl) <| dS (OX rfl) ?_
       refine dS (PK rfl) <| dS (AG rfl) <| d_end <| r_nil <| k_block <| KK hK49 <| w_region <| rS (BI rfl (b_add ⟨by omega, by omega⟩)) <| rS (MV rfl) <| r_nil ?_
       have hb54 : (Value.bool (decide (0 < (u + 1)))) = (Value.bool true) := by first | exact congrArg Value.bool (decide_eq_true (Nat.succ_pos _)) | exact congrArg Value.bool (decide_eq_decide.2 ⟨fun _ => by have := hmt.2.2.2; omega, fun _ => Nat.succ_pos _⟩)
       have hb55 : (Value.int .i64 (((u + 1) : Nat) : Int)) = (Value.int .i64 (((u : Nat) : Int) + 1)) := by exact congrArg (Value.int .i64) (by omega)
       refine k_then (hJ45 ⟨(u + 1), (by first | omega | (simp only []; omega))⟩ _ _ _ rfl (by first | omega | (simp; omega)) (Sub.cons rfl <| Sub.cons rfl <| Sub.cons rfl <| Sub.cons rfl <| Sub.cons rfl <| Sub.cons rfl <| Sub.cons rfl <| Sub.cons rfl <| Sub.cons rfl <| Sub.cons rfl <| sub_val rfl hb54 <| Sub.cons rfl <| Sub.cons rfl <| sub_val rfl hb55 <| Sub.nil _) (fun w hs => St.sel [1, 2, 3, 4, 5, 6, 7, 8, 9, 10, 11, 12] rfl rfl hs))
     replace hg173 := DF hg173
     refine dS (MV rfl) <| dS (MV rfl) <| dS (CL (has_c em ea ec x (by omega)) (ha_cons (has_own_n (n := em.length) 5 rfl (by simp)) <| ha_nil) rfl) <| dS (NT rfl) <| dS (MV rfl) ?_
     refine d_bool (t := 178) rfl (fun hg178 => ?_) (fun hg178 => ?_)
     rotate_left 1
     · replace hg178 := XF hg178
       exact absurd hg178 hmt.1
     replace hg178 := XT hg178
     refine dS (MV rfl) <| dS (MV rfl) <| dS (CL (has_c (calledV d em) a24 c25 x (by omega)) (ha_cons (has_own_n (n := (calledV d em).length) 4 rfl (by simp)) <| ha_nil) rfl) <| dS (PK rfl) <| dS (MV rfl) ?_
     refine d_bool (t := 183) rfl (fun hg183 => ?_) (fun hg183 => ?_)
     rotate_left 1
     · replace hg183 := DF hg183
       exact absurd hmt.2.1 hg183
     replace hg183 := DT hg183
     refine dS (FA 1 rfl fo62_1 rfl) <| dS (L1 (Value.int .u8 p.Kind) 0 rfl tk5 rfl rfl) <| dS (FA 2 rfl fo32_2 rfl) <| dS (L1 (Value.slice nA d.Needs.length nC) 8 rfl tk26 rfl rfl) <| dS (MV rfl) <| dS (IA k rfl (has_at 11 rfl) te26 (by decide) (by omega) (by omega)) <| dS (FAR ((k * 3) + 1) rfl (has_at 11 rfl) (Nat.mul_pos (by omega) (by decide)) fo57_1 rfl) <| dS (LE1 k 1 (Value.int .u8 n.Kind) rfl tk5 (has_at 11 rfl) hnm rfl (by decide) rfl) <| dS (BI rfl b_eql) <| dS (PK rfl) ?_
     refine dS (MV rfl) ?_
     refine d_bool (t := 194) rfl (fun hg194 => ?_) (fun hg194 => ?_)
     rotate_left 1
     · replace hg194 := DF hg194
       exact absurd hmt.2.2.1 hg194
     replace hg194 := DT hg194
     refine dS (FA 2 rfl fo32_2 rfl) <| dS (L1 (Value.slice nA d.Needs.length nC) 8 rfl tk26 rfl rfl) <| dS (MV rfl) <| dS (IA k rfl (has_at 11 rfl) te26 (by decide) (by omega) (by omega)) <| dS (FAR ((k * 3) + 2) rfl (has_at 11 rfl) (Nat.mul_pos (by omega) (by decide)) fo57_2 rfl) <| dS (LE1 k 2 (Value.int .i64 n.Seconds) rfl tk3 (has_at 11 rfl) hnm rfl (by decide) rfl) <| dS (FA 5 rfl fo62_3 rfl) <| dS (L1 (Value.int .i64 p.Delay) 0 rfl tk3 rfl rfl) <| dS (BI rfl (b_sub ⟨by omega, by omega⟩)) <| dS (BI rfl (b_mul ⟨by omega, by omega⟩)) ?_
     refine dS (FA 6 rfl fo62_4 rfl) <| dS (L1 (Value.int .i64 p.Pace) 0 rfl tk3 rfl rfl) <| dS (MV rfl) <| dS (MV rfl) <| dS (NG rfl ⟨by omega, by omega⟩) <| dS (MX rfl) <| dS (BI rfl (b_mul ⟨by omega, by omega⟩)) <| dS (BI rfl b_geq) <| dS (PK rfl) <| dS (PK rfl) ?_
     refine dS (AG rfl) <| d_end <| r_nil <| k_block <| KK hK49 <| w_region <| rS (BI rfl (b_add ⟨by omega, by omega⟩)) <| rS (MV rfl) <| r_nil ?_
     have hb56 : (Value.bool (decide (0 < (u + 1)))) = (Value.bool (decide ((p.Pace * (max dd (-dd))) ≤ ((n.Seconds - p.Delay) * 1000)))) := by first | exact congrArg Value.bool (decide_eq_true (Nat.succ_pos _)) | exact congrArg Value.bool (decide_eq_decide.2 ⟨fun _ => by have := hmt.2.2.2; omega, fun _ => Nat.succ_pos _⟩)
     have hb57 : (Value.int .i64 (((u + 1) : Nat) : Int)) = (Value.int .i64 (((u : Nat) : Int) + 1)) := by exact congrArg (Value.int .i64) (by omega)
     refine k_then (hJ45 ⟨(u + 1), (by first | omega | (simp only []; omega))⟩ _ _ _ rfl (by first | omega | (simp; omega)) (Sub.cons rfl <| Sub.cons rfl <| Sub.cons rfl <| Sub.cons rfl <| Sub.cons rfl <| Sub.cons rfl <| Sub.cons rfl <| Sub.cons rfl <| Sub.cons rfl <| Sub.cons rfl <| sub_val rfl hb56 <| Sub.cons rfl <| Sub.cons rfl <| sub_val rfl hb57 <| Sub.nil _) (fun w hs => St.sel [1, 2, 3, 4, 5, 6, 7, 8, 9, 10, 11, 12] rfl rfl hs))
   replace h48 := DF h48
   refine w_exit <| k_exit_then <| k_exit_then <| k_exit_same <| KK hK42 <| w_seq fun _ hK58 => ?_
   rw [show decide (0 < u) = true from decide_eq_true (by omega)]
   refine w_region <| gr_mkmap (kV := iV) rfl rfl fun b59 => ?_
   try dsimp only
   refine rS (AG rfl) <| RK hK58 <| w_seq fun _ hK60 => WS fun _ hK61 => rS (MV rfl) <| rS (LN rfl ut33) <| rS (MV rfl) <| RK hK61 <| w_block ?_
   have hinit : (0 ≤ (calledV d em).length) ∧ (KeyOk ([] : BM) (fun _ => False)) ∧ (∀ i : Nat, (fun _ => False) i → (i : Int) ∈ (calledV d em)) ∧ (0 ≤ ([] : BM).length) := by exact ⟨Nat.zero_le _, key_nil, fun i h => h.elim, Nat.zero_le _⟩
   refine w_loop (ι := { z : Nat × BM × (Nat → Prop) // (z.1 ≤ (calledV d em).length) ∧ (KeyOk z.2.1 z.2.2) ∧ (∀ i : Nat, z.2.2 i → (i : Int) ∈ (calledV d em)) ∧ (z.1 ≤ z.2.1.length) }) (fun z => [(4, (Value.pointer (some ⟨b2, 0, none⟩))), (7, (Value.pointer (some ⟨b3, 0, none⟩))), (9, (Value.bool true)), (15, (Value.slice a24 ((calledV d em).length) c25)), (19, (Value.pointer (some ⟨b38, 0, none⟩))), (21, (Value.func (.func 32) [].toArray [(Value.pointer (some ⟨b38, 0, none⟩)), (Value.pointer (some ⟨b3, 0, none⟩))].toArray)), (22, (Value.bool true)), (27, (Value.map (some b59))), (217, (Value.slice a24 ((calledV d em).length) c25)), (218, (Value.int .i64 (((calledV d em).length : Nat) : Int))), (219, (Value.int .i64 ((z.1.1 : Nat) : Int)))]) (fun z => [(gmp iV b59 (gmapV Value.bool z.1.2.1)), (blk b38 33 [(Value.slice a36 ((tMarks bl d.Track d.Track.length).length) c37)]), (own a36 c37 3 1 ((tMarks bl d.Track d.Track.length).map iC)), (own a29 c30 3 1 ((meetsV d ((k : Nat) : Int) em).map iC)), (own a24 c25 3 1 ((calledV d em).map iC)), (own ea ec 3 1 (em.map iC)), (own a12 c13 3 1 ((weakV d).map iC)), (blk b3 52 [(Value.slice blA bl.length blC)]), (blk b2 32 (GuardV.cells (GuardV.mk (TrackV.mk (Slc.mk kA d.Track.length kC)) (Slc.mk pA d.Posts.length pC) (Slc.mk nA d.Needs.length nC) d.Tower d.Radio))), (rd kA d.Track.length 9 (d.Track.map StretchV.cells)).ro, (rd pA d.Posts.length 7 (d.Posts.map PostV.cells)).ro, (rd nA d.Needs.length 3 (d.Needs.map NeedV.cells)).ro, (rd blA bl.length 1 (bl.map iC_u32)).ro]) (fun z => (calledV d em).length - z.1.1) ⟨(0, ([] : BM), (fun _ => False)), hinit⟩ (Sub.cons rfl <| Sub.cons rfl <| Sub.cons rfl <| Sub.cons rfl <| Sub.cons rfl <| Sub.cons rfl <| Sub.cons rfl <| Sub.cons rfl <| Sub.cons rfl <| Sub.cons rfl <| Sub.cons rfl <| Sub.nil _) (fun w hs => St.sel [0, 1, 2, 3, 4, 5, 6, 7, 8, 9, 10, 11, 12] rfl rfl hs) ?_
   clear hinit
   rintro ⟨⟨r, m, H⟩, ⟨hl29_0, hl29_1, hl29_2, hl29_3⟩⟩ J62 hJ62
   try dsimp only at hl29_0 hl29_1 hl29_2 hl29_3
   try dsimp only
   refine WS fun _ hK63 => rS (BI rfl b_lss) <| RK hK63 <| w_seq fun _ hK64 => ?_
   refine w_if rfl (fun h65 => ?_) (fun h65 => ?_)
   rotate_left 1
   · replace h65 := DF h65
     refine w_exit <| k_exit_then <| k_exit_then <| k_exit_same <| KK hK60 <| WS fun _ hK89 => rS (MV rfl) <| rS (MV rfl) <| rS (MV rfl) <| rS (PK rfl) ?_
     refine rS (MV rfl) <| rS (MV rfl) <| rS (SX (gsd_lenm_v rfl rfl ut64 (by exact has_at 0 rfl)) rfl rfl) <| rS (MV rfl) <| rS (LN rfl ut33) <| rS (BI rfl b_eql) <| rS (PK rfl) <| rS (AG rfl) <| RK hK89 <| w_ret ?_
     refine Q1 hQ rfl rfl rfl ?_
     first | rfl | exact congrArg Value.bool (decide_eq_true (weak_six hge hg65).1) | exact congrArg Value.bool (decide_eq_true (congrArg (fun n : Nat => (n : Int)) (rounds_all hhm.1 hl29_1 hl29_2 hl29_3 (by omega))))
   replace h65 := DT h65
   refine WK hK64 <| w_seq fun _ hK66 => w_block <| WS fun _ hK67 => rS (MV rfl) <| rS (LN rfl ut33) <| rS (MV rfl) <| RK hK67 <| w_block ?_
   have hinit : (0 ≤ (calledV d em).length) ∧ (RoundI bl d (calledV d em) H H m 0) := by exact ⟨Nat.zero_le _, round_start hl29_1 hl29_2⟩
   refine w_loop (ι := { z : Nat × BM × (Nat → Prop) // (z.1 ≤ (calledV d em).length) ∧ (RoundI bl d (calledV d em) H z.2.2 z.2.1 z.1) }) (fun z => [(4, (Value.pointer (some ⟨b2, 0, none⟩))), (7, (Value.pointer (some ⟨b3, 0, none⟩))), (9, (Value.bool true)), (15, (Value.slice a24 ((calledV d em).length) c25)), (19, (Value.pointer (some ⟨b38, 0, none⟩))), (21, (Value.func (.func 32) [].toArray [(Value.pointer (some ⟨b38, 0, none⟩)), (Value.pointer (some ⟨b3, 0, none⟩))].toArray)), (22, (Value.bool true)), (27, (Value.map (some b59))), (217, (Value.slice a24 ((calledV d em).length) c25)), (218, (Value.int .i64 (((calledV d em).length : Nat) : Int))), (219, (Value.int .i64 ((r : Nat) : Int))), (221, (Value.slice a24 ((calledV d em).length) c25)), (222, (Value.int .i64 (((calledV d em).length : Nat) : Int))), (223, (Value.int .i64 ((z.1.1 : Nat) : Int)))]) (fun z => [(gmp iV b59 (gmapV Value.bool z.1.2.1)), (blk b38 33 [(Value.slice a36 ((tMarks bl d.Track d.Track.length).length) c37)]), (own a36 c37 3 1 ((tMarks bl d.Track d.Track.length).map iC)), (own a29 c30 3 1 ((meetsV d ((k : Nat) : Int) em).map iC)), (own a24 c25 3 1 ((calledV d em).map iC)), (own ea ec 3 1 (em.map iC)), (own a12 c13 3 1 ((weakV d).map iC)), (blk b3 52 [(Value.slice blA bl.length blC)]), (blk b2 32 (GuardV.cells (GuardV.mk (TrackV.mk (Slc.mk kA d.Track.length kC)) (Slc.mk pA d.Posts.length pC) (Slc.mk nA d.Needs.length nC) d.Tower d.Radio))), (rd kA d.Track.length 9 (d.Track.map StretchV.cells)).ro, (rd pA d.Posts.length 7 (d.Posts.map PostV.cells)).ro, (rd nA d.Needs.length 3 (d.Needs.map NeedV.cells)).ro, (rd blA bl.length 1 (bl.map iC_u32)).ro]) (fun z => (calledV d em).length - z.1.1) ⟨(0, m, H), hinit⟩ (Sub.cons rfl <| Sub.cons rfl <| Sub.cons rfl <| Sub.cons rfl <| Sub.cons rfl <| Sub.cons rfl <| Sub.cons rfl <| Sub.cons rfl <| Sub.cons rfl <| Sub.cons rfl <| Sub.cons rfl <| Sub.cons rfl <| Sub.cons rfl <| Sub.cons rfl <| Sub.nil _) (fun w hs => St.sel [0, 1, 2, 3, 4, 5, 6, 7, 8, 9, 10, 11, 12] rfl rfl hs) ?_
   clear hinit
   rintro ⟨⟨j, m2_, H2⟩, ⟨hl31_0, hl31_1⟩⟩ J68 hJ68
   try dsimp only at hl31_0 hl31_1
   try dsimp only
   refine WS fun _ hK69 => rS (BI rfl b_lss) <| RK hK69 <| w_seq fun _ hK70 => ?_
   refine w_if rfl (fun h71 => ?_) (fun h71 => ?_)
   rotate_left 1
   · replace h71 := DF h71
     refine w_exit <| k_exit_then <| k_exit_then <| k_exit_same <| k_block <| KK hK66 <| w_region <| rS (BI rfl (b_add ⟨by omega, by omega⟩)) <| rS (MV rfl) <| r_nil ?_
     have hb88 : (Value.int .i64 (((r + 1) : Nat) : Int)) = (Value.int .i64 (((r : Nat) : Int) + 1)) := by exact congrArg (Value.int .i64) (by omega)
     refine k_then (hJ62 ⟨((r + 1), m2_, H2), ⟨by omega, hl31_1.key, hl31_1.sub, round_end hge hhm.1 hl29_1 hl29_2 hl31_1 (by omega) hl29_3 (by omega)⟩⟩ _ _ _ rfl (by first | omega | (simp; omega)) (Sub.cons rfl <| Sub.cons rfl <| Sub.cons rfl <| Sub.cons rfl <| Sub.cons rfl <| Sub.cons rfl <| Sub.cons rfl <| Sub.cons rfl <| Sub.cons rfl <| Sub.cons rfl <| sub_val rfl hb88 <| Sub.nil _) (fun w hs => St.sel [0, 1, 2, 3, 4, 5, 6, 7, 8, 9, 10, 11, 12] rfl rfl hs))
   replace h71 := DT h71
   refine WK hK70 <| w_seq fun _ hK72 => w_block <| WS fun _ hK73 => ?_
   obtain ⟨x, hx⟩ : ∃ y_, (calledV d em)[j]? = some y_ := ⟨(calledV d em)[j]'(by omega), List.getElem?_eq_getElem _⟩
   have hxm : ((calledV d em).map iC)[j]? = some (iC x) := by rw [List.getElem?_map, hx]; rfl
   refine rS (IA j rfl (has_own_n (n := (calledV d em).length) 4 rfl (by simp)) te33 (by decide) (by omega) (by omega)) <| rS (LE1 j 0 (Value.int .i64 x) rfl tk3 (has_own_n (n := (calledV d em).length) 4 rfl (by simp)) hxm rfl (by decide) rfl) <| rS (AG rfl) <| RK hK73 <| w_seq fun _ hK74 => w_draw mixed 16 (by kernel_rfl) ?_
   have hxb := called_b hhm.1 (List.mem_of_getElem? hx)
   refine dS (MV rfl) <| dS (FA 1 rfl fo32_1 rfl) <| dS (L1 (Value.slice pA d.Posts.length pC) 8 rfl tk25 rfl rfl) <| dS (MV rfl) ?_
   obtain ⟨p, hp⟩ : ∃ y_, d.Posts[(x).toNat]? = some y_ := ⟨d.Posts[(x).toNat]'(by omega), List.getElem?_eq_getElem _⟩
   have hpm : (d.Posts.map PostV.cells)[(x).toNat]? = some (PostV.cells p) := by rw [List.getElem?_map, hp]; rfl
   refine dS (IA ((x).toNat) rfl (has_at 10 rfl) te25 (by decide) (by omega) (by omega)) <| dS (FAR ((((x).toNat) * 7) + 2) rfl (has_at 10 rfl) (Nat.mul_pos (by omega) (by decide)) fo62_2 rfl) <| dS (LEN ((x).toNat) 2 (SpotV.cells p.Spot) rfl tk30 (has_at 10 rfl) hpm rfl (by decide) rfl rfl) ?_
   have hpo := hok.post _ p hp
   unfold PostOk at hpo
   have hsb1 := standF_b (bl := bl) htr hpo.2.2.1 (31 + x)
   have hsb2 := standF_b (bl := bl) htr hok.tower 30
   refine dS (MV rfl) <| dS (BI rfl (b_add ⟨by omega, by omega⟩)) <| dS (CL (hstands_c a36 c37 b38 bl blA blC b3 d p.Spot (31 + x) (by exact hbl) (by first | assumption | omega | (simp; done) | (simp; omega)) (by exact hpo.2.2.1) (by omega)) (ha_cons (has_own_n (n := (tMarks bl d.Track d.Track.length).length) 2 rfl (by simp)) <| ha_at 1 rfl rfl <| ha_at 12 rfl rfl <| ha_at 7 rfl rfl <| ha_nil) rfl) <| dS (MV rfl) <| dS (FA 3 rfl fo32_3 rfl) <| dS (LP (SpotV.cells d.Tower) 8 rfl tk30 rfl rfl rfl) <| dS (CL (hstands_c a36 c37 b38 bl blA blC b3 d d.Tower 30 (by exact hbl) (by first | assumption | omega | (simp; done) | (simp; omega)) (by exact hok.tower) (by omega)) (ha_cons (has_own_n (n := (tMarks bl d.Track d.Track.length).length) 2 rfl (by simp)) <| ha_at 1 rfl rfl <| ha_at 12 rfl rfl <| ha_at 7 rfl rfl <| ha_nil) rfl) <| dS (BI rfl (b_sub ⟨by omega, by omega⟩)) <| dS (AG rfl) <| d_end ?_
   refine RK hK74 <| WS fun _ hK75 => rS (MV rfl) <| rS (MV rfl) <| rS (NG rfl ⟨by omega, by omega⟩) <| rS (MX rfl) <| rS (FA 6 rfl fo32_4 rfl) <| rS (L1 (Value.int .i64 d.Radio) 8 rfl tk3 rfl rfl) <| rS (BI rfl b_leq) <| rS (AG rfl) ?_
   refine RK hK75 <| w_seq fun _ hK76 => WS fun _ hK77 => rS (MV rfl) <| gr_mrange 0 rfl rfl ut64 rfl rfl fun r78 => ?_
   try dsimp only
   refine RK hK77 <| w_block ?_
   have hinit : (∀ y_ ∈ m2_, y_ ∈ m2_) ∧ (NearI bl d H2 p x.toNat m2_ (decide ((max ((standF bl d.Track p.Spot (31 + x)) - (standF bl d.Track d.Tower 30)) (-((standF bl d.Track p.Spot (31 + x)) - (standF bl d.Track d.Tower 30)))) ≤ d.Radio))) := by exact ⟨fun _ h => h, near_startX hl31_1.key hxb.1 hp⟩
   refine w_loop (ι := { z : BM × Bool // (∀ y_ ∈ z.1, y_ ∈ m2_) ∧ (NearI bl d H2 p x.toNat z.1 z.2) }) (fun z => [(4, (Value.pointer (some ⟨b2, 0, none⟩))), (7, (Value.pointer (some ⟨b3, 0, none⟩))), (9, (Value.bool true)), (15, (Value.slice a24 ((calledV d em).length) c25)), (19, (Value.pointer (some ⟨b38, 0, none⟩))), (21, (Value.func (.func 32) [].toArray [(Value.pointer (some ⟨b38, 0, none⟩)), (Value.pointer (some ⟨b3, 0, none⟩))].toArray)), (22, (Value.bool true)), (27, (Value.map (some b59))), (29, (Value.int .i64 x)), (31, (Value.bool z.1.2)), (217, (Value.slice a24 ((calledV d em).length) c25)), (218, (Value.int .i64 (((calledV d em).length : Nat) : Int))), (219, (Value.int .i64 ((r : Nat) : Int))), (221, (Value.slice a24 ((calledV d em).length) c25)), (222, (Value.int .i64 (((calledV d em).length : Nat) : Int))), (223, (Value.int .i64 ((j : Nat) : Int))), (250, (Value.pointer (some ⟨r78, 0, none⟩)))]) (fun z => [(gmi iV r78 b59 (gmapV Value.bool m2_) (gmapV Value.bool z.1.1) none), (blk b38 33 [(Value.slice a36 ((tMarks bl d.Track d.Track.length).length) c37)]), (own a36 c37 3 1 ((tMarks bl d.Track d.Track.length).map iC)), (own a29 c30 3 1 ((meetsV d ((k : Nat) : Int) em).map iC)), (own a24 c25 3 1 ((calledV d em).map iC)), (own ea ec 3 1 (em.map iC)), (own a12 c13 3 1 ((weakV d).map iC)), (blk b3 52 [(Value.slice blA bl.length blC)]), (blk b2 32 (GuardV.cells (GuardV.mk (TrackV.mk (Slc.mk kA d.Track.length kC)) (Slc.mk pA d.Posts.length pC) (Slc.mk nA d.Needs.length nC) d.Tower d.Radio))), (rd kA d.Track.length 9 (d.Track.map StretchV.cells)).ro, (rd pA d.Posts.length 7 (d.Posts.map PostV.cells)).ro, (rd nA d.Needs.length 3 (d.Needs.map NeedV.cells)).ro, (rd blA bl.length 1 (bl.map iC_u32)).ro]) (fun z => z.1.1.length) ⟨(m2_, (decide ((max ((standF bl d.Track p.Spot (31 + x)) - (standF bl d.Track d.Tower 30)) (-((standF bl d.Track p.Spot (31 + x)) - (standF bl d.Track d.Tower 30)))) ≤ d.Radio))), hinit⟩ (Sub.cons rfl <| Sub.cons rfl <| Sub.cons rfl <| Sub.cons rfl <| Sub.cons rfl <| Sub.cons rfl <| Sub.cons rfl <| Sub.cons rfl <| Sub.cons rfl <| Sub.cons rfl <| Sub.cons rfl <| Sub.cons rfl <| Sub.cons rfl <| Sub.cons rfl <| Sub.cons rfl <| Sub.cons rfl <| Sub.cons rfl <| Sub.nil _) (fun w hs => St.sel [0, 1, 2, 3, 4, 5, 6, 7, 8, 9, 10, 11, 12] rfl rfl hs) ?_
   clear hinit
   rintro ⟨⟨left, nb⟩, ⟨hl36_0, hl36_1⟩⟩ J79 hJ79
   try dsimp only at hl36_0 hl36_1
   try dsimp only
   refine WS fun _ hK80 => ?_
   refine gr_mnext_v (gkey_int ut3).inj (f := Value.bool) 0 rfl rfl rfl rfl (fun hemp => ?_) (fun y yb hm hnd => ?_)
   · refine rS (EX rfl) ?_
     refine RK hK80 <| w_seq fun _ hK81 => w_if_false rfl <| w_exit <| k_exit_then <| k_exit_then <| k_exit_same <| KK hK76 <| w_seq fun _ hK82 => w_imp (C' := [(gmp iV b59 (gmapV Value.bool m2_)), (blk b38 33 [(Value.slice a36 ((tMarks bl d.Track d.Track.length).length) c37)]), (own a36 c37 3 1 ((tMarks bl d.Track d.Track.length).map iC)), (own a29 c30 3 1 ((meetsV d ((k : Nat) : Int) em).map iC)), (own a24 c25 3 1 ((calledV d em).map iC)), (own ea ec 3 1 (em.map iC)), (own a12 c13 3 1 ((weakV d).map iC)), (blk b3 52 [(Value.slice blA bl.length blC)]), (blk b2 32 (GuardV.cells (GuardV.mk (TrackV.mk (Slc.mk kA d.Track.length kC)) (Slc.mk pA d.Posts.length pC) (Slc.mk nA d.Needs.length nC) d.Tower d.Radio))), (rd kA d.Track.length 9 (d.Track.map StretchV.cells)).ro, (rd pA d.Posts.length 7 (d.Posts.map PostV.cells)).ro, (rd nA d.Needs.length 3 (d.Needs.map NeedV.cells)).ro, (rd blA bl.length 1 (bl.map iC_u32)).ro]) 0 rfl gmi_mp rfl ?_
     refine w_region <| rS (MV rfl) <| RK hK82 ?_
     refine w_if rfl (fun hg286 => ?_) (fun hg286 => ?_)
     rotate_left 1
     · refine w_skip ?_
       refine k_block <| KK hK72 <| w_region <| rS (BI rfl (b_add ⟨by omega, by omega⟩)) <| rS (MV rfl) <| r_nil ?_
       have hb84 : (Value.int .i64 (((j + 1) : Nat) : Int)) = (Value.int .i64 (((j : Nat) : Int) + 1)) := by exact congrArg (Value.int .i64) (by omega)
       refine k_then (hJ68 ⟨((j + 1), m2_, H2), (by first | exact ⟨by omega, hl31_1.yes hx (by omega)⟩ | exact ⟨by omega, hl31_1.no hx (fun r => Bool.false_ne_true (hg286.symm.trans ((near_end hl36_1 hemp hp).2 r)))⟩)⟩ _ _ _ rfl (by first | omega | (simp; omega)) (Sub.cons rfl <| Sub.cons rfl <| Sub.cons rfl <| Sub.cons rfl <| Sub.cons rfl <| Sub.cons rfl <| Sub.cons rfl <| Sub.cons rfl <| Sub.cons rfl <| Sub.cons rfl <| Sub.cons rfl <| Sub.cons rfl <| Sub.cons rfl <| sub_val rfl hb84 <| Sub.nil _) (fun w hs => St.sel [0, 1, 2, 3, 4, 5, 6, 7, 8, 9, 10, 11, 12] rfl rfl hs))
     refine w_region <| rS (MV rfl) <| rS (MV rfl) <| gr_mapset (kV := iV) (x := x) (C' := [(gmp iV b59 (gmapV Value.bool (gsetK m2_ x true))), _, _, _, _, _, _, _, _, _, _, _, _]) 0 rfl rfl rfl rfl ut64 (gkey_int ut3) rfl (gmapV_setK _ _ _ _).symm rfl <| r_nil <| k_block <| KK hK72 <| w_region <| rS (BI rfl (b_add ⟨by omega, by omega⟩)) <| rS (MV rfl) ?_
     refine r_nil ?_
     have hb83 : (Value.int .i64 (((j + 1) : Nat) : Int)) = (Value.int .i64 (((j : Nat) : Int) + 1)) := by exact congrArg (Value.int .i64) (by omega)
     refine k_then (hJ68 ⟨((j + 1), (gsetK m2_ x true), (fun k => H2 k ∨ k = x.toNat)), (by first | exact ⟨by omega, hl31_1.yes hx (by omega)⟩ | exact ⟨by omega, hl31_1.no hx (fun r => Bool.false_ne_true (hg286.symm.trans ((near_end hl36_1 hemp hp).2 r)))⟩)⟩ _ _ _ rfl (by first | omega | (simp; omega)) (Sub.cons rfl <| Sub.cons rfl <| Sub.cons rfl <| Sub.cons rfl <| Sub.cons rfl <| Sub.cons rfl <| Sub.cons rfl <| Sub.cons rfl <| Sub.cons rfl <| Sub.cons rfl <| Sub.cons rfl <| Sub.cons rfl <| Sub.cons rfl <| sub_val rfl hb83 <| Sub.nil _) (fun w hs => St.sel [0, 1, 2, 3, 4, 5, 6, 7, 8, 9, 10, 11, 12] rfl rfl hs))
   try dsimp only
   refine rS (EX rfl) <| RK hK80 <| w_seq fun _ hK85 => w_if_true rfl <| WK hK85 <| w_block <| WS fun _ hK86 => rS (SX (gsd_mentry 0 rfl rfl rfl) rfl rfl) <| rS (EX rfl) <| rS (AG rfl) ?_
   refine RK hK86 <| w_seq fun _ hK87 => w_draw mixed 22 (by kernel_rfl) ?_
   obtain ⟨ky, hyk, hyH⟩ := ((hl31_1.key.2 y yb).1 (hl36_0 _ hm)).2
   have hyb := called_b hhm.1 (hl31_1.sub ky hyH)
   refine dS (MV rfl) <| dS (FA 1 rfl fo32_1 rfl) <| dS (L1 (Value.slice pA d.Posts.length pC) 8 rfl tk25 rfl rfl) <| dS (MV rfl) <| dS (IA ((x).toNat) rfl (has_at 10 rfl) te25 (by decide) (by omega) (by omega)) <| dS (FAR ((((x).toNat) * 7) + 2) rfl (has_at 10 rfl) (Nat.mul_pos (by omega) (by decide)) fo62_2 rfl) <| dS (LEN ((x).toNat) 2 (SpotV.cells p.Spot) rfl tk30 (has_at 10 rfl) hpm rfl (by decide) rfl rfl) <| dS (MV rfl) <| dS (BI rfl (b_add ⟨by omega, by omega⟩)) <| dS (CL (hstands_c a36 c37 b38 bl blA blC b3 d p.Spot (31 + x) (by exact hbl) (by first | assumption | omega | (simp; done) | (simp; omega)) (by exact hpo.2.2.1) (by omega)) (ha_cons (has_own_n (n := (tMarks bl d.Track d.Track.length).length) 2 rfl (by simp)) <| ha_at 1 rfl rfl <| ha_at 12 rfl rfl <| ha_at 7 rfl rfl <| ha_nil) rfl) ?_
   refine dS (MV rfl) <| dS (FA 1 rfl fo32_1 rfl) <| dS (L1 (Value.slice pA d.Posts.length pC) 8 rfl tk25 rfl rfl) <| dS (MV rfl) ?_
   obtain ⟨q, hq⟩ : ∃ y_, d.Posts[(y).toNat]? = some y_ := ⟨d.Posts[(y).toNat]'(by omega), List.getElem?_eq_getElem _⟩
   have hqm : (d.Posts.map PostV.cells)[(y).toNat]? = some (PostV.cells q) := by rw [List.getElem?_map, hq]; rfl
   refine dS (IA ((y).toNat) rfl (has_at 10 rfl) te25 (by decide) (by omega) (by omega)) <| dS (FAR ((((y).toNat) * 7) + 2) rfl (has_at 10 rfl) (Nat.mul_pos (by omega) (by decide)) fo62_2 rfl) <| dS (LEN ((y).toNat) 2 (SpotV.cells q.Spot) rfl tk30 (has_at 10 rfl) hqm rfl (by decide) rfl rfl) ?_
   have hqo := hok.post _ q hq
   unfold PostOk at hqo
   have hsb3 := standF_b (bl := bl) htr hqo.2.2.1 (31 + y)
   refine dS (MV rfl) <| dS (BI rfl (b_add ⟨by omega, by omega⟩)) <| dS (CL (hstands_c a36 c37 b38 bl blA blC b3 d q.Spot (31 + y) (by exact hbl) (by first | assumption | omega | (simp; done) | (simp; omega)) (by exact hqo.2.2.1) (by omega)) (ha_cons (has_own_n (n := (tMarks bl d.Track d.Track.length).length) 2 rfl (by simp)) <| ha_at 1 rfl rfl <| ha_at 12 rfl rfl <| ha_at 7 rfl rfl <| ha_nil) rfl) <| dS (BI rfl (b_sub ⟨by omega, by omega⟩)) <| dS (AG rfl) <| d_end <| RK hK87 <| w_region <| rS (MV rfl) <| rS (MV rfl) ?_
   refine r_bool (t := 277) rfl (fun hg277 => ?_) (fun hg277 => ?_)
   · refine rS (OX rfl) ?_
     refine rS (OX rfl) <| rS (OX rfl) <| rS (OX rfl) <| rS (OX rfl) <| rS (OX rfl) <| rS (OX rfl) <| rS (PK rfl) <| rS (AG rfl) <| r_nil <| k_block ?_
     refine k_imp (C' := [(gmi iV r78 b59 (gmapV Value.bool m2_) (gmapV Value.bool (gdelK left y)) none), (blk b38 33 [(Value.slice a36 ((tMarks bl d.Track d.Track.length).length) c37)]), (own a36 c37 3 1 ((tMarks bl d.Track d.Track.length).map iC)), (own a29 c30 3 1 ((meetsV d ((k : Nat) : Int) em).map iC)), (own a24 c25 3 1 ((calledV d em).map iC)), (own ea ec 3 1 (em.map iC)), (own a12 c13 3 1 ((weakV d).map iC)), (blk b3 52 [(Value.slice blA bl.length blC)]), (blk b2 32 (GuardV.cells (GuardV.mk (TrackV.mk (Slc.mk kA d.Track.length kC)) (Slc.mk pA d.Posts.length pC) (Slc.mk nA d.Needs.length nC) d.Tower d.Radio))), (rd kA d.Track.length 9 (d.Track.map StretchV.cells)).ro, (rd pA d.Posts.length 7 (d.Posts.map PostV.cells)).ro, (rd nA d.Needs.length 3 (d.Needs.map NeedV.cells)).ro, (rd blA bl.length 1 (bl.map iC_u32)).ro]) 0 rfl gmi_none rfl ?_
     refine k_then (hJ79 ⟨((gdelK left y), true), ⟨gdel_sub hl36_0, near_nextX hl36_1 hxb.1 hp hyk hyH hq (by first | exact or_yes hg277 | exact or_no hg277)⟩⟩ _ _ _ rfl (gdelK_lt hm) (Sub.cons rfl <| Sub.cons rfl <| Sub.cons rfl <| Sub.cons rfl <| Sub.cons rfl <| Sub.cons rfl <| Sub.cons rfl <| Sub.cons rfl <| Sub.cons rfl <| Sub.cons rfl <| Sub.cons rfl <| Sub.cons rfl <| Sub.cons rfl <| Sub.cons rfl <| Sub.cons rfl <| Sub.cons rfl <| Sub.cons rfl <| Sub.nil _) (fun w hs => St.sel [0, 1, 2, 3, 4, 5, 6, 7, 8, 9, 10, 11, 12] rfl rfl hs))
   refine rS (MV rfl) <| rS (MV rfl) <| rS (NG rfl ⟨by omega, by omega⟩) <| rS (MX rfl) <| rS (FA 6 rfl fo32_4 rfl) <| rS (L1 (Value.int .i64 d.Radio) 8 rfl tk3 rfl rfl) <| rS (BI rfl b_leq) <| rS (PK rfl) <| rS (AG rfl) <| r_nil ?_
   refine k_block <| k_imp (C' := [(gmi iV r78 b59 (gmapV Value.bool m2_) (gmapV Value.bool (gdelK left y)) none), (blk b38 33 [(Value.slice a36 ((tMarks bl d.Track d.Track.length).length) c37)]), (own a36 c37 3 1 ((tMarks bl d.Track d.Track.length).map iC)), (own a29 c30 3 1 ((meetsV d ((k : Nat) : Int) em).map iC)), (own a24 c25 3 1 ((calledV d em).map iC)), (own ea ec 3 1 (em.map iC)), (own a12 c13 3 1 ((weakV d).map iC)), (blk b3 52 [(Value.slice blA bl.length blC)]), (blk b2 32 (GuardV.cells (GuardV.mk (TrackV.mk (Slc.mk kA d.Track.length kC)) (Slc.mk pA d.Posts.length pC) (Slc.mk nA d.Needs.length nC) d.Tower d.Radio))), (rd kA d.Track.length 9 (d.Track.map StretchV.cells)).ro, (rd pA d.Posts.length 7 (d.Posts.map PostV.cells)).ro, (rd nA d.Needs.length 3 (d.Needs.map NeedV.cells)).ro, (rd blA bl.length 1 (bl.map iC_u32)).ro]) 0 rfl gmi_none rfl ?_
   refine k_then (hJ79 ⟨((gdelK left y), (decide ((max ((standF bl d.Track p.Spot (31 + x)) - (standF bl d.Track q.Spot (31 + y))) (-((standF bl d.Track p.Spot (31 + x)) - (standF bl d.Track q.Spot (31 + y))))) ≤ d.Radio))), ⟨gdel_sub hl36_0, near_nextX hl36_1 hxb.1 hp hyk hyH hq (by first | exact or_yes hg277 | exact or_no hg277)⟩⟩ _ _ _ rfl (gdelK_lt hm) (Sub.cons rfl <| Sub.cons rfl <| Sub.cons rfl <| Sub.cons rfl <| Sub.cons rfl <| Sub.cons rfl <| Sub.cons rfl <| Sub.cons rfl <| Sub.cons rfl <| Sub.cons rfl <| Sub.cons rfl <| Sub.cons rfl <| Sub.cons rfl <| Sub.cons rfl <| Sub.cons rfl <| Sub.cons rfl <| Sub.cons rfl <| Sub.nil _) (fun w hs => St.sel [0, 1, 2, 3, 4, 5, 6, 7, 8, 9, 10, 11, 12] rfl rfl hs))
 refine WS fun _ hK20 => rS (MV rfl) <| rS (SX (sd_conv (m := wh) rfl rfl ut5 ut3 (wrap_u8_i64 (by first | assumption | omega))) rfl rfl) <| rS (FA 1 rfl fo32_1 rfl) <| rS (L1 (Value.slice pA d.Posts.length pC) 3 rfl tk25 rfl rfl) <| rS (LN rfl ut25) <| rS (BI rfl (b_add ⟨by omega, by omega⟩)) <| rS (BI rfl (b_rem (by omega) (by omega))) <| rS (AG rfl) <| RK hK20 ?_
 refine w_seq fun _ hK21 => ?_
 obtain ⟨n0, hqn0e, hqn0n⟩ : ∃ n0 : Nat, (wh % (((d.Posts.length : Nat) : Int) + 1)) = ((n0 : Nat) : Int) ∧ n0 < d.Posts.length + 1 := ⟨((wh % (((d.Posts.length : Nat) : Int) + 1))).toNat, by rw [Int.toNat_of_nonneg (Int.emod_nonneg _ (by omega))], by have h1 := Int.emod_nonneg wh (show (d.Posts.length + 1 : Int) ≠ 0 by omega); have h2 := Int.emod_lt_of_pos wh (show 0 < (d.Posts.length + 1 : Int) by omega); omega⟩
 rw [hqn0e]
 refine w_region <| rS (MV rfl) <| rS (FA 1 rfl fo32_1 rfl) <| rS (L1 (Value.slice pA d.Posts.length pC) 3 rfl tk25 rfl rfl) <| rS (LN rfl ut25) <| rS (BI rfl b_lss) <| RK hK21 ?_
 refine w_if rfl (fun hg81 => ?_) (fun hg81 => ?_)
 rotate_left 1
 · replace hg81 := DF hg81
   refine w_skip ?_
   refine k_then (k_sub (Sub.cons rfl <| Sub.cons rfl <| Sub.cons rfl <| Sub.cons rfl <| Sub.cons rfl <| Sub.nil _) (fun w hs => St.sel [0, 1, 2, 3, 4, 5, 6, 7] rfl rfl hs) (hK19 ⟨(([] : List Int), none, 0), (by first | exact .inl rfl | exact .inr ⟨n0, by omega, rfl⟩)⟩))
 replace hg81 := DT hg81
 refine w_region <| rS (MV rfl) <| r_bs (xs := [.tmp 82]) (cs := [(Value.int .i64 ((n0 : Nat) : Int))]) rfl te33 tz3 rfl rfl rfl rfl (by simp [Value.cells]) rfl rfl fun b22 => r_blk_own (es := ([((n0 : Nat) : Int)].map iC)) (C' := [(own (some ⟨b22, 0, none⟩) 1 3 1 ([((n0 : Nat) : Int)].map iC)), _, _, _, _, _, _, _, _]) 0 rfl (map_len iC_length _) rfl (by show 1 ≤ maxLen; decide) rfl <| rS (AG rfl) <| r_nil ?_
 refine k_then (k_sub (Sub.cons rfl <| Sub.cons rfl <| Sub.cons rfl <| Sub.cons rfl <| Sub.cons rfl <| Sub.nil _) (fun w hs => St.sel [0, 2, 3, 4, 5, 6, 7, 8] rfl rfl hs) (hK19 ⟨([((n0 : Nat) : Int)], (some ⟨b22, 0, none⟩), 1), (by first | exact .inl rfl | exact .inr ⟨n0, by omega, rfl⟩)⟩))
end
section
open Go.RowKit
set_option linter.unusedVariables false
def ReadsAs {α : Type} (cells : α → List Value) (sz : Nat) (R : World → α → Prop) (w : World) (s : Slc) : Prop := ∃ l : List α, s.n = l.length ∧ (rd s.a l.length sz (l.map cells)).holds w ∧ (∀ x ∈ l, R w x) ∧ l.length ≤ maxLen ∧ s.n ≤ s.c
theorem open_guard {w : World} {s : GuardV} {R1 : World → StretchV → Prop} {R2 : World → PostV → Prop} {R3 : World → NeedV → Prop} (h1 : ReadsAs StretchV.cells 9 R1 w s.Track.Stretches) (hs : ∀ x, R1 w x → 0 ≤ x.Side ∧ x.Side ≤ 255) (h2 : ReadsAs PostV.cells 7 R2 w s.Posts) (hp : ∀ x, R2 w x → 0 ≤ x.Kind ∧ x.Kind ≤ 255) (h3 : ReadsAs NeedV.cells 3 R3 w s.Needs) (hn : ∀ x, R3 w x → 0 ≤ x.Kind ∧ x.Kind ≤ 255) :
    ∃ (d : GuardM) (kA : Option Addr) (kC : Nat) (pA : Option Addr) (pC : Nat) (nA : Option Addr) (nC : Nat), s = GuardV.mk (TrackV.mk (Slc.mk kA d.Track.length kC)) (Slc.mk pA d.Posts.length pC) (Slc.mk nA d.Needs.length nC) d.Tower d.Radio ∧ GuardRaw d ∧
      ((rd kA d.Track.length 9 (d.Track.map StretchV.cells)).holds w ∧ (rd pA d.Posts.length 7 (d.Posts.map PostV.cells)).holds w ∧ (rd nA d.Needs.length 3 (d.Needs.map NeedV.cells)).holds w) ∧ d.Tower = s.Tower ∧ d.Radio = s.Radio := by
  obtain ⟨⟨⟨ka, kn, kc⟩⟩, ⟨pa, pn, pc⟩, ⟨na, nn, nc⟩, tw, ra⟩ := s
  obtain ⟨ts, t1, t2, t3, t4, t5⟩ := h1
  obtain ⟨ps, p1, p2, p3, p4, p5⟩ := h2
  obtain ⟨ns, n1, n2, n3, n4, n5⟩ := h3
  simp only at t1 p1 n1
  subst t1 p1 n1
  exact ⟨⟨ts, ps, ns, tw, ra⟩, ka, kc, pa, pc, na, nc, rfl, ⟨t4, fun x hx => hs x (t3 x hx), p4, fun x hx => hp x (p3 x hx), n4, fun x hx => hn x (n3 x hx)⟩, ⟨t2, p2, n2⟩, rfl, rfl⟩
end
section
open Go.ChangeShapes Go.WideShapes Go.ChangeAt Go.RowKit
set_option linter.unusedVariables false
theorem cz32 : Try.prog.cellsOf 32 = 7 := by kernel_rfl
theorem cz24 : Try.prog.cellsOf 24 = 1 := by kernel_rfl
theorem cz22 : Try.prog.cellsOf 22 = 1 := by kernel_rfl
theorem cz110 : Try.prog.cellsOf 110 = 9 := by kernel_rfl
theorem cz3 : Try.prog.cellsOf 3 = 1 := by kernel_rfl
def Is3 (w : World) (n : Int) : Prop := In64 n
theorem op3 : OpR Try.prog 3 Int iC Is3 := op_i64 ut3
theorem cz28 : Try.prog.cellsOf 28 = 2 := by kernel_rfl
structure Is28 (w : World) (s : SpanV) : Prop where
  Lo : Is3 w s.Lo
  Hi : Is3 w s.Hi
theorem fx28 : fL Try.prog 28 = some [(3, 0), (3, 1)] := by kernel_rfl
theorem op28 : OpR Try.prog 28 SpanV SpanV.cells Is28 := fun {H} enc w base sp held fuel cs x h => by
  obtain ⟨hl, hp⟩ := op_parts fx28 h
  obtain ⟨n0, y0, h0⟩ := hp 0 3 0 rfl
  obtain ⟨s0, c0, r0⟩ := op3 _ _ _ _ _ _ _ _ h0
  obtain ⟨n1, y1, h1⟩ := hp 1 3 1 rfl
  obtain ⟨s1, c1, r1⟩ := op3 _ _ _ _ _ _ _ _ h1
  refine ⟨⟨s0, s1⟩, ?_, ⟨r0, r1⟩⟩
  have e1 := parts_last (hl.trans cz28) (by rw [cz3]) c1
  have e0 := parts_cons c0 (m := 1) (by rw [cz3]) e1
  exact e0
theorem cz5 : Try.prog.cellsOf 5 = 1 := by kernel_rfl
def Is5 (w : World) (n : Int) : Prop := 0 ≤ n ∧ n ≤ 255
theorem op5 : OpR Try.prog 5 Int iC_u8 Is5 := op_u8 ut5
structure Is110 (w : World) (s : StretchV) : Prop where
  Id : Is3 w s.Id
  Long : Is28 w s.Long
  Fall : Is28 w s.Fall
  Radius : Is28 w s.Radius
  Side : Is5 w s.Side
  Wall : Is3 w s.Wall
theorem fx110 : fL Try.prog 110 = some [(3, 0), (28, 1), (28, 3), (28, 5), (5, 7), (3, 8)] := by kernel_rfl
theorem op110 : OpR Try.prog 110 StretchV StretchV.cells Is110 := fun {H} enc w base sp held fuel cs x h => by
  obtain ⟨hl, hp⟩ := op_parts fx110 h
  obtain ⟨n0, y0, h0⟩ := hp 0 3 0 rfl
  obtain ⟨s0, c0, r0⟩ := op3 _ _ _ _ _ _ _ _ h0
  obtain ⟨n1, y1, h1⟩ := hp 1 28 1 rfl
  obtain ⟨s1, c1, r1⟩ := op28 _ _ _ _ _ _ _ _ h1
  obtain ⟨n2, y2, h2⟩ := hp 2 28 3 rfl
  obtain ⟨s2, c2, r2⟩ := op28 _ _ _ _ _ _ _ _ h2
  obtain ⟨n3, y3, h3⟩ := hp 3 28 5 rfl
  obtain ⟨s3, c3, r3⟩ := op28 _ _ _ _ _ _ _ _ h3
  obtain ⟨n4, y4, h4⟩ := hp 4 5 7 rfl
  obtain ⟨s4, c4, r4⟩ := op5 _ _ _ _ _ _ _ _ h4
  obtain ⟨n5, y5, h5⟩ := hp 5 3 8 rfl
  obtain ⟨s5, c5, r5⟩ := op3 _ _ _ _ _ _ _ _ h5
  refine ⟨⟨s0, s1, s2, s3, s4, s5⟩, ?_, ⟨r0, r1, r2, r3, r4, r5⟩⟩
  have e5 := parts_last (hl.trans cz110) (by rw [cz3]) c5
  have e4 := parts_cons c4 (m := 8) (by rw [cz5]) e5
  have e3 := parts_cons c3 (m := 7) (by rw [cz28]) e4
  have e2 := parts_cons c2 (m := 5) (by rw [cz28]) e3
  have e1 := parts_cons c1 (m := 3) (by rw [cz28]) e2
  have e0 := parts_cons c0 (m := 1) (by rw [cz3]) e1
  exact e0
def Is22 (w : World) (s : Slc) : Prop := ∃ l : List StretchV, s.n = l.length ∧ (rd s.a l.length 9 (l.map StretchV.cells)).holds w ∧ (∀ x ∈ l, Is110 w x) ∧ l.length ≤ maxLen ∧ s.n ≤ s.c
theorem op22 : OpR Try.prog 22 Slc (fun s => [Value.slice s.a s.n s.c]) Is22 := op_slice ut22 cz110 op110
structure Is24 (w : World) (s : TrackV) : Prop where
  Stretches : Is22 w s.Stretches
theorem fx24 : fL Try.prog 24 = some [(22, 0)] := by kernel_rfl
theorem op24 : OpR Try.prog 24 TrackV TrackV.cells Is24 := fun {H} enc w base sp held fuel cs x h => by
  obtain ⟨hl, hp⟩ := op_parts fx24 h
  obtain ⟨n0, y0, h0⟩ := hp 0 22 0 rfl
  obtain ⟨s0, c0, r0⟩ := op22 _ _ _ _ _ _ _ _ h0
  refine ⟨⟨s0⟩, ?_, ⟨r0⟩⟩
  have e0 := parts_last (hl.trans cz24) (by rw [cz22]) c0
  exact e0
theorem cz25 : Try.prog.cellsOf 25 = 1 := by kernel_rfl
theorem cz62 : Try.prog.cellsOf 62 = 7 := by kernel_rfl
theorem cz30 : Try.prog.cellsOf 30 = 3 := by kernel_rfl
structure Is30 (w : World) (s : SpotV) : Prop where
  Stretch : Is3 w s.Stretch
  Off : Is28 w s.Off
theorem fx30 : fL Try.prog 30 = some [(3, 0), (28, 1)] := by kernel_rfl
theorem op30 : OpR Try.prog 30 SpotV SpotV.cells Is30 := fun {H} enc w base sp held fuel cs x h => by
  obtain ⟨hl, hp⟩ := op_parts fx30 h
  obtain ⟨n0, y0, h0⟩ := hp 0 3 0 rfl
  obtain ⟨s0, c0, r0⟩ := op3 _ _ _ _ _ _ _ _ h0
  obtain ⟨n1, y1, h1⟩ := hp 1 28 1 rfl
  obtain ⟨s1, c1, r1⟩ := op28 _ _ _ _ _ _ _ _ h1
  refine ⟨⟨s0, s1⟩, ?_, ⟨r0, r1⟩⟩
  have e1 := parts_last (hl.trans cz30) (by rw [cz28]) c1
  have e0 := parts_cons c0 (m := 1) (by rw [cz3]) e1
  exact e0
structure Is62 (w : World) (s : PostV) : Prop where
  Id : Is3 w s.Id
  Kind : Is5 w s.Kind
  Spot : Is30 w s.Spot
  Delay : Is3 w s.Delay
  Pace : Is3 w s.Pace
theorem fx62 : fL Try.prog 62 = some [(3, 0), (5, 1), (30, 2), (3, 5), (3, 6)] := by kernel_rfl
theorem op62 : OpR Try.prog 62 PostV PostV.cells Is62 := fun {H} enc w base sp held fuel cs x h => by
  obtain ⟨hl, hp⟩ := op_parts fx62 h
  obtain ⟨n0, y0, h0⟩ := hp 0 3 0 rfl
  obtain ⟨s0, c0, r0⟩ := op3 _ _ _ _ _ _ _ _ h0
  obtain ⟨n1, y1, h1⟩ := hp 1 5 1 rfl
  obtain ⟨s1, c1, r1⟩ := op5 _ _ _ _ _ _ _ _ h1
  obtain ⟨n2, y2, h2⟩ := hp 2 30 2 rfl
  obtain ⟨s2, c2, r2⟩ := op30 _ _ _ _ _ _ _ _ h2
  obtain ⟨n3, y3, h3⟩ := hp 3 3 5 rfl
  obtain ⟨s3, c3, r3⟩ := op3 _ _ _ _ _ _ _ _ h3
  obtain ⟨n4, y4, h4⟩ := hp 4 3 6 rfl
  obtain ⟨s4, c4, r4⟩ := op3 _ _ _ _ _ _ _ _ h4
  refine ⟨⟨s0, s1, s2, s3, s4⟩, ?_, ⟨r0, r1, r2, r3, r4⟩⟩
  have e4 := parts_last (hl.trans cz62) (by rw [cz3]) c4
  have e3 := parts_cons c3 (m := 6) (by rw [cz3]) e4
  have e2 := parts_cons c2 (m := 5) (by rw [cz30]) e3
  have e1 := parts_cons c1 (m := 2) (by rw [cz5]) e2
  have e0 := parts_cons c0 (m := 1) (by rw [cz3]) e1
  exact e0
def Is25 (w : World) (s : Slc) : Prop := ∃ l : List PostV, s.n = l.length ∧ (rd s.a l.length 7 (l.map PostV.cells)).holds w ∧ (∀ x ∈ l, Is62 w x) ∧ l.length ≤ maxLen ∧ s.n ≤ s.c
theorem op25 : OpR Try.prog 25 Slc (fun s => [Value.slice s.a s.n s.c]) Is25 := op_slice ut25 cz62 op62
theorem cz26 : Try.prog.cellsOf 26 = 1 := by kernel_rfl
theorem cz57 : Try.prog.cellsOf 57 = 3 := by kernel_rfl
structure Is57 (w : World) (s : NeedV) : Prop where
  Stretch : Is3 w s.Stretch
  Kind : Is5 w s.Kind
  Seconds : Is3 w s.Seconds
theorem fx57 : fL Try.prog 57 = some [(3, 0), (5, 1), (3, 2)] := by kernel_rfl
theorem op57 : OpR Try.prog 57 NeedV NeedV.cells Is57 := fun {H} enc w base sp held fuel cs x h => by
  obtain ⟨hl, hp⟩ := op_parts fx57 h
  obtain ⟨n0, y0, h0⟩ := hp 0 3 0 rfl
  obtain ⟨s0, c0, r0⟩ := op3 _ _ _ _ _ _ _ _ h0
  obtain ⟨n1, y1, h1⟩ := hp 1 5 1 rfl
  obtain ⟨s1, c1, r1⟩ := op5 _ _ _ _ _ _ _ _ h1
  obtain ⟨n2, y2, h2⟩ := hp 2 3 2 rfl
  obtain ⟨s2, c2, r2⟩ := op3 _ _ _ _ _ _ _ _ h2
  refine ⟨⟨s0, s1, s2⟩, ?_, ⟨r0, r1, r2⟩⟩
  have e2 := parts_last (hl.trans cz57) (by rw [cz3]) c2
  have e1 := parts_cons c1 (m := 2) (by rw [cz5]) e2
  have e0 := parts_cons c0 (m := 1) (by rw [cz3]) e1
  exact e0
def Is26 (w : World) (s : Slc) : Prop := ∃ l : List NeedV, s.n = l.length ∧ (rd s.a l.length 3 (l.map NeedV.cells)).holds w ∧ (∀ x ∈ l, Is57 w x) ∧ l.length ≤ maxLen ∧ s.n ≤ s.c
theorem op26 : OpR Try.prog 26 Slc (fun s => [Value.slice s.a s.n s.c]) Is26 := op_slice ut26 cz57 op57
structure Is32 (w : World) (s : GuardV) : Prop where
  Track : Is24 w s.Track
  Posts : Is25 w s.Posts
  Needs : Is26 w s.Needs
  Tower : Is30 w s.Tower
  Radio : Is3 w s.Radio
theorem fx32 : fL Try.prog 32 = some [(24, 0), (25, 1), (26, 2), (30, 3), (3, 6)] := by kernel_rfl
theorem op32 : OpR Try.prog 32 GuardV GuardV.cells Is32 := fun {H} enc w base sp held fuel cs x h => by
  obtain ⟨hl, hp⟩ := op_parts fx32 h
  obtain ⟨n0, y0, h0⟩ := hp 0 24 0 rfl
  obtain ⟨s0, c0, r0⟩ := op24 _ _ _ _ _ _ _ _ h0
  obtain ⟨n1, y1, h1⟩ := hp 1 25 1 rfl
  obtain ⟨s1, c1, r1⟩ := op25 _ _ _ _ _ _ _ _ h1
  obtain ⟨n2, y2, h2⟩ := hp 2 26 2 rfl
  obtain ⟨s2, c2, r2⟩ := op26 _ _ _ _ _ _ _ _ h2
  obtain ⟨n3, y3, h3⟩ := hp 3 30 3 rfl
  obtain ⟨s3, c3, r3⟩ := op30 _ _ _ _ _ _ _ _ h3
  obtain ⟨n4, y4, h4⟩ := hp 4 3 6 rfl
  obtain ⟨s4, c4, r4⟩ := op3 _ _ _ _ _ _ _ _ h4
  refine ⟨⟨s0, s1, s2, s3, s4⟩, ?_, ⟨r0, r1, r2, r3, r4⟩⟩
  have e4 := parts_last (hl.trans cz32) (by rw [cz3]) c4
  have e3 := parts_cons c3 (m := 6) (by rw [cz30]) e4
  have e2 := parts_cons c2 (m := 3) (by rw [cz26]) e3
  have e1 := parts_cons c1 (m := 2) (by rw [cz25]) e2
  have e0 := parts_cons c0 (m := 1) (by rw [cz24]) e1
  exact e0
theorem cz111 : Try.prog.cellsOf 111 = 1 := by kernel_rfl
def Is111 (w : World) (n : Int) : Prop := 0 ≤ n ∧ n ≤ 4294967295
theorem op111 : OpR Try.prog 111 Int iC_u32 Is111 := op_u32 ut111
def Is52 (w : World) (s : Slc) : Prop := ∃ l : List Int, s.n = l.length ∧ (rd s.a l.length 1 (l.map iC_u32)).holds w ∧ (∀ x ∈ l, Is111 w x) ∧ l.length ≤ maxLen ∧ s.n ≤ s.c
theorem op52 : OpR Try.prog 52 Slc (fun s => [Value.slice s.a s.n s.c]) Is52 := op_slice ut52 cz111 op111
theorem own_postHelp : ownKnob Try.prog.godebug = none := by kernel_rfl
theorem laid_postHelp : laidOutB Try.prog = true := by kernel_rfl
set_option maxRecDepth 100000 in
theorem postHelp_lifted (os : Os) (started : os.Started) (H : Type) (enc : TypeId × Value → H) :
    ReturnsInHanded {} Try.checked os 4 .any (Rows.postHelpSpec.pre6 enc Try.prog Try.f4 Rows.postHelpRow.domain false) (Rows.postHelpSpec.post enc Try.prog Try.f4 false true false false) := by
  refine returnsInHanded_of_change (C := Try.checked) own_postHelp started (by kernel_rfl) Try.func4
    (ChangeSpec.witness6 (enc := enc) (C := Try.checked) false ⟨#[], #[.agg #[(Value.slice none 0 0), (Value.slice none 0 0), (Value.slice none 0 0), (Value.int .i64 0), (Value.int .i64 0), (Value.int .i64 0), (Value.int .i64 0)], Value.int .u8 0, Value.int .u8 0, Value.slice none 0 0], []⟩ 8 (by kernel_rfl) (by kernel_rfl) (by kernel_rfl) (by kernel_rfl)) ?_
  intro W base args ds gs before hval0 hW hcnd _
  have hval : ∀ (j : Nat) t v, Try.f4.params[j]? = some t → args[j]? = some v → Value.okWide Try.prog W .any base t v := hval0
  have hW' := hW
  obtain ⟨p, q, hA0, hV, rfl, hfz, hnd⟩ := hW
  have hA : DataW.TrodAll enc Try.prog W 0 (fun _ => true) true Try.f4.params.toList args.toList ds p := hA0
  have hA1 := hA
  rw [Try.params4] at hA hval
  obtain ⟨v0, vs0, d0, ds0, p0, q0, hargs, rfl, rfl, h0, r0⟩ := trodAll_cons hA
  obtain ⟨v1, vs1, d1, ds1, p1, q1, rfl, rfl, rfl, h1, r1⟩ := trodAll_cons r0
  obtain ⟨v2, vs2, d2, ds2, p2, q2, rfl, rfl, rfl, h2, r2⟩ := trodAll_cons r1
  obtain ⟨v3, vs3, d3, ds3, p3, q3, rfl, rfl, rfl, h3, r3⟩ := trodAll_cons r2
  obtain ⟨rfl, rfl, rfl⟩ := trodAll_nil r3
  obtain rfl : args = #[v0, v1, v2, v3] := by cases args; simp_all
  obtain ⟨rfl, rfl⟩ := trodVars_none hV
  obtain ⟨s0, rfl, R0⟩ := arg_struct fx32 op32 (hval 0 32 v0 rfl rfl) h0
  obtain ⟨s1, rfl, R1⟩ := arg_int (k := .u8) ut5 (hval 1 5 v1 rfl rfl) h1
  obtain ⟨s2, rfl, R2⟩ := arg_int (k := .u8) ut5 (hval 2 5 v2 rfl rfl) h2
  obtain ⟨s3, rfl, R3⟩ := arg_slice op52 ut52 (hval 3 52 v3 rfl rfl) h3
  simp only [List.append_nil] at hW' hA1
  obtain ⟨d, kA, kC, pA, pC, nA, nC, rfl, hraw, hg3, _⟩ := open_guard (R1 := Is110) (R2 := Is62) (R3 := Is57) R0.Track.Stretches (fun x hx => hx.Side) R0.Posts (fun x hx => hx.Kind) R0.Needs (fun x hx => hx.Kind)
  obtain ⟨lA, ln, lC⟩ := s3
  obtain ⟨bl, hnb, hrdb, hallb, hmaxb⟩ := R3
  simp only at hnb hrdb
  subst hnb
  have hrun := (postHelp_c d kA kC pA pC nA nC s1 s2 bl lA lC hraw R1 R2 (fun x hx => hallb x hx)).run W (by intro A hA; simp only [List.mem_cons, List.not_mem_nil, or_false] at hA; rcases hA with rfl | rfl | rfl | rfl; exact hg3.1; exact hg3.2.1; exact hg3.2.2; exact hrdb)
  refine (hrun).mono fun e W' ⟨he, hk⟩ => ?_
  subst he
  exact ⟨_, rfl, law_post laid_postHelp hW' hA1 rfl rfl (by kernel_rfl) hk.below (by kernel_rfl) ut4⟩
/-- the statement -/
theorem postHelp_said : Rows.PostHelpSaid :=
  OpenClaim.holds_of_wide 4 Try.f4 rfl rfl rfl rfl rfl rfl rfl ⟨rfl, rfl, rfl, rfl, rfl⟩ rfl rfl rfl rfl rfl (by kernel_rfl) Try.func4 (by kernel_rfl)
    (of_decide_eq_true (by kernel_rfl)) (by unfold Func.isWrapper; first | (rw [if_pos (by decide +kernel)]; kernel_rfl) | (rw [if_neg (by decide +kernel)]; exact ⟨rfl, rfl⟩))
    (fun os started H enc _ => postHelp_lifted os started H enc)
#print axioms postHelp_said
end
end Go.Proofs.Ytlncplfcbmcjgaa
