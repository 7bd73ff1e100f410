/-
  The statement postGuards_said, part 5 of 5: G12, G13, G5, G15, G14, X12, GuardOpen, Guards0.
  Conditions: none.
-/
import Derived.Test.YtlncplfcbmcjgaaGreatGd1
import Derived.Test.YtlncplfcbmcjgaaGreatGd2
import Derived.Test.YtlncplfcbmcjgaaGreatGd3
import Derived.Test.YtlncplfcbmcjgaaGreatGd4
import Derived.Test.YtlncplfcbmcjgaaGreatRows
import Derived.Test.YtlncplfcbmcjgaaGreatProg
import Derived.KernelRfl
namespace Go.Proofs.YtlncplfcbmcjgaaGreat
section
open Go.RowKit
set_option linter.unusedVariables false
set_option maxRecDepth 100000 in
set_option maxHeartbeats 400000 in
theorem rlacks_c (d : GuardM) (kA : Option Addr) (kC : Nat) (pA : Option Addr) (pC : Nat) (nA : Option Addr) (nC : Nat) (M : Nat → Prop) (mA : Option Addr) (mC : Nat) (hin : GuardIn d) (hge : guardE d = 0) :
    FnX Tryz.prog 22 [(Value.agg (GuardV.cells (GuardV.mk (TrackV.mk (Slc.mk kA d.Track.length kC)) (Slc.mk pA d.Posts.length pC) (Slc.mk nA d.Needs.length nC) d.Tower d.Radio)).toArray), (Value.slice mA ((boolsB d.Posts.length M).length) mC)] [(rd kA d.Track.length 9 (d.Track.map StretchV.cells)), (rd pA d.Posts.length 7 (d.Posts.map PostV.cells)), (rd nA d.Needs.length 3 (d.Needs.map NeedV.cells)), (rd mA ((boolsB d.Posts.length M).length) 1 ((boolsB d.Posts.length M).map boolC))] (fun (x : (Option Addr) × Nat) => (Value.slice x.1 ((lacksL d M).length) x.2)) (fun (x : (Option Addr) × Nat) => True) (fun (x : (Option Addr) × Nat) => [(own x.1 x.2 3 1 ((lacksL d M).map iC))]) := by
 have hlen := hin.trk
 have hside := hin.side
 have hpl := hin.pst
 have hnl := hin.nds
 have hnk := hin.nk
 have hpk := hin.pk
 obtain ⟨htr, hok⟩ := guardE_zero hge
 have hbm := boolsB_len (n := d.Posts.length) (P := M)
 refine fnX_of go22 Tryz.func22 rfl rfl fun w0 Q hQ hN => ?_
 try dsimp only
 refine WS fun _ hK1 => BXA rfl fun b2 => rS (AG rfl) <| RK hK1 <| WS fun _ hK3 => rS (LW 0 rfl tk32 rfl rfl) <| rS (MV rfl) <| cX (rcalled_c d kA kC pA pC nA nC M mA mC hin hge) (ha_at 1 rfl rfl <| ha_at 2 rfl rfl <| ha_at 3 rfl rfl <| ha_at 4 rfl rfl <| ha_nil) rfl fun y4 hy5 => ?_
 obtain ⟨a6, c7⟩ := y4
 try dsimp only
 refine rS (AG rfl) <| RK hK3 <| WS fun _ hK8 => rS (AG rfl) <| RK hK8 <| w_seq fun _ hK9 => WS fun _ hK10 => rS (AG rfl) <| RK hK10 <| w_block ?_
 refine w_own_nil 3 1 ?_
 have hinit : (0 ≤ d.Needs.length) := by exact Nat.zero_le _
 refine w_loop (ι := { z : Nat × (Option Addr) × Nat // (z.1 ≤ d.Needs.length) }) (fun z => [(2, (Value.pointer (some ⟨b2, 0, none⟩))), (5, (Value.slice a6 ((boolsB d.Posts.length (CallsP d M)).length) c7)), (6, (Value.slice z.1.2.1 ((idxL z.1.1 (LackP d M)).length) z.1.2.2)), (7, (Value.int .i64 ((z.1.1 : Nat) : Int)))]) (fun z => [(own z.1.2.1 z.1.2.2 3 1 ((idxL z.1.1 (LackP d M)).map iC)), (own a6 c7 4 1 ((boolsB d.Posts.length (CallsP d M)).map boolC)), (blk b2 32 (GuardV.cells (GuardV.mk (TrackV.mk (Slc.mk kA d.Track.length kC)) (Slc.mk pA d.Posts.length pC) (Slc.mk nA d.Needs.length nC) d.Tower d.Radio))), (rd kA d.Track.length 9 (d.Track.map StretchV.cells)).ro, (rd pA d.Posts.length 7 (d.Posts.map PostV.cells)).ro, (rd nA d.Needs.length 3 (d.Needs.map NeedV.cells)).ro, (rd mA ((boolsB d.Posts.length M).length) 1 ((boolsB d.Posts.length M).map boolC)).ro]) (fun z => d.Needs.length - z.1.1) ⟨(0, none, 0), hinit⟩ (Sub.cons rfl <| Sub.cons rfl <| Sub.cons rfl <| Sub.cons rfl <| Sub.nil _) (fun w hs => St.sel [0, 1, 2, 3, 4, 5, 6] rfl rfl hs) ?_
 clear hinit
 rintro ⟨⟨j, la, lc⟩, hl4_0⟩ J11 hJ11
 try dsimp only at hl4_0
 try dsimp only
 refine w_seq fun _ hK12 => WS fun _ hK13 => rS (MV rfl) <| rS (FA 2 rfl fo32_2 rfl) <| rS (L1 (Value.slice nA d.Needs.length nC) 2 rfl tk26 rfl rfl) <| rS (LN rfl ut26) <| rS (BI rfl b_lss) <| RK hK13 ?_
 refine w_if rfl (fun h14 => ?_) (fun h14 => ?_)
 rotate_left 1
 · replace h14 := DF h14
   refine w_exit <| k_exit_then <| k_exit_then <| k_exit_same <| KK hK9 <| WS fun _ hK30 => ?_
   rw [show idxL j (LackP d M) = lacksL d M from by unfold lacksL; rw [show j = d.Needs.length by omega]]
   refine rS (MV rfl) <| rS (AG rfl) <| RK hK30 <| w_ret ?_
   refine hQ _ _ _ (l_nil (vs := [(Value.slice la ((lacksL d M).length) lc)]) ⟨rfl, trivial⟩ fun w hs => endX (la, lc) [0] ?_ ?_ rfl rfl rfl hs)
   · rfl
   · trivial
 replace h14 := DT h14
 refine WK hK12 <| w_seq fun _ hK15 => w_block <| WS fun _ hK16 => rS (LW 2 rfl tk32 rfl rfl) <| rS (MV rfl) <| rS (MV rfl) <| cX (rmeets_c d kA kC pA pC nA nC ((j : Nat) : Int) (CallsP d M) a6 c7 hin hge (by omega)) (ha_at 3 rfl rfl <| ha_at 4 rfl rfl <| ha_at 5 rfl rfl <| ha_cons (has_own_n (n := (boolsB d.Posts.length (CallsP d M)).length) 1 rfl (by simp)) <| ha_nil) rfl fun y17 hy18 => ?_
 obtain ⟨a19, c20⟩ := y17
 try dsimp only
 refine cX (rlist_c (boolsB d.Posts.length (MeetsC d ((j : Nat) : Int) (CallsP d M))) a19 c20 (by rw [boolsB_len]; omega)) (ha_cons (has_own_n (n := (boolsB d.Posts.length (MeetsC d ((j : Nat) : Int) (CallsP d M))).length) 0 rfl (by simp)) <| ha_nil) rfl fun y21 hy22 => ?_
 obtain ⟨a23, c24⟩ := y21
 try dsimp only
 rw [bools_idx]
 refine rS (LN rfl ut33) <| rS (BI rfl b_eql) <| RK hK16 ?_
 refine w_if rfl (fun hg24 => ?_) (fun hg24 => ?_)
 rotate_left 1
 · replace hg24 := DF hg24
   refine w_skip <| k_block <| KK hK15 <| w_region <| rS (MV rfl) <| rS (BI rfl (b_add ⟨by omega, by omega⟩)) <| rS (AG rfl) <| r_nil ?_
   rw [show (idxL j (LackP d M)) = (idxL (j + 1) (LackP d M)) from (idxL_no (fun q => hg24 ((lackC (by omega)).2 q))).symm]
   have hb29 : (Value.int .i64 (((j + 1) : Nat) : Int)) = (Value.int .i64 (((j : Nat) : Int) + 1)) := by exact congrArg (Value.int .i64) (by omega)
   refine k_then (hJ11 ⟨((j + 1), la, lc), (by first | omega | (simp only []; omega))⟩ _ _ _ rfl (by first | omega | (simp; omega)) (Sub.cons rfl <| Sub.cons rfl <| Sub.cons rfl <| sub_val rfl hb29 <| Sub.nil _) (fun w hs => St.sel [2, 3, 4, 5, 6, 7, 8] rfl rfl hs))
 replace hg24 := DT hg24
 refine w_region <| rS (MV rfl) <| rS (MV rfl) <| r_bs (xs := [.tmp 26]) (cs := [(Value.int .i64 ((j : Nat) : Int))]) rfl te33 tz3 rfl rfl rfl rfl (by simp [Value.cells]) rfl rfl fun b25 => r_append (es2 := (List.map iC (idxL (j + 1) (LackP d M)))) (m' := (idxL (j + 1) (LackP d M)).length) 3 rfl rfl rfl ta33 rfl rfl (by simp) (has_rd_blk (es := List.map iC [((j : Nat) : Int)]) 0 rfl rfl (by simp [iC_length]) rfl) (one_iC _) (by have := idxL_len (n := j) (p := LackP d M); omega) (by have := idxL_len (n := j) (p := LackP d M); simp only [maxLen]; omega) (by rw [idxL_yes (p := LackP d M) ((lackC (by omega)).1 hg24)]; simp) (by simp) rfl fun a26 c27 => ?_
 try dsimp only
 refine rS (AG rfl) <| r_nil <| k_block <| KK hK15 <| w_region <| rS (MV rfl) <| rS (BI rfl (b_add ⟨by omega, by omega⟩)) <| rS (AG rfl) <| r_nil ?_
 have hb28 : (Value.int .i64 (((j + 1) : Nat) : Int)) = (Value.int .i64 (((j : Nat) : Int) + 1)) := by exact congrArg (Value.int .i64) (by omega)
 refine k_then (hJ11 ⟨((j + 1), a26, c27), (by first | omega | (simp only []; omega))⟩ _ _ _ rfl (by first | omega | (simp; omega)) (Sub.cons rfl <| Sub.cons rfl <| Sub.cons rfl <| sub_val rfl hb28 <| Sub.nil _) (fun w hs => St.sel [3, 4, 5, 6, 7, 8, 9] rfl rfl hs))
set_option maxRecDepth 100000 in
set_option maxHeartbeats 400000 in
theorem rweak_c (d : GuardM) (kA : Option Addr) (kC : Nat) (pA : Option Addr) (pC : Nat) (nA : Option Addr) (nC : Nat) (M : Nat → Prop) (mA : Option Addr) (mC : Nat) (hin : GuardIn d) (hge : guardE d = 0) :
    FnX Tryz.prog 27 [(Value.agg (GuardV.cells (GuardV.mk (TrackV.mk (Slc.mk kA d.Track.length kC)) (Slc.mk pA d.Posts.length pC) (Slc.mk nA d.Needs.length nC) d.Tower d.Radio)).toArray), (Value.slice mA ((boolsB d.Posts.length M).length) mC)] [(rd kA d.Track.length 9 (d.Track.map StretchV.cells)), (rd pA d.Posts.length 7 (d.Posts.map PostV.cells)), (rd nA d.Needs.length 3 (d.Needs.map NeedV.cells)), (rd mA ((boolsB d.Posts.length M).length) 1 ((boolsB d.Posts.length M).map boolC))] (fun (x : (Option Addr) × Nat) => (Value.tuple [(Value.slice x.1 ((weakW d M).length) x.2), (Value.bool (decide (lacksL d M = [])))].toArray)) (fun (x : (Option Addr) × Nat) => True) (fun (x : (Option Addr) × Nat) => [(own x.1 x.2 3 1 ((weakW d M).map iC))]) := by
 have hlen := hin.trk
 have hside := hin.side
 have hpl := hin.pst
 have hnl := hin.nds
 have hnk := hin.nk
 have hpk := hin.pk
 obtain ⟨htr, hok⟩ := guardE_zero hge
 have hbm := boolsB_len (n := d.Posts.length) (P := M)
 refine fnX_of go27 Tryz.func27 rfl rfl fun w0 Q hQ hN => ?_
 try dsimp only
 refine WS fun _ hK1 => BXA rfl fun b2 => rS (AG rfl) <| rS (AG rfl) <| RK hK1 <| w_seq fun _ hK3 => WS fun _ hK4 => rS (LW 0 rfl tk32 rfl rfl) <| rS (MV rfl) <| cX (rlacks_c d kA kC pA pC nA nC M mA mC hin hge) (ha_at 1 rfl rfl <| ha_at 2 rfl rfl <| ha_at 3 rfl rfl <| ha_at 4 rfl rfl <| ha_nil) rfl fun y5 hy6 => ?_
 obtain ⟨a7, c8⟩ := y5
 try dsimp only
 refine rS (LN rfl ut33) <| rS (BI rfl b_gtr) <| RK hK4 ?_
 refine w_if rfl (fun hg13 => ?_) (fun hg13 => ?_)
 · replace hg13 := DT hg13
   refine WS fun _ hK9 => ?_
   have hl6 : ¬ lacksL d M = [] := (fun q => by rw [q] at hg13; simp at hg13); have hwv := weakW_no hl6; have hdd := decide_eq_false hl6
   refine r_own_nil 3 1 ?_
   rw [show (own none 0 3 1 ([] : List (List Value))) = own none 0 3 1 ((weakW d M).map iC) from by rw [hwv]; rfl]
   refine rS (AG rfl) <| rS (AG rfl) <| RK hK9 <| w_ret ?_
   refine hQ _ _ _ (l_nil (vs := [(Value.slice none 0 0), (Value.bool false)]) ⟨rfl, rfl, trivial⟩ fun w hs => endX (none, 0) [0] ?_ ?_ rfl rfl rfl hs)
   · first | (rw [hwv, hdd] <;> rfl) | (rw [decide_eq_true hl0] <;> rfl)
   · trivial
 replace hg13 := DF hg13
 refine WK hK3 <| w_seq fun _ hK10 => ?_
 have hl0 : lacksL d M = [] := List.eq_nil_of_length_eq_zero (by omega)
 rw [hbm]
 refine w_region <| rS (AG rfl) <| RK hK10 <| w_seq fun _ hK11 => WS fun _ hK12 => rS (AG rfl) <| RK hK12 <| w_block <| w_own_nil 3 1 ?_
 have hinit : (0 ≤ d.Posts.length) := by exact Nat.zero_le _
 refine w_loop (ι := { z : Nat × (Option Addr) × Nat // (z.1 ≤ d.Posts.length) }) (fun z => [(1, (Value.slice mA d.Posts.length mC)), (2, (Value.pointer (some ⟨b2, 0, none⟩))), (6, (Value.slice z.1.2.1 ((idxL z.1.1 (WeakM d M)).length) z.1.2.2)), (7, (Value.int .i64 ((z.1.1 : Nat) : Int)))]) (fun z => [(own z.1.2.1 z.1.2.2 3 1 ((idxL z.1.1 (WeakM d M)).map iC)), (own a7 c8 3 1 ((lacksL d M).map iC)), (blk b2 32 (GuardV.cells (GuardV.mk (TrackV.mk (Slc.mk kA d.Track.length kC)) (Slc.mk pA d.Posts.length pC) (Slc.mk nA d.Needs.length nC) d.Tower d.Radio))), (rd kA d.Track.length 9 (d.Track.map StretchV.cells)).ro, (rd pA d.Posts.length 7 (d.Posts.map PostV.cells)).ro, (rd nA d.Needs.length 3 (d.Needs.map NeedV.cells)).ro, (rd mA d.Posts.length 1 ((boolsB d.Posts.length M).map boolC)).ro]) (fun z => d.Posts.length - z.1.1) ⟨(0, none, 0), hinit⟩ (Sub.cons rfl <| Sub.cons rfl <| Sub.cons rfl <| Sub.cons rfl <| Sub.nil _) (fun w hs => St.sel [0, 1, 2, 3, 4, 5, 6] rfl rfl hs) ?_
 clear hinit
 rintro ⟨⟨j, la, lc⟩, hl5_0⟩ J13 hJ13
 try dsimp only at hl5_0
 try dsimp only
 refine w_seq fun _ hK14 => WS fun _ hK15 => rS (MV rfl) <| rS (MV rfl) <| rS (LN rfl ut54) <| rS (BI rfl b_lss) <| RK hK15 ?_
 refine w_if rfl (fun h16 => ?_) (fun h16 => ?_)
 rotate_left 1
 · replace h16 := DF h16
   refine w_exit <| k_exit_then <| k_exit_then <| k_exit_same <| KK hK11 <| WS fun _ hK39 => ?_
   rw [show idxL j (WeakM d M) = weakW d M from by rw [weakW_yes hl0, show j = d.Posts.length by omega]]
   refine rS (MV rfl) <| rS (AG rfl) <| rS (AG rfl) <| RK hK39 <| w_ret ?_
   refine hQ _ _ _ (l_nil (vs := [(Value.slice la ((weakW d M).length) lc), (Value.bool true)]) ⟨rfl, rfl, trivial⟩ fun w hs => endX (la, lc) [0] ?_ ?_ rfl rfl rfl hs)
   · first | (rw [hwv, hdd] <;> rfl) | (rw [decide_eq_true hl0] <;> rfl)
   · trivial
 replace h16 := DT h16
 refine WK hK14 <| w_seq fun _ hK17 => w_block <| w_seq fun _ hK18 => WS fun _ hK19 => rS (MV rfl) <| rS (MV rfl) ?_
 obtain ⟨mm, hmm⟩ : ∃ y_, (boolsB d.Posts.length M)[j]? = some y_ := ⟨(boolsB d.Posts.length M)[j]'(by omega), List.getElem?_eq_getElem _⟩
 have hmmm : ((boolsB d.Posts.length M).map boolC)[j]? = some (boolC mm) := by rw [List.getElem?_map, hmm]; rfl
 refine rS (IA j rfl (has_at 6 rfl) te54 (by decide) (by omega) (by omega)) <| rS (LE1 j 0 (Value.bool mm) rfl tk4 (has_at 6 rfl) hmmm rfl (by decide) rfl) <| rS (NT rfl) <| RK hK19 ?_
 refine w_if rfl (fun hg24 => ?_) (fun hg24 => ?_)
 · rw [Bool.not_eq_true'] at hg24
   refine w_exit <| k_exit_then <| k_exit_same <| KK hK17 <| w_region <| rS (MV rfl) <| rS (BI rfl (b_add ⟨by omega, by omega⟩)) <| rS (AG rfl) <| r_nil ?_
   rw [show (idxL j (WeakM d M)) = (idxL (j + 1) (WeakM d M)) from (idxL_no (show ¬ WeakM d M j from fun q => by first | exact Bool.false_ne_true (hg24.symm.trans ((boolsB_get hmm).2 q.1)) | exact q.2 (List.eq_nil_of_length_eq_zero (by omega)))).symm]
   have hb20 : (Value.int .i64 (((j + 1) : Nat) : Int)) = (Value.int .i64 (((j : Nat) : Int) + 1)) := by exact congrArg (Value.int .i64) (by omega)
   refine k_then (hJ13 ⟨((j + 1), la, lc), (by first | omega | (simp only []; omega))⟩ _ _ _ rfl (by first | omega | (simp; omega)) (Sub.cons rfl <| Sub.cons rfl <| Sub.cons rfl <| sub_val rfl hb20 <| Sub.nil _) (fun w hs => St.sel [0, 1, 2, 3, 4, 5, 6] rfl rfl hs))
 rw [Bool.not_eq_false'] at hg24
 refine WK hK18 <| WS fun _ hK21 => r_bs0 rfl te54 rfl fun b22 => rS (MV rfl) <| r_blk_own (es := (List.map boolC [])) (C' := [own (some ⟨b22, 0, none⟩) 0 4 1 (List.map boolC []), _, _, _, _, _, _, _]) 0 rfl (by simp) rfl (by simp [maxLen]) rfl <| r_append (es2 := (List.map boolC (boolsB d.Posts.length M))) (m' := (boolsB d.Posts.length M).length) 0 rfl rfl rfl ta54 rfl rfl (by simp) (has_at 7 rfl) (one_boolC _) (by first | omega | (simp; omega)) (by first | (simp only [maxLen]; omega) | (simp [maxLen]; omega)) (by simp) (by simp) rfl fun a23 c24 => ?_
 try dsimp only
 refine rS (AG rfl) <| RK hK21 <| WS fun _ hK25 => rS (MV rfl) <| rS (MV rfl) ?_
 obtain ⟨x26, hx27⟩ : ∃ y_, (boolsB d.Posts.length M)[j]? = some y_ := ⟨(boolsB d.Posts.length M)[j]'(by omega), List.getElem?_eq_getElem _⟩
 have hx27m : (List.map boolC (boolsB d.Posts.length M))[j]? = some (boolC x26) := by rw [List.getElem?_map, hx27]; rfl
 refine rS (IA j rfl (has_own_n (n := (boolsB d.Posts.length M).length) 0 rfl (by simp)) te54 (by decide) (by omega) (by omega)) ?_
 have hb28 : ((boolsB d.Posts.length M).set j false) = (boolsB d.Posts.length (less1 M j)) := by exact bools_off (by omega)
 refine r_store_own (k := j) (o := 0) (vs := [(Value.bool false)]) (es' := (List.map boolC (boolsB d.Posts.length (less1 M j)))) (C' := [(own a23 c24 4 1 (List.map boolC (boolsB d.Posts.length (less1 M j)))), _, _, _, _, _, _, _]) 0 rfl rfl rfl ts4 rfl rfl rfl rfl hx27m rfl (by decide) (by exact (List.map_set (f := boolC) (l := (boolsB d.Posts.length M)) (i := j) (a := false)).symm.trans (congrArg _ hb28)) rfl <| RK hK25 <| w_seq fun _ hK29 => ?_
 rw [show (boolsB d.Posts.length M).length = (boolsB d.Posts.length (less1 M j)).length from by rw [boolsB_len, boolsB_len]]
 refine w_region <| rS (LW 3 rfl tk32 rfl rfl) <| rS (MV rfl) <| cX (rlacks_c d kA kC pA pC nA nC (less1 M j) a23 c24 hin hge) (ha_at 4 rfl rfl <| ha_at 5 rfl rfl <| ha_at 6 rfl rfl <| ha_cons (has_own_n (n := (boolsB d.Posts.length (less1 M j)).length) 0 rfl (by simp)) <| ha_nil) rfl fun y30 hy31 => ?_
 obtain ⟨a32, c33⟩ := y30
 try dsimp only
 refine rS (LN rfl ut33) <| rS (BI rfl b_gtr) <| RK hK29 ?_
 refine w_if rfl (fun hg35 => ?_) (fun hg35 => ?_)
 rotate_left 1
 · replace hg35 := DF hg35
   refine w_skip <| k_block <| KK hK17 <| w_region <| rS (MV rfl) <| rS (BI rfl (b_add ⟨by omega, by omega⟩)) <| rS (AG rfl) <| r_nil ?_
   rw [show (idxL j (WeakM d M)) = (idxL (j + 1) (WeakM d M)) from (idxL_no (show ¬ WeakM d M j from fun q => by first | exact Bool.false_ne_true (hg24.symm.trans ((boolsB_get hmm).2 q.1)) | exact q.2 (List.eq_nil_of_length_eq_zero (by omega)))).symm]
   have hb38 : (Value.int .i64 (((j + 1) : Nat) : Int)) = (Value.int .i64 (((j : Nat) : Int) + 1)) := by exact congrArg (Value.int .i64) (by omega)
   refine k_then (hJ13 ⟨((j + 1), la, lc), (by first | omega | (simp only []; omega))⟩ _ _ _ rfl (by first | omega | (simp; omega)) (Sub.cons rfl <| Sub.cons rfl <| Sub.cons rfl <| sub_val rfl hb38 <| Sub.nil _) (fun w hs => St.sel [2, 3, 4, 5, 6, 7, 8] rfl rfl hs))
 replace hg35 := DT hg35
 refine w_region <| rS (MV rfl) <| rS (MV rfl) <| r_bs (xs := [.tmp 37]) (cs := [(Value.int .i64 ((j : Nat) : Int))]) rfl te33 tz3 rfl rfl rfl rfl (by simp [Value.cells]) rfl rfl fun b34 => r_append (es2 := (List.map iC (idxL (j + 1) (WeakM d M)))) (m' := (idxL (j + 1) (WeakM d M)).length) 3 rfl rfl rfl ta33 rfl rfl (by simp) (has_rd_blk (es := List.map iC [((j : Nat) : Int)]) 0 rfl rfl (by simp [iC_length]) rfl) (one_iC _) (by have := idxL_len (n := j) (p := WeakM d M); omega) (by have := idxL_len (n := j) (p := WeakM d M); simp only [maxLen]; omega) (by rw [idxL_yes (p := WeakM d M) (show WeakM d M j from ⟨(boolsB_get hmm).1 (by simpa using hg24), fun q => by rw [q] at hg35; simp at hg35⟩)]; simp) (by simp) rfl fun a35 c36 => ?_
 try dsimp only
 refine rS (AG rfl) <| r_nil <| k_block <| KK hK17 <| w_region <| rS (MV rfl) <| rS (BI rfl (b_add ⟨by omega, by omega⟩)) <| rS (AG rfl) <| r_nil ?_
 have hb37 : (Value.int .i64 (((j + 1) : Nat) : Int)) = (Value.int .i64 (((j : Nat) : Int) + 1)) := by exact congrArg (Value.int .i64) (by omega)
 refine k_then (hJ13 ⟨((j + 1), a35, c36), (by first | omega | (simp only []; omega))⟩ _ _ _ rfl (by first | omega | (simp; omega)) (Sub.cons rfl <| Sub.cons rfl <| Sub.cons rfl <| sub_val rfl hb37 <| Sub.nil _) (fun w hs => St.sel [3, 4, 5, 6, 7, 8, 9] rfl rfl hs))
set_option maxRecDepth 100000 in
set_option maxHeartbeats 400000 in
theorem rstrong_c (d : GuardM) (kA : Option Addr) (kC : Nat) (pA : Option Addr) (pC : Nat) (nA : Option Addr) (nC : Nat) (M : Nat → Prop) (mA : Option Addr) (mC : Nat) (hin : GuardIn d) (hge : guardE d = 0) :
    FnV Tryz.prog 33 [(Value.agg (GuardV.cells (GuardV.mk (TrackV.mk (Slc.mk kA d.Track.length kC)) (Slc.mk pA d.Posts.length pC) (Slc.mk nA d.Needs.length nC) d.Tower d.Radio)).toArray), (Value.slice mA ((boolsB d.Posts.length M).length) mC)] [(rd kA d.Track.length 9 (d.Track.map StretchV.cells)), (rd pA d.Posts.length 7 (d.Posts.map PostV.cells)), (rd nA d.Needs.length 3 (d.Needs.map NeedV.cells)), (rd mA ((boolsB d.Posts.length M).length) 1 ((boolsB d.Posts.length M).map boolC))] (Value.bool (decide (StrongP d M))) := by
 have hlen := hin.trk
 have hside := hin.side
 have hpl := hin.pst
 have hnl := hin.nds
 have hnk := hin.nk
 have hpk := hin.pk
 obtain ⟨htr, hok⟩ := guardE_zero hge
 have hbm := boolsB_len (n := d.Posts.length) (P := M)
 refine fnV_of go33 Tryz.func33 rfl rfl fun w0 Q hQ hN => ?_
 try dsimp only
 refine WS fun _ hK1 => BXA rfl fun b2 => rS (AG rfl) <| RK hK1 <| WS fun _ hK3 => rS (LW 0 rfl tk32 rfl rfl) <| rS (MV rfl) <| cX (rweak_c d kA kC pA pC nA nC M mA mC hin hge) (ha_at 1 rfl rfl <| ha_at 2 rfl rfl <| ha_at 3 rfl rfl <| ha_at 4 rfl rfl <| ha_nil) rfl fun y4 hy5 => ?_
 obtain ⟨a6, c7⟩ := y4
 try dsimp only
 refine rS (MV rfl) <| rS (EX rfl) <| rS (EX rfl) <| rS (AG rfl) <| rS (AG rfl) <| RK hK3 <| WS fun _ hK8 => rS (MV rfl) <| rS (MV rfl) ?_
 refine r_bool (t := 14) rfl (fun hg14 => ?_) (fun hg14 => ?_)
 rotate_left 1
 · replace hg14 := DF hg14
   refine rS (OX rfl) <| rS (OX rfl) <| rS (OX rfl) <| rS (PK rfl) <| rS (AG rfl) <| RK hK8 <| w_ret <| Q1 hQ rfl rfl rfl ?_
   first | exact congrArg Value.bool (decide_eq_false fun q => hg14 (strongW.1 q).1).symm | exact congrArg Value.bool (decide_eq_decide.2 ⟨fun q => strongW.2 ⟨hg14, q⟩, fun q => (strongW.1 q).2⟩)
 replace hg14 := DT hg14
 refine rS (MV rfl) <| rS (LN rfl ut33) <| rS (BI rfl b_eql) <| rS (PK rfl) <| rS (AG rfl) <| RK hK8 <| w_ret <| Q1 hQ rfl rfl rfl ?_
 first | exact congrArg Value.bool (decide_eq_false fun q => hg14 (strongW.1 q).1).symm | exact congrArg Value.bool (decide_eq_decide.2 ⟨fun q => strongW.2 ⟨hg14, q⟩, fun q => (strongW.1 q).2⟩)
end
section
open Go.RowKit
set_option linter.unusedVariables false
set_option maxRecDepth 100000 in
set_option maxHeartbeats 400000 in
theorem rLacks_c (d : GuardM) (kA : Option Addr) (kC : Nat) (pA : Option Addr) (pC : Nat) (nA : Option Addr) (nC : Nat) (l : List Int) (lA : Option Addr) (lC : Nat) (hin : GuardIn d) (hll : l.length ≤ 1000000) :
    FnX Tryz.prog 7 [(Value.agg (GuardV.cells (GuardV.mk (TrackV.mk (Slc.mk kA d.Track.length kC)) (Slc.mk pA d.Posts.length pC) (Slc.mk nA d.Needs.length nC) d.Tower d.Radio)).toArray), (Value.slice lA l.length lC)] [(rd kA d.Track.length 9 (d.Track.map StretchV.cells)), (rd pA d.Posts.length 7 (d.Posts.map PostV.cells)), (rd nA d.Needs.length 3 (d.Needs.map NeedV.cells)), (rd lA l.length 1 (l.map iC))] (fun (x : (Option Addr) × Nat) => (Value.tuple [(Value.slice x.1 ((lacksV d l).length) x.2), (Value.int .i64 (mannedE d l))].toArray)) (fun (x : (Option Addr) × Nat) => True) (fun (x : (Option Addr) × Nat) => [(own x.1 x.2 3 1 ((lacksV d l).map iC))]) := by
 have hlen := hin.trk
 have hside := hin.side
 have hpl := hin.pst
 have hnl := hin.nds
 have hnk := hin.nk
 have hpk := hin.pk
 refine fnX_of go7 Tryz.func7 rfl rfl fun w0 Q hQ hN => ?_
 try dsimp only
 refine WS fun _ hK1 => BXA rfl fun b2 => rS (AG rfl) <| rS (AG rfl) <| RK hK1 <| w_seq fun _ hK3 => WS fun _ hK4 => rS (LW 0 rfl tk32 rfl rfl) <| rS (CL (rpcheck_c d kA kC pA pC nA nC hin) (ha3 1 2 3 rfl rfl rfl rfl rfl rfl) rfl) <| rS (AG rfl) ?_
 refine RK hK4 <| WS fun _ hK5 => rS (MV rfl) <| rS (BI rfl b_neq) <| RK hK5 ?_
 refine w_if rfl (fun hg10 => ?_) (fun hg10 => ?_)
 · replace hg10 := XT hg10
   refine WS fun _ hK6 => rS (MV rfl) ?_
   have he := manned_bad (l := l) hg10; have hcn : lacksV d l = [] := lacksV_no (by rw [he]; exact hg10)
   refine r_own_nil 3 1 ?_
   rw [show (own none 0 3 1 ([] : List (List Value))) = own none 0 3 1 ((lacksV d l).map iC) from by rw [hcn]; rfl]
   refine rS (AG rfl) <| rS (AG rfl) <| RK hK6 <| w_ret ?_
   refine hQ _ _ _ (l_nil (vs := [(Value.slice none 0 0), (Value.int .i64 (guardE d))]) ⟨rfl, rfl, trivial⟩ fun w hs => endX (none, 0) [0] ?_ ?_ rfl rfl rfl hs)
   · first | (rw [hcn, he] <;> rfl) | (rw [manned_in hg10 hg15] <;> rfl)
   · trivial
 replace hg10 := XF hg10
 refine WK hK3 <| w_seq fun _ hK7 => WS fun _ hK8 => rS (LW 0 rfl tk32 rfl rfl) <| rS (MV rfl) <| rS (CL (remp_c d kA kC pA pC nA nC l lA lC hin hll) (ha_at 1 rfl rfl <| ha_at 2 rfl rfl <| ha_at 3 rfl rfl <| ha_at 4 rfl rfl <| ha_nil) rfl) <| rS (NT rfl) <| RK hK8 ?_
 refine w_if rfl (fun hg15 => ?_) (fun hg15 => ?_)
 · replace hg15 := XT hg15
   refine WS fun _ hK9 => ?_
   have he := manned_out hg10 hg15; have hcn : lacksV d l = [] := lacksV_no (by rw [he]; decide)
   refine r_own_nil 3 1 ?_
   rw [show (own none 0 3 1 ([] : List (List Value))) = own none 0 3 1 ((lacksV d l).map iC) from by rw [hcn]; rfl]
   refine rS (AG rfl) <| rS (AG rfl) <| RK hK9 <| w_ret ?_
   refine hQ _ _ _ (l_nil (vs := [(Value.slice none 0 0), (Value.int .i64 2)]) ⟨rfl, rfl, trivial⟩ fun w hs => endX (none, 0) [0] ?_ ?_ rfl rfl rfl hs)
   · first | (rw [hcn, he] <;> rfl) | (rw [manned_in hg10 hg15] <;> rfl)
   · trivial
 replace hg15 := XF hg15
 refine WK hK7 <| w_seq fun _ hK10 => w_draw4 mixed [0, 1, 2, 6] [3, 4, 5] [false, false, false, false] [false, false, false] [(blk b2 32 (GuardV.cells (GuardV.mk (TrackV.mk (Slc.mk kA d.Track.length kC)) (Slc.mk pA d.Posts.length pC) (Slc.mk nA d.Needs.length nC) d.Tower d.Radio))), (rd kA d.Track.length 9 (d.Track.map StretchV.cells)).ro, (rd pA d.Posts.length 7 (d.Posts.map PostV.cells)).ro, (rd nA d.Needs.length 3 (d.Needs.map NeedV.cells)).ro, (rd lA l.length 1 (l.map iC)).ro] [] (by kernel_rfl) (fun w hs => St.sel [0, 1, 2, 3, 4] rfl rfl hs) (fun w hs => St.sel [] rfl rfl hs) <| eS rfl (LW 0 rfl tk32 rfl rfl) <| eS rfl (LW 0 rfl tk32 rfl rfl) <| eS rfl (MV rfl) <| eS rfl (AG rfl) <| d_fin rfl <| t_cons rfl fun T11 hT11 => cX (rmanned_c d kA kC pA pC nA nC l lA lC hin hll) (ha_at 1 rfl rfl <| ha_at 2 rfl rfl <| ha_at 3 rfl rfl <| ha_at 4 rfl rfl <| ha_nil) rfl fun y12 hy13 => ?_
 obtain ⟨a14, c15⟩ := y12
 try dsimp only
 refine RN hT11 [1, 2, 3, 4, 5] rfl rfl <| t_cons rfl fun T16 hT16 => cX (rlacks_c d kA kC pA pC nA nC (notIn l) a14 c15 hin (by first | assumption | omega | (simp; done) | (simp; omega))) (ha_at 2 rfl rfl <| ha_at 3 rfl rfl <| ha_at 4 rfl rfl <| ha_cons (has_own_n (n := (boolsB d.Posts.length (notIn l)).length) 0 rfl (by simp)) <| ha_nil) rfl fun y17 hy18 => ?_
 obtain ⟨a19, c20⟩ := y17
 try dsimp only
 refine RN hT16 [2, 3, 4, 5, 6] rfl rfl <| t_cons rfl fun T21 hT21 => ?_
 rw [← lacksV_ok (manned_in hg10 hg15)]
 refine rS (AG rfl) <| RN hT21 [2, 3, 4, 5, 6] rfl rfl <| t_fin rfl <| KK hK10 <| w_ret ?_
 refine hQ _ _ _ (l_nil (vs := [(Value.slice a19 ((lacksV d l).length) c20), (Value.int .i64 0)]) ⟨rfl, rfl, trivial⟩ fun w hs => endX (a19, c20) [0] ?_ ?_ rfl rfl rfl hs)
 · first | (rw [hcn, he] <;> rfl) | (rw [manned_in hg10 hg15] <;> rfl)
 · trivial
set_option maxRecDepth 100000 in
set_option maxHeartbeats 400000 in
theorem rWeak_c (d : GuardM) (kA : Option Addr) (kC : Nat) (pA : Option Addr) (pC : Nat) (nA : Option Addr) (nC : Nat) (hin : GuardIn d) :
    FnX Tryz.prog 9 [(Value.agg (GuardV.cells (GuardV.mk (TrackV.mk (Slc.mk kA d.Track.length kC)) (Slc.mk pA d.Posts.length pC) (Slc.mk nA d.Needs.length nC) d.Tower d.Radio)).toArray)] [(rd kA d.Track.length 9 (d.Track.map StretchV.cells)), (rd pA d.Posts.length 7 (d.Posts.map PostV.cells)), (rd nA d.Needs.length 3 (d.Needs.map NeedV.cells))] (fun (x : (Option Addr) × Nat) => (Value.tuple [(Value.slice x.1 ((weakV d).length) x.2), (Value.int .i64 (weakE d))].toArray)) (fun (x : (Option Addr) × Nat) => True) (fun (x : (Option Addr) × Nat) => [(own x.1 x.2 3 1 ((weakV d).map iC))]) := by
 have hlen := hin.trk
 have hside := hin.side
 have hpl := hin.pst
 have hnl := hin.nds
 have hnk := hin.nk
 have hpk := hin.pk
 refine fnX_of go9 Tryz.func9 rfl rfl fun w0 Q hQ hN => ?_
 try dsimp only
 refine WS fun _ hK1 => BXA rfl fun b2 => rS (AG rfl) <| rS (AG rfl) <| RK hK1 <| w_seq fun _ hK3 => WS fun _ hK4 => rS (LW 0 rfl tk32 rfl rfl) <| rS (CL (rpcheck_c d kA kC pA pC nA nC hin) (ha3 1 2 3 rfl rfl rfl rfl rfl rfl) rfl) <| rS (AG rfl) ?_
 refine RK hK4 <| WS fun _ hK5 => rS (MV rfl) <| rS (BI rfl b_neq) <| RK hK5 ?_
 refine w_if rfl (fun hg10 => ?_) (fun hg10 => ?_)
 · replace hg10 := XT hg10
   refine WS fun _ hK6 => rS (MV rfl) ?_
   obtain ⟨he, hcn⟩ := weak_bad hg10
   refine r_own_nil 3 1 ?_
   rw [show (own none 0 3 1 ([] : List (List Value))) = own none 0 3 1 ((weakV d).map iC) from by rw [hcn]; rfl]
   refine rS (AG rfl) <| rS (AG rfl) <| RK hK6 <| w_ret ?_
   refine hQ _ _ _ (l_nil (vs := [(Value.slice none 0 0), (Value.int .i64 (guardE d))]) ⟨rfl, rfl, trivial⟩ fun w hs => endX (none, 0) [0] ?_ ?_ rfl rfl rfl hs)
   · first | (rw [hcn, he] <;> rfl) | (rw [(weak_all0 hg10 (by first | exact hg20 | simpa using hg20)).1] <;> rfl)
   · trivial
 replace hg10 := XF hg10
 refine WK hK3 <| w_seq fun _ hK7 => w_drawN mixed [0, 1] [2, 3, 4, 5, 6, 7, 8] [false, false] [] [(blk b2 32 (GuardV.cells (GuardV.mk (TrackV.mk (Slc.mk kA d.Track.length kC)) (Slc.mk pA d.Posts.length pC) (Slc.mk nA d.Needs.length nC) d.Tower d.Radio))), (rd kA d.Track.length 9 (d.Track.map StretchV.cells)).ro, (rd pA d.Posts.length 7 (d.Posts.map PostV.cells)).ro, (rd nA d.Needs.length 3 (d.Needs.map NeedV.cells)).ro] [] (by kernel_rfl) (fun w hs => St.sel [0, 1, 2, 3] rfl rfl hs) (fun w hs => St.sel [] rfl rfl hs) <| eS rfl (LW 0 rfl tk32 rfl rfl) <| eS rfl (LW 0 rfl tk32 rfl rfl) <| d_fin rfl <| N1 2 <| NO rfl rfl [3,4,5,6,7,8] fun T8 hT8 => cX (rmanned_c d kA kC pA pC nA nC ([]) none 0 hin (by first | assumption | omega | (simp; done) | (simp; omega))) (ha_at 1 rfl rfl <| ha_at 2 rfl rfl <| ha_at 3 rfl rfl <| ha_cons (rd_nil _ _) <| ha_nil) rfl fun y9 hy10 => ?_
 obtain ⟨a11, c12⟩ := y9
 try dsimp only
 refine RD hT8 1 rfl <| N1 3 <| NO rfl rfl [4,5,6,7,8] fun T13 hT13 => cX (rweak_c d kA kC pA pC nA nC (notIn []) a11 c12 hin (by first | assumption | omega | (simp; done) | (simp; omega))) (ha_at 2 rfl rfl <| ha_at 3 rfl rfl <| ha_at 4 rfl rfl <| ha_cons (has_own_n (n := (boolsB d.Posts.length (notIn ([]))).length) 0 rfl (by simp)) <| ha_nil) rfl fun y14 hy15 => ?_
 obtain ⟨a16, c17⟩ := y14
 try dsimp only
 refine RD hT13 2 rfl <| n_pure [12, 17, 18, 5, 6] (by kernel_rfl) (by kernel_rfl) rfl _ rfl rfl (fun w hs => St.sel [2, 3, 4, 5] rfl rfl hs) <| dS (MV rfl) <| dS (EX rfl) <| dS (EX rfl) <| dS (AG rfl) <| dS (AG rfl) <| d_end <| RK hK7 <| w_seq fun _ hK18 => ?_
 refine WS fun _ hK19 => rS (MV rfl) <| rS (NT rfl) <| RK hK19 ?_
 refine w_if rfl (fun hg20 => ?_) (fun hg20 => ?_)
 rotate_left 1
 · replace hg20 := XF hg20
   refine WK hK18 <| WS fun _ hK21 => rS (MV rfl) ?_
   rw [(weak_all0 hg10 (by first | exact hg20 | simpa using hg20)).2]
   refine rS (AG rfl) <| rS (AG rfl) <| RK hK21 <| w_ret ?_
   refine hQ _ _ _ (l_nil (vs := [(Value.slice a16 ((weakV d).length) c17), (Value.int .i64 0)]) ⟨rfl, rfl, trivial⟩ fun w hs => endX (a16, c17) [0] ?_ ?_ rfl rfl rfl hs)
   · first | (rw [hcn, he] <;> rfl) | (rw [(weak_all0 hg10 (by first | exact hg20 | simpa using hg20)).1] <;> rfl)
   · trivial
 replace hg20 := XT hg20
 refine WS fun _ hK20 => ?_
 obtain ⟨he, hcn⟩ := weak_all6 hg10 (by first | exact hg20 | simpa using hg20)
 refine r_own_nil 3 1 ?_
 rw [show (own none 0 3 1 ([] : List (List Value))) = own none 0 3 1 ((weakV d).map iC) from by rw [hcn]; rfl]
 refine rS (AG rfl) <| rS (AG rfl) <| RK hK20 <| w_ret ?_
 refine hQ _ _ _ (l_nil (vs := [(Value.slice none 0 0), (Value.int .i64 6)]) ⟨rfl, rfl, trivial⟩ fun w hs => endX (none, 0) [0] ?_ ?_ rfl rfl rfl hs)
 · first | (rw [hcn, he] <;> rfl) | (rw [(weak_all0 hg10 (by first | exact hg20 | simpa using hg20)).1] <;> rfl)
 · trivial
set_option maxRecDepth 100000 in
set_option maxHeartbeats 400000 in
theorem rSpare_c (d : GuardM) (kA : Option Addr) (kC : Nat) (pA : Option Addr) (pC : Nat) (nA : Option Addr) (nC : Nat) (hin : GuardIn d) :
    FnX Tryz.prog 13 [(Value.agg (GuardV.cells (GuardV.mk (TrackV.mk (Slc.mk kA d.Track.length kC)) (Slc.mk pA d.Posts.length pC) (Slc.mk nA d.Needs.length nC) d.Tower d.Radio)).toArray)] [(rd kA d.Track.length 9 (d.Track.map StretchV.cells)), (rd pA d.Posts.length 7 (d.Posts.map PostV.cells)), (rd nA d.Needs.length 3 (d.Needs.map NeedV.cells))] (fun (x : (Option Addr) × Nat) => (Value.tuple [(Value.slice x.1 ((spareV d).length) x.2), (Value.int .i64 (guardE d))].toArray)) (fun (x : (Option Addr) × Nat) => True) (fun (x : (Option Addr) × Nat) => [(own x.1 x.2 3 1 ((spareV d).map iC))]) := by
 have hlen := hin.trk
 have hside := hin.side
 have hpl := hin.pst
 have hnl := hin.nds
 have hnk := hin.nk
 have hpk := hin.pk
 refine fnX_of go13 Tryz.func13 rfl rfl fun w0 Q hQ hN => ?_
 try dsimp only
 refine WS fun _ hK1 => BXA rfl fun b2 => rS (AG rfl) <| rS (AG rfl) <| RK hK1 <| w_seq fun _ hK3 => WS fun _ hK4 => rS (LW 0 rfl tk32 rfl rfl) <| rS (CL (rpcheck_c d kA kC pA pC nA nC hin) (ha3 1 2 3 rfl rfl rfl rfl rfl rfl) rfl) <| rS (AG rfl) ?_
 refine RK hK4 <| WS fun _ hK5 => rS (MV rfl) <| rS (BI rfl b_neq) <| RK hK5 ?_
 refine w_if rfl (fun hg10 => ?_) (fun hg10 => ?_)
 · replace hg10 := XT hg10
   refine WS fun _ hK6 => rS (MV rfl) ?_
   have hcn := spareV_no hg10
   refine r_own_nil 3 1 ?_
   rw [show (own none 0 3 1 ([] : List (List Value))) = own none 0 3 1 ((spareV d).map iC) from by rw [hcn]; rfl]
   refine rS (AG rfl) <| rS (AG rfl) <| RK hK6 <| w_ret ?_
   refine hQ _ _ _ (l_nil (vs := [(Value.slice none 0 0), (Value.int .i64 (guardE d))]) ⟨rfl, rfl, trivial⟩ fun w hs => endX (none, 0) [0] ?_ ?_ rfl rfl rfl hs)
   · first | (rw [hcn] <;> rfl) | (rw [hg10] <;> rfl)
   · trivial
 replace hg10 := XF hg10
 refine WK hK3 <| WS fun _ hK7 => rS (AG rfl) <| RK hK7 <| w_seq fun _ hK8 => WS fun _ hK9 => rS (AG rfl) <| RK hK9 <| w_block <| w_own_nil 3 1 ?_
 have hinit : (0 ≤ d.Posts.length) := by exact Nat.zero_le _
 refine w_loop (ι := { z : Nat × (Option Addr) × Nat // (z.1 ≤ d.Posts.length) }) (fun z => [(1, (Value.pointer (some ⟨b2, 0, none⟩))), (5, (Value.slice z.1.2.1 ((idxL z.1.1 (fun i => StrongP d (less1 allS i))).length) z.1.2.2)), (6, (Value.int .i64 ((z.1.1 : Nat) : Int)))]) (fun z => [(own z.1.2.1 z.1.2.2 3 1 ((idxL z.1.1 (fun i => StrongP d (less1 allS i))).map iC)), (blk b2 32 (GuardV.cells (GuardV.mk (TrackV.mk (Slc.mk kA d.Track.length kC)) (Slc.mk pA d.Posts.length pC) (Slc.mk nA d.Needs.length nC) d.Tower d.Radio))), (rd kA d.Track.length 9 (d.Track.map StretchV.cells)).ro, (rd pA d.Posts.length 7 (d.Posts.map PostV.cells)).ro, (rd nA d.Needs.length 3 (d.Needs.map NeedV.cells)).ro]) (fun z => d.Posts.length - z.1.1) ⟨(0, none, 0), hinit⟩ (Sub.cons rfl <| Sub.cons rfl <| Sub.cons rfl <| Sub.nil _) (fun w hs => St.sel [0, 1, 2, 3, 4] rfl rfl hs) ?_
 clear hinit
 rintro ⟨⟨j, la, lc⟩, hl6_0⟩ J10 hJ10
 try dsimp only at hl6_0
 try dsimp only
 refine w_seq fun _ hK11 => WS fun _ hK12 => rS (MV rfl) <| rS (FA 1 rfl fo32_1 rfl) <| rS (L1 (Value.slice pA d.Posts.length pC) 1 rfl tk25 rfl rfl) <| rS (LN rfl ut25) <| rS (BI rfl b_lss) <| RK hK12 ?_
 refine w_if rfl (fun h13 => ?_) (fun h13 => ?_)
 rotate_left 1
 · replace h13 := DF h13
   refine w_exit <| k_exit_then <| k_exit_then <| k_exit_same <| KK hK8 <| WS fun _ hK29 => ?_
   rw [show idxL j (fun i => StrongP d (less1 allS i)) = spareV d from by rw [spareV_ok hg10, show j = d.Posts.length by omega]]
   refine rS (MV rfl) <| rS (AG rfl) <| rS (AG rfl) <| RK hK29 <| w_ret ?_
   refine hQ _ _ _ (l_nil (vs := [(Value.slice la ((spareV d).length) lc), (Value.int .i64 0)]) ⟨rfl, rfl, trivial⟩ fun w hs => endX (la, lc) [0] ?_ ?_ rfl rfl rfl hs)
   · first | (rw [hcn] <;> rfl) | (rw [hg10] <;> rfl)
   · trivial
 replace h13 := DT h13
 refine WK hK11 <| w_seq fun _ hK14 => w_block <| w_seq fun _ hK15 => w_draw4 mixed [0, 1, 2] [3, 4, 5] [false, false, false] [false, false, false] [(own la lc 3 1 ((idxL j (fun i => StrongP d (less1 allS i))).map iC)), (blk b2 32 (GuardV.cells (GuardV.mk (TrackV.mk (Slc.mk kA d.Track.length kC)) (Slc.mk pA d.Posts.length pC) (Slc.mk nA d.Needs.length nC) d.Tower d.Radio))), (rd kA d.Track.length 9 (d.Track.map StretchV.cells)).ro, (rd pA d.Posts.length 7 (d.Posts.map PostV.cells)).ro, (rd nA d.Needs.length 3 (d.Needs.map NeedV.cells)).ro] [] (by kernel_rfl) (fun w hs => St.sel [0, 1, 2, 3, 4] rfl rfl hs) (fun w hs => St.sel [] rfl rfl hs) <| eS rfl (LW 1 rfl tk32 rfl rfl) <| eS rfl (LW 1 rfl tk32 rfl rfl) <| eS rfl (MV rfl) <| d_fin rfl <| t_cons rfl fun T16 hT16 => ?_
 refine r_bs (xs := [.tmp 21]) (cs := [(Value.int .i64 ((j : Nat) : Int))]) rfl te33 tz3 rfl rfl rfl rfl (by simp [Value.cells]) rfl rfl fun b17 => RN hT16 [1, 2, 3, 4, 5] rfl rfl <| t_cons rfl fun T18 hT18 => cX (rmanned_c d kA kC pA pC nA nC ([((j : Nat) : Int)]) (some ⟨b17, 0, none⟩) 1 hin (by simp)) (ha_at 3 rfl rfl <| ha_at 4 rfl rfl <| ha_at 5 rfl rfl <| ha_cons (has_rd_blk 0 rfl rfl (by simp [iC_length]) rfl) <| ha_nil) rfl fun y19 hy20 => ?_
 obtain ⟨a21, c22⟩ := y19
 try dsimp only
 refine RN hT18 [2, 3, 4, 5, 6] rfl rfl <| t_cons rfl fun T23 hT23 => rS (CL (rstrong_c d kA kC pA pC nA nC (notIn [((j : Nat) : Int)]) a21 c22 hin (by first | assumption | omega | (simp; done) | (simp; omega))) (ha_at 4 rfl rfl <| ha_at 5 rfl rfl <| ha_at 6 rfl rfl <| ha_cons (has_own_n (n := (boolsB d.Posts.length (notIn ([((j : Nat) : Int)]))).length) 0 rfl (by simp)) <| ha_nil) rfl) <| RN hT23 [2, 3, 4, 5, 6] rfl rfl <| t_fin rfl <| KK hK15 ?_
 refine w_if rfl (fun hg24 => ?_) (fun hg24 => ?_)
 rotate_left 1
 · replace hg24 := DF hg24
   refine w_skip <| k_block <| KK hK14 <| w_region <| rS (MV rfl) <| rS (BI rfl (b_add ⟨by omega, by omega⟩)) <| rS (AG rfl) <| r_nil ?_
   rw [show (idxL j (fun i => StrongP d (less1 allS i))) = (idxL (j + 1) (fun i => StrongP d (less1 allS i))) from (idxL_no (show ¬ StrongP d (less1 allS j) from fun q => hg24 (strong_not1.2 q))).symm]
   have hb28 : (Value.int .i64 (((j + 1) : Nat) : Int)) = (Value.int .i64 (((j : Nat) : Int) + 1)) := by exact congrArg (Value.int .i64) (by omega)
   refine k_then (hJ10 ⟨((j + 1), la, lc), (by first | omega | (simp only []; omega))⟩ _ _ _ rfl (by first | omega | (simp; omega)) (Sub.cons rfl <| Sub.cons rfl <| sub_val rfl hb28 <| Sub.nil _) (fun w hs => St.sel [2, 3, 4, 5, 6] rfl rfl hs))
 replace hg24 := DT hg24
 refine w_region <| rS (MV rfl) <| rS (MV rfl) <| r_bs (xs := [.tmp 26]) (cs := [(Value.int .i64 ((j : Nat) : Int))]) rfl te33 tz3 rfl rfl rfl rfl (by simp [Value.cells]) rfl rfl fun b24 => r_append (es2 := (List.map iC (idxL (j + 1) (fun i => StrongP d (less1 allS i))))) (m' := (idxL (j + 1) (fun i => StrongP d (less1 allS i))).length) 3 rfl rfl rfl ta33 rfl rfl (by simp) (has_rd_blk (es := List.map iC [((j : Nat) : Int)]) 0 rfl rfl (by simp [iC_length]) rfl) (one_iC _) (by have := idxL_len (n := j) (p := fun i => StrongP d (less1 allS i)); omega) (by have := idxL_len (n := j) (p := fun i => StrongP d (less1 allS i)); simp only [maxLen]; omega) (by rw [idxL_yes (p := fun i => StrongP d (less1 allS i)) (show StrongP d (less1 allS j) from strong_not1.1 hg24)]; simp) (by simp) rfl fun a25 c26 => ?_
 try dsimp only
 refine rS (AG rfl) <| r_nil <| k_block <| KK hK14 <| w_region <| rS (MV rfl) <| rS (BI rfl (b_add ⟨by omega, by omega⟩)) <| rS (AG rfl) <| r_nil ?_
 have hb27 : (Value.int .i64 (((j + 1) : Nat) : Int)) = (Value.int .i64 (((j : Nat) : Int) + 1)) := by exact congrArg (Value.int .i64) (by omega)
 refine k_then (hJ10 ⟨((j + 1), a25, c26), (by first | omega | (simp only []; omega))⟩ _ _ _ rfl (by first | omega | (simp; omega)) (Sub.cons rfl <| Sub.cons rfl <| sub_val rfl hb27 <| Sub.nil _) (fun w hs => St.sel [3, 4, 5, 6, 7] rfl rfl hs))
end
section
open Go.RowKit
set_option linter.unusedVariables false
set_option maxRecDepth 100000 in
set_option maxHeartbeats 400000 in
theorem rbefore_c (a : List Int) (aA : Option Addr) (aC : Nat) (b : List Int) (bA : Option Addr) (bC : Nat) (ha : a.length ≤ 1000000) (hb : b.length ≤ 1000000) :
    FnV Tryz.prog 32 [(Value.slice aA a.length aC), (Value.slice bA b.length bC)] [(rd aA a.length 1 (a.map iC)), (rd bA b.length 1 (b.map iC))] (Value.bool (decide (BeforeP a b))) := by
 refine fnV_of go32 Tryz.func32 rfl rfl fun w0 Q hQ hN => ?_
 try dsimp only
 refine WS fun _ hK1 => rS (AG rfl) <| RK hK1 <| w_seq fun _ hK2 => WS fun _ hK3 => rS (MV rfl) <| rS (LN rfl ut33) <| rS (MV rfl) <| rS (LN rfl ut33) <| rS (BI rfl b_neq) ?_
 refine RK hK3 ?_
 refine w_if rfl (fun hg10 => ?_) (fun hg10 => ?_)
 · replace hg10 := XT hg10
   refine WS fun _ hK4 => rS (MV rfl) <| rS (LN rfl ut33) <| rS (MV rfl) <| rS (LN rfl ut33) <| rS (BI rfl b_lss) <| rS (AG rfl) <| RK hK4 <| w_ret <| Q1 hQ rfl rfl rfl ?_
   first | exact congrArg Value.bool (decide_eq_decide.2 (by rw [before_len (by omega)]; omega)) | exact congrArg Value.bool (decide_eq_decide.2 (before_at (by omega) hl4_1 hx hy hg30)) | exact congrArg Value.bool (decide_eq_false (before_end (by omega) hl4_1 (by omega))).symm
 replace hg10 := XF hg10
 refine WK hK2 <| w_seq fun _ hK5 => WS fun _ hK6 => rS (AG rfl) <| RK hK6 <| w_block ?_
 have hinit : (0 ≤ a.length) ∧ (cmpL a b = cmpL (a.drop 0) (b.drop 0)) := by exact ⟨Nat.zero_le _, rfl⟩
 refine w_loop (ι := { z : Nat // (z ≤ a.length) ∧ (cmpL a b = cmpL (a.drop z) (b.drop z)) }) (fun z => [(0, (Value.slice aA a.length aC)), (1, (Value.slice bA b.length bC)), (5, (Value.int .i64 ((z.1 : Nat) : Int)))]) (fun z => [(rd aA a.length 1 (a.map iC)).ro, (rd bA b.length 1 (b.map iC)).ro]) (fun z => a.length - z.1) ⟨0, hinit⟩ (Sub.cons rfl <| Sub.cons rfl <| Sub.cons rfl <| Sub.nil _) (fun w hs => St.sel [0, 1] rfl rfl hs) ?_
 clear hinit
 rintro ⟨i, ⟨hl4_0, hl4_1⟩⟩ J7 hJ7
 try dsimp only
 refine w_seq fun _ hK8 => WS fun _ hK9 => rS (MV rfl) <| rS (MV rfl) <| rS (LN rfl ut33) <| rS (BI rfl b_lss) <| RK hK9 ?_
 refine w_if rfl (fun h10 => ?_) (fun h10 => ?_)
 rotate_left 1
 · replace h10 := DF h10
   refine w_exit <| k_exit_then <| k_exit_then <| k_exit_same <| KK hK5 <| WS fun _ hK15 => rS (AG rfl) <| RK hK15 <| w_ret <| Q1 hQ rfl rfl rfl ?_
   first | exact congrArg Value.bool (decide_eq_decide.2 (by rw [before_len (by omega)]; omega)) | exact congrArg Value.bool (decide_eq_decide.2 (before_at (by omega) hl4_1 hx hy hg30)) | exact congrArg Value.bool (decide_eq_false (before_end (by omega) hl4_1 (by omega))).symm
 replace h10 := DT h10
 refine WK hK8 <| w_seq fun _ hK11 => w_block <| w_seq fun _ hK12 => w_draw mixed 9 (by kernel_rfl) <| dS (MV rfl) <| dS (MV rfl) ?_
 obtain ⟨x, hx⟩ : ∃ y_, a[i]? = some y_ := ⟨a[i]'(by omega), List.getElem?_eq_getElem _⟩
 have hxm : (a.map iC)[i]? = some (iC x) := by rw [List.getElem?_map, hx]; rfl
 refine dS (IA i rfl (has_at 0 rfl) te33 (by decide) (by omega) (by omega)) <| dS (LE1 i 0 (Value.int .i64 x) rfl tk3 (has_at 0 rfl) hxm rfl (by decide) rfl) <| dS (MV rfl) <| dS (MV rfl) ?_
 obtain ⟨y, hy⟩ : ∃ y_, b[i]? = some y_ := ⟨b[i]'(by omega), List.getElem?_eq_getElem _⟩
 have hym : (b.map iC)[i]? = some (iC y) := by rw [List.getElem?_map, hy]; rfl
 refine dS (IA i rfl (has_at 1 rfl) te33 (by decide) (by omega) (by omega)) <| dS (LE1 i 0 (Value.int .i64 y) rfl tk3 (has_at 1 rfl) hym rfl (by decide) rfl) <| dS (BI rfl b_neq) <| d_end <| RK hK12 ?_
 refine w_if rfl (fun hg30 => ?_) (fun hg30 => ?_)
 rotate_left 1
 · replace hg30 := XF hg30
   refine w_skip <| k_block <| KK hK11 <| w_region <| rS (MV rfl) <| rS (BI rfl (b_add ⟨by omega, by omega⟩)) <| rS (AG rfl) <| r_nil ?_
   have hb14 : (Value.int .i64 (((i + 1) : Nat) : Int)) = (Value.int .i64 (((i : Nat) : Int) + 1)) := by exact congrArg (Value.int .i64) (by omega)
   refine k_then (hJ7 ⟨(i + 1), ⟨by omega, before_step hl4_1 hx hy hg30⟩⟩ _ _ _ rfl (by first | omega | (simp; omega)) (Sub.cons rfl <| Sub.cons rfl <| sub_val rfl hb14 <| Sub.nil _) (fun w hs => St.sel [0, 1] rfl rfl hs))
 replace hg30 := XT hg30
 refine w_seq fun _ hK13 => w_draw mixed 10 (by kernel_rfl) <| dS (MV rfl) <| dS (MV rfl) <| dS (IA i rfl (has_at 0 rfl) te33 (by decide) (by omega) (by omega)) <| dS (LE1 i 0 (Value.int .i64 x) rfl tk3 (has_at 0 rfl) hxm rfl (by decide) rfl) <| dS (MV rfl) <| dS (MV rfl) <| dS (IA i rfl (has_at 1 rfl) te33 (by decide) (by omega) (by omega)) <| dS (LE1 i 0 (Value.int .i64 y) rfl tk3 (has_at 1 rfl) hym rfl (by decide) rfl) ?_
 refine dS (BI rfl b_lss) <| dS (AG rfl) <| d_end <| RK hK13 <| w_ret <| Q1 hQ rfl rfl rfl ?_
 first | exact congrArg Value.bool (decide_eq_decide.2 (by rw [before_len (by omega)]; omega)) | exact congrArg Value.bool (decide_eq_decide.2 (before_at (by omega) hl4_1 hx hy hg30)) | exact congrArg Value.bool (decide_eq_false (before_end (by omega) hl4_1 (by omega))).symm
end
section
open Go.RowKit
set_option linter.unusedVariables false
theorem rlist2_c (bs : List Bool) (bsA : Option Addr) (bsC : Nat) (nn : Nat) (hnn : nn = bs.length) (hlen : bs.length ≤ 1000000) :
    FnX Tryz.prog 31 [(Value.slice bsA nn bsC)] [(rd bsA bs.length 1 (bs.map boolC))] (fun (x : (Option Addr) × Nat) => (Value.slice x.1 ((idxL bs.length (fun i => bs[i]? = some true)).length) x.2)) (fun (x : (Option Addr) × Nat) => True) (fun (x : (Option Addr) × Nat) => [(own x.1 x.2 3 1 ((idxL bs.length (fun i => bs[i]? = some true)).map iC))]) := by
  subst hnn
  exact rlist_c bs bsA bsC hlen
theorem rstrong2_c (d : GuardM) (kA : Option Addr) (kC : Nat) (pA : Option Addr) (pC : Nat) (nA : Option Addr) (nC : Nat) (M : Nat → Prop) (mA : Option Addr) (mC : Nat) (nn : Nat) (hin : GuardIn d) (hge : guardE d = 0) (hnn : nn = (boolsB d.Posts.length M).length) :
    FnV Tryz.prog 33 [(Value.agg (GuardV.cells (GuardV.mk (TrackV.mk (Slc.mk kA d.Track.length kC)) (Slc.mk pA d.Posts.length pC) (Slc.mk nA d.Needs.length nC) d.Tower d.Radio)).toArray), (Value.slice mA nn mC)] [(rd kA d.Track.length 9 (d.Track.map StretchV.cells)), (rd pA d.Posts.length 7 (d.Posts.map PostV.cells)), (rd nA d.Needs.length 3 (d.Needs.map NeedV.cells)), (rd mA ((boolsB d.Posts.length M).length) 1 ((boolsB d.Posts.length M).map boolC))] (Value.bool (decide (StrongP d M))) := by
  subst hnn
  exact rstrong_c d kA kC pA pC nA nC M mA mC hin hge
end
section
open Go.RowKit
set_option linter.unusedVariables false
set_option maxRecDepth 100000 in
set_option maxHeartbeats 2000000 in
theorem rFewest_c (d : GuardM) (kA : Option Addr) (kC : Nat) (pA : Option Addr) (pC : Nat) (nA : Option Addr) (nC : Nat) (hin : GuardIn d) :
    FnX Tryz.prog 11 [(Value.agg (GuardV.cells (GuardV.mk (TrackV.mk (Slc.mk kA d.Track.length kC)) (Slc.mk pA d.Posts.length pC) (Slc.mk nA d.Needs.length nC) d.Tower d.Radio)).toArray)] [(rd kA d.Track.length 9 (d.Track.map StretchV.cells)), (rd pA d.Posts.length 7 (d.Posts.map PostV.cells)), (rd nA d.Needs.length 3 (d.Needs.map NeedV.cells))] (fun (x : (Option Addr) × Nat) => (Value.tuple [(Value.slice x.1 ((fewV d).length) x.2), (Value.int .i64 (fewE d))].toArray)) (fun (x : (Option Addr) × Nat) => True) (fun (x : (Option Addr) × Nat) => [(own x.1 x.2 3 1 ((fewV d).map iC))]) := by
 have hlen := hin.trk
 have hside := hin.side
 have hpl := hin.pst
 have hnl := hin.nds
 have hnk := hin.nk
 have hpk := hin.pk
 refine fnX_of go11 Tryz.func11 rfl rfl fun w0 Q hQ hN => ?_
 try dsimp only
 refine WS fun _ hK1 => BXA rfl fun b2 => rS (AG rfl) <| rS (AG rfl) <| RK hK1 <| w_seq fun _ hK3 => WS fun _ hK4 => rS (LW 0 rfl tk32 rfl rfl) <| rS (CL (rpcheck_c d kA kC pA pC nA nC hin) (ha3 1 2 3 rfl rfl rfl rfl rfl rfl) rfl) <| rS (AG rfl) ?_
 refine RK hK4 <| WS fun _ hK5 => rS (MV rfl) <| rS (BI rfl b_neq) <| RK hK5 ?_
 refine w_if rfl (fun hg14 => ?_) (fun hg14 => ?_)
 · replace hg14 := XT hg14
   refine WS fun _ hK6 => rS (MV rfl) ?_
   obtain ⟨hfe, hfv⟩ := few_bad hg14
   refine r_own_nil 3 1 ?_
   rw [show (own none 0 3 1 ([] : List (List Value))) = own none 0 3 1 ((fewV d).map iC) from by rw [hfv]; rfl]
   refine rS (AG rfl) <| rS (AG rfl) <| RK hK6 <| w_ret ?_
   refine hQ _ _ _ (l_nil (vs := [(Value.slice none 0 0), (Value.int .i64 (guardE d))]) ⟨rfl, rfl, trivial⟩ fun w hs => endX (none, 0) [0] ?_ ?_ rfl rfl rfl hs)
   · (rw [hfe] <;> first | rfl | (rw [hfv]; rfl))
   · trivial
 replace hg14 := XF hg14
 refine WK hK3 <| WS fun _ hK7 => rS (AG rfl) <| RK hK7 <| w_seq fun _ hK8 => ?_
 obtain ⟨htr, hok⟩ := guardE_zero hg14; have hn8 := hok.len; have hp2 := pow_256 hn8.1
 refine w_region <| rS (AG rfl) <| RK hK8 <| w_seq fun _ hK9 => WS fun _ hK10 => rS (AG rfl) <| RK hK10 <| w_block <| w_own_nil 3 1 ?_
 have hinit : (0 ≤ 2 ^ d.Posts.length) ∧ (bestTo d.Posts.length (fun z => decide (StrongP d (bitS z))) 0 = cond false (some ([] : List Int)) none) ∧ (([] : List Int).length ≤ 8) := by exact ⟨Nat.zero_le _, rfl, Nat.zero_le _⟩
 refine w_loop (ι := { z : Nat × (List Int) × (Option Addr) × Nat × Bool // (z.1 ≤ 2 ^ d.Posts.length) ∧ (bestTo d.Posts.length (fun z => decide (StrongP d (bitS z))) z.1 = cond z.2.2.2.2 (some z.2.1) none) ∧ (z.2.1.length ≤ 8) }) (fun z => [(1, (Value.pointer (some ⟨b2, 0, none⟩))), (5, (Value.slice z.1.2.2.1 z.1.2.1.length z.1.2.2.2.1)), (6, (Value.bool z.1.2.2.2.2)), (7, (Value.int .i64 ((z.1.1 : Nat) : Int)))]) (fun z => [(own z.1.2.2.1 z.1.2.2.2.1 3 1 (z.1.2.1.map iC)), (blk b2 32 (GuardV.cells (GuardV.mk (TrackV.mk (Slc.mk kA d.Track.length kC)) (Slc.mk pA d.Posts.length pC) (Slc.mk nA d.Needs.length nC) d.Tower d.Radio))), (rd kA d.Track.length 9 (d.Track.map StretchV.cells)).ro, (rd pA d.Posts.length 7 (d.Posts.map PostV.cells)).ro, (rd nA d.Needs.length 3 (d.Needs.map NeedV.cells)).ro]) (fun z => 2 ^ d.Posts.length - z.1.1) ⟨(0, ([] : List Int), none, 0, false), hinit⟩ (Sub.cons rfl <| Sub.cons rfl <| Sub.cons rfl <| Sub.cons rfl <| Sub.nil _) (fun w hs => St.sel [0, 1, 2, 3, 4] rfl rfl hs) ?_
 clear hinit
 rintro ⟨⟨zz, bestl, fa, fc, bo⟩, ⟨hl7_0, hl7_1, hl7_2⟩⟩ J11 hJ11
 try dsimp only at hl7_0 hl7_1 hl7_2
 try dsimp only
 refine w_seq fun _ hK12 => WS fun _ hK13 => rS (MV rfl) <| rS (FA 1 rfl fo32_1 rfl) <| rS (L1 (Value.slice pA d.Posts.length pC) 1 rfl tk25 rfl rfl) <| rS (LN rfl ut25) <| rS (BI rfl (b_shl1 (i := d.Posts.length) (by omega) (by omega))) <| rS (BI rfl b_lss) <| RK hK13 ?_
 refine w_if rfl (fun h14 => ?_) (fun h14 => ?_)
 rotate_left 1
 · replace h14 := DF h14
   refine w_exit <| k_exit_then <| k_exit_then <| k_exit_same <| KK hK9 <| w_seq fun _ hK40 => WS fun _ hK41 => rS (MV rfl) <| rS (NT rfl) <| RK hK41 ?_
   refine w_if rfl (fun hg58 => ?_) (fun hg58 => ?_)
   rotate_left 1
   · rw [Bool.not_eq_false'] at hg58
     refine WK hK40 <| WS fun _ hK43 => ?_
     obtain ⟨hfe, hfv⟩ := few_some hg14 (by have hb := hl7_1; rw [show zz = 2 ^ d.Posts.length by omega, hg58] at hb; exact hb)
     rw [← hfv]
     refine rS (MV rfl) <| rS (AG rfl) <| rS (AG rfl) <| RK hK43 <| w_ret ?_
     refine hQ _ _ _ (l_nil (vs := [(Value.slice fa ((fewV d).length) fc), (Value.int .i64 0)]) ⟨rfl, rfl, trivial⟩ fun w hs => endX (fa, fc) [0] ?_ ?_ rfl rfl rfl hs)
     · (rw [hfe] <;> first | rfl | (rw [hfv]; rfl))
     · trivial
   rw [Bool.not_eq_true'] at hg58
   refine WS fun _ hK42 => ?_
   obtain ⟨hfe, hfv⟩ := few_none hg14 (by have hb := hl7_1; rw [show zz = 2 ^ d.Posts.length by omega, hg58] at hb; exact hb)
   refine r_own_nil 3 1 ?_
   rw [show (own none 0 3 1 ([] : List (List Value))) = own none 0 3 1 ((fewV d).map iC) from by rw [hfv]; rfl]
   refine rS (AG rfl) <| rS (AG rfl) <| RK hK42 <| w_ret ?_
   refine hQ _ _ _ (l_nil (vs := [(Value.slice none 0 0), (Value.int .i64 6)]) ⟨rfl, rfl, trivial⟩ fun w hs => endX (none, 0) [0] ?_ ?_ rfl rfl rfl hs)
   · (rw [hfe] <;> first | rfl | (rw [hfv]; rfl))
   · trivial
 replace h14 := DT h14
 refine WK hK12 <| w_seq fun _ hK15 => w_block <| WS fun _ hK16 => rS (FA 1 rfl fo32_1 rfl) <| rS (L1 (Value.slice pA d.Posts.length pC) 1 rfl tk25 rfl rfl) <| rS (LN rfl ut25) <| r_mks (n := d.Posts.length) (es := (List.map boolC (List.replicate d.Posts.length false))) rfl rfl rfl ta54 (by omega) (by omega) (by simp only [maxLen]; omega) (by rw [List.map_replicate]; rfl) rfl fun b17 => ?_
 try dsimp only
 refine rS (AG rfl) <| RK hK16 <| w_seq fun _ hK18 => w_seq fun _ hK19 => ?_
 rw [show (own (some ⟨b17, 0, none⟩) d.Posts.length 4 1 (List.map boolC (List.replicate d.Posts.length false))) = (own (some ⟨b17, 0, none⟩) d.Posts.length 4 1 ((setB d.Posts.length 0 (bitS zz)).map boolC)) from by rw [setB_zero]]
 refine w_region <| rS (AG rfl) <| RK hK19 <| w_block ?_
 have hinit : (0 ≤ d.Posts.length) := by exact Nat.zero_le _
 refine w_loop (ι := { z : Nat // (z ≤ d.Posts.length) }) (fun z => [(1, (Value.pointer (some ⟨b2, 0, none⟩))), (5, (Value.slice fa bestl.length fc)), (6, (Value.bool bo)), (7, (Value.int .i64 ((zz : Nat) : Int))), (8, (Value.slice (some ⟨b17, 0, none⟩) d.Posts.length d.Posts.length)), (9, (Value.int .i64 ((z.1 : Nat) : Int)))]) (fun z => [(own (some ⟨b17, 0, none⟩) d.Posts.length 4 1 ((setB d.Posts.length z.1 (bitS zz)).map boolC)), (own fa fc 3 1 (bestl.map iC)), (blk b2 32 (GuardV.cells (GuardV.mk (TrackV.mk (Slc.mk kA d.Track.length kC)) (Slc.mk pA d.Posts.length pC) (Slc.mk nA d.Needs.length nC) d.Tower d.Radio))), (rd kA d.Track.length 9 (d.Track.map StretchV.cells)).ro, (rd pA d.Posts.length 7 (d.Posts.map PostV.cells)).ro, (rd nA d.Needs.length 3 (d.Needs.map NeedV.cells)).ro]) (fun z => d.Posts.length - z.1) ⟨0, hinit⟩ (Sub.cons rfl <| Sub.cons rfl <| Sub.cons rfl <| Sub.cons rfl <| Sub.cons rfl <| Sub.cons rfl <| Sub.nil _) (fun w hs => St.sel [0, 1, 2, 3, 4, 5] rfl rfl hs) ?_
 clear hinit
 rintro ⟨j, hl11_0⟩ J20 hJ20
 try dsimp only
 have hsl := setB_len (n := d.Posts.length) (i := j) (P := bitS zz)
 refine w_seq fun _ hK21 => WS fun _ hK22 => rS (MV rfl) <| rS (MV rfl) <| rS (LN rfl ut54) <| rS (BI rfl b_lss) <| RK hK22 ?_
 refine w_if rfl (fun h23 => ?_) (fun h23 => ?_)
 · replace h23 := DT h23
   refine WK hK21 <| w_seq fun _ hK24 => w_block <| w_region <| rS (MV rfl) <| rS (MV rfl) <| rS (MV rfl) <| rS (MV rfl) <| rS (BI rfl (b_shrN (i := j) (by omega) (by omega))) <| rS (BI rfl (b_and1 (m := (zz / 2 ^ j)) (by omega) (Nat.lt_of_le_of_lt (Nat.div_le_self _ _) (by omega)))) ?_
   refine rS (BI rfl b_eql) ?_
   obtain ⟨x25, hx26⟩ : ∃ y_, (setB d.Posts.length j (bitS zz))[j]? = some y_ := ⟨(setB d.Posts.length j (bitS zz))[j]'(by omega), List.getElem?_eq_getElem _⟩
   have hx26m : ((setB d.Posts.length j (bitS zz)).map boolC)[j]? = some (boolC x25) := by rw [List.getElem?_map, hx26]; rfl
   refine rS (IA j rfl (has_own_n (n := d.Posts.length) 0 rfl (by first | (simp; done) | (simp; omega))) te54 (by decide) (by omega) (by omega)) ?_
   have hb27 : ((setB d.Posts.length j (bitS zz)).set j (decide (((zz / 2 ^ j % 2 : Nat) : Int) = 1))) = (setB d.Posts.length (j + 1) (bitS zz)) := by exact setB_set (by omega) (by rw [decide_eq_true_eq]; exact bit_iff)
   refine r_store_own (k := j) (o := 0) (vs := [(Value.bool (decide (((zz / 2 ^ j % 2 : Nat) : Int) = 1)))]) (es' := (List.map boolC (setB d.Posts.length (j + 1) (bitS zz)))) (C' := [(own (some ⟨b17, 0, none⟩) d.Posts.length 4 1 (List.map boolC (setB d.Posts.length (j + 1) (bitS zz)))), _, _, _, _, _]) 0 rfl rfl rfl ts4 rfl rfl rfl rfl hx26m rfl (by decide) (by exact (List.map_set (f := boolC) (l := (setB d.Posts.length j (bitS zz))) (i := j) (a := (decide (((zz / 2 ^ j % 2 : Nat) : Int) = 1)))).symm.trans (congrArg _ hb27)) rfl <| r_nil <| k_block <| KK hK24 <| w_region <| rS (MV rfl) <| rS (BI rfl (b_add ⟨by omega, by omega⟩)) <| rS (AG rfl) <| r_nil ?_
   have hb28 : (Value.int .i64 (((j + 1) : Nat) : Int)) = (Value.int .i64 (((j : Nat) : Int) + 1)) := by exact congrArg (Value.int .i64) (by omega)
   refine k_then (hJ20 ⟨(j + 1), (by first | omega | (simp only []; omega))⟩ _ _ _ rfl (by first | omega | (simp; omega)) (Sub.cons rfl <| Sub.cons rfl <| Sub.cons rfl <| Sub.cons rfl <| Sub.cons rfl <| sub_val rfl hb28 <| Sub.nil _) (fun w hs => St.sel [0, 1, 2, 3, 4, 5] rfl rfl hs))
 replace h23 := DF h23
 refine w_exit <| k_exit_then <| k_exit_then <| k_exit_same <| KK hK18 <| WS fun _ hK29 => ?_
 rw [show setB d.Posts.length j (bitS zz) = boolsB d.Posts.length (bitS zz) from by rw [show j = d.Posts.length by omega]; rfl]
 refine rS (MV rfl) <| cX (rlist2_c (boolsB d.Posts.length (bitS zz)) (some ⟨b17, 0, none⟩) d.Posts.length d.Posts.length (by rw [boolsB_len]) (by rw [boolsB_len]; omega)) (ha_cons (has_own_n (n := (boolsB d.Posts.length (bitS zz)).length) 0 rfl (by simp)) <| ha_nil) rfl fun y30 hy31 => ?_
 obtain ⟨a32, c33⟩ := y30
 try dsimp only
 rw [bools_idx]
 refine rS (AG rfl) <| RK hK29 <| WS fun _ hK34 => ?_
 have hal := idxL_len (n := d.Posts.length) (p := bitS zz)
 refine rS (MV rfl) <| rS (NT rfl) <| rS (MV rfl) ?_
 refine r_bool (t := 46) rfl (fun hg46 => ?_) (fun hg46 => ?_)
 · rw [Bool.not_eq_true'] at hg46
   refine rS (OX rfl) <| rS (OX rfl) <| rS (OX rfl) <| rS (PK rfl) <| rS (MV rfl) <| rS (LW 3 rfl tk32 rfl rfl) <| rS (MV rfl) <| rS (CL (rstrong2_c d kA kC pA pC nA nC (bitS zz) (some ⟨b17, 0, none⟩) d.Posts.length d.Posts.length hin (by first | assumption | omega | (simp; done) | (simp; omega)) (by rw [boolsB_len])) (ha_at 4 rfl rfl <| ha_at 5 rfl rfl <| ha_at 6 rfl rfl <| ha_cons (has_own_n (n := (boolsB d.Posts.length (bitS zz)).length) 1 rfl (by simp)) <| ha_nil) rfl) <| rS (PK rfl) <| RK hK34 ?_
   refine w_if rfl (fun hg55 => ?_) (fun hg55 => ?_)
   rotate_left 1
   · replace hg55 := DF hg55
     refine w_skip <| k_block <| KK hK15 <| w_region <| rS (MV rfl) <| rS (BI rfl (b_add ⟨by omega, by omega⟩)) <| rS (AG rfl) <| r_nil ?_
     have hb36 : (Value.int .i64 (((zz + 1) : Nat) : Int)) = (Value.int .i64 (((zz : Nat) : Int) + 1)) := by exact congrArg (Value.int .i64) (by omega)
     refine k_then (hJ11 ⟨((zz + 1), bestl, fa, fc, bo), ⟨by dsimp only; omega, by dsimp only; first | exact best_keep hl7_1 hg46 (by omega) hg51 | exact best_no hl7_1 (decide_eq_false hg55) | exact best_yes hl7_1 (fun hb => by first | exact absurd (hg46.symm.trans hb) Bool.false_ne_true | exact worse_asym (before_worse.1 hg51)) (decide_eq_true hg55), by dsimp only; omega⟩⟩ _ _ _ rfl (by first | omega | (simp; omega)) (Sub.cons rfl <| Sub.cons rfl <| Sub.cons rfl <| sub_val rfl hb36 <| Sub.nil _) (fun w hs => St.sel [2, 3, 4, 5, 6] rfl rfl hs))
   replace hg55 := DT hg55
   refine w_region <| rS (MV rfl) <| rS (AG rfl) <| rS (AG rfl) <| r_nil <| k_block <| KK hK15 <| w_region <| rS (MV rfl) <| rS (BI rfl (b_add ⟨by omega, by omega⟩)) ?_
   refine rS (AG rfl) <| r_nil ?_
   have hb35 : (Value.int .i64 (((zz + 1) : Nat) : Int)) = (Value.int .i64 (((zz : Nat) : Int) + 1)) := by exact congrArg (Value.int .i64) (by omega)
   refine k_then (hJ11 ⟨((zz + 1), (idxL d.Posts.length (bitS zz)), a32, c33, true), ⟨by dsimp only; omega, by dsimp only; first | exact best_keep hl7_1 hg46 (by omega) hg51 | exact best_no hl7_1 (decide_eq_false hg55) | exact best_yes hl7_1 (fun hb => by first | exact absurd (hg46.symm.trans hb) Bool.false_ne_true | exact worse_asym (before_worse.1 hg51)) (decide_eq_true hg55), by dsimp only; omega⟩⟩ _ _ _ rfl (by first | omega | (simp; omega)) (Sub.cons rfl <| Sub.cons rfl <| Sub.cons rfl <| sub_val rfl hb35 <| Sub.nil _) (fun w hs => St.sel [0, 3, 4, 5, 6] rfl rfl hs))
 rw [Bool.not_eq_false'] at hg46
 refine rS (MV rfl) <| rS (MV rfl) <| rS (CL (rbefore_c (idxL d.Posts.length (bitS zz)) a32 c33 bestl fa fc (by omega) (by omega)) (ha_cons (has_own_n (n := (idxL d.Posts.length (bitS zz)).length) 0 rfl (by simp)) <| ha_cons (has_own_n (n := bestl.length) 2 rfl (by simp)) <| ha_nil) rfl) <| rS (PK rfl) <| rS (MV rfl) ?_
 refine r_bool (t := 51) rfl (fun hg51 => ?_) (fun hg51 => ?_)
 rotate_left 1
 · replace hg51 := DF hg51
   refine rS (OX rfl) <| rS (OX rfl) <| rS (OX rfl) <| rS (PK rfl) <| RK hK34 <| w_if_false rfl <| w_skip <| k_block <| KK hK15 <| w_region ?_
   refine rS (MV rfl) <| rS (BI rfl (b_add ⟨by omega, by omega⟩)) <| rS (AG rfl) <| r_nil ?_
   have hb39 : (Value.int .i64 (((zz + 1) : Nat) : Int)) = (Value.int .i64 (((zz : Nat) : Int) + 1)) := by exact congrArg (Value.int .i64) (by omega)
   refine k_then (hJ11 ⟨((zz + 1), bestl, fa, fc, bo), ⟨by dsimp only; omega, by dsimp only; first | exact best_keep hl7_1 hg46 (by omega) hg51 | exact best_no hl7_1 (decide_eq_false hg55) | exact best_yes hl7_1 (fun hb => by first | exact absurd (hg46.symm.trans hb) Bool.false_ne_true | exact worse_asym (before_worse.1 hg51)) (decide_eq_true hg55), by dsimp only; omega⟩⟩ _ _ _ rfl (by first | omega | (simp; omega)) (Sub.cons rfl <| Sub.cons rfl <| Sub.cons rfl <| sub_val rfl hb39 <| Sub.nil _) (fun w hs => St.sel [2, 3, 4, 5, 6] rfl rfl hs))
 replace hg51 := DT hg51
 refine rS (LW 3 rfl tk32 rfl rfl) <| rS (MV rfl) <| rS (CL (rstrong2_c d kA kC pA pC nA nC (bitS zz) (some ⟨b17, 0, none⟩) d.Posts.length d.Posts.length hin (by first | assumption | omega | (simp; done) | (simp; omega)) (by rw [boolsB_len])) (ha_at 4 rfl rfl <| ha_at 5 rfl rfl <| ha_at 6 rfl rfl <| ha_cons (has_own_n (n := (boolsB d.Posts.length (bitS zz)).length) 1 rfl (by simp)) <| ha_nil) rfl) <| rS (PK rfl) <| RK hK34 ?_
 refine w_if rfl (fun hg55 => ?_) (fun hg55 => ?_)
 rotate_left 1
 · replace hg55 := DF hg55
   refine w_skip <| k_block <| KK hK15 <| w_region <| rS (MV rfl) <| rS (BI rfl (b_add ⟨by omega, by omega⟩)) <| rS (AG rfl) <| r_nil ?_
   have hb38 : (Value.int .i64 (((zz + 1) : Nat) : Int)) = (Value.int .i64 (((zz : Nat) : Int) + 1)) := by exact congrArg (Value.int .i64) (by omega)
   refine k_then (hJ11 ⟨((zz + 1), bestl, fa, fc, bo), ⟨by dsimp only; omega, by dsimp only; first | exact best_keep hl7_1 hg46 (by omega) hg51 | exact best_no hl7_1 (decide_eq_false hg55) | exact best_yes hl7_1 (fun hb => by first | exact absurd (hg46.symm.trans hb) Bool.false_ne_true | exact worse_asym (before_worse.1 hg51)) (decide_eq_true hg55), by dsimp only; omega⟩⟩ _ _ _ rfl (by first | omega | (simp; omega)) (Sub.cons rfl <| Sub.cons rfl <| Sub.cons rfl <| sub_val rfl hb38 <| Sub.nil _) (fun w hs => St.sel [2, 3, 4, 5, 6] rfl rfl hs))
 replace hg55 := DT hg55
 refine w_region <| rS (MV rfl) <| rS (AG rfl) <| rS (AG rfl) <| r_nil <| k_block <| KK hK15 <| w_region <| rS (MV rfl) <| rS (BI rfl (b_add ⟨by omega, by omega⟩)) ?_
 refine rS (AG rfl) <| r_nil ?_
 have hb37 : (Value.int .i64 (((zz + 1) : Nat) : Int)) = (Value.int .i64 (((zz : Nat) : Int) + 1)) := by exact congrArg (Value.int .i64) (by omega)
 refine k_then (hJ11 ⟨((zz + 1), (idxL d.Posts.length (bitS zz)), a32, c33, true), ⟨by dsimp only; omega, by dsimp only; first | exact best_keep hl7_1 hg46 (by omega) hg51 | exact best_no hl7_1 (decide_eq_false hg55) | exact best_yes hl7_1 (fun hb => by first | exact absurd (hg46.symm.trans hb) Bool.false_ne_true | exact worse_asym (before_worse.1 hg51)) (decide_eq_true hg55), by dsimp only; omega⟩⟩ _ _ _ rfl (by first | omega | (simp; omega)) (Sub.cons rfl <| Sub.cons rfl <| Sub.cons rfl <| sub_val rfl hb37 <| Sub.nil _) (fun w hs => St.sel [0, 3, 4, 5, 6] rfl rfl hs))
end
section
open Go.RowKit
set_option linter.unusedVariables false
set_option maxRecDepth 100000 in
set_option maxHeartbeats 4000000 in
theorem postGuards_c (d : GuardM) (kA : Option Addr) (kC : Nat) (pA : Option Addr) (pC : Nat) (nA : Option Addr) (nC : Nat) (l : List Int) (lA : Option Addr) (lC : Nat) (hraw : GuardRaw d) (hlm : l.length ≤ maxLen) :
    FnV Tryz.prog 3 [(Value.agg (GuardV.cells (GuardV.mk (TrackV.mk (Slc.mk kA d.Track.length kC)) (Slc.mk pA d.Posts.length pC) (Slc.mk nA d.Needs.length nC) d.Tower d.Radio)).toArray), (Value.slice lA l.length lC)] [(rd kA d.Track.length 9 (d.Track.map StretchV.cells)), (rd pA d.Posts.length 7 (d.Posts.map PostV.cells)), (rd nA d.Needs.length 3 (d.Needs.map NeedV.cells)), (rd lA l.length 1 (l.map iC))] (Value.bool true) := by
 simp only [maxLen] at hlm
 refine fnV_of go3 Tryz.func3 rfl rfl fun w0 Q hQ hN => ?_
 try dsimp only
 refine WS fun _ hK1 => BXA rfl fun b2 => rS (AG rfl) <| RK hK1 <| w_seq fun _ hK3 => WS fun _ hK4 => rS (LW 0 rfl tk32 rfl rfl) <| rS (CL (pgreat_c d kA kC pA pC nA nC hraw) (ha3 1 2 3 rfl rfl rfl rfl rfl rfl) rfl) <| rS (MV rfl) ?_
 refine r_bool (t := 25) rfl (fun hg25 => ?_) (fun hg25 => ?_)
 · replace hg25 := DT hg25
   refine rS (OX rfl) <| rS (OX rfl) <| rS (OX rfl) <| rS (PK rfl) <| RK hK4 <| w_if_true rfl <| WS fun _ hK5 => rS (AG rfl) <| RK hK5 <| w_ret ?_
   refine Q1 hQ rfl rfl rfl ?_
   first | rfl | exact congrArg Value.bool (decide_eq_true rfl)
 replace hg25 := DF hg25
 refine rS (MV rfl) <| rS (LN rfl ut33) <| rS (BI rfl b_gtr) <| rS (PK rfl) <| RK hK4 ?_
 refine w_if rfl (fun hg29 => ?_) (fun hg29 => ?_)
 · replace hg29 := DT hg29
   refine WS fun _ hK6 => rS (AG rfl) <| RK hK6 <| w_ret <| Q1 hQ rfl rfl rfl ?_
   first | rfl | exact congrArg Value.bool (decide_eq_true rfl)
 replace hg29 := DF hg29
 refine WK hK3 <| WS fun _ hK7 => ?_
 have hin := hraw.small hg25
 have hll : l.length ≤ 1000000 := by omega
 refine rS (LW 0 rfl tk32 rfl rfl) <| cX (ptwin_c d kA kC pA pC nA nC (by first | assumption | omega | (simp; done) | (simp; omega))) (ha3 1 2 3 rfl rfl rfl rfl rfl rfl) rfl fun y8 hy9 => ?_
 obtain ⟨a110, c111, a212, c213, a314, c315⟩ := y8
 try dsimp only
 refine r_bs0 rfl te33 rfl fun b16 => rS (MV rfl) <| r_blk_own (es := (List.map iC [])) (C' := [own (some ⟨b16, 0, none⟩) 0 3 1 (List.map iC []), _, _, _, _, _, _, _, _]) 0 rfl (by simp) rfl (by simp [maxLen]) rfl <| r_append (es2 := (List.map iC l)) (m' := l.length) 0 rfl rfl rfl ta33 rfl rfl (by simp) (has_at 8 rfl) (one_iC _) (by first | omega | (simp; omega)) (by first | (simp only [maxLen]; omega) | (simp [maxLen]; omega)) (by simp) (by simp) rfl fun a17 c18 => ?_
 try dsimp only
 refine AL rfl tz32 fun b19 => SW0 rfl ts32 rfl <| rS (AG rfl) <| RK hK7 <| WS fun _ hK20 => rS (LW 0 rfl tk32 rfl rfl) <| rS (MV rfl) <| cX (Lacks_c d a110 c111 a212 c213 a314 c315 l a17 c18 (by first | assumption | omega | (simp; done) | (simp; omega)) (by first | assumption | omega | (simp; done) | (simp; omega))) (ha_cons (has_own_n (n := d.Track.length) 2 rfl (by simp)) <| ha_cons (has_own_n (n := d.Posts.length) 3 rfl (by simp)) <| ha_cons (has_own_n (n := d.Needs.length) 4 rfl (by simp)) <| ha_cons (has_own_n (n := l.length) 1 rfl (by simp)) <| ha_nil) rfl fun y21 hy22 => ?_
 obtain ⟨a23, c24⟩ := y21
 try dsimp only
 refine rS (MV rfl) <| rS (EX rfl) <| rS (EX rfl) <| rS (AG rfl) <| rS (AG rfl) <| RK hK20 <| WS fun _ hK25 => rS (LW 6 rfl tk32 rfl rfl) <| rS (MV rfl) <| cX (rLacks_c d kA kC pA pC nA nC l lA lC (by first | assumption | omega | (simp; done) | (simp; omega)) (by first | assumption | omega | (simp; done) | (simp; omega))) (ha_at 7 rfl rfl <| ha_at 8 rfl rfl <| ha_at 9 rfl rfl <| ha_at 10 rfl rfl <| ha_nil) rfl fun y26 hy27 => ?_
 obtain ⟨a28, c29⟩ := y26
 try dsimp only
 refine rS (MV rfl) <| rS (EX rfl) <| rS (EX rfl) <| rS (AG rfl) <| rS (AG rfl) <| RK hK25 <| WS fun _ hK30 => rS (LW 2 rfl tk32 rfl rfl) <| cX (Weak_c d a110 c111 a212 c213 a314 c315 (by first | assumption | omega | (simp; done) | (simp; omega))) (ha_cons (has_own_n (n := d.Track.length) 4 rfl (by simp)) <| ha_cons (has_own_n (n := d.Posts.length) 5 rfl (by simp)) <| ha_cons (has_own_n (n := d.Needs.length) 6 rfl (by simp)) <| ha_nil) rfl fun y31 hy32 => ?_
 obtain ⟨a33, c34⟩ := y31
 try dsimp only
 refine rS (MV rfl) <| rS (EX rfl) <| rS (EX rfl) <| rS (AG rfl) <| rS (AG rfl) <| RK hK30 <| WS fun _ hK35 => rS (LW 8 rfl tk32 rfl rfl) <| cX (rWeak_c d kA kC pA pC nA nC (by first | assumption | omega | (simp; done) | (simp; omega))) (ha3 9 10 11 rfl rfl rfl rfl rfl rfl) rfl fun y36 hy37 => ?_
 obtain ⟨a38, c39⟩ := y36
 try dsimp only
 refine rS (MV rfl) <| rS (EX rfl) <| rS (EX rfl) <| rS (AG rfl) <| rS (AG rfl) <| RK hK35 <| WS fun _ hK40 => rS (LW 4 rfl tk32 rfl rfl) <| cX (Fewest_c d a110 c111 a212 c213 a314 c315 (by first | assumption | omega | (simp; done) | (simp; omega))) (ha_cons (has_own_n (n := d.Track.length) 6 rfl (by simp)) <| ha_cons (has_own_n (n := d.Posts.length) 7 rfl (by simp)) <| ha_cons (has_own_n (n := d.Needs.length) 8 rfl (by simp)) <| ha_nil) rfl fun y41 hy42 => ?_
 obtain ⟨a43, c44⟩ := y41
 try dsimp only
 refine rS (MV rfl) <| rS (EX rfl) <| rS (EX rfl) <| rS (AG rfl) <| rS (AG rfl) <| RK hK40 <| WS fun _ hK45 => rS (LW 10 rfl tk32 rfl rfl) <| cX (rFewest_c d kA kC pA pC nA nC (by first | assumption | omega | (simp; done) | (simp; omega))) (ha3 11 12 13 rfl rfl rfl rfl rfl rfl) rfl fun y46 hy47 => ?_
 obtain ⟨a48, c49⟩ := y46
 try dsimp only
 refine rS (MV rfl) <| rS (EX rfl) <| rS (EX rfl) <| rS (AG rfl) <| rS (AG rfl) <| RK hK45 <| WS fun _ hK50 => rS (LW 6 rfl tk32 rfl rfl) <| cX (Spare_c d a110 c111 a212 c213 a314 c315 (by first | assumption | omega | (simp; done) | (simp; omega))) (ha_cons (has_own_n (n := d.Track.length) 8 rfl (by simp)) <| ha_cons (has_own_n (n := d.Posts.length) 9 rfl (by simp)) <| ha_cons (has_own_n (n := d.Needs.length) 10 rfl (by simp)) <| ha_nil) rfl fun y51 hy52 => ?_
 obtain ⟨a53, c54⟩ := y51
 try dsimp only
 refine rS (MV rfl) <| rS (EX rfl) <| rS (EX rfl) <| rS (AG rfl) <| rS (AG rfl) <| RK hK50 <| WS fun _ hK55 => rS (LW 12 rfl tk32 rfl rfl) <| cX (rSpare_c d kA kC pA pC nA nC (by first | assumption | omega | (simp; done) | (simp; omega))) (ha3 13 14 15 rfl rfl rfl rfl rfl rfl) rfl fun y56 hy57 => ?_
 obtain ⟨a58, c59⟩ := y56
 try dsimp only
 refine rS (MV rfl) <| rS (EX rfl) <| rS (EX rfl) <| rS (AG rfl) <| rS (AG rfl) <| RK hK55 <| WS fun _ hK60 => rS (MV rfl) <| rS (MV rfl) <| rS (CL (sameints_c (lacksV d l) a23 c24 (lacksV d l) a28 c29 (by exact Nat.le_trans lacksV_len hin.nds) (by exact Nat.le_trans lacksV_len hin.nds)) (ha_cons (has_own_n (n := (lacksV d l).length) 7 rfl (by simp)) <| ha_cons (has_own_n (n := (lacksV d l).length) 6 rfl (by simp)) <| ha_nil) rfl) ?_
 refine rS (MV rfl) ?_
 refine r_bool (t := 80) rfl (fun h61 => ?_) (fun h61 => ?_)
 rotate_left 1
 · replace h61 := DF h61
   exact absurd rfl h61
 replace h61 := DT h61
 refine rS (MV rfl) <| rS (MV rfl) <| rS (BI rfl b_eql) <| rS (PK rfl) <| rS (MV rfl) ?_
 refine r_bool (t := 85) rfl (fun h62 => ?_) (fun h62 => ?_)
 rotate_left 1
 · replace h62 := DF h62
   exact absurd rfl h62
 replace h62 := DT h62
 refine rS (MV rfl) <| rS (MV rfl) <| rS (CL (sameints_c (weakV d) a33 c34 (weakV d) a38 c39 (by exact Nat.le_trans weakV_len hin.pst) (by exact Nat.le_trans weakV_len hin.pst)) (ha_cons (has_own_n (n := (weakV d).length) 5 rfl (by simp)) <| ha_cons (has_own_n (n := (weakV d).length) 4 rfl (by simp)) <| ha_nil) rfl) <| rS (PK rfl) <| rS (MV rfl) ?_
 refine r_bool (t := 90) rfl (fun h63 => ?_) (fun h63 => ?_)
 rotate_left 1
 · replace h63 := DF h63
   exact absurd rfl h63
 replace h63 := DT h63
 refine rS (MV rfl) <| rS (MV rfl) <| rS (BI rfl b_eql) <| rS (PK rfl) <| rS (MV rfl) ?_
 refine r_bool (t := 95) rfl (fun h64 => ?_) (fun h64 => ?_)
 rotate_left 1
 · replace h64 := DF h64
   exact absurd rfl h64
 replace h64 := DT h64
 refine rS (MV rfl) <| rS (MV rfl) <| rS (CL (sameints_c (fewV d) a43 c44 (fewV d) a48 c49 (by exact Nat.le_trans fewV_len hin.pst) (by exact Nat.le_trans fewV_len hin.pst)) (ha_cons (has_own_n (n := (fewV d).length) 3 rfl (by simp)) <| ha_cons (has_own_n (n := (fewV d).length) 2 rfl (by simp)) <| ha_nil) rfl) <| rS (PK rfl) <| rS (MV rfl) ?_
 refine r_bool (t := 100) rfl (fun h65 => ?_) (fun h65 => ?_)
 rotate_left 1
 · replace h65 := DF h65
   exact absurd rfl h65
 replace h65 := DT h65
 refine rS (MV rfl) <| rS (MV rfl) <| rS (BI rfl b_eql) <| rS (PK rfl) <| rS (MV rfl) ?_
 refine r_bool (t := 105) rfl (fun h66 => ?_) (fun h66 => ?_)
 rotate_left 1
 · replace h66 := DF h66
   exact absurd rfl h66
 replace h66 := DT h66
 refine rS (MV rfl) <| rS (MV rfl) <| rS (CL (sameints_c (spareV d) a53 c54 (spareV d) a58 c59 (by exact Nat.le_trans spareV_len hin.pst) (by exact Nat.le_trans spareV_len hin.pst)) (ha_cons (has_own_n (n := (spareV d).length) 1 rfl (by simp)) <| ha_cons (has_own_n (n := (spareV d).length) 0 rfl (by simp)) <| ha_nil) rfl) <| rS (PK rfl) <| rS (MV rfl) ?_
 refine r_bool (t := 110) rfl (fun h67 => ?_) (fun h67 => ?_)
 rotate_left 1
 · replace h67 := DF h67
   exact absurd rfl h67
 replace h67 := DT h67
 refine rS (MV rfl) <| rS (MV rfl) <| rS (BI rfl b_eql) <| rS (PK rfl) <| rS (MV rfl) ?_
 refine r_bool (t := 115) rfl (fun h68 => ?_) (fun h68 => ?_)
 rotate_left 1
 · replace h68 := DF h68
   exact absurd rfl h68
 replace h68 := DT h68
 refine rS (LW 8 rfl tk32 rfl rfl) <| rS (LW 13 rfl tk32 rfl rfl) <| rS (CL (rsame_c d a110 c111 a212 c213 a314 c315 kA kC pA pC nA nC (by first | assumption | omega | (simp; done) | (simp; omega))) (ha_cons (has_own_n (n := d.Track.length) 10 rfl (by simp)) <| ha_cons (has_own_n (n := d.Posts.length) 11 rfl (by simp)) <| ha_cons (has_own_n (n := d.Needs.length) 12 rfl (by simp)) <| ha_at 14 rfl rfl <| ha_at 15 rfl rfl <| ha_at 16 rfl rfl <| ha_nil) rfl) <| rS (PK rfl) <| rS (MV rfl) <| rS (MV rfl) <| rS (MV rfl) <| rS (CL (sameints_c l a17 c18 l lA lC (by omega) (by omega)) (ha_cons (has_own_n (n := l.length) 9 rfl (by simp)) <| ha_at 17 rfl rfl <| ha_nil) rfl) <| rS (PK rfl) <| rS (AG rfl) ?_
 refine RK hK60 <| w_ret <| Q1 hQ rfl rfl rfl ?_
 first | rfl | exact congrArg Value.bool (decide_eq_true rfl)
end
section
open Go.RowKit
set_option linter.unusedVariables false
def ReadsAs {α : Type} (cells : α → List Value) (sz : Nat) (R : World → α → Prop) (w : World) (s : Slc) : Prop := ∃ l : List α, s.n = l.length ∧ (rd s.a l.length sz (l.map cells)).holds w ∧ (∀ x ∈ l, R w x) ∧ l.length ≤ maxLen ∧ s.n ≤ s.c
theorem open_guard {w : World} {s : GuardV} {R1 : World → StretchV → Prop} {R2 : World → PostV → Prop} {R3 : World → NeedV → Prop} (h1 : ReadsAs StretchV.cells 9 R1 w s.Track.Stretches) (hs : ∀ x, R1 w x → 0 ≤ x.Side ∧ x.Side ≤ 255) (h2 : ReadsAs PostV.cells 7 R2 w s.Posts) (hp : ∀ x, R2 w x → 0 ≤ x.Kind ∧ x.Kind ≤ 255) (h3 : ReadsAs NeedV.cells 3 R3 w s.Needs) (hn : ∀ x, R3 w x → 0 ≤ x.Kind ∧ x.Kind ≤ 255) :
    ∃ (d : GuardM) (kA : Option Addr) (kC : Nat) (pA : Option Addr) (pC : Nat) (nA : Option Addr) (nC : Nat), s = GuardV.mk (TrackV.mk (Slc.mk kA d.Track.length kC)) (Slc.mk pA d.Posts.length pC) (Slc.mk nA d.Needs.length nC) d.Tower d.Radio ∧ GuardRaw d ∧
      ((rd kA d.Track.length 9 (d.Track.map StretchV.cells)).holds w ∧ (rd pA d.Posts.length 7 (d.Posts.map PostV.cells)).holds w ∧ (rd nA d.Needs.length 3 (d.Needs.map NeedV.cells)).holds w) ∧ d.Tower = s.Tower ∧ d.Radio = s.Radio := by
  obtain ⟨⟨⟨ka, kn, kc⟩⟩, ⟨pa, pn, pc⟩, ⟨na, nn, nc⟩, tw, ra⟩ := s
  obtain ⟨ts, t1, t2, t3, t4, t5⟩ := h1
  obtain ⟨ps, p1, p2, p3, p4, p5⟩ := h2
  obtain ⟨ns, n1, n2, n3, n4, n5⟩ := h3
  simp only at t1 p1 n1
  subst t1 p1 n1
  exact ⟨⟨ts, ps, ns, tw, ra⟩, ka, kc, pa, pc, na, nc, rfl, ⟨t4, fun x hx => hs x (t3 x hx), p4, fun x hx => hp x (p3 x hx), n4, fun x hx => hn x (n3 x hx)⟩, ⟨t2, p2, n2⟩, rfl, rfl⟩
end
section
open Go.ChangeShapes Go.WideShapes Go.ChangeAt Go.RowKit
set_option linter.unusedVariables false
theorem cz32 : Tryz.prog.cellsOf 32 = 7 := by kernel_rfl
theorem cz24 : Tryz.prog.cellsOf 24 = 1 := by kernel_rfl
theorem cz22 : Tryz.prog.cellsOf 22 = 1 := by kernel_rfl
theorem cz83 : Tryz.prog.cellsOf 83 = 9 := by kernel_rfl
theorem cz3 : Tryz.prog.cellsOf 3 = 1 := by kernel_rfl
def Is3 (w : World) (n : Int) : Prop := In64 n
theorem op3 : OpR Tryz.prog 3 Int iC Is3 := op_i64 ut3
theorem cz28 : Tryz.prog.cellsOf 28 = 2 := by kernel_rfl
structure Is28 (w : World) (s : SpanV) : Prop where
  Lo : Is3 w s.Lo
  Hi : Is3 w s.Hi
theorem fx28 : fL Tryz.prog 28 = some [(3, 0), (3, 1)] := by kernel_rfl
theorem op28 : OpR Tryz.prog 28 SpanV SpanV.cells Is28 := fun {H} enc w base sp held fuel cs x h => by
  obtain ⟨hl, hp⟩ := op_parts fx28 h
  obtain ⟨n0, y0, h0⟩ := hp 0 3 0 rfl
  obtain ⟨s0, c0, r0⟩ := op3 _ _ _ _ _ _ _ _ h0
  obtain ⟨n1, y1, h1⟩ := hp 1 3 1 rfl
  obtain ⟨s1, c1, r1⟩ := op3 _ _ _ _ _ _ _ _ h1
  refine ⟨⟨s0, s1⟩, ?_, ⟨r0, r1⟩⟩
  have e1 := parts_last (hl.trans cz28) (by rw [cz3]) c1
  have e0 := parts_cons c0 (m := 1) (by rw [cz3]) e1
  exact e0
theorem cz5 : Tryz.prog.cellsOf 5 = 1 := by kernel_rfl
def Is5 (w : World) (n : Int) : Prop := 0 ≤ n ∧ n ≤ 255
theorem op5 : OpR Tryz.prog 5 Int iC_u8 Is5 := op_u8 ut5
structure Is83 (w : World) (s : StretchV) : Prop where
  Id : Is3 w s.Id
  Long : Is28 w s.Long
  Fall : Is28 w s.Fall
  Radius : Is28 w s.Radius
  Side : Is5 w s.Side
  Wall : Is3 w s.Wall
theorem fx83 : fL Tryz.prog 83 = some [(3, 0), (28, 1), (28, 3), (28, 5), (5, 7), (3, 8)] := by kernel_rfl
theorem op83 : OpR Tryz.prog 83 StretchV StretchV.cells Is83 := fun {H} enc w base sp held fuel cs x h => by
  obtain ⟨hl, hp⟩ := op_parts fx83 h
  obtain ⟨n0, y0, h0⟩ := hp 0 3 0 rfl
  obtain ⟨s0, c0, r0⟩ := op3 _ _ _ _ _ _ _ _ h0
  obtain ⟨n1, y1, h1⟩ := hp 1 28 1 rfl
  obtain ⟨s1, c1, r1⟩ := op28 _ _ _ _ _ _ _ _ h1
  obtain ⟨n2, y2, h2⟩ := hp 2 28 3 rfl
  obtain ⟨s2, c2, r2⟩ := op28 _ _ _ _ _ _ _ _ h2
  obtain ⟨n3, y3, h3⟩ := hp 3 28 5 rfl
  obtain ⟨s3, c3, r3⟩ := op28 _ _ _ _ _ _ _ _ h3
  obtain ⟨n4, y4, h4⟩ := hp 4 5 7 rfl
  obtain ⟨s4, c4, r4⟩ := op5 _ _ _ _ _ _ _ _ h4
  obtain ⟨n5, y5, h5⟩ := hp 5 3 8 rfl
  obtain ⟨s5, c5, r5⟩ := op3 _ _ _ _ _ _ _ _ h5
  refine ⟨⟨s0, s1, s2, s3, s4, s5⟩, ?_, ⟨r0, r1, r2, r3, r4, r5⟩⟩
  have e5 := parts_last (hl.trans cz83) (by rw [cz3]) c5
  have e4 := parts_cons c4 (m := 8) (by rw [cz5]) e5
  have e3 := parts_cons c3 (m := 7) (by rw [cz28]) e4
  have e2 := parts_cons c2 (m := 5) (by rw [cz28]) e3
  have e1 := parts_cons c1 (m := 3) (by rw [cz28]) e2
  have e0 := parts_cons c0 (m := 1) (by rw [cz3]) e1
  exact e0
def Is22 (w : World) (s : Slc) : Prop := ∃ l : List StretchV, s.n = l.length ∧ (rd s.a l.length 9 (l.map StretchV.cells)).holds w ∧ (∀ x ∈ l, Is83 w x) ∧ l.length ≤ maxLen ∧ s.n ≤ s.c
theorem op22 : OpR Tryz.prog 22 Slc (fun s => [Value.slice s.a s.n s.c]) Is22 := op_slice ut22 cz83 op83
structure Is24 (w : World) (s : TrackV) : Prop where
  Stretches : Is22 w s.Stretches
theorem fx24 : fL Tryz.prog 24 = some [(22, 0)] := by kernel_rfl
theorem op24 : OpR Tryz.prog 24 TrackV TrackV.cells Is24 := fun {H} enc w base sp held fuel cs x h => by
  obtain ⟨hl, hp⟩ := op_parts fx24 h
  obtain ⟨n0, y0, h0⟩ := hp 0 22 0 rfl
  obtain ⟨s0, c0, r0⟩ := op22 _ _ _ _ _ _ _ _ h0
  refine ⟨⟨s0⟩, ?_, ⟨r0⟩⟩
  have e0 := parts_last (hl.trans cz24) (by rw [cz22]) c0
  exact e0
theorem cz25 : Tryz.prog.cellsOf 25 = 1 := by kernel_rfl
theorem cz63 : Tryz.prog.cellsOf 63 = 7 := by kernel_rfl
theorem cz30 : Tryz.prog.cellsOf 30 = 3 := by kernel_rfl
structure Is30 (w : World) (s : SpotV) : Prop where
  Stretch : Is3 w s.Stretch
  Off : Is28 w s.Off
theorem fx30 : fL Tryz.prog 30 = some [(3, 0), (28, 1)] := by kernel_rfl
theorem op30 : OpR Tryz.prog 30 SpotV SpotV.cells Is30 := fun {H} enc w base sp held fuel cs x h => by
  obtain ⟨hl, hp⟩ := op_parts fx30 h
  obtain ⟨n0, y0, h0⟩ := hp 0 3 0 rfl
  obtain ⟨s0, c0, r0⟩ := op3 _ _ _ _ _ _ _ _ h0
  obtain ⟨n1, y1, h1⟩ := hp 1 28 1 rfl
  obtain ⟨s1, c1, r1⟩ := op28 _ _ _ _ _ _ _ _ h1
  refine ⟨⟨s0, s1⟩, ?_, ⟨r0, r1⟩⟩
  have e1 := parts_last (hl.trans cz30) (by rw [cz28]) c1
  have e0 := parts_cons c0 (m := 1) (by rw [cz3]) e1
  exact e0
structure Is63 (w : World) (s : PostV) : Prop where
  Id : Is3 w s.Id
  Kind : Is5 w s.Kind
  Spot : Is30 w s.Spot
  Delay : Is3 w s.Delay
  Pace : Is3 w s.Pace
theorem fx63 : fL Tryz.prog 63 = some [(3, 0), (5, 1), (30, 2), (3, 5), (3, 6)] := by kernel_rfl
theorem op63 : OpR Tryz.prog 63 PostV PostV.cells Is63 := fun {H} enc w base sp held fuel cs x h => by
  obtain ⟨hl, hp⟩ := op_parts fx63 h
  obtain ⟨n0, y0, h0⟩ := hp 0 3 0 rfl
  obtain ⟨s0, c0, r0⟩ := op3 _ _ _ _ _ _ _ _ h0
  obtain ⟨n1, y1, h1⟩ := hp 1 5 1 rfl
  obtain ⟨s1, c1, r1⟩ := op5 _ _ _ _ _ _ _ _ h1
  obtain ⟨n2, y2, h2⟩ := hp 2 30 2 rfl
  obtain ⟨s2, c2, r2⟩ := op30 _ _ _ _ _ _ _ _ h2
  obtain ⟨n3, y3, h3⟩ := hp 3 3 5 rfl
  obtain ⟨s3, c3, r3⟩ := op3 _ _ _ _ _ _ _ _ h3
  obtain ⟨n4, y4, h4⟩ := hp 4 3 6 rfl
  obtain ⟨s4, c4, r4⟩ := op3 _ _ _ _ _ _ _ _ h4
  refine ⟨⟨s0, s1, s2, s3, s4⟩, ?_, ⟨r0, r1, r2, r3, r4⟩⟩
  have e4 := parts_last (hl.trans cz63) (by rw [cz3]) c4
  have e3 := parts_cons c3 (m := 6) (by rw [cz3]) e4
  have e2 := parts_cons c2 (m := 5) (by rw [cz30]) e3
  have e1 := parts_cons c1 (m := 2) (by rw [cz5]) e2
  have e0 := parts_cons c0 (m := 1) (by rw [cz3]) e1
  exact e0
def Is25 (w : World) (s : Slc) : Prop := ∃ l : List PostV, s.n = l.length ∧ (rd s.a l.length 7 (l.map PostV.cells)).holds w ∧ (∀ x ∈ l, Is63 w x) ∧ l.length ≤ maxLen ∧ s.n ≤ s.c
theorem op25 : OpR Tryz.prog 25 Slc (fun s => [Value.slice s.a s.n s.c]) Is25 := op_slice ut25 cz63 op63
theorem cz26 : Tryz.prog.cellsOf 26 = 1 := by kernel_rfl
theorem cz69 : Tryz.prog.cellsOf 69 = 3 := by kernel_rfl
structure Is69 (w : World) (s : NeedV) : Prop where
  Stretch : Is3 w s.Stretch
  Kind : Is5 w s.Kind
  Seconds : Is3 w s.Seconds
theorem fx69 : fL Tryz.prog 69 = some [(3, 0), (5, 1), (3, 2)] := by kernel_rfl
theorem op69 : OpR Tryz.prog 69 NeedV NeedV.cells Is69 := fun {H} enc w base sp held fuel cs x h => by
  obtain ⟨hl, hp⟩ := op_parts fx69 h
  obtain ⟨n0, y0, h0⟩ := hp 0 3 0 rfl
  obtain ⟨s0, c0, r0⟩ := op3 _ _ _ _ _ _ _ _ h0
  obtain ⟨n1, y1, h1⟩ := hp 1 5 1 rfl
  obtain ⟨s1, c1, r1⟩ := op5 _ _ _ _ _ _ _ _ h1
  obtain ⟨n2, y2, h2⟩ := hp 2 3 2 rfl
  obtain ⟨s2, c2, r2⟩ := op3 _ _ _ _ _ _ _ _ h2
  refine ⟨⟨s0, s1, s2⟩, ?_, ⟨r0, r1, r2⟩⟩
  have e2 := parts_last (hl.trans cz69) (by rw [cz3]) c2
  have e1 := parts_cons c1 (m := 2) (by rw [cz5]) e2
  have e0 := parts_cons c0 (m := 1) (by rw [cz3]) e1
  exact e0
def Is26 (w : World) (s : Slc) : Prop := ∃ l : List NeedV, s.n = l.length ∧ (rd s.a l.length 3 (l.map NeedV.cells)).holds w ∧ (∀ x ∈ l, Is69 w x) ∧ l.length ≤ maxLen ∧ s.n ≤ s.c
theorem op26 : OpR Tryz.prog 26 Slc (fun s => [Value.slice s.a s.n s.c]) Is26 := op_slice ut26 cz69 op69
structure Is32 (w : World) (s : GuardV) : Prop where
  Track : Is24 w s.Track
  Posts : Is25 w s.Posts
  Needs : Is26 w s.Needs
  Tower : Is30 w s.Tower
  Radio : Is3 w s.Radio
theorem fx32 : fL Tryz.prog 32 = some [(24, 0), (25, 1), (26, 2), (30, 3), (3, 6)] := by kernel_rfl
theorem op32 : OpR Tryz.prog 32 GuardV GuardV.cells Is32 := fun {H} enc w base sp held fuel cs x h => by
  obtain ⟨hl, hp⟩ := op_parts fx32 h
  obtain ⟨n0, y0, h0⟩ := hp 0 24 0 rfl
  obtain ⟨s0, c0, r0⟩ := op24 _ _ _ _ _ _ _ _ h0
  obtain ⟨n1, y1, h1⟩ := hp 1 25 1 rfl
  obtain ⟨s1, c1, r1⟩ := op25 _ _ _ _ _ _ _ _ h1
  obtain ⟨n2, y2, h2⟩ := hp 2 26 2 rfl
  obtain ⟨s2, c2, r2⟩ := op26 _ _ _ _ _ _ _ _ h2
  obtain ⟨n3, y3, h3⟩ := hp 3 30 3 rfl
  obtain ⟨s3, c3, r3⟩ := op30 _ _ _ _ _ _ _ _ h3
  obtain ⟨n4, y4, h4⟩ := hp 4 3 6 rfl
  obtain ⟨s4, c4, r4⟩ := op3 _ _ _ _ _ _ _ _ h4
  refine ⟨⟨s0, s1, s2, s3, s4⟩, ?_, ⟨r0, r1, r2, r3, r4⟩⟩
  have e4 := parts_last (hl.trans cz32) (by rw [cz3]) c4
  have e3 := parts_cons c3 (m := 6) (by rw [cz30]) e4
  have e2 := parts_cons c2 (m := 3) (by rw [cz26]) e3
  have e1 := parts_cons c1 (m := 2) (by rw [cz25]) e2
  have e0 := parts_cons c0 (m := 1) (by rw [cz24]) e1
  exact e0
def Is33 (w : World) (s : Slc) : Prop := ∃ l : List Int, s.n = l.length ∧ (rd s.a l.length 1 (l.map iC)).holds w ∧ (∀ x ∈ l, Is3 w x) ∧ l.length ≤ maxLen ∧ s.n ≤ s.c
theorem op33 : OpR Tryz.prog 33 Slc (fun s => [Value.slice s.a s.n s.c]) Is33 := op_slice ut33 cz3 op3
theorem own_postGuards : ownKnob Tryz.prog.godebug = none := by kernel_rfl
theorem laid_postGuards : laidOutB Tryz.prog = true := by kernel_rfl
set_option maxRecDepth 100000 in
theorem postGuards_lifted (os : Os) (started : os.Started) (H : Type) (enc : TypeId × Value → H) :
    ReturnsInHanded {} Tryz.checked os 3 .any (Rows.postGuardsSpec.pre6 enc Tryz.prog Tryz.f3 Rows.postGuardsRow.domain false) (Rows.postGuardsSpec.post enc Tryz.prog Tryz.f3 false true false false) := by
  refine returnsInHanded_of_change (C := Tryz.checked) own_postGuards started (by kernel_rfl) Tryz.func3
    (ChangeSpec.witness6 (enc := enc) (C := Tryz.checked) false ⟨#[], #[.agg #[(Value.slice none 0 0), (Value.slice none 0 0), (Value.slice none 0 0), (Value.int .i64 0), (Value.int .i64 0), (Value.int .i64 0), (Value.int .i64 0)], Value.slice none 0 0], []⟩ 8 (by kernel_rfl) (by kernel_rfl) (by kernel_rfl) (by kernel_rfl)) ?_
  intro W base args ds gs before hval0 hW hcnd _
  have hval : ∀ (j : Nat) t v, Tryz.f3.params[j]? = some t → args[j]? = some v → Value.okWide Tryz.prog W .any base t v := hval0
  have hW' := hW
  obtain ⟨p, q, hA0, hV, rfl, hfz, hnd⟩ := hW
  have hA : DataW.TrodAll enc Tryz.prog W 0 (fun _ => true) true Tryz.f3.params.toList args.toList ds p := hA0
  have hA1 := hA
  rw [Tryz.params3] at hA hval
  obtain ⟨v0, vs0, d0, ds0, p0, q0, hargs, rfl, rfl, h0, r0⟩ := trodAll_cons hA
  obtain ⟨v1, vs1, d1, ds1, p1, q1, rfl, rfl, rfl, h1, r1⟩ := trodAll_cons r0
  obtain ⟨rfl, rfl, rfl⟩ := trodAll_nil r1
  obtain rfl : args = #[v0, v1] := by cases args; simp_all
  obtain ⟨rfl, rfl⟩ := trodVars_none hV
  obtain ⟨s0, rfl, R0⟩ := arg_struct fx32 op32 (hval 0 32 v0 rfl rfl) h0
  obtain ⟨s1, rfl, R1⟩ := arg_slice op33 ut33 (hval 1 33 v1 rfl rfl) h1
  simp only [List.append_nil] at hW' hA1
  obtain ⟨d, kA, kC, pA, pC, nA, nC, rfl, hraw, hg3, _⟩ := open_guard (R1 := Is83) (R2 := Is63) (R3 := Is69) R0.Track.Stretches (fun x hx => hx.Side) R0.Posts (fun x hx => hx.Kind) R0.Needs (fun x hx => hx.Kind)
  obtain ⟨lA, ln, lC⟩ := s1
  obtain ⟨bl, hnb, hrdb, hallb, hmaxb⟩ := R1
  simp only at hnb hrdb
  subst hnb
  have hrun := (postGuards_c d kA kC pA pC nA nC bl lA lC hraw hmaxb.1).run W (by intro A hA; simp only [List.mem_cons, List.not_mem_nil, or_false] at hA; rcases hA with rfl | rfl | rfl | rfl; exact hg3.1; exact hg3.2.1; exact hg3.2.2; exact hrdb)
  refine (hrun).mono fun e W' ⟨he, hk⟩ => ?_
  subst he
  exact ⟨_, rfl, law_post laid_postGuards hW' hA1 rfl rfl (by kernel_rfl) hk.below (by kernel_rfl) ut4⟩
/-- the statement -/
theorem postGuards_said : Rows.PostGuardsSaid :=
  OpenClaim.holds_of_wide 3 Tryz.f3 rfl rfl rfl rfl rfl rfl rfl ⟨rfl, rfl, rfl, rfl, rfl⟩ rfl rfl rfl rfl rfl (by kernel_rfl) Tryz.func3 (by kernel_rfl)
    (of_decide_eq_true (by kernel_rfl)) (by unfold Func.isWrapper; first | (rw [if_pos (by decide +kernel)]; kernel_rfl) | (rw [if_neg (by decide +kernel)]; exact ⟨rfl, rfl⟩))
    (fun os started H enc _ => postGuards_lifted os started H enc)
#print axioms postGuards_said
end
end Go.Proofs.YtlncplfcbmcjgaaGreat
