/-
  The statement postMore_said, part 5 of 5: X10, GuardOpen, More0.
  Conditions: none.
-/
import Derived.Test.YtlncplfcbmcjgaaMr1
import Derived.Test.YtlncplfcbmcjgaaMr2
import Derived.Test.YtlncplfcbmcjgaaMr3
import Derived.Test.YtlncplfcbmcjgaaMr4
import Derived.Test.YtlncplfcbmcjgaaRows
import Derived.Test.YtlncplfcbmcjgaaProg
import Derived.KernelRfl
namespace Go.Proofs.Ytlncplfcbmcjgaa
section
open Go.RowKit
set_option linter.unusedVariables false
set_option maxRecDepth 100000 in
set_option maxHeartbeats 4000000 in
theorem postMore_c (d : GuardM) (kA : Option Addr) (kC : Nat) (pA : Option Addr) (pC : Nat) (nA : Option Addr) (nC : Nat) (y : PostV) (wh : Int) (by_ : Int) (bn : Nat) (hraw : GuardRaw d) (hbn : bn ≤ 255) (hy : 0 ≤ y.Kind ∧ y.Kind ≤ 255) (hwh : 0 ≤ wh ∧ wh ≤ 255) (hby : 0 ≤ by_ ∧ by_ ≤ 65535) :
    FnV Try.prog 11 [(Value.agg (GuardV.cells (GuardV.mk (TrackV.mk (Slc.mk kA d.Track.length kC)) (Slc.mk pA d.Posts.length pC) (Slc.mk nA d.Needs.length nC) d.Tower d.Radio)).toArray), (Value.agg (PostV.cells y).toArray), (Value.int .u8 wh), (Value.int .u16 by_), (Value.int .u8 ((bn : Nat) : Int))] [(rd kA d.Track.length 9 (d.Track.map StretchV.cells)), (rd pA d.Posts.length 7 (d.Posts.map PostV.cells)), (rd nA d.Needs.length 3 (d.Needs.map NeedV.cells))] (Value.bool true) := by
 refine fnV_of go11 Try.func11 rfl rfl fun w0 Q hQ hN => ?_
 try dsimp only
 refine WS fun _ hK1 => BXA rfl fun b2 => BXA rfl fun b3 => rS (AG rfl) <| RK hK1 <| WS fun _ hK4 => rS (CL alive_c (ha_nil) rfl) <| rS (AG rfl) <| RK hK4 <| w_seq fun _ hK5 => ?_
 refine WS fun _ hK6 => rS (LW 1 rfl tk32 rfl rfl) <| rS (CL (ready_c d kA kC pA pC nA nC (by exact hraw)) (ha3 2 3 4 rfl rfl rfl rfl rfl rfl) rfl) <| rS (NT rfl) <| rS (MV rfl) ?_
 refine r_bool (t := 48) rfl (fun hg48 => ?_) (fun hg48 => ?_)
 · replace hg48 := XT hg48
   refine rS (OX rfl) <| rS (OX rfl) <| rS (PK rfl) <| RK hK6 <| w_if_true rfl <| WS fun _ hK7 => rS (MV rfl) <| rS (AG rfl) <| RK hK7 <| w_ret ?_
   exact Q1 hQ rfl rfl rfl rfl
 replace hg48 := XF hg48
 refine rS (MV rfl) <| rS (NT rfl) <| rS (PK rfl) <| RK hK6 <| w_if_false rfl <| WK hK5 <| WS fun _ hK8 => rS (AG rfl) <| RK hK8 <| w_seq fun _ hK9 => ?_
 refine WS fun _ hK10 => ?_
 have hin := hraw.small hg48.1
 have hge := hg48.2
 obtain ⟨htr, hok⟩ := guardE_zero hge
 have hn8 := hok.len
 have htl := trackOk_le htr
 refine rS (FA 1 rfl fo32_1 rfl) <| rS (L1 (Value.slice pA d.Posts.length pC) 1 rfl tk25 rfl rfl) <| rS (LN rfl ut25) <| rS (MV rfl) <| RK hK10 <| w_block <| w_own_nil 3 1 ?_
 have hinit : (0 ≤ d.Posts.length) := by exact Nat.zero_le _
 refine w_loop (ι := { z : Nat × (Option Addr) × Nat // (z.1 ≤ d.Posts.length) }) (fun z => [(1, (Value.agg (PostV.cells y).toArray)), (2, (Value.int .u8 wh)), (3, (Value.int .u16 by_)), (4, (Value.int .u8 ((bn : Nat) : Int))), (5, (Value.pointer (some ⟨b2, 0, none⟩))), (6, (Value.pointer (some ⟨b3, 0, none⟩))), (11, (Value.bool true)), (12, (Value.slice z.1.2.1 ((idxL z.1.1 (bitS bn)).length) z.1.2.2)), (54, (Value.slice pA d.Posts.length pC)), (55, (Value.int .i64 ((d.Posts.length : Nat) : Int))), (56, (Value.int .i64 ((z.1.1 : Nat) : Int)))]) (fun z => [(own z.1.2.1 z.1.2.2 3 1 ((idxL z.1.1 (bitS bn)).map iC)), (blk b3 62 (PostV.cells y)), (blk b2 32 (GuardV.cells (GuardV.mk (TrackV.mk (Slc.mk kA d.Track.length kC)) (Slc.mk pA d.Posts.length pC) (Slc.mk nA d.Needs.length nC) d.Tower d.Radio))), (rd kA d.Track.length 9 (d.Track.map StretchV.cells)).ro, (rd pA d.Posts.length 7 (d.Posts.map PostV.cells)).ro, (rd nA d.Needs.length 3 (d.Needs.map NeedV.cells)).ro]) (fun z => d.Posts.length - z.1.1) ⟨(0, none, 0), hinit⟩ (Sub.cons rfl <| Sub.cons rfl <| Sub.cons rfl <| Sub.cons rfl <| Sub.cons rfl <| Sub.cons rfl <| Sub.cons rfl <| Sub.cons rfl <| Sub.cons rfl <| Sub.cons rfl <| Sub.cons rfl <| Sub.nil _) (fun w hs => St.sel [0, 1, 2, 3, 4, 5] rfl rfl hs) ?_
 clear hinit
 rintro ⟨⟨m, la, lc⟩, hl6_0⟩ J11 hJ11
 try dsimp only at hl6_0
 try dsimp only
 refine WS fun _ hK12 => rS (BI rfl b_lss) <| RK hK12 <| w_seq fun _ hK13 => ?_
 refine w_if rfl (fun h14 => ?_) (fun h14 => ?_)
 · replace h14 := DT h14
   refine WK hK13 <| w_seq fun _ hK15 => w_block <| WS fun _ hK16 => rS (MV rfl) <| rS (AG rfl) <| RK hK16 <| WS fun _ hK17 => rS (MV rfl) <| rS (MV rfl) ?_
   refine rS (BI rfl (b_shr8 (i := m) (by omega) (by omega))) <| rS (BI rfl (b_and8 (m := (bn / 2 ^ m)) (by omega) (Nat.le_trans (Nat.div_le_self _ _) (by omega)))) <| rS (BI rfl b_eql) <| RK hK17 ?_
   refine w_if rfl (fun hg63 => ?_) (fun hg63 => ?_)
   rotate_left 1
   · replace hg63 := DF hg63
     refine w_skip <| k_block <| KK hK15 <| w_region <| rS (BI rfl (b_add ⟨by omega, by omega⟩)) <| rS (MV rfl) <| r_nil ?_
     rw [show (idxL m (bitS bn)) = (idxL (m + 1) (bitS bn)) from (idxL_no (fun q => hg63 (bit_iff.2 q))).symm]
     have hb22 : (Value.int .i64 (((m + 1) : Nat) : Int)) = (Value.int .i64 (((m : Nat) : Int) + 1)) := by exact congrArg (Value.int .i64) (by omega)
     refine k_then (hJ11 ⟨((m + 1), la, lc), (by first | omega | (simp only []; omega))⟩ _ _ _ rfl (by first | omega | (simp; omega)) (Sub.cons rfl <| Sub.cons rfl <| Sub.cons rfl <| Sub.cons rfl <| Sub.cons rfl <| Sub.cons rfl <| Sub.cons rfl <| Sub.cons rfl <| Sub.cons rfl <| Sub.cons rfl <| sub_val rfl hb22 <| Sub.nil _) (fun w hs => St.sel [0, 1, 2, 3, 4, 5] rfl rfl hs))
   replace hg63 := DT hg63
   refine w_region <| rS (MV rfl) <| rS (MV rfl) <| r_bs (xs := [.tmp 65]) (cs := [(Value.int .i64 ((m : Nat) : Int))]) rfl te33 tz3 rfl rfl rfl rfl (by simp [Value.cells]) rfl rfl fun b18 => r_append (es2 := (List.map iC (idxL (m + 1) (bitS bn)))) (m' := (idxL (m + 1) (bitS bn)).length) 1 rfl rfl rfl ta33 rfl rfl (by simp) (has_rd_blk (es := List.map iC [((m : Nat) : Int)]) 0 rfl rfl (by simp [iC_length]) rfl) (one_iC _) (by have := idxL_len (n := m) (p := bitS bn); omega) (by have := idxL_len (n := m) (p := bitS bn); simp only [maxLen]; omega) (by rw [idxL_yes (p := bitS bn) (bit_iff.1 hg63)]; simp) (by simp) rfl fun a19 c20 => ?_
   try dsimp only
   refine rS (AG rfl) <| r_nil <| k_block <| KK hK15 <| w_region <| rS (BI rfl (b_add ⟨by omega, by omega⟩)) <| rS (MV rfl) <| r_nil ?_
   have hb21 : (Value.int .i64 (((m + 1) : Nat) : Int)) = (Value.int .i64 (((m : Nat) : Int) + 1)) := by exact congrArg (Value.int .i64) (by omega)
   refine k_then (hJ11 ⟨((m + 1), a19, c20), (by first | omega | (simp only []; omega))⟩ _ _ _ rfl (by first | omega | (simp; omega)) (Sub.cons rfl <| Sub.cons rfl <| Sub.cons rfl <| Sub.cons rfl <| Sub.cons rfl <| Sub.cons rfl <| Sub.cons rfl <| Sub.cons rfl <| Sub.cons rfl <| Sub.cons rfl <| sub_val rfl hb21 <| Sub.nil _) (fun w hs => St.sel [1, 2, 3, 4, 5, 6] rfl rfl hs))
 replace h14 := DF h14
 refine w_exit <| k_exit_then <| k_exit_then <| k_exit_same <| KK hK9 <| WS fun _ hK23 => ?_
 rw [show idxL m (bitS bn) = idxL d.Posts.length (bitS bn) from by rw [show m = d.Posts.length by omega]]
 refine rS (LW 2 rfl tk32 rfl rfl) ?_
 have hme : mannedE d (idxL d.Posts.length (bitS bn)) = 0 := manned_in hge empty_idx
 have hel := idxL_len (n := d.Posts.length) (p := bitS bn)
 have hcl := calledV_len (d := d) (l := (idxL d.Posts.length (bitS bn)))
 have hlv := lacksV_len (d := d) (l := (idxL d.Posts.length (bitS bn)))
 refine rS (MV rfl) <| cX (Lacks_c d kA kC pA pC nA nC (idxL d.Posts.length (bitS bn)) la lc (by exact hin) (by omega)) (ha_at 3 rfl rfl <| ha_at 4 rfl rfl <| ha_at 5 rfl rfl <| ha_cons (has_own_n (n := (idxL d.Posts.length (bitS bn)).length) 0 rfl (by simp)) <| ha_nil) rfl fun y24 hy25 => ?_
 obtain ⟨a26, c27⟩ := y24
 try dsimp only
 refine rS (MV rfl) <| rS (EX rfl) <| rS (EX rfl) <| rS (AG rfl) <| rS (AG rfl) <| RK hK23 <| WS fun _ hK28 => rS (LW 3 rfl tk32 rfl rfl) <| rS (MV rfl) <| cX (Called_c d kA kC pA pC nA nC (idxL d.Posts.length (bitS bn)) la lc (by exact hin) (by omega)) (ha_at 4 rfl rfl <| ha_at 5 rfl rfl <| ha_at 6 rfl rfl <| ha_cons (has_own_n (n := (idxL d.Posts.length (bitS bn)).length) 1 rfl (by simp)) <| ha_nil) rfl fun y29 hy30 => ?_
 obtain ⟨a31, c32⟩ := y29
 try dsimp only
 refine rS (MV rfl) <| rS (EX rfl) <| rS (EX rfl) <| rS (AG rfl) <| rS (AG rfl) <| RK hK28 <| w_seq fun _ hK33 => WS fun _ hK34 => rS (MV rfl) <| rS (BI rfl b_neq) ?_
 refine rS (MV rfl) ?_
 refine r_bool (t := 83) rfl (fun hg83 => ?_) (fun hg83 => ?_)
 · replace hg83 := XT hg83
   exact absurd hme hg83
 replace hg83 := XF hg83
 refine rS (MV rfl) <| rS (BI rfl b_neq) <| rS (PK rfl) <| RK hK34 ?_
 refine w_if rfl (fun hg86 => ?_) (fun hg86 => ?_)
 · replace hg86 := XT hg86
   exact absurd hme hg86
 replace hg86 := XF hg86
 refine WK hK33 ?_
 refine w_join (ι := { z : Nat × (Option Addr) × Nat × (Option Addr) × Nat × (Option Addr) × Nat × Nat × (Option Addr) × Nat × (Option Addr) × Nat × (Option Addr) × Nat × Nat × (Option Addr) × Nat × (Option Addr) × Nat × (Option Addr) × Nat // True }) (fun z => [(2, (Value.int .u8 wh)), (3, (Value.int .u16 by_)), (5, (Value.pointer (some ⟨b2, 0, none⟩))), (6, (Value.pointer (some ⟨b3, 0, none⟩))), (11, (Value.bool true)), (12, (Value.slice la ((idxL d.Posts.length (bitS bn)).length) lc)), (14, (Value.slice a26 ((lacksV d (idxL d.Posts.length (bitS bn))).length) c27)), (16, (Value.slice a31 ((calledV d (idxL d.Posts.length (bitS bn))).length) c32)), (18, (Value.pointer (some ⟨z.1.1, 0, none⟩))), (19, (Value.pointer (some ⟨z.1.2.2.2.2.2.2.2.1, 0, none⟩))), (20, (Value.pointer (some ⟨z.1.2.2.2.2.2.2.2.2.2.2.2.2.2.2.1, 0, none⟩)))]) (fun z => [(own z.1.2.1 z.1.2.2.1 110 9 (d.Track.map StretchV.cells)), (own z.1.2.2.2.1 z.1.2.2.2.2.1 62 7 (d.Posts.map PostV.cells)), (own z.1.2.2.2.2.2.1 z.1.2.2.2.2.2.2.1 57 3 (d.Needs.map NeedV.cells)), (blk z.1.1 32 (GuardV.cells (GuardV.mk (TrackV.mk (Slc.mk z.1.2.1 d.Track.length z.1.2.2.1)) (Slc.mk z.1.2.2.2.1 d.Posts.length z.1.2.2.2.2.1) (Slc.mk z.1.2.2.2.2.2.1 d.Needs.length z.1.2.2.2.2.2.2.1) d.Tower d.Radio))), (own z.1.2.2.2.2.2.2.2.2.1 z.1.2.2.2.2.2.2.2.2.2.1 110 9 (d.Track.map StretchV.cells)), (own z.1.2.2.2.2.2.2.2.2.2.2.1 z.1.2.2.2.2.2.2.2.2.2.2.2.1 62 7 (d.Posts.map PostV.cells)), (own z.1.2.2.2.2.2.2.2.2.2.2.2.2.1 z.1.2.2.2.2.2.2.2.2.2.2.2.2.2.1 57 3 (d.Needs.map NeedV.cells)), (blk z.1.2.2.2.2.2.2.2.1 32 (GuardV.cells (GuardV.mk (TrackV.mk (Slc.mk z.1.2.2.2.2.2.2.2.2.1 d.Track.length z.1.2.2.2.2.2.2.2.2.2.1)) (Slc.mk z.1.2.2.2.2.2.2.2.2.2.2.1 d.Posts.length z.1.2.2.2.2.2.2.2.2.2.2.2.1) (Slc.mk z.1.2.2.2.2.2.2.2.2.2.2.2.2.1 d.Needs.length z.1.2.2.2.2.2.2.2.2.2.2.2.2.2.1) d.Tower d.Radio))), (own z.1.2.2.2.2.2.2.2.2.2.2.2.2.2.2.2.1 z.1.2.2.2.2.2.2.2.2.2.2.2.2.2.2.2.2.1 110 9 (d.Track.map StretchV.cells)), (own z.1.2.2.2.2.2.2.2.2.2.2.2.2.2.2.2.2.2.1 z.1.2.2.2.2.2.2.2.2.2.2.2.2.2.2.2.2.2.2.1 62 7 (d.Posts.map PostV.cells)), (own z.1.2.2.2.2.2.2.2.2.2.2.2.2.2.2.2.2.2.2.2.1 z.1.2.2.2.2.2.2.2.2.2.2.2.2.2.2.2.2.2.2.2.2 57 3 (d.Needs.map NeedV.cells)), (blk z.1.2.2.2.2.2.2.2.2.2.2.2.2.2.2.1 32 (GuardV.cells (GuardV.mk (TrackV.mk (Slc.mk z.1.2.2.2.2.2.2.2.2.2.2.2.2.2.2.2.1 d.Track.length z.1.2.2.2.2.2.2.2.2.2.2.2.2.2.2.2.2.1)) (Slc.mk z.1.2.2.2.2.2.2.2.2.2.2.2.2.2.2.2.2.2.1 d.Posts.length z.1.2.2.2.2.2.2.2.2.2.2.2.2.2.2.2.2.2.2.1) (Slc.mk z.1.2.2.2.2.2.2.2.2.2.2.2.2.2.2.2.2.2.2.2.1 d.Needs.length z.1.2.2.2.2.2.2.2.2.2.2.2.2.2.2.2.2.2.2.2.2) d.Tower d.Radio))), (own a31 c32 3 1 ((calledV d (idxL d.Posts.length (bitS bn))).map iC)), (own a26 c27 3 1 ((lacksV d (idxL d.Posts.length (bitS bn))).map iC)), (own la lc 3 1 ((idxL d.Posts.length (bitS bn)).map iC)), (blk b3 62 (PostV.cells y)), (blk b2 32 (GuardV.cells (GuardV.mk (TrackV.mk (Slc.mk kA d.Track.length kC)) (Slc.mk pA d.Posts.length pC) (Slc.mk nA d.Needs.length nC) d.Tower d.Radio))), (rd kA d.Track.length 9 (d.Track.map StretchV.cells)).ro, (rd pA d.Posts.length 7 (d.Posts.map PostV.cells)).ro, (rd nA d.Needs.length 3 (d.Needs.map NeedV.cells)).ro]) ?_ fun K35 hK35 => ?_
 · rintro ⟨⟨gtb, ba1, bc1, ba2, bc2, ba3, bc3, gtw, wa1, wc1, wa2, wc2, wa3, wc3, gtf, fa1, fc1, fa2, fc2, fa3, fc3⟩, _⟩
   try dsimp only
   refine WS fun _ hK36 => rS (FA 0 rfl fo62_0 rfl) <| r_store (vs := [(Value.int .i64 0)]) (cs' := (PostV.cells (PostV.mk 0 y.Kind y.Spot y.Delay y.Pace))) (C' := [_, _, _, _, _, _, _, _, _, _, _, _, _, _, _, (blk b3 62 (PostV.cells (PostV.mk 0 y.Kind y.Spot y.Delay y.Pace))), _, _, _, _]) 15 rfl rfl rfl ts3 rfl rfl rfl rfl rfl rfl rfl <| RK hK36 <| WS fun _ hK37 => rS (FA 1 rfl fo32_1 rfl) <| rS (L1 (Value.slice pA d.Posts.length pC) 16 rfl tk25 rfl rfl) <| rS (LN rfl ut25) <| rS (AG rfl) <| RK hK37 ?_
   refine w_join (ι := { z : (List PostV) × Int // (MoreG d (fastG d z.1)) ∧ (GuardRaw (fastG d z.1)) ∧ (0 ≤ z.2 ∧ z.2 ≤ 10000) }) (fun z => [(3, (Value.int .u16 by_)), (5, (Value.pointer (some ⟨b2, 0, none⟩))), (6, (Value.pointer (some ⟨b3, 0, none⟩))), (11, (Value.bool true)), (12, (Value.slice la ((idxL d.Posts.length (bitS bn)).length) lc)), (14, (Value.slice a26 ((lacksV d (idxL d.Posts.length (bitS bn))).length) c27)), (16, (Value.slice a31 ((calledV d (idxL d.Posts.length (bitS bn))).length) c32)), (18, (Value.pointer (some ⟨gtb, 0, none⟩))), (19, (Value.pointer (some ⟨gtw, 0, none⟩))), (20, (Value.pointer (some ⟨gtf, 0, none⟩)))]) (fun z => [(own ba1 bc1 110 9 (d.Track.map StretchV.cells)), (own ba2 bc2 62 7 (d.Posts.map PostV.cells)), (own ba3 bc3 57 3 (d.Needs.map NeedV.cells)), (blk gtb 32 (GuardV.cells (GuardV.mk (TrackV.mk (Slc.mk ba1 d.Track.length bc1)) (Slc.mk ba2 d.Posts.length bc2) (Slc.mk ba3 d.Needs.length bc3) d.Tower d.Radio))), (own wa1 wc1 110 9 (d.Track.map StretchV.cells)), (own wa2 wc2 62 7 (d.Posts.map PostV.cells)), (own wa3 wc3 57 3 (d.Needs.map NeedV.cells)), (blk gtw 32 (GuardV.cells (GuardV.mk (TrackV.mk (Slc.mk wa1 d.Track.length wc1)) (Slc.mk wa2 d.Posts.length wc2) (Slc.mk wa3 d.Needs.length wc3) d.Tower d.Radio))), (own fa1 fc1 110 9 (d.Track.map StretchV.cells)), (own fa2 fc2 62 7 (z.1.1.map PostV.cells)), (own fa3 fc3 57 3 (d.Needs.map NeedV.cells)), (blk gtf 32 (GuardV.cells (GuardV.mk (TrackV.mk (Slc.mk fa1 d.Track.length fc1)) (Slc.mk fa2 z.1.1.length fc2) (Slc.mk fa3 d.Needs.length fc3) d.Tower d.Radio))), (own a31 c32 3 1 ((calledV d (idxL d.Posts.length (bitS bn))).map iC)), (own a26 c27 3 1 ((lacksV d (idxL d.Posts.length (bitS bn))).map iC)), (own la lc 3 1 ((idxL d.Posts.length (bitS bn)).map iC)), (blk b3 62 (PostV.cells (PostV.mk z.1.2 y.Kind y.Spot y.Delay y.Pace))), (blk b2 32 (GuardV.cells (GuardV.mk (TrackV.mk (Slc.mk kA d.Track.length kC)) (Slc.mk pA d.Posts.length pC) (Slc.mk nA d.Needs.length nC) d.Tower d.Radio))), (rd kA d.Track.length 9 (d.Track.map StretchV.cells)).ro, (rd pA d.Posts.length 7 (d.Posts.map PostV.cells)).ro, (rd nA d.Needs.length 3 (d.Needs.map NeedV.cells)).ro]) ?_ fun K38 hK38 => ?_
   · rintro ⟨⟨L, yi⟩, ⟨hjK38_0, hjK38_1, hjK38_2⟩⟩
     try dsimp only at hjK38_0 hjK38_1 hjK38_2
     try dsimp only
     have hjm := hjK38_0
     have hjr := hjK38_1
     refine WS fun _ hK39 => rS (FA 1 rfl fo32_1 rfl) <| rS (L1 (Value.slice ba2 d.Posts.length bc2) 3 rfl tk25 rfl rfl) <| rS (LW 15 rfl tk62 rfl rfl) <| r_bs (xs := [.tmp 141]) (cs := (PostV.cells (PostV.mk yi y.Kind y.Spot y.Delay y.Pace))) rfl te25 tz62 rfl rfl rfl rfl (by simp [Value.cells, PostV.cells_length]) rfl rfl fun b40 => r_append (es2 := (List.map PostV.cells (d.Posts ++ [(PostV.mk yi y.Kind y.Spot y.Delay y.Pace)]))) (m' := (d.Posts ++ [(PostV.mk yi y.Kind y.Spot y.Delay y.Pace)]).length) 2 rfl rfl rfl ta25 rfl rfl (by simp) (has_rd_blk (es := List.map PostV.cells [(PostV.mk yi y.Kind y.Spot y.Delay y.Pace)]) 0 rfl rfl (by simp [PostV.cells_length]) rfl) (one_PostV_cells _) (by first | omega | (simp; omega)) (by first | (simp only [maxLen]; omega) | (simp [maxLen]; omega)) (by simp) (by simp) rfl fun a41 c42 => ?_
     try dsimp only
     refine rS (FA 1 rfl fo32_1 rfl) <| ST4 (GuardV.cells (GuardV.mk (TrackV.mk (Slc.mk ba1 d.Track.length bc1)) (Slc.mk a41 ((d.Posts ++ [(PostV.mk yi y.Kind y.Spot y.Delay y.Pace)]).length) c42) (Slc.mk ba3 d.Needs.length bc3) d.Tower d.Radio)) rfl ts25 rfl rfl <| RK hK39 <| WS fun _ hK43 => ?_
     have hrr := hok.radio
     refine rS (FA 6 rfl fo32_4 rfl) <| rS (L1 (Value.int .i64 d.Radio) 8 rfl tk3 rfl rfl) <| rS (MV rfl) <| rS (SX (sd_conv (m := by_) rfl rfl ut75 ut3 (wrap_u16_i64 (by first | assumption | omega))) rfl rfl) <| rS (BI rfl (b_add ⟨by omega, by omega⟩)) <| rS (FA 6 rfl fo32_4 rfl) <| ST8 (GuardV.cells (GuardV.mk (TrackV.mk (Slc.mk wa1 d.Track.length wc1)) (Slc.mk wa2 d.Posts.length wc2) (Slc.mk wa3 d.Needs.length wc3) d.Tower (d.Radio + by_))) rfl ts3 rfl rfl <| RK hK43 <| w_seq fun _ hK44 => WS fun _ hK45 => ?_
     refine rS (LW 4 rfl tk32 rfl rfl) <| rS (LW 8 rfl tk32 rfl rfl) <| rS (LW 12 rfl tk32 rfl rfl) <| r_bs (xs := [.tmp 151, .tmp 152, .tmp 153]) (cs := ((GuardV.cells (GuardV.mk (TrackV.mk (Slc.mk ba1 d.Track.length bc1)) (Slc.mk a41 ((d.Posts ++ [(PostV.mk yi y.Kind y.Spot y.Delay y.Pace)]).length) c42) (Slc.mk ba3 d.Needs.length bc3) d.Tower d.Radio)) ++ (GuardV.cells (GuardV.mk (TrackV.mk (Slc.mk wa1 d.Track.length wc1)) (Slc.mk wa2 d.Posts.length wc2) (Slc.mk wa3 d.Needs.length wc3) d.Tower (d.Radio + by_))) ++ (GuardV.cells (GuardV.mk (TrackV.mk (Slc.mk fa1 d.Track.length fc1)) (Slc.mk fa2 L.length fc2) (Slc.mk fa3 d.Needs.length fc3) d.Tower d.Radio)))) rfl te77 tz32 rfl rfl rfl rfl (by simp [Value.cells, GuardV.cells_length]) rfl rfl fun b46 => rS (LN rfl ut77) <| rS (MV rfl) <| RK hK45 <| w_block ?_
     have hinit : (0 ≤ 3) := by exact Nat.zero_le _
     refine w_loop (ι := { z : Nat // (z ≤ 3) }) (fun z => [(5, (Value.pointer (some ⟨b2, 0, none⟩))), (11, (Value.bool true)), (12, (Value.slice la ((idxL d.Posts.length (bitS bn)).length) lc)), (14, (Value.slice a26 ((lacksV d (idxL d.Posts.length (bitS bn))).length) c27)), (16, (Value.slice a31 ((calledV d (idxL d.Posts.length (bitS bn))).length) c32)), (154, (Value.slice (some ⟨b46, 0, none⟩) 3 3)), (155, (Value.int .i64 3)), (156, (Value.int .i64 ((z.1 : Nat) : Int)))]) (fun z => [(blk b46 32 ((GuardV.cells (GuardV.mk (TrackV.mk (Slc.mk ba1 d.Track.length bc1)) (Slc.mk a41 ((d.Posts ++ [(PostV.mk yi y.Kind y.Spot y.Delay y.Pace)]).length) c42) (Slc.mk ba3 d.Needs.length bc3) d.Tower d.Radio)) ++ (GuardV.cells (GuardV.mk (TrackV.mk (Slc.mk wa1 d.Track.length wc1)) (Slc.mk wa2 d.Posts.length wc2) (Slc.mk wa3 d.Needs.length wc3) d.Tower (d.Radio + by_))) ++ (GuardV.cells (GuardV.mk (TrackV.mk (Slc.mk fa1 d.Track.length fc1)) (Slc.mk fa2 L.length fc2) (Slc.mk fa3 d.Needs.length fc3) d.Tower d.Radio)))), (own ba1 bc1 110 9 (d.Track.map StretchV.cells)), (own a41 c42 62 7 (List.map PostV.cells (d.Posts ++ [(PostV.mk yi y.Kind y.Spot y.Delay y.Pace)]))), (own ba3 bc3 57 3 (d.Needs.map NeedV.cells)), (own wa1 wc1 110 9 (d.Track.map StretchV.cells)), (own wa2 wc2 62 7 (d.Posts.map PostV.cells)), (own wa3 wc3 57 3 (d.Needs.map NeedV.cells)), (own fa1 fc1 110 9 (d.Track.map StretchV.cells)), (own fa2 fc2 62 7 (L.map PostV.cells)), (own fa3 fc3 57 3 (d.Needs.map NeedV.cells)), (own a31 c32 3 1 ((calledV d (idxL d.Posts.length (bitS bn))).map iC)), (own a26 c27 3 1 ((lacksV d (idxL d.Posts.length (bitS bn))).map iC)), (own la lc 3 1 ((idxL d.Posts.length (bitS bn)).map iC)), (blk b2 32 (GuardV.cells (GuardV.mk (TrackV.mk (Slc.mk kA d.Track.length kC)) (Slc.mk pA d.Posts.length pC) (Slc.mk nA d.Needs.length nC) d.Tower d.Radio))), (rd kA d.Track.length 9 (d.Track.map StretchV.cells)).ro, (rd pA d.Posts.length 7 (d.Posts.map PostV.cells)).ro, (rd nA d.Needs.length 3 (d.Needs.map NeedV.cells)).ro]) (fun z => 3 - z.1) ⟨0, hinit⟩ (Sub.cons rfl <| Sub.cons rfl <| Sub.cons rfl <| Sub.cons rfl <| Sub.cons rfl <| Sub.cons rfl <| Sub.cons rfl <| Sub.cons rfl <| Sub.nil _) (fun w hs => St.sel [0, 2, 3, 4, 6, 7, 8, 10, 11, 12, 14, 15, 16, 18, 19, 20, 21] rfl rfl hs) ?_
     clear hinit
     rintro ⟨i, hl25_0⟩ J47 hJ47
     try dsimp only
     refine WS fun _ hK48 => rS (BI rfl b_lss) <| RK hK48 <| w_seq fun _ hK49 => ?_
     refine w_if rfl (fun h50 => ?_) (fun h50 => ?_)
     rotate_left 1
     · replace h50 := DF h50
       refine w_exit <| k_exit_then <| k_exit_then <| k_exit_same <| KK hK44 <| w_seq fun _ hK173 => WS fun _ hK174 => rS (FA 1 rfl fo32_1 rfl) <| rS (L1 (Value.slice pA d.Posts.length pC) 13 rfl tk25 rfl rfl) <| rS (LN rfl ut25) ?_
       refine rS (MV rfl) <| RK hK174 <| w_block ?_
       have hinit : (0 ≤ d.Posts.length) := by exact Nat.zero_le _
       refine w_loop (ι := { z : Nat // (z ≤ d.Posts.length) }) (fun z => [(5, (Value.pointer (some ⟨b2, 0, none⟩))), (11, (Value.bool true)), (12, (Value.slice la ((idxL d.Posts.length (bitS bn)).length) lc)), (14, (Value.slice a26 ((lacksV d (idxL d.Posts.length (bitS bn))).length) c27)), (16, (Value.slice a31 ((calledV d (idxL d.Posts.length (bitS bn))).length) c32)), (205, (Value.slice pA d.Posts.length pC)), (206, (Value.int .i64 ((d.Posts.length : Nat) : Int))), (207, (Value.int .i64 ((z.1 : Nat) : Int)))]) (fun z => [(own ba1 bc1 110 9 (d.Track.map StretchV.cells)), (own a41 c42 62 7 (List.map PostV.cells (d.Posts ++ [(PostV.mk yi y.Kind y.Spot y.Delay y.Pace)]))), (own ba3 bc3 57 3 (d.Needs.map NeedV.cells)), (own wa1 wc1 110 9 (d.Track.map StretchV.cells)), (own wa2 wc2 62 7 (d.Posts.map PostV.cells)), (own wa3 wc3 57 3 (d.Needs.map NeedV.cells)), (own fa1 fc1 110 9 (d.Track.map StretchV.cells)), (own fa2 fc2 62 7 (L.map PostV.cells)), (own fa3 fc3 57 3 (d.Needs.map NeedV.cells)), (own a31 c32 3 1 ((calledV d (idxL d.Posts.length (bitS bn))).map iC)), (own a26 c27 3 1 ((lacksV d (idxL d.Posts.length (bitS bn))).map iC)), (own la lc 3 1 ((idxL d.Posts.length (bitS bn)).map iC)), (blk b2 32 (GuardV.cells (GuardV.mk (TrackV.mk (Slc.mk kA d.Track.length kC)) (Slc.mk pA d.Posts.length pC) (Slc.mk nA d.Needs.length nC) d.Tower d.Radio))), (rd kA d.Track.length 9 (d.Track.map StretchV.cells)).ro, (rd pA d.Posts.length 7 (d.Posts.map PostV.cells)).ro, (rd nA d.Needs.length 3 (d.Needs.map NeedV.cells)).ro]) (fun z => d.Posts.length - z.1) ⟨0, hinit⟩ (Sub.cons rfl <| Sub.cons rfl <| Sub.cons rfl <| Sub.cons rfl <| Sub.cons rfl <| Sub.cons rfl <| Sub.cons rfl <| Sub.cons rfl <| Sub.nil _) (fun w hs => St.sel [1, 2, 3, 4, 5, 6, 7, 8, 9, 10, 11, 12, 13, 14, 15, 16] rfl rfl hs) ?_
       clear hinit
       rintro ⟨i, hl46_0⟩ J175 hJ175
       try dsimp only
       refine WS fun _ hK176 => rS (BI rfl b_lss) <| RK hK176 <| w_seq fun _ hK177 => ?_
       refine w_if rfl (fun h178 => ?_) (fun h178 => ?_)
       rotate_left 1
       · replace h178 := DF h178
         refine w_exit <| k_exit_then <| k_exit_then <| k_exit_same <| KK hK173 <| WS fun _ hK239 => rS (MV rfl) <| rS (AG rfl) <| RK hK239 <| w_ret ?_
         exact Q1 hQ rfl rfl rfl rfl
       replace h178 := DT h178
       refine WK hK177 <| w_seq fun _ hK179 => w_block <| WS fun _ hK180 => rS (MV rfl) <| rS (AG rfl) <| RK hK180 <| w_seq fun _ hK181 => WS fun _ hK182 => rS (MV rfl) ?_
       refine rS (MV rfl) <| rS (CL (has_c (idxL d.Posts.length (bitS bn)) la lc ((i : Nat) : Int) (by omega)) (ha_cons (has_own_n (n := (idxL d.Posts.length (bitS bn)).length) 11 rfl (by simp)) <| ha_nil) rfl) <| RK hK182 ?_
       refine w_if rfl (fun hg212 => ?_) (fun hg212 => ?_)
       · replace hg212 := DT hg212
         refine w_exit <| k_exit_then <| k_exit_same <| KK hK179 <| w_region <| rS (BI rfl (b_add ⟨by omega, by omega⟩)) <| rS (MV rfl) <| r_nil ?_
         have hb183 : (Value.int .i64 (((i + 1) : Nat) : Int)) = (Value.int .i64 (((i : Nat) : Int) + 1)) := by exact congrArg (Value.int .i64) (by omega)
         refine k_then (hJ175 ⟨(i + 1), (by first | omega | (simp only []; omega))⟩ _ _ _ rfl (by first | omega | (simp; omega)) (Sub.cons rfl <| Sub.cons rfl <| Sub.cons rfl <| Sub.cons rfl <| Sub.cons rfl <| Sub.cons rfl <| Sub.cons rfl <| sub_val rfl hb183 <| Sub.nil _) (fun w hs => St.sel [0, 1, 2, 3, 4, 5, 6, 7, 8, 9, 10, 11, 12, 13, 14, 15] rfl rfl hs))
       replace hg212 := DF hg212
       refine WK hK181 <| WS fun _ hK184 => rS (AG rfl) <| RK hK184 <| w_seq fun _ hK185 => WS fun _ hK186 => rS (FA 1 rfl fo32_1 rfl) <| rS (L1 (Value.slice pA d.Posts.length pC) 12 rfl tk25 rfl rfl) <| rS (LN rfl ut25) <| rS (MV rfl) ?_
       refine RK hK186 <| w_block <| w_own_nil 3 1 ?_
       have hinit : (0 ≤ d.Posts.length) := by exact Nat.zero_le _
       refine w_loop (ι := { z : Nat × (Option Addr) × Nat // (z.1 ≤ d.Posts.length) }) (fun z => [(5, (Value.pointer (some ⟨b2, 0, none⟩))), (11, (Value.bool true)), (12, (Value.slice la ((idxL d.Posts.length (bitS bn)).length) lc)), (14, (Value.slice a26 ((lacksV d (idxL d.Posts.length (bitS bn))).length) c27)), (16, (Value.slice a31 ((calledV d (idxL d.Posts.length (bitS bn))).length) c32)), (33, (Value.int .i64 ((i : Nat) : Int))), (34, (Value.slice z.1.2.1 ((idxL z.1.1 (withE (bitS bn) i)).length) z.1.2.2)), (205, (Value.slice pA d.Posts.length pC)), (206, (Value.int .i64 ((d.Posts.length : Nat) : Int))), (207, (Value.int .i64 ((i : Nat) : Int))), (214, (Value.slice pA d.Posts.length pC)), (215, (Value.int .i64 ((d.Posts.length : Nat) : Int))), (216, (Value.int .i64 ((z.1.1 : Nat) : Int)))]) (fun z => [(own z.1.2.1 z.1.2.2 3 1 ((idxL z.1.1 (withE (bitS bn) i)).map iC)), (own ba1 bc1 110 9 (d.Track.map StretchV.cells)), (own a41 c42 62 7 (List.map PostV.cells (d.Posts ++ [(PostV.mk yi y.Kind y.Spot y.Delay y.Pace)]))), (own ba3 bc3 57 3 (d.Needs.map NeedV.cells)), (own wa1 wc1 110 9 (d.Track.map StretchV.cells)), (own wa2 wc2 62 7 (d.Posts.map PostV.cells)), (own wa3 wc3 57 3 (d.Needs.map NeedV.cells)), (own fa1 fc1 110 9 (d.Track.map StretchV.cells)), (own fa2 fc2 62 7 (L.map PostV.cells)), (own fa3 fc3 57 3 (d.Needs.map NeedV.cells)), (own a31 c32 3 1 ((calledV d (idxL d.Posts.length (bitS bn))).map iC)), (own a26 c27 3 1 ((lacksV d (idxL d.Posts.length (bitS bn))).map iC)), (own la lc 3 1 ((idxL d.Posts.length (bitS bn)).map iC)), (blk b2 32 (GuardV.cells (GuardV.mk (TrackV.mk (Slc.mk kA d.Track.length kC)) (Slc.mk pA d.Posts.length pC) (Slc.mk nA d.Needs.length nC) d.Tower d.Radio))), (rd kA d.Track.length 9 (d.Track.map StretchV.cells)).ro, (rd pA d.Posts.length 7 (d.Posts.map PostV.cells)).ro, (rd nA d.Needs.length 3 (d.Needs.map NeedV.cells)).ro]) (fun z => d.Posts.length - z.1.1) ⟨(0, none, 0), hinit⟩ (Sub.cons rfl <| Sub.cons rfl <| Sub.cons rfl <| Sub.cons rfl <| Sub.cons rfl <| Sub.cons rfl <| Sub.cons rfl <| Sub.cons rfl <| Sub.cons rfl <| Sub.cons rfl <| Sub.cons rfl <| Sub.cons rfl <| Sub.cons rfl <| Sub.nil _) (fun w hs => St.sel [0, 1, 2, 3, 4, 5, 6, 7, 8, 9, 10, 11, 12, 13, 14, 15, 16] rfl rfl hs) ?_
       clear hinit
       rintro ⟨⟨m2, wa, wc⟩, hl51_0⟩ J187 hJ187
       try dsimp only at hl51_0
       try dsimp only
       refine WS fun _ hK188 => rS (BI rfl b_lss) <| RK hK188 <| w_seq fun _ hK189 => ?_
       refine w_if rfl (fun h190 => ?_) (fun h190 => ?_)
       · replace h190 := DT h190
         refine WK hK189 <| w_seq fun _ hK191 => w_block <| WS fun _ hK192 => rS (MV rfl) <| rS (AG rfl) <| RK hK192 <| WS fun _ hK193 => rS (MV rfl) <| rS (MV rfl) ?_
         refine rS (BI rfl b_eql) <| rS (MV rfl) ?_
         refine r_bool (t := 222) rfl (fun hg222 => ?_) (fun hg222 => ?_)
         · replace hg222 := DT hg222
           refine rS (OX rfl) <| rS (OX rfl) <| rS (OX rfl) <| rS (PK rfl) <| RK hK193 <| w_if_true rfl <| w_region <| rS (MV rfl) <| rS (MV rfl) <| r_bs (xs := [.tmp 228]) (cs := [(Value.int .i64 ((m2 : Nat) : Int))]) rfl te33 tz3 rfl rfl rfl rfl (by simp [Value.cells]) rfl rfl fun b194 => ?_
           refine r_append (es2 := (List.map iC (idxL (m2 + 1) (withE (bitS bn) i)))) (m' := (idxL (m2 + 1) (withE (bitS bn) i)).length) 1 rfl rfl rfl ta33 rfl rfl (by simp) (has_rd_blk (es := List.map iC [((m2 : Nat) : Int)]) 0 rfl rfl (by simp [iC_length]) rfl) (one_iC _) (by have := idxL_len (n := m2) (p := withE (bitS bn) i); omega) (by have := idxL_len (n := m2) (p := withE (bitS bn) i); simp only [maxLen]; omega) (by rw [idxL_yes (p := withE (bitS bn) i) (by first | exact .inl (by omega) | exact .inr ((mem_idx (n := d.Posts.length)).1 hg226).2)]; simp) (by simp) rfl fun a195 c196 => ?_
           try dsimp only
           refine rS (AG rfl) <| r_nil <| k_block <| KK hK191 <| w_region <| rS (BI rfl (b_add ⟨by omega, by omega⟩)) <| rS (MV rfl) <| r_nil ?_
           have hb197 : (Value.int .i64 (((m2 + 1) : Nat) : Int)) = (Value.int .i64 (((m2 : Nat) : Int) + 1)) := by exact congrArg (Value.int .i64) (by omega)
           refine k_then (hJ187 ⟨((m2 + 1), a195, c196), (by first | omega | (simp only []; omega))⟩ _ _ _ rfl (by first | omega | (simp; omega)) (Sub.cons rfl <| Sub.cons rfl <| Sub.cons rfl <| Sub.cons rfl <| Sub.cons rfl <| Sub.cons rfl <| Sub.cons rfl <| Sub.cons rfl <| Sub.cons rfl <| Sub.cons rfl <| Sub.cons rfl <| Sub.cons rfl <| sub_val rfl hb197 <| Sub.nil _) (fun w hs => St.sel [1, 2, 3, 4, 5, 6, 7, 8, 9, 10, 11, 12, 13, 14, 15, 16, 17] rfl rfl hs))
         replace hg222 := DF hg222
         refine rS (MV rfl) <| rS (MV rfl) <| rS (CL (has_c (idxL d.Posts.length (bitS bn)) la lc ((m2 : Nat) : Int) (by omega)) (ha_cons (has_own_n (n := (idxL d.Posts.length (bitS bn)).length) 12 rfl (by simp)) <| ha_nil) rfl) <| rS (PK rfl) <| RK hK193 ?_
         refine w_if rfl (fun hg226 => ?_) (fun hg226 => ?_)
         rotate_left 1
         · replace hg226 := DF hg226
           refine w_skip <| k_block <| KK hK191 <| w_region <| rS (BI rfl (b_add ⟨by omega, by omega⟩)) <| rS (MV rfl) <| r_nil ?_
           rw [show (idxL m2 (withE (bitS bn) i)) = (idxL (m2 + 1) (withE (bitS bn) i)) from (idxL_no (fun q => q.elim (fun e => hg222 (by omega)) (fun b => hg226 (mem_idx.2 ⟨by omega, b⟩)))).symm]
           have hb202 : (Value.int .i64 (((m2 + 1) : Nat) : Int)) = (Value.int .i64 (((m2 : Nat) : Int) + 1)) := by exact congrArg (Value.int .i64) (by omega)
           refine k_then (hJ187 ⟨((m2 + 1), wa, wc), (by first | omega | (simp only []; omega))⟩ _ _ _ rfl (by first | omega | (simp; omega)) (Sub.cons rfl <| Sub.cons rfl <| Sub.cons rfl <| Sub.cons rfl <| Sub.cons rfl <| Sub.cons rfl <| Sub.cons rfl <| Sub.cons rfl <| Sub.cons rfl <| Sub.cons rfl <| Sub.cons rfl <| Sub.cons rfl <| sub_val rfl hb202 <| Sub.nil _) (fun w hs => St.sel [0, 1, 2, 3, 4, 5, 6, 7, 8, 9, 10, 11, 12, 13, 14, 15, 16] rfl rfl hs))
         replace hg226 := DT hg226
         refine w_region <| rS (MV rfl) <| rS (MV rfl) <| r_bs (xs := [.tmp 228]) (cs := [(Value.int .i64 ((m2 : Nat) : Int))]) rfl te33 tz3 rfl rfl rfl rfl (by simp [Value.cells]) rfl rfl fun b198 => r_append (es2 := (List.map iC (idxL (m2 + 1) (withE (bitS bn) i)))) (m' := (idxL (m2 + 1) (withE (bitS bn) i)).length) 1 rfl rfl rfl ta33 rfl rfl (by simp) (has_rd_blk (es := List.map iC [((m2 : Nat) : Int)]) 0 rfl rfl (by simp [iC_length]) rfl) (one_iC _) (by have := idxL_len (n := m2) (p := withE (bitS bn) i); omega) (by have := idxL_len (n := m2) (p := withE (bitS bn) i); simp only [maxLen]; omega) (by rw [idxL_yes (p := withE (bitS bn) i) (by first | exact .inl (by omega) | exact .inr ((mem_idx (n := d.Posts.length)).1 hg226).2)]; simp) (by simp) rfl fun a199 c200 => ?_
         try dsimp only
         refine rS (AG rfl) <| r_nil <| k_block <| KK hK191 <| w_region <| rS (BI rfl (b_add ⟨by omega, by omega⟩)) <| rS (MV rfl) <| r_nil ?_
         have hb201 : (Value.int .i64 (((m2 + 1) : Nat) : Int)) = (Value.int .i64 (((m2 : Nat) : Int) + 1)) := by exact congrArg (Value.int .i64) (by omega)
         refine k_then (hJ187 ⟨((m2 + 1), a199, c200), (by first | omega | (simp only []; omega))⟩ _ _ _ rfl (by first | omega | (simp; omega)) (Sub.cons rfl <| Sub.cons rfl <| Sub.cons rfl <| Sub.cons rfl <| Sub.cons rfl <| Sub.cons rfl <| Sub.cons rfl <| Sub.cons rfl <| Sub.cons rfl <| Sub.cons rfl <| Sub.cons rfl <| Sub.cons rfl <| sub_val rfl hb201 <| Sub.nil _) (fun w hs => St.sel [1, 2, 3, 4, 5, 6, 7, 8, 9, 10, 11, 12, 13, 14, 15, 16, 17] rfl rfl hs))
       replace h190 := DF h190
       refine w_exit <| k_exit_then <| k_exit_then <| k_exit_same <| KK hK185 <| WS fun _ hK203 => ?_
       rw [show idxL m2 (withE (bitS bn) i) = idxL d.Posts.length (withE (bitS bn) i) from by rw [show m2 = d.Posts.length by omega]]
       refine rS (LW 13 rfl tk32 rfl rfl) ?_
       have hmw : mannedE d (idxL d.Posts.length (withE (bitS bn) i)) = 0 := manned_in hge empty_idx
       have hew := idxL_len (n := d.Posts.length) (p := withE (bitS bn) i)
       have hcw := calledV_len (d := d) (l := (idxL d.Posts.length (withE (bitS bn) i)))
       refine rS (MV rfl) <| cX (Lacks_c d kA kC pA pC nA nC (idxL d.Posts.length (withE (bitS bn) i)) wa wc (by exact hin) (by omega)) (ha_at 14 rfl rfl <| ha_at 15 rfl rfl <| ha_at 16 rfl rfl <| ha_cons (has_own_n (n := (idxL d.Posts.length (withE (bitS bn) i)).length) 0 rfl (by simp)) <| ha_nil) rfl fun y204 hy205 => ?_
       obtain ⟨a206, c207⟩ := y204
       try dsimp only
       refine rS (MV rfl) <| rS (EX rfl) <| rS (EX rfl) <| rS (AG rfl) <| rS (AG rfl) <| RK hK203 <| WS fun _ hK208 => rS (LW 14 rfl tk32 rfl rfl) <| rS (MV rfl) <| cX (Called_c d kA kC pA pC nA nC (idxL d.Posts.length (withE (bitS bn) i)) wa wc (by exact hin) (by omega)) (ha_at 15 rfl rfl <| ha_at 16 rfl rfl <| ha_at 17 rfl rfl <| ha_cons (has_own_n (n := (idxL d.Posts.length (withE (bitS bn) i)).length) 1 rfl (by simp)) <| ha_nil) rfl fun y209 hy210 => ?_
       obtain ⟨a211, c212⟩ := y209
       try dsimp only
       refine rS (MV rfl) <| rS (EX rfl) <| rS (EX rfl) <| rS (AG rfl) <| rS (AG rfl) <| RK hK208 <| w_seq fun _ hK213 => WS fun _ hK214 => rS (MV rfl) <| rS (BI rfl b_neq) ?_
       refine rS (MV rfl) ?_
       refine r_bool (t := 246) rfl (fun hg246 => ?_) (fun hg246 => ?_)
       · replace hg246 := XT hg246
         exact absurd hmw hg246
       replace hg246 := XF hg246
       refine rS (MV rfl) <| rS (BI rfl b_neq) <| rS (PK rfl) <| rS (MV rfl) ?_
       refine r_bool (t := 250) rfl (fun hg250 => ?_) (fun hg250 => ?_)
       · replace hg250 := XT hg250
         exact absurd hmw hg250
       replace hg250 := XF hg250
       refine rS (MV rfl) <| rS (MV rfl) <| rS (CL (has_c (calledV d (idxL d.Posts.length (withE (bitS bn) i))) a211 c212 ((i : Nat) : Int) (by exact Nat.le_trans calledV_len hin.pst)) (ha_cons (has_own_n (n := (calledV d (idxL d.Posts.length (withE (bitS bn) i))).length) 0 rfl (by simp)) <| ha_nil) rfl) <| rS (PK rfl) <| RK hK214 ?_
       refine w_if rfl (fun hg254 => ?_) (fun hg254 => ?_)
       · replace hg254 := DT hg254
         exact absurd hg254 (with_out hge (by omega))
       replace hg254 := DF hg254
       refine WK hK213 <| w_seq fun _ hK215 => WS fun _ hK216 => rS (MV rfl) <| rS (LN rfl ut33) <| rS (MV rfl) <| RK hK216 <| w_block ?_
       have hinit : (0 ≤ (lacksV d (idxL d.Posts.length (bitS bn))).length) := by exact Nat.zero_le _
       refine w_loop (ι := { z : Nat // (z ≤ (lacksV d (idxL d.Posts.length (bitS bn))).length) }) (fun z => [(5, (Value.pointer (some ⟨b2, 0, none⟩))), (11, (Value.bool true)), (12, (Value.slice la ((idxL d.Posts.length (bitS bn)).length) lc)), (14, (Value.slice a26 ((lacksV d (idxL d.Posts.length (bitS bn))).length) c27)), (16, (Value.slice a31 ((calledV d (idxL d.Posts.length (bitS bn))).length) c32)), (36, (Value.slice a206 ((lacksV d (idxL d.Posts.length (withE (bitS bn) i))).length) c207)), (38, (Value.slice a211 ((calledV d (idxL d.Posts.length (withE (bitS bn) i))).length) c212)), (205, (Value.slice pA d.Posts.length pC)), (206, (Value.int .i64 ((d.Posts.length : Nat) : Int))), (207, (Value.int .i64 ((i : Nat) : Int))), (255, (Value.slice a26 ((lacksV d (idxL d.Posts.length (bitS bn))).length) c27)), (256, (Value.int .i64 (((lacksV d (idxL d.Posts.length (bitS bn))).length : Nat) : Int))), (257, (Value.int .i64 ((z.1 : Nat) : Int)))]) (fun z => [(own a211 c212 3 1 ((calledV d (idxL d.Posts.length (withE (bitS bn) i))).map iC)), (own a206 c207 3 1 ((lacksV d (idxL d.Posts.length (withE (bitS bn) i))).map iC)), (own wa wc 3 1 ((idxL d.Posts.length (withE (bitS bn) i)).map iC)), (own ba1 bc1 110 9 (d.Track.map StretchV.cells)), (own a41 c42 62 7 (List.map PostV.cells (d.Posts ++ [(PostV.mk yi y.Kind y.Spot y.Delay y.Pace)]))), (own ba3 bc3 57 3 (d.Needs.map NeedV.cells)), (own wa1 wc1 110 9 (d.Track.map StretchV.cells)), (own wa2 wc2 62 7 (d.Posts.map PostV.cells)), (own wa3 wc3 57 3 (d.Needs.map NeedV.cells)), (own fa1 fc1 110 9 (d.Track.map StretchV.cells)), (own fa2 fc2 62 7 (L.map PostV.cells)), (own fa3 fc3 57 3 (d.Needs.map NeedV.cells)), (own a31 c32 3 1 ((calledV d (idxL d.Posts.length (bitS bn))).map iC)), (own a26 c27 3 1 ((lacksV d (idxL d.Posts.length (bitS bn))).map iC)), (own la lc 3 1 ((idxL d.Posts.length (bitS bn)).map iC)), (blk b2 32 (GuardV.cells (GuardV.mk (TrackV.mk (Slc.mk kA d.Track.length kC)) (Slc.mk pA d.Posts.length pC) (Slc.mk nA d.Needs.length nC) d.Tower d.Radio))), (rd kA d.Track.length 9 (d.Track.map StretchV.cells)).ro, (rd pA d.Posts.length 7 (d.Posts.map PostV.cells)).ro, (rd nA d.Needs.length 3 (d.Needs.map NeedV.cells)).ro]) (fun z => (lacksV d (idxL d.Posts.length (bitS bn))).length - z.1) ⟨0, hinit⟩ (Sub.cons rfl <| Sub.cons rfl <| Sub.cons rfl <| Sub.cons rfl <| Sub.cons rfl <| Sub.cons rfl <| Sub.cons rfl <| Sub.cons rfl <| Sub.cons rfl <| Sub.cons rfl <| Sub.cons rfl <| Sub.cons rfl <| Sub.cons rfl <| Sub.nil _) (fun w hs => St.sel [0, 1, 2, 3, 4, 5, 6, 7, 8, 9, 10, 11, 12, 13, 14, 15, 16, 17, 18] rfl rfl hs) ?_
       clear hinit
       rintro ⟨u, hl61_0⟩ J217 hJ217
       try dsimp only
       refine WS fun _ hK218 => rS (BI rfl b_lss) <| RK hK218 <| w_seq fun _ hK219 => ?_
       refine w_if rfl (fun h220 => ?_) (fun h220 => ?_)
       · replace h220 := DT h220
         refine WK hK219 <| w_seq fun _ hK221 => w_block <| WS fun _ hK222 => ?_
         obtain ⟨x223, hx224⟩ : ∃ y_, (lacksV d (idxL d.Posts.length (bitS bn)))[u]? = some y_ := ⟨(lacksV d (idxL d.Posts.length (bitS bn)))[u]'(by omega), List.getElem?_eq_getElem _⟩
         have hx224m : ((lacksV d (idxL d.Posts.length (bitS bn))).map iC)[u]? = some (iC x223) := by rw [List.getElem?_map, hx224]; rfl
         refine rS (IA u rfl (has_own_n (n := (lacksV d (idxL d.Posts.length (bitS bn))).length) 13 rfl (by simp)) te33 (by decide) (by omega) (by omega)) <| rS (LE1 u 0 (Value.int .i64 x223) rfl tk3 (has_own_n (n := (lacksV d (idxL d.Posts.length (bitS bn))).length) 13 rfl (by simp)) hx224m rfl (by decide) rfl) <| rS (AG rfl) <| RK hK222 <| WS fun _ hK225 => rS (MV rfl) <| rS (MV rfl) <| rS (CL (has_c (lacksV d (idxL d.Posts.length (withE (bitS bn) i))) a206 c207 x223 (by exact Nat.le_trans lacksV_len hin.nds)) (ha_cons (has_own_n (n := (lacksV d (idxL d.Posts.length (withE (bitS bn) i))).length) 1 rfl (by simp)) <| ha_nil) rfl) <| rS (NT rfl) <| RK hK225 ?_
         refine w_if rfl (fun hg264 => ?_) (fun hg264 => ?_)
         · replace hg264 := XT hg264
           exact absurd (with_lacks hge _ (List.mem_of_getElem? (by assumption))) hg264
         replace hg264 := XF hg264
         refine w_skip <| k_block <| KK hK221 <| w_region <| rS (BI rfl (b_add ⟨by omega, by omega⟩)) <| rS (MV rfl) <| r_nil ?_
         have hb226 : (Value.int .i64 (((u + 1) : Nat) : Int)) = (Value.int .i64 (((u : Nat) : Int) + 1)) := by exact congrArg (Value.int .i64) (by omega)
         refine k_then (hJ217 ⟨(u + 1), (by first | omega | (simp only []; omega))⟩ _ _ _ rfl (by first | omega | (simp; omega)) (Sub.cons rfl <| Sub.cons rfl <| Sub.cons rfl <| Sub.cons rfl <| Sub.cons rfl <| Sub.cons rfl <| Sub.cons rfl <| Sub.cons rfl <| Sub.cons rfl <| Sub.cons rfl <| Sub.cons rfl <| Sub.cons rfl <| sub_val rfl hb226 <| Sub.nil _) (fun w hs => St.sel [0, 1, 2, 3, 4, 5, 6, 7, 8, 9, 10, 11, 12, 13, 14, 15, 16, 17, 18] rfl rfl hs))
       replace h220 := DF h220
       refine w_exit <| k_exit_then <| k_exit_then <| k_exit_same <| KK hK215 <| WS fun _ hK227 => rS (MV rfl) <| rS (LN rfl ut33) <| rS (MV rfl) <| RK hK227 ?_
       refine w_block ?_
       have hinit : (0 ≤ (calledV d (idxL d.Posts.length (withE (bitS bn) i))).length) := by exact Nat.zero_le _
       refine w_loop (ι := { z : Nat // (z ≤ (calledV d (idxL d.Posts.length (withE (bitS bn) i))).length) }) (fun z => [(5, (Value.pointer (some ⟨b2, 0, none⟩))), (11, (Value.bool true)), (12, (Value.slice la ((idxL d.Posts.length (bitS bn)).length) lc)), (14, (Value.slice a26 ((lacksV d (idxL d.Posts.length (bitS bn))).length) c27)), (16, (Value.slice a31 ((calledV d (idxL d.Posts.length (bitS bn))).length) c32)), (205, (Value.slice pA d.Posts.length pC)), (206, (Value.int .i64 ((d.Posts.length : Nat) : Int))), (207, (Value.int .i64 ((i : Nat) : Int))), (266, (Value.slice a211 ((calledV d (idxL d.Posts.length (withE (bitS bn) i))).length) c212)), (267, (Value.int .i64 (((calledV d (idxL d.Posts.length (withE (bitS bn) i))).length : Nat) : Int))), (268, (Value.int .i64 ((z.1 : Nat) : Int)))]) (fun z => [(own a211 c212 3 1 ((calledV d (idxL d.Posts.length (withE (bitS bn) i))).map iC)), (own a206 c207 3 1 ((lacksV d (idxL d.Posts.length (withE (bitS bn) i))).map iC)), (own wa wc 3 1 ((idxL d.Posts.length (withE (bitS bn) i)).map iC)), (own ba1 bc1 110 9 (d.Track.map StretchV.cells)), (own a41 c42 62 7 (List.map PostV.cells (d.Posts ++ [(PostV.mk yi y.Kind y.Spot y.Delay y.Pace)]))), (own ba3 bc3 57 3 (d.Needs.map NeedV.cells)), (own wa1 wc1 110 9 (d.Track.map StretchV.cells)), (own wa2 wc2 62 7 (d.Posts.map PostV.cells)), (own wa3 wc3 57 3 (d.Needs.map NeedV.cells)), (own fa1 fc1 110 9 (d.Track.map StretchV.cells)), (own fa2 fc2 62 7 (L.map PostV.cells)), (own fa3 fc3 57 3 (d.Needs.map NeedV.cells)), (own a31 c32 3 1 ((calledV d (idxL d.Posts.length (bitS bn))).map iC)), (own a26 c27 3 1 ((lacksV d (idxL d.Posts.length (bitS bn))).map iC)), (own la lc 3 1 ((idxL d.Posts.length (bitS bn)).map iC)), (blk b2 32 (GuardV.cells (GuardV.mk (TrackV.mk (Slc.mk kA d.Track.length kC)) (Slc.mk pA d.Posts.length pC) (Slc.mk nA d.Needs.length nC) d.Tower d.Radio))), (rd kA d.Track.length 9 (d.Track.map StretchV.cells)).ro, (rd pA d.Posts.length 7 (d.Posts.map PostV.cells)).ro, (rd nA d.Needs.length 3 (d.Needs.map NeedV.cells)).ro]) (fun z => (calledV d (idxL d.Posts.length (withE (bitS bn) i))).length - z.1) ⟨0, hinit⟩ (Sub.cons rfl <| Sub.cons rfl <| Sub.cons rfl <| Sub.cons rfl <| Sub.cons rfl <| Sub.cons rfl <| Sub.cons rfl <| Sub.cons rfl <| Sub.cons rfl <| Sub.cons rfl <| Sub.cons rfl <| Sub.nil _) (fun w hs => St.sel [0, 1, 2, 3, 4, 5, 6, 7, 8, 9, 10, 11, 12, 13, 14, 15, 16, 17, 18] rfl rfl hs) ?_
       clear hinit
       rintro ⟨u, hl67_0⟩ J228 hJ228
       try dsimp only
       refine WS fun _ hK229 => rS (BI rfl b_lss) <| RK hK229 <| w_seq fun _ hK230 => ?_
       refine w_if rfl (fun h231 => ?_) (fun h231 => ?_)
       rotate_left 1
       · replace h231 := DF h231
         refine w_exit <| k_exit_then <| k_exit_then <| k_exit_same <| k_block <| KK hK179 <| w_region <| rS (BI rfl (b_add ⟨by omega, by omega⟩)) <| rS (MV rfl) <| r_nil ?_
         have hb238 : (Value.int .i64 (((i + 1) : Nat) : Int)) = (Value.int .i64 (((i : Nat) : Int) + 1)) := by exact congrArg (Value.int .i64) (by omega)
         refine k_then (hJ175 ⟨(i + 1), (by first | omega | (simp only []; omega))⟩ _ _ _ rfl (by first | omega | (simp; omega)) (Sub.cons rfl <| Sub.cons rfl <| Sub.cons rfl <| Sub.cons rfl <| Sub.cons rfl <| Sub.cons rfl <| Sub.cons rfl <| sub_val rfl hb238 <| Sub.nil _) (fun w hs => St.sel [3, 4, 5, 6, 7, 8, 9, 10, 11, 12, 13, 14, 15, 16, 17, 18] rfl rfl hs))
       replace h231 := DT h231
       refine WK hK230 <| w_seq fun _ hK232 => w_block <| WS fun _ hK233 => ?_
       obtain ⟨x234, hx235⟩ : ∃ y_, (calledV d (idxL d.Posts.length (withE (bitS bn) i)))[u]? = some y_ := ⟨(calledV d (idxL d.Posts.length (withE (bitS bn) i)))[u]'(by omega), List.getElem?_eq_getElem _⟩
       have hx235m : ((calledV d (idxL d.Posts.length (withE (bitS bn) i))).map iC)[u]? = some (iC x234) := by rw [List.getElem?_map, hx235]; rfl
       refine rS (IA u rfl (has_own_n (n := (calledV d (idxL d.Posts.length (withE (bitS bn) i))).length) 0 rfl (by simp)) te33 (by decide) (by omega) (by omega)) <| rS (LE1 u 0 (Value.int .i64 x234) rfl tk3 (has_own_n (n := (calledV d (idxL d.Posts.length (withE (bitS bn) i))).length) 0 rfl (by simp)) hx235m rfl (by decide) rfl) <| rS (AG rfl) <| RK hK233 <| WS fun _ hK236 => rS (MV rfl) <| rS (MV rfl) <| rS (CL (has_c (calledV d (idxL d.Posts.length (bitS bn))) a31 c32 x234 (by exact Nat.le_trans calledV_len hin.pst)) (ha_cons (has_own_n (n := (calledV d (idxL d.Posts.length (bitS bn))).length) 12 rfl (by simp)) <| ha_nil) rfl) <| rS (NT rfl) <| RK hK236 ?_
       refine w_if rfl (fun hg275 => ?_) (fun hg275 => ?_)
       · replace hg275 := XT hg275
         exact absurd (with_called hge _ (List.mem_of_getElem? (by assumption))) hg275
       replace hg275 := XF hg275
       refine w_skip <| k_block <| KK hK232 <| w_region <| rS (BI rfl (b_add ⟨by omega, by omega⟩)) <| rS (MV rfl) <| r_nil ?_
       have hb237 : (Value.int .i64 (((u + 1) : Nat) : Int)) = (Value.int .i64 (((u : Nat) : Int) + 1)) := by exact congrArg (Value.int .i64) (by omega)
       refine k_then (hJ228 ⟨(u + 1), (by first | omega | (simp only []; omega))⟩ _ _ _ rfl (by first | omega | (simp; omega)) (Sub.cons rfl <| Sub.cons rfl <| Sub.cons rfl <| Sub.cons rfl <| Sub.cons rfl <| Sub.cons rfl <| Sub.cons rfl <| Sub.cons rfl <| Sub.cons rfl <| Sub.cons rfl <| sub_val rfl hb237 <| Sub.nil _) (fun w hs => St.sel [0, 1, 2, 3, 4, 5, 6, 7, 8, 9, 10, 11, 12, 13, 14, 15, 16, 17, 18] rfl rfl hs))
     replace h50 := DT h50
     refine WK hK49 <| w_seq fun _ hK51 => w_block <| w_seq fun _ hK52 => ?_
     rcases (show i = 0 ∨ i = 1 ∨ i = 2 from by omega) with rfl | rfl | rfl
     rotate_left 1
     · have hmo : MoreG d (GuardM.mk d.Track d.Posts d.Needs d.Tower (d.Radio + by_)) := wide_more (by omega)
       have hrw : GuardRaw (GuardM.mk d.Track d.Posts d.Needs d.Tower (d.Radio + by_)) := wide_raw hin
       try dsimp only
       refine w_region <| rS (IAB 1 7 rfl te77 rfl (by decide) rfl) <| rS (LP (GuardV.cells (GuardV.mk (TrackV.mk (Slc.mk wa1 d.Track.length wc1)) (Slc.mk wa2 d.Posts.length wc2) (Slc.mk wa3 d.Needs.length wc3) d.Tower (d.Radio + by_))) 0 rfl tk32 rfl rfl rfl) <| AL rfl tz32 fun b93 => SW0 rfl ts32 rfl <| RK hK52 <| w_seq fun _ hK94 => WS fun _ hK95 => rS (LW 0 rfl tk32 rfl rfl) <| rS (CL (ready_c (GuardM.mk d.Track d.Posts d.Needs d.Tower (d.Radio + by_)) wa1 wc1 wa2 wc2 wa3 wc3 (by exact hrw)) (ha_cons (has_own_n (n := d.Track.length) 5 rfl (by simp)) <| ha_cons (has_own_n (n := d.Posts.length) 6 rfl (by simp)) <| ha_cons (has_own_n (n := d.Needs.length) 7 rfl (by simp)) <| ha_nil) rfl) ?_
       refine rS (NT rfl) <| RK hK95 ?_
       refine w_if rfl (fun hg162 => ?_) (fun hg162 => ?_)
       · replace hg162 := XT hg162
         refine w_exit <| k_exit_then <| k_exit_same <| KK hK51 <| w_region <| rS (SX (sd_bin (r := .int .i64 2) rfl rfl rfl (b_add ⟨by decide, by decide⟩)) rfl rfl) <| rS (MV rfl) <| r_nil ?_
         have hb96 : (Value.int .i64 ((2 : Nat) : Int)) = (Value.int .i64 2) := by rfl
         refine k_then (hJ47 ⟨2, (by first | decide | omega)⟩ _ _ _ rfl (by first | decide | omega | (simp; done)) (Sub.cons rfl <| Sub.cons rfl <| Sub.cons rfl <| Sub.cons rfl <| Sub.cons rfl <| Sub.cons rfl <| Sub.cons rfl <| sub_val rfl hb96 <| Sub.nil _) (fun w hs => St.sel [1, 2, 3, 4, 5, 6, 7, 8, 9, 10, 11, 12, 13, 14, 15, 16, 17] rfl rfl hs))
       replace hg162 := XF hg162
       refine WK hK94 <| WS fun _ hK97 => ?_
       have hix := hrw.small hg162.1
       have hmx := hmo.manned hg162.2 hme
       have hlx := Nat.le_trans (calledV_len (d := _) (l := (idxL d.Posts.length (bitS bn)))) hix.pst
       have hly := Nat.le_trans (lacksV_len (d := _) (l := (idxL d.Posts.length (bitS bn)))) hix.nds
       refine rS (LW 0 rfl tk32 rfl rfl) <| rS (MV rfl) <| cX (Lacks_c (GuardM.mk d.Track d.Posts d.Needs d.Tower (d.Radio + by_)) wa1 wc1 wa2 wc2 wa3 wc3 (idxL d.Posts.length (bitS bn)) la lc (by exact hix) (by omega)) (ha_cons (has_own_n (n := d.Track.length) 5 rfl (by simp)) <| ha_cons (has_own_n (n := d.Posts.length) 6 rfl (by simp)) <| ha_cons (has_own_n (n := d.Needs.length) 7 rfl (by simp)) <| ha_cons (has_own_n (n := (idxL d.Posts.length (bitS bn)).length) 13 rfl (by simp)) <| ha_nil) rfl fun y98 hy99 => ?_
       obtain ⟨a100, c101⟩ := y98
       try dsimp only
       refine rS (MV rfl) <| rS (EX rfl) <| rS (EX rfl) <| rS (AG rfl) <| rS (AG rfl) <| RK hK97 <| WS fun _ hK102 => rS (LW 1 rfl tk32 rfl rfl) <| rS (MV rfl) <| cX (Called_c (GuardM.mk d.Track d.Posts d.Needs d.Tower (d.Radio + by_)) wa1 wc1 wa2 wc2 wa3 wc3 (idxL d.Posts.length (bitS bn)) la lc (by exact hix) (by omega)) (ha_cons (has_own_n (n := d.Track.length) 6 rfl (by simp)) <| ha_cons (has_own_n (n := d.Posts.length) 7 rfl (by simp)) <| ha_cons (has_own_n (n := d.Needs.length) 8 rfl (by simp)) <| ha_cons (has_own_n (n := (idxL d.Posts.length (bitS bn)).length) 14 rfl (by simp)) <| ha_nil) rfl fun y103 hy104 => ?_
       obtain ⟨a105, c106⟩ := y103
       try dsimp only
       refine rS (MV rfl) <| rS (EX rfl) <| rS (EX rfl) <| rS (AG rfl) <| rS (AG rfl) <| RK hK102 <| w_seq fun _ hK107 => WS fun _ hK108 => rS (MV rfl) <| rS (BI rfl b_neq) ?_
       refine rS (MV rfl) ?_
       refine r_bool (t := 177) rfl (fun hg177 => ?_) (fun hg177 => ?_)
       · replace hg177 := XT hg177
         exact absurd hmx hg177
       replace hg177 := XF hg177
       refine rS (MV rfl) <| rS (BI rfl b_neq) <| rS (PK rfl) <| RK hK108 ?_
       refine w_if rfl (fun hg180 => ?_) (fun hg180 => ?_)
       · replace hg180 := XT hg180
         exact absurd hmx hg180
       replace hg180 := XF hg180
       refine WK hK107 <| w_seq fun _ hK109 => WS fun _ hK110 => rS (MV rfl) <| rS (LN rfl ut33) <| rS (MV rfl) <| RK hK110 <| w_block ?_
       have hinit : (0 ≤ (lacksV (GuardM.mk d.Track d.Posts d.Needs d.Tower (d.Radio + by_)) (idxL d.Posts.length (bitS bn))).length) := by exact Nat.zero_le _
       refine w_loop (ι := { z : Nat // (z ≤ (lacksV (GuardM.mk d.Track d.Posts d.Needs d.Tower (d.Radio + by_)) (idxL d.Posts.length (bitS bn))).length) }) (fun z => [(5, (Value.pointer (some ⟨b2, 0, none⟩))), (11, (Value.bool true)), (12, (Value.slice la ((idxL d.Posts.length (bitS bn)).length) lc)), (14, (Value.slice a26 ((lacksV d (idxL d.Posts.length (bitS bn))).length) c27)), (16, (Value.slice a31 ((calledV d (idxL d.Posts.length (bitS bn))).length) c32)), (24, (Value.pointer (some ⟨b93, 0, none⟩))), (25, (Value.slice a100 ((lacksV (GuardM.mk d.Track d.Posts d.Needs d.Tower (d.Radio + by_)) (idxL d.Posts.length (bitS bn))).length) c101)), (27, (Value.slice a105 ((calledV (GuardM.mk d.Track d.Posts d.Needs d.Tower (d.Radio + by_)) (idxL d.Posts.length (bitS bn))).length) c106)), (154, (Value.slice (some ⟨b46, 0, none⟩) 3 3)), (155, (Value.int .i64 3)), (156, (Value.int .i64 1)), (181, (Value.slice a100 ((lacksV (GuardM.mk d.Track d.Posts d.Needs d.Tower (d.Radio + by_)) (idxL d.Posts.length (bitS bn))).length) c101)), (182, (Value.int .i64 (((lacksV (GuardM.mk d.Track d.Posts d.Needs d.Tower (d.Radio + by_)) (idxL d.Posts.length (bitS bn))).length : Nat) : Int))), (183, (Value.int .i64 ((z.1 : Nat) : Int)))]) (fun z => [(own a105 c106 3 1 ((calledV (GuardM.mk d.Track d.Posts d.Needs d.Tower (d.Radio + by_)) (idxL d.Posts.length (bitS bn))).map iC)), (own a100 c101 3 1 ((lacksV (GuardM.mk d.Track d.Posts d.Needs d.Tower (d.Radio + by_)) (idxL d.Posts.length (bitS bn))).map iC)), (blk b46 32 ((GuardV.cells (GuardV.mk (TrackV.mk (Slc.mk ba1 d.Track.length bc1)) (Slc.mk a41 ((d.Posts ++ [(PostV.mk yi y.Kind y.Spot y.Delay y.Pace)]).length) c42) (Slc.mk ba3 d.Needs.length bc3) d.Tower d.Radio)) ++ (GuardV.cells (GuardV.mk (TrackV.mk (Slc.mk wa1 d.Track.length wc1)) (Slc.mk wa2 d.Posts.length wc2) (Slc.mk wa3 d.Needs.length wc3) d.Tower (d.Radio + by_))) ++ (GuardV.cells (GuardV.mk (TrackV.mk (Slc.mk fa1 d.Track.length fc1)) (Slc.mk fa2 L.length fc2) (Slc.mk fa3 d.Needs.length fc3) d.Tower d.Radio)))), (own ba1 bc1 110 9 (d.Track.map StretchV.cells)), (own a41 c42 62 7 (List.map PostV.cells (d.Posts ++ [(PostV.mk yi y.Kind y.Spot y.Delay y.Pace)]))), (own ba3 bc3 57 3 (d.Needs.map NeedV.cells)), (own wa1 wc1 110 9 (d.Track.map StretchV.cells)), (own wa2 wc2 62 7 (d.Posts.map PostV.cells)), (own wa3 wc3 57 3 (d.Needs.map NeedV.cells)), (own fa1 fc1 110 9 (d.Track.map StretchV.cells)), (own fa2 fc2 62 7 (L.map PostV.cells)), (own fa3 fc3 57 3 (d.Needs.map NeedV.cells)), (own a31 c32 3 1 ((calledV d (idxL d.Posts.length (bitS bn))).map iC)), (own a26 c27 3 1 ((lacksV d (idxL d.Posts.length (bitS bn))).map iC)), (own la lc 3 1 ((idxL d.Posts.length (bitS bn)).map iC)), (blk b2 32 (GuardV.cells (GuardV.mk (TrackV.mk (Slc.mk kA d.Track.length kC)) (Slc.mk pA d.Posts.length pC) (Slc.mk nA d.Needs.length nC) d.Tower d.Radio))), (rd kA d.Track.length 9 (d.Track.map StretchV.cells)).ro, (rd pA d.Posts.length 7 (d.Posts.map PostV.cells)).ro, (rd nA d.Needs.length 3 (d.Needs.map NeedV.cells)).ro]) (fun z => (lacksV (GuardM.mk d.Track d.Posts d.Needs d.Tower (d.Radio + by_)) (idxL d.Posts.length (bitS bn))).length - z.1) ⟨0, hinit⟩ (Sub.cons rfl <| Sub.cons rfl <| Sub.cons rfl <| Sub.cons rfl <| Sub.cons rfl <| Sub.cons rfl <| Sub.cons rfl <| Sub.cons rfl <| Sub.cons rfl <| Sub.cons rfl <| Sub.cons rfl <| Sub.cons rfl <| Sub.cons rfl <| Sub.cons rfl <| Sub.nil _) (fun w hs => St.sel [0, 1, 3, 4, 5, 6, 7, 8, 9, 10, 11, 12, 13, 14, 15, 16, 17, 18, 19] rfl rfl hs) ?_
       clear hinit
       rintro ⟨u, hl33_0⟩ J111 hJ111
       try dsimp only
       refine WS fun _ hK112 => rS (BI rfl b_lss) <| RK hK112 <| w_seq fun _ hK113 => ?_
       refine w_if rfl (fun h114 => ?_) (fun h114 => ?_)
       · replace h114 := DT h114
         refine WK hK113 <| w_seq fun _ hK115 => w_block <| WS fun _ hK116 => ?_
         obtain ⟨x117, hx118⟩ : ∃ y_, (lacksV (GuardM.mk d.Track d.Posts d.Needs d.Tower (d.Radio + by_)) (idxL d.Posts.length (bitS bn)))[u]? = some y_ := ⟨(lacksV (GuardM.mk d.Track d.Posts d.Needs d.Tower (d.Radio + by_)) (idxL d.Posts.length (bitS bn)))[u]'(by omega), List.getElem?_eq_getElem _⟩
         have hx118m : ((lacksV (GuardM.mk d.Track d.Posts d.Needs d.Tower (d.Radio + by_)) (idxL d.Posts.length (bitS bn))).map iC)[u]? = some (iC x117) := by rw [List.getElem?_map, hx118]; rfl
         refine rS (IA u rfl (has_own_n (n := (lacksV (GuardM.mk d.Track d.Posts d.Needs d.Tower (d.Radio + by_)) (idxL d.Posts.length (bitS bn))).length) 1 rfl (by simp)) te33 (by decide) (by omega) (by omega)) <| rS (LE1 u 0 (Value.int .i64 x117) rfl tk3 (has_own_n (n := (lacksV (GuardM.mk d.Track d.Posts d.Needs d.Tower (d.Radio + by_)) (idxL d.Posts.length (bitS bn))).length) 1 rfl (by simp)) hx118m rfl (by decide) rfl) <| rS (AG rfl) <| RK hK116 <| WS fun _ hK119 => rS (MV rfl) <| rS (MV rfl) <| rS (CL (has_c (lacksV d (idxL d.Posts.length (bitS bn))) a26 c27 x117 (by exact Nat.le_trans lacksV_len hin.nds)) (ha_cons (has_own_n (n := (lacksV d (idxL d.Posts.length (bitS bn))).length) 13 rfl (by simp)) <| ha_nil) rfl) <| rS (NT rfl) <| RK hK119 ?_
         refine w_if rfl (fun hg190 => ?_) (fun hg190 => ?_)
         · replace hg190 := XT hg190
           exact absurd (hmo.lacks hg162.2 hme _ (List.mem_of_getElem? (by assumption))) hg190
         replace hg190 := XF hg190
         refine w_skip <| k_block <| KK hK115 <| w_region <| rS (BI rfl (b_add ⟨by omega, by omega⟩)) <| rS (MV rfl) <| r_nil ?_
         have hb120 : (Value.int .i64 (((u + 1) : Nat) : Int)) = (Value.int .i64 (((u : Nat) : Int) + 1)) := by exact congrArg (Value.int .i64) (by omega)
         refine k_then (hJ111 ⟨(u + 1), (by first | omega | (simp only []; omega))⟩ _ _ _ rfl (by first | omega | (simp; omega)) (Sub.cons rfl <| Sub.cons rfl <| Sub.cons rfl <| Sub.cons rfl <| Sub.cons rfl <| Sub.cons rfl <| Sub.cons rfl <| Sub.cons rfl <| Sub.cons rfl <| Sub.cons rfl <| Sub.cons rfl <| Sub.cons rfl <| Sub.cons rfl <| sub_val rfl hb120 <| Sub.nil _) (fun w hs => St.sel [0, 1, 2, 3, 4, 5, 6, 7, 8, 9, 10, 11, 12, 13, 14, 15, 16, 17, 18] rfl rfl hs))
       replace h114 := DF h114
       refine w_exit <| k_exit_then <| k_exit_then <| k_exit_same <| KK hK109 <| WS fun _ hK121 => rS (MV rfl) <| rS (LN rfl ut33) <| rS (MV rfl) <| RK hK121 ?_
       refine w_block ?_
       have hinit : (0 ≤ (calledV d (idxL d.Posts.length (bitS bn))).length) := by exact Nat.zero_le _
       refine w_loop (ι := { z : Nat // (z ≤ (calledV d (idxL d.Posts.length (bitS bn))).length) }) (fun z => [(5, (Value.pointer (some ⟨b2, 0, none⟩))), (11, (Value.bool true)), (12, (Value.slice la ((idxL d.Posts.length (bitS bn)).length) lc)), (14, (Value.slice a26 ((lacksV d (idxL d.Posts.length (bitS bn))).length) c27)), (16, (Value.slice a31 ((calledV d (idxL d.Posts.length (bitS bn))).length) c32)), (24, (Value.pointer (some ⟨b93, 0, none⟩))), (27, (Value.slice a105 ((calledV (GuardM.mk d.Track d.Posts d.Needs d.Tower (d.Radio + by_)) (idxL d.Posts.length (bitS bn))).length) c106)), (154, (Value.slice (some ⟨b46, 0, none⟩) 3 3)), (155, (Value.int .i64 3)), (156, (Value.int .i64 1)), (192, (Value.slice a31 ((calledV d (idxL d.Posts.length (bitS bn))).length) c32)), (193, (Value.int .i64 (((calledV d (idxL d.Posts.length (bitS bn))).length : Nat) : Int))), (194, (Value.int .i64 ((z.1 : Nat) : Int)))]) (fun z => [(own a105 c106 3 1 ((calledV (GuardM.mk d.Track d.Posts d.Needs d.Tower (d.Radio + by_)) (idxL d.Posts.length (bitS bn))).map iC)), (own a100 c101 3 1 ((lacksV (GuardM.mk d.Track d.Posts d.Needs d.Tower (d.Radio + by_)) (idxL d.Posts.length (bitS bn))).map iC)), (blk b46 32 ((GuardV.cells (GuardV.mk (TrackV.mk (Slc.mk ba1 d.Track.length bc1)) (Slc.mk a41 ((d.Posts ++ [(PostV.mk yi y.Kind y.Spot y.Delay y.Pace)]).length) c42) (Slc.mk ba3 d.Needs.length bc3) d.Tower d.Radio)) ++ (GuardV.cells (GuardV.mk (TrackV.mk (Slc.mk wa1 d.Track.length wc1)) (Slc.mk wa2 d.Posts.length wc2) (Slc.mk wa3 d.Needs.length wc3) d.Tower (d.Radio + by_))) ++ (GuardV.cells (GuardV.mk (TrackV.mk (Slc.mk fa1 d.Track.length fc1)) (Slc.mk fa2 L.length fc2) (Slc.mk fa3 d.Needs.length fc3) d.Tower d.Radio)))), (own ba1 bc1 110 9 (d.Track.map StretchV.cells)), (own a41 c42 62 7 (List.map PostV.cells (d.Posts ++ [(PostV.mk yi y.Kind y.Spot y.Delay y.Pace)]))), (own ba3 bc3 57 3 (d.Needs.map NeedV.cells)), (own wa1 wc1 110 9 (d.Track.map StretchV.cells)), (own wa2 wc2 62 7 (d.Posts.map PostV.cells)), (own wa3 wc3 57 3 (d.Needs.map NeedV.cells)), (own fa1 fc1 110 9 (d.Track.map StretchV.cells)), (own fa2 fc2 62 7 (L.map PostV.cells)), (own fa3 fc3 57 3 (d.Needs.map NeedV.cells)), (own a31 c32 3 1 ((calledV d (idxL d.Posts.length (bitS bn))).map iC)), (own a26 c27 3 1 ((lacksV d (idxL d.Posts.length (bitS bn))).map iC)), (own la lc 3 1 ((idxL d.Posts.length (bitS bn)).map iC)), (blk b2 32 (GuardV.cells (GuardV.mk (TrackV.mk (Slc.mk kA d.Track.length kC)) (Slc.mk pA d.Posts.length pC) (Slc.mk nA d.Needs.length nC) d.Tower d.Radio))), (rd kA d.Track.length 9 (d.Track.map StretchV.cells)).ro, (rd pA d.Posts.length 7 (d.Posts.map PostV.cells)).ro, (rd nA d.Needs.length 3 (d.Needs.map NeedV.cells)).ro]) (fun z => (calledV d (idxL d.Posts.length (bitS bn))).length - z.1) ⟨0, hinit⟩ (Sub.cons rfl <| Sub.cons rfl <| Sub.cons rfl <| Sub.cons rfl <| Sub.cons rfl <| Sub.cons rfl <| Sub.cons rfl <| Sub.cons rfl <| Sub.cons rfl <| Sub.cons rfl <| Sub.cons rfl <| Sub.cons rfl <| Sub.cons rfl <| Sub.nil _) (fun w hs => St.sel [0, 1, 2, 3, 4, 5, 6, 7, 8, 9, 10, 11, 12, 13, 14, 15, 16, 17, 18] rfl rfl hs) ?_
       clear hinit
       rintro ⟨u, hl39_0⟩ J122 hJ122
       try dsimp only
       refine WS fun _ hK123 => rS (BI rfl b_lss) <| RK hK123 <| w_seq fun _ hK124 => ?_
       refine w_if rfl (fun h125 => ?_) (fun h125 => ?_)
       rotate_left 1
       · replace h125 := DF h125
         refine w_exit <| k_exit_then <| k_exit_then <| k_exit_same <| k_block <| KK hK51 <| w_region <| rS (SX (sd_bin (r := .int .i64 2) rfl rfl rfl (b_add ⟨by decide, by decide⟩)) rfl rfl) <| rS (MV rfl) <| r_nil ?_
         have hb132 : (Value.int .i64 ((2 : Nat) : Int)) = (Value.int .i64 2) := by rfl
         refine k_then (hJ47 ⟨2, (by first | decide | omega)⟩ _ _ _ rfl (by first | decide | omega | (simp; done)) (Sub.cons rfl <| Sub.cons rfl <| Sub.cons rfl <| Sub.cons rfl <| Sub.cons rfl <| Sub.cons rfl <| Sub.cons rfl <| sub_val rfl hb132 <| Sub.nil _) (fun w hs => St.sel [2, 3, 4, 5, 6, 7, 8, 9, 10, 11, 12, 13, 14, 15, 16, 17, 18] rfl rfl hs))
       replace h125 := DT h125
       refine WK hK124 <| w_seq fun _ hK126 => w_block <| WS fun _ hK127 => ?_
       obtain ⟨x128, hx129⟩ : ∃ y_, (calledV d (idxL d.Posts.length (bitS bn)))[u]? = some y_ := ⟨(calledV d (idxL d.Posts.length (bitS bn)))[u]'(by omega), List.getElem?_eq_getElem _⟩
       have hx129m : ((calledV d (idxL d.Posts.length (bitS bn))).map iC)[u]? = some (iC x128) := by rw [List.getElem?_map, hx129]; rfl
       refine rS (IA u rfl (has_own_n (n := (calledV d (idxL d.Posts.length (bitS bn))).length) 12 rfl (by simp)) te33 (by decide) (by omega) (by omega)) <| rS (LE1 u 0 (Value.int .i64 x128) rfl tk3 (has_own_n (n := (calledV d (idxL d.Posts.length (bitS bn))).length) 12 rfl (by simp)) hx129m rfl (by decide) rfl) <| rS (AG rfl) <| RK hK127 <| WS fun _ hK130 => rS (MV rfl) <| rS (MV rfl) <| rS (CL (has_c (calledV (GuardM.mk d.Track d.Posts d.Needs d.Tower (d.Radio + by_)) (idxL d.Posts.length (bitS bn))) a105 c106 x128 (by exact Nat.le_trans calledV_len hix.pst)) (ha_cons (has_own_n (n := (calledV (GuardM.mk d.Track d.Posts d.Needs d.Tower (d.Radio + by_)) (idxL d.Posts.length (bitS bn))).length) 0 rfl (by simp)) <| ha_nil) rfl) <| rS (NT rfl) <| RK hK130 ?_
       refine w_if rfl (fun hg201 => ?_) (fun hg201 => ?_)
       · replace hg201 := XT hg201
         exact absurd (hmo.called hg162.2 hme _ (List.mem_of_getElem? (by assumption))) hg201
       replace hg201 := XF hg201
       refine w_skip <| k_block <| KK hK126 <| w_region <| rS (BI rfl (b_add ⟨by omega, by omega⟩)) <| rS (MV rfl) <| r_nil ?_
       have hb131 : (Value.int .i64 (((u + 1) : Nat) : Int)) = (Value.int .i64 (((u : Nat) : Int) + 1)) := by exact congrArg (Value.int .i64) (by omega)
       refine k_then (hJ122 ⟨(u + 1), (by first | omega | (simp only []; omega))⟩ _ _ _ rfl (by first | omega | (simp; omega)) (Sub.cons rfl <| Sub.cons rfl <| Sub.cons rfl <| Sub.cons rfl <| Sub.cons rfl <| Sub.cons rfl <| Sub.cons rfl <| Sub.cons rfl <| Sub.cons rfl <| Sub.cons rfl <| Sub.cons rfl <| Sub.cons rfl <| sub_val rfl hb131 <| Sub.nil _) (fun w hs => St.sel [0, 1, 2, 3, 4, 5, 6, 7, 8, 9, 10, 11, 12, 13, 14, 15, 16, 17, 18] rfl rfl hs))
     · have hmo : MoreG d (GuardM.mk d.Track L d.Needs d.Tower d.Radio) := hjm
       have hrw : GuardRaw (GuardM.mk d.Track L d.Needs d.Tower d.Radio) := hjr
       try dsimp only
       refine w_region <| rS (IAB 2 14 rfl te77 rfl (by decide) rfl) <| rS (LP (GuardV.cells (GuardV.mk (TrackV.mk (Slc.mk fa1 d.Track.length fc1)) (Slc.mk fa2 L.length fc2) (Slc.mk fa3 d.Needs.length fc3) d.Tower d.Radio)) 0 rfl tk32 rfl rfl rfl) <| AL rfl tz32 fun b133 => SW0 rfl ts32 rfl <| RK hK52 <| w_seq fun _ hK134 => WS fun _ hK135 => rS (LW 0 rfl tk32 rfl rfl) <| rS (CL (ready_c (GuardM.mk d.Track L d.Needs d.Tower d.Radio) fa1 fc1 fa2 fc2 fa3 fc3 (by exact hrw)) (ha_cons (has_own_n (n := d.Track.length) 8 rfl (by simp)) <| ha_cons (has_own_n (n := L.length) 9 rfl (by simp)) <| ha_cons (has_own_n (n := d.Needs.length) 10 rfl (by simp)) <| ha_nil) rfl) ?_
       refine rS (NT rfl) <| RK hK135 ?_
       refine w_if rfl (fun hg162 => ?_) (fun hg162 => ?_)
       · replace hg162 := XT hg162
         refine w_exit <| k_exit_then <| k_exit_same <| KK hK51 <| w_region <| rS (SX (sd_bin (r := .int .i64 3) rfl rfl rfl (b_add ⟨by decide, by decide⟩)) rfl rfl) <| rS (MV rfl) <| r_nil ?_
         have hb136 : (Value.int .i64 ((3 : Nat) : Int)) = (Value.int .i64 3) := by rfl
         refine k_then (hJ47 ⟨3, (by first | decide | omega)⟩ _ _ _ rfl (by first | decide | omega | (simp; done)) (Sub.cons rfl <| Sub.cons rfl <| Sub.cons rfl <| Sub.cons rfl <| Sub.cons rfl <| Sub.cons rfl <| Sub.cons rfl <| sub_val rfl hb136 <| Sub.nil _) (fun w hs => St.sel [1, 2, 3, 4, 5, 6, 7, 8, 9, 10, 11, 12, 13, 14, 15, 16, 17] rfl rfl hs))
       replace hg162 := XF hg162
       refine WK hK134 <| WS fun _ hK137 => ?_
       have hix := hrw.small hg162.1
       have hmx := hmo.manned hg162.2 hme
       have hlx := Nat.le_trans (calledV_len (d := _) (l := (idxL d.Posts.length (bitS bn)))) hix.pst
       have hly := Nat.le_trans (lacksV_len (d := _) (l := (idxL d.Posts.length (bitS bn)))) hix.nds
       refine rS (LW 0 rfl tk32 rfl rfl) <| rS (MV rfl) <| cX (Lacks_c (GuardM.mk d.Track L d.Needs d.Tower d.Radio) fa1 fc1 fa2 fc2 fa3 fc3 (idxL d.Posts.length (bitS bn)) la lc (by exact hix) (by omega)) (ha_cons (has_own_n (n := d.Track.length) 8 rfl (by simp)) <| ha_cons (has_own_n (n := L.length) 9 rfl (by simp)) <| ha_cons (has_own_n (n := d.Needs.length) 10 rfl (by simp)) <| ha_cons (has_own_n (n := (idxL d.Posts.length (bitS bn)).length) 13 rfl (by simp)) <| ha_nil) rfl fun y138 hy139 => ?_
       obtain ⟨a140, c141⟩ := y138
       try dsimp only
       refine rS (MV rfl) <| rS (EX rfl) <| rS (EX rfl) <| rS (AG rfl) <| rS (AG rfl) <| RK hK137 <| WS fun _ hK142 => rS (LW 1 rfl tk32 rfl rfl) <| rS (MV rfl) <| cX (Called_c (GuardM.mk d.Track L d.Needs d.Tower d.Radio) fa1 fc1 fa2 fc2 fa3 fc3 (idxL d.Posts.length (bitS bn)) la lc (by exact hix) (by omega)) (ha_cons (has_own_n (n := d.Track.length) 9 rfl (by simp)) <| ha_cons (has_own_n (n := L.length) 10 rfl (by simp)) <| ha_cons (has_own_n (n := d.Needs.length) 11 rfl (by simp)) <| ha_cons (has_own_n (n := (idxL d.Posts.length (bitS bn)).length) 14 rfl (by simp)) <| ha_nil) rfl fun y143 hy144 => ?_
       obtain ⟨a145, c146⟩ := y143
       try dsimp only
       refine rS (MV rfl) <| rS (EX rfl) <| rS (EX rfl) <| rS (AG rfl) <| rS (AG rfl) <| RK hK142 <| w_seq fun _ hK147 => WS fun _ hK148 => rS (MV rfl) <| rS (BI rfl b_neq) ?_
       refine rS (MV rfl) ?_
       refine r_bool (t := 177) rfl (fun hg177 => ?_) (fun hg177 => ?_)
       · replace hg177 := XT hg177
         exact absurd hmx hg177
       replace hg177 := XF hg177
       refine rS (MV rfl) <| rS (BI rfl b_neq) <| rS (PK rfl) <| RK hK148 ?_
       refine w_if rfl (fun hg180 => ?_) (fun hg180 => ?_)
       · replace hg180 := XT hg180
         exact absurd hmx hg180
       replace hg180 := XF hg180
       refine WK hK147 <| w_seq fun _ hK149 => WS fun _ hK150 => rS (MV rfl) <| rS (LN rfl ut33) <| rS (MV rfl) <| RK hK150 <| w_block ?_
       have hinit : (0 ≤ (lacksV (GuardM.mk d.Track L d.Needs d.Tower d.Radio) (idxL d.Posts.length (bitS bn))).length) := by exact Nat.zero_le _
       refine w_loop (ι := { z : Nat // (z ≤ (lacksV (GuardM.mk d.Track L d.Needs d.Tower d.Radio) (idxL d.Posts.length (bitS bn))).length) }) (fun z => [(5, (Value.pointer (some ⟨b2, 0, none⟩))), (11, (Value.bool true)), (12, (Value.slice la ((idxL d.Posts.length (bitS bn)).length) lc)), (14, (Value.slice a26 ((lacksV d (idxL d.Posts.length (bitS bn))).length) c27)), (16, (Value.slice a31 ((calledV d (idxL d.Posts.length (bitS bn))).length) c32)), (24, (Value.pointer (some ⟨b133, 0, none⟩))), (25, (Value.slice a140 ((lacksV (GuardM.mk d.Track L d.Needs d.Tower d.Radio) (idxL d.Posts.length (bitS bn))).length) c141)), (27, (Value.slice a145 ((calledV (GuardM.mk d.Track L d.Needs d.Tower d.Radio) (idxL d.Posts.length (bitS bn))).length) c146)), (154, (Value.slice (some ⟨b46, 0, none⟩) 3 3)), (155, (Value.int .i64 3)), (156, (Value.int .i64 2)), (181, (Value.slice a140 ((lacksV (GuardM.mk d.Track L d.Needs d.Tower d.Radio) (idxL d.Posts.length (bitS bn))).length) c141)), (182, (Value.int .i64 (((lacksV (GuardM.mk d.Track L d.Needs d.Tower d.Radio) (idxL d.Posts.length (bitS bn))).length : Nat) : Int))), (183, (Value.int .i64 ((z.1 : Nat) : Int)))]) (fun z => [(own a145 c146 3 1 ((calledV (GuardM.mk d.Track L d.Needs d.Tower d.Radio) (idxL d.Posts.length (bitS bn))).map iC)), (own a140 c141 3 1 ((lacksV (GuardM.mk d.Track L d.Needs d.Tower d.Radio) (idxL d.Posts.length (bitS bn))).map iC)), (blk b46 32 ((GuardV.cells (GuardV.mk (TrackV.mk (Slc.mk ba1 d.Track.length bc1)) (Slc.mk a41 ((d.Posts ++ [(PostV.mk yi y.Kind y.Spot y.Delay y.Pace)]).length) c42) (Slc.mk ba3 d.Needs.length bc3) d.Tower d.Radio)) ++ (GuardV.cells (GuardV.mk (TrackV.mk (Slc.mk wa1 d.Track.length wc1)) (Slc.mk wa2 d.Posts.length wc2) (Slc.mk wa3 d.Needs.length wc3) d.Tower (d.Radio + by_))) ++ (GuardV.cells (GuardV.mk (TrackV.mk (Slc.mk fa1 d.Track.length fc1)) (Slc.mk fa2 L.length fc2) (Slc.mk fa3 d.Needs.length fc3) d.Tower d.Radio)))), (own ba1 bc1 110 9 (d.Track.map StretchV.cells)), (own a41 c42 62 7 (List.map PostV.cells (d.Posts ++ [(PostV.mk yi y.Kind y.Spot y.Delay y.Pace)]))), (own ba3 bc3 57 3 (d.Needs.map NeedV.cells)), (own wa1 wc1 110 9 (d.Track.map StretchV.cells)), (own wa2 wc2 62 7 (d.Posts.map PostV.cells)), (own wa3 wc3 57 3 (d.Needs.map NeedV.cells)), (own fa1 fc1 110 9 (d.Track.map StretchV.cells)), (own fa2 fc2 62 7 (L.map PostV.cells)), (own fa3 fc3 57 3 (d.Needs.map NeedV.cells)), (own a31 c32 3 1 ((calledV d (idxL d.Posts.length (bitS bn))).map iC)), (own a26 c27 3 1 ((lacksV d (idxL d.Posts.length (bitS bn))).map iC)), (own la lc 3 1 ((idxL d.Posts.length (bitS bn)).map iC)), (blk b2 32 (GuardV.cells (GuardV.mk (TrackV.mk (Slc.mk kA d.Track.length kC)) (Slc.mk pA d.Posts.length pC) (Slc.mk nA d.Needs.length nC) d.Tower d.Radio))), (rd kA d.Track.length 9 (d.Track.map StretchV.cells)).ro, (rd pA d.Posts.length 7 (d.Posts.map PostV.cells)).ro, (rd nA d.Needs.length 3 (d.Needs.map NeedV.cells)).ro]) (fun z => (lacksV (GuardM.mk d.Track L d.Needs d.Tower d.Radio) (idxL d.Posts.length (bitS bn))).length - z.1) ⟨0, hinit⟩ (Sub.cons rfl <| Sub.cons rfl <| Sub.cons rfl <| Sub.cons rfl <| Sub.cons rfl <| Sub.cons rfl <| Sub.cons rfl <| Sub.cons rfl <| Sub.cons rfl <| Sub.cons rfl <| Sub.cons rfl <| Sub.cons rfl <| Sub.cons rfl <| Sub.cons rfl <| Sub.nil _) (fun w hs => St.sel [0, 1, 3, 4, 5, 6, 7, 8, 9, 10, 11, 12, 13, 14, 15, 16, 17, 18, 19] rfl rfl hs) ?_
       clear hinit
       rintro ⟨u, hl33_0⟩ J151 hJ151
       try dsimp only
       refine WS fun _ hK152 => rS (BI rfl b_lss) <| RK hK152 <| w_seq fun _ hK153 => ?_
       refine w_if rfl (fun h154 => ?_) (fun h154 => ?_)
       · replace h154 := DT h154
         refine WK hK153 <| w_seq fun _ hK155 => w_block <| WS fun _ hK156 => ?_
         obtain ⟨x157, hx158⟩ : ∃ y_, (lacksV (GuardM.mk d.Track L d.Needs d.Tower d.Radio) (idxL d.Posts.length (bitS bn)))[u]? = some y_ := ⟨(lacksV (GuardM.mk d.Track L d.Needs d.Tower d.Radio) (idxL d.Posts.length (bitS bn)))[u]'(by omega), List.getElem?_eq_getElem _⟩
         have hx158m : ((lacksV (GuardM.mk d.Track L d.Needs d.Tower d.Radio) (idxL d.Posts.length (bitS bn))).map iC)[u]? = some (iC x157) := by rw [List.getElem?_map, hx158]; rfl
         refine rS (IA u rfl (has_own_n (n := (lacksV (GuardM.mk d.Track L d.Needs d.Tower d.Radio) (idxL d.Posts.length (bitS bn))).length) 1 rfl (by simp)) te33 (by decide) (by omega) (by omega)) <| rS (LE1 u 0 (Value.int .i64 x157) rfl tk3 (has_own_n (n := (lacksV (GuardM.mk d.Track L d.Needs d.Tower d.Radio) (idxL d.Posts.length (bitS bn))).length) 1 rfl (by simp)) hx158m rfl (by decide) rfl) <| rS (AG rfl) <| RK hK156 <| WS fun _ hK159 => rS (MV rfl) <| rS (MV rfl) <| rS (CL (has_c (lacksV d (idxL d.Posts.length (bitS bn))) a26 c27 x157 (by exact Nat.le_trans lacksV_len hin.nds)) (ha_cons (has_own_n (n := (lacksV d (idxL d.Posts.length (bitS bn))).length) 13 rfl (by simp)) <| ha_nil) rfl) <| rS (NT rfl) <| RK hK159 ?_
         refine w_if rfl (fun hg190 => ?_) (fun hg190 => ?_)
         · replace hg190 := XT hg190
           exact absurd (hmo.lacks hg162.2 hme _ (List.mem_of_getElem? (by assumption))) hg190
         replace hg190 := XF hg190
         refine w_skip <| k_block <| KK hK155 <| w_region <| rS (BI rfl (b_add ⟨by omega, by omega⟩)) <| rS (MV rfl) <| r_nil ?_
         have hb160 : (Value.int .i64 (((u + 1) : Nat) : Int)) = (Value.int .i64 (((u : Nat) : Int) + 1)) := by exact congrArg (Value.int .i64) (by omega)
         refine k_then (hJ151 ⟨(u + 1), (by first | omega | (simp only []; omega))⟩ _ _ _ rfl (by first | omega | (simp; omega)) (Sub.cons rfl <| Sub.cons rfl <| Sub.cons rfl <| Sub.cons rfl <| Sub.cons rfl <| Sub.cons rfl <| Sub.cons rfl <| Sub.cons rfl <| Sub.cons rfl <| Sub.cons rfl <| Sub.cons rfl <| Sub.cons rfl <| Sub.cons rfl <| sub_val rfl hb160 <| Sub.nil _) (fun w hs => St.sel [0, 1, 2, 3, 4, 5, 6, 7, 8, 9, 10, 11, 12, 13, 14, 15, 16, 17, 18] rfl rfl hs))
       replace h154 := DF h154
       refine w_exit <| k_exit_then <| k_exit_then <| k_exit_same <| KK hK149 <| WS fun _ hK161 => rS (MV rfl) <| rS (LN rfl ut33) <| rS (MV rfl) <| RK hK161 ?_
       refine w_block ?_
       have hinit : (0 ≤ (calledV d (idxL d.Posts.length (bitS bn))).length) := by exact Nat.zero_le _
       refine w_loop (ι := { z : Nat // (z ≤ (calledV d (idxL d.Posts.length (bitS bn))).length) }) (fun z => [(5, (Value.pointer (some ⟨b2, 0, none⟩))), (11, (Value.bool true)), (12, (Value.slice la ((idxL d.Posts.length (bitS bn)).length) lc)), (14, (Value.slice a26 ((lacksV d (idxL d.Posts.length (bitS bn))).length) c27)), (16, (Value.slice a31 ((calledV d (idxL d.Posts.length (bitS bn))).length) c32)), (24, (Value.pointer (some ⟨b133, 0, none⟩))), (27, (Value.slice a145 ((calledV (GuardM.mk d.Track L d.Needs d.Tower d.Radio) (idxL d.Posts.length (bitS bn))).length) c146)), (154, (Value.slice (some ⟨b46, 0, none⟩) 3 3)), (155, (Value.int .i64 3)), (156, (Value.int .i64 2)), (192, (Value.slice a31 ((calledV d (idxL d.Posts.length (bitS bn))).length) c32)), (193, (Value.int .i64 (((calledV d (idxL d.Posts.length (bitS bn))).length : Nat) : Int))), (194, (Value.int .i64 ((z.1 : Nat) : Int)))]) (fun z => [(own a145 c146 3 1 ((calledV (GuardM.mk d.Track L d.Needs d.Tower d.Radio) (idxL d.Posts.length (bitS bn))).map iC)), (own a140 c141 3 1 ((lacksV (GuardM.mk d.Track L d.Needs d.Tower d.Radio) (idxL d.Posts.length (bitS bn))).map iC)), (blk b46 32 ((GuardV.cells (GuardV.mk (TrackV.mk (Slc.mk ba1 d.Track.length bc1)) (Slc.mk a41 ((d.Posts ++ [(PostV.mk yi y.Kind y.Spot y.Delay y.Pace)]).length) c42) (Slc.mk ba3 d.Needs.length bc3) d.Tower d.Radio)) ++ (GuardV.cells (GuardV.mk (TrackV.mk (Slc.mk wa1 d.Track.length wc1)) (Slc.mk wa2 d.Posts.length wc2) (Slc.mk wa3 d.Needs.length wc3) d.Tower (d.Radio + by_))) ++ (GuardV.cells (GuardV.mk (TrackV.mk (Slc.mk fa1 d.Track.length fc1)) (Slc.mk fa2 L.length fc2) (Slc.mk fa3 d.Needs.length fc3) d.Tower d.Radio)))), (own ba1 bc1 110 9 (d.Track.map StretchV.cells)), (own a41 c42 62 7 (List.map PostV.cells (d.Posts ++ [(PostV.mk yi y.Kind y.Spot y.Delay y.Pace)]))), (own ba3 bc3 57 3 (d.Needs.map NeedV.cells)), (own wa1 wc1 110 9 (d.Track.map StretchV.cells)), (own wa2 wc2 62 7 (d.Posts.map PostV.cells)), (own wa3 wc3 57 3 (d.Needs.map NeedV.cells)), (own fa1 fc1 110 9 (d.Track.map StretchV.cells)), (own fa2 fc2 62 7 (L.map PostV.cells)), (own fa3 fc3 57 3 (d.Needs.map NeedV.cells)), (own a31 c32 3 1 ((calledV d (idxL d.Posts.length (bitS bn))).map iC)), (own a26 c27 3 1 ((lacksV d (idxL d.Posts.length (bitS bn))).map iC)), (own la lc 3 1 ((idxL d.Posts.length (bitS bn)).map iC)), (blk b2 32 (GuardV.cells (GuardV.mk (TrackV.mk (Slc.mk kA d.Track.length kC)) (Slc.mk pA d.Posts.length pC) (Slc.mk nA d.Needs.length nC) d.Tower d.Radio))), (rd kA d.Track.length 9 (d.Track.map StretchV.cells)).ro, (rd pA d.Posts.length 7 (d.Posts.map PostV.cells)).ro, (rd nA d.Needs.length 3 (d.Needs.map NeedV.cells)).ro]) (fun z => (calledV d (idxL d.Posts.length (bitS bn))).length - z.1) ⟨0, hinit⟩ (Sub.cons rfl <| Sub.cons rfl <| Sub.cons rfl <| Sub.cons rfl <| Sub.cons rfl <| Sub.cons rfl <| Sub.cons rfl <| Sub.cons rfl <| Sub.cons rfl <| Sub.cons rfl <| Sub.cons rfl <| Sub.cons rfl <| Sub.cons rfl <| Sub.nil _) (fun w hs => St.sel [0, 1, 2, 3, 4, 5, 6, 7, 8, 9, 10, 11, 12, 13, 14, 15, 16, 17, 18] rfl rfl hs) ?_
       clear hinit
       rintro ⟨u, hl39_0⟩ J162 hJ162
       try dsimp only
       refine WS fun _ hK163 => rS (BI rfl b_lss) <| RK hK163 <| w_seq fun _ hK164 => ?_
       refine w_if rfl (fun h165 => ?_) (fun h165 => ?_)
       rotate_left 1
       · replace h165 := DF h165
         refine w_exit <| k_exit_then <| k_exit_then <| k_exit_same <| k_block <| KK hK51 <| w_region <| rS (SX (sd_bin (r := .int .i64 3) rfl rfl rfl (b_add ⟨by decide, by decide⟩)) rfl rfl) <| rS (MV rfl) <| r_nil ?_
         have hb172 : (Value.int .i64 ((3 : Nat) : Int)) = (Value.int .i64 3) := by rfl
         refine k_then (hJ47 ⟨3, (by first | decide | omega)⟩ _ _ _ rfl (by first | decide | omega | (simp; done)) (Sub.cons rfl <| Sub.cons rfl <| Sub.cons rfl <| Sub.cons rfl <| Sub.cons rfl <| Sub.cons rfl <| Sub.cons rfl <| sub_val rfl hb172 <| Sub.nil _) (fun w hs => St.sel [2, 3, 4, 5, 6, 7, 8, 9, 10, 11, 12, 13, 14, 15, 16, 17, 18] rfl rfl hs))
       replace h165 := DT h165
       refine WK hK164 <| w_seq fun _ hK166 => w_block <| WS fun _ hK167 => ?_
       obtain ⟨x168, hx169⟩ : ∃ y_, (calledV d (idxL d.Posts.length (bitS bn)))[u]? = some y_ := ⟨(calledV d (idxL d.Posts.length (bitS bn)))[u]'(by omega), List.getElem?_eq_getElem _⟩
       have hx169m : ((calledV d (idxL d.Posts.length (bitS bn))).map iC)[u]? = some (iC x168) := by rw [List.getElem?_map, hx169]; rfl
       refine rS (IA u rfl (has_own_n (n := (calledV d (idxL d.Posts.length (bitS bn))).length) 12 rfl (by simp)) te33 (by decide) (by omega) (by omega)) <| rS (LE1 u 0 (Value.int .i64 x168) rfl tk3 (has_own_n (n := (calledV d (idxL d.Posts.length (bitS bn))).length) 12 rfl (by simp)) hx169m rfl (by decide) rfl) <| rS (AG rfl) <| RK hK167 <| WS fun _ hK170 => rS (MV rfl) <| rS (MV rfl) <| rS (CL (has_c (calledV (GuardM.mk d.Track L d.Needs d.Tower d.Radio) (idxL d.Posts.length (bitS bn))) a145 c146 x168 (by exact Nat.le_trans calledV_len hix.pst)) (ha_cons (has_own_n (n := (calledV (GuardM.mk d.Track L d.Needs d.Tower d.Radio) (idxL d.Posts.length (bitS bn))).length) 0 rfl (by simp)) <| ha_nil) rfl) <| rS (NT rfl) <| RK hK170 ?_
       refine w_if rfl (fun hg201 => ?_) (fun hg201 => ?_)
       · replace hg201 := XT hg201
         exact absurd (hmo.called hg162.2 hme _ (List.mem_of_getElem? (by assumption))) hg201
       replace hg201 := XF hg201
       refine w_skip <| k_block <| KK hK166 <| w_region <| rS (BI rfl (b_add ⟨by omega, by omega⟩)) <| rS (MV rfl) <| r_nil ?_
       have hb171 : (Value.int .i64 (((u + 1) : Nat) : Int)) = (Value.int .i64 (((u : Nat) : Int) + 1)) := by exact congrArg (Value.int .i64) (by omega)
       refine k_then (hJ162 ⟨(u + 1), (by first | omega | (simp only []; omega))⟩ _ _ _ rfl (by first | omega | (simp; omega)) (Sub.cons rfl <| Sub.cons rfl <| Sub.cons rfl <| Sub.cons rfl <| Sub.cons rfl <| Sub.cons rfl <| Sub.cons rfl <| Sub.cons rfl <| Sub.cons rfl <| Sub.cons rfl <| Sub.cons rfl <| Sub.cons rfl <| sub_val rfl hb171 <| Sub.nil _) (fun w hs => St.sel [0, 1, 2, 3, 4, 5, 6, 7, 8, 9, 10, 11, 12, 13, 14, 15, 16, 17, 18] rfl rfl hs))
     have hmo : MoreG d (GuardM.mk d.Track (d.Posts ++ [(PostV.mk yi y.Kind y.Spot y.Delay y.Pace)]) d.Needs d.Tower d.Radio) := big_more
     have hrw : GuardRaw (GuardM.mk d.Track (d.Posts ++ [(PostV.mk yi y.Kind y.Spot y.Delay y.Pace)]) d.Needs d.Tower d.Radio) := big_raw hin hy
     try dsimp only
     refine w_region <| rS (IAB 0 0 rfl te77 rfl (by decide) rfl) <| rS (LP (GuardV.cells (GuardV.mk (TrackV.mk (Slc.mk ba1 d.Track.length bc1)) (Slc.mk a41 ((d.Posts ++ [(PostV.mk yi y.Kind y.Spot y.Delay y.Pace)]).length) c42) (Slc.mk ba3 d.Needs.length bc3) d.Tower d.Radio)) 0 rfl tk32 rfl rfl rfl) <| AL rfl tz32 fun b53 => SW0 rfl ts32 rfl <| RK hK52 <| w_seq fun _ hK54 => WS fun _ hK55 => rS (LW 0 rfl tk32 rfl rfl) <| rS (CL (ready_c (GuardM.mk d.Track (d.Posts ++ [(PostV.mk yi y.Kind y.Spot y.Delay y.Pace)]) d.Needs d.Tower d.Radio) ba1 bc1 a41 c42 ba3 bc3 (by exact hrw)) (ha_cons (has_own_n (n := d.Track.length) 2 rfl (by simp)) <| ha_cons (has_own_n (n := (d.Posts ++ [(PostV.mk yi y.Kind y.Spot y.Delay y.Pace)]).length) 3 rfl (by simp)) <| ha_cons (has_own_n (n := d.Needs.length) 4 rfl (by simp)) <| ha_nil) rfl) ?_
     refine rS (NT rfl) <| RK hK55 ?_
     refine w_if rfl (fun hg162 => ?_) (fun hg162 => ?_)
     · replace hg162 := XT hg162
       refine w_exit <| k_exit_then <| k_exit_same <| KK hK51 <| w_region <| rS (SX (sd_bin (r := .int .i64 1) rfl rfl rfl (b_add ⟨by decide, by decide⟩)) rfl rfl) <| rS (MV rfl) <| r_nil ?_
       have hb56 : (Value.int .i64 ((1 : Nat) : Int)) = (Value.int .i64 1) := by rfl
       refine k_then (hJ47 ⟨1, (by first | decide | omega)⟩ _ _ _ rfl (by first | decide | omega | (simp; done)) (Sub.cons rfl <| Sub.cons rfl <| Sub.cons rfl <| Sub.cons rfl <| Sub.cons rfl <| Sub.cons rfl <| Sub.cons rfl <| sub_val rfl hb56 <| Sub.nil _) (fun w hs => St.sel [1, 2, 3, 4, 5, 6, 7, 8, 9, 10, 11, 12, 13, 14, 15, 16, 17] rfl rfl hs))
     replace hg162 := XF hg162
     refine WK hK54 <| WS fun _ hK57 => ?_
     have hix := hrw.small hg162.1
     have hmx := hmo.manned hg162.2 hme
     have hlx := Nat.le_trans (calledV_len (d := _) (l := (idxL d.Posts.length (bitS bn)))) hix.pst
     have hly := Nat.le_trans (lacksV_len (d := _) (l := (idxL d.Posts.length (bitS bn)))) hix.nds
     refine rS (LW 0 rfl tk32 rfl rfl) <| rS (MV rfl) <| cX (Lacks_c (GuardM.mk d.Track (d.Posts ++ [(PostV.mk yi y.Kind y.Spot y.Delay y.Pace)]) d.Needs d.Tower d.Radio) ba1 bc1 a41 c42 ba3 bc3 (idxL d.Posts.length (bitS bn)) la lc (by exact hix) (by omega)) (ha_cons (has_own_n (n := d.Track.length) 2 rfl (by simp)) <| ha_cons (has_own_n (n := (d.Posts ++ [(PostV.mk yi y.Kind y.Spot y.Delay y.Pace)]).length) 3 rfl (by simp)) <| ha_cons (has_own_n (n := d.Needs.length) 4 rfl (by simp)) <| ha_cons (has_own_n (n := (idxL d.Posts.length (bitS bn)).length) 13 rfl (by simp)) <| ha_nil) rfl fun y58 hy59 => ?_
     obtain ⟨a60, c61⟩ := y58
     try dsimp only
     refine rS (MV rfl) <| rS (EX rfl) <| rS (EX rfl) <| rS (AG rfl) <| rS (AG rfl) <| RK hK57 <| WS fun _ hK62 => rS (LW 1 rfl tk32 rfl rfl) <| rS (MV rfl) <| cX (Called_c (GuardM.mk d.Track (d.Posts ++ [(PostV.mk yi y.Kind y.Spot y.Delay y.Pace)]) d.Needs d.Tower d.Radio) ba1 bc1 a41 c42 ba3 bc3 (idxL d.Posts.length (bitS bn)) la lc (by exact hix) (by omega)) (ha_cons (has_own_n (n := d.Track.length) 3 rfl (by simp)) <| ha_cons (has_own_n (n := (d.Posts ++ [(PostV.mk yi y.Kind y.Spot y.Delay y.Pace)]).length) 4 rfl (by simp)) <| ha_cons (has_own_n (n := d.Needs.length) 5 rfl (by simp)) <| ha_cons (has_own_n (n := (idxL d.Posts.length (bitS bn)).length) 14 rfl (by simp)) <| ha_nil) rfl fun y63 hy64 => ?_
     obtain ⟨a65, c66⟩ := y63
     try dsimp only
     refine rS (MV rfl) <| rS (EX rfl) <| rS (EX rfl) <| rS (AG rfl) <| rS (AG rfl) <| RK hK62 <| w_seq fun _ hK67 => WS fun _ hK68 => rS (MV rfl) <| rS (BI rfl b_neq) ?_
     refine rS (MV rfl) ?_
     refine r_bool (t := 177) rfl (fun hg177 => ?_) (fun hg177 => ?_)
     · replace hg177 := XT hg177
       exact absurd hmx hg177
     replace hg177 := XF hg177
     refine rS (MV rfl) <| rS (BI rfl b_neq) <| rS (PK rfl) <| RK hK68 ?_
     refine w_if rfl (fun hg180 => ?_) (fun hg180 => ?_)
     · replace hg180 := XT hg180
       exact absurd hmx hg180
     replace hg180 := XF hg180
     refine WK hK67 <| w_seq fun _ hK69 => WS fun _ hK70 => rS (MV rfl) <| rS (LN rfl ut33) <| rS (MV rfl) <| RK hK70 <| w_block ?_
     have hinit : (0 ≤ (lacksV (GuardM.mk d.Track (d.Posts ++ [(PostV.mk yi y.Kind y.Spot y.Delay y.Pace)]) d.Needs d.Tower d.Radio) (idxL d.Posts.length (bitS bn))).length) := by exact Nat.zero_le _
     refine w_loop (ι := { z : Nat // (z ≤ (lacksV (GuardM.mk d.Track (d.Posts ++ [(PostV.mk yi y.Kind y.Spot y.Delay y.Pace)]) d.Needs d.Tower d.Radio) (idxL d.Posts.length (bitS bn))).length) }) (fun z => [(5, (Value.pointer (some ⟨b2, 0, none⟩))), (11, (Value.bool true)), (12, (Value.slice la ((idxL d.Posts.length (bitS bn)).length) lc)), (14, (Value.slice a26 ((lacksV d (idxL d.Posts.length (bitS bn))).length) c27)), (16, (Value.slice a31 ((calledV d (idxL d.Posts.length (bitS bn))).length) c32)), (24, (Value.pointer (some ⟨b53, 0, none⟩))), (25, (Value.slice a60 ((lacksV (GuardM.mk d.Track (d.Posts ++ [(PostV.mk yi y.Kind y.Spot y.Delay y.Pace)]) d.Needs d.Tower d.Radio) (idxL d.Posts.length (bitS bn))).length) c61)), (27, (Value.slice a65 ((calledV (GuardM.mk d.Track (d.Posts ++ [(PostV.mk yi y.Kind y.Spot y.Delay y.Pace)]) d.Needs d.Tower d.Radio) (idxL d.Posts.length (bitS bn))).length) c66)), (154, (Value.slice (some ⟨b46, 0, none⟩) 3 3)), (155, (Value.int .i64 3)), (156, (Value.int .i64 0)), (181, (Value.slice a60 ((lacksV (GuardM.mk d.Track (d.Posts ++ [(PostV.mk yi y.Kind y.Spot y.Delay y.Pace)]) d.Needs d.Tower d.Radio) (idxL d.Posts.length (bitS bn))).length) c61)), (182, (Value.int .i64 (((lacksV (GuardM.mk d.Track (d.Posts ++ [(PostV.mk yi y.Kind y.Spot y.Delay y.Pace)]) d.Needs d.Tower d.Radio) (idxL d.Posts.length (bitS bn))).length : Nat) : Int))), (183, (Value.int .i64 ((z.1 : Nat) : Int)))]) (fun z => [(own a65 c66 3 1 ((calledV (GuardM.mk d.Track (d.Posts ++ [(PostV.mk yi y.Kind y.Spot y.Delay y.Pace)]) d.Needs d.Tower d.Radio) (idxL d.Posts.length (bitS bn))).map iC)), (own a60 c61 3 1 ((lacksV (GuardM.mk d.Track (d.Posts ++ [(PostV.mk yi y.Kind y.Spot y.Delay y.Pace)]) d.Needs d.Tower d.Radio) (idxL d.Posts.length (bitS bn))).map iC)), (blk b46 32 ((GuardV.cells (GuardV.mk (TrackV.mk (Slc.mk ba1 d.Track.length bc1)) (Slc.mk a41 ((d.Posts ++ [(PostV.mk yi y.Kind y.Spot y.Delay y.Pace)]).length) c42) (Slc.mk ba3 d.Needs.length bc3) d.Tower d.Radio)) ++ (GuardV.cells (GuardV.mk (TrackV.mk (Slc.mk wa1 d.Track.length wc1)) (Slc.mk wa2 d.Posts.length wc2) (Slc.mk wa3 d.Needs.length wc3) d.Tower (d.Radio + by_))) ++ (GuardV.cells (GuardV.mk (TrackV.mk (Slc.mk fa1 d.Track.length fc1)) (Slc.mk fa2 L.length fc2) (Slc.mk fa3 d.Needs.length fc3) d.Tower d.Radio)))), (own ba1 bc1 110 9 (d.Track.map StretchV.cells)), (own a41 c42 62 7 (List.map PostV.cells (d.Posts ++ [(PostV.mk yi y.Kind y.Spot y.Delay y.Pace)]))), (own ba3 bc3 57 3 (d.Needs.map NeedV.cells)), (own wa1 wc1 110 9 (d.Track.map StretchV.cells)), (own wa2 wc2 62 7 (d.Posts.map PostV.cells)), (own wa3 wc3 57 3 (d.Needs.map NeedV.cells)), (own fa1 fc1 110 9 (d.Track.map StretchV.cells)), (own fa2 fc2 62 7 (L.map PostV.cells)), (own fa3 fc3 57 3 (d.Needs.map NeedV.cells)), (own a31 c32 3 1 ((calledV d (idxL d.Posts.length (bitS bn))).map iC)), (own a26 c27 3 1 ((lacksV d (idxL d.Posts.length (bitS bn))).map iC)), (own la lc 3 1 ((idxL d.Posts.length (bitS bn)).map iC)), (blk b2 32 (GuardV.cells (GuardV.mk (TrackV.mk (Slc.mk kA d.Track.length kC)) (Slc.mk pA d.Posts.length pC) (Slc.mk nA d.Needs.length nC) d.Tower d.Radio))), (rd kA d.Track.length 9 (d.Track.map StretchV.cells)).ro, (rd pA d.Posts.length 7 (d.Posts.map PostV.cells)).ro, (rd nA d.Needs.length 3 (d.Needs.map NeedV.cells)).ro]) (fun z => (lacksV (GuardM.mk d.Track (d.Posts ++ [(PostV.mk yi y.Kind y.Spot y.Delay y.Pace)]) d.Needs d.Tower d.Radio) (idxL d.Posts.length (bitS bn))).length - z.1) ⟨0, hinit⟩ (Sub.cons rfl <| Sub.cons rfl <| Sub.cons rfl <| Sub.cons rfl <| Sub.cons rfl <| Sub.cons rfl <| Sub.cons rfl <| Sub.cons rfl <| Sub.cons rfl <| Sub.cons rfl <| Sub.cons rfl <| Sub.cons rfl <| Sub.cons rfl <| Sub.cons rfl <| Sub.nil _) (fun w hs => St.sel [0, 1, 3, 4, 5, 6, 7, 8, 9, 10, 11, 12, 13, 14, 15, 16, 17, 18, 19] rfl rfl hs) ?_
     clear hinit
     rintro ⟨u, hl33_0⟩ J71 hJ71
     try dsimp only
     refine WS fun _ hK72 => rS (BI rfl b_lss) <| RK hK72 <| w_seq fun _ hK73 => ?_
     refine w_if rfl (fun h74 => ?_) (fun h74 => ?_)
     · replace h74 := DT h74
       refine WK hK73 <| w_seq fun _ hK75 => w_block <| WS fun _ hK76 => ?_
       obtain ⟨x77, hx78⟩ : ∃ y_, (lacksV (GuardM.mk d.Track (d.Posts ++ [(PostV.mk yi y.Kind y.Spot y.Delay y.Pace)]) d.Needs d.Tower d.Radio) (idxL d.Posts.length (bitS bn)))[u]? = some y_ := ⟨(lacksV (GuardM.mk d.Track (d.Posts ++ [(PostV.mk yi y.Kind y.Spot y.Delay y.Pace)]) d.Needs d.Tower d.Radio) (idxL d.Posts.length (bitS bn)))[u]'(by omega), List.getElem?_eq_getElem _⟩
       have hx78m : ((lacksV (GuardM.mk d.Track (d.Posts ++ [(PostV.mk yi y.Kind y.Spot y.Delay y.Pace)]) d.Needs d.Tower d.Radio) (idxL d.Posts.length (bitS bn))).map iC)[u]? = some (iC x77) := by rw [List.getElem?_map, hx78]; rfl
       refine rS (IA u rfl (has_own_n (n := (lacksV (GuardM.mk d.Track (d.Posts ++ [(PostV.mk yi y.Kind y.Spot y.Delay y.Pace)]) d.Needs d.Tower d.Radio) (idxL d.Posts.length (bitS bn))).length) 1 rfl (by simp)) te33 (by decide) (by omega) (by omega)) <| rS (LE1 u 0 (Value.int .i64 x77) rfl tk3 (has_own_n (n := (lacksV (GuardM.mk d.Track (d.Posts ++ [(PostV.mk yi y.Kind y.Spot y.Delay y.Pace)]) d.Needs d.Tower d.Radio) (idxL d.Posts.length (bitS bn))).length) 1 rfl (by simp)) hx78m rfl (by decide) rfl) <| rS (AG rfl) <| RK hK76 <| WS fun _ hK79 => rS (MV rfl) <| rS (MV rfl) <| rS (CL (has_c (lacksV d (idxL d.Posts.length (bitS bn))) a26 c27 x77 (by exact Nat.le_trans lacksV_len hin.nds)) (ha_cons (has_own_n (n := (lacksV d (idxL d.Posts.length (bitS bn))).length) 13 rfl (by simp)) <| ha_nil) rfl) <| rS (NT rfl) <| RK hK79 ?_
       refine w_if rfl (fun hg190 => ?_) (fun hg190 => ?_)
       · replace hg190 := XT hg190
         exact absurd (hmo.lacks hg162.2 hme _ (List.mem_of_getElem? (by assumption))) hg190
       replace hg190 := XF hg190
       refine w_skip <| k_block <| KK hK75 <| w_region <| rS (BI rfl (b_add ⟨by omega, by omega⟩)) <| rS (MV rfl) <| r_nil ?_
       have hb80 : (Value.int .i64 (((u + 1) : Nat) : Int)) = (Value.int .i64 (((u : Nat) : Int) + 1)) := by exact congrArg (Value.int .i64) (by omega)
       refine k_then (hJ71 ⟨(u + 1), (by first | omega | (simp only []; omega))⟩ _ _ _ rfl (by first | omega | (simp; omega)) (Sub.cons rfl <| Sub.cons rfl <| Sub.cons rfl <| Sub.cons rfl <| Sub.cons rfl <| Sub.cons rfl <| Sub.cons rfl <| Sub.cons rfl <| Sub.cons rfl <| Sub.cons rfl <| Sub.cons rfl <| Sub.cons rfl <| Sub.cons rfl <| sub_val rfl hb80 <| Sub.nil _) (fun w hs => St.sel [0, 1, 2, 3, 4, 5, 6, 7, 8, 9, 10, 11, 12, 13, 14, 15, 16, 17, 18] rfl rfl hs))
     replace h74 := DF h74
     refine w_exit <| k_exit_then <| k_exit_then <| k_exit_same <| KK hK69 <| WS fun _ hK81 => rS (MV rfl) <| rS (LN rfl ut33) <| rS (MV rfl) <| RK hK81 ?_
     refine w_block ?_
     have hinit : (0 ≤ (calledV d (idxL d.Posts.length (bitS bn))).length) := by exact Nat.zero_le _
     refine w_loop (ι := { z : Nat // (z ≤ (calledV d (idxL d.Posts.length (bitS bn))).length) }) (fun z => [(5, (Value.pointer (some ⟨b2, 0, none⟩))), (11, (Value.bool true)), (12, (Value.slice la ((idxL d.Posts.length (bitS bn)).length) lc)), (14, (Value.slice a26 ((lacksV d (idxL d.Posts.length (bitS bn))).length) c27)), (16, (Value.slice a31 ((calledV d (idxL d.Posts.length (bitS bn))).length) c32)), (24, (Value.pointer (some ⟨b53, 0, none⟩))), (27, (Value.slice a65 ((calledV (GuardM.mk d.Track (d.Posts ++ [(PostV.mk yi y.Kind y.Spot y.Delay y.Pace)]) d.Needs d.Tower d.Radio) (idxL d.Posts.length (bitS bn))).length) c66)), (154, (Value.slice (some ⟨b46, 0, none⟩) 3 3)), (155, (Value.int .i64 3)), (156, (Value.int .i64 0)), (192, (Value.slice a31 ((calledV d (idxL d.Posts.length (bitS bn))).length) c32)), (193, (Value.int .i64 (((calledV d (idxL d.Posts.length (bitS bn))).length : Nat) : Int))), (194, (Value.int .i64 ((z.1 : Nat) : Int)))]) (fun z => [(own a65 c66 3 1 ((calledV (GuardM.mk d.Track (d.Posts ++ [(PostV.mk yi y.Kind y.Spot y.Delay y.Pace)]) d.Needs d.Tower d.Radio) (idxL d.Posts.length (bitS bn))).map iC)), (own a60 c61 3 1 ((lacksV (GuardM.mk d.Track (d.Posts ++ [(PostV.mk yi y.Kind y.Spot y.Delay y.Pace)]) d.Needs d.Tower d.Radio) (idxL d.Posts.length (bitS bn))).map iC)), (blk b46 32 ((GuardV.cells (GuardV.mk (TrackV.mk (Slc.mk ba1 d.Track.length bc1)) (Slc.mk a41 ((d.Posts ++ [(PostV.mk yi y.Kind y.Spot y.Delay y.Pace)]).length) c42) (Slc.mk ba3 d.Needs.length bc3) d.Tower d.Radio)) ++ (GuardV.cells (GuardV.mk (TrackV.mk (Slc.mk wa1 d.Track.length wc1)) (Slc.mk wa2 d.Posts.length wc2) (Slc.mk wa3 d.Needs.length wc3) d.Tower (d.Radio + by_))) ++ (GuardV.cells (GuardV.mk (TrackV.mk (Slc.mk fa1 d.Track.length fc1)) (Slc.mk fa2 L.length fc2) (Slc.mk fa3 d.Needs.length fc3) d.Tower d.Radio)))), (own ba1 bc1 110 9 (d.Track.map StretchV.cells)), (own a41 c42 62 7 (List.map PostV.cells (d.Posts ++ [(PostV.mk yi y.Kind y.Spot y.Delay y.Pace)]))), (own ba3 bc3 57 3 (d.Needs.map NeedV.cells)), (own wa1 wc1 110 9 (d.Track.map StretchV.cells)), (own wa2 wc2 62 7 (d.Posts.map PostV.cells)), (own wa3 wc3 57 3 (d.Needs.map NeedV.cells)), (own fa1 fc1 110 9 (d.Track.map StretchV.cells)), (own fa2 fc2 62 7 (L.map PostV.cells)), (own fa3 fc3 57 3 (d.Needs.map NeedV.cells)), (own a31 c32 3 1 ((calledV d (idxL d.Posts.length (bitS bn))).map iC)), (own a26 c27 3 1 ((lacksV d (idxL d.Posts.length (bitS bn))).map iC)), (own la lc 3 1 ((idxL d.Posts.length (bitS bn)).map iC)), (blk b2 32 (GuardV.cells (GuardV.mk (TrackV.mk (Slc.mk kA d.Track.length kC)) (Slc.mk pA d.Posts.length pC) (Slc.mk nA d.Needs.length nC) d.Tower d.Radio))), (rd kA d.Track.length 9 (d.Track.map StretchV.cells)).ro, (rd pA d.Posts.length 7 (d.Posts.map PostV.cells)).ro, (rd nA d.Needs.length 3 (d.Needs.map NeedV.cells)).ro]) (fun z => (calledV d (idxL d.Posts.length (bitS bn))).length - z.1) ⟨0, hinit⟩ (Sub.cons rfl <| Sub.cons rfl <| Sub.cons rfl <| Sub.cons rfl <| Sub.cons rfl <| Sub.cons rfl <| Sub.cons rfl <| Sub.cons rfl <| Sub.cons rfl <| Sub.cons rfl <| Sub.cons rfl <| Sub.cons rfl <| Sub.cons rfl <| Sub.nil _) (fun w hs => St.sel [0, 1, 2, 3, 4, 5, 6, 7, 8, 9, 10, 11, 12, 13, 14, 15, 16, 17, 18] rfl rfl hs) ?_
     clear hinit
     rintro ⟨u, hl39_0⟩ J82 hJ82
     try dsimp only
     refine WS fun _ hK83 => rS (BI rfl b_lss) <| RK hK83 <| w_seq fun _ hK84 => ?_
     refine w_if rfl (fun h85 => ?_) (fun h85 => ?_)
     rotate_left 1
     · replace h85 := DF h85
       refine w_exit <| k_exit_then <| k_exit_then <| k_exit_same <| k_block <| KK hK51 <| w_region <| rS (SX (sd_bin (r := .int .i64 1) rfl rfl rfl (b_add ⟨by decide, by decide⟩)) rfl rfl) <| rS (MV rfl) <| r_nil ?_
       have hb92 : (Value.int .i64 ((1 : Nat) : Int)) = (Value.int .i64 1) := by rfl
       refine k_then (hJ47 ⟨1, (by first | decide | omega)⟩ _ _ _ rfl (by first | decide | omega | (simp; done)) (Sub.cons rfl <| Sub.cons rfl <| Sub.cons rfl <| Sub.cons rfl <| Sub.cons rfl <| Sub.cons rfl <| Sub.cons rfl <| sub_val rfl hb92 <| Sub.nil _) (fun w hs => St.sel [2, 3, 4, 5, 6, 7, 8, 9, 10, 11, 12, 13, 14, 15, 16, 17, 18] rfl rfl hs))
     replace h85 := DT h85
     refine WK hK84 <| w_seq fun _ hK86 => w_block <| WS fun _ hK87 => ?_
     obtain ⟨x88, hx89⟩ : ∃ y_, (calledV d (idxL d.Posts.length (bitS bn)))[u]? = some y_ := ⟨(calledV d (idxL d.Posts.length (bitS bn)))[u]'(by omega), List.getElem?_eq_getElem _⟩
     have hx89m : ((calledV d (idxL d.Posts.length (bitS bn))).map iC)[u]? = some (iC x88) := by rw [List.getElem?_map, hx89]; rfl
     refine rS (IA u rfl (has_own_n (n := (calledV d (idxL d.Posts.length (bitS bn))).length) 12 rfl (by simp)) te33 (by decide) (by omega) (by omega)) <| rS (LE1 u 0 (Value.int .i64 x88) rfl tk3 (has_own_n (n := (calledV d (idxL d.Posts.length (bitS bn))).length) 12 rfl (by simp)) hx89m rfl (by decide) rfl) <| rS (AG rfl) <| RK hK87 <| WS fun _ hK90 => rS (MV rfl) <| rS (MV rfl) <| rS (CL (has_c (calledV (GuardM.mk d.Track (d.Posts ++ [(PostV.mk yi y.Kind y.Spot y.Delay y.Pace)]) d.Needs d.Tower d.Radio) (idxL d.Posts.length (bitS bn))) a65 c66 x88 (by exact Nat.le_trans calledV_len hix.pst)) (ha_cons (has_own_n (n := (calledV (GuardM.mk d.Track (d.Posts ++ [(PostV.mk yi y.Kind y.Spot y.Delay y.Pace)]) d.Needs d.Tower d.Radio) (idxL d.Posts.length (bitS bn))).length) 0 rfl (by simp)) <| ha_nil) rfl) <| rS (NT rfl) <| RK hK90 ?_
     refine w_if rfl (fun hg201 => ?_) (fun hg201 => ?_)
     · replace hg201 := XT hg201
       exact absurd (hmo.called hg162.2 hme _ (List.mem_of_getElem? (by assumption))) hg201
     replace hg201 := XF hg201
     refine w_skip <| k_block <| KK hK86 <| w_region <| rS (BI rfl (b_add ⟨by omega, by omega⟩)) <| rS (MV rfl) <| r_nil ?_
     have hb91 : (Value.int .i64 (((u + 1) : Nat) : Int)) = (Value.int .i64 (((u : Nat) : Int) + 1)) := by exact congrArg (Value.int .i64) (by omega)
     refine k_then (hJ82 ⟨(u + 1), (by first | omega | (simp only []; omega))⟩ _ _ _ rfl (by first | omega | (simp; omega)) (Sub.cons rfl <| Sub.cons rfl <| Sub.cons rfl <| Sub.cons rfl <| Sub.cons rfl <| Sub.cons rfl <| Sub.cons rfl <| Sub.cons rfl <| Sub.cons rfl <| Sub.cons rfl <| Sub.cons rfl <| Sub.cons rfl <| sub_val rfl hb91 <| Sub.nil _) (fun w hs => St.sel [0, 1, 2, 3, 4, 5, 6, 7, 8, 9, 10, 11, 12, 13, 14, 15, 16, 17, 18] rfl rfl hs))
   refine WS fun _ hK39 => rS (MV rfl) <| rS (BI rfl b_gtr) <| RK hK39 ?_
   refine w_if rfl (fun hg98 => ?_) (fun hg98 => ?_)
   rotate_left 1
   · replace hg98 := DF hg98
     refine w_skip ?_
     refine k_then (k_sub (Sub.cons rfl <| Sub.cons rfl <| Sub.cons rfl <| Sub.cons rfl <| Sub.cons rfl <| Sub.cons rfl <| Sub.cons rfl <| Sub.cons rfl <| Sub.cons rfl <| Sub.cons rfl <| Sub.nil _) (fun w hs => St.sel [0, 1, 2, 3, 4, 5, 6, 7, 8, 9, 10, 11, 12, 13, 14, 15, 16, 17, 18, 19] rfl rfl hs) (hK38 ⟨(d.Posts, 0), (by first | exact ⟨fast_same, wide_raw hin, by omega⟩ | exact ⟨fast_more hq (by omega) (by omega), fast_raw hin hq, by omega⟩)⟩))
   replace hg98 := DT hg98
   refine WS fun _ hK40 => rS (FA 1 rfl fo32_1 rfl) <| rS (L1 (Value.slice pA d.Posts.length pC) 16 rfl tk25 rfl rfl) <| rS (MV rfl) <| rS (BI rfl (b_sub ⟨by omega, by omega⟩)) ?_
   obtain ⟨p, hp⟩ : ∃ y_, d.Posts[(d.Posts.length - 1)]? = some y_ := ⟨d.Posts[(d.Posts.length - 1)]'(by omega), List.getElem?_eq_getElem _⟩
   have hpm : (d.Posts.map PostV.cells)[(d.Posts.length - 1)]? = some (PostV.cells p) := by rw [List.getElem?_map, hp]; rfl
   refine rS (IA (d.Posts.length - 1) rfl (has_at 18 rfl) te25 (by decide) (by omega) (by omega)) <| rS (FAR ((d.Posts.length - 1) * 7) rfl (has_at 18 rfl) (Nat.mul_pos (by omega) (by decide)) fo62_0 rfl) ?_
   have hpo := hok.post _ p hp
   unfold PostOk at hpo
   refine rS (LE1 (d.Posts.length - 1) 0 (Value.int .i64 p.Id) rfl tk3 (has_at 18 rfl) hpm rfl (by decide) rfl) <| rS (BI rfl (b_add ⟨by omega, by omega⟩)) <| rS (FA 0 rfl fo62_0 rfl) <| r_store (vs := [(Value.int .i64 (p.Id + 1))]) (cs' := (PostV.cells (PostV.mk (p.Id + 1) y.Kind y.Spot y.Delay y.Pace))) (C' := [_, _, _, _, _, _, _, _, _, _, _, _, _, _, _, (blk b3 62 (PostV.cells (PostV.mk (p.Id + 1) y.Kind y.Spot y.Delay y.Pace))), _, _, _, _]) 15 rfl rfl rfl ts3 rfl rfl rfl rfl rfl rfl rfl <| RK hK40 <| w_seq fun _ hK41 => ?_
   refine w_own_some 9 rfl (by simp; omega) (fun ad42 ha43 => ?_)
   refine w_draw mixed 8 (by kernel_rfl) <| dS (FA 1 rfl fo32_1 rfl) <| dS (L1 (Value.slice fa2 d.Posts.length fc2) 11 rfl tk25 rfl rfl) ?_
   have hw1 := Int.emod_nonneg wh (show ((d.Posts.length : Nat) : Int) ≠ 0 by omega)
   have hw2 := Int.emod_lt_of_pos wh (show 0 < ((d.Posts.length : Nat) : Int) by omega)
   refine dS (MV rfl) <| dS (SX (sd_conv (m := wh) rfl rfl ut5 ut3 (wrap_u8_i64 (by first | assumption | omega))) rfl rfl) <| dS (MV rfl) <| dS (BI rfl (b_rem (by omega) (by omega))) ?_
   obtain ⟨q, hq⟩ : ∃ y_, d.Posts[((wh % ((d.Posts.length : Nat) : Int))).toNat]? = some y_ := ⟨d.Posts[((wh % ((d.Posts.length : Nat) : Int))).toNat]'(by omega), List.getElem?_eq_getElem _⟩
   have hqm : (d.Posts.map PostV.cells)[((wh % ((d.Posts.length : Nat) : Int))).toNat]? = some (PostV.cells q) := by rw [List.getElem?_map, hq]; rfl
   refine dS (IAP (((wh % ((d.Posts.length : Nat) : Int))).toNat) rfl ha43 te25 (by omega) (by omega)) <| dS (AG rfl) <| d_end <| RK hK41 <| w_draw4 mixed [0, 1, 2, 3, 4, 5, 6, 7, 8, 9, 10, 11, 12, 13, 14, 15, 16, 17, 18, 19, 20, 21, 23] [22, 24, 25] [false, false, false, false, true, true, false, false, false, false, false, false, false, true, true, false, false, false, false, false, false, true, false] [false, false, false] [(own ba1 bc1 110 9 (d.Track.map StretchV.cells)), (own ba2 bc2 62 7 (d.Posts.map PostV.cells)), (own ba3 bc3 57 3 (d.Needs.map NeedV.cells)), (blk gtb 32 (GuardV.cells (GuardV.mk (TrackV.mk (Slc.mk ba1 d.Track.length bc1)) (Slc.mk ba2 d.Posts.length bc2) (Slc.mk ba3 d.Needs.length bc3) d.Tower d.Radio))), (own wa1 wc1 110 9 (d.Track.map StretchV.cells)), (own wa2 wc2 62 7 (d.Posts.map PostV.cells)), (own wa3 wc3 57 3 (d.Needs.map NeedV.cells)), (blk gtw 32 (GuardV.cells (GuardV.mk (TrackV.mk (Slc.mk wa1 d.Track.length wc1)) (Slc.mk wa2 d.Posts.length wc2) (Slc.mk wa3 d.Needs.length wc3) d.Tower d.Radio))), (own fa1 fc1 110 9 (d.Track.map StretchV.cells)), (own fa3 fc3 57 3 (d.Needs.map NeedV.cells)), (blk gtf 32 (GuardV.cells (GuardV.mk (TrackV.mk (Slc.mk fa1 d.Track.length fc1)) (Slc.mk fa2 d.Posts.length fc2) (Slc.mk fa3 d.Needs.length fc3) d.Tower d.Radio))), (own a31 c32 3 1 ((calledV d (idxL d.Posts.length (bitS bn))).map iC)), (own a26 c27 3 1 ((lacksV d (idxL d.Posts.length (bitS bn))).map iC)), (own la lc 3 1 ((idxL d.Posts.length (bitS bn)).map iC)), (blk b3 62 (PostV.cells (PostV.mk (p.Id + 1) y.Kind y.Spot y.Delay y.Pace))), (blk b2 32 (GuardV.cells (GuardV.mk (TrackV.mk (Slc.mk kA d.Track.length kC)) (Slc.mk pA d.Posts.length pC) (Slc.mk nA d.Needs.length nC) d.Tower d.Radio))), (rd kA d.Track.length 9 (d.Track.map StretchV.cells)).ro, (rd pA d.Posts.length 7 (d.Posts.map PostV.cells)).ro, (rd nA d.Needs.length 3 (d.Needs.map NeedV.cells)).ro] [(own ba1 bc1 110 9 (d.Track.map StretchV.cells)), (own ba2 bc2 62 7 (d.Posts.map PostV.cells)), (own ba3 bc3 57 3 (d.Needs.map NeedV.cells)), (blk gtb 32 (GuardV.cells (GuardV.mk (TrackV.mk (Slc.mk ba1 d.Track.length bc1)) (Slc.mk ba2 d.Posts.length bc2) (Slc.mk ba3 d.Needs.length bc3) d.Tower d.Radio))), (own wa1 wc1 110 9 (d.Track.map StretchV.cells)), (own wa2 wc2 62 7 (d.Posts.map PostV.cells)), (own wa3 wc3 57 3 (d.Needs.map NeedV.cells)), (blk gtw 32 (GuardV.cells (GuardV.mk (TrackV.mk (Slc.mk wa1 d.Track.length wc1)) (Slc.mk wa2 d.Posts.length wc2) (Slc.mk wa3 d.Needs.length wc3) d.Tower d.Radio))), (own fa1 fc1 110 9 (d.Track.map StretchV.cells)), (own fa2 fc2 62 7 (d.Posts.map PostV.cells)), (own fa3 fc3 57 3 (d.Needs.map NeedV.cells)), (blk gtf 32 (GuardV.cells (GuardV.mk (TrackV.mk (Slc.mk fa1 d.Track.length fc1)) (Slc.mk fa2 d.Posts.length fc2) (Slc.mk fa3 d.Needs.length fc3) d.Tower d.Radio))), (own a31 c32 3 1 ((calledV d (idxL d.Posts.length (bitS bn))).map iC)), (own a26 c27 3 1 ((lacksV d (idxL d.Posts.length (bitS bn))).map iC)), (own la lc 3 1 ((idxL d.Posts.length (bitS bn)).map iC)), (blk b3 62 (PostV.cells (PostV.mk (p.Id + 1) y.Kind y.Spot y.Delay y.Pace))), (blk b2 32 (GuardV.cells (GuardV.mk (TrackV.mk (Slc.mk kA d.Track.length kC)) (Slc.mk pA d.Posts.length pC) (Slc.mk nA d.Needs.length nC) d.Tower d.Radio))), (rd kA d.Track.length 9 (d.Track.map StretchV.cells)).ro, (rd pA d.Posts.length 7 (d.Posts.map PostV.cells)).ro, (rd nA d.Needs.length 3 (d.Needs.map NeedV.cells)).ro] (by kernel_rfl) (fun w hs => St.sel [0, 1, 2, 3, 4, 5, 6, 7, 8, 10, 11, 12, 13, 14, 15, 16, 17, 18, 19] rfl rfl hs) (fun w hs => St.sel [0, 1, 2, 3, 4, 5, 6, 7, 8, 9, 10, 11, 12, 13, 14, 15, 16, 17, 18, 19] rfl rfl hs) <| eS rfl (MV rfl) <| eS rfl (MV rfl) <| eS rfl (MV rfl) <| eS rfl (SX (sd_nil_pd rfl rfl ha43) rfl rfl) <| fS rfl (FAP (((((wh % ((d.Posts.length : Nat) : Int))).toNat) * 7) + 6) rfl ha43 fo62_4 rfl) ?_
   have hpq := hok.post _ q hq
   unfold PostOk at hpq
   refine fS rfl (LE1 (((wh % ((d.Posts.length : Nat) : Int))).toNat) 6 (Value.int .i64 q.Pace) rfl tk3 (has_own_n (n := d.Posts.length) 9 rfl (by simp)) hqm rfl (by decide) rfl) <| eS rfl (MV rfl) <| eS rfl (SX (sd_conv (m := by_) rfl rfl ut75 ut3 (wrap_u16_i64 (by first | assumption | omega))) rfl rfl) <| eS rfl (BI rfl (b_rem (by omega) (by omega))) <| eS rfl (BI rfl (b_sub ⟨by omega, by omega⟩)) <| eS rfl (MX rfl) <| eS rfl (MV rfl) <| eS rfl (SX (sd_nil_pd rfl rfl ha43) rfl rfl) <| fS rfl (FAP (((((wh % ((d.Posts.length : Nat) : Int))).toNat) * 7) + 5) rfl ha43 fo62_3 rfl) <| fS rfl (LE1 (((wh % ((d.Posts.length : Nat) : Int))).toNat) 5 (Value.int .i64 q.Delay) rfl tk3 (has_own_n (n := d.Posts.length) 9 rfl (by simp)) hqm rfl (by decide) rfl) ?_
   refine eS rfl (MV rfl) <| eS rfl (SX (sd_conv (m := by_) rfl rfl ut75 ut3 (wrap_u16_i64 (by first | assumption | omega))) rfl rfl) <| eS rfl (BI rfl (b_rem (by omega) (by omega))) <| eS rfl (BI rfl (b_sub ⟨by omega, by omega⟩)) <| eS rfl (MX rfl) <| eS rfl (SX (sd_nil_pd rfl rfl ha43) rfl rfl) <| fS rfl (FAP (((((wh % ((d.Posts.length : Nat) : Int))).toNat) * 7) + 6) rfl ha43 fo62_4 rfl) <| eS rfl (SX (sd_nil_pd rfl rfl ha43) rfl rfl) <| d_fin rfl <| t_cons rfl fun T44 hT44 => ?_
   have hb45 : (d.Posts.set (((wh % ((d.Posts.length : Nat) : Int))).toNat) (PostV.mk q.Id q.Kind q.Spot q.Delay (max 1 (q.Pace - (by_ % 50))))) = (d.Posts.set (wh % ((d.Posts.length : Nat) : Int)).toNat (PostV.mk q.Id q.Kind q.Spot q.Delay (max 1 (q.Pace - by_ % 50)))) := by rfl
   refine r_store_own (k := ((wh % ((d.Posts.length : Nat) : Int))).toNat) (o := 6) (vs := [(Value.int .i64 (max 1 (q.Pace - (by_ % 50))))]) (es' := (List.map PostV.cells (d.Posts.set (wh % ((d.Posts.length : Nat) : Int)).toNat (PostV.mk q.Id q.Kind q.Spot q.Delay (max 1 (q.Pace - by_ % 50)))))) (C' := [_, _, _, _, _, _, _, _, _, (own fa2 fc2 62 7 (List.map PostV.cells (d.Posts.set (wh % ((d.Posts.length : Nat) : Int)).toNat (PostV.mk q.Id q.Kind q.Spot q.Delay (max 1 (q.Pace - by_ % 50)))))), _, _, _, _, _, _, _, _, _, _]) 9 rfl rfl rfl ts3 rfl rfl rfl rfl hqm rfl (by decide) (by exact (List.map_set (f := PostV.cells) (l := d.Posts) (i := ((wh % ((d.Posts.length : Nat) : Int))).toNat) (a := (PostV.mk q.Id q.Kind q.Spot q.Delay (max 1 (q.Pace - (by_ % 50)))))).symm.trans (congrArg _ hb45)) rfl <| RN hT44 [0, 1, 2, 3, 4, 5, 6, 7, 8, 10, 11, 12, 13, 14, 15, 16, 17, 18, 19] rfl rfl <| t_cons rfl fun T46 hT46 => rS (FAP (((((wh % ((d.Posts.length : Nat) : Int))).toNat) * 7) + 5) rfl ha43 fo62_3 rfl) <| RN hT46 [0, 1, 2, 3, 4, 5, 6, 7, 8, 10, 11, 12, 13, 14, 15, 16, 17, 18, 19] rfl rfl <| t_cons rfl fun T47 hT47 => ?_
   obtain ⟨z, hz⟩ : ∃ y_, (d.Posts.set (wh % ((d.Posts.length : Nat) : Int)).toNat (PostV.mk q.Id q.Kind q.Spot q.Delay (max 1 (q.Pace - by_ % 50))))[((wh % ((d.Posts.length : Nat) : Int))).toNat]? = some y_ := ⟨(d.Posts.set (wh % ((d.Posts.length : Nat) : Int)).toNat (PostV.mk q.Id q.Kind q.Spot q.Delay (max 1 (q.Pace - by_ % 50))))[((wh % ((d.Posts.length : Nat) : Int))).toNat]'(by first | omega | (simp; omega)), List.getElem?_eq_getElem _⟩
   have hzm : (List.map PostV.cells (d.Posts.set (wh % ((d.Posts.length : Nat) : Int)).toNat (PostV.mk q.Id q.Kind q.Spot q.Delay (max 1 (q.Pace - by_ % 50)))))[((wh % ((d.Posts.length : Nat) : Int))).toNat]? = some (PostV.cells z) := by rw [List.getElem?_map, hz]; rfl
   have hb48 : ((d.Posts.set (wh % ((d.Posts.length : Nat) : Int)).toNat (PostV.mk q.Id q.Kind q.Spot q.Delay (max 1 (q.Pace - by_ % 50)))).set (((wh % ((d.Posts.length : Nat) : Int))).toNat) (PostV.mk z.Id z.Kind z.Spot (max 0 (q.Delay - (by_ % 70))) z.Pace)) = (d.Posts.set (wh % ((d.Posts.length : Nat) : Int)).toNat (PostV.mk q.Id q.Kind q.Spot (max 0 (q.Delay - by_ % 70)) (max 1 (q.Pace - by_ % 50)))) := by exact fast_set (by omega) hz
   refine r_store_own (k := ((wh % ((d.Posts.length : Nat) : Int))).toNat) (o := 5) (vs := [(Value.int .i64 (max 0 (q.Delay - (by_ % 70))))]) (es' := (List.map PostV.cells (d.Posts.set (wh % ((d.Posts.length : Nat) : Int)).toNat (PostV.mk q.Id q.Kind q.Spot (max 0 (q.Delay - by_ % 70)) (max 1 (q.Pace - by_ % 50)))))) (C' := [_, _, _, _, _, _, _, _, _, (own fa2 fc2 62 7 (List.map PostV.cells (d.Posts.set (wh % ((d.Posts.length : Nat) : Int)).toNat (PostV.mk q.Id q.Kind q.Spot (max 0 (q.Delay - by_ % 70)) (max 1 (q.Pace - by_ % 50)))))), _, _, _, _, _, _, _, _, _, _]) 9 rfl rfl rfl ts3 rfl rfl rfl rfl hzm rfl (by decide) (by exact (List.map_set (f := PostV.cells) (l := (d.Posts.set (wh % ((d.Posts.length : Nat) : Int)).toNat (PostV.mk q.Id q.Kind q.Spot q.Delay (max 1 (q.Pace - by_ % 50))))) (i := ((wh % ((d.Posts.length : Nat) : Int))).toNat) (a := (PostV.mk z.Id z.Kind z.Spot (max 0 (q.Delay - (by_ % 70))) z.Pace))).symm.trans (congrArg _ hb48)) rfl <| RN hT47 [0, 1, 2, 3, 4, 5, 6, 7, 8, 10, 11, 12, 13, 14, 15, 16, 17, 18, 19] rfl rfl <| t_fin rfl ?_
   have hb49 : (GuardV.cells (GuardV.mk (TrackV.mk (Slc.mk fa1 d.Track.length fc1)) (Slc.mk fa2 d.Posts.length fc2) (Slc.mk fa3 d.Needs.length fc3) d.Tower d.Radio)) = (GuardV.cells (GuardV.mk (TrackV.mk (Slc.mk fa1 d.Track.length fc1)) (Slc.mk fa2 ((d.Posts.set (wh % ((d.Posts.length : Nat) : Int)).toNat (PostV.mk q.Id q.Kind q.Spot (max 0 (q.Delay - by_ % 70)) (max 1 (q.Pace - by_ % 50)))).length) fc2) (Slc.mk fa3 d.Needs.length fc3) d.Tower d.Radio)) := by rw [List.length_set]
   rw [hb49]
   refine k_then (k_sub (Sub.cons rfl <| Sub.cons rfl <| Sub.cons rfl <| Sub.cons rfl <| Sub.cons rfl <| Sub.cons rfl <| Sub.cons rfl <| Sub.cons rfl <| Sub.cons rfl <| Sub.cons rfl <| Sub.nil _) (fun w hs => St.sel [0, 1, 2, 3, 4, 5, 6, 7, 8, 9, 10, 11, 12, 13, 14, 15, 16, 17, 18, 19] rfl rfl hs) (hK38 ⟨((d.Posts.set (wh % ((d.Posts.length : Nat) : Int)).toNat (PostV.mk q.Id q.Kind q.Spot (max 0 (q.Delay - by_ % 70)) (max 1 (q.Pace - by_ % 50)))), (p.Id + 1)), (by first | exact ⟨fast_same, wide_raw hin, by omega⟩ | exact ⟨fast_more hq (by omega) (by omega), fast_raw hin hq, by omega⟩)⟩))
 refine w_drawN mixed [0, 2, 4] [1, 3, 5, 6, 7, 8, 9, 10, 11] [false, false, false] [] [(own a31 c32 3 1 ((calledV d (idxL d.Posts.length (bitS bn))).map iC)), (own a26 c27 3 1 ((lacksV d (idxL d.Posts.length (bitS bn))).map iC)), (own la lc 3 1 ((idxL d.Posts.length (bitS bn)).map iC)), (blk b3 62 (PostV.cells y)), (blk b2 32 (GuardV.cells (GuardV.mk (TrackV.mk (Slc.mk kA d.Track.length kC)) (Slc.mk pA d.Posts.length pC) (Slc.mk nA d.Needs.length nC) d.Tower d.Radio))), (rd kA d.Track.length 9 (d.Track.map StretchV.cells)).ro, (rd pA d.Posts.length 7 (d.Posts.map PostV.cells)).ro, (rd nA d.Needs.length 3 (d.Needs.map NeedV.cells)).ro] [] (by kernel_rfl) (fun w hs => St.sel [0, 1, 2, 3, 4, 5, 6, 7] rfl rfl hs) (fun w hs => St.sel [] rfl rfl hs) <| eS rfl (LW 4 rfl tk32 rfl rfl) <| eS rfl (LW 4 rfl tk32 rfl rfl) <| eS rfl (LW 4 rfl tk32 rfl rfl) <| d_fin rfl ?_
 refine n_step [1, 6, 7, 8] (by kernel_rfl) (n_cons ?_ <| n_cons ?_ <| n_cons ?_ <| n_cons ?_ <| n_nil)
 rotate_left 1
 · refine NO rfl rfl [1,3,5,7,8,9,10,11] fun T36 hT36 => ?_
   refine AL rfl tz32 fun b37 => RD hT36 1 rfl ?_
   refine n_step [1, 7, 8] (by kernel_rfl) (n_cons ?_ <| n_cons ?_ <| n_cons ?_ <| n_nil)
   rotate_left 1
   · refine NO rfl rfl [1,3,5,8,9,10,11] fun T38 hT38 => ?_
     refine AL rfl tz32 fun b39 => RD hT38 2 rfl ?_
     refine n_step [1, 8] (by kernel_rfl) (n_cons ?_ <| n_cons ?_ <| n_nil)
     rotate_left 1
     · refine NO rfl rfl [1,3,5,9,10,11] fun T40 hT40 => ?_
       refine AL rfl tz32 fun b41 => RD hT40 3 rfl <| N1 1 <| NO rfl rfl [3,5,9,10,11] fun T42 hT42 => cX (ptwin_c d kA kC pA pC nA nC (by exact hin)) (ha3 8 9 10 rfl rfl rfl rfl rfl rfl) rfl fun y43 hy44 => ?_
       obtain ⟨a145, c146, a247, c248, a349, c350⟩ := y43
       try dsimp only
       refine RD hT42 6 rfl <| N1 3 <| NO rfl rfl [5,9,10,11] fun T51 hT51 => cX (ptwin_c d kA kC pA pC nA nC (by exact hin)) (ha3 11 12 13 rfl rfl rfl rfl rfl rfl) rfl fun y52 hy53 => ?_
       obtain ⟨a154, c155, a256, c257, a358, c359⟩ := y52
       try dsimp only
       refine RD hT51 9 rfl <| N1 5 <| NO rfl rfl [9,10,11] fun T60 hT60 => cX (ptwin_c d kA kC pA pC nA nC (by exact hin)) (ha3 14 15 16 rfl rfl rfl rfl rfl rfl) rfl fun y61 hy62 => ?_
       obtain ⟨a163, c164, a265, c266, a367, c368⟩ := y61
       try dsimp only
       refine RD hT60 12 rfl <| N1 9 <| NO rfl rfl [10,11] fun T69 hT69 => SW11 rfl ts32 rfl <| RD hT69 12 rfl <| N1 10 <| NO rfl rfl [11] fun T70 hT70 => SW10 rfl ts32 rfl <| RD hT70 12 rfl <| N1 11 ?_
       refine NO rfl rfl [] fun T71 hT71 => SW9 rfl ts32 rfl <| RD hT71 12 rfl ?_
       refine n_fin (k_then (k_sub (sub_all rfl) (fun w hs => St.sel [6, 7, 8, 11, 3, 4, 5, 10, 0, 1, 2, 9, 12, 13, 14, 15, 16, 17, 18, 19] rfl rfl hs) (hK35 ⟨(b37, a145, c146, a247, c248, a349, c350, b39, a154, c155, a256, c257, a358, c359, b41, a163, c164, a265, c266, a367, c368), trivial⟩)))
     refine NO rfl rfl [3,5,8,9,10,11] fun T40 hT40 => cX (ptwin_c d kA kC pA pC nA nC (by exact hin)) (ha3 7 8 9 rfl rfl rfl rfl rfl rfl) rfl fun y41 hy42 => ?_
     obtain ⟨a143, c144, a245, c246, a347, c348⟩ := y41
     try dsimp only
     refine RD hT40 5 rfl ?_
     refine n_step [3, 8] (by kernel_rfl) (n_cons ?_ <| n_cons ?_ <| n_nil)
     rotate_left 1
     · refine NO rfl rfl [3,5,9,10,11] fun T49 hT49 => ?_
       refine AL rfl tz32 fun b50 => RD hT49 6 rfl <| N1 3 <| NO rfl rfl [5,9,10,11] fun T51 hT51 => cX (ptwin_c d kA kC pA pC nA nC (by exact hin)) (ha3 11 12 13 rfl rfl rfl rfl rfl rfl) rfl fun y52 hy53 => ?_
       obtain ⟨a154, c155, a256, c257, a358, c359⟩ := y52
       try dsimp only
       refine RD hT51 9 rfl <| N1 5 <| NO rfl rfl [9,10,11] fun T60 hT60 => cX (ptwin_c d kA kC pA pC nA nC (by exact hin)) (ha3 14 15 16 rfl rfl rfl rfl rfl rfl) rfl fun y61 hy62 => ?_
       obtain ⟨a163, c164, a265, c266, a367, c368⟩ := y61
       try dsimp only
       refine RD hT60 12 rfl <| N1 9 <| NO rfl rfl [10,11] fun T69 hT69 => SW11 rfl ts32 rfl <| RD hT69 12 rfl <| N1 10 <| NO rfl rfl [11] fun T70 hT70 => SW10 rfl ts32 rfl <| RD hT70 12 rfl <| N1 11 ?_
       refine NO rfl rfl [] fun T71 hT71 => SW6 rfl ts32 rfl <| RD hT71 12 rfl ?_
       refine n_fin (k_then (k_sub (sub_all rfl) (fun w hs => St.sel [7, 8, 9, 11, 3, 4, 5, 10, 0, 1, 2, 6, 12, 13, 14, 15, 16, 17, 18, 19] rfl rfl hs) (hK35 ⟨(b37, a143, c144, a245, c246, a347, c348, b39, a154, c155, a256, c257, a358, c359, b50, a163, c164, a265, c266, a367, c368), trivial⟩)))
     refine NO rfl rfl [5,8,9,10,11] fun T49 hT49 => cX (ptwin_c d kA kC pA pC nA nC (by exact hin)) (ha3 10 11 12 rfl rfl rfl rfl rfl rfl) rfl fun y50 hy51 => ?_
     obtain ⟨a152, c153, a254, c255, a356, c357⟩ := y50
     try dsimp only
     refine RD hT49 8 rfl ?_
     refine n_step [5, 8] (by kernel_rfl) (n_cons ?_ <| n_cons ?_ <| n_nil)
     rotate_left 1
     · refine NO rfl rfl [5,9,10,11] fun T58 hT58 => ?_
       refine AL rfl tz32 fun b59 => RD hT58 9 rfl <| N1 5 <| NO rfl rfl [9,10,11] fun T60 hT60 => cX (ptwin_c d kA kC pA pC nA nC (by exact hin)) (ha3 14 15 16 rfl rfl rfl rfl rfl rfl) rfl fun y61 hy62 => ?_
       obtain ⟨a163, c164, a265, c266, a367, c368⟩ := y61
       try dsimp only
       refine RD hT60 12 rfl <| N1 9 <| NO rfl rfl [10,11] fun T69 hT69 => SW11 rfl ts32 rfl <| RD hT69 12 rfl <| N1 10 <| NO rfl rfl [11] fun T70 hT70 => SW10 rfl ts32 rfl <| RD hT70 12 rfl <| N1 11 ?_
       refine NO rfl rfl [] fun T71 hT71 => SW3 rfl ts32 rfl <| RD hT71 12 rfl ?_
       refine n_fin (k_then (k_sub (sub_all rfl) (fun w hs => St.sel [7, 8, 9, 11, 4, 5, 6, 10, 0, 1, 2, 3, 12, 13, 14, 15, 16, 17, 18, 19] rfl rfl hs) (hK35 ⟨(b37, a143, c144, a245, c246, a347, c348, b39, a152, c153, a254, c255, a356, c357, b59, a163, c164, a265, c266, a367, c368), trivial⟩)))
     refine NO rfl rfl [8,9,10,11] fun T58 hT58 => cX (ptwin_c d kA kC pA pC nA nC (by exact hin)) (ha3 13 14 15 rfl rfl rfl rfl rfl rfl) rfl fun y59 hy60 => ?_
     obtain ⟨a161, c162, a263, c264, a365, c366⟩ := y59
     try dsimp only
     refine RD hT58 11 rfl <| N1 8 <| NO rfl rfl [9,10,11] fun T67 hT67 => AL rfl tz32 fun b68 => RD hT67 12 rfl <| N1 9 <| NO rfl rfl [10,11] fun T69 hT69 => SW11 rfl ts32 rfl <| RD hT69 12 rfl <| N1 10 ?_
     refine NO rfl rfl [11] fun T70 hT70 => SW10 rfl ts32 rfl <| RD hT70 12 rfl <| N1 11 <| NO rfl rfl [] fun T71 hT71 => SW0 rfl ts32 rfl <| RD hT71 12 rfl ?_
     refine n_fin (k_then (k_sub (sub_all rfl) (fun w hs => St.sel [7, 8, 9, 11, 4, 5, 6, 10, 1, 2, 3, 0, 12, 13, 14, 15, 16, 17, 18, 19] rfl rfl hs) (hK35 ⟨(b37, a143, c144, a245, c246, a347, c348, b39, a152, c153, a254, c255, a356, c357, b68, a161, c162, a263, c264, a365, c366), trivial⟩)))
   · refine NO rfl rfl [1,3,5,7,9,10,11] fun T38 hT38 => ?_
     refine AL rfl tz32 fun b39 => RD hT38 2 rfl ?_
     refine n_step [1, 7] (by kernel_rfl) (n_cons ?_ <| n_cons ?_ <| n_nil)
     rotate_left 1
     · refine NO rfl rfl [1,3,5,9,10,11] fun T40 hT40 => ?_
       refine AL rfl tz32 fun b41 => RD hT40 3 rfl <| N1 1 <| NO rfl rfl [3,5,9,10,11] fun T42 hT42 => cX (ptwin_c d kA kC pA pC nA nC (by exact hin)) (ha3 8 9 10 rfl rfl rfl rfl rfl rfl) rfl fun y43 hy44 => ?_
       obtain ⟨a145, c146, a247, c248, a349, c350⟩ := y43
       try dsimp only
       refine RD hT42 6 rfl <| N1 3 <| NO rfl rfl [5,9,10,11] fun T51 hT51 => cX (ptwin_c d kA kC pA pC nA nC (by exact hin)) (ha3 11 12 13 rfl rfl rfl rfl rfl rfl) rfl fun y52 hy53 => ?_
       obtain ⟨a154, c155, a256, c257, a358, c359⟩ := y52
       try dsimp only
       refine RD hT51 9 rfl <| N1 5 <| NO rfl rfl [9,10,11] fun T60 hT60 => cX (ptwin_c d kA kC pA pC nA nC (by exact hin)) (ha3 14 15 16 rfl rfl rfl rfl rfl rfl) rfl fun y61 hy62 => ?_
       obtain ⟨a163, c164, a265, c266, a367, c368⟩ := y61
       try dsimp only
       refine RD hT60 12 rfl <| N1 9 <| NO rfl rfl [10,11] fun T69 hT69 => SW11 rfl ts32 rfl <| RD hT69 12 rfl <| N1 10 <| NO rfl rfl [11] fun T70 hT70 => SW9 rfl ts32 rfl <| RD hT70 12 rfl <| N1 11 ?_
       refine NO rfl rfl [] fun T71 hT71 => SW10 rfl ts32 rfl <| RD hT71 12 rfl ?_
       refine n_fin (k_then (k_sub (sub_all rfl) (fun w hs => St.sel [6, 7, 8, 11, 3, 4, 5, 9, 0, 1, 2, 10, 12, 13, 14, 15, 16, 17, 18, 19] rfl rfl hs) (hK35 ⟨(b37, a145, c146, a247, c248, a349, c350, b41, a154, c155, a256, c257, a358, c359, b39, a163, c164, a265, c266, a367, c368), trivial⟩)))
     refine NO rfl rfl [3,5,7,9,10,11] fun T40 hT40 => cX (ptwin_c d kA kC pA pC nA nC (by exact hin)) (ha3 7 8 9 rfl rfl rfl rfl rfl rfl) rfl fun y41 hy42 => ?_
     obtain ⟨a143, c144, a245, c246, a347, c348⟩ := y41
     try dsimp only
     refine RD hT40 5 rfl ?_
     refine n_step [3, 7] (by kernel_rfl) (n_cons ?_ <| n_cons ?_ <| n_nil)
     rotate_left 1
     · refine NO rfl rfl [3,5,9,10,11] fun T49 hT49 => ?_
       refine AL rfl tz32 fun b50 => RD hT49 6 rfl <| N1 3 <| NO rfl rfl [5,9,10,11] fun T51 hT51 => cX (ptwin_c d kA kC pA pC nA nC (by exact hin)) (ha3 11 12 13 rfl rfl rfl rfl rfl rfl) rfl fun y52 hy53 => ?_
       obtain ⟨a154, c155, a256, c257, a358, c359⟩ := y52
       try dsimp only
       refine RD hT51 9 rfl <| N1 5 <| NO rfl rfl [9,10,11] fun T60 hT60 => cX (ptwin_c d kA kC pA pC nA nC (by exact hin)) (ha3 14 15 16 rfl rfl rfl rfl rfl rfl) rfl fun y61 hy62 => ?_
       obtain ⟨a163, c164, a265, c266, a367, c368⟩ := y61
       try dsimp only
       refine RD hT60 12 rfl <| N1 9 <| NO rfl rfl [10,11] fun T69 hT69 => SW11 rfl ts32 rfl <| RD hT69 12 rfl <| N1 10 <| NO rfl rfl [11] fun T70 hT70 => SW6 rfl ts32 rfl <| RD hT70 12 rfl <| N1 11 ?_
       refine NO rfl rfl [] fun T71 hT71 => SW10 rfl ts32 rfl <| RD hT71 12 rfl ?_
       refine n_fin (k_then (k_sub (sub_all rfl) (fun w hs => St.sel [7, 8, 9, 11, 3, 4, 5, 6, 0, 1, 2, 10, 12, 13, 14, 15, 16, 17, 18, 19] rfl rfl hs) (hK35 ⟨(b37, a143, c144, a245, c246, a347, c348, b50, a154, c155, a256, c257, a358, c359, b39, a163, c164, a265, c266, a367, c368), trivial⟩)))
     refine NO rfl rfl [5,7,9,10,11] fun T49 hT49 => cX (ptwin_c d kA kC pA pC nA nC (by exact hin)) (ha3 10 11 12 rfl rfl rfl rfl rfl rfl) rfl fun y50 hy51 => ?_
     obtain ⟨a152, c153, a254, c255, a356, c357⟩ := y50
     try dsimp only
     refine RD hT49 8 rfl ?_
     refine n_step [5, 7] (by kernel_rfl) (n_cons ?_ <| n_cons ?_ <| n_nil)
     rotate_left 1
     · refine NO rfl rfl [5,9,10,11] fun T58 hT58 => ?_
       refine AL rfl tz32 fun b59 => RD hT58 9 rfl <| N1 5 <| NO rfl rfl [9,10,11] fun T60 hT60 => cX (ptwin_c d kA kC pA pC nA nC (by exact hin)) (ha3 14 15 16 rfl rfl rfl rfl rfl rfl) rfl fun y61 hy62 => ?_
       obtain ⟨a163, c164, a265, c266, a367, c368⟩ := y61
       try dsimp only
       refine RD hT60 12 rfl <| N1 9 <| NO rfl rfl [10,11] fun T69 hT69 => SW11 rfl ts32 rfl <| RD hT69 12 rfl <| N1 10 <| NO rfl rfl [11] fun T70 hT70 => SW3 rfl ts32 rfl <| RD hT70 12 rfl <| N1 11 ?_
       refine NO rfl rfl [] fun T71 hT71 => SW10 rfl ts32 rfl <| RD hT71 12 rfl ?_
       refine n_fin (k_then (k_sub (sub_all rfl) (fun w hs => St.sel [7, 8, 9, 11, 4, 5, 6, 3, 0, 1, 2, 10, 12, 13, 14, 15, 16, 17, 18, 19] rfl rfl hs) (hK35 ⟨(b37, a143, c144, a245, c246, a347, c348, b59, a152, c153, a254, c255, a356, c357, b39, a163, c164, a265, c266, a367, c368), trivial⟩)))
     refine NO rfl rfl [7,9,10,11] fun T58 hT58 => cX (ptwin_c d kA kC pA pC nA nC (by exact hin)) (ha3 13 14 15 rfl rfl rfl rfl rfl rfl) rfl fun y59 hy60 => ?_
     obtain ⟨a161, c162, a263, c264, a365, c366⟩ := y59
     try dsimp only
     refine RD hT58 11 rfl <| N1 7 <| NO rfl rfl [9,10,11] fun T67 hT67 => AL rfl tz32 fun b68 => RD hT67 12 rfl <| N1 9 <| NO rfl rfl [10,11] fun T69 hT69 => SW11 rfl ts32 rfl <| RD hT69 12 rfl <| N1 10 ?_
     refine NO rfl rfl [11] fun T70 hT70 => SW0 rfl ts32 rfl <| RD hT70 12 rfl <| N1 11 <| NO rfl rfl [] fun T71 hT71 => SW10 rfl ts32 rfl <| RD hT71 12 rfl ?_
     refine n_fin (k_then (k_sub (sub_all rfl) (fun w hs => St.sel [7, 8, 9, 11, 4, 5, 6, 0, 1, 2, 3, 10, 12, 13, 14, 15, 16, 17, 18, 19] rfl rfl hs) (hK35 ⟨(b37, a143, c144, a245, c246, a347, c348, b68, a152, c153, a254, c255, a356, c357, b39, a161, c162, a263, c264, a365, c366), trivial⟩)))
   refine NO rfl rfl [3,5,7,8,9,10,11] fun T38 hT38 => cX (ptwin_c d kA kC pA pC nA nC (by exact hin)) (ha3 6 7 8 rfl rfl rfl rfl rfl rfl) rfl fun y39 hy40 => ?_
   obtain ⟨a141, c142, a243, c244, a345, c346⟩ := y39
   try dsimp only
   refine RD hT38 4 rfl ?_
   refine n_step [3, 7, 8] (by kernel_rfl) (n_cons ?_ <| n_cons ?_ <| n_cons ?_ <| n_nil)
   rotate_left 1
   · refine NO rfl rfl [3,5,8,9,10,11] fun T47 hT47 => ?_
     refine AL rfl tz32 fun b48 => RD hT47 5 rfl ?_
     refine n_step [3, 8] (by kernel_rfl) (n_cons ?_ <| n_cons ?_ <| n_nil)
     rotate_left 1
     · refine NO rfl rfl [3,5,9,10,11] fun T49 hT49 => ?_
       refine AL rfl tz32 fun b50 => RD hT49 6 rfl <| N1 3 <| NO rfl rfl [5,9,10,11] fun T51 hT51 => cX (ptwin_c d kA kC pA pC nA nC (by exact hin)) (ha3 11 12 13 rfl rfl rfl rfl rfl rfl) rfl fun y52 hy53 => ?_
       obtain ⟨a154, c155, a256, c257, a358, c359⟩ := y52
       try dsimp only
       refine RD hT51 9 rfl <| N1 5 <| NO rfl rfl [9,10,11] fun T60 hT60 => cX (ptwin_c d kA kC pA pC nA nC (by exact hin)) (ha3 14 15 16 rfl rfl rfl rfl rfl rfl) rfl fun y61 hy62 => ?_
       obtain ⟨a163, c164, a265, c266, a367, c368⟩ := y61
       try dsimp only
       refine RD hT60 12 rfl <| N1 9 <| NO rfl rfl [10,11] fun T69 hT69 => SW11 rfl ts32 rfl <| RD hT69 12 rfl <| N1 10 <| NO rfl rfl [11] fun T70 hT70 => SW7 rfl ts32 rfl <| RD hT70 12 rfl <| N1 11 ?_
       refine NO rfl rfl [] fun T71 hT71 => SW6 rfl ts32 rfl <| RD hT71 12 rfl ?_
       refine n_fin (k_then (k_sub (sub_all rfl) (fun w hs => St.sel [8, 9, 10, 11, 3, 4, 5, 7, 0, 1, 2, 6, 12, 13, 14, 15, 16, 17, 18, 19] rfl rfl hs) (hK35 ⟨(b37, a141, c142, a243, c244, a345, c346, b48, a154, c155, a256, c257, a358, c359, b50, a163, c164, a265, c266, a367, c368), trivial⟩)))
     refine NO rfl rfl [5,8,9,10,11] fun T49 hT49 => cX (ptwin_c d kA kC pA pC nA nC (by exact hin)) (ha3 10 11 12 rfl rfl rfl rfl rfl rfl) rfl fun y50 hy51 => ?_
     obtain ⟨a152, c153, a254, c255, a356, c357⟩ := y50
     try dsimp only
     refine RD hT49 8 rfl ?_
     refine n_step [5, 8] (by kernel_rfl) (n_cons ?_ <| n_cons ?_ <| n_nil)
     rotate_left 1
     · refine NO rfl rfl [5,9,10,11] fun T58 hT58 => ?_
       refine AL rfl tz32 fun b59 => RD hT58 9 rfl <| N1 5 <| NO rfl rfl [9,10,11] fun T60 hT60 => cX (ptwin_c d kA kC pA pC nA nC (by exact hin)) (ha3 14 15 16 rfl rfl rfl rfl rfl rfl) rfl fun y61 hy62 => ?_
       obtain ⟨a163, c164, a265, c266, a367, c368⟩ := y61
       try dsimp only
       refine RD hT60 12 rfl <| N1 9 <| NO rfl rfl [10,11] fun T69 hT69 => SW11 rfl ts32 rfl <| RD hT69 12 rfl <| N1 10 <| NO rfl rfl [11] fun T70 hT70 => SW7 rfl ts32 rfl <| RD hT70 12 rfl <| N1 11 ?_
       refine NO rfl rfl [] fun T71 hT71 => SW3 rfl ts32 rfl <| RD hT71 12 rfl ?_
       refine n_fin (k_then (k_sub (sub_all rfl) (fun w hs => St.sel [8, 9, 10, 11, 4, 5, 6, 7, 0, 1, 2, 3, 12, 13, 14, 15, 16, 17, 18, 19] rfl rfl hs) (hK35 ⟨(b37, a141, c142, a243, c244, a345, c346, b48, a152, c153, a254, c255, a356, c357, b59, a163, c164, a265, c266, a367, c368), trivial⟩)))
     refine NO rfl rfl [8,9,10,11] fun T58 hT58 => cX (ptwin_c d kA kC pA pC nA nC (by exact hin)) (ha3 13 14 15 rfl rfl rfl rfl rfl rfl) rfl fun y59 hy60 => ?_
     obtain ⟨a161, c162, a263, c264, a365, c366⟩ := y59
     try dsimp only
     refine RD hT58 11 rfl <| N1 8 <| NO rfl rfl [9,10,11] fun T67 hT67 => AL rfl tz32 fun b68 => RD hT67 12 rfl <| N1 9 <| NO rfl rfl [10,11] fun T69 hT69 => SW11 rfl ts32 rfl <| RD hT69 12 rfl <| N1 10 ?_
     refine NO rfl rfl [11] fun T70 hT70 => SW7 rfl ts32 rfl <| RD hT70 12 rfl <| N1 11 <| NO rfl rfl [] fun T71 hT71 => SW0 rfl ts32 rfl <| RD hT71 12 rfl ?_
     refine n_fin (k_then (k_sub (sub_all rfl) (fun w hs => St.sel [8, 9, 10, 11, 4, 5, 6, 7, 1, 2, 3, 0, 12, 13, 14, 15, 16, 17, 18, 19] rfl rfl hs) (hK35 ⟨(b37, a141, c142, a243, c244, a345, c346, b48, a152, c153, a254, c255, a356, c357, b68, a161, c162, a263, c264, a365, c366), trivial⟩)))
   · refine NO rfl rfl [3,5,7,9,10,11] fun T47 hT47 => ?_
     refine AL rfl tz32 fun b48 => RD hT47 5 rfl ?_
     refine n_step [3, 7] (by kernel_rfl) (n_cons ?_ <| n_cons ?_ <| n_nil)
     rotate_left 1
     · refine NO rfl rfl [3,5,9,10,11] fun T49 hT49 => ?_
       refine AL rfl tz32 fun b50 => RD hT49 6 rfl <| N1 3 <| NO rfl rfl [5,9,10,11] fun T51 hT51 => cX (ptwin_c d kA kC pA pC nA nC (by exact hin)) (ha3 11 12 13 rfl rfl rfl rfl rfl rfl) rfl fun y52 hy53 => ?_
       obtain ⟨a154, c155, a256, c257, a358, c359⟩ := y52
       try dsimp only
       refine RD hT51 9 rfl <| N1 5 <| NO rfl rfl [9,10,11] fun T60 hT60 => cX (ptwin_c d kA kC pA pC nA nC (by exact hin)) (ha3 14 15 16 rfl rfl rfl rfl rfl rfl) rfl fun y61 hy62 => ?_
       obtain ⟨a163, c164, a265, c266, a367, c368⟩ := y61
       try dsimp only
       refine RD hT60 12 rfl <| N1 9 <| NO rfl rfl [10,11] fun T69 hT69 => SW11 rfl ts32 rfl <| RD hT69 12 rfl <| N1 10 <| NO rfl rfl [11] fun T70 hT70 => SW6 rfl ts32 rfl <| RD hT70 12 rfl <| N1 11 ?_
       refine NO rfl rfl [] fun T71 hT71 => SW7 rfl ts32 rfl <| RD hT71 12 rfl ?_
       refine n_fin (k_then (k_sub (sub_all rfl) (fun w hs => St.sel [8, 9, 10, 11, 3, 4, 5, 6, 0, 1, 2, 7, 12, 13, 14, 15, 16, 17, 18, 19] rfl rfl hs) (hK35 ⟨(b37, a141, c142, a243, c244, a345, c346, b50, a154, c155, a256, c257, a358, c359, b48, a163, c164, a265, c266, a367, c368), trivial⟩)))
     refine NO rfl rfl [5,7,9,10,11] fun T49 hT49 => cX (ptwin_c d kA kC pA pC nA nC (by exact hin)) (ha3 10 11 12 rfl rfl rfl rfl rfl rfl) rfl fun y50 hy51 => ?_
     obtain ⟨a152, c153, a254, c255, a356, c357⟩ := y50
     try dsimp only
     refine RD hT49 8 rfl ?_
     refine n_step [5, 7] (by kernel_rfl) (n_cons ?_ <| n_cons ?_ <| n_nil)
     rotate_left 1
     · refine NO rfl rfl [5,9,10,11] fun T58 hT58 => ?_
       refine AL rfl tz32 fun b59 => RD hT58 9 rfl <| N1 5 <| NO rfl rfl [9,10,11] fun T60 hT60 => cX (ptwin_c d kA kC pA pC nA nC (by exact hin)) (ha3 14 15 16 rfl rfl rfl rfl rfl rfl) rfl fun y61 hy62 => ?_
       obtain ⟨a163, c164, a265, c266, a367, c368⟩ := y61
       try dsimp only
       refine RD hT60 12 rfl <| N1 9 <| NO rfl rfl [10,11] fun T69 hT69 => SW11 rfl ts32 rfl <| RD hT69 12 rfl <| N1 10 <| NO rfl rfl [11] fun T70 hT70 => SW3 rfl ts32 rfl <| RD hT70 12 rfl <| N1 11 ?_
       refine NO rfl rfl [] fun T71 hT71 => SW7 rfl ts32 rfl <| RD hT71 12 rfl ?_
       refine n_fin (k_then (k_sub (sub_all rfl) (fun w hs => St.sel [8, 9, 10, 11, 4, 5, 6, 3, 0, 1, 2, 7, 12, 13, 14, 15, 16, 17, 18, 19] rfl rfl hs) (hK35 ⟨(b37, a141, c142, a243, c244, a345, c346, b59, a152, c153, a254, c255, a356, c357, b48, a163, c164, a265, c266, a367, c368), trivial⟩)))
     refine NO rfl rfl [7,9,10,11] fun T58 hT58 => cX (ptwin_c d kA kC pA pC nA nC (by exact hin)) (ha3 13 14 15 rfl rfl rfl rfl rfl rfl) rfl fun y59 hy60 => ?_
     obtain ⟨a161, c162, a263, c264, a365, c366⟩ := y59
     try dsimp only
     refine RD hT58 11 rfl <| N1 7 <| NO rfl rfl [9,10,11] fun T67 hT67 => AL rfl tz32 fun b68 => RD hT67 12 rfl <| N1 9 <| NO rfl rfl [10,11] fun T69 hT69 => SW11 rfl ts32 rfl <| RD hT69 12 rfl <| N1 10 ?_
     refine NO rfl rfl [11] fun T70 hT70 => SW0 rfl ts32 rfl <| RD hT70 12 rfl <| N1 11 <| NO rfl rfl [] fun T71 hT71 => SW7 rfl ts32 rfl <| RD hT71 12 rfl ?_
     refine n_fin (k_then (k_sub (sub_all rfl) (fun w hs => St.sel [8, 9, 10, 11, 4, 5, 6, 0, 1, 2, 3, 7, 12, 13, 14, 15, 16, 17, 18, 19] rfl rfl hs) (hK35 ⟨(b37, a141, c142, a243, c244, a345, c346, b68, a152, c153, a254, c255, a356, c357, b48, a161, c162, a263, c264, a365, c366), trivial⟩)))
   refine NO rfl rfl [5,7,8,9,10,11] fun T47 hT47 => cX (ptwin_c d kA kC pA pC nA nC (by exact hin)) (ha3 9 10 11 rfl rfl rfl rfl rfl rfl) rfl fun y48 hy49 => ?_
   obtain ⟨a150, c151, a252, c253, a354, c355⟩ := y48
   try dsimp only
   refine RD hT47 7 rfl ?_
   refine n_step [5, 7, 8] (by kernel_rfl) (n_cons ?_ <| n_cons ?_ <| n_cons ?_ <| n_nil)
   rotate_left 2
   · refine NO rfl rfl [5,7,9,10,11] fun T56 hT56 => ?_
     refine AL rfl tz32 fun b57 => RD hT56 8 rfl ?_
     refine n_step [5, 7] (by kernel_rfl) (n_cons ?_ <| n_cons ?_ <| n_nil)
     rotate_left 1
     · refine NO rfl rfl [5,9,10,11] fun T58 hT58 => ?_
       refine AL rfl tz32 fun b59 => RD hT58 9 rfl <| N1 5 <| NO rfl rfl [9,10,11] fun T60 hT60 => cX (ptwin_c d kA kC pA pC nA nC (by exact hin)) (ha3 14 15 16 rfl rfl rfl rfl rfl rfl) rfl fun y61 hy62 => ?_
       obtain ⟨a163, c164, a265, c266, a367, c368⟩ := y61
       try dsimp only
       refine RD hT60 12 rfl <| N1 9 <| NO rfl rfl [10,11] fun T69 hT69 => SW11 rfl ts32 rfl <| RD hT69 12 rfl <| N1 10 <| NO rfl rfl [11] fun T70 hT70 => SW3 rfl ts32 rfl <| RD hT70 12 rfl <| N1 11 ?_
       refine NO rfl rfl [] fun T71 hT71 => SW4 rfl ts32 rfl <| RD hT71 12 rfl ?_
       refine n_fin (k_then (k_sub (sub_all rfl) (fun w hs => St.sel [8, 9, 10, 11, 5, 6, 7, 3, 0, 1, 2, 4, 12, 13, 14, 15, 16, 17, 18, 19] rfl rfl hs) (hK35 ⟨(b37, a141, c142, a243, c244, a345, c346, b59, a150, c151, a252, c253, a354, c355, b57, a163, c164, a265, c266, a367, c368), trivial⟩)))
     refine NO rfl rfl [7,9,10,11] fun T58 hT58 => cX (ptwin_c d kA kC pA pC nA nC (by exact hin)) (ha3 13 14 15 rfl rfl rfl rfl rfl rfl) rfl fun y59 hy60 => ?_
     obtain ⟨a161, c162, a263, c264, a365, c366⟩ := y59
     try dsimp only
     refine RD hT58 11 rfl <| N1 7 <| NO rfl rfl [9,10,11] fun T67 hT67 => AL rfl tz32 fun b68 => RD hT67 12 rfl <| N1 9 <| NO rfl rfl [10,11] fun T69 hT69 => SW11 rfl ts32 rfl <| RD hT69 12 rfl <| N1 10 ?_
     refine NO rfl rfl [11] fun T70 hT70 => SW0 rfl ts32 rfl <| RD hT70 12 rfl <| N1 11 <| NO rfl rfl [] fun T71 hT71 => SW4 rfl ts32 rfl <| RD hT71 12 rfl ?_
     refine n_fin (k_then (k_sub (sub_all rfl) (fun w hs => St.sel [8, 9, 10, 11, 5, 6, 7, 0, 1, 2, 3, 4, 12, 13, 14, 15, 16, 17, 18, 19] rfl rfl hs) (hK35 ⟨(b37, a141, c142, a243, c244, a345, c346, b68, a150, c151, a252, c253, a354, c355, b57, a161, c162, a263, c264, a365, c366), trivial⟩)))
   · refine NO rfl rfl [7,8,9,10,11] fun T56 hT56 => ?_
     refine cX (ptwin_c d kA kC pA pC nA nC (by exact hin)) (ha3 12 13 14 rfl rfl rfl rfl rfl rfl) rfl fun y57 hy58 => ?_
     obtain ⟨a159, c160, a261, c262, a363, c364⟩ := y57
     try dsimp only
     refine RD hT56 10 rfl ?_
     refine n_step [7, 8] (by kernel_rfl) (n_cons ?_ <| n_cons ?_ <| n_nil)
     rotate_left 1
     · refine NO rfl rfl [7,9,10,11] fun T65 hT65 => ?_
       refine AL rfl tz32 fun b66 => RD hT65 11 rfl <| N1 7 <| NO rfl rfl [9,10,11] fun T67 hT67 => AL rfl tz32 fun b68 => RD hT67 12 rfl <| N1 9 <| NO rfl rfl [10,11] fun T69 hT69 => SW11 rfl ts32 rfl <| RD hT69 12 rfl ?_
       refine N1 10 <| NO rfl rfl [11] fun T70 hT70 => SW0 rfl ts32 rfl <| RD hT70 12 rfl <| N1 11 <| NO rfl rfl [] fun T71 hT71 => SW1 rfl ts32 rfl <| RD hT71 12 rfl ?_
       refine n_fin (k_then (k_sub (sub_all rfl) (fun w hs => St.sel [8, 9, 10, 11, 5, 6, 7, 0, 2, 3, 4, 1, 12, 13, 14, 15, 16, 17, 18, 19] rfl rfl hs) (hK35 ⟨(b37, a141, c142, a243, c244, a345, c346, b68, a150, c151, a252, c253, a354, c355, b66, a159, c160, a261, c262, a363, c364), trivial⟩)))
     refine NO rfl rfl [8,9,10,11] fun T65 hT65 => AL rfl tz32 fun b66 => RD hT65 11 rfl <| N1 8 <| NO rfl rfl [9,10,11] fun T67 hT67 => AL rfl tz32 fun b68 => RD hT67 12 rfl <| N1 9 <| NO rfl rfl [10,11] fun T69 hT69 => SW11 rfl ts32 rfl ?_
     refine RD hT69 12 rfl <| N1 10 <| NO rfl rfl [11] fun T70 hT70 => SW1 rfl ts32 rfl <| RD hT70 12 rfl <| N1 11 <| NO rfl rfl [] fun T71 hT71 => SW0 rfl ts32 rfl <| RD hT71 12 rfl ?_
     refine n_fin (k_then (k_sub (sub_all rfl) (fun w hs => St.sel [8, 9, 10, 11, 5, 6, 7, 1, 2, 3, 4, 0, 12, 13, 14, 15, 16, 17, 18, 19] rfl rfl hs) (hK35 ⟨(b37, a141, c142, a243, c244, a345, c346, b66, a150, c151, a252, c253, a354, c355, b68, a159, c160, a261, c262, a363, c364), trivial⟩)))
   refine NO rfl rfl [5,8,9,10,11] fun T56 hT56 => AL rfl tz32 fun b57 => RD hT56 8 rfl ?_
   refine n_step [5, 8] (by kernel_rfl) (n_cons ?_ <| n_cons ?_ <| n_nil)
   rotate_left 1
   · refine NO rfl rfl [5,9,10,11] fun T58 hT58 => ?_
     refine AL rfl tz32 fun b59 => RD hT58 9 rfl <| N1 5 <| NO rfl rfl [9,10,11] fun T60 hT60 => cX (ptwin_c d kA kC pA pC nA nC (by exact hin)) (ha3 14 15 16 rfl rfl rfl rfl rfl rfl) rfl fun y61 hy62 => ?_
     obtain ⟨a163, c164, a265, c266, a367, c368⟩ := y61
     try dsimp only
     refine RD hT60 12 rfl <| N1 9 <| NO rfl rfl [10,11] fun T69 hT69 => SW11 rfl ts32 rfl <| RD hT69 12 rfl <| N1 10 <| NO rfl rfl [11] fun T70 hT70 => SW4 rfl ts32 rfl <| RD hT70 12 rfl <| N1 11 ?_
     refine NO rfl rfl [] fun T71 hT71 => SW3 rfl ts32 rfl <| RD hT71 12 rfl ?_
     refine n_fin (k_then (k_sub (sub_all rfl) (fun w hs => St.sel [8, 9, 10, 11, 5, 6, 7, 4, 0, 1, 2, 3, 12, 13, 14, 15, 16, 17, 18, 19] rfl rfl hs) (hK35 ⟨(b37, a141, c142, a243, c244, a345, c346, b57, a150, c151, a252, c253, a354, c355, b59, a163, c164, a265, c266, a367, c368), trivial⟩)))
   refine NO rfl rfl [8,9,10,11] fun T58 hT58 => cX (ptwin_c d kA kC pA pC nA nC (by exact hin)) (ha3 13 14 15 rfl rfl rfl rfl rfl rfl) rfl fun y59 hy60 => ?_
   obtain ⟨a161, c162, a263, c264, a365, c366⟩ := y59
   try dsimp only
   refine RD hT58 11 rfl <| N1 8 <| NO rfl rfl [9,10,11] fun T67 hT67 => AL rfl tz32 fun b68 => RD hT67 12 rfl <| N1 9 <| NO rfl rfl [10,11] fun T69 hT69 => SW11 rfl ts32 rfl <| RD hT69 12 rfl <| N1 10 ?_
   refine NO rfl rfl [11] fun T70 hT70 => SW4 rfl ts32 rfl <| RD hT70 12 rfl <| N1 11 <| NO rfl rfl [] fun T71 hT71 => SW0 rfl ts32 rfl <| RD hT71 12 rfl ?_
   refine n_fin (k_then (k_sub (sub_all rfl) (fun w hs => St.sel [8, 9, 10, 11, 5, 6, 7, 4, 1, 2, 3, 0, 12, 13, 14, 15, 16, 17, 18, 19] rfl rfl hs) (hK35 ⟨(b37, a141, c142, a243, c244, a345, c346, b57, a150, c151, a252, c253, a354, c355, b68, a161, c162, a263, c264, a365, c366), trivial⟩)))
 · refine NO rfl rfl [1,3,5,6,8,9,10,11] fun T36 hT36 => ?_
   refine AL rfl tz32 fun b37 => RD hT36 1 rfl ?_
   refine n_step [1, 6, 8] (by kernel_rfl) (n_cons ?_ <| n_cons ?_ <| n_cons ?_ <| n_nil)
   rotate_left 1
   · refine NO rfl rfl [1,3,5,8,9,10,11] fun T38 hT38 => ?_
     refine AL rfl tz32 fun b39 => RD hT38 2 rfl ?_
     refine n_step [1, 8] (by kernel_rfl) (n_cons ?_ <| n_cons ?_ <| n_nil)
     rotate_left 1
     · refine NO rfl rfl [1,3,5,9,10,11] fun T40 hT40 => ?_
       refine AL rfl tz32 fun b41 => RD hT40 3 rfl <| N1 1 <| NO rfl rfl [3,5,9,10,11] fun T42 hT42 => cX (ptwin_c d kA kC pA pC nA nC (by exact hin)) (ha3 8 9 10 rfl rfl rfl rfl rfl rfl) rfl fun y43 hy44 => ?_
       obtain ⟨a145, c146, a247, c248, a349, c350⟩ := y43
       try dsimp only
       refine RD hT42 6 rfl <| N1 3 <| NO rfl rfl [5,9,10,11] fun T51 hT51 => cX (ptwin_c d kA kC pA pC nA nC (by exact hin)) (ha3 11 12 13 rfl rfl rfl rfl rfl rfl) rfl fun y52 hy53 => ?_
       obtain ⟨a154, c155, a256, c257, a358, c359⟩ := y52
       try dsimp only
       refine RD hT51 9 rfl <| N1 5 <| NO rfl rfl [9,10,11] fun T60 hT60 => cX (ptwin_c d kA kC pA pC nA nC (by exact hin)) (ha3 14 15 16 rfl rfl rfl rfl rfl rfl) rfl fun y61 hy62 => ?_
       obtain ⟨a163, c164, a265, c266, a367, c368⟩ := y61
       try dsimp only
       refine RD hT60 12 rfl <| N1 9 <| NO rfl rfl [10,11] fun T69 hT69 => SW10 rfl ts32 rfl <| RD hT69 12 rfl <| N1 10 <| NO rfl rfl [11] fun T70 hT70 => SW11 rfl ts32 rfl <| RD hT70 12 rfl <| N1 11 ?_
       refine NO rfl rfl [] fun T71 hT71 => SW9 rfl ts32 rfl <| RD hT71 12 rfl ?_
       refine n_fin (k_then (k_sub (sub_all rfl) (fun w hs => St.sel [6, 7, 8, 10, 3, 4, 5, 11, 0, 1, 2, 9, 12, 13, 14, 15, 16, 17, 18, 19] rfl rfl hs) (hK35 ⟨(b39, a145, c146, a247, c248, a349, c350, b37, a154, c155, a256, c257, a358, c359, b41, a163, c164, a265, c266, a367, c368), trivial⟩)))
     refine NO rfl rfl [3,5,8,9,10,11] fun T40 hT40 => cX (ptwin_c d kA kC pA pC nA nC (by exact hin)) (ha3 7 8 9 rfl rfl rfl rfl rfl rfl) rfl fun y41 hy42 => ?_
     obtain ⟨a143, c144, a245, c246, a347, c348⟩ := y41
     try dsimp only
     refine RD hT40 5 rfl ?_
     refine n_step [3, 8] (by kernel_rfl) (n_cons ?_ <| n_cons ?_ <| n_nil)
     rotate_left 1
     · refine NO rfl rfl [3,5,9,10,11] fun T49 hT49 => ?_
       refine AL rfl tz32 fun b50 => RD hT49 6 rfl <| N1 3 <| NO rfl rfl [5,9,10,11] fun T51 hT51 => cX (ptwin_c d kA kC pA pC nA nC (by exact hin)) (ha3 11 12 13 rfl rfl rfl rfl rfl rfl) rfl fun y52 hy53 => ?_
       obtain ⟨a154, c155, a256, c257, a358, c359⟩ := y52
       try dsimp only
       refine RD hT51 9 rfl <| N1 5 <| NO rfl rfl [9,10,11] fun T60 hT60 => cX (ptwin_c d kA kC pA pC nA nC (by exact hin)) (ha3 14 15 16 rfl rfl rfl rfl rfl rfl) rfl fun y61 hy62 => ?_
       obtain ⟨a163, c164, a265, c266, a367, c368⟩ := y61
       try dsimp only
       refine RD hT60 12 rfl <| N1 9 <| NO rfl rfl [10,11] fun T69 hT69 => SW10 rfl ts32 rfl <| RD hT69 12 rfl <| N1 10 <| NO rfl rfl [11] fun T70 hT70 => SW11 rfl ts32 rfl <| RD hT70 12 rfl <| N1 11 ?_
       refine NO rfl rfl [] fun T71 hT71 => SW6 rfl ts32 rfl <| RD hT71 12 rfl ?_
       refine n_fin (k_then (k_sub (sub_all rfl) (fun w hs => St.sel [7, 8, 9, 10, 3, 4, 5, 11, 0, 1, 2, 6, 12, 13, 14, 15, 16, 17, 18, 19] rfl rfl hs) (hK35 ⟨(b39, a143, c144, a245, c246, a347, c348, b37, a154, c155, a256, c257, a358, c359, b50, a163, c164, a265, c266, a367, c368), trivial⟩)))
     refine NO rfl rfl [5,8,9,10,11] fun T49 hT49 => cX (ptwin_c d kA kC pA pC nA nC (by exact hin)) (ha3 10 11 12 rfl rfl rfl rfl rfl rfl) rfl fun y50 hy51 => ?_
     obtain ⟨a152, c153, a254, c255, a356, c357⟩ := y50
     try dsimp only
     refine RD hT49 8 rfl ?_
     refine n_step [5, 8] (by kernel_rfl) (n_cons ?_ <| n_cons ?_ <| n_nil)
     rotate_left 1
     · refine NO rfl rfl [5,9,10,11] fun T58 hT58 => ?_
       refine AL rfl tz32 fun b59 => RD hT58 9 rfl <| N1 5 <| NO rfl rfl [9,10,11] fun T60 hT60 => cX (ptwin_c d kA kC pA pC nA nC (by exact hin)) (ha3 14 15 16 rfl rfl rfl rfl rfl rfl) rfl fun y61 hy62 => ?_
       obtain ⟨a163, c164, a265, c266, a367, c368⟩ := y61
       try dsimp only
       refine RD hT60 12 rfl <| N1 9 <| NO rfl rfl [10,11] fun T69 hT69 => SW10 rfl ts32 rfl <| RD hT69 12 rfl <| N1 10 <| NO rfl rfl [11] fun T70 hT70 => SW11 rfl ts32 rfl <| RD hT70 12 rfl <| N1 11 ?_
       refine NO rfl rfl [] fun T71 hT71 => SW3 rfl ts32 rfl <| RD hT71 12 rfl ?_
       refine n_fin (k_then (k_sub (sub_all rfl) (fun w hs => St.sel [7, 8, 9, 10, 4, 5, 6, 11, 0, 1, 2, 3, 12, 13, 14, 15, 16, 17, 18, 19] rfl rfl hs) (hK35 ⟨(b39, a143, c144, a245, c246, a347, c348, b37, a152, c153, a254, c255, a356, c357, b59, a163, c164, a265, c266, a367, c368), trivial⟩)))
     refine NO rfl rfl [8,9,10,11] fun T58 hT58 => cX (ptwin_c d kA kC pA pC nA nC (by exact hin)) (ha3 13 14 15 rfl rfl rfl rfl rfl rfl) rfl fun y59 hy60 => ?_
     obtain ⟨a161, c162, a263, c264, a365, c366⟩ := y59
     try dsimp only
     refine RD hT58 11 rfl <| N1 8 <| NO rfl rfl [9,10,11] fun T67 hT67 => AL rfl tz32 fun b68 => RD hT67 12 rfl <| N1 9 <| NO rfl rfl [10,11] fun T69 hT69 => SW10 rfl ts32 rfl <| RD hT69 12 rfl <| N1 10 ?_
     refine NO rfl rfl [11] fun T70 hT70 => SW11 rfl ts32 rfl <| RD hT70 12 rfl <| N1 11 <| NO rfl rfl [] fun T71 hT71 => SW0 rfl ts32 rfl <| RD hT71 12 rfl ?_
     refine n_fin (k_then (k_sub (sub_all rfl) (fun w hs => St.sel [7, 8, 9, 10, 4, 5, 6, 11, 1, 2, 3, 0, 12, 13, 14, 15, 16, 17, 18, 19] rfl rfl hs) (hK35 ⟨(b39, a143, c144, a245, c246, a347, c348, b37, a152, c153, a254, c255, a356, c357, b68, a161, c162, a263, c264, a365, c366), trivial⟩)))
   · refine NO rfl rfl [1,3,5,6,9,10,11] fun T38 hT38 => ?_
     refine AL rfl tz32 fun b39 => RD hT38 2 rfl ?_
     refine n_step [1, 6] (by kernel_rfl) (n_cons ?_ <| n_cons ?_ <| n_nil)
     rotate_left 1
     · refine NO rfl rfl [1,3,5,9,10,11] fun T40 hT40 => ?_
       refine AL rfl tz32 fun b41 => RD hT40 3 rfl <| N1 1 <| NO rfl rfl [3,5,9,10,11] fun T42 hT42 => cX (ptwin_c d kA kC pA pC nA nC (by exact hin)) (ha3 8 9 10 rfl rfl rfl rfl rfl rfl) rfl fun y43 hy44 => ?_
       obtain ⟨a145, c146, a247, c248, a349, c350⟩ := y43
       try dsimp only
       refine RD hT42 6 rfl <| N1 3 <| NO rfl rfl [5,9,10,11] fun T51 hT51 => cX (ptwin_c d kA kC pA pC nA nC (by exact hin)) (ha3 11 12 13 rfl rfl rfl rfl rfl rfl) rfl fun y52 hy53 => ?_
       obtain ⟨a154, c155, a256, c257, a358, c359⟩ := y52
       try dsimp only
       refine RD hT51 9 rfl <| N1 5 <| NO rfl rfl [9,10,11] fun T60 hT60 => cX (ptwin_c d kA kC pA pC nA nC (by exact hin)) (ha3 14 15 16 rfl rfl rfl rfl rfl rfl) rfl fun y61 hy62 => ?_
       obtain ⟨a163, c164, a265, c266, a367, c368⟩ := y61
       try dsimp only
       refine RD hT60 12 rfl <| N1 9 <| NO rfl rfl [10,11] fun T69 hT69 => SW9 rfl ts32 rfl <| RD hT69 12 rfl <| N1 10 <| NO rfl rfl [11] fun T70 hT70 => SW11 rfl ts32 rfl <| RD hT70 12 rfl <| N1 11 ?_
       refine NO rfl rfl [] fun T71 hT71 => SW10 rfl ts32 rfl <| RD hT71 12 rfl ?_
       refine n_fin (k_then (k_sub (sub_all rfl) (fun w hs => St.sel [6, 7, 8, 9, 3, 4, 5, 11, 0, 1, 2, 10, 12, 13, 14, 15, 16, 17, 18, 19] rfl rfl hs) (hK35 ⟨(b41, a145, c146, a247, c248, a349, c350, b37, a154, c155, a256, c257, a358, c359, b39, a163, c164, a265, c266, a367, c368), trivial⟩)))
     refine NO rfl rfl [3,5,6,9,10,11] fun T40 hT40 => cX (ptwin_c d kA kC pA pC nA nC (by exact hin)) (ha3 7 8 9 rfl rfl rfl rfl rfl rfl) rfl fun y41 hy42 => ?_
     obtain ⟨a143, c144, a245, c246, a347, c348⟩ := y41
     try dsimp only
     refine RD hT40 5 rfl ?_
     refine n_step [3, 6] (by kernel_rfl) (n_cons ?_ <| n_cons ?_ <| n_nil)
     rotate_left 1
     · refine NO rfl rfl [3,5,9,10,11] fun T49 hT49 => ?_
       refine AL rfl tz32 fun b50 => RD hT49 6 rfl <| N1 3 <| NO rfl rfl [5,9,10,11] fun T51 hT51 => cX (ptwin_c d kA kC pA pC nA nC (by exact hin)) (ha3 11 12 13 rfl rfl rfl rfl rfl rfl) rfl fun y52 hy53 => ?_
       obtain ⟨a154, c155, a256, c257, a358, c359⟩ := y52
       try dsimp only
       refine RD hT51 9 rfl <| N1 5 <| NO rfl rfl [9,10,11] fun T60 hT60 => cX (ptwin_c d kA kC pA pC nA nC (by exact hin)) (ha3 14 15 16 rfl rfl rfl rfl rfl rfl) rfl fun y61 hy62 => ?_
       obtain ⟨a163, c164, a265, c266, a367, c368⟩ := y61
       try dsimp only
       refine RD hT60 12 rfl <| N1 9 <| NO rfl rfl [10,11] fun T69 hT69 => SW6 rfl ts32 rfl <| RD hT69 12 rfl <| N1 10 <| NO rfl rfl [11] fun T70 hT70 => SW11 rfl ts32 rfl <| RD hT70 12 rfl <| N1 11 ?_
       refine NO rfl rfl [] fun T71 hT71 => SW10 rfl ts32 rfl <| RD hT71 12 rfl ?_
       refine n_fin (k_then (k_sub (sub_all rfl) (fun w hs => St.sel [7, 8, 9, 6, 3, 4, 5, 11, 0, 1, 2, 10, 12, 13, 14, 15, 16, 17, 18, 19] rfl rfl hs) (hK35 ⟨(b50, a143, c144, a245, c246, a347, c348, b37, a154, c155, a256, c257, a358, c359, b39, a163, c164, a265, c266, a367, c368), trivial⟩)))
     refine NO rfl rfl [5,6,9,10,11] fun T49 hT49 => cX (ptwin_c d kA kC pA pC nA nC (by exact hin)) (ha3 10 11 12 rfl rfl rfl rfl rfl rfl) rfl fun y50 hy51 => ?_
     obtain ⟨a152, c153, a254, c255, a356, c357⟩ := y50
     try dsimp only
     refine RD hT49 8 rfl ?_
     refine n_step [5, 6] (by kernel_rfl) (n_cons ?_ <| n_cons ?_ <| n_nil)
     rotate_left 1
     · refine NO rfl rfl [5,9,10,11] fun T58 hT58 => ?_
       refine AL rfl tz32 fun b59 => RD hT58 9 rfl <| N1 5 <| NO rfl rfl [9,10,11] fun T60 hT60 => cX (ptwin_c d kA kC pA pC nA nC (by exact hin)) (ha3 14 15 16 rfl rfl rfl rfl rfl rfl) rfl fun y61 hy62 => ?_
       obtain ⟨a163, c164, a265, c266, a367, c368⟩ := y61
       try dsimp only
       refine RD hT60 12 rfl <| N1 9 <| NO rfl rfl [10,11] fun T69 hT69 => SW3 rfl ts32 rfl <| RD hT69 12 rfl <| N1 10 <| NO rfl rfl [11] fun T70 hT70 => SW11 rfl ts32 rfl <| RD hT70 12 rfl <| N1 11 ?_
       refine NO rfl rfl [] fun T71 hT71 => SW10 rfl ts32 rfl <| RD hT71 12 rfl ?_
       refine n_fin (k_then (k_sub (sub_all rfl) (fun w hs => St.sel [7, 8, 9, 3, 4, 5, 6, 11, 0, 1, 2, 10, 12, 13, 14, 15, 16, 17, 18, 19] rfl rfl hs) (hK35 ⟨(b59, a143, c144, a245, c246, a347, c348, b37, a152, c153, a254, c255, a356, c357, b39, a163, c164, a265, c266, a367, c368), trivial⟩)))
     refine NO rfl rfl [6,9,10,11] fun T58 hT58 => cX (ptwin_c d kA kC pA pC nA nC (by exact hin)) (ha3 13 14 15 rfl rfl rfl rfl rfl rfl) rfl fun y59 hy60 => ?_
     obtain ⟨a161, c162, a263, c264, a365, c366⟩ := y59
     try dsimp only
     refine RD hT58 11 rfl <| N1 6 <| NO rfl rfl [9,10,11] fun T67 hT67 => AL rfl tz32 fun b68 => RD hT67 12 rfl <| N1 9 <| NO rfl rfl [10,11] fun T69 hT69 => SW0 rfl ts32 rfl <| RD hT69 12 rfl <| N1 10 ?_
     refine NO rfl rfl [11] fun T70 hT70 => SW11 rfl ts32 rfl <| RD hT70 12 rfl <| N1 11 <| NO rfl rfl [] fun T71 hT71 => SW10 rfl ts32 rfl <| RD hT71 12 rfl ?_
     refine n_fin (k_then (k_sub (sub_all rfl) (fun w hs => St.sel [7, 8, 9, 0, 4, 5, 6, 11, 1, 2, 3, 10, 12, 13, 14, 15, 16, 17, 18, 19] rfl rfl hs) (hK35 ⟨(b68, a143, c144, a245, c246, a347, c348, b37, a152, c153, a254, c255, a356, c357, b39, a161, c162, a263, c264, a365, c366), trivial⟩)))
   refine NO rfl rfl [3,5,6,8,9,10,11] fun T38 hT38 => cX (ptwin_c d kA kC pA pC nA nC (by exact hin)) (ha3 6 7 8 rfl rfl rfl rfl rfl rfl) rfl fun y39 hy40 => ?_
   obtain ⟨a141, c142, a243, c244, a345, c346⟩ := y39
   try dsimp only
   refine RD hT38 4 rfl ?_
   refine n_step [3, 6, 8] (by kernel_rfl) (n_cons ?_ <| n_cons ?_ <| n_cons ?_ <| n_nil)
   rotate_left 1
   · refine NO rfl rfl [3,5,8,9,10,11] fun T47 hT47 => ?_
     refine AL rfl tz32 fun b48 => RD hT47 5 rfl ?_
     refine n_step [3, 8] (by kernel_rfl) (n_cons ?_ <| n_cons ?_ <| n_nil)
     rotate_left 1
     · refine NO rfl rfl [3,5,9,10,11] fun T49 hT49 => ?_
       refine AL rfl tz32 fun b50 => RD hT49 6 rfl <| N1 3 <| NO rfl rfl [5,9,10,11] fun T51 hT51 => cX (ptwin_c d kA kC pA pC nA nC (by exact hin)) (ha3 11 12 13 rfl rfl rfl rfl rfl rfl) rfl fun y52 hy53 => ?_
       obtain ⟨a154, c155, a256, c257, a358, c359⟩ := y52
       try dsimp only
       refine RD hT51 9 rfl <| N1 5 <| NO rfl rfl [9,10,11] fun T60 hT60 => cX (ptwin_c d kA kC pA pC nA nC (by exact hin)) (ha3 14 15 16 rfl rfl rfl rfl rfl rfl) rfl fun y61 hy62 => ?_
       obtain ⟨a163, c164, a265, c266, a367, c368⟩ := y61
       try dsimp only
       refine RD hT60 12 rfl <| N1 9 <| NO rfl rfl [10,11] fun T69 hT69 => SW7 rfl ts32 rfl <| RD hT69 12 rfl <| N1 10 <| NO rfl rfl [11] fun T70 hT70 => SW11 rfl ts32 rfl <| RD hT70 12 rfl <| N1 11 ?_
       refine NO rfl rfl [] fun T71 hT71 => SW6 rfl ts32 rfl <| RD hT71 12 rfl ?_
       refine n_fin (k_then (k_sub (sub_all rfl) (fun w hs => St.sel [8, 9, 10, 7, 3, 4, 5, 11, 0, 1, 2, 6, 12, 13, 14, 15, 16, 17, 18, 19] rfl rfl hs) (hK35 ⟨(b48, a141, c142, a243, c244, a345, c346, b37, a154, c155, a256, c257, a358, c359, b50, a163, c164, a265, c266, a367, c368), trivial⟩)))
     refine NO rfl rfl [5,8,9,10,11] fun T49 hT49 => cX (ptwin_c d kA kC pA pC nA nC (by exact hin)) (ha3 10 11 12 rfl rfl rfl rfl rfl rfl) rfl fun y50 hy51 => ?_
     obtain ⟨a152, c153, a254, c255, a356, c357⟩ := y50
     try dsimp only
     refine RD hT49 8 rfl ?_
     refine n_step [5, 8] (by kernel_rfl) (n_cons ?_ <| n_cons ?_ <| n_nil)
     rotate_left 1
     · refine NO rfl rfl [5,9,10,11] fun T58 hT58 => ?_
       refine AL rfl tz32 fun b59 => RD hT58 9 rfl <| N1 5 <| NO rfl rfl [9,10,11] fun T60 hT60 => cX (ptwin_c d kA kC pA pC nA nC (by exact hin)) (ha3 14 15 16 rfl rfl rfl rfl rfl rfl) rfl fun y61 hy62 => ?_
       obtain ⟨a163, c164, a265, c266, a367, c368⟩ := y61
       try dsimp only
       refine RD hT60 12 rfl <| N1 9 <| NO rfl rfl [10,11] fun T69 hT69 => SW7 rfl ts32 rfl <| RD hT69 12 rfl <| N1 10 <| NO rfl rfl [11] fun T70 hT70 => SW11 rfl ts32 rfl <| RD hT70 12 rfl <| N1 11 ?_
       refine NO rfl rfl [] fun T71 hT71 => SW3 rfl ts32 rfl <| RD hT71 12 rfl ?_
       refine n_fin (k_then (k_sub (sub_all rfl) (fun w hs => St.sel [8, 9, 10, 7, 4, 5, 6, 11, 0, 1, 2, 3, 12, 13, 14, 15, 16, 17, 18, 19] rfl rfl hs) (hK35 ⟨(b48, a141, c142, a243, c244, a345, c346, b37, a152, c153, a254, c255, a356, c357, b59, a163, c164, a265, c266, a367, c368), trivial⟩)))
     refine NO rfl rfl [8,9,10,11] fun T58 hT58 => cX (ptwin_c d kA kC pA pC nA nC (by exact hin)) (ha3 13 14 15 rfl rfl rfl rfl rfl rfl) rfl fun y59 hy60 => ?_
     obtain ⟨a161, c162, a263, c264, a365, c366⟩ := y59
     try dsimp only
     refine RD hT58 11 rfl <| N1 8 <| NO rfl rfl [9,10,11] fun T67 hT67 => AL rfl tz32 fun b68 => RD hT67 12 rfl <| N1 9 <| NO rfl rfl [10,11] fun T69 hT69 => SW7 rfl ts32 rfl <| RD hT69 12 rfl <| N1 10 ?_
     refine NO rfl rfl [11] fun T70 hT70 => SW11 rfl ts32 rfl <| RD hT70 12 rfl <| N1 11 <| NO rfl rfl [] fun T71 hT71 => SW0 rfl ts32 rfl <| RD hT71 12 rfl ?_
     refine n_fin (k_then (k_sub (sub_all rfl) (fun w hs => St.sel [8, 9, 10, 7, 4, 5, 6, 11, 1, 2, 3, 0, 12, 13, 14, 15, 16, 17, 18, 19] rfl rfl hs) (hK35 ⟨(b48, a141, c142, a243, c244, a345, c346, b37, a152, c153, a254, c255, a356, c357, b68, a161, c162, a263, c264, a365, c366), trivial⟩)))
   · refine NO rfl rfl [3,5,6,9,10,11] fun T47 hT47 => ?_
     refine AL rfl tz32 fun b48 => RD hT47 5 rfl ?_
     refine n_step [3, 6] (by kernel_rfl) (n_cons ?_ <| n_cons ?_ <| n_nil)
     rotate_left 1
     · refine NO rfl rfl [3,5,9,10,11] fun T49 hT49 => ?_
       refine AL rfl tz32 fun b50 => RD hT49 6 rfl <| N1 3 <| NO rfl rfl [5,9,10,11] fun T51 hT51 => cX (ptwin_c d kA kC pA pC nA nC (by exact hin)) (ha3 11 12 13 rfl rfl rfl rfl rfl rfl) rfl fun y52 hy53 => ?_
       obtain ⟨a154, c155, a256, c257, a358, c359⟩ := y52
       try dsimp only
       refine RD hT51 9 rfl <| N1 5 <| NO rfl rfl [9,10,11] fun T60 hT60 => cX (ptwin_c d kA kC pA pC nA nC (by exact hin)) (ha3 14 15 16 rfl rfl rfl rfl rfl rfl) rfl fun y61 hy62 => ?_
       obtain ⟨a163, c164, a265, c266, a367, c368⟩ := y61
       try dsimp only
       refine RD hT60 12 rfl <| N1 9 <| NO rfl rfl [10,11] fun T69 hT69 => SW6 rfl ts32 rfl <| RD hT69 12 rfl <| N1 10 <| NO rfl rfl [11] fun T70 hT70 => SW11 rfl ts32 rfl <| RD hT70 12 rfl <| N1 11 ?_
       refine NO rfl rfl [] fun T71 hT71 => SW7 rfl ts32 rfl <| RD hT71 12 rfl ?_
       refine n_fin (k_then (k_sub (sub_all rfl) (fun w hs => St.sel [8, 9, 10, 6, 3, 4, 5, 11, 0, 1, 2, 7, 12, 13, 14, 15, 16, 17, 18, 19] rfl rfl hs) (hK35 ⟨(b50, a141, c142, a243, c244, a345, c346, b37, a154, c155, a256, c257, a358, c359, b48, a163, c164, a265, c266, a367, c368), trivial⟩)))
     refine NO rfl rfl [5,6,9,10,11] fun T49 hT49 => cX (ptwin_c d kA kC pA pC nA nC (by exact hin)) (ha3 10 11 12 rfl rfl rfl rfl rfl rfl) rfl fun y50 hy51 => ?_
     obtain ⟨a152, c153, a254, c255, a356, c357⟩ := y50
     try dsimp only
     refine RD hT49 8 rfl ?_
     refine n_step [5, 6] (by kernel_rfl) (n_cons ?_ <| n_cons ?_ <| n_nil)
     rotate_left 1
     · refine NO rfl rfl [5,9,10,11] fun T58 hT58 => ?_
       refine AL rfl tz32 fun b59 => RD hT58 9 rfl <| N1 5 <| NO rfl rfl [9,10,11] fun T60 hT60 => cX (ptwin_c d kA kC pA pC nA nC (by exact hin)) (ha3 14 15 16 rfl rfl rfl rfl rfl rfl) rfl fun y61 hy62 => ?_
       obtain ⟨a163, c164, a265, c266, a367, c368⟩ := y61
       try dsimp only
       refine RD hT60 12 rfl <| N1 9 <| NO rfl rfl [10,11] fun T69 hT69 => SW3 rfl ts32 rfl <| RD hT69 12 rfl <| N1 10 <| NO rfl rfl [11] fun T70 hT70 => SW11 rfl ts32 rfl <| RD hT70 12 rfl <| N1 11 ?_
       refine NO rfl rfl [] fun T71 hT71 => SW7 rfl ts32 rfl <| RD hT71 12 rfl ?_
       refine n_fin (k_then (k_sub (sub_all rfl) (fun w hs => St.sel [8, 9, 10, 3, 4, 5, 6, 11, 0, 1, 2, 7, 12, 13, 14, 15, 16, 17, 18, 19] rfl rfl hs) (hK35 ⟨(b59, a141, c142, a243, c244, a345, c346, b37, a152, c153, a254, c255, a356, c357, b48, a163, c164, a265, c266, a367, c368), trivial⟩)))
     refine NO rfl rfl [6,9,10,11] fun T58 hT58 => cX (ptwin_c d kA kC pA pC nA nC (by exact hin)) (ha3 13 14 15 rfl rfl rfl rfl rfl rfl) rfl fun y59 hy60 => ?_
     obtain ⟨a161, c162, a263, c264, a365, c366⟩ := y59
     try dsimp only
     refine RD hT58 11 rfl <| N1 6 <| NO rfl rfl [9,10,11] fun T67 hT67 => AL rfl tz32 fun b68 => RD hT67 12 rfl <| N1 9 <| NO rfl rfl [10,11] fun T69 hT69 => SW0 rfl ts32 rfl <| RD hT69 12 rfl <| N1 10 ?_
     refine NO rfl rfl [11] fun T70 hT70 => SW11 rfl ts32 rfl <| RD hT70 12 rfl <| N1 11 <| NO rfl rfl [] fun T71 hT71 => SW7 rfl ts32 rfl <| RD hT71 12 rfl ?_
     refine n_fin (k_then (k_sub (sub_all rfl) (fun w hs => St.sel [8, 9, 10, 0, 4, 5, 6, 11, 1, 2, 3, 7, 12, 13, 14, 15, 16, 17, 18, 19] rfl rfl hs) (hK35 ⟨(b68, a141, c142, a243, c244, a345, c346, b37, a152, c153, a254, c255, a356, c357, b48, a161, c162, a263, c264, a365, c366), trivial⟩)))
   refine NO rfl rfl [5,6,8,9,10,11] fun T47 hT47 => cX (ptwin_c d kA kC pA pC nA nC (by exact hin)) (ha3 9 10 11 rfl rfl rfl rfl rfl rfl) rfl fun y48 hy49 => ?_
   obtain ⟨a150, c151, a252, c253, a354, c355⟩ := y48
   try dsimp only
   refine RD hT47 7 rfl ?_
   refine n_step [5, 6, 8] (by kernel_rfl) (n_cons ?_ <| n_cons ?_ <| n_cons ?_ <| n_nil)
   rotate_left 2
   · refine NO rfl rfl [5,6,9,10,11] fun T56 hT56 => ?_
     refine AL rfl tz32 fun b57 => RD hT56 8 rfl ?_
     refine n_step [5, 6] (by kernel_rfl) (n_cons ?_ <| n_cons ?_ <| n_nil)
     rotate_left 1
     · refine NO rfl rfl [5,9,10,11] fun T58 hT58 => ?_
       refine AL rfl tz32 fun b59 => RD hT58 9 rfl <| N1 5 <| NO rfl rfl [9,10,11] fun T60 hT60 => cX (ptwin_c d kA kC pA pC nA nC (by exact hin)) (ha3 14 15 16 rfl rfl rfl rfl rfl rfl) rfl fun y61 hy62 => ?_
       obtain ⟨a163, c164, a265, c266, a367, c368⟩ := y61
       try dsimp only
       refine RD hT60 12 rfl <| N1 9 <| NO rfl rfl [10,11] fun T69 hT69 => SW3 rfl ts32 rfl <| RD hT69 12 rfl <| N1 10 <| NO rfl rfl [11] fun T70 hT70 => SW11 rfl ts32 rfl <| RD hT70 12 rfl <| N1 11 ?_
       refine NO rfl rfl [] fun T71 hT71 => SW4 rfl ts32 rfl <| RD hT71 12 rfl ?_
       refine n_fin (k_then (k_sub (sub_all rfl) (fun w hs => St.sel [8, 9, 10, 3, 5, 6, 7, 11, 0, 1, 2, 4, 12, 13, 14, 15, 16, 17, 18, 19] rfl rfl hs) (hK35 ⟨(b59, a141, c142, a243, c244, a345, c346, b37, a150, c151, a252, c253, a354, c355, b57, a163, c164, a265, c266, a367, c368), trivial⟩)))
     refine NO rfl rfl [6,9,10,11] fun T58 hT58 => cX (ptwin_c d kA kC pA pC nA nC (by exact hin)) (ha3 13 14 15 rfl rfl rfl rfl rfl rfl) rfl fun y59 hy60 => ?_
     obtain ⟨a161, c162, a263, c264, a365, c366⟩ := y59
     try dsimp only
     refine RD hT58 11 rfl <| N1 6 <| NO rfl rfl [9,10,11] fun T67 hT67 => AL rfl tz32 fun b68 => RD hT67 12 rfl <| N1 9 <| NO rfl rfl [10,11] fun T69 hT69 => SW0 rfl ts32 rfl <| RD hT69 12 rfl <| N1 10 ?_
     refine NO rfl rfl [11] fun T70 hT70 => SW11 rfl ts32 rfl <| RD hT70 12 rfl <| N1 11 <| NO rfl rfl [] fun T71 hT71 => SW4 rfl ts32 rfl <| RD hT71 12 rfl ?_
     refine n_fin (k_then (k_sub (sub_all rfl) (fun w hs => St.sel [8, 9, 10, 0, 5, 6, 7, 11, 1, 2, 3, 4, 12, 13, 14, 15, 16, 17, 18, 19] rfl rfl hs) (hK35 ⟨(b68, a141, c142, a243, c244, a345, c346, b37, a150, c151, a252, c253, a354, c355, b57, a161, c162, a263, c264, a365, c366), trivial⟩)))
   · refine NO rfl rfl [6,8,9,10,11] fun T56 hT56 => ?_
     refine cX (ptwin_c d kA kC pA pC nA nC (by exact hin)) (ha3 12 13 14 rfl rfl rfl rfl rfl rfl) rfl fun y57 hy58 => ?_
     obtain ⟨a159, c160, a261, c262, a363, c364⟩ := y57
     try dsimp only
     refine RD hT56 10 rfl ?_
     refine n_step [6, 8] (by kernel_rfl) (n_cons ?_ <| n_cons ?_ <| n_nil)
     rotate_left 1
     · refine NO rfl rfl [6,9,10,11] fun T65 hT65 => ?_
       refine AL rfl tz32 fun b66 => RD hT65 11 rfl <| N1 6 <| NO rfl rfl [9,10,11] fun T67 hT67 => AL rfl tz32 fun b68 => RD hT67 12 rfl <| N1 9 <| NO rfl rfl [10,11] fun T69 hT69 => SW0 rfl ts32 rfl <| RD hT69 12 rfl ?_
       refine N1 10 <| NO rfl rfl [11] fun T70 hT70 => SW11 rfl ts32 rfl <| RD hT70 12 rfl <| N1 11 <| NO rfl rfl [] fun T71 hT71 => SW1 rfl ts32 rfl <| RD hT71 12 rfl ?_
       refine n_fin (k_then (k_sub (sub_all rfl) (fun w hs => St.sel [8, 9, 10, 0, 5, 6, 7, 11, 2, 3, 4, 1, 12, 13, 14, 15, 16, 17, 18, 19] rfl rfl hs) (hK35 ⟨(b68, a141, c142, a243, c244, a345, c346, b37, a150, c151, a252, c253, a354, c355, b66, a159, c160, a261, c262, a363, c364), trivial⟩)))
     refine NO rfl rfl [8,9,10,11] fun T65 hT65 => AL rfl tz32 fun b66 => RD hT65 11 rfl <| N1 8 <| NO rfl rfl [9,10,11] fun T67 hT67 => AL rfl tz32 fun b68 => RD hT67 12 rfl <| N1 9 <| NO rfl rfl [10,11] fun T69 hT69 => SW1 rfl ts32 rfl ?_
     refine RD hT69 12 rfl <| N1 10 <| NO rfl rfl [11] fun T70 hT70 => SW11 rfl ts32 rfl <| RD hT70 12 rfl <| N1 11 <| NO rfl rfl [] fun T71 hT71 => SW0 rfl ts32 rfl <| RD hT71 12 rfl ?_
     refine n_fin (k_then (k_sub (sub_all rfl) (fun w hs => St.sel [8, 9, 10, 1, 5, 6, 7, 11, 2, 3, 4, 0, 12, 13, 14, 15, 16, 17, 18, 19] rfl rfl hs) (hK35 ⟨(b66, a141, c142, a243, c244, a345, c346, b37, a150, c151, a252, c253, a354, c355, b68, a159, c160, a261, c262, a363, c364), trivial⟩)))
   refine NO rfl rfl [5,8,9,10,11] fun T56 hT56 => AL rfl tz32 fun b57 => RD hT56 8 rfl ?_
   refine n_step [5, 8] (by kernel_rfl) (n_cons ?_ <| n_cons ?_ <| n_nil)
   rotate_left 1
   · refine NO rfl rfl [5,9,10,11] fun T58 hT58 => ?_
     refine AL rfl tz32 fun b59 => RD hT58 9 rfl <| N1 5 <| NO rfl rfl [9,10,11] fun T60 hT60 => cX (ptwin_c d kA kC pA pC nA nC (by exact hin)) (ha3 14 15 16 rfl rfl rfl rfl rfl rfl) rfl fun y61 hy62 => ?_
     obtain ⟨a163, c164, a265, c266, a367, c368⟩ := y61
     try dsimp only
     refine RD hT60 12 rfl <| N1 9 <| NO rfl rfl [10,11] fun T69 hT69 => SW4 rfl ts32 rfl <| RD hT69 12 rfl <| N1 10 <| NO rfl rfl [11] fun T70 hT70 => SW11 rfl ts32 rfl <| RD hT70 12 rfl <| N1 11 ?_
     refine NO rfl rfl [] fun T71 hT71 => SW3 rfl ts32 rfl <| RD hT71 12 rfl ?_
     refine n_fin (k_then (k_sub (sub_all rfl) (fun w hs => St.sel [8, 9, 10, 4, 5, 6, 7, 11, 0, 1, 2, 3, 12, 13, 14, 15, 16, 17, 18, 19] rfl rfl hs) (hK35 ⟨(b57, a141, c142, a243, c244, a345, c346, b37, a150, c151, a252, c253, a354, c355, b59, a163, c164, a265, c266, a367, c368), trivial⟩)))
   refine NO rfl rfl [8,9,10,11] fun T58 hT58 => cX (ptwin_c d kA kC pA pC nA nC (by exact hin)) (ha3 13 14 15 rfl rfl rfl rfl rfl rfl) rfl fun y59 hy60 => ?_
   obtain ⟨a161, c162, a263, c264, a365, c366⟩ := y59
   try dsimp only
   refine RD hT58 11 rfl <| N1 8 <| NO rfl rfl [9,10,11] fun T67 hT67 => AL rfl tz32 fun b68 => RD hT67 12 rfl <| N1 9 <| NO rfl rfl [10,11] fun T69 hT69 => SW4 rfl ts32 rfl <| RD hT69 12 rfl <| N1 10 ?_
   refine NO rfl rfl [11] fun T70 hT70 => SW11 rfl ts32 rfl <| RD hT70 12 rfl <| N1 11 <| NO rfl rfl [] fun T71 hT71 => SW0 rfl ts32 rfl <| RD hT71 12 rfl ?_
   refine n_fin (k_then (k_sub (sub_all rfl) (fun w hs => St.sel [8, 9, 10, 4, 5, 6, 7, 11, 1, 2, 3, 0, 12, 13, 14, 15, 16, 17, 18, 19] rfl rfl hs) (hK35 ⟨(b57, a141, c142, a243, c244, a345, c346, b37, a150, c151, a252, c253, a354, c355, b68, a161, c162, a263, c264, a365, c366), trivial⟩)))
 · refine NO rfl rfl [1,3,5,6,7,9,10,11] fun T36 hT36 => ?_
   refine AL rfl tz32 fun b37 => RD hT36 1 rfl ?_
   refine n_step [1, 6, 7] (by kernel_rfl) (n_cons ?_ <| n_cons ?_ <| n_cons ?_ <| n_nil)
   rotate_left 1
   · refine NO rfl rfl [1,3,5,7,9,10,11] fun T38 hT38 => ?_
     refine AL rfl tz32 fun b39 => RD hT38 2 rfl ?_
     refine n_step [1, 7] (by kernel_rfl) (n_cons ?_ <| n_cons ?_ <| n_nil)
     rotate_left 1
     · refine NO rfl rfl [1,3,5,9,10,11] fun T40 hT40 => ?_
       refine AL rfl tz32 fun b41 => RD hT40 3 rfl <| N1 1 <| NO rfl rfl [3,5,9,10,11] fun T42 hT42 => cX (ptwin_c d kA kC pA pC nA nC (by exact hin)) (ha3 8 9 10 rfl rfl rfl rfl rfl rfl) rfl fun y43 hy44 => ?_
       obtain ⟨a145, c146, a247, c248, a349, c350⟩ := y43
       try dsimp only
       refine RD hT42 6 rfl <| N1 3 <| NO rfl rfl [5,9,10,11] fun T51 hT51 => cX (ptwin_c d kA kC pA pC nA nC (by exact hin)) (ha3 11 12 13 rfl rfl rfl rfl rfl rfl) rfl fun y52 hy53 => ?_
       obtain ⟨a154, c155, a256, c257, a358, c359⟩ := y52
       try dsimp only
       refine RD hT51 9 rfl <| N1 5 <| NO rfl rfl [9,10,11] fun T60 hT60 => cX (ptwin_c d kA kC pA pC nA nC (by exact hin)) (ha3 14 15 16 rfl rfl rfl rfl rfl rfl) rfl fun y61 hy62 => ?_
       obtain ⟨a163, c164, a265, c266, a367, c368⟩ := y61
       try dsimp only
       refine RD hT60 12 rfl <| N1 9 <| NO rfl rfl [10,11] fun T69 hT69 => SW10 rfl ts32 rfl <| RD hT69 12 rfl <| N1 10 <| NO rfl rfl [11] fun T70 hT70 => SW9 rfl ts32 rfl <| RD hT70 12 rfl <| N1 11 ?_
       refine NO rfl rfl [] fun T71 hT71 => SW11 rfl ts32 rfl <| RD hT71 12 rfl ?_
       refine n_fin (k_then (k_sub (sub_all rfl) (fun w hs => St.sel [6, 7, 8, 10, 3, 4, 5, 9, 0, 1, 2, 11, 12, 13, 14, 15, 16, 17, 18, 19] rfl rfl hs) (hK35 ⟨(b39, a145, c146, a247, c248, a349, c350, b41, a154, c155, a256, c257, a358, c359, b37, a163, c164, a265, c266, a367, c368), trivial⟩)))
     refine NO rfl rfl [3,5,7,9,10,11] fun T40 hT40 => cX (ptwin_c d kA kC pA pC nA nC (by exact hin)) (ha3 7 8 9 rfl rfl rfl rfl rfl rfl) rfl fun y41 hy42 => ?_
     obtain ⟨a143, c144, a245, c246, a347, c348⟩ := y41
     try dsimp only
     refine RD hT40 5 rfl ?_
     refine n_step [3, 7] (by kernel_rfl) (n_cons ?_ <| n_cons ?_ <| n_nil)
     rotate_left 1
     · refine NO rfl rfl [3,5,9,10,11] fun T49 hT49 => ?_
       refine AL rfl tz32 fun b50 => RD hT49 6 rfl <| N1 3 <| NO rfl rfl [5,9,10,11] fun T51 hT51 => cX (ptwin_c d kA kC pA pC nA nC (by exact hin)) (ha3 11 12 13 rfl rfl rfl rfl rfl rfl) rfl fun y52 hy53 => ?_
       obtain ⟨a154, c155, a256, c257, a358, c359⟩ := y52
       try dsimp only
       refine RD hT51 9 rfl <| N1 5 <| NO rfl rfl [9,10,11] fun T60 hT60 => cX (ptwin_c d kA kC pA pC nA nC (by exact hin)) (ha3 14 15 16 rfl rfl rfl rfl rfl rfl) rfl fun y61 hy62 => ?_
       obtain ⟨a163, c164, a265, c266, a367, c368⟩ := y61
       try dsimp only
       refine RD hT60 12 rfl <| N1 9 <| NO rfl rfl [10,11] fun T69 hT69 => SW10 rfl ts32 rfl <| RD hT69 12 rfl <| N1 10 <| NO rfl rfl [11] fun T70 hT70 => SW6 rfl ts32 rfl <| RD hT70 12 rfl <| N1 11 ?_
       refine NO rfl rfl [] fun T71 hT71 => SW11 rfl ts32 rfl <| RD hT71 12 rfl ?_
       refine n_fin (k_then (k_sub (sub_all rfl) (fun w hs => St.sel [7, 8, 9, 10, 3, 4, 5, 6, 0, 1, 2, 11, 12, 13, 14, 15, 16, 17, 18, 19] rfl rfl hs) (hK35 ⟨(b39, a143, c144, a245, c246, a347, c348, b50, a154, c155, a256, c257, a358, c359, b37, a163, c164, a265, c266, a367, c368), trivial⟩)))
     refine NO rfl rfl [5,7,9,10,11] fun T49 hT49 => cX (ptwin_c d kA kC pA pC nA nC (by exact hin)) (ha3 10 11 12 rfl rfl rfl rfl rfl rfl) rfl fun y50 hy51 => ?_
     obtain ⟨a152, c153, a254, c255, a356, c357⟩ := y50
     try dsimp only
     refine RD hT49 8 rfl ?_
     refine n_step [5, 7] (by kernel_rfl) (n_cons ?_ <| n_cons ?_ <| n_nil)
     rotate_left 1
     · refine NO rfl rfl [5,9,10,11] fun T58 hT58 => ?_
       refine AL rfl tz32 fun b59 => RD hT58 9 rfl <| N1 5 <| NO rfl rfl [9,10,11] fun T60 hT60 => cX (ptwin_c d kA kC pA pC nA nC (by exact hin)) (ha3 14 15 16 rfl rfl rfl rfl rfl rfl) rfl fun y61 hy62 => ?_
       obtain ⟨a163, c164, a265, c266, a367, c368⟩ := y61
       try dsimp only
       refine RD hT60 12 rfl <| N1 9 <| NO rfl rfl [10,11] fun T69 hT69 => SW10 rfl ts32 rfl <| RD hT69 12 rfl <| N1 10 <| NO rfl rfl [11] fun T70 hT70 => SW3 rfl ts32 rfl <| RD hT70 12 rfl <| N1 11 ?_
       refine NO rfl rfl [] fun T71 hT71 => SW11 rfl ts32 rfl <| RD hT71 12 rfl ?_
       refine n_fin (k_then (k_sub (sub_all rfl) (fun w hs => St.sel [7, 8, 9, 10, 4, 5, 6, 3, 0, 1, 2, 11, 12, 13, 14, 15, 16, 17, 18, 19] rfl rfl hs) (hK35 ⟨(b39, a143, c144, a245, c246, a347, c348, b59, a152, c153, a254, c255, a356, c357, b37, a163, c164, a265, c266, a367, c368), trivial⟩)))
     refine NO rfl rfl [7,9,10,11] fun T58 hT58 => cX (ptwin_c d kA kC pA pC nA nC (by exact hin)) (ha3 13 14 15 rfl rfl rfl rfl rfl rfl) rfl fun y59 hy60 => ?_
     obtain ⟨a161, c162, a263, c264, a365, c366⟩ := y59
     try dsimp only
     refine RD hT58 11 rfl <| N1 7 <| NO rfl rfl [9,10,11] fun T67 hT67 => AL rfl tz32 fun b68 => RD hT67 12 rfl <| N1 9 <| NO rfl rfl [10,11] fun T69 hT69 => SW10 rfl ts32 rfl <| RD hT69 12 rfl <| N1 10 ?_
     refine NO rfl rfl [11] fun T70 hT70 => SW0 rfl ts32 rfl <| RD hT70 12 rfl <| N1 11 <| NO rfl rfl [] fun T71 hT71 => SW11 rfl ts32 rfl <| RD hT71 12 rfl ?_
     refine n_fin (k_then (k_sub (sub_all rfl) (fun w hs => St.sel [7, 8, 9, 10, 4, 5, 6, 0, 1, 2, 3, 11, 12, 13, 14, 15, 16, 17, 18, 19] rfl rfl hs) (hK35 ⟨(b39, a143, c144, a245, c246, a347, c348, b68, a152, c153, a254, c255, a356, c357, b37, a161, c162, a263, c264, a365, c366), trivial⟩)))
   · refine NO rfl rfl [1,3,5,6,9,10,11] fun T38 hT38 => ?_
     refine AL rfl tz32 fun b39 => RD hT38 2 rfl ?_
     refine n_step [1, 6] (by kernel_rfl) (n_cons ?_ <| n_cons ?_ <| n_nil)
     rotate_left 1
     · refine NO rfl rfl [1,3,5,9,10,11] fun T40 hT40 => ?_
       refine AL rfl tz32 fun b41 => RD hT40 3 rfl <| N1 1 <| NO rfl rfl [3,5,9,10,11] fun T42 hT42 => cX (ptwin_c d kA kC pA pC nA nC (by exact hin)) (ha3 8 9 10 rfl rfl rfl rfl rfl rfl) rfl fun y43 hy44 => ?_
       obtain ⟨a145, c146, a247, c248, a349, c350⟩ := y43
       try dsimp only
       refine RD hT42 6 rfl <| N1 3 <| NO rfl rfl [5,9,10,11] fun T51 hT51 => cX (ptwin_c d kA kC pA pC nA nC (by exact hin)) (ha3 11 12 13 rfl rfl rfl rfl rfl rfl) rfl fun y52 hy53 => ?_
       obtain ⟨a154, c155, a256, c257, a358, c359⟩ := y52
       try dsimp only
       refine RD hT51 9 rfl <| N1 5 <| NO rfl rfl [9,10,11] fun T60 hT60 => cX (ptwin_c d kA kC pA pC nA nC (by exact hin)) (ha3 14 15 16 rfl rfl rfl rfl rfl rfl) rfl fun y61 hy62 => ?_
       obtain ⟨a163, c164, a265, c266, a367, c368⟩ := y61
       try dsimp only
       refine RD hT60 12 rfl <| N1 9 <| NO rfl rfl [10,11] fun T69 hT69 => SW9 rfl ts32 rfl <| RD hT69 12 rfl <| N1 10 <| NO rfl rfl [11] fun T70 hT70 => SW10 rfl ts32 rfl <| RD hT70 12 rfl <| N1 11 ?_
       refine NO rfl rfl [] fun T71 hT71 => SW11 rfl ts32 rfl <| RD hT71 12 rfl ?_
       refine n_fin (k_then (k_sub (sub_all rfl) (fun w hs => St.sel [6, 7, 8, 9, 3, 4, 5, 10, 0, 1, 2, 11, 12, 13, 14, 15, 16, 17, 18, 19] rfl rfl hs) (hK35 ⟨(b41, a145, c146, a247, c248, a349, c350, b39, a154, c155, a256, c257, a358, c359, b37, a163, c164, a265, c266, a367, c368), trivial⟩)))
     refine NO rfl rfl [3,5,6,9,10,11] fun T40 hT40 => cX (ptwin_c d kA kC pA pC nA nC (by exact hin)) (ha3 7 8 9 rfl rfl rfl rfl rfl rfl) rfl fun y41 hy42 => ?_
     obtain ⟨a143, c144, a245, c246, a347, c348⟩ := y41
     try dsimp only
     refine RD hT40 5 rfl ?_
     refine n_step [3, 6] (by kernel_rfl) (n_cons ?_ <| n_cons ?_ <| n_nil)
     rotate_left 1
     · refine NO rfl rfl [3,5,9,10,11] fun T49 hT49 => ?_
       refine AL rfl tz32 fun b50 => RD hT49 6 rfl <| N1 3 <| NO rfl rfl [5,9,10,11] fun T51 hT51 => cX (ptwin_c d kA kC pA pC nA nC (by exact hin)) (ha3 11 12 13 rfl rfl rfl rfl rfl rfl) rfl fun y52 hy53 => ?_
       obtain ⟨a154, c155, a256, c257, a358, c359⟩ := y52
       try dsimp only
       refine RD hT51 9 rfl <| N1 5 <| NO rfl rfl [9,10,11] fun T60 hT60 => cX (ptwin_c d kA kC pA pC nA nC (by exact hin)) (ha3 14 15 16 rfl rfl rfl rfl rfl rfl) rfl fun y61 hy62 => ?_
       obtain ⟨a163, c164, a265, c266, a367, c368⟩ := y61
       try dsimp only
       refine RD hT60 12 rfl <| N1 9 <| NO rfl rfl [10,11] fun T69 hT69 => SW6 rfl ts32 rfl <| RD hT69 12 rfl <| N1 10 <| NO rfl rfl [11] fun T70 hT70 => SW10 rfl ts32 rfl <| RD hT70 12 rfl <| N1 11 ?_
       refine NO rfl rfl [] fun T71 hT71 => SW11 rfl ts32 rfl <| RD hT71 12 rfl ?_
       refine n_fin (k_then (k_sub (sub_all rfl) (fun w hs => St.sel [7, 8, 9, 6, 3, 4, 5, 10, 0, 1, 2, 11, 12, 13, 14, 15, 16, 17, 18, 19] rfl rfl hs) (hK35 ⟨(b50, a143, c144, a245, c246, a347, c348, b39, a154, c155, a256, c257, a358, c359, b37, a163, c164, a265, c266, a367, c368), trivial⟩)))
     refine NO rfl rfl [5,6,9,10,11] fun T49 hT49 => cX (ptwin_c d kA kC pA pC nA nC (by exact hin)) (ha3 10 11 12 rfl rfl rfl rfl rfl rfl) rfl fun y50 hy51 => ?_
     obtain ⟨a152, c153, a254, c255, a356, c357⟩ := y50
     try dsimp only
     refine RD hT49 8 rfl ?_
     refine n_step [5, 6] (by kernel_rfl) (n_cons ?_ <| n_cons ?_ <| n_nil)
     rotate_left 1
     · refine NO rfl rfl [5,9,10,11] fun T58 hT58 => ?_
       refine AL rfl tz32 fun b59 => RD hT58 9 rfl <| N1 5 <| NO rfl rfl [9,10,11] fun T60 hT60 => cX (ptwin_c d kA kC pA pC nA nC (by exact hin)) (ha3 14 15 16 rfl rfl rfl rfl rfl rfl) rfl fun y61 hy62 => ?_
       obtain ⟨a163, c164, a265, c266, a367, c368⟩ := y61
       try dsimp only
       refine RD hT60 12 rfl <| N1 9 <| NO rfl rfl [10,11] fun T69 hT69 => SW3 rfl ts32 rfl <| RD hT69 12 rfl <| N1 10 <| NO rfl rfl [11] fun T70 hT70 => SW10 rfl ts32 rfl <| RD hT70 12 rfl <| N1 11 ?_
       refine NO rfl rfl [] fun T71 hT71 => SW11 rfl ts32 rfl <| RD hT71 12 rfl ?_
       refine n_fin (k_then (k_sub (sub_all rfl) (fun w hs => St.sel [7, 8, 9, 3, 4, 5, 6, 10, 0, 1, 2, 11, 12, 13, 14, 15, 16, 17, 18, 19] rfl rfl hs) (hK35 ⟨(b59, a143, c144, a245, c246, a347, c348, b39, a152, c153, a254, c255, a356, c357, b37, a163, c164, a265, c266, a367, c368), trivial⟩)))
     refine NO rfl rfl [6,9,10,11] fun T58 hT58 => cX (ptwin_c d kA kC pA pC nA nC (by exact hin)) (ha3 13 14 15 rfl rfl rfl rfl rfl rfl) rfl fun y59 hy60 => ?_
     obtain ⟨a161, c162, a263, c264, a365, c366⟩ := y59
     try dsimp only
     refine RD hT58 11 rfl <| N1 6 <| NO rfl rfl [9,10,11] fun T67 hT67 => AL rfl tz32 fun b68 => RD hT67 12 rfl <| N1 9 <| NO rfl rfl [10,11] fun T69 hT69 => SW0 rfl ts32 rfl <| RD hT69 12 rfl <| N1 10 ?_
     refine NO rfl rfl [11] fun T70 hT70 => SW10 rfl ts32 rfl <| RD hT70 12 rfl <| N1 11 <| NO rfl rfl [] fun T71 hT71 => SW11 rfl ts32 rfl <| RD hT71 12 rfl ?_
     refine n_fin (k_then (k_sub (sub_all rfl) (fun w hs => St.sel [7, 8, 9, 0, 4, 5, 6, 10, 1, 2, 3, 11, 12, 13, 14, 15, 16, 17, 18, 19] rfl rfl hs) (hK35 ⟨(b68, a143, c144, a245, c246, a347, c348, b39, a152, c153, a254, c255, a356, c357, b37, a161, c162, a263, c264, a365, c366), trivial⟩)))
   refine NO rfl rfl [3,5,6,7,9,10,11] fun T38 hT38 => cX (ptwin_c d kA kC pA pC nA nC (by exact hin)) (ha3 6 7 8 rfl rfl rfl rfl rfl rfl) rfl fun y39 hy40 => ?_
   obtain ⟨a141, c142, a243, c244, a345, c346⟩ := y39
   try dsimp only
   refine RD hT38 4 rfl ?_
   refine n_step [3, 6, 7] (by kernel_rfl) (n_cons ?_ <| n_cons ?_ <| n_cons ?_ <| n_nil)
   rotate_left 1
   · refine NO rfl rfl [3,5,7,9,10,11] fun T47 hT47 => ?_
     refine AL rfl tz32 fun b48 => RD hT47 5 rfl ?_
     refine n_step [3, 7] (by kernel_rfl) (n_cons ?_ <| n_cons ?_ <| n_nil)
     rotate_left 1
     · refine NO rfl rfl [3,5,9,10,11] fun T49 hT49 => ?_
       refine AL rfl tz32 fun b50 => RD hT49 6 rfl <| N1 3 <| NO rfl rfl [5,9,10,11] fun T51 hT51 => cX (ptwin_c d kA kC pA pC nA nC (by exact hin)) (ha3 11 12 13 rfl rfl rfl rfl rfl rfl) rfl fun y52 hy53 => ?_
       obtain ⟨a154, c155, a256, c257, a358, c359⟩ := y52
       try dsimp only
       refine RD hT51 9 rfl <| N1 5 <| NO rfl rfl [9,10,11] fun T60 hT60 => cX (ptwin_c d kA kC pA pC nA nC (by exact hin)) (ha3 14 15 16 rfl rfl rfl rfl rfl rfl) rfl fun y61 hy62 => ?_
       obtain ⟨a163, c164, a265, c266, a367, c368⟩ := y61
       try dsimp only
       refine RD hT60 12 rfl <| N1 9 <| NO rfl rfl [10,11] fun T69 hT69 => SW7 rfl ts32 rfl <| RD hT69 12 rfl <| N1 10 <| NO rfl rfl [11] fun T70 hT70 => SW6 rfl ts32 rfl <| RD hT70 12 rfl <| N1 11 ?_
       refine NO rfl rfl [] fun T71 hT71 => SW11 rfl ts32 rfl <| RD hT71 12 rfl ?_
       refine n_fin (k_then (k_sub (sub_all rfl) (fun w hs => St.sel [8, 9, 10, 7, 3, 4, 5, 6, 0, 1, 2, 11, 12, 13, 14, 15, 16, 17, 18, 19] rfl rfl hs) (hK35 ⟨(b48, a141, c142, a243, c244, a345, c346, b50, a154, c155, a256, c257, a358, c359, b37, a163, c164, a265, c266, a367, c368), trivial⟩)))
     refine NO rfl rfl [5,7,9,10,11] fun T49 hT49 => cX (ptwin_c d kA kC pA pC nA nC (by exact hin)) (ha3 10 11 12 rfl rfl rfl rfl rfl rfl) rfl fun y50 hy51 => ?_
     obtain ⟨a152, c153, a254, c255, a356, c357⟩ := y50
     try dsimp only
     refine RD hT49 8 rfl ?_
     refine n_step [5, 7] (by kernel_rfl) (n_cons ?_ <| n_cons ?_ <| n_nil)
     rotate_left 1
     · refine NO rfl rfl [5,9,10,11] fun T58 hT58 => ?_
       refine AL rfl tz32 fun b59 => RD hT58 9 rfl <| N1 5 <| NO rfl rfl [9,10,11] fun T60 hT60 => cX (ptwin_c d kA kC pA pC nA nC (by exact hin)) (ha3 14 15 16 rfl rfl rfl rfl rfl rfl) rfl fun y61 hy62 => ?_
       obtain ⟨a163, c164, a265, c266, a367, c368⟩ := y61
       try dsimp only
       refine RD hT60 12 rfl <| N1 9 <| NO rfl rfl [10,11] fun T69 hT69 => SW7 rfl ts32 rfl <| RD hT69 12 rfl <| N1 10 <| NO rfl rfl [11] fun T70 hT70 => SW3 rfl ts32 rfl <| RD hT70 12 rfl <| N1 11 ?_
       refine NO rfl rfl [] fun T71 hT71 => SW11 rfl ts32 rfl <| RD hT71 12 rfl ?_
       refine n_fin (k_then (k_sub (sub_all rfl) (fun w hs => St.sel [8, 9, 10, 7, 4, 5, 6, 3, 0, 1, 2, 11, 12, 13, 14, 15, 16, 17, 18, 19] rfl rfl hs) (hK35 ⟨(b48, a141, c142, a243, c244, a345, c346, b59, a152, c153, a254, c255, a356, c357, b37, a163, c164, a265, c266, a367, c368), trivial⟩)))
     refine NO rfl rfl [7,9,10,11] fun T58 hT58 => cX (ptwin_c d kA kC pA pC nA nC (by exact hin)) (ha3 13 14 15 rfl rfl rfl rfl rfl rfl) rfl fun y59 hy60 => ?_
     obtain ⟨a161, c162, a263, c264, a365, c366⟩ := y59
     try dsimp only
     refine RD hT58 11 rfl <| N1 7 <| NO rfl rfl [9,10,11] fun T67 hT67 => AL rfl tz32 fun b68 => RD hT67 12 rfl <| N1 9 <| NO rfl rfl [10,11] fun T69 hT69 => SW7 rfl ts32 rfl <| RD hT69 12 rfl <| N1 10 ?_
     refine NO rfl rfl [11] fun T70 hT70 => SW0 rfl ts32 rfl <| RD hT70 12 rfl <| N1 11 <| NO rfl rfl [] fun T71 hT71 => SW11 rfl ts32 rfl <| RD hT71 12 rfl ?_
     refine n_fin (k_then (k_sub (sub_all rfl) (fun w hs => St.sel [8, 9, 10, 7, 4, 5, 6, 0, 1, 2, 3, 11, 12, 13, 14, 15, 16, 17, 18, 19] rfl rfl hs) (hK35 ⟨(b48, a141, c142, a243, c244, a345, c346, b68, a152, c153, a254, c255, a356, c357, b37, a161, c162, a263, c264, a365, c366), trivial⟩)))
   · refine NO rfl rfl [3,5,6,9,10,11] fun T47 hT47 => ?_
     refine AL rfl tz32 fun b48 => RD hT47 5 rfl ?_
     refine n_step [3, 6] (by kernel_rfl) (n_cons ?_ <| n_cons ?_ <| n_nil)
     rotate_left 1
     · refine NO rfl rfl [3,5,9,10,11] fun T49 hT49 => ?_
       refine AL rfl tz32 fun b50 => RD hT49 6 rfl <| N1 3 <| NO rfl rfl [5,9,10,11] fun T51 hT51 => cX (ptwin_c d kA kC pA pC nA nC (by exact hin)) (ha3 11 12 13 rfl rfl rfl rfl rfl rfl) rfl fun y52 hy53 => ?_
       obtain ⟨a154, c155, a256, c257, a358, c359⟩ := y52
       try dsimp only
       refine RD hT51 9 rfl <| N1 5 <| NO rfl rfl [9,10,11] fun T60 hT60 => cX (ptwin_c d kA kC pA pC nA nC (by exact hin)) (ha3 14 15 16 rfl rfl rfl rfl rfl rfl) rfl fun y61 hy62 => ?_
       obtain ⟨a163, c164, a265, c266, a367, c368⟩ := y61
       try dsimp only
       refine RD hT60 12 rfl <| N1 9 <| NO rfl rfl [10,11] fun T69 hT69 => SW6 rfl ts32 rfl <| RD hT69 12 rfl <| N1 10 <| NO rfl rfl [11] fun T70 hT70 => SW7 rfl ts32 rfl <| RD hT70 12 rfl <| N1 11 ?_
       refine NO rfl rfl [] fun T71 hT71 => SW11 rfl ts32 rfl <| RD hT71 12 rfl ?_
       refine n_fin (k_then (k_sub (sub_all rfl) (fun w hs => St.sel [8, 9, 10, 6, 3, 4, 5, 7, 0, 1, 2, 11, 12, 13, 14, 15, 16, 17, 18, 19] rfl rfl hs) (hK35 ⟨(b50, a141, c142, a243, c244, a345, c346, b48, a154, c155, a256, c257, a358, c359, b37, a163, c164, a265, c266, a367, c368), trivial⟩)))
     refine NO rfl rfl [5,6,9,10,11] fun T49 hT49 => cX (ptwin_c d kA kC pA pC nA nC (by exact hin)) (ha3 10 11 12 rfl rfl rfl rfl rfl rfl) rfl fun y50 hy51 => ?_
     obtain ⟨a152, c153, a254, c255, a356, c357⟩ := y50
     try dsimp only
     refine RD hT49 8 rfl ?_
     refine n_step [5, 6] (by kernel_rfl) (n_cons ?_ <| n_cons ?_ <| n_nil)
     rotate_left 1
     · refine NO rfl rfl [5,9,10,11] fun T58 hT58 => ?_
       refine AL rfl tz32 fun b59 => RD hT58 9 rfl <| N1 5 <| NO rfl rfl [9,10,11] fun T60 hT60 => cX (ptwin_c d kA kC pA pC nA nC (by exact hin)) (ha3 14 15 16 rfl rfl rfl rfl rfl rfl) rfl fun y61 hy62 => ?_
       obtain ⟨a163, c164, a265, c266, a367, c368⟩ := y61
       try dsimp only
       refine RD hT60 12 rfl <| N1 9 <| NO rfl rfl [10,11] fun T69 hT69 => SW3 rfl ts32 rfl <| RD hT69 12 rfl <| N1 10 <| NO rfl rfl [11] fun T70 hT70 => SW7 rfl ts32 rfl <| RD hT70 12 rfl <| N1 11 ?_
       refine NO rfl rfl [] fun T71 hT71 => SW11 rfl ts32 rfl <| RD hT71 12 rfl ?_
       refine n_fin (k_then (k_sub (sub_all rfl) (fun w hs => St.sel [8, 9, 10, 3, 4, 5, 6, 7, 0, 1, 2, 11, 12, 13, 14, 15, 16, 17, 18, 19] rfl rfl hs) (hK35 ⟨(b59, a141, c142, a243, c244, a345, c346, b48, a152, c153, a254, c255, a356, c357, b37, a163, c164, a265, c266, a367, c368), trivial⟩)))
     refine NO rfl rfl [6,9,10,11] fun T58 hT58 => cX (ptwin_c d kA kC pA pC nA nC (by exact hin)) (ha3 13 14 15 rfl rfl rfl rfl rfl rfl) rfl fun y59 hy60 => ?_
     obtain ⟨a161, c162, a263, c264, a365, c366⟩ := y59
     try dsimp only
     refine RD hT58 11 rfl <| N1 6 <| NO rfl rfl [9,10,11] fun T67 hT67 => AL rfl tz32 fun b68 => RD hT67 12 rfl <| N1 9 <| NO rfl rfl [10,11] fun T69 hT69 => SW0 rfl ts32 rfl <| RD hT69 12 rfl <| N1 10 ?_
     refine NO rfl rfl [11] fun T70 hT70 => SW7 rfl ts32 rfl <| RD hT70 12 rfl <| N1 11 <| NO rfl rfl [] fun T71 hT71 => SW11 rfl ts32 rfl <| RD hT71 12 rfl ?_
     refine n_fin (k_then (k_sub (sub_all rfl) (fun w hs => St.sel [8, 9, 10, 0, 4, 5, 6, 7, 1, 2, 3, 11, 12, 13, 14, 15, 16, 17, 18, 19] rfl rfl hs) (hK35 ⟨(b68, a141, c142, a243, c244, a345, c346, b48, a152, c153, a254, c255, a356, c357, b37, a161, c162, a263, c264, a365, c366), trivial⟩)))
   refine NO rfl rfl [5,6,7,9,10,11] fun T47 hT47 => cX (ptwin_c d kA kC pA pC nA nC (by exact hin)) (ha3 9 10 11 rfl rfl rfl rfl rfl rfl) rfl fun y48 hy49 => ?_
   obtain ⟨a150, c151, a252, c253, a354, c355⟩ := y48
   try dsimp only
   refine RD hT47 7 rfl ?_
   refine n_step [5, 6, 7] (by kernel_rfl) (n_cons ?_ <| n_cons ?_ <| n_cons ?_ <| n_nil)
   rotate_left 2
   · refine NO rfl rfl [5,6,9,10,11] fun T56 hT56 => ?_
     refine AL rfl tz32 fun b57 => RD hT56 8 rfl ?_
     refine n_step [5, 6] (by kernel_rfl) (n_cons ?_ <| n_cons ?_ <| n_nil)
     rotate_left 1
     · refine NO rfl rfl [5,9,10,11] fun T58 hT58 => ?_
       refine AL rfl tz32 fun b59 => RD hT58 9 rfl <| N1 5 <| NO rfl rfl [9,10,11] fun T60 hT60 => cX (ptwin_c d kA kC pA pC nA nC (by exact hin)) (ha3 14 15 16 rfl rfl rfl rfl rfl rfl) rfl fun y61 hy62 => ?_
       obtain ⟨a163, c164, a265, c266, a367, c368⟩ := y61
       try dsimp only
       refine RD hT60 12 rfl <| N1 9 <| NO rfl rfl [10,11] fun T69 hT69 => SW3 rfl ts32 rfl <| RD hT69 12 rfl <| N1 10 <| NO rfl rfl [11] fun T70 hT70 => SW4 rfl ts32 rfl <| RD hT70 12 rfl <| N1 11 ?_
       refine NO rfl rfl [] fun T71 hT71 => SW11 rfl ts32 rfl <| RD hT71 12 rfl ?_
       refine n_fin (k_then (k_sub (sub_all rfl) (fun w hs => St.sel [8, 9, 10, 3, 5, 6, 7, 4, 0, 1, 2, 11, 12, 13, 14, 15, 16, 17, 18, 19] rfl rfl hs) (hK35 ⟨(b59, a141, c142, a243, c244, a345, c346, b57, a150, c151, a252, c253, a354, c355, b37, a163, c164, a265, c266, a367, c368), trivial⟩)))
     refine NO rfl rfl [6,9,10,11] fun T58 hT58 => cX (ptwin_c d kA kC pA pC nA nC (by exact hin)) (ha3 13 14 15 rfl rfl rfl rfl rfl rfl) rfl fun y59 hy60 => ?_
     obtain ⟨a161, c162, a263, c264, a365, c366⟩ := y59
     try dsimp only
     refine RD hT58 11 rfl <| N1 6 <| NO rfl rfl [9,10,11] fun T67 hT67 => AL rfl tz32 fun b68 => RD hT67 12 rfl <| N1 9 <| NO rfl rfl [10,11] fun T69 hT69 => SW0 rfl ts32 rfl <| RD hT69 12 rfl <| N1 10 ?_
     refine NO rfl rfl [11] fun T70 hT70 => SW4 rfl ts32 rfl <| RD hT70 12 rfl <| N1 11 <| NO rfl rfl [] fun T71 hT71 => SW11 rfl ts32 rfl <| RD hT71 12 rfl ?_
     refine n_fin (k_then (k_sub (sub_all rfl) (fun w hs => St.sel [8, 9, 10, 0, 5, 6, 7, 4, 1, 2, 3, 11, 12, 13, 14, 15, 16, 17, 18, 19] rfl rfl hs) (hK35 ⟨(b68, a141, c142, a243, c244, a345, c346, b57, a150, c151, a252, c253, a354, c355, b37, a161, c162, a263, c264, a365, c366), trivial⟩)))
   · refine NO rfl rfl [6,7,9,10,11] fun T56 hT56 => ?_
     refine cX (ptwin_c d kA kC pA pC nA nC (by exact hin)) (ha3 12 13 14 rfl rfl rfl rfl rfl rfl) rfl fun y57 hy58 => ?_
     obtain ⟨a159, c160, a261, c262, a363, c364⟩ := y57
     try dsimp only
     refine RD hT56 10 rfl ?_
     refine n_step [6, 7] (by kernel_rfl) (n_cons ?_ <| n_cons ?_ <| n_nil)
     rotate_left 1
     · refine NO rfl rfl [6,9,10,11] fun T65 hT65 => ?_
       refine AL rfl tz32 fun b66 => RD hT65 11 rfl <| N1 6 <| NO rfl rfl [9,10,11] fun T67 hT67 => AL rfl tz32 fun b68 => RD hT67 12 rfl <| N1 9 <| NO rfl rfl [10,11] fun T69 hT69 => SW0 rfl ts32 rfl <| RD hT69 12 rfl ?_
       refine N1 10 <| NO rfl rfl [11] fun T70 hT70 => SW1 rfl ts32 rfl <| RD hT70 12 rfl <| N1 11 <| NO rfl rfl [] fun T71 hT71 => SW11 rfl ts32 rfl <| RD hT71 12 rfl ?_
       refine n_fin (k_then (k_sub (sub_all rfl) (fun w hs => St.sel [8, 9, 10, 0, 5, 6, 7, 1, 2, 3, 4, 11, 12, 13, 14, 15, 16, 17, 18, 19] rfl rfl hs) (hK35 ⟨(b68, a141, c142, a243, c244, a345, c346, b66, a150, c151, a252, c253, a354, c355, b37, a159, c160, a261, c262, a363, c364), trivial⟩)))
     refine NO rfl rfl [7,9,10,11] fun T65 hT65 => AL rfl tz32 fun b66 => RD hT65 11 rfl <| N1 7 <| NO rfl rfl [9,10,11] fun T67 hT67 => AL rfl tz32 fun b68 => RD hT67 12 rfl <| N1 9 <| NO rfl rfl [10,11] fun T69 hT69 => SW1 rfl ts32 rfl ?_
     refine RD hT69 12 rfl <| N1 10 <| NO rfl rfl [11] fun T70 hT70 => SW0 rfl ts32 rfl <| RD hT70 12 rfl <| N1 11 <| NO rfl rfl [] fun T71 hT71 => SW11 rfl ts32 rfl <| RD hT71 12 rfl ?_
     refine n_fin (k_then (k_sub (sub_all rfl) (fun w hs => St.sel [8, 9, 10, 1, 5, 6, 7, 0, 2, 3, 4, 11, 12, 13, 14, 15, 16, 17, 18, 19] rfl rfl hs) (hK35 ⟨(b66, a141, c142, a243, c244, a345, c346, b68, a150, c151, a252, c253, a354, c355, b37, a159, c160, a261, c262, a363, c364), trivial⟩)))
   refine NO rfl rfl [5,7,9,10,11] fun T56 hT56 => AL rfl tz32 fun b57 => RD hT56 8 rfl ?_
   refine n_step [5, 7] (by kernel_rfl) (n_cons ?_ <| n_cons ?_ <| n_nil)
   rotate_left 1
   · refine NO rfl rfl [5,9,10,11] fun T58 hT58 => ?_
     refine AL rfl tz32 fun b59 => RD hT58 9 rfl <| N1 5 <| NO rfl rfl [9,10,11] fun T60 hT60 => cX (ptwin_c d kA kC pA pC nA nC (by exact hin)) (ha3 14 15 16 rfl rfl rfl rfl rfl rfl) rfl fun y61 hy62 => ?_
     obtain ⟨a163, c164, a265, c266, a367, c368⟩ := y61
     try dsimp only
     refine RD hT60 12 rfl <| N1 9 <| NO rfl rfl [10,11] fun T69 hT69 => SW4 rfl ts32 rfl <| RD hT69 12 rfl <| N1 10 <| NO rfl rfl [11] fun T70 hT70 => SW3 rfl ts32 rfl <| RD hT70 12 rfl <| N1 11 ?_
     refine NO rfl rfl [] fun T71 hT71 => SW11 rfl ts32 rfl <| RD hT71 12 rfl ?_
     refine n_fin (k_then (k_sub (sub_all rfl) (fun w hs => St.sel [8, 9, 10, 4, 5, 6, 7, 3, 0, 1, 2, 11, 12, 13, 14, 15, 16, 17, 18, 19] rfl rfl hs) (hK35 ⟨(b57, a141, c142, a243, c244, a345, c346, b59, a150, c151, a252, c253, a354, c355, b37, a163, c164, a265, c266, a367, c368), trivial⟩)))
   refine NO rfl rfl [7,9,10,11] fun T58 hT58 => cX (ptwin_c d kA kC pA pC nA nC (by exact hin)) (ha3 13 14 15 rfl rfl rfl rfl rfl rfl) rfl fun y59 hy60 => ?_
   obtain ⟨a161, c162, a263, c264, a365, c366⟩ := y59
   try dsimp only
   refine RD hT58 11 rfl <| N1 7 <| NO rfl rfl [9,10,11] fun T67 hT67 => AL rfl tz32 fun b68 => RD hT67 12 rfl <| N1 9 <| NO rfl rfl [10,11] fun T69 hT69 => SW4 rfl ts32 rfl <| RD hT69 12 rfl <| N1 10 ?_
   refine NO rfl rfl [11] fun T70 hT70 => SW0 rfl ts32 rfl <| RD hT70 12 rfl <| N1 11 <| NO rfl rfl [] fun T71 hT71 => SW11 rfl ts32 rfl <| RD hT71 12 rfl ?_
   refine n_fin (k_then (k_sub (sub_all rfl) (fun w hs => St.sel [8, 9, 10, 4, 5, 6, 7, 0, 1, 2, 3, 11, 12, 13, 14, 15, 16, 17, 18, 19] rfl rfl hs) (hK35 ⟨(b57, a141, c142, a243, c244, a345, c346, b68, a150, c151, a252, c253, a354, c355, b37, a161, c162, a263, c264, a365, c366), trivial⟩)))
 refine NO rfl rfl [3,5,6,7,8,9,10,11] fun T36 hT36 => cX (ptwin_c d kA kC pA pC nA nC (by exact hin)) (ha3 5 6 7 rfl rfl rfl rfl rfl rfl) rfl fun y37 hy38 => ?_
 obtain ⟨a139, c140, a241, c242, a343, c344⟩ := y37
 try dsimp only
 refine RD hT36 3 rfl ?_
 refine n_step [3, 6, 7, 8] (by kernel_rfl) (n_cons ?_ <| n_cons ?_ <| n_cons ?_ <| n_cons ?_ <| n_nil)
 rotate_left 1
 · refine NO rfl rfl [3,5,7,8,9,10,11] fun T45 hT45 => ?_
   refine AL rfl tz32 fun b46 => RD hT45 4 rfl ?_
   refine n_step [3, 7, 8] (by kernel_rfl) (n_cons ?_ <| n_cons ?_ <| n_cons ?_ <| n_nil)
   rotate_left 1
   · refine NO rfl rfl [3,5,8,9,10,11] fun T47 hT47 => ?_
     refine AL rfl tz32 fun b48 => RD hT47 5 rfl ?_
     refine n_step [3, 8] (by kernel_rfl) (n_cons ?_ <| n_cons ?_ <| n_nil)
     rotate_left 1
     · refine NO rfl rfl [3,5,9,10,11] fun T49 hT49 => ?_
       refine AL rfl tz32 fun b50 => RD hT49 6 rfl <| N1 3 <| NO rfl rfl [5,9,10,11] fun T51 hT51 => cX (ptwin_c d kA kC pA pC nA nC (by exact hin)) (ha3 11 12 13 rfl rfl rfl rfl rfl rfl) rfl fun y52 hy53 => ?_
       obtain ⟨a154, c155, a256, c257, a358, c359⟩ := y52
       try dsimp only
       refine RD hT51 9 rfl <| N1 5 <| NO rfl rfl [9,10,11] fun T60 hT60 => cX (ptwin_c d kA kC pA pC nA nC (by exact hin)) (ha3 14 15 16 rfl rfl rfl rfl rfl rfl) rfl fun y61 hy62 => ?_
       obtain ⟨a163, c164, a265, c266, a367, c368⟩ := y61
       try dsimp only
       refine RD hT60 12 rfl <| N1 9 <| NO rfl rfl [10,11] fun T69 hT69 => SW8 rfl ts32 rfl <| RD hT69 12 rfl <| N1 10 <| NO rfl rfl [11] fun T70 hT70 => SW7 rfl ts32 rfl <| RD hT70 12 rfl <| N1 11 ?_
       refine NO rfl rfl [] fun T71 hT71 => SW6 rfl ts32 rfl <| RD hT71 12 rfl ?_
       refine n_fin (k_then (k_sub (sub_all rfl) (fun w hs => St.sel [9, 10, 11, 8, 3, 4, 5, 7, 0, 1, 2, 6, 12, 13, 14, 15, 16, 17, 18, 19] rfl rfl hs) (hK35 ⟨(b46, a139, c140, a241, c242, a343, c344, b48, a154, c155, a256, c257, a358, c359, b50, a163, c164, a265, c266, a367, c368), trivial⟩)))
     refine NO rfl rfl [5,8,9,10,11] fun T49 hT49 => cX (ptwin_c d kA kC pA pC nA nC (by exact hin)) (ha3 10 11 12 rfl rfl rfl rfl rfl rfl) rfl fun y50 hy51 => ?_
     obtain ⟨a152, c153, a254, c255, a356, c357⟩ := y50
     try dsimp only
     refine RD hT49 8 rfl ?_
     refine n_step [5, 8] (by kernel_rfl) (n_cons ?_ <| n_cons ?_ <| n_nil)
     rotate_left 1
     · refine NO rfl rfl [5,9,10,11] fun T58 hT58 => ?_
       refine AL rfl tz32 fun b59 => RD hT58 9 rfl <| N1 5 <| NO rfl rfl [9,10,11] fun T60 hT60 => cX (ptwin_c d kA kC pA pC nA nC (by exact hin)) (ha3 14 15 16 rfl rfl rfl rfl rfl rfl) rfl fun y61 hy62 => ?_
       obtain ⟨a163, c164, a265, c266, a367, c368⟩ := y61
       try dsimp only
       refine RD hT60 12 rfl <| N1 9 <| NO rfl rfl [10,11] fun T69 hT69 => SW8 rfl ts32 rfl <| RD hT69 12 rfl <| N1 10 <| NO rfl rfl [11] fun T70 hT70 => SW7 rfl ts32 rfl <| RD hT70 12 rfl <| N1 11 ?_
       refine NO rfl rfl [] fun T71 hT71 => SW3 rfl ts32 rfl <| RD hT71 12 rfl ?_
       refine n_fin (k_then (k_sub (sub_all rfl) (fun w hs => St.sel [9, 10, 11, 8, 4, 5, 6, 7, 0, 1, 2, 3, 12, 13, 14, 15, 16, 17, 18, 19] rfl rfl hs) (hK35 ⟨(b46, a139, c140, a241, c242, a343, c344, b48, a152, c153, a254, c255, a356, c357, b59, a163, c164, a265, c266, a367, c368), trivial⟩)))
     refine NO rfl rfl [8,9,10,11] fun T58 hT58 => cX (ptwin_c d kA kC pA pC nA nC (by exact hin)) (ha3 13 14 15 rfl rfl rfl rfl rfl rfl) rfl fun y59 hy60 => ?_
     obtain ⟨a161, c162, a263, c264, a365, c366⟩ := y59
     try dsimp only
     refine RD hT58 11 rfl <| N1 8 <| NO rfl rfl [9,10,11] fun T67 hT67 => AL rfl tz32 fun b68 => RD hT67 12 rfl <| N1 9 <| NO rfl rfl [10,11] fun T69 hT69 => SW8 rfl ts32 rfl <| RD hT69 12 rfl <| N1 10 ?_
     refine NO rfl rfl [11] fun T70 hT70 => SW7 rfl ts32 rfl <| RD hT70 12 rfl <| N1 11 <| NO rfl rfl [] fun T71 hT71 => SW0 rfl ts32 rfl <| RD hT71 12 rfl ?_
     refine n_fin (k_then (k_sub (sub_all rfl) (fun w hs => St.sel [9, 10, 11, 8, 4, 5, 6, 7, 1, 2, 3, 0, 12, 13, 14, 15, 16, 17, 18, 19] rfl rfl hs) (hK35 ⟨(b46, a139, c140, a241, c242, a343, c344, b48, a152, c153, a254, c255, a356, c357, b68, a161, c162, a263, c264, a365, c366), trivial⟩)))
   · refine NO rfl rfl [3,5,7,9,10,11] fun T47 hT47 => ?_
     refine AL rfl tz32 fun b48 => RD hT47 5 rfl ?_
     refine n_step [3, 7] (by kernel_rfl) (n_cons ?_ <| n_cons ?_ <| n_nil)
     rotate_left 1
     · refine NO rfl rfl [3,5,9,10,11] fun T49 hT49 => ?_
       refine AL rfl tz32 fun b50 => RD hT49 6 rfl <| N1 3 <| NO rfl rfl [5,9,10,11] fun T51 hT51 => cX (ptwin_c d kA kC pA pC nA nC (by exact hin)) (ha3 11 12 13 rfl rfl rfl rfl rfl rfl) rfl fun y52 hy53 => ?_
       obtain ⟨a154, c155, a256, c257, a358, c359⟩ := y52
       try dsimp only
       refine RD hT51 9 rfl <| N1 5 <| NO rfl rfl [9,10,11] fun T60 hT60 => cX (ptwin_c d kA kC pA pC nA nC (by exact hin)) (ha3 14 15 16 rfl rfl rfl rfl rfl rfl) rfl fun y61 hy62 => ?_
       obtain ⟨a163, c164, a265, c266, a367, c368⟩ := y61
       try dsimp only
       refine RD hT60 12 rfl <| N1 9 <| NO rfl rfl [10,11] fun T69 hT69 => SW8 rfl ts32 rfl <| RD hT69 12 rfl <| N1 10 <| NO rfl rfl [11] fun T70 hT70 => SW6 rfl ts32 rfl <| RD hT70 12 rfl <| N1 11 ?_
       refine NO rfl rfl [] fun T71 hT71 => SW7 rfl ts32 rfl <| RD hT71 12 rfl ?_
       refine n_fin (k_then (k_sub (sub_all rfl) (fun w hs => St.sel [9, 10, 11, 8, 3, 4, 5, 6, 0, 1, 2, 7, 12, 13, 14, 15, 16, 17, 18, 19] rfl rfl hs) (hK35 ⟨(b46, a139, c140, a241, c242, a343, c344, b50, a154, c155, a256, c257, a358, c359, b48, a163, c164, a265, c266, a367, c368), trivial⟩)))
     refine NO rfl rfl [5,7,9,10,11] fun T49 hT49 => cX (ptwin_c d kA kC pA pC nA nC (by exact hin)) (ha3 10 11 12 rfl rfl rfl rfl rfl rfl) rfl fun y50 hy51 => ?_
     obtain ⟨a152, c153, a254, c255, a356, c357⟩ := y50
     try dsimp only
     refine RD hT49 8 rfl ?_
     refine n_step [5, 7] (by kernel_rfl) (n_cons ?_ <| n_cons ?_ <| n_nil)
     rotate_left 1
     · refine NO rfl rfl [5,9,10,11] fun T58 hT58 => ?_
       refine AL rfl tz32 fun b59 => RD hT58 9 rfl <| N1 5 <| NO rfl rfl [9,10,11] fun T60 hT60 => cX (ptwin_c d kA kC pA pC nA nC (by exact hin)) (ha3 14 15 16 rfl rfl rfl rfl rfl rfl) rfl fun y61 hy62 => ?_
       obtain ⟨a163, c164, a265, c266, a367, c368⟩ := y61
       try dsimp only
       refine RD hT60 12 rfl <| N1 9 <| NO rfl rfl [10,11] fun T69 hT69 => SW8 rfl ts32 rfl <| RD hT69 12 rfl <| N1 10 <| NO rfl rfl [11] fun T70 hT70 => SW3 rfl ts32 rfl <| RD hT70 12 rfl <| N1 11 ?_
       refine NO rfl rfl [] fun T71 hT71 => SW7 rfl ts32 rfl <| RD hT71 12 rfl ?_
       refine n_fin (k_then (k_sub (sub_all rfl) (fun w hs => St.sel [9, 10, 11, 8, 4, 5, 6, 3, 0, 1, 2, 7, 12, 13, 14, 15, 16, 17, 18, 19] rfl rfl hs) (hK35 ⟨(b46, a139, c140, a241, c242, a343, c344, b59, a152, c153, a254, c255, a356, c357, b48, a163, c164, a265, c266, a367, c368), trivial⟩)))
     refine NO rfl rfl [7,9,10,11] fun T58 hT58 => cX (ptwin_c d kA kC pA pC nA nC (by exact hin)) (ha3 13 14 15 rfl rfl rfl rfl rfl rfl) rfl fun y59 hy60 => ?_
     obtain ⟨a161, c162, a263, c264, a365, c366⟩ := y59
     try dsimp only
     refine RD hT58 11 rfl <| N1 7 <| NO rfl rfl [9,10,11] fun T67 hT67 => AL rfl tz32 fun b68 => RD hT67 12 rfl <| N1 9 <| NO rfl rfl [10,11] fun T69 hT69 => SW8 rfl ts32 rfl <| RD hT69 12 rfl <| N1 10 ?_
     refine NO rfl rfl [11] fun T70 hT70 => SW0 rfl ts32 rfl <| RD hT70 12 rfl <| N1 11 <| NO rfl rfl [] fun T71 hT71 => SW7 rfl ts32 rfl <| RD hT71 12 rfl ?_
     refine n_fin (k_then (k_sub (sub_all rfl) (fun w hs => St.sel [9, 10, 11, 8, 4, 5, 6, 0, 1, 2, 3, 7, 12, 13, 14, 15, 16, 17, 18, 19] rfl rfl hs) (hK35 ⟨(b46, a139, c140, a241, c242, a343, c344, b68, a152, c153, a254, c255, a356, c357, b48, a161, c162, a263, c264, a365, c366), trivial⟩)))
   refine NO rfl rfl [5,7,8,9,10,11] fun T47 hT47 => cX (ptwin_c d kA kC pA pC nA nC (by exact hin)) (ha3 9 10 11 rfl rfl rfl rfl rfl rfl) rfl fun y48 hy49 => ?_
   obtain ⟨a150, c151, a252, c253, a354, c355⟩ := y48
   try dsimp only
   refine RD hT47 7 rfl ?_
   refine n_step [5, 7, 8] (by kernel_rfl) (n_cons ?_ <| n_cons ?_ <| n_cons ?_ <| n_nil)
   rotate_left 2
   · refine NO rfl rfl [5,7,9,10,11] fun T56 hT56 => ?_
     refine AL rfl tz32 fun b57 => RD hT56 8 rfl ?_
     refine n_step [5, 7] (by kernel_rfl) (n_cons ?_ <| n_cons ?_ <| n_nil)
     rotate_left 1
     · refine NO rfl rfl [5,9,10,11] fun T58 hT58 => ?_
       refine AL rfl tz32 fun b59 => RD hT58 9 rfl <| N1 5 <| NO rfl rfl [9,10,11] fun T60 hT60 => cX (ptwin_c d kA kC pA pC nA nC (by exact hin)) (ha3 14 15 16 rfl rfl rfl rfl rfl rfl) rfl fun y61 hy62 => ?_
       obtain ⟨a163, c164, a265, c266, a367, c368⟩ := y61
       try dsimp only
       refine RD hT60 12 rfl <| N1 9 <| NO rfl rfl [10,11] fun T69 hT69 => SW8 rfl ts32 rfl <| RD hT69 12 rfl <| N1 10 <| NO rfl rfl [11] fun T70 hT70 => SW3 rfl ts32 rfl <| RD hT70 12 rfl <| N1 11 ?_
       refine NO rfl rfl [] fun T71 hT71 => SW4 rfl ts32 rfl <| RD hT71 12 rfl ?_
       refine n_fin (k_then (k_sub (sub_all rfl) (fun w hs => St.sel [9, 10, 11, 8, 5, 6, 7, 3, 0, 1, 2, 4, 12, 13, 14, 15, 16, 17, 18, 19] rfl rfl hs) (hK35 ⟨(b46, a139, c140, a241, c242, a343, c344, b59, a150, c151, a252, c253, a354, c355, b57, a163, c164, a265, c266, a367, c368), trivial⟩)))
     refine NO rfl rfl [7,9,10,11] fun T58 hT58 => cX (ptwin_c d kA kC pA pC nA nC (by exact hin)) (ha3 13 14 15 rfl rfl rfl rfl rfl rfl) rfl fun y59 hy60 => ?_
     obtain ⟨a161, c162, a263, c264, a365, c366⟩ := y59
     try dsimp only
     refine RD hT58 11 rfl <| N1 7 <| NO rfl rfl [9,10,11] fun T67 hT67 => AL rfl tz32 fun b68 => RD hT67 12 rfl <| N1 9 <| NO rfl rfl [10,11] fun T69 hT69 => SW8 rfl ts32 rfl <| RD hT69 12 rfl <| N1 10 ?_
     refine NO rfl rfl [11] fun T70 hT70 => SW0 rfl ts32 rfl <| RD hT70 12 rfl <| N1 11 <| NO rfl rfl [] fun T71 hT71 => SW4 rfl ts32 rfl <| RD hT71 12 rfl ?_
     refine n_fin (k_then (k_sub (sub_all rfl) (fun w hs => St.sel [9, 10, 11, 8, 5, 6, 7, 0, 1, 2, 3, 4, 12, 13, 14, 15, 16, 17, 18, 19] rfl rfl hs) (hK35 ⟨(b46, a139, c140, a241, c242, a343, c344, b68, a150, c151, a252, c253, a354, c355, b57, a161, c162, a263, c264, a365, c366), trivial⟩)))
   · refine NO rfl rfl [7,8,9,10,11] fun T56 hT56 => ?_
     refine cX (ptwin_c d kA kC pA pC nA nC (by exact hin)) (ha3 12 13 14 rfl rfl rfl rfl rfl rfl) rfl fun y57 hy58 => ?_
     obtain ⟨a159, c160, a261, c262, a363, c364⟩ := y57
     try dsimp only
     refine RD hT56 10 rfl ?_
     refine n_step [7, 8] (by kernel_rfl) (n_cons ?_ <| n_cons ?_ <| n_nil)
     rotate_left 1
     · refine NO rfl rfl [7,9,10,11] fun T65 hT65 => ?_
       refine AL rfl tz32 fun b66 => RD hT65 11 rfl <| N1 7 <| NO rfl rfl [9,10,11] fun T67 hT67 => AL rfl tz32 fun b68 => RD hT67 12 rfl <| N1 9 <| NO rfl rfl [10,11] fun T69 hT69 => SW8 rfl ts32 rfl <| RD hT69 12 rfl ?_
       refine N1 10 <| NO rfl rfl [11] fun T70 hT70 => SW0 rfl ts32 rfl <| RD hT70 12 rfl <| N1 11 <| NO rfl rfl [] fun T71 hT71 => SW1 rfl ts32 rfl <| RD hT71 12 rfl ?_
       refine n_fin (k_then (k_sub (sub_all rfl) (fun w hs => St.sel [9, 10, 11, 8, 5, 6, 7, 0, 2, 3, 4, 1, 12, 13, 14, 15, 16, 17, 18, 19] rfl rfl hs) (hK35 ⟨(b46, a139, c140, a241, c242, a343, c344, b68, a150, c151, a252, c253, a354, c355, b66, a159, c160, a261, c262, a363, c364), trivial⟩)))
     refine NO rfl rfl [8,9,10,11] fun T65 hT65 => AL rfl tz32 fun b66 => RD hT65 11 rfl <| N1 8 <| NO rfl rfl [9,10,11] fun T67 hT67 => AL rfl tz32 fun b68 => RD hT67 12 rfl <| N1 9 <| NO rfl rfl [10,11] fun T69 hT69 => SW8 rfl ts32 rfl ?_
     refine RD hT69 12 rfl <| N1 10 <| NO rfl rfl [11] fun T70 hT70 => SW1 rfl ts32 rfl <| RD hT70 12 rfl <| N1 11 <| NO rfl rfl [] fun T71 hT71 => SW0 rfl ts32 rfl <| RD hT71 12 rfl ?_
     refine n_fin (k_then (k_sub (sub_all rfl) (fun w hs => St.sel [9, 10, 11, 8, 5, 6, 7, 1, 2, 3, 4, 0, 12, 13, 14, 15, 16, 17, 18, 19] rfl rfl hs) (hK35 ⟨(b46, a139, c140, a241, c242, a343, c344, b66, a150, c151, a252, c253, a354, c355, b68, a159, c160, a261, c262, a363, c364), trivial⟩)))
   refine NO rfl rfl [5,8,9,10,11] fun T56 hT56 => AL rfl tz32 fun b57 => RD hT56 8 rfl ?_
   refine n_step [5, 8] (by kernel_rfl) (n_cons ?_ <| n_cons ?_ <| n_nil)
   rotate_left 1
   · refine NO rfl rfl [5,9,10,11] fun T58 hT58 => ?_
     refine AL rfl tz32 fun b59 => RD hT58 9 rfl <| N1 5 <| NO rfl rfl [9,10,11] fun T60 hT60 => cX (ptwin_c d kA kC pA pC nA nC (by exact hin)) (ha3 14 15 16 rfl rfl rfl rfl rfl rfl) rfl fun y61 hy62 => ?_
     obtain ⟨a163, c164, a265, c266, a367, c368⟩ := y61
     try dsimp only
     refine RD hT60 12 rfl <| N1 9 <| NO rfl rfl [10,11] fun T69 hT69 => SW8 rfl ts32 rfl <| RD hT69 12 rfl <| N1 10 <| NO rfl rfl [11] fun T70 hT70 => SW4 rfl ts32 rfl <| RD hT70 12 rfl <| N1 11 ?_
     refine NO rfl rfl [] fun T71 hT71 => SW3 rfl ts32 rfl <| RD hT71 12 rfl ?_
     refine n_fin (k_then (k_sub (sub_all rfl) (fun w hs => St.sel [9, 10, 11, 8, 5, 6, 7, 4, 0, 1, 2, 3, 12, 13, 14, 15, 16, 17, 18, 19] rfl rfl hs) (hK35 ⟨(b46, a139, c140, a241, c242, a343, c344, b57, a150, c151, a252, c253, a354, c355, b59, a163, c164, a265, c266, a367, c368), trivial⟩)))
   refine NO rfl rfl [8,9,10,11] fun T58 hT58 => cX (ptwin_c d kA kC pA pC nA nC (by exact hin)) (ha3 13 14 15 rfl rfl rfl rfl rfl rfl) rfl fun y59 hy60 => ?_
   obtain ⟨a161, c162, a263, c264, a365, c366⟩ := y59
   try dsimp only
   refine RD hT58 11 rfl <| N1 8 <| NO rfl rfl [9,10,11] fun T67 hT67 => AL rfl tz32 fun b68 => RD hT67 12 rfl <| N1 9 <| NO rfl rfl [10,11] fun T69 hT69 => SW8 rfl ts32 rfl <| RD hT69 12 rfl <| N1 10 ?_
   refine NO rfl rfl [11] fun T70 hT70 => SW4 rfl ts32 rfl <| RD hT70 12 rfl <| N1 11 <| NO rfl rfl [] fun T71 hT71 => SW0 rfl ts32 rfl <| RD hT71 12 rfl ?_
   refine n_fin (k_then (k_sub (sub_all rfl) (fun w hs => St.sel [9, 10, 11, 8, 5, 6, 7, 4, 1, 2, 3, 0, 12, 13, 14, 15, 16, 17, 18, 19] rfl rfl hs) (hK35 ⟨(b46, a139, c140, a241, c242, a343, c344, b57, a150, c151, a252, c253, a354, c355, b68, a161, c162, a263, c264, a365, c366), trivial⟩)))
 · refine NO rfl rfl [3,5,6,8,9,10,11] fun T45 hT45 => ?_
   refine AL rfl tz32 fun b46 => RD hT45 4 rfl ?_
   refine n_step [3, 6, 8] (by kernel_rfl) (n_cons ?_ <| n_cons ?_ <| n_cons ?_ <| n_nil)
   rotate_left 1
   · refine NO rfl rfl [3,5,8,9,10,11] fun T47 hT47 => ?_
     refine AL rfl tz32 fun b48 => RD hT47 5 rfl ?_
     refine n_step [3, 8] (by kernel_rfl) (n_cons ?_ <| n_cons ?_ <| n_nil)
     rotate_left 1
     · refine NO rfl rfl [3,5,9,10,11] fun T49 hT49 => ?_
       refine AL rfl tz32 fun b50 => RD hT49 6 rfl <| N1 3 <| NO rfl rfl [5,9,10,11] fun T51 hT51 => cX (ptwin_c d kA kC pA pC nA nC (by exact hin)) (ha3 11 12 13 rfl rfl rfl rfl rfl rfl) rfl fun y52 hy53 => ?_
       obtain ⟨a154, c155, a256, c257, a358, c359⟩ := y52
       try dsimp only
       refine RD hT51 9 rfl <| N1 5 <| NO rfl rfl [9,10,11] fun T60 hT60 => cX (ptwin_c d kA kC pA pC nA nC (by exact hin)) (ha3 14 15 16 rfl rfl rfl rfl rfl rfl) rfl fun y61 hy62 => ?_
       obtain ⟨a163, c164, a265, c266, a367, c368⟩ := y61
       try dsimp only
       refine RD hT60 12 rfl <| N1 9 <| NO rfl rfl [10,11] fun T69 hT69 => SW7 rfl ts32 rfl <| RD hT69 12 rfl <| N1 10 <| NO rfl rfl [11] fun T70 hT70 => SW8 rfl ts32 rfl <| RD hT70 12 rfl <| N1 11 ?_
       refine NO rfl rfl [] fun T71 hT71 => SW6 rfl ts32 rfl <| RD hT71 12 rfl ?_
       refine n_fin (k_then (k_sub (sub_all rfl) (fun w hs => St.sel [9, 10, 11, 7, 3, 4, 5, 8, 0, 1, 2, 6, 12, 13, 14, 15, 16, 17, 18, 19] rfl rfl hs) (hK35 ⟨(b48, a139, c140, a241, c242, a343, c344, b46, a154, c155, a256, c257, a358, c359, b50, a163, c164, a265, c266, a367, c368), trivial⟩)))
     refine NO rfl rfl [5,8,9,10,11] fun T49 hT49 => cX (ptwin_c d kA kC pA pC nA nC (by exact hin)) (ha3 10 11 12 rfl rfl rfl rfl rfl rfl) rfl fun y50 hy51 => ?_
     obtain ⟨a152, c153, a254, c255, a356, c357⟩ := y50
     try dsimp only
     refine RD hT49 8 rfl ?_
     refine n_step [5, 8] (by kernel_rfl) (n_cons ?_ <| n_cons ?_ <| n_nil)
     rotate_left 1
     · refine NO rfl rfl [5,9,10,11] fun T58 hT58 => ?_
       refine AL rfl tz32 fun b59 => RD hT58 9 rfl <| N1 5 <| NO rfl rfl [9,10,11] fun T60 hT60 => cX (ptwin_c d kA kC pA pC nA nC (by exact hin)) (ha3 14 15 16 rfl rfl rfl rfl rfl rfl) rfl fun y61 hy62 => ?_
       obtain ⟨a163, c164, a265, c266, a367, c368⟩ := y61
       try dsimp only
       refine RD hT60 12 rfl <| N1 9 <| NO rfl rfl [10,11] fun T69 hT69 => SW7 rfl ts32 rfl <| RD hT69 12 rfl <| N1 10 <| NO rfl rfl [11] fun T70 hT70 => SW8 rfl ts32 rfl <| RD hT70 12 rfl <| N1 11 ?_
       refine NO rfl rfl [] fun T71 hT71 => SW3 rfl ts32 rfl <| RD hT71 12 rfl ?_
       refine n_fin (k_then (k_sub (sub_all rfl) (fun w hs => St.sel [9, 10, 11, 7, 4, 5, 6, 8, 0, 1, 2, 3, 12, 13, 14, 15, 16, 17, 18, 19] rfl rfl hs) (hK35 ⟨(b48, a139, c140, a241, c242, a343, c344, b46, a152, c153, a254, c255, a356, c357, b59, a163, c164, a265, c266, a367, c368), trivial⟩)))
     refine NO rfl rfl [8,9,10,11] fun T58 hT58 => cX (ptwin_c d kA kC pA pC nA nC (by exact hin)) (ha3 13 14 15 rfl rfl rfl rfl rfl rfl) rfl fun y59 hy60 => ?_
     obtain ⟨a161, c162, a263, c264, a365, c366⟩ := y59
     try dsimp only
     refine RD hT58 11 rfl <| N1 8 <| NO rfl rfl [9,10,11] fun T67 hT67 => AL rfl tz32 fun b68 => RD hT67 12 rfl <| N1 9 <| NO rfl rfl [10,11] fun T69 hT69 => SW7 rfl ts32 rfl <| RD hT69 12 rfl <| N1 10 ?_
     refine NO rfl rfl [11] fun T70 hT70 => SW8 rfl ts32 rfl <| RD hT70 12 rfl <| N1 11 <| NO rfl rfl [] fun T71 hT71 => SW0 rfl ts32 rfl <| RD hT71 12 rfl ?_
     refine n_fin (k_then (k_sub (sub_all rfl) (fun w hs => St.sel [9, 10, 11, 7, 4, 5, 6, 8, 1, 2, 3, 0, 12, 13, 14, 15, 16, 17, 18, 19] rfl rfl hs) (hK35 ⟨(b48, a139, c140, a241, c242, a343, c344, b46, a152, c153, a254, c255, a356, c357, b68, a161, c162, a263, c264, a365, c366), trivial⟩)))
   · refine NO rfl rfl [3,5,6,9,10,11] fun T47 hT47 => ?_
     refine AL rfl tz32 fun b48 => RD hT47 5 rfl ?_
     refine n_step [3, 6] (by kernel_rfl) (n_cons ?_ <| n_cons ?_ <| n_nil)
     rotate_left 1
     · refine NO rfl rfl [3,5,9,10,11] fun T49 hT49 => ?_
       refine AL rfl tz32 fun b50 => RD hT49 6 rfl <| N1 3 <| NO rfl rfl [5,9,10,11] fun T51 hT51 => cX (ptwin_c d kA kC pA pC nA nC (by exact hin)) (ha3 11 12 13 rfl rfl rfl rfl rfl rfl) rfl fun y52 hy53 => ?_
       obtain ⟨a154, c155, a256, c257, a358, c359⟩ := y52
       try dsimp only
       refine RD hT51 9 rfl <| N1 5 <| NO rfl rfl [9,10,11] fun T60 hT60 => cX (ptwin_c d kA kC pA pC nA nC (by exact hin)) (ha3 14 15 16 rfl rfl rfl rfl rfl rfl) rfl fun y61 hy62 => ?_
       obtain ⟨a163, c164, a265, c266, a367, c368⟩ := y61
       try dsimp only
       refine RD hT60 12 rfl <| N1 9 <| NO rfl rfl [10,11] fun T69 hT69 => SW6 rfl ts32 rfl <| RD hT69 12 rfl <| N1 10 <| NO rfl rfl [11] fun T70 hT70 => SW8 rfl ts32 rfl <| RD hT70 12 rfl <| N1 11 ?_
       refine NO rfl rfl [] fun T71 hT71 => SW7 rfl ts32 rfl <| RD hT71 12 rfl ?_
       refine n_fin (k_then (k_sub (sub_all rfl) (fun w hs => St.sel [9, 10, 11, 6, 3, 4, 5, 8, 0, 1, 2, 7, 12, 13, 14, 15, 16, 17, 18, 19] rfl rfl hs) (hK35 ⟨(b50, a139, c140, a241, c242, a343, c344, b46, a154, c155, a256, c257, a358, c359, b48, a163, c164, a265, c266, a367, c368), trivial⟩)))
     refine NO rfl rfl [5,6,9,10,11] fun T49 hT49 => cX (ptwin_c d kA kC pA pC nA nC (by exact hin)) (ha3 10 11 12 rfl rfl rfl rfl rfl rfl) rfl fun y50 hy51 => ?_
     obtain ⟨a152, c153, a254, c255, a356, c357⟩ := y50
     try dsimp only
     refine RD hT49 8 rfl ?_
     refine n_step [5, 6] (by kernel_rfl) (n_cons ?_ <| n_cons ?_ <| n_nil)
     rotate_left 1
     · refine NO rfl rfl [5,9,10,11] fun T58 hT58 => ?_
       refine AL rfl tz32 fun b59 => RD hT58 9 rfl <| N1 5 <| NO rfl rfl [9,10,11] fun T60 hT60 => cX (ptwin_c d kA kC pA pC nA nC (by exact hin)) (ha3 14 15 16 rfl rfl rfl rfl rfl rfl) rfl fun y61 hy62 => ?_
       obtain ⟨a163, c164, a265, c266, a367, c368⟩ := y61
       try dsimp only
       refine RD hT60 12 rfl <| N1 9 <| NO rfl rfl [10,11] fun T69 hT69 => SW3 rfl ts32 rfl <| RD hT69 12 rfl <| N1 10 <| NO rfl rfl [11] fun T70 hT70 => SW8 rfl ts32 rfl <| RD hT70 12 rfl <| N1 11 ?_
       refine NO rfl rfl [] fun T71 hT71 => SW7 rfl ts32 rfl <| RD hT71 12 rfl ?_
       refine n_fin (k_then (k_sub (sub_all rfl) (fun w hs => St.sel [9, 10, 11, 3, 4, 5, 6, 8, 0, 1, 2, 7, 12, 13, 14, 15, 16, 17, 18, 19] rfl rfl hs) (hK35 ⟨(b59, a139, c140, a241, c242, a343, c344, b46, a152, c153, a254, c255, a356, c357, b48, a163, c164, a265, c266, a367, c368), trivial⟩)))
     refine NO rfl rfl [6,9,10,11] fun T58 hT58 => cX (ptwin_c d kA kC pA pC nA nC (by exact hin)) (ha3 13 14 15 rfl rfl rfl rfl rfl rfl) rfl fun y59 hy60 => ?_
     obtain ⟨a161, c162, a263, c264, a365, c366⟩ := y59
     try dsimp only
     refine RD hT58 11 rfl <| N1 6 <| NO rfl rfl [9,10,11] fun T67 hT67 => AL rfl tz32 fun b68 => RD hT67 12 rfl <| N1 9 <| NO rfl rfl [10,11] fun T69 hT69 => SW0 rfl ts32 rfl <| RD hT69 12 rfl <| N1 10 ?_
     refine NO rfl rfl [11] fun T70 hT70 => SW8 rfl ts32 rfl <| RD hT70 12 rfl <| N1 11 <| NO rfl rfl [] fun T71 hT71 => SW7 rfl ts32 rfl <| RD hT71 12 rfl ?_
     refine n_fin (k_then (k_sub (sub_all rfl) (fun w hs => St.sel [9, 10, 11, 0, 4, 5, 6, 8, 1, 2, 3, 7, 12, 13, 14, 15, 16, 17, 18, 19] rfl rfl hs) (hK35 ⟨(b68, a139, c140, a241, c242, a343, c344, b46, a152, c153, a254, c255, a356, c357, b48, a161, c162, a263, c264, a365, c366), trivial⟩)))
   refine NO rfl rfl [5,6,8,9,10,11] fun T47 hT47 => cX (ptwin_c d kA kC pA pC nA nC (by exact hin)) (ha3 9 10 11 rfl rfl rfl rfl rfl rfl) rfl fun y48 hy49 => ?_
   obtain ⟨a150, c151, a252, c253, a354, c355⟩ := y48
   try dsimp only
   refine RD hT47 7 rfl ?_
   refine n_step [5, 6, 8] (by kernel_rfl) (n_cons ?_ <| n_cons ?_ <| n_cons ?_ <| n_nil)
   rotate_left 2
   · refine NO rfl rfl [5,6,9,10,11] fun T56 hT56 => ?_
     refine AL rfl tz32 fun b57 => RD hT56 8 rfl ?_
     refine n_step [5, 6] (by kernel_rfl) (n_cons ?_ <| n_cons ?_ <| n_nil)
     rotate_left 1
     · refine NO rfl rfl [5,9,10,11] fun T58 hT58 => ?_
       refine AL rfl tz32 fun b59 => RD hT58 9 rfl <| N1 5 <| NO rfl rfl [9,10,11] fun T60 hT60 => cX (ptwin_c d kA kC pA pC nA nC (by exact hin)) (ha3 14 15 16 rfl rfl rfl rfl rfl rfl) rfl fun y61 hy62 => ?_
       obtain ⟨a163, c164, a265, c266, a367, c368⟩ := y61
       try dsimp only
       refine RD hT60 12 rfl <| N1 9 <| NO rfl rfl [10,11] fun T69 hT69 => SW3 rfl ts32 rfl <| RD hT69 12 rfl <| N1 10 <| NO rfl rfl [11] fun T70 hT70 => SW8 rfl ts32 rfl <| RD hT70 12 rfl <| N1 11 ?_
       refine NO rfl rfl [] fun T71 hT71 => SW4 rfl ts32 rfl <| RD hT71 12 rfl ?_
       refine n_fin (k_then (k_sub (sub_all rfl) (fun w hs => St.sel [9, 10, 11, 3, 5, 6, 7, 8, 0, 1, 2, 4, 12, 13, 14, 15, 16, 17, 18, 19] rfl rfl hs) (hK35 ⟨(b59, a139, c140, a241, c242, a343, c344, b46, a150, c151, a252, c253, a354, c355, b57, a163, c164, a265, c266, a367, c368), trivial⟩)))
     refine NO rfl rfl [6,9,10,11] fun T58 hT58 => cX (ptwin_c d kA kC pA pC nA nC (by exact hin)) (ha3 13 14 15 rfl rfl rfl rfl rfl rfl) rfl fun y59 hy60 => ?_
     obtain ⟨a161, c162, a263, c264, a365, c366⟩ := y59
     try dsimp only
     refine RD hT58 11 rfl <| N1 6 <| NO rfl rfl [9,10,11] fun T67 hT67 => AL rfl tz32 fun b68 => RD hT67 12 rfl <| N1 9 <| NO rfl rfl [10,11] fun T69 hT69 => SW0 rfl ts32 rfl <| RD hT69 12 rfl <| N1 10 ?_
     refine NO rfl rfl [11] fun T70 hT70 => SW8 rfl ts32 rfl <| RD hT70 12 rfl <| N1 11 <| NO rfl rfl [] fun T71 hT71 => SW4 rfl ts32 rfl <| RD hT71 12 rfl ?_
     refine n_fin (k_then (k_sub (sub_all rfl) (fun w hs => St.sel [9, 10, 11, 0, 5, 6, 7, 8, 1, 2, 3, 4, 12, 13, 14, 15, 16, 17, 18, 19] rfl rfl hs) (hK35 ⟨(b68, a139, c140, a241, c242, a343, c344, b46, a150, c151, a252, c253, a354, c355, b57, a161, c162, a263, c264, a365, c366), trivial⟩)))
   · refine NO rfl rfl [6,8,9,10,11] fun T56 hT56 => ?_
     refine cX (ptwin_c d kA kC pA pC nA nC (by exact hin)) (ha3 12 13 14 rfl rfl rfl rfl rfl rfl) rfl fun y57 hy58 => ?_
     obtain ⟨a159, c160, a261, c262, a363, c364⟩ := y57
     try dsimp only
     refine RD hT56 10 rfl ?_
     refine n_step [6, 8] (by kernel_rfl) (n_cons ?_ <| n_cons ?_ <| n_nil)
     rotate_left 1
     · refine NO rfl rfl [6,9,10,11] fun T65 hT65 => ?_
       refine AL rfl tz32 fun b66 => RD hT65 11 rfl <| N1 6 <| NO rfl rfl [9,10,11] fun T67 hT67 => AL rfl tz32 fun b68 => RD hT67 12 rfl <| N1 9 <| NO rfl rfl [10,11] fun T69 hT69 => SW0 rfl ts32 rfl <| RD hT69 12 rfl ?_
       refine N1 10 <| NO rfl rfl [11] fun T70 hT70 => SW8 rfl ts32 rfl <| RD hT70 12 rfl <| N1 11 <| NO rfl rfl [] fun T71 hT71 => SW1 rfl ts32 rfl <| RD hT71 12 rfl ?_
       refine n_fin (k_then (k_sub (sub_all rfl) (fun w hs => St.sel [9, 10, 11, 0, 5, 6, 7, 8, 2, 3, 4, 1, 12, 13, 14, 15, 16, 17, 18, 19] rfl rfl hs) (hK35 ⟨(b68, a139, c140, a241, c242, a343, c344, b46, a150, c151, a252, c253, a354, c355, b66, a159, c160, a261, c262, a363, c364), trivial⟩)))
     refine NO rfl rfl [8,9,10,11] fun T65 hT65 => AL rfl tz32 fun b66 => RD hT65 11 rfl <| N1 8 <| NO rfl rfl [9,10,11] fun T67 hT67 => AL rfl tz32 fun b68 => RD hT67 12 rfl <| N1 9 <| NO rfl rfl [10,11] fun T69 hT69 => SW1 rfl ts32 rfl ?_
     refine RD hT69 12 rfl <| N1 10 <| NO rfl rfl [11] fun T70 hT70 => SW8 rfl ts32 rfl <| RD hT70 12 rfl <| N1 11 <| NO rfl rfl [] fun T71 hT71 => SW0 rfl ts32 rfl <| RD hT71 12 rfl ?_
     refine n_fin (k_then (k_sub (sub_all rfl) (fun w hs => St.sel [9, 10, 11, 1, 5, 6, 7, 8, 2, 3, 4, 0, 12, 13, 14, 15, 16, 17, 18, 19] rfl rfl hs) (hK35 ⟨(b66, a139, c140, a241, c242, a343, c344, b46, a150, c151, a252, c253, a354, c355, b68, a159, c160, a261, c262, a363, c364), trivial⟩)))
   refine NO rfl rfl [5,8,9,10,11] fun T56 hT56 => AL rfl tz32 fun b57 => RD hT56 8 rfl ?_
   refine n_step [5, 8] (by kernel_rfl) (n_cons ?_ <| n_cons ?_ <| n_nil)
   rotate_left 1
   · refine NO rfl rfl [5,9,10,11] fun T58 hT58 => ?_
     refine AL rfl tz32 fun b59 => RD hT58 9 rfl <| N1 5 <| NO rfl rfl [9,10,11] fun T60 hT60 => cX (ptwin_c d kA kC pA pC nA nC (by exact hin)) (ha3 14 15 16 rfl rfl rfl rfl rfl rfl) rfl fun y61 hy62 => ?_
     obtain ⟨a163, c164, a265, c266, a367, c368⟩ := y61
     try dsimp only
     refine RD hT60 12 rfl <| N1 9 <| NO rfl rfl [10,11] fun T69 hT69 => SW4 rfl ts32 rfl <| RD hT69 12 rfl <| N1 10 <| NO rfl rfl [11] fun T70 hT70 => SW8 rfl ts32 rfl <| RD hT70 12 rfl <| N1 11 ?_
     refine NO rfl rfl [] fun T71 hT71 => SW3 rfl ts32 rfl <| RD hT71 12 rfl ?_
     refine n_fin (k_then (k_sub (sub_all rfl) (fun w hs => St.sel [9, 10, 11, 4, 5, 6, 7, 8, 0, 1, 2, 3, 12, 13, 14, 15, 16, 17, 18, 19] rfl rfl hs) (hK35 ⟨(b57, a139, c140, a241, c242, a343, c344, b46, a150, c151, a252, c253, a354, c355, b59, a163, c164, a265, c266, a367, c368), trivial⟩)))
   refine NO rfl rfl [8,9,10,11] fun T58 hT58 => cX (ptwin_c d kA kC pA pC nA nC (by exact hin)) (ha3 13 14 15 rfl rfl rfl rfl rfl rfl) rfl fun y59 hy60 => ?_
   obtain ⟨a161, c162, a263, c264, a365, c366⟩ := y59
   try dsimp only
   refine RD hT58 11 rfl <| N1 8 <| NO rfl rfl [9,10,11] fun T67 hT67 => AL rfl tz32 fun b68 => RD hT67 12 rfl <| N1 9 <| NO rfl rfl [10,11] fun T69 hT69 => SW4 rfl ts32 rfl <| RD hT69 12 rfl <| N1 10 ?_
   refine NO rfl rfl [11] fun T70 hT70 => SW8 rfl ts32 rfl <| RD hT70 12 rfl <| N1 11 <| NO rfl rfl [] fun T71 hT71 => SW0 rfl ts32 rfl <| RD hT71 12 rfl ?_
   refine n_fin (k_then (k_sub (sub_all rfl) (fun w hs => St.sel [9, 10, 11, 4, 5, 6, 7, 8, 1, 2, 3, 0, 12, 13, 14, 15, 16, 17, 18, 19] rfl rfl hs) (hK35 ⟨(b57, a139, c140, a241, c242, a343, c344, b46, a150, c151, a252, c253, a354, c355, b68, a161, c162, a263, c264, a365, c366), trivial⟩)))
 · refine NO rfl rfl [3,5,6,7,9,10,11] fun T45 hT45 => ?_
   refine AL rfl tz32 fun b46 => RD hT45 4 rfl ?_
   refine n_step [3, 6, 7] (by kernel_rfl) (n_cons ?_ <| n_cons ?_ <| n_cons ?_ <| n_nil)
   rotate_left 1
   · refine NO rfl rfl [3,5,7,9,10,11] fun T47 hT47 => ?_
     refine AL rfl tz32 fun b48 => RD hT47 5 rfl ?_
     refine n_step [3, 7] (by kernel_rfl) (n_cons ?_ <| n_cons ?_ <| n_nil)
     rotate_left 1
     · refine NO rfl rfl [3,5,9,10,11] fun T49 hT49 => ?_
       refine AL rfl tz32 fun b50 => RD hT49 6 rfl <| N1 3 <| NO rfl rfl [5,9,10,11] fun T51 hT51 => cX (ptwin_c d kA kC pA pC nA nC (by exact hin)) (ha3 11 12 13 rfl rfl rfl rfl rfl rfl) rfl fun y52 hy53 => ?_
       obtain ⟨a154, c155, a256, c257, a358, c359⟩ := y52
       try dsimp only
       refine RD hT51 9 rfl <| N1 5 <| NO rfl rfl [9,10,11] fun T60 hT60 => cX (ptwin_c d kA kC pA pC nA nC (by exact hin)) (ha3 14 15 16 rfl rfl rfl rfl rfl rfl) rfl fun y61 hy62 => ?_
       obtain ⟨a163, c164, a265, c266, a367, c368⟩ := y61
       try dsimp only
       refine RD hT60 12 rfl <| N1 9 <| NO rfl rfl [10,11] fun T69 hT69 => SW7 rfl ts32 rfl <| RD hT69 12 rfl <| N1 10 <| NO rfl rfl [11] fun T70 hT70 => SW6 rfl ts32 rfl <| RD hT70 12 rfl <| N1 11 ?_
       refine NO rfl rfl [] fun T71 hT71 => SW8 rfl ts32 rfl <| RD hT71 12 rfl ?_
       refine n_fin (k_then (k_sub (sub_all rfl) (fun w hs => St.sel [9, 10, 11, 7, 3, 4, 5, 6, 0, 1, 2, 8, 12, 13, 14, 15, 16, 17, 18, 19] rfl rfl hs) (hK35 ⟨(b48, a139, c140, a241, c242, a343, c344, b50, a154, c155, a256, c257, a358, c359, b46, a163, c164, a265, c266, a367, c368), trivial⟩)))
     refine NO rfl rfl [5,7,9,10,11] fun T49 hT49 => cX (ptwin_c d kA kC pA pC nA nC (by exact hin)) (ha3 10 11 12 rfl rfl rfl rfl rfl rfl) rfl fun y50 hy51 => ?_
     obtain ⟨a152, c153, a254, c255, a356, c357⟩ := y50
     try dsimp only
     refine RD hT49 8 rfl ?_
     refine n_step [5, 7] (by kernel_rfl) (n_cons ?_ <| n_cons ?_ <| n_nil)
     rotate_left 1
     · refine NO rfl rfl [5,9,10,11] fun T58 hT58 => ?_
       refine AL rfl tz32 fun b59 => RD hT58 9 rfl <| N1 5 <| NO rfl rfl [9,10,11] fun T60 hT60 => cX (ptwin_c d kA kC pA pC nA nC (by exact hin)) (ha3 14 15 16 rfl rfl rfl rfl rfl rfl) rfl fun y61 hy62 => ?_
       obtain ⟨a163, c164, a265, c266, a367, c368⟩ := y61
       try dsimp only
       refine RD hT60 12 rfl <| N1 9 <| NO rfl rfl [10,11] fun T69 hT69 => SW7 rfl ts32 rfl <| RD hT69 12 rfl <| N1 10 <| NO rfl rfl [11] fun T70 hT70 => SW3 rfl ts32 rfl <| RD hT70 12 rfl <| N1 11 ?_
       refine NO rfl rfl [] fun T71 hT71 => SW8 rfl ts32 rfl <| RD hT71 12 rfl ?_
       refine n_fin (k_then (k_sub (sub_all rfl) (fun w hs => St.sel [9, 10, 11, 7, 4, 5, 6, 3, 0, 1, 2, 8, 12, 13, 14, 15, 16, 17, 18, 19] rfl rfl hs) (hK35 ⟨(b48, a139, c140, a241, c242, a343, c344, b59, a152, c153, a254, c255, a356, c357, b46, a163, c164, a265, c266, a367, c368), trivial⟩)))
     refine NO rfl rfl [7,9,10,11] fun T58 hT58 => cX (ptwin_c d kA kC pA pC nA nC (by exact hin)) (ha3 13 14 15 rfl rfl rfl rfl rfl rfl) rfl fun y59 hy60 => ?_
     obtain ⟨a161, c162, a263, c264, a365, c366⟩ := y59
     try dsimp only
     refine RD hT58 11 rfl <| N1 7 <| NO rfl rfl [9,10,11] fun T67 hT67 => AL rfl tz32 fun b68 => RD hT67 12 rfl <| N1 9 <| NO rfl rfl [10,11] fun T69 hT69 => SW7 rfl ts32 rfl <| RD hT69 12 rfl <| N1 10 ?_
     refine NO rfl rfl [11] fun T70 hT70 => SW0 rfl ts32 rfl <| RD hT70 12 rfl <| N1 11 <| NO rfl rfl [] fun T71 hT71 => SW8 rfl ts32 rfl <| RD hT71 12 rfl ?_
     refine n_fin (k_then (k_sub (sub_all rfl) (fun w hs => St.sel [9, 10, 11, 7, 4, 5, 6, 0, 1, 2, 3, 8, 12, 13, 14, 15, 16, 17, 18, 19] rfl rfl hs) (hK35 ⟨(b48, a139, c140, a241, c242, a343, c344, b68, a152, c153, a254, c255, a356, c357, b46, a161, c162, a263, c264, a365, c366), trivial⟩)))
   · refine NO rfl rfl [3,5,6,9,10,11] fun T47 hT47 => ?_
     refine AL rfl tz32 fun b48 => RD hT47 5 rfl ?_
     refine n_step [3, 6] (by kernel_rfl) (n_cons ?_ <| n_cons ?_ <| n_nil)
     rotate_left 1
     · refine NO rfl rfl [3,5,9,10,11] fun T49 hT49 => ?_
       refine AL rfl tz32 fun b50 => RD hT49 6 rfl <| N1 3 <| NO rfl rfl [5,9,10,11] fun T51 hT51 => cX (ptwin_c d kA kC pA pC nA nC (by exact hin)) (ha3 11 12 13 rfl rfl rfl rfl rfl rfl) rfl fun y52 hy53 => ?_
       obtain ⟨a154, c155, a256, c257, a358, c359⟩ := y52
       try dsimp only
       refine RD hT51 9 rfl <| N1 5 <| NO rfl rfl [9,10,11] fun T60 hT60 => cX (ptwin_c d kA kC pA pC nA nC (by exact hin)) (ha3 14 15 16 rfl rfl rfl rfl rfl rfl) rfl fun y61 hy62 => ?_
       obtain ⟨a163, c164, a265, c266, a367, c368⟩ := y61
       try dsimp only
       refine RD hT60 12 rfl <| N1 9 <| NO rfl rfl [10,11] fun T69 hT69 => SW6 rfl ts32 rfl <| RD hT69 12 rfl <| N1 10 <| NO rfl rfl [11] fun T70 hT70 => SW7 rfl ts32 rfl <| RD hT70 12 rfl <| N1 11 ?_
       refine NO rfl rfl [] fun T71 hT71 => SW8 rfl ts32 rfl <| RD hT71 12 rfl ?_
       refine n_fin (k_then (k_sub (sub_all rfl) (fun w hs => St.sel [9, 10, 11, 6, 3, 4, 5, 7, 0, 1, 2, 8, 12, 13, 14, 15, 16, 17, 18, 19] rfl rfl hs) (hK35 ⟨(b50, a139, c140, a241, c242, a343, c344, b48, a154, c155, a256, c257, a358, c359, b46, a163, c164, a265, c266, a367, c368), trivial⟩)))
     refine NO rfl rfl [5,6,9,10,11] fun T49 hT49 => cX (ptwin_c d kA kC pA pC nA nC (by exact hin)) (ha3 10 11 12 rfl rfl rfl rfl rfl rfl) rfl fun y50 hy51 => ?_
     obtain ⟨a152, c153, a254, c255, a356, c357⟩ := y50
     try dsimp only
     refine RD hT49 8 rfl ?_
     refine n_step [5, 6] (by kernel_rfl) (n_cons ?_ <| n_cons ?_ <| n_nil)
     rotate_left 1
     · refine NO rfl rfl [5,9,10,11] fun T58 hT58 => ?_
       refine AL rfl tz32 fun b59 => RD hT58 9 rfl <| N1 5 <| NO rfl rfl [9,10,11] fun T60 hT60 => cX (ptwin_c d kA kC pA pC nA nC (by exact hin)) (ha3 14 15 16 rfl rfl rfl rfl rfl rfl) rfl fun y61 hy62 => ?_
       obtain ⟨a163, c164, a265, c266, a367, c368⟩ := y61
       try dsimp only
       refine RD hT60 12 rfl <| N1 9 <| NO rfl rfl [10,11] fun T69 hT69 => SW3 rfl ts32 rfl <| RD hT69 12 rfl <| N1 10 <| NO rfl rfl [11] fun T70 hT70 => SW7 rfl ts32 rfl <| RD hT70 12 rfl <| N1 11 ?_
       refine NO rfl rfl [] fun T71 hT71 => SW8 rfl ts32 rfl <| RD hT71 12 rfl ?_
       refine n_fin (k_then (k_sub (sub_all rfl) (fun w hs => St.sel [9, 10, 11, 3, 4, 5, 6, 7, 0, 1, 2, 8, 12, 13, 14, 15, 16, 17, 18, 19] rfl rfl hs) (hK35 ⟨(b59, a139, c140, a241, c242, a343, c344, b48, a152, c153, a254, c255, a356, c357, b46, a163, c164, a265, c266, a367, c368), trivial⟩)))
     refine NO rfl rfl [6,9,10,11] fun T58 hT58 => cX (ptwin_c d kA kC pA pC nA nC (by exact hin)) (ha3 13 14 15 rfl rfl rfl rfl rfl rfl) rfl fun y59 hy60 => ?_
     obtain ⟨a161, c162, a263, c264, a365, c366⟩ := y59
     try dsimp only
     refine RD hT58 11 rfl <| N1 6 <| NO rfl rfl [9,10,11] fun T67 hT67 => AL rfl tz32 fun b68 => RD hT67 12 rfl <| N1 9 <| NO rfl rfl [10,11] fun T69 hT69 => SW0 rfl ts32 rfl <| RD hT69 12 rfl <| N1 10 ?_
     refine NO rfl rfl [11] fun T70 hT70 => SW7 rfl ts32 rfl <| RD hT70 12 rfl <| N1 11 <| NO rfl rfl [] fun T71 hT71 => SW8 rfl ts32 rfl <| RD hT71 12 rfl ?_
     refine n_fin (k_then (k_sub (sub_all rfl) (fun w hs => St.sel [9, 10, 11, 0, 4, 5, 6, 7, 1, 2, 3, 8, 12, 13, 14, 15, 16, 17, 18, 19] rfl rfl hs) (hK35 ⟨(b68, a139, c140, a241, c242, a343, c344, b48, a152, c153, a254, c255, a356, c357, b46, a161, c162, a263, c264, a365, c366), trivial⟩)))
   refine NO rfl rfl [5,6,7,9,10,11] fun T47 hT47 => cX (ptwin_c d kA kC pA pC nA nC (by exact hin)) (ha3 9 10 11 rfl rfl rfl rfl rfl rfl) rfl fun y48 hy49 => ?_
   obtain ⟨a150, c151, a252, c253, a354, c355⟩ := y48
   try dsimp only
   refine RD hT47 7 rfl ?_
   refine n_step [5, 6, 7] (by kernel_rfl) (n_cons ?_ <| n_cons ?_ <| n_cons ?_ <| n_nil)
   rotate_left 2
   · refine NO rfl rfl [5,6,9,10,11] fun T56 hT56 => ?_
     refine AL rfl tz32 fun b57 => RD hT56 8 rfl ?_
     refine n_step [5, 6] (by kernel_rfl) (n_cons ?_ <| n_cons ?_ <| n_nil)
     rotate_left 1
     · refine NO rfl rfl [5,9,10,11] fun T58 hT58 => ?_
       refine AL rfl tz32 fun b59 => RD hT58 9 rfl <| N1 5 <| NO rfl rfl [9,10,11] fun T60 hT60 => cX (ptwin_c d kA kC pA pC nA nC (by exact hin)) (ha3 14 15 16 rfl rfl rfl rfl rfl rfl) rfl fun y61 hy62 => ?_
       obtain ⟨a163, c164, a265, c266, a367, c368⟩ := y61
       try dsimp only
       refine RD hT60 12 rfl <| N1 9 <| NO rfl rfl [10,11] fun T69 hT69 => SW3 rfl ts32 rfl <| RD hT69 12 rfl <| N1 10 <| NO rfl rfl [11] fun T70 hT70 => SW4 rfl ts32 rfl <| RD hT70 12 rfl <| N1 11 ?_
       refine NO rfl rfl [] fun T71 hT71 => SW8 rfl ts32 rfl <| RD hT71 12 rfl ?_
       refine n_fin (k_then (k_sub (sub_all rfl) (fun w hs => St.sel [9, 10, 11, 3, 5, 6, 7, 4, 0, 1, 2, 8, 12, 13, 14, 15, 16, 17, 18, 19] rfl rfl hs) (hK35 ⟨(b59, a139, c140, a241, c242, a343, c344, b57, a150, c151, a252, c253, a354, c355, b46, a163, c164, a265, c266, a367, c368), trivial⟩)))
     refine NO rfl rfl [6,9,10,11] fun T58 hT58 => cX (ptwin_c d kA kC pA pC nA nC (by exact hin)) (ha3 13 14 15 rfl rfl rfl rfl rfl rfl) rfl fun y59 hy60 => ?_
     obtain ⟨a161, c162, a263, c264, a365, c366⟩ := y59
     try dsimp only
     refine RD hT58 11 rfl <| N1 6 <| NO rfl rfl [9,10,11] fun T67 hT67 => AL rfl tz32 fun b68 => RD hT67 12 rfl <| N1 9 <| NO rfl rfl [10,11] fun T69 hT69 => SW0 rfl ts32 rfl <| RD hT69 12 rfl <| N1 10 ?_
     refine NO rfl rfl [11] fun T70 hT70 => SW4 rfl ts32 rfl <| RD hT70 12 rfl <| N1 11 <| NO rfl rfl [] fun T71 hT71 => SW8 rfl ts32 rfl <| RD hT71 12 rfl ?_
     refine n_fin (k_then (k_sub (sub_all rfl) (fun w hs => St.sel [9, 10, 11, 0, 5, 6, 7, 4, 1, 2, 3, 8, 12, 13, 14, 15, 16, 17, 18, 19] rfl rfl hs) (hK35 ⟨(b68, a139, c140, a241, c242, a343, c344, b57, a150, c151, a252, c253, a354, c355, b46, a161, c162, a263, c264, a365, c366), trivial⟩)))
   · refine NO rfl rfl [6,7,9,10,11] fun T56 hT56 => ?_
     refine cX (ptwin_c d kA kC pA pC nA nC (by exact hin)) (ha3 12 13 14 rfl rfl rfl rfl rfl rfl) rfl fun y57 hy58 => ?_
     obtain ⟨a159, c160, a261, c262, a363, c364⟩ := y57
     try dsimp only
     refine RD hT56 10 rfl ?_
     refine n_step [6, 7] (by kernel_rfl) (n_cons ?_ <| n_cons ?_ <| n_nil)
     rotate_left 1
     · refine NO rfl rfl [6,9,10,11] fun T65 hT65 => ?_
       refine AL rfl tz32 fun b66 => RD hT65 11 rfl <| N1 6 <| NO rfl rfl [9,10,11] fun T67 hT67 => AL rfl tz32 fun b68 => RD hT67 12 rfl <| N1 9 <| NO rfl rfl [10,11] fun T69 hT69 => SW0 rfl ts32 rfl <| RD hT69 12 rfl ?_
       refine N1 10 <| NO rfl rfl [11] fun T70 hT70 => SW1 rfl ts32 rfl <| RD hT70 12 rfl <| N1 11 <| NO rfl rfl [] fun T71 hT71 => SW8 rfl ts32 rfl <| RD hT71 12 rfl ?_
       refine n_fin (k_then (k_sub (sub_all rfl) (fun w hs => St.sel [9, 10, 11, 0, 5, 6, 7, 1, 2, 3, 4, 8, 12, 13, 14, 15, 16, 17, 18, 19] rfl rfl hs) (hK35 ⟨(b68, a139, c140, a241, c242, a343, c344, b66, a150, c151, a252, c253, a354, c355, b46, a159, c160, a261, c262, a363, c364), trivial⟩)))
     refine NO rfl rfl [7,9,10,11] fun T65 hT65 => AL rfl tz32 fun b66 => RD hT65 11 rfl <| N1 7 <| NO rfl rfl [9,10,11] fun T67 hT67 => AL rfl tz32 fun b68 => RD hT67 12 rfl <| N1 9 <| NO rfl rfl [10,11] fun T69 hT69 => SW1 rfl ts32 rfl ?_
     refine RD hT69 12 rfl <| N1 10 <| NO rfl rfl [11] fun T70 hT70 => SW0 rfl ts32 rfl <| RD hT70 12 rfl <| N1 11 <| NO rfl rfl [] fun T71 hT71 => SW8 rfl ts32 rfl <| RD hT71 12 rfl ?_
     refine n_fin (k_then (k_sub (sub_all rfl) (fun w hs => St.sel [9, 10, 11, 1, 5, 6, 7, 0, 2, 3, 4, 8, 12, 13, 14, 15, 16, 17, 18, 19] rfl rfl hs) (hK35 ⟨(b66, a139, c140, a241, c242, a343, c344, b68, a150, c151, a252, c253, a354, c355, b46, a159, c160, a261, c262, a363, c364), trivial⟩)))
   refine NO rfl rfl [5,7,9,10,11] fun T56 hT56 => AL rfl tz32 fun b57 => RD hT56 8 rfl ?_
   refine n_step [5, 7] (by kernel_rfl) (n_cons ?_ <| n_cons ?_ <| n_nil)
   rotate_left 1
   · refine NO rfl rfl [5,9,10,11] fun T58 hT58 => ?_
     refine AL rfl tz32 fun b59 => RD hT58 9 rfl <| N1 5 <| NO rfl rfl [9,10,11] fun T60 hT60 => cX (ptwin_c d kA kC pA pC nA nC (by exact hin)) (ha3 14 15 16 rfl rfl rfl rfl rfl rfl) rfl fun y61 hy62 => ?_
     obtain ⟨a163, c164, a265, c266, a367, c368⟩ := y61
     try dsimp only
     refine RD hT60 12 rfl <| N1 9 <| NO rfl rfl [10,11] fun T69 hT69 => SW4 rfl ts32 rfl <| RD hT69 12 rfl <| N1 10 <| NO rfl rfl [11] fun T70 hT70 => SW3 rfl ts32 rfl <| RD hT70 12 rfl <| N1 11 ?_
     refine NO rfl rfl [] fun T71 hT71 => SW8 rfl ts32 rfl <| RD hT71 12 rfl ?_
     refine n_fin (k_then (k_sub (sub_all rfl) (fun w hs => St.sel [9, 10, 11, 4, 5, 6, 7, 3, 0, 1, 2, 8, 12, 13, 14, 15, 16, 17, 18, 19] rfl rfl hs) (hK35 ⟨(b57, a139, c140, a241, c242, a343, c344, b59, a150, c151, a252, c253, a354, c355, b46, a163, c164, a265, c266, a367, c368), trivial⟩)))
   refine NO rfl rfl [7,9,10,11] fun T58 hT58 => cX (ptwin_c d kA kC pA pC nA nC (by exact hin)) (ha3 13 14 15 rfl rfl rfl rfl rfl rfl) rfl fun y59 hy60 => ?_
   obtain ⟨a161, c162, a263, c264, a365, c366⟩ := y59
   try dsimp only
   refine RD hT58 11 rfl <| N1 7 <| NO rfl rfl [9,10,11] fun T67 hT67 => AL rfl tz32 fun b68 => RD hT67 12 rfl <| N1 9 <| NO rfl rfl [10,11] fun T69 hT69 => SW4 rfl ts32 rfl <| RD hT69 12 rfl <| N1 10 ?_
   refine NO rfl rfl [11] fun T70 hT70 => SW0 rfl ts32 rfl <| RD hT70 12 rfl <| N1 11 <| NO rfl rfl [] fun T71 hT71 => SW8 rfl ts32 rfl <| RD hT71 12 rfl ?_
   refine n_fin (k_then (k_sub (sub_all rfl) (fun w hs => St.sel [9, 10, 11, 4, 5, 6, 7, 0, 1, 2, 3, 8, 12, 13, 14, 15, 16, 17, 18, 19] rfl rfl hs) (hK35 ⟨(b57, a139, c140, a241, c242, a343, c344, b68, a150, c151, a252, c253, a354, c355, b46, a161, c162, a263, c264, a365, c366), trivial⟩)))
 refine NO rfl rfl [5,6,7,8,9,10,11] fun T45 hT45 => cX (ptwin_c d kA kC pA pC nA nC (by exact hin)) (ha3 8 9 10 rfl rfl rfl rfl rfl rfl) rfl fun y46 hy47 => ?_
 obtain ⟨a148, c149, a250, c251, a352, c353⟩ := y46
 try dsimp only
 refine RD hT45 6 rfl ?_
 refine n_step [5, 6, 7, 8] (by kernel_rfl) (n_cons ?_ <| n_cons ?_ <| n_cons ?_ <| n_cons ?_ <| n_nil)
 rotate_left 2
 · refine NO rfl rfl [5,6,8,9,10,11] fun T54 hT54 => ?_
   refine AL rfl tz32 fun b55 => RD hT54 7 rfl ?_
   refine n_step [5, 6, 8] (by kernel_rfl) (n_cons ?_ <| n_cons ?_ <| n_cons ?_ <| n_nil)
   rotate_left 2
   · refine NO rfl rfl [5,6,9,10,11] fun T56 hT56 => ?_
     refine AL rfl tz32 fun b57 => RD hT56 8 rfl ?_
     refine n_step [5, 6] (by kernel_rfl) (n_cons ?_ <| n_cons ?_ <| n_nil)
     rotate_left 1
     · refine NO rfl rfl [5,9,10,11] fun T58 hT58 => ?_
       refine AL rfl tz32 fun b59 => RD hT58 9 rfl <| N1 5 <| NO rfl rfl [9,10,11] fun T60 hT60 => cX (ptwin_c d kA kC pA pC nA nC (by exact hin)) (ha3 14 15 16 rfl rfl rfl rfl rfl rfl) rfl fun y61 hy62 => ?_
       obtain ⟨a163, c164, a265, c266, a367, c368⟩ := y61
       try dsimp only
       refine RD hT60 12 rfl <| N1 9 <| NO rfl rfl [10,11] fun T69 hT69 => SW3 rfl ts32 rfl <| RD hT69 12 rfl <| N1 10 <| NO rfl rfl [11] fun T70 hT70 => SW5 rfl ts32 rfl <| RD hT70 12 rfl <| N1 11 ?_
       refine NO rfl rfl [] fun T71 hT71 => SW4 rfl ts32 rfl <| RD hT71 12 rfl ?_
       refine n_fin (k_then (k_sub (sub_all rfl) (fun w hs => St.sel [9, 10, 11, 3, 6, 7, 8, 5, 0, 1, 2, 4, 12, 13, 14, 15, 16, 17, 18, 19] rfl rfl hs) (hK35 ⟨(b59, a139, c140, a241, c242, a343, c344, b55, a148, c149, a250, c251, a352, c353, b57, a163, c164, a265, c266, a367, c368), trivial⟩)))
     refine NO rfl rfl [6,9,10,11] fun T58 hT58 => cX (ptwin_c d kA kC pA pC nA nC (by exact hin)) (ha3 13 14 15 rfl rfl rfl rfl rfl rfl) rfl fun y59 hy60 => ?_
     obtain ⟨a161, c162, a263, c264, a365, c366⟩ := y59
     try dsimp only
     refine RD hT58 11 rfl <| N1 6 <| NO rfl rfl [9,10,11] fun T67 hT67 => AL rfl tz32 fun b68 => RD hT67 12 rfl <| N1 9 <| NO rfl rfl [10,11] fun T69 hT69 => SW0 rfl ts32 rfl <| RD hT69 12 rfl <| N1 10 ?_
     refine NO rfl rfl [11] fun T70 hT70 => SW5 rfl ts32 rfl <| RD hT70 12 rfl <| N1 11 <| NO rfl rfl [] fun T71 hT71 => SW4 rfl ts32 rfl <| RD hT71 12 rfl ?_
     refine n_fin (k_then (k_sub (sub_all rfl) (fun w hs => St.sel [9, 10, 11, 0, 6, 7, 8, 5, 1, 2, 3, 4, 12, 13, 14, 15, 16, 17, 18, 19] rfl rfl hs) (hK35 ⟨(b68, a139, c140, a241, c242, a343, c344, b55, a148, c149, a250, c251, a352, c353, b57, a161, c162, a263, c264, a365, c366), trivial⟩)))
   · refine NO rfl rfl [6,8,9,10,11] fun T56 hT56 => ?_
     refine cX (ptwin_c d kA kC pA pC nA nC (by exact hin)) (ha3 12 13 14 rfl rfl rfl rfl rfl rfl) rfl fun y57 hy58 => ?_
     obtain ⟨a159, c160, a261, c262, a363, c364⟩ := y57
     try dsimp only
     refine RD hT56 10 rfl ?_
     refine n_step [6, 8] (by kernel_rfl) (n_cons ?_ <| n_cons ?_ <| n_nil)
     rotate_left 1
     · refine NO rfl rfl [6,9,10,11] fun T65 hT65 => ?_
       refine AL rfl tz32 fun b66 => RD hT65 11 rfl <| N1 6 <| NO rfl rfl [9,10,11] fun T67 hT67 => AL rfl tz32 fun b68 => RD hT67 12 rfl <| N1 9 <| NO rfl rfl [10,11] fun T69 hT69 => SW0 rfl ts32 rfl <| RD hT69 12 rfl ?_
       refine N1 10 <| NO rfl rfl [11] fun T70 hT70 => SW5 rfl ts32 rfl <| RD hT70 12 rfl <| N1 11 <| NO rfl rfl [] fun T71 hT71 => SW1 rfl ts32 rfl <| RD hT71 12 rfl ?_
       refine n_fin (k_then (k_sub (sub_all rfl) (fun w hs => St.sel [9, 10, 11, 0, 6, 7, 8, 5, 2, 3, 4, 1, 12, 13, 14, 15, 16, 17, 18, 19] rfl rfl hs) (hK35 ⟨(b68, a139, c140, a241, c242, a343, c344, b55, a148, c149, a250, c251, a352, c353, b66, a159, c160, a261, c262, a363, c364), trivial⟩)))
     refine NO rfl rfl [8,9,10,11] fun T65 hT65 => AL rfl tz32 fun b66 => RD hT65 11 rfl <| N1 8 <| NO rfl rfl [9,10,11] fun T67 hT67 => AL rfl tz32 fun b68 => RD hT67 12 rfl <| N1 9 <| NO rfl rfl [10,11] fun T69 hT69 => SW1 rfl ts32 rfl ?_
     refine RD hT69 12 rfl <| N1 10 <| NO rfl rfl [11] fun T70 hT70 => SW5 rfl ts32 rfl <| RD hT70 12 rfl <| N1 11 <| NO rfl rfl [] fun T71 hT71 => SW0 rfl ts32 rfl <| RD hT71 12 rfl ?_
     refine n_fin (k_then (k_sub (sub_all rfl) (fun w hs => St.sel [9, 10, 11, 1, 6, 7, 8, 5, 2, 3, 4, 0, 12, 13, 14, 15, 16, 17, 18, 19] rfl rfl hs) (hK35 ⟨(b66, a139, c140, a241, c242, a343, c344, b55, a148, c149, a250, c251, a352, c353, b68, a159, c160, a261, c262, a363, c364), trivial⟩)))
   refine NO rfl rfl [5,8,9,10,11] fun T56 hT56 => AL rfl tz32 fun b57 => RD hT56 8 rfl ?_
   refine n_step [5, 8] (by kernel_rfl) (n_cons ?_ <| n_cons ?_ <| n_nil)
   rotate_left 1
   · refine NO rfl rfl [5,9,10,11] fun T58 hT58 => ?_
     refine AL rfl tz32 fun b59 => RD hT58 9 rfl <| N1 5 <| NO rfl rfl [9,10,11] fun T60 hT60 => cX (ptwin_c d kA kC pA pC nA nC (by exact hin)) (ha3 14 15 16 rfl rfl rfl rfl rfl rfl) rfl fun y61 hy62 => ?_
     obtain ⟨a163, c164, a265, c266, a367, c368⟩ := y61
     try dsimp only
     refine RD hT60 12 rfl <| N1 9 <| NO rfl rfl [10,11] fun T69 hT69 => SW4 rfl ts32 rfl <| RD hT69 12 rfl <| N1 10 <| NO rfl rfl [11] fun T70 hT70 => SW5 rfl ts32 rfl <| RD hT70 12 rfl <| N1 11 ?_
     refine NO rfl rfl [] fun T71 hT71 => SW3 rfl ts32 rfl <| RD hT71 12 rfl ?_
     refine n_fin (k_then (k_sub (sub_all rfl) (fun w hs => St.sel [9, 10, 11, 4, 6, 7, 8, 5, 0, 1, 2, 3, 12, 13, 14, 15, 16, 17, 18, 19] rfl rfl hs) (hK35 ⟨(b57, a139, c140, a241, c242, a343, c344, b55, a148, c149, a250, c251, a352, c353, b59, a163, c164, a265, c266, a367, c368), trivial⟩)))
   refine NO rfl rfl [8,9,10,11] fun T58 hT58 => cX (ptwin_c d kA kC pA pC nA nC (by exact hin)) (ha3 13 14 15 rfl rfl rfl rfl rfl rfl) rfl fun y59 hy60 => ?_
   obtain ⟨a161, c162, a263, c264, a365, c366⟩ := y59
   try dsimp only
   refine RD hT58 11 rfl <| N1 8 <| NO rfl rfl [9,10,11] fun T67 hT67 => AL rfl tz32 fun b68 => RD hT67 12 rfl <| N1 9 <| NO rfl rfl [10,11] fun T69 hT69 => SW4 rfl ts32 rfl <| RD hT69 12 rfl <| N1 10 ?_
   refine NO rfl rfl [11] fun T70 hT70 => SW5 rfl ts32 rfl <| RD hT70 12 rfl <| N1 11 <| NO rfl rfl [] fun T71 hT71 => SW0 rfl ts32 rfl <| RD hT71 12 rfl ?_
   refine n_fin (k_then (k_sub (sub_all rfl) (fun w hs => St.sel [9, 10, 11, 4, 6, 7, 8, 5, 1, 2, 3, 0, 12, 13, 14, 15, 16, 17, 18, 19] rfl rfl hs) (hK35 ⟨(b57, a139, c140, a241, c242, a343, c344, b55, a148, c149, a250, c251, a352, c353, b68, a161, c162, a263, c264, a365, c366), trivial⟩)))
 · refine NO rfl rfl [5,6,7,9,10,11] fun T54 hT54 => ?_
   refine AL rfl tz32 fun b55 => RD hT54 7 rfl ?_
   refine n_step [5, 6, 7] (by kernel_rfl) (n_cons ?_ <| n_cons ?_ <| n_cons ?_ <| n_nil)
   rotate_left 2
   · refine NO rfl rfl [5,6,9,10,11] fun T56 hT56 => ?_
     refine AL rfl tz32 fun b57 => RD hT56 8 rfl ?_
     refine n_step [5, 6] (by kernel_rfl) (n_cons ?_ <| n_cons ?_ <| n_nil)
     rotate_left 1
     · refine NO rfl rfl [5,9,10,11] fun T58 hT58 => ?_
       refine AL rfl tz32 fun b59 => RD hT58 9 rfl <| N1 5 <| NO rfl rfl [9,10,11] fun T60 hT60 => cX (ptwin_c d kA kC pA pC nA nC (by exact hin)) (ha3 14 15 16 rfl rfl rfl rfl rfl rfl) rfl fun y61 hy62 => ?_
       obtain ⟨a163, c164, a265, c266, a367, c368⟩ := y61
       try dsimp only
       refine RD hT60 12 rfl <| N1 9 <| NO rfl rfl [10,11] fun T69 hT69 => SW3 rfl ts32 rfl <| RD hT69 12 rfl <| N1 10 <| NO rfl rfl [11] fun T70 hT70 => SW4 rfl ts32 rfl <| RD hT70 12 rfl <| N1 11 ?_
       refine NO rfl rfl [] fun T71 hT71 => SW5 rfl ts32 rfl <| RD hT71 12 rfl ?_
       refine n_fin (k_then (k_sub (sub_all rfl) (fun w hs => St.sel [9, 10, 11, 3, 6, 7, 8, 4, 0, 1, 2, 5, 12, 13, 14, 15, 16, 17, 18, 19] rfl rfl hs) (hK35 ⟨(b59, a139, c140, a241, c242, a343, c344, b57, a148, c149, a250, c251, a352, c353, b55, a163, c164, a265, c266, a367, c368), trivial⟩)))
     refine NO rfl rfl [6,9,10,11] fun T58 hT58 => cX (ptwin_c d kA kC pA pC nA nC (by exact hin)) (ha3 13 14 15 rfl rfl rfl rfl rfl rfl) rfl fun y59 hy60 => ?_
     obtain ⟨a161, c162, a263, c264, a365, c366⟩ := y59
     try dsimp only
     refine RD hT58 11 rfl <| N1 6 <| NO rfl rfl [9,10,11] fun T67 hT67 => AL rfl tz32 fun b68 => RD hT67 12 rfl <| N1 9 <| NO rfl rfl [10,11] fun T69 hT69 => SW0 rfl ts32 rfl <| RD hT69 12 rfl <| N1 10 ?_
     refine NO rfl rfl [11] fun T70 hT70 => SW4 rfl ts32 rfl <| RD hT70 12 rfl <| N1 11 <| NO rfl rfl [] fun T71 hT71 => SW5 rfl ts32 rfl <| RD hT71 12 rfl ?_
     refine n_fin (k_then (k_sub (sub_all rfl) (fun w hs => St.sel [9, 10, 11, 0, 6, 7, 8, 4, 1, 2, 3, 5, 12, 13, 14, 15, 16, 17, 18, 19] rfl rfl hs) (hK35 ⟨(b68, a139, c140, a241, c242, a343, c344, b57, a148, c149, a250, c251, a352, c353, b55, a161, c162, a263, c264, a365, c366), trivial⟩)))
   · refine NO rfl rfl [6,7,9,10,11] fun T56 hT56 => ?_
     refine cX (ptwin_c d kA kC pA pC nA nC (by exact hin)) (ha3 12 13 14 rfl rfl rfl rfl rfl rfl) rfl fun y57 hy58 => ?_
     obtain ⟨a159, c160, a261, c262, a363, c364⟩ := y57
     try dsimp only
     refine RD hT56 10 rfl ?_
     refine n_step [6, 7] (by kernel_rfl) (n_cons ?_ <| n_cons ?_ <| n_nil)
     rotate_left 1
     · refine NO rfl rfl [6,9,10,11] fun T65 hT65 => ?_
       refine AL rfl tz32 fun b66 => RD hT65 11 rfl <| N1 6 <| NO rfl rfl [9,10,11] fun T67 hT67 => AL rfl tz32 fun b68 => RD hT67 12 rfl <| N1 9 <| NO rfl rfl [10,11] fun T69 hT69 => SW0 rfl ts32 rfl <| RD hT69 12 rfl ?_
       refine N1 10 <| NO rfl rfl [11] fun T70 hT70 => SW1 rfl ts32 rfl <| RD hT70 12 rfl <| N1 11 <| NO rfl rfl [] fun T71 hT71 => SW5 rfl ts32 rfl <| RD hT71 12 rfl ?_
       refine n_fin (k_then (k_sub (sub_all rfl) (fun w hs => St.sel [9, 10, 11, 0, 6, 7, 8, 1, 2, 3, 4, 5, 12, 13, 14, 15, 16, 17, 18, 19] rfl rfl hs) (hK35 ⟨(b68, a139, c140, a241, c242, a343, c344, b66, a148, c149, a250, c251, a352, c353, b55, a159, c160, a261, c262, a363, c364), trivial⟩)))
     refine NO rfl rfl [7,9,10,11] fun T65 hT65 => AL rfl tz32 fun b66 => RD hT65 11 rfl <| N1 7 <| NO rfl rfl [9,10,11] fun T67 hT67 => AL rfl tz32 fun b68 => RD hT67 12 rfl <| N1 9 <| NO rfl rfl [10,11] fun T69 hT69 => SW1 rfl ts32 rfl ?_
     refine RD hT69 12 rfl <| N1 10 <| NO rfl rfl [11] fun T70 hT70 => SW0 rfl ts32 rfl <| RD hT70 12 rfl <| N1 11 <| NO rfl rfl [] fun T71 hT71 => SW5 rfl ts32 rfl <| RD hT71 12 rfl ?_
     refine n_fin (k_then (k_sub (sub_all rfl) (fun w hs => St.sel [9, 10, 11, 1, 6, 7, 8, 0, 2, 3, 4, 5, 12, 13, 14, 15, 16, 17, 18, 19] rfl rfl hs) (hK35 ⟨(b66, a139, c140, a241, c242, a343, c344, b68, a148, c149, a250, c251, a352, c353, b55, a159, c160, a261, c262, a363, c364), trivial⟩)))
   refine NO rfl rfl [5,7,9,10,11] fun T56 hT56 => AL rfl tz32 fun b57 => RD hT56 8 rfl ?_
   refine n_step [5, 7] (by kernel_rfl) (n_cons ?_ <| n_cons ?_ <| n_nil)
   rotate_left 1
   · refine NO rfl rfl [5,9,10,11] fun T58 hT58 => ?_
     refine AL rfl tz32 fun b59 => RD hT58 9 rfl <| N1 5 <| NO rfl rfl [9,10,11] fun T60 hT60 => cX (ptwin_c d kA kC pA pC nA nC (by exact hin)) (ha3 14 15 16 rfl rfl rfl rfl rfl rfl) rfl fun y61 hy62 => ?_
     obtain ⟨a163, c164, a265, c266, a367, c368⟩ := y61
     try dsimp only
     refine RD hT60 12 rfl <| N1 9 <| NO rfl rfl [10,11] fun T69 hT69 => SW4 rfl ts32 rfl <| RD hT69 12 rfl <| N1 10 <| NO rfl rfl [11] fun T70 hT70 => SW3 rfl ts32 rfl <| RD hT70 12 rfl <| N1 11 ?_
     refine NO rfl rfl [] fun T71 hT71 => SW5 rfl ts32 rfl <| RD hT71 12 rfl ?_
     refine n_fin (k_then (k_sub (sub_all rfl) (fun w hs => St.sel [9, 10, 11, 4, 6, 7, 8, 3, 0, 1, 2, 5, 12, 13, 14, 15, 16, 17, 18, 19] rfl rfl hs) (hK35 ⟨(b57, a139, c140, a241, c242, a343, c344, b59, a148, c149, a250, c251, a352, c353, b55, a163, c164, a265, c266, a367, c368), trivial⟩)))
   refine NO rfl rfl [7,9,10,11] fun T58 hT58 => cX (ptwin_c d kA kC pA pC nA nC (by exact hin)) (ha3 13 14 15 rfl rfl rfl rfl rfl rfl) rfl fun y59 hy60 => ?_
   obtain ⟨a161, c162, a263, c264, a365, c366⟩ := y59
   try dsimp only
   refine RD hT58 11 rfl <| N1 7 <| NO rfl rfl [9,10,11] fun T67 hT67 => AL rfl tz32 fun b68 => RD hT67 12 rfl <| N1 9 <| NO rfl rfl [10,11] fun T69 hT69 => SW4 rfl ts32 rfl <| RD hT69 12 rfl <| N1 10 ?_
   refine NO rfl rfl [11] fun T70 hT70 => SW0 rfl ts32 rfl <| RD hT70 12 rfl <| N1 11 <| NO rfl rfl [] fun T71 hT71 => SW5 rfl ts32 rfl <| RD hT71 12 rfl ?_
   refine n_fin (k_then (k_sub (sub_all rfl) (fun w hs => St.sel [9, 10, 11, 4, 6, 7, 8, 0, 1, 2, 3, 5, 12, 13, 14, 15, 16, 17, 18, 19] rfl rfl hs) (hK35 ⟨(b57, a139, c140, a241, c242, a343, c344, b68, a148, c149, a250, c251, a352, c353, b55, a161, c162, a263, c264, a365, c366), trivial⟩)))
 · refine NO rfl rfl [6,7,8,9,10,11] fun T54 hT54 => ?_
   refine cX (ptwin_c d kA kC pA pC nA nC (by exact hin)) (ha3 11 12 13 rfl rfl rfl rfl rfl rfl) rfl fun y55 hy56 => ?_
   obtain ⟨a157, c158, a259, c260, a361, c362⟩ := y55
   try dsimp only
   refine RD hT54 9 rfl ?_
   refine n_step [6, 7, 8] (by kernel_rfl) (n_cons ?_ <| n_cons ?_ <| n_cons ?_ <| n_nil)
   rotate_left 1
   · refine NO rfl rfl [6,8,9,10,11] fun T63 hT63 => ?_
     refine AL rfl tz32 fun b64 => RD hT63 10 rfl ?_
     refine n_step [6, 8] (by kernel_rfl) (n_cons ?_ <| n_cons ?_ <| n_nil)
     rotate_left 1
     · refine NO rfl rfl [6,9,10,11] fun T65 hT65 => ?_
       refine AL rfl tz32 fun b66 => RD hT65 11 rfl <| N1 6 <| NO rfl rfl [9,10,11] fun T67 hT67 => AL rfl tz32 fun b68 => RD hT67 12 rfl <| N1 9 <| NO rfl rfl [10,11] fun T69 hT69 => SW0 rfl ts32 rfl <| RD hT69 12 rfl ?_
       refine N1 10 <| NO rfl rfl [11] fun T70 hT70 => SW2 rfl ts32 rfl <| RD hT70 12 rfl <| N1 11 <| NO rfl rfl [] fun T71 hT71 => SW1 rfl ts32 rfl <| RD hT71 12 rfl ?_
       refine n_fin (k_then (k_sub (sub_all rfl) (fun w hs => St.sel [9, 10, 11, 0, 6, 7, 8, 2, 3, 4, 5, 1, 12, 13, 14, 15, 16, 17, 18, 19] rfl rfl hs) (hK35 ⟨(b68, a139, c140, a241, c242, a343, c344, b64, a148, c149, a250, c251, a352, c353, b66, a157, c158, a259, c260, a361, c362), trivial⟩)))
     refine NO rfl rfl [8,9,10,11] fun T65 hT65 => AL rfl tz32 fun b66 => RD hT65 11 rfl <| N1 8 <| NO rfl rfl [9,10,11] fun T67 hT67 => AL rfl tz32 fun b68 => RD hT67 12 rfl <| N1 9 <| NO rfl rfl [10,11] fun T69 hT69 => SW1 rfl ts32 rfl ?_
     refine RD hT69 12 rfl <| N1 10 <| NO rfl rfl [11] fun T70 hT70 => SW2 rfl ts32 rfl <| RD hT70 12 rfl <| N1 11 <| NO rfl rfl [] fun T71 hT71 => SW0 rfl ts32 rfl <| RD hT71 12 rfl ?_
     refine n_fin (k_then (k_sub (sub_all rfl) (fun w hs => St.sel [9, 10, 11, 1, 6, 7, 8, 2, 3, 4, 5, 0, 12, 13, 14, 15, 16, 17, 18, 19] rfl rfl hs) (hK35 ⟨(b66, a139, c140, a241, c242, a343, c344, b64, a148, c149, a250, c251, a352, c353, b68, a157, c158, a259, c260, a361, c362), trivial⟩)))
   · refine NO rfl rfl [6,7,9,10,11] fun T63 hT63 => ?_
     refine AL rfl tz32 fun b64 => RD hT63 10 rfl ?_
     refine n_step [6, 7] (by kernel_rfl) (n_cons ?_ <| n_cons ?_ <| n_nil)
     rotate_left 1
     · refine NO rfl rfl [6,9,10,11] fun T65 hT65 => ?_
       refine AL rfl tz32 fun b66 => RD hT65 11 rfl <| N1 6 <| NO rfl rfl [9,10,11] fun T67 hT67 => AL rfl tz32 fun b68 => RD hT67 12 rfl <| N1 9 <| NO rfl rfl [10,11] fun T69 hT69 => SW0 rfl ts32 rfl <| RD hT69 12 rfl ?_
       refine N1 10 <| NO rfl rfl [11] fun T70 hT70 => SW1 rfl ts32 rfl <| RD hT70 12 rfl <| N1 11 <| NO rfl rfl [] fun T71 hT71 => SW2 rfl ts32 rfl <| RD hT71 12 rfl ?_
       refine n_fin (k_then (k_sub (sub_all rfl) (fun w hs => St.sel [9, 10, 11, 0, 6, 7, 8, 1, 3, 4, 5, 2, 12, 13, 14, 15, 16, 17, 18, 19] rfl rfl hs) (hK35 ⟨(b68, a139, c140, a241, c242, a343, c344, b66, a148, c149, a250, c251, a352, c353, b64, a157, c158, a259, c260, a361, c362), trivial⟩)))
     refine NO rfl rfl [7,9,10,11] fun T65 hT65 => AL rfl tz32 fun b66 => RD hT65 11 rfl <| N1 7 <| NO rfl rfl [9,10,11] fun T67 hT67 => AL rfl tz32 fun b68 => RD hT67 12 rfl <| N1 9 <| NO rfl rfl [10,11] fun T69 hT69 => SW1 rfl ts32 rfl ?_
     refine RD hT69 12 rfl <| N1 10 <| NO rfl rfl [11] fun T70 hT70 => SW0 rfl ts32 rfl <| RD hT70 12 rfl <| N1 11 <| NO rfl rfl [] fun T71 hT71 => SW2 rfl ts32 rfl <| RD hT71 12 rfl ?_
     refine n_fin (k_then (k_sub (sub_all rfl) (fun w hs => St.sel [9, 10, 11, 1, 6, 7, 8, 0, 3, 4, 5, 2, 12, 13, 14, 15, 16, 17, 18, 19] rfl rfl hs) (hK35 ⟨(b66, a139, c140, a241, c242, a343, c344, b68, a148, c149, a250, c251, a352, c353, b64, a157, c158, a259, c260, a361, c362), trivial⟩)))
   refine NO rfl rfl [7,8,9,10,11] fun T63 hT63 => AL rfl tz32 fun b64 => RD hT63 10 rfl ?_
   refine n_step [7, 8] (by kernel_rfl) (n_cons ?_ <| n_cons ?_ <| n_nil)
   rotate_left 1
   · refine NO rfl rfl [7,9,10,11] fun T65 hT65 => ?_
     refine AL rfl tz32 fun b66 => RD hT65 11 rfl <| N1 7 <| NO rfl rfl [9,10,11] fun T67 hT67 => AL rfl tz32 fun b68 => RD hT67 12 rfl <| N1 9 <| NO rfl rfl [10,11] fun T69 hT69 => SW2 rfl ts32 rfl <| RD hT69 12 rfl ?_
     refine N1 10 <| NO rfl rfl [11] fun T70 hT70 => SW0 rfl ts32 rfl <| RD hT70 12 rfl <| N1 11 <| NO rfl rfl [] fun T71 hT71 => SW1 rfl ts32 rfl <| RD hT71 12 rfl ?_
     refine n_fin (k_then (k_sub (sub_all rfl) (fun w hs => St.sel [9, 10, 11, 2, 6, 7, 8, 0, 3, 4, 5, 1, 12, 13, 14, 15, 16, 17, 18, 19] rfl rfl hs) (hK35 ⟨(b64, a139, c140, a241, c242, a343, c344, b68, a148, c149, a250, c251, a352, c353, b66, a157, c158, a259, c260, a361, c362), trivial⟩)))
   refine NO rfl rfl [8,9,10,11] fun T65 hT65 => AL rfl tz32 fun b66 => RD hT65 11 rfl <| N1 8 <| NO rfl rfl [9,10,11] fun T67 hT67 => AL rfl tz32 fun b68 => RD hT67 12 rfl <| N1 9 <| NO rfl rfl [10,11] fun T69 hT69 => SW2 rfl ts32 rfl ?_
   refine RD hT69 12 rfl <| N1 10 <| NO rfl rfl [11] fun T70 hT70 => SW1 rfl ts32 rfl <| RD hT70 12 rfl <| N1 11 <| NO rfl rfl [] fun T71 hT71 => SW0 rfl ts32 rfl <| RD hT71 12 rfl ?_
   refine n_fin (k_then (k_sub (sub_all rfl) (fun w hs => St.sel [9, 10, 11, 2, 6, 7, 8, 1, 3, 4, 5, 0, 12, 13, 14, 15, 16, 17, 18, 19] rfl rfl hs) (hK35 ⟨(b64, a139, c140, a241, c242, a343, c344, b66, a148, c149, a250, c251, a352, c353, b68, a157, c158, a259, c260, a361, c362), trivial⟩)))
 refine NO rfl rfl [5,7,8,9,10,11] fun T54 hT54 => AL rfl tz32 fun b55 => RD hT54 7 rfl ?_
 refine n_step [5, 7, 8] (by kernel_rfl) (n_cons ?_ <| n_cons ?_ <| n_cons ?_ <| n_nil)
 rotate_left 2
 · refine NO rfl rfl [5,7,9,10,11] fun T56 hT56 => ?_
   refine AL rfl tz32 fun b57 => RD hT56 8 rfl ?_
   refine n_step [5, 7] (by kernel_rfl) (n_cons ?_ <| n_cons ?_ <| n_nil)
   rotate_left 1
   · refine NO rfl rfl [5,9,10,11] fun T58 hT58 => ?_
     refine AL rfl tz32 fun b59 => RD hT58 9 rfl <| N1 5 <| NO rfl rfl [9,10,11] fun T60 hT60 => cX (ptwin_c d kA kC pA pC nA nC (by exact hin)) (ha3 14 15 16 rfl rfl rfl rfl rfl rfl) rfl fun y61 hy62 => ?_
     obtain ⟨a163, c164, a265, c266, a367, c368⟩ := y61
     try dsimp only
     refine RD hT60 12 rfl <| N1 9 <| NO rfl rfl [10,11] fun T69 hT69 => SW5 rfl ts32 rfl <| RD hT69 12 rfl <| N1 10 <| NO rfl rfl [11] fun T70 hT70 => SW3 rfl ts32 rfl <| RD hT70 12 rfl <| N1 11 ?_
     refine NO rfl rfl [] fun T71 hT71 => SW4 rfl ts32 rfl <| RD hT71 12 rfl ?_
     refine n_fin (k_then (k_sub (sub_all rfl) (fun w hs => St.sel [9, 10, 11, 5, 6, 7, 8, 3, 0, 1, 2, 4, 12, 13, 14, 15, 16, 17, 18, 19] rfl rfl hs) (hK35 ⟨(b55, a139, c140, a241, c242, a343, c344, b59, a148, c149, a250, c251, a352, c353, b57, a163, c164, a265, c266, a367, c368), trivial⟩)))
   refine NO rfl rfl [7,9,10,11] fun T58 hT58 => cX (ptwin_c d kA kC pA pC nA nC (by exact hin)) (ha3 13 14 15 rfl rfl rfl rfl rfl rfl) rfl fun y59 hy60 => ?_
   obtain ⟨a161, c162, a263, c264, a365, c366⟩ := y59
   try dsimp only
   refine RD hT58 11 rfl <| N1 7 <| NO rfl rfl [9,10,11] fun T67 hT67 => AL rfl tz32 fun b68 => RD hT67 12 rfl <| N1 9 <| NO rfl rfl [10,11] fun T69 hT69 => SW5 rfl ts32 rfl <| RD hT69 12 rfl <| N1 10 ?_
   refine NO rfl rfl [11] fun T70 hT70 => SW0 rfl ts32 rfl <| RD hT70 12 rfl <| N1 11 <| NO rfl rfl [] fun T71 hT71 => SW4 rfl ts32 rfl <| RD hT71 12 rfl ?_
   refine n_fin (k_then (k_sub (sub_all rfl) (fun w hs => St.sel [9, 10, 11, 5, 6, 7, 8, 0, 1, 2, 3, 4, 12, 13, 14, 15, 16, 17, 18, 19] rfl rfl hs) (hK35 ⟨(b55, a139, c140, a241, c242, a343, c344, b68, a148, c149, a250, c251, a352, c353, b57, a161, c162, a263, c264, a365, c366), trivial⟩)))
 · refine NO rfl rfl [7,8,9,10,11] fun T56 hT56 => ?_
   refine cX (ptwin_c d kA kC pA pC nA nC (by exact hin)) (ha3 12 13 14 rfl rfl rfl rfl rfl rfl) rfl fun y57 hy58 => ?_
   obtain ⟨a159, c160, a261, c262, a363, c364⟩ := y57
   try dsimp only
   refine RD hT56 10 rfl ?_
   refine n_step [7, 8] (by kernel_rfl) (n_cons ?_ <| n_cons ?_ <| n_nil)
   rotate_left 1
   · refine NO rfl rfl [7,9,10,11] fun T65 hT65 => ?_
     refine AL rfl tz32 fun b66 => RD hT65 11 rfl <| N1 7 <| NO rfl rfl [9,10,11] fun T67 hT67 => AL rfl tz32 fun b68 => RD hT67 12 rfl <| N1 9 <| NO rfl rfl [10,11] fun T69 hT69 => SW5 rfl ts32 rfl <| RD hT69 12 rfl ?_
     refine N1 10 <| NO rfl rfl [11] fun T70 hT70 => SW0 rfl ts32 rfl <| RD hT70 12 rfl <| N1 11 <| NO rfl rfl [] fun T71 hT71 => SW1 rfl ts32 rfl <| RD hT71 12 rfl ?_
     refine n_fin (k_then (k_sub (sub_all rfl) (fun w hs => St.sel [9, 10, 11, 5, 6, 7, 8, 0, 2, 3, 4, 1, 12, 13, 14, 15, 16, 17, 18, 19] rfl rfl hs) (hK35 ⟨(b55, a139, c140, a241, c242, a343, c344, b68, a148, c149, a250, c251, a352, c353, b66, a159, c160, a261, c262, a363, c364), trivial⟩)))
   refine NO rfl rfl [8,9,10,11] fun T65 hT65 => AL rfl tz32 fun b66 => RD hT65 11 rfl <| N1 8 <| NO rfl rfl [9,10,11] fun T67 hT67 => AL rfl tz32 fun b68 => RD hT67 12 rfl <| N1 9 <| NO rfl rfl [10,11] fun T69 hT69 => SW5 rfl ts32 rfl ?_
   refine RD hT69 12 rfl <| N1 10 <| NO rfl rfl [11] fun T70 hT70 => SW1 rfl ts32 rfl <| RD hT70 12 rfl <| N1 11 <| NO rfl rfl [] fun T71 hT71 => SW0 rfl ts32 rfl <| RD hT71 12 rfl ?_
   refine n_fin (k_then (k_sub (sub_all rfl) (fun w hs => St.sel [9, 10, 11, 5, 6, 7, 8, 1, 2, 3, 4, 0, 12, 13, 14, 15, 16, 17, 18, 19] rfl rfl hs) (hK35 ⟨(b55, a139, c140, a241, c242, a343, c344, b66, a148, c149, a250, c251, a352, c353, b68, a159, c160, a261, c262, a363, c364), trivial⟩)))
 refine NO rfl rfl [5,8,9,10,11] fun T56 hT56 => AL rfl tz32 fun b57 => RD hT56 8 rfl ?_
 refine n_step [5, 8] (by kernel_rfl) (n_cons ?_ <| n_cons ?_ <| n_nil)
 rotate_left 1
 · refine NO rfl rfl [5,9,10,11] fun T58 hT58 => ?_
   refine AL rfl tz32 fun b59 => RD hT58 9 rfl <| N1 5 <| NO rfl rfl [9,10,11] fun T60 hT60 => cX (ptwin_c d kA kC pA pC nA nC (by exact hin)) (ha3 14 15 16 rfl rfl rfl rfl rfl rfl) rfl fun y61 hy62 => ?_
   obtain ⟨a163, c164, a265, c266, a367, c368⟩ := y61
   try dsimp only
   refine RD hT60 12 rfl <| N1 9 <| NO rfl rfl [10,11] fun T69 hT69 => SW5 rfl ts32 rfl <| RD hT69 12 rfl <| N1 10 <| NO rfl rfl [11] fun T70 hT70 => SW4 rfl ts32 rfl <| RD hT70 12 rfl <| N1 11 ?_
   refine NO rfl rfl [] fun T71 hT71 => SW3 rfl ts32 rfl <| RD hT71 12 rfl ?_
   refine n_fin (k_then (k_sub (sub_all rfl) (fun w hs => St.sel [9, 10, 11, 5, 6, 7, 8, 4, 0, 1, 2, 3, 12, 13, 14, 15, 16, 17, 18, 19] rfl rfl hs) (hK35 ⟨(b55, a139, c140, a241, c242, a343, c344, b57, a148, c149, a250, c251, a352, c353, b59, a163, c164, a265, c266, a367, c368), trivial⟩)))
 refine NO rfl rfl [8,9,10,11] fun T58 hT58 => cX (ptwin_c d kA kC pA pC nA nC (by exact hin)) (ha3 13 14 15 rfl rfl rfl rfl rfl rfl) rfl fun y59 hy60 => ?_
 obtain ⟨a161, c162, a263, c264, a365, c366⟩ := y59
 try dsimp only
 refine RD hT58 11 rfl <| N1 8 <| NO rfl rfl [9,10,11] fun T67 hT67 => AL rfl tz32 fun b68 => RD hT67 12 rfl <| N1 9 <| NO rfl rfl [10,11] fun T69 hT69 => SW5 rfl ts32 rfl <| RD hT69 12 rfl <| N1 10 ?_
 refine NO rfl rfl [11] fun T70 hT70 => SW4 rfl ts32 rfl <| RD hT70 12 rfl <| N1 11 <| NO rfl rfl [] fun T71 hT71 => SW0 rfl ts32 rfl <| RD hT71 12 rfl ?_
 refine n_fin (k_then (k_sub (sub_all rfl) (fun w hs => St.sel [9, 10, 11, 5, 6, 7, 8, 4, 1, 2, 3, 0, 12, 13, 14, 15, 16, 17, 18, 19] rfl rfl hs) (hK35 ⟨(b55, a139, c140, a241, c242, a343, c344, b57, a148, c149, a250, c251, a352, c353, b68, a161, c162, a263, c264, a365, c366), trivial⟩)))
end
section
open Go.RowKit
set_option linter.unusedVariables false
def ReadsAs {α : Type} (cells : α → List Value) (sz : Nat) (R : World → α → Prop) (w : World) (s : Slc) : Prop := ∃ l : List α, s.n = l.length ∧ (rd s.a l.length sz (l.map cells)).holds w ∧ (∀ x ∈ l, R w x) ∧ l.length ≤ maxLen ∧ s.n ≤ s.c
theorem open_guard {w : World} {s : GuardV} {R1 : World → StretchV → Prop} {R2 : World → PostV → Prop} {R3 : World → NeedV → Prop} (h1 : ReadsAs StretchV.cells 9 R1 w s.Track.Stretches) (hs : ∀ x, R1 w x → 0 ≤ x.Side ∧ x.Side ≤ 255) (h2 : ReadsAs PostV.cells 7 R2 w s.Posts) (hp : ∀ x, R2 w x → 0 ≤ x.Kind ∧ x.Kind ≤ 255) (h3 : ReadsAs NeedV.cells 3 R3 w s.Needs) (hn : ∀ x, R3 w x → 0 ≤ x.Kind ∧ x.Kind ≤ 255) :
    ∃ (d : GuardM) (kA : Option Addr) (kC : Nat) (pA : Option Addr) (pC : Nat) (nA : Option Addr) (nC : Nat), s = GuardV.mk (TrackV.mk (Slc.mk kA d.Track.length kC)) (Slc.mk pA d.Posts.length pC) (Slc.mk nA d.Needs.length nC) d.Tower d.Radio ∧ GuardRaw d ∧
      ((rd kA d.Track.length 9 (d.Track.map StretchV.cells)).holds w ∧ (rd pA d.Posts.length 7 (d.Posts.map PostV.cells)).holds w ∧ (rd nA d.Needs.length 3 (d.Needs.map NeedV.cells)).holds w) ∧ d.Tower = s.Tower ∧ d.Radio = s.Radio := by
  obtain ⟨⟨⟨ka, kn, kc⟩⟩, ⟨pa, pn, pc⟩, ⟨na, nn, nc⟩, tw, ra⟩ := s
  obtain ⟨ts, t1, t2, t3, t4, t5⟩ := h1
  obtain ⟨ps, p1, p2, p3, p4, p5⟩ := h2
  obtain ⟨ns, n1, n2, n3, n4, n5⟩ := h3
  simp only at t1 p1 n1
  subst t1 p1 n1
  exact ⟨⟨ts, ps, ns, tw, ra⟩, ka, kc, pa, pc, na, nc, rfl, ⟨t4, fun x hx => hs x (t3 x hx), p4, fun x hx => hp x (p3 x hx), n4, fun x hx => hn x (n3 x hx)⟩, ⟨t2, p2, n2⟩, rfl, rfl⟩
end
section
open Go.ChangeShapes Go.WideShapes Go.ChangeAt Go.RowKit
set_option linter.unusedVariables false
theorem cz32 : Try.prog.cellsOf 32 = 7 := by kernel_rfl
theorem cz24 : Try.prog.cellsOf 24 = 1 := by kernel_rfl
theorem cz22 : Try.prog.cellsOf 22 = 1 := by kernel_rfl
theorem cz110 : Try.prog.cellsOf 110 = 9 := by kernel_rfl
theorem cz3 : Try.prog.cellsOf 3 = 1 := by kernel_rfl
def Is3 (w : World) (n : Int) : Prop := In64 n
theorem op3 : OpR Try.prog 3 Int iC Is3 := op_i64 ut3
theorem cz28 : Try.prog.cellsOf 28 = 2 := by kernel_rfl
structure Is28 (w : World) (s : SpanV) : Prop where
  Lo : Is3 w s.Lo
  Hi : Is3 w s.Hi
theorem fx28 : fL Try.prog 28 = some [(3, 0), (3, 1)] := by kernel_rfl
theorem op28 : OpR Try.prog 28 SpanV SpanV.cells Is28 := fun {H} enc w base sp held fuel cs x h => by
  obtain ⟨hl, hp⟩ := op_parts fx28 h
  obtain ⟨n0, y0, h0⟩ := hp 0 3 0 rfl
  obtain ⟨s0, c0, r0⟩ := op3 _ _ _ _ _ _ _ _ h0
  obtain ⟨n1, y1, h1⟩ := hp 1 3 1 rfl
  obtain ⟨s1, c1, r1⟩ := op3 _ _ _ _ _ _ _ _ h1
  refine ⟨⟨s0, s1⟩, ?_, ⟨r0, r1⟩⟩
  have e1 := parts_last (hl.trans cz28) (by rw [cz3]) c1
  have e0 := parts_cons c0 (m := 1) (by rw [cz3]) e1
  exact e0
theorem cz5 : Try.prog.cellsOf 5 = 1 := by kernel_rfl
def Is5 (w : World) (n : Int) : Prop := 0 ≤ n ∧ n ≤ 255
theorem op5 : OpR Try.prog 5 Int iC_u8 Is5 := op_u8 ut5
structure Is110 (w : World) (s : StretchV) : Prop where
  Id : Is3 w s.Id
  Long : Is28 w s.Long
  Fall : Is28 w s.Fall
  Radius : Is28 w s.Radius
  Side : Is5 w s.Side
  Wall : Is3 w s.Wall
theorem fx110 : fL Try.prog 110 = some [(3, 0), (28, 1), (28, 3), (28, 5), (5, 7), (3, 8)] := by kernel_rfl
theorem op110 : OpR Try.prog 110 StretchV StretchV.cells Is110 := fun {H} enc w base sp held fuel cs x h => by
  obtain ⟨hl, hp⟩ := op_parts fx110 h
  obtain ⟨n0, y0, h0⟩ := hp 0 3 0 rfl
  obtain ⟨s0, c0, r0⟩ := op3 _ _ _ _ _ _ _ _ h0
  obtain ⟨n1, y1, h1⟩ := hp 1 28 1 rfl
  obtain ⟨s1, c1, r1⟩ := op28 _ _ _ _ _ _ _ _ h1
  obtain ⟨n2, y2, h2⟩ := hp 2 28 3 rfl
  obtain ⟨s2, c2, r2⟩ := op28 _ _ _ _ _ _ _ _ h2
  obtain ⟨n3, y3, h3⟩ := hp 3 28 5 rfl
  obtain ⟨s3, c3, r3⟩ := op28 _ _ _ _ _ _ _ _ h3
  obtain ⟨n4, y4, h4⟩ := hp 4 5 7 rfl
  obtain ⟨s4, c4, r4⟩ := op5 _ _ _ _ _ _ _ _ h4
  obtain ⟨n5, y5, h5⟩ := hp 5 3 8 rfl
  obtain ⟨s5, c5, r5⟩ := op3 _ _ _ _ _ _ _ _ h5
  refine ⟨⟨s0, s1, s2, s3, s4, s5⟩, ?_, ⟨r0, r1, r2, r3, r4, r5⟩⟩
  have e5 := parts_last (hl.trans cz110) (by rw [cz3]) c5
  have e4 := parts_cons c4 (m := 8) (by rw [cz5]) e5
  have e3 := parts_cons c3 (m := 7) (by rw [cz28]) e4
  have e2 := parts_cons c2 (m := 5) (by rw [cz28]) e3
  have e1 := parts_cons c1 (m := 3) (by rw [cz28]) e2
  have e0 := parts_cons c0 (m := 1) (by rw [cz3]) e1
  exact e0
def Is22 (w : World) (s : Slc) : Prop := ∃ l : List StretchV, s.n = l.length ∧ (rd s.a l.length 9 (l.map StretchV.cells)).holds w ∧ (∀ x ∈ l, Is110 w x) ∧ l.length ≤ maxLen ∧ s.n ≤ s.c
theorem op22 : OpR Try.prog 22 Slc (fun s => [Value.slice s.a s.n s.c]) Is22 := op_slice ut22 cz110 op110
structure Is24 (w : World) (s : TrackV) : Prop where
  Stretches : Is22 w s.Stretches
theorem fx24 : fL Try.prog 24 = some [(22, 0)] := by kernel_rfl
theorem op24 : OpR Try.prog 24 TrackV TrackV.cells Is24 := fun {H} enc w base sp held fuel cs x h => by
  obtain ⟨hl, hp⟩ := op_parts fx24 h
  obtain ⟨n0, y0, h0⟩ := hp 0 22 0 rfl
  obtain ⟨s0, c0, r0⟩ := op22 _ _ _ _ _ _ _ _ h0
  refine ⟨⟨s0⟩, ?_, ⟨r0⟩⟩
  have e0 := parts_last (hl.trans cz24) (by rw [cz22]) c0
  exact e0
theorem cz25 : Try.prog.cellsOf 25 = 1 := by kernel_rfl
theorem cz62 : Try.prog.cellsOf 62 = 7 := by kernel_rfl
theorem cz30 : Try.prog.cellsOf 30 = 3 := by kernel_rfl
structure Is30 (w : World) (s : SpotV) : Prop where
  Stretch : Is3 w s.Stretch
  Off : Is28 w s.Off
theorem fx30 : fL Try.prog 30 = some [(3, 0), (28, 1)] := by kernel_rfl
theorem op30 : OpR Try.prog 30 SpotV SpotV.cells Is30 := fun {H} enc w base sp held fuel cs x h => by
  obtain ⟨hl, hp⟩ := op_parts fx30 h
  obtain ⟨n0, y0, h0⟩ := hp 0 3 0 rfl
  obtain ⟨s0, c0, r0⟩ := op3 _ _ _ _ _ _ _ _ h0
  obtain ⟨n1, y1, h1⟩ := hp 1 28 1 rfl
  obtain ⟨s1, c1, r1⟩ := op28 _ _ _ _ _ _ _ _ h1
  refine ⟨⟨s0, s1⟩, ?_, ⟨r0, r1⟩⟩
  have e1 := parts_last (hl.trans cz30) (by rw [cz28]) c1
  have e0 := parts_cons c0 (m := 1) (by rw [cz3]) e1
  exact e0
structure Is62 (w : World) (s : PostV) : Prop where
  Id : Is3 w s.Id
  Kind : Is5 w s.Kind
  Spot : Is30 w s.Spot
  Delay : Is3 w s.Delay
  Pace : Is3 w s.Pace
theorem fx62 : fL Try.prog 62 = some [(3, 0), (5, 1), (30, 2), (3, 5), (3, 6)] := by kernel_rfl
theorem op62 : OpR Try.prog 62 PostV PostV.cells Is62 := fun {H} enc w base sp held fuel cs x h => by
  obtain ⟨hl, hp⟩ := op_parts fx62 h
  obtain ⟨n0, y0, h0⟩ := hp 0 3 0 rfl
  obtain ⟨s0, c0, r0⟩ := op3 _ _ _ _ _ _ _ _ h0
  obtain ⟨n1, y1, h1⟩ := hp 1 5 1 rfl
  obtain ⟨s1, c1, r1⟩ := op5 _ _ _ _ _ _ _ _ h1
  obtain ⟨n2, y2, h2⟩ := hp 2 30 2 rfl
  obtain ⟨s2, c2, r2⟩ := op30 _ _ _ _ _ _ _ _ h2
  obtain ⟨n3, y3, h3⟩ := hp 3 3 5 rfl
  obtain ⟨s3, c3, r3⟩ := op3 _ _ _ _ _ _ _ _ h3
  obtain ⟨n4, y4, h4⟩ := hp 4 3 6 rfl
  obtain ⟨s4, c4, r4⟩ := op3 _ _ _ _ _ _ _ _ h4
  refine ⟨⟨s0, s1, s2, s3, s4⟩, ?_, ⟨r0, r1, r2, r3, r4⟩⟩
  have e4 := parts_last (hl.trans cz62) (by rw [cz3]) c4
  have e3 := parts_cons c3 (m := 6) (by rw [cz3]) e4
  have e2 := parts_cons c2 (m := 5) (by rw [cz30]) e3
  have e1 := parts_cons c1 (m := 2) (by rw [cz5]) e2
  have e0 := parts_cons c0 (m := 1) (by rw [cz3]) e1
  exact e0
def Is25 (w : World) (s : Slc) : Prop := ∃ l : List PostV, s.n = l.length ∧ (rd s.a l.length 7 (l.map PostV.cells)).holds w ∧ (∀ x ∈ l, Is62 w x) ∧ l.length ≤ maxLen ∧ s.n ≤ s.c
theorem op25 : OpR Try.prog 25 Slc (fun s => [Value.slice s.a s.n s.c]) Is25 := op_slice ut25 cz62 op62
theorem cz26 : Try.prog.cellsOf 26 = 1 := by kernel_rfl
theorem cz57 : Try.prog.cellsOf 57 = 3 := by kernel_rfl
structure Is57 (w : World) (s : NeedV) : Prop where
  Stretch : Is3 w s.Stretch
  Kind : Is5 w s.Kind
  Seconds : Is3 w s.Seconds
theorem fx57 : fL Try.prog 57 = some [(3, 0), (5, 1), (3, 2)] := by kernel_rfl
theorem op57 : OpR Try.prog 57 NeedV NeedV.cells Is57 := fun {H} enc w base sp held fuel cs x h => by
  obtain ⟨hl, hp⟩ := op_parts fx57 h
  obtain ⟨n0, y0, h0⟩ := hp 0 3 0 rfl
  obtain ⟨s0, c0, r0⟩ := op3 _ _ _ _ _ _ _ _ h0
  obtain ⟨n1, y1, h1⟩ := hp 1 5 1 rfl
  obtain ⟨s1, c1, r1⟩ := op5 _ _ _ _ _ _ _ _ h1
  obtain ⟨n2, y2, h2⟩ := hp 2 3 2 rfl
  obtain ⟨s2, c2, r2⟩ := op3 _ _ _ _ _ _ _ _ h2
  refine ⟨⟨s0, s1, s2⟩, ?_, ⟨r0, r1, r2⟩⟩
  have e2 := parts_last (hl.trans cz57) (by rw [cz3]) c2
  have e1 := parts_cons c1 (m := 2) (by rw [cz5]) e2
  have e0 := parts_cons c0 (m := 1) (by rw [cz3]) e1
  exact e0
def Is26 (w : World) (s : Slc) : Prop := ∃ l : List NeedV, s.n = l.length ∧ (rd s.a l.length 3 (l.map NeedV.cells)).holds w ∧ (∀ x ∈ l, Is57 w x) ∧ l.length ≤ maxLen ∧ s.n ≤ s.c
theorem op26 : OpR Try.prog 26 Slc (fun s => [Value.slice s.a s.n s.c]) Is26 := op_slice ut26 cz57 op57
structure Is32 (w : World) (s : GuardV) : Prop where
  Track : Is24 w s.Track
  Posts : Is25 w s.Posts
  Needs : Is26 w s.Needs
  Tower : Is30 w s.Tower
  Radio : Is3 w s.Radio
theorem fx32 : fL Try.prog 32 = some [(24, 0), (25, 1), (26, 2), (30, 3), (3, 6)] := by kernel_rfl
theorem op32 : OpR Try.prog 32 GuardV GuardV.cells Is32 := fun {H} enc w base sp held fuel cs x h => by
  obtain ⟨hl, hp⟩ := op_parts fx32 h
  obtain ⟨n0, y0, h0⟩ := hp 0 24 0 rfl
  obtain ⟨s0, c0, r0⟩ := op24 _ _ _ _ _ _ _ _ h0
  obtain ⟨n1, y1, h1⟩ := hp 1 25 1 rfl
  obtain ⟨s1, c1, r1⟩ := op25 _ _ _ _ _ _ _ _ h1
  obtain ⟨n2, y2, h2⟩ := hp 2 26 2 rfl
  obtain ⟨s2, c2, r2⟩ := op26 _ _ _ _ _ _ _ _ h2
  obtain ⟨n3, y3, h3⟩ := hp 3 30 3 rfl
  obtain ⟨s3, c3, r3⟩ := op30 _ _ _ _ _ _ _ _ h3
  obtain ⟨n4, y4, h4⟩ := hp 4 3 6 rfl
  obtain ⟨s4, c4, r4⟩ := op3 _ _ _ _ _ _ _ _ h4
  refine ⟨⟨s0, s1, s2, s3, s4⟩, ?_, ⟨r0, r1, r2, r3, r4⟩⟩
  have e4 := parts_last (hl.trans cz32) (by rw [cz3]) c4
  have e3 := parts_cons c3 (m := 6) (by rw [cz30]) e4
  have e2 := parts_cons c2 (m := 3) (by rw [cz26]) e3
  have e1 := parts_cons c1 (m := 2) (by rw [cz25]) e2
  have e0 := parts_cons c0 (m := 1) (by rw [cz24]) e1
  exact e0
theorem own_postMore : ownKnob Try.prog.godebug = none := by kernel_rfl
theorem laid_postMore : laidOutB Try.prog = true := by kernel_rfl
set_option maxRecDepth 100000 in
theorem postMore_lifted (os : Os) (started : os.Started) (H : Type) (enc : TypeId × Value → H) :
    ReturnsInHanded {} Try.checked os 11 .any (Rows.postMoreSpec.pre6 enc Try.prog Try.f11 Rows.postMoreRow.domain false) (Rows.postMoreSpec.post enc Try.prog Try.f11 false true false false) := by
  refine returnsInHanded_of_change (C := Try.checked) own_postMore started (by kernel_rfl) Try.func11
    (ChangeSpec.witness6 (enc := enc) (C := Try.checked) false ⟨#[], #[.agg #[(Value.slice none 0 0), (Value.slice none 0 0), (Value.slice none 0 0), (Value.int .i64 0), (Value.int .i64 0), (Value.int .i64 0), (Value.int .i64 0)], .agg #[(Value.int .i64 0), (Value.int .u8 0), (Value.int .i64 0), (Value.int .i64 0), (Value.int .i64 0), (Value.int .i64 0), (Value.int .i64 0)], Value.int .u8 0, Value.int .u16 0, Value.int .u8 0], []⟩ 8 (by kernel_rfl) (by kernel_rfl) (by kernel_rfl) (by kernel_rfl)) ?_
  intro W base args ds gs before hval0 hW hcnd _
  have hval : ∀ (j : Nat) t v, Try.f11.params[j]? = some t → args[j]? = some v → Value.okWide Try.prog W .any base t v := hval0
  have hW' := hW
  obtain ⟨p, q, hA0, hV, rfl, hfz, hnd⟩ := hW
  have hA : DataW.TrodAll enc Try.prog W 0 (fun _ => true) true Try.f11.params.toList args.toList ds p := hA0
  have hA1 := hA
  rw [Try.params11] at hA hval
  obtain ⟨v0, vs0, d0, ds0, p0, q0, hargs, rfl, rfl, h0, r0⟩ := trodAll_cons hA
  obtain ⟨v1, vs1, d1, ds1, p1, q1, rfl, rfl, rfl, h1, r1⟩ := trodAll_cons r0
  obtain ⟨v2, vs2, d2, ds2, p2, q2, rfl, rfl, rfl, h2, r2⟩ := trodAll_cons r1
  obtain ⟨v3, vs3, d3, ds3, p3, q3, rfl, rfl, rfl, h3, r3⟩ := trodAll_cons r2
  obtain ⟨v4, vs4, d4, ds4, p4, q4, rfl, rfl, rfl, h4, r4⟩ := trodAll_cons r3
  obtain ⟨rfl, rfl, rfl⟩ := trodAll_nil r4
  obtain rfl : args = #[v0, v1, v2, v3, v4] := by cases args; simp_all
  obtain ⟨rfl, rfl⟩ := trodVars_none hV
  obtain ⟨s0, rfl, R0⟩ := arg_struct fx32 op32 (hval 0 32 v0 rfl rfl) h0
  obtain ⟨s1, rfl, R1⟩ := arg_struct fx62 op62 (hval 1 62 v1 rfl rfl) h1
  obtain ⟨s2, rfl, R2⟩ := arg_int (k := .u8) ut5 (hval 2 5 v2 rfl rfl) h2
  obtain ⟨s3, rfl, R3⟩ := arg_int (k := .u16) ut75 (hval 3 75 v3 rfl rfl) h3
  obtain ⟨s4, rfl, R4⟩ := arg_int (k := .u8) ut5 (hval 4 5 v4 rfl rfl) h4
  simp only [List.append_nil] at hW' hA1
  obtain ⟨d, kA, kC, pA, pC, nA, nC, rfl, hraw, hg3, _⟩ := open_guard (R1 := Is110) (R2 := Is62) (R3 := Is57) R0.Track.Stretches (fun x hx => hx.Side) R0.Posts (fun x hx => hx.Kind) R0.Needs (fun x hx => hx.Kind)
  have hb8 : 0 ≤ s4 ∧ s4 ≤ 255 := R4
  obtain ⟨bn, rfl⟩ : ∃ bn : Nat, s4 = (bn : Int) := ⟨s4.toNat, by omega⟩
  have hrun := (postMore_c d kA kC pA pC nA nC s1 s2 s3 bn hraw (by omega) R1.Kind R2 R3).run W (by intro A hA; simp only [List.mem_cons, List.not_mem_nil, or_false] at hA; rcases hA with rfl | rfl | rfl; exact hg3.1; exact hg3.2.1; exact hg3.2.2)
  refine (hrun).mono fun e W' ⟨he, hk⟩ => ?_
  subst he
  exact ⟨_, rfl, law_post laid_postMore hW' hA1 rfl rfl (by kernel_rfl) hk.below (by kernel_rfl) ut4⟩
/-- the statement -/
theorem postMore_said : Rows.PostMoreSaid :=
  OpenClaim.holds_of_wide 11 Try.f11 rfl rfl rfl rfl rfl rfl rfl ⟨rfl, rfl, rfl, rfl, rfl⟩ rfl rfl rfl rfl rfl (by kernel_rfl) Try.func11 (by kernel_rfl)
    (of_decide_eq_true (by kernel_rfl)) (by unfold Func.isWrapper; first | (rw [if_pos (by decide +kernel)]; kernel_rfl) | (rw [if_neg (by decide +kernel)]; exact ⟨rfl, rfl⟩))
    (fun os started H enc _ => postMore_lifted os started H enc)
#print axioms postMore_said
end
end Go.Proofs.Ytlncplfcbmcjgaa
