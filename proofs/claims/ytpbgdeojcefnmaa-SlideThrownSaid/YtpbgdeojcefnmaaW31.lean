/-
  Walks: kreisel/kreisellaw03.SlideThrown
-/
import Derived.Test.YtpbgdeojcefnmaaTab
import Derived.Test.YtpbgdeojcefnmaaShort
import Derived.Test.YtpbgdeojcefnmaaThr
import Derived.Test.YtpbgdeojcefnmaaMono
import Derived.Test.YtpbgdeojcefnmaaSafe
import Derived.Test.YtpbgdeojcefnmaaAlive
import Derived.Test.YtpbgdeojcefnmaaWithin
import Derived.Test.YtpbgdeojcefnmaaShut
import Derived.Test.YtpbgdeojcefnmaaStart
import Derived.Test.YtpbgdeojcefnmaaWalls
import Derived.Test.YtpbgdeojcefnmaaEnds
import Derived.Test.YtpbgdeojcefnmaaThrown
import Derived.Test.YtpbgdeojcefnmaaW16
import Derived.Test.YtpbgdeojcefnmaaW17
import Derived.Test.YtpbgdeojcefnmaaW22
import Derived.Test.YtpbgdeojcefnmaaW24
import Derived.Test.YtpbgdeojcefnmaaW29
namespace Go.Proofs.Ytpbgdeojcefnmaa
open Go.RowKit
set_option linter.unusedVariables false

set_option maxRecDepth 100000 in
set_option maxHeartbeats 400000 in
theorem slideThrown_c (ts : List StretchV) (tsA : Option Addr) (tsC : Nat) (s : SledV) (bl : List Int) (blA : Option Addr) (blC : Nat) (hside : ∀ x ∈ ts, 0 ≤ x.Side ∧ x.Side ≤ 255) (hc : 0 ≤ s.Class ∧ s.Class ≤ 255) (hbl : ∀ z ∈ bl, 0 ≤ z ∧ z ≤ 4294967295) :
    FnV Try.prog 7 [(Value.agg (TrackV.cells (TrackV.mk (Slc.mk tsA ts.length tsC))).toArray), (Value.agg (SledV.cells s).toArray), (Value.slice blA bl.length blC)] [(rd tsA ts.length 9 (ts.map StretchV.cells)), (rd blA bl.length 1 (bl.map iC_u32))] (Value.bool true) := by
 refine fnV_of go7 Try.func7 rfl rfl fun w0 Q hQ hN => ?_
 change WJ _ _ _ _ [(0, (Value.agg (TrackV.cells (TrackV.mk (Slc.mk tsA ts.length tsC))).toArray)), (1, (Value.agg (SledV.cells s).toArray)), (2, (Value.slice blA bl.length blC))] [(rd tsA ts.length 9 (ts.map StretchV.cells)).ro, (rd blA bl.length 1 (bl.map iC_u32)).ro]
 refine WS fun _ hK1 => ?_
 refine BXA rfl fun b2 => ?_
 refine BXA rfl fun b3 => ?_
 refine rS (AG rfl) ?_
 refine RK hK1 ?_
 refine WS fun _ hK4 => ?_
 refine rS (CL alive_c (ha_nil) rfl) ?_
 refine rS (AG rfl) ?_
 refine RK hK4 ?_
 refine w_seq fun _ hK5 => ?_
 refine WS fun _ hK6 => ?_
 refine rS (LW 1 rfl tk24 rfl rfl) ?_
 refine rS (LW 0 rfl tk28 rfl rfl) ?_
 refine rS (CL (ready_c ts tsA tsC s hc) (ha_at 2 rfl rfl <| ha_nil) rfl) ?_
 refine rS (NT rfl) ?_
 refine rS (MV rfl) ?_
 refine r_bool (t := 32) rfl (fun hrd => ?_) (fun hrd => ?_)
 · replace hrd := XT hrd
   refine rS (OX rfl) ?_
   refine rS (OX rfl) ?_
   refine rS (PK rfl) ?_
   refine RK hK6 ?_
   refine w_if_true rfl ?_
   refine WS fun _ hK7 => ?_
   refine rS (MV rfl) ?_
   refine rS (AG rfl) ?_
   refine RK hK7 ?_
   refine w_ret ?_
   refine Q1 hQ rfl rfl rfl ?_
   first | rfl | (simp; done) | (simp; omega)
 replace hrd := XF hrd
 refine rS (MV rfl) ?_
 refine rS (NT rfl) ?_
 refine rS (PK rfl) ?_
 refine RK hK6 ?_
 refine w_if_false rfl ?_
 refine WK hK5 ?_
 refine WS fun _ hK8 => ?_
 obtain ⟨hgr, htr, hs⟩ := hrd
 have hb0 := bothE_ok htr hs
 have hst := trackOk_all htr
 have hl12 := trackOk_le htr
 obtain ⟨l1, l2, l3, l4⟩ := thrown_told (bl := bl) hs hst hb0
 have sb := safeF_b (s := s) (ts := ts)
 have htl := tHeads_len (bl := bl) (s := s) (ts := ts) (n := ts.length)
 have hgl := tHgts_len (bl := bl) (s := s) (ts := ts) (n := ts.length)
 have hth := limT_ok (best := true) htr
 have hsh := limS_ok (best := true) hs
 have hbh := bothE_ok hth hsh
 refine rS (LW 1 rfl tk24 rfl rfl) ?_
 refine rS (LW 0 rfl tk28 rfl rfl) ?_
 refine rS (CL (safe_c ts tsA tsC s (by first | assumption | omega | (simp; done) | (simp; omega)) hside) (ha_at 2 rfl rfl <| ha_nil) rfl) ?_
 rw [hb0]
 rw [safeV_ok hb0]
 refine rS (MV rfl) ?_
 refine rS (EX rfl) ?_
 refine rS (EX rfl) ?_
 refine rS (AG rfl) ?_
 refine rS (AG rfl) ?_
 refine RK hK8 ?_
 refine WS fun _ hK9 => ?_
 refine rS (LW 1 rfl tk24 rfl rfl) ?_
 refine rS (LW 0 rfl tk28 rfl rfl) ?_
 refine rS (CL (names_c ts tsA tsC s (by first | assumption | omega | (simp; done) | (simp; omega)) hside) (ha_at 2 rfl rfl <| ha_nil) rfl) ?_
 refine rS (MV rfl) ?_
 refine rS (EX rfl) ?_
 refine rS (EX rfl) ?_
 refine rS (EX rfl) ?_
 refine rS (AG rfl) ?_
 refine rS (AG rfl) ?_
 refine rS (AG rfl) ?_
 refine RK hK9 ?_
 refine WS fun _ hK10 => ?_
 refine rS (LW 1 rfl tk24 rfl rfl) ?_
 refine rS (LW 0 rfl tk28 rfl rfl) ?_
 refine rS (MV rfl) ?_
 refine cX (truth_c ts tsA tsC s bl blA blC (by first | assumption | omega | (simp; done) | (simp; omega)) (by first | assumption | omega | (simp; done) | (simp; omega)) (by first | assumption | omega | (simp; done) | (simp; omega)) hbl hside) (ha_at 2 rfl rfl <| ha_at 3 rfl rfl <| ha_nil) rfl fun y11 hy12 => ?_
 obtain ⟨a13, c14, a215, c216⟩ := y11
 change RJ _ _ _ _ _ ((_, (Value.tuple [(Value.slice a13 ((tHeads bl s ts ts.length).length) c14), (Value.slice a215 ((tHgts bl s ts ts.length).length) c216)].toArray)) :: _) ((own a13 c14 3 1 ((tHeads bl s ts ts.length).map iC)) :: (own a215 c216 3 1 ((tHgts bl s ts ts.length).map iC)) :: _)
 refine rS (MV rfl) ?_
 refine rS (EX rfl) ?_
 refine rS (EX rfl) ?_
 refine rS (AG rfl) ?_
 refine rS (AG rfl) ?_
 refine RK hK10 ?_
 refine WS fun _ hK17 => ?_
 refine rS (AG rfl) ?_
 refine RK hK17 ?_
 refine w_seq fun _ hK18 => ?_
 refine WS fun _ hK19 => ?_
 refine rS (MV rfl) ?_
 refine rS (LN rfl ut61) ?_
 refine rS (BI rfl (b_sub ⟨by omega, by omega⟩)) ?_
 refine rS (AG rfl) ?_
 refine RK hK19 ?_
 refine w_block ?_
 have hinit : (ts.length ≤ ts.length) := by exact Nat.le_refl _
 have hb20 : (Value.int .i64 (thrF bl s ts ts.length)) = (Value.int .i64 (-1)) := by exact congrArg (Value.int .i64) thrF_start
 have hb21 : (Value.int .i64 (((ts.length : Nat) : Int) - 1)) = (Value.int .i64 ((((tHgts bl s ts ts.length).length : Nat) : Int) - 1)) := by exact congrArg (Value.int .i64) (by omega)
 refine w_loop (ι := { z : Nat // (z ≤ ts.length) }) (fun z => [(3, (Value.pointer (some ⟨b2, 0, none⟩))), (4, (Value.pointer (some ⟨b3, 0, none⟩))), (7, (Value.bool true)), (8, (Value.int .u8 (safeF s ts))), (9, (Value.int .i64 0)), (10, (Value.int .i64 (namesC s ts))), (11, (Value.int .i64 (namesV s ts))), (12, (Value.int .i64 (namesE s ts))), (13, (Value.slice a13 ((tHeads bl s ts ts.length).length) c14)), (14, (Value.slice a215 ((tHgts bl s ts ts.length).length) c216)), (15, (Value.int .i64 (thrF bl s ts z.1))), (16, (Value.int .i64 (((z.1 : Nat) : Int) - 1)))]) (fun z => [(own a13 c14 3 1 ((tHeads bl s ts ts.length).map iC)), (own a215 c216 3 1 ((tHgts bl s ts ts.length).map iC)), (blk b3 28 (SledV.cells s)), (blk b2 24 (TrackV.cells (TrackV.mk (Slc.mk tsA ts.length tsC)))), (rd tsA ts.length 9 (ts.map StretchV.cells)).ro, (rd blA bl.length 1 (bl.map iC_u32)).ro]) (fun z => z.1) ⟨ts.length, hinit⟩ (Sub.cons rfl <| Sub.cons rfl <| Sub.cons rfl <| Sub.cons rfl <| Sub.cons rfl <| Sub.cons rfl <| Sub.cons rfl <| Sub.cons rfl <| Sub.cons rfl <| Sub.cons rfl <| sub_val rfl hb20 <| sub_val rfl hb21 <| Sub.nil _) (fun w hs => St.sel [0, 1, 2, 3, 4, 5] rfl rfl hs) ?_
 clear hinit
 rintro ⟨k, hl9_0⟩ J22 hJ22
 change WJ _ _ _ _ [(3, (Value.pointer (some ⟨b2, 0, none⟩))), (4, (Value.pointer (some ⟨b3, 0, none⟩))), (7, (Value.bool true)), (8, (Value.int .u8 (safeF s ts))), (9, (Value.int .i64 0)), (10, (Value.int .i64 (namesC s ts))), (11, (Value.int .i64 (namesV s ts))), (12, (Value.int .i64 (namesE s ts))), (13, (Value.slice a13 ((tHeads bl s ts ts.length).length) c14)), (14, (Value.slice a215 ((tHgts bl s ts ts.length).length) c216)), (15, (Value.int .i64 (thrF bl s ts k))), (16, (Value.int .i64 (((k : Nat) : Int) - 1)))] [(own a13 c14 3 1 ((tHeads bl s ts ts.length).map iC)), (own a215 c216 3 1 ((tHgts bl s ts ts.length).map iC)), (blk b3 28 (SledV.cells s)), (blk b2 24 (TrackV.cells (TrackV.mk (Slc.mk tsA ts.length tsC)))), (rd tsA ts.length 9 (ts.map StretchV.cells)).ro, (rd blA bl.length 1 (bl.map iC_u32)).ro]
 refine w_seq fun _ hK23 => ?_
 refine WS fun _ hK24 => ?_
 refine rS (MV rfl) ?_
 refine rS (BI rfl b_geq) ?_
 refine RK hK24 ?_
 refine w_if rfl (fun h25 => ?_) (fun h25 => ?_)
 · replace h25 := DT h25
   refine WK hK23 ?_
   refine w_seq fun _ hK26 => ?_
   refine w_block ?_
   refine w_seq fun _ hK27 => ?_
   refine w_draw mixed 20 (by kernel_rfl) ?_
   refine dS (FA 0 rfl fo24_0 rfl) ?_
   refine dS (L1 (Value.slice tsA ts.length tsC) 3 rfl tk22 rfl rfl) ?_
   refine dS (MV rfl) ?_
   obtain ⟨x, hx⟩ : ∃ y_, ts[(k - 1)]? = some y_ := ⟨ts[(k - 1)]'(by omega), List.getElem?_eq_getElem _⟩
   have hxm : (ts.map StretchV.cells)[(k - 1)]? = some (StretchV.cells x) := by rw [List.getElem?_map, hx]; rfl
   refine dS (IA (k - 1) rfl (has_at 4 rfl) te22 (by decide) (by omega) (by omega)) ?_
   refine dS (FAR (((k - 1) * 9) + 7) rfl (has_at 4 rfl) (Nat.mul_pos (by omega) (by decide)) fo77_4 rfl) ?_
   have hsd := hside x (List.mem_of_getElem? hx)
   refine dS (LE1 (k - 1) 7 (Value.int .u8 x.Side) rfl tk5 (has_at 4 rfl) hxm rfl (by decide) rfl) ?_
   refine dS (BI rfl b_neq) ?_
   refine dS (MV rfl) ?_
   refine d_bool (t := 71) rfl (fun hs71 => ?_) (fun hs71 => ?_)
   rotate_left 1
   · replace hs71 := XF hs71
     refine dS (OX rfl) ?_
     refine dS (OX rfl) ?_
     refine dS (OX rfl) ?_
     refine dS (OX rfl) ?_
     refine dS (OX rfl) ?_
     refine dS (OX rfl) ?_
     refine dS (OX rfl) ?_
     refine dS (OX rfl) ?_
     refine dS (OX rfl) ?_
     refine dS (OX rfl) ?_
     refine dS (OX rfl) ?_
     refine dS (PK rfl) ?_
     refine d_end ?_
     refine RK hK27 ?_
     refine w_if_false rfl ?_
     refine w_skip ?_
     refine k_block ?_
     refine KK hK26 ?_
     refine w_region ?_
     refine rS (MV rfl) ?_
     refine rS (BI rfl (b_sub ⟨by omega, by omega⟩)) ?_
     refine rS (AG rfl) ?_
     refine r_nil ?_
     have hb32 : (Value.int .i64 (thrF bl s ts (k - 1))) = (Value.int .i64 (thrF bl s ts k)) := by first | exact congrArg (Value.int .i64) (thrF_yes (by omega) (by omega) (tThrB_yes hx (by assumption) (tHgts_is hv (by omega)) (by omega))) | exact congrArg (Value.int .i64) (thrF_no (by omega) (by omega) (tThrB_no hx (tHgts_is hv (by omega)) (by omega))) | exact congrArg (Value.int .i64) (thrF_no (by omega) (by omega) (tThrB_straight hx (by assumption)))
     have hb33 : (Value.int .i64 ((((k - 1) : Nat) : Int) - 1)) = (Value.int .i64 ((((k : Nat) : Int) - 1) - 1)) := by exact congrArg (Value.int .i64) (by omega)
     refine k_then (hJ22 ⟨(k - 1), (by first | omega | (simp only []; omega))⟩ _ _ _ rfl (by first | omega | (simp; omega)) (Sub.cons rfl <| Sub.cons rfl <| Sub.cons rfl <| Sub.cons rfl <| Sub.cons rfl <| Sub.cons rfl <| Sub.cons rfl <| Sub.cons rfl <| Sub.cons rfl <| Sub.cons rfl <| sub_val rfl hb32 <| sub_val rfl hb33 <| Sub.nil _) (fun w hs => St.sel [0, 1, 2, 3, 4, 5] rfl rfl hs))
   replace hs71 := XT hs71
   refine dS (MV rfl) ?_
   refine dS (MV rfl) ?_
   obtain ⟨v, hv⟩ : ∃ y_, (tHgts bl s ts ts.length)[(k - 1)]? = some y_ := ⟨(tHgts bl s ts ts.length)[(k - 1)]'(by omega), List.getElem?_eq_getElem _⟩
   have hvm : ((tHgts bl s ts ts.length).map iC)[(k - 1)]? = some (iC v) := by rw [List.getElem?_map, hv]; rfl
   refine dS (IA (k - 1) rfl (has_own_n (n := (tHgts bl s ts ts.length).length) 1 rfl (by simp)) te61 (by decide) (by omega) (by omega)) ?_
   refine dS (LE1 (k - 1) 0 (Value.int .i64 v) rfl tk3 (has_own_n (n := (tHgts bl s ts ts.length).length) 1 rfl (by simp)) hvm rfl (by decide) rfl) ?_
   refine dS (FA 0 rfl fo24_0 rfl) ?_
   refine dS (L1 (Value.slice tsA ts.length tsC) 3 rfl tk22 rfl rfl) ?_
   refine dS (MV rfl) ?_
   refine dS (IA (k - 1) rfl (has_at 4 rfl) te22 (by decide) (by omega) (by omega)) ?_
   refine dS (FAR (((k - 1) * 9) + 8) rfl (has_at 4 rfl) (Nat.mul_pos (by omega) (by decide)) fo77_5 rfl) ?_
   refine dS (LE1 (k - 1) 8 (Value.int .i64 x.Wall) rfl tk3 (has_at 4 rfl) hxm rfl (by decide) rfl) ?_
   refine dS (BI rfl b_gtr) ?_
   refine dS (PK rfl) ?_
   refine d_end ?_
   refine RK hK27 ?_
   refine w_if rfl (fun h83 => ?_) (fun h83 => ?_)
   rotate_left 1
   · replace h83 := DF h83
     refine w_skip ?_
     refine k_block ?_
     refine KK hK26 ?_
     refine w_region ?_
     refine rS (MV rfl) ?_
     refine rS (BI rfl (b_sub ⟨by omega, by omega⟩)) ?_
     refine rS (AG rfl) ?_
     refine r_nil ?_
     have hb30 : (Value.int .i64 (thrF bl s ts (k - 1))) = (Value.int .i64 (thrF bl s ts k)) := by first | exact congrArg (Value.int .i64) (thrF_yes (by omega) (by omega) (tThrB_yes hx (by assumption) (tHgts_is hv (by omega)) (by omega))) | exact congrArg (Value.int .i64) (thrF_no (by omega) (by omega) (tThrB_no hx (tHgts_is hv (by omega)) (by omega))) | exact congrArg (Value.int .i64) (thrF_no (by omega) (by omega) (tThrB_straight hx (by assumption)))
     have hb31 : (Value.int .i64 ((((k - 1) : Nat) : Int) - 1)) = (Value.int .i64 ((((k : Nat) : Int) - 1) - 1)) := by exact congrArg (Value.int .i64) (by omega)
     refine k_then (hJ22 ⟨(k - 1), (by first | omega | (simp only []; omega))⟩ _ _ _ rfl (by first | omega | (simp; omega)) (Sub.cons rfl <| Sub.cons rfl <| Sub.cons rfl <| Sub.cons rfl <| Sub.cons rfl <| Sub.cons rfl <| Sub.cons rfl <| Sub.cons rfl <| Sub.cons rfl <| Sub.cons rfl <| sub_val rfl hb30 <| sub_val rfl hb31 <| Sub.nil _) (fun w hs => St.sel [0, 1, 2, 3, 4, 5] rfl rfl hs))
   replace h83 := DT h83
   refine w_region ?_
   have hvv := tHgts_is hv (by omega)
   refine rS (MV rfl) ?_
   refine rS (AG rfl) ?_
   refine r_nil ?_
   refine k_block ?_
   refine KK hK26 ?_
   refine w_region ?_
   refine rS (MV rfl) ?_
   refine rS (BI rfl (b_sub ⟨by omega, by omega⟩)) ?_
   refine rS (AG rfl) ?_
   refine r_nil ?_
   have hb28 : (Value.int .i64 (thrF bl s ts (k - 1))) = (Value.int .i64 (((k : Nat) : Int) - 1)) := by first | exact congrArg (Value.int .i64) (thrF_yes (by omega) (by omega) (tThrB_yes hx (by assumption) (tHgts_is hv (by omega)) (by omega))) | exact congrArg (Value.int .i64) (thrF_no (by omega) (by omega) (tThrB_no hx (tHgts_is hv (by omega)) (by omega))) | exact congrArg (Value.int .i64) (thrF_no (by omega) (by omega) (tThrB_straight hx (by assumption)))
   have hb29 : (Value.int .i64 ((((k - 1) : Nat) : Int) - 1)) = (Value.int .i64 ((((k : Nat) : Int) - 1) - 1)) := by exact congrArg (Value.int .i64) (by omega)
   refine k_then (hJ22 ⟨(k - 1), (by first | omega | (simp only []; omega))⟩ _ _ _ rfl (by first | omega | (simp; omega)) (Sub.cons rfl <| Sub.cons rfl <| Sub.cons rfl <| Sub.cons rfl <| Sub.cons rfl <| Sub.cons rfl <| Sub.cons rfl <| Sub.cons rfl <| Sub.cons rfl <| Sub.cons rfl <| sub_val rfl hb28 <| sub_val rfl hb29 <| Sub.nil _) (fun w hs => St.sel [0, 1, 2, 3, 4, 5] rfl rfl hs))
 replace h25 := DF h25
 refine w_exit ?_
 refine k_exit_then ?_
 refine k_exit_then ?_
 refine k_exit_same ?_
 refine KK hK18 ?_
 obtain rfl : k = 0 := by omega
 refine w_join (ι := Unit) (fun z => [(3, (Value.pointer (some ⟨b2, 0, none⟩))), (4, (Value.pointer (some ⟨b3, 0, none⟩))), (7, (Value.bool true)), (10, (Value.int .i64 (namesC s ts))), (11, (Value.int .i64 (namesV s ts))), (12, (Value.int .i64 (namesE s ts))), (13, (Value.slice a13 ((tHeads bl s ts ts.length).length) c14)), (14, (Value.slice a215 ((tHgts bl s ts ts.length).length) c216)), (15, (Value.int .i64 (thrF bl s ts 0)))]) (fun z => [(own a13 c14 3 1 ((tHeads bl s ts ts.length).map iC)), (own a215 c216 3 1 ((tHgts bl s ts ts.length).map iC)), (blk b3 28 (SledV.cells s)), (blk b2 24 (TrackV.cells (TrackV.mk (Slc.mk tsA ts.length tsC)))), (rd tsA ts.length 9 (ts.map StretchV.cells)).ro, (rd blA bl.length 1 (bl.map iC_u32)).ro]) ?_ fun K34 hK34 => ?_
 · intro _
   change WJ _ _ _ _ [(3, (Value.pointer (some ⟨b2, 0, none⟩))), (4, (Value.pointer (some ⟨b3, 0, none⟩))), (7, (Value.bool true)), (10, (Value.int .i64 (namesC s ts))), (11, (Value.int .i64 (namesV s ts))), (12, (Value.int .i64 (namesE s ts))), (13, (Value.slice a13 ((tHeads bl s ts ts.length).length) c14)), (14, (Value.slice a215 ((tHgts bl s ts ts.length).length) c216)), (15, (Value.int .i64 (thrF bl s ts 0)))] [(own a13 c14 3 1 ((tHeads bl s ts ts.length).map iC)), (own a215 c216 3 1 ((tHgts bl s ts ts.length).map iC)), (blk b3 28 (SledV.cells s)), (blk b2 24 (TrackV.cells (TrackV.mk (Slc.mk tsA ts.length tsC)))), (rd tsA ts.length 9 (ts.map StretchV.cells)).ro, (rd blA bl.length 1 (bl.map iC_u32)).ro]
   refine w_seq fun _ hK35 => ?_
   refine WS fun _ hK36 => ?_
   refine rS (MV rfl) ?_
   refine rS (BI rfl b_neq) ?_
   refine RK hK36 ?_
   refine w_if rfl (fun hE => ?_) (fun hE => ?_)
   · replace hE := XT hE
     refine WS fun _ hK37 => ?_
     refine rS (MV rfl) ?_
     refine rS (MV rfl) ?_
     refine rS (MV rfl) ?_
     refine rS (BI rfl b_eql) ?_
     refine rS (PK rfl) ?_
     refine rS (AG rfl) ?_
     refine RK hK37 ?_
     refine w_ret ?_
     refine Q1 hQ rfl rfl rfl ?_
     first | rfl | (simp; done) | (simp; omega)
   replace hE := XF hE
   refine WK hK35 ?_
   refine w_join (ι := Unit) (fun z => [(3, (Value.pointer (some ⟨b2, 0, none⟩))), (4, (Value.pointer (some ⟨b3, 0, none⟩))), (7, (Value.bool true)), (10, (Value.int .i64 (namesC s ts))), (11, (Value.int .i64 (namesV s ts))), (13, (Value.slice a13 ((tHeads bl s ts ts.length).length) c14)), (14, (Value.slice a215 ((tHgts bl s ts ts.length).length) c216))]) (fun z => [(own a13 c14 3 1 ((tHeads bl s ts ts.length).map iC)), (own a215 c216 3 1 ((tHgts bl s ts ts.length).map iC)), (blk b3 28 (SledV.cells s)), (blk b2 24 (TrackV.cells (TrackV.mk (Slc.mk tsA ts.length tsC)))), (rd tsA ts.length 9 (ts.map StretchV.cells)).ro, (rd blA bl.length 1 (bl.map iC_u32)).ro]) ?_ fun K38 hK38 => ?_
   · intro _
     change WJ _ _ _ _ [(3, (Value.pointer (some ⟨b2, 0, none⟩))), (4, (Value.pointer (some ⟨b3, 0, none⟩))), (7, (Value.bool true)), (10, (Value.int .i64 (namesC s ts))), (11, (Value.int .i64 (namesV s ts))), (13, (Value.slice a13 ((tHeads bl s ts ts.length).length) c14)), (14, (Value.slice a215 ((tHgts bl s ts ts.length).length) c216))] [(own a13 c14 3 1 ((tHeads bl s ts ts.length).map iC)), (own a215 c216 3 1 ((tHgts bl s ts ts.length).map iC)), (blk b3 28 (SledV.cells s)), (blk b2 24 (TrackV.cells (TrackV.mk (Slc.mk tsA ts.length tsC)))), (rd tsA ts.length 9 (ts.map StretchV.cells)).ro, (rd blA bl.length 1 (bl.map iC_u32)).ro]
     refine w_seq fun _ hK39 => ?_
     refine w_draw mixed 11 (by kernel_rfl) ?_
     obtain ⟨c0, c1, ct⟩ := named_b hb0 hE
     have hcn : (namesC s ts + 1).toNat = (namesC s ts).toNat + 1 := by omega
     refine dS (MV rfl) ?_
     refine dS (MV rfl) ?_
     obtain ⟨m, hm⟩ : ∃ y_, (tHeads bl s ts ts.length)[((namesC s ts)).toNat]? = some y_ := ⟨(tHeads bl s ts ts.length)[((namesC s ts)).toNat]'(by omega), List.getElem?_eq_getElem _⟩
     have hmm : ((tHeads bl s ts ts.length).map iC)[((namesC s ts)).toNat]? = some (iC m) := by rw [List.getElem?_map, hm]; rfl
     refine dS (IA (((namesC s ts)).toNat) rfl (has_own_n (n := (tHeads bl s ts ts.length).length) 0 rfl (by simp)) te61 (by decide) (by omega) (by omega)) ?_
     refine dS (LE1 (((namesC s ts)).toNat) 0 (Value.int .i64 m) rfl tk3 (has_own_n (n := (tHeads bl s ts ts.length).length) 0 rfl (by simp)) hmm rfl (by decide) rfl) ?_
     refine dS (MV rfl) ?_
     refine dS (MV rfl) ?_
     refine dS (BI rfl (b_add ⟨by omega, by omega⟩)) ?_
     obtain ⟨n, hn⟩ : ∃ y_, (tHeads bl s ts ts.length)[(((namesC s ts) + 1)).toNat]? = some y_ := ⟨(tHeads bl s ts ts.length)[(((namesC s ts) + 1)).toNat]'(by omega), List.getElem?_eq_getElem _⟩
     have hnm : ((tHeads bl s ts ts.length).map iC)[(((namesC s ts) + 1)).toNat]? = some (iC n) := by rw [List.getElem?_map, hn]; rfl
     refine dS (IA ((((namesC s ts) + 1)).toNat) rfl (has_own_n (n := (tHeads bl s ts ts.length).length) 0 rfl (by simp)) te61 (by decide) (by omega) (by omega)) ?_
     refine dS (LE1 ((((namesC s ts) + 1)).toNat) 0 (Value.int .i64 n) rfl tk3 (has_own_n (n := (tHeads bl s ts ts.length).length) 0 rfl (by simp)) hnm rfl (by decide) rfl) ?_
     refine dS (MX rfl) ?_
     refine dS (AG rfl) ?_
     refine d_end ?_
     refine RK hK39 ?_
     refine w_join (ι := Unit) (fun z => [(3, (Value.pointer (some ⟨b2, 0, none⟩))), (4, (Value.pointer (some ⟨b3, 0, none⟩))), (7, (Value.bool true)), (10, (Value.int .i64 (namesC s ts))), (11, (Value.int .i64 (namesV s ts)))]) (fun z => [(own a13 c14 3 1 ((tHeads bl s ts ts.length).map iC)), (own a215 c216 3 1 ((tHgts bl s ts ts.length).map iC)), (blk b3 28 (SledV.cells s)), (blk b2 24 (TrackV.cells (TrackV.mk (Slc.mk tsA ts.length tsC)))), (rd tsA ts.length 9 (ts.map StretchV.cells)).ro, (rd blA bl.length 1 (bl.map iC_u32)).ro]) ?_ fun K40 hK40 => ?_
     · intro _
       change WJ _ _ _ _ [(3, (Value.pointer (some ⟨b2, 0, none⟩))), (4, (Value.pointer (some ⟨b3, 0, none⟩))), (7, (Value.bool true)), (10, (Value.int .i64 (namesC s ts))), (11, (Value.int .i64 (namesV s ts)))] [(own a13 c14 3 1 ((tHeads bl s ts ts.length).map iC)), (own a215 c216 3 1 ((tHgts bl s ts ts.length).map iC)), (blk b3 28 (SledV.cells s)), (blk b2 24 (TrackV.cells (TrackV.mk (Slc.mk tsA ts.length tsC)))), (rd tsA ts.length 9 (ts.map StretchV.cells)).ro, (rd blA bl.length 1 (bl.map iC_u32)).ro]
       refine WS fun _ hK41 => ?_
       refine rS (LW 3 rfl tk24 rfl rfl) ?_
       refine rS (LW 2 rfl tk28 rfl rfl) ?_
       refine cX (ends_c ts tsA tsC s (by first | assumption | omega | (simp; done) | (simp; omega))) (ha_at 4 rfl rfl <| ha_nil) rfl fun y42 hy43 => ?_
       obtain ⟨a44, c45, a246, c247⟩ := y42
       change RJ _ _ _ _ _ ((_, (Value.tuple [(Value.agg (TrackV.cells (TrackV.mk (Slc.mk a44 ((limT false ts).length) c45))).toArray), (Value.agg (TrackV.cells (TrackV.mk (Slc.mk a246 ((limT true ts).length) c247))).toArray), (Value.agg (SledV.cells (limS false s)).toArray), (Value.agg (SledV.cells (limS true s)).toArray)].toArray)) :: _) ((own a44 c45 77 9 ((limT false ts).map StretchV.cells)) :: (own a246 c247 77 9 ((limT true ts).map StretchV.cells)) :: _)
       refine rS (MV rfl) ?_
       refine rS (EX rfl) ?_
       refine rS (EX rfl) ?_
       refine rS (EX rfl) ?_
       refine rS (EX rfl) ?_
       refine AL rfl tz24 fun b48 => ?_
       refine AL rfl tz24 fun b49 => ?_
       refine AL rfl tz28 fun b50 => ?_
       refine AL rfl tz28 fun b51 => ?_
       refine SW3 rfl ts24 rfl ?_
       refine SW2 rfl ts24 rfl ?_
       refine SW1 rfl ts28 rfl ?_
       refine SW0 rfl ts28 rfl ?_
       refine RK hK41 ?_
       refine WS fun _ hK52 => ?_
       refine rS (LW 2 rfl tk24 rfl rfl) ?_
       refine rS (LW 0 rfl tk28 rfl rfl) ?_
       refine rS (CL (safe_c (limT true ts) a246 c247 (limS true s) (by first | assumption | omega | (simp; done) | (simp; omega)) (by exact limT_side hside)) (ha_cons (has_own_n (n := (limT true ts).length) 5 rfl (by simp)) <| ha_nil) rfl) ?_
       rw [hbh]
       rw [(thrown_end hb0 hbh hE).1]
       refine rS (MV rfl) ?_
       refine rS (EX rfl) ?_
       refine rS (EX rfl) ?_
       refine rS (AG rfl) ?_
       refine rS (AG rfl) ?_
       refine RK hK52 ?_
       refine WS fun _ hK53 => ?_
       refine rS (LW 2 rfl tk24 rfl rfl) ?_
       refine rS (LW 0 rfl tk28 rfl rfl) ?_
       refine rS (CL (names_c (limT true ts) a246 c247 (limS true s) (by first | assumption | omega | (simp; done) | (simp; omega)) (by exact limT_side hside)) (ha_cons (has_own_n (n := (limT true ts).length) 5 rfl (by simp)) <| ha_nil) rfl) ?_
       rw [(thrown_end hb0 hbh hE).2.1]
       rw [(thrown_end hb0 hbh hE).2.2.1]
       rw [(thrown_end hb0 hbh hE).2.2.2]
       refine rS (MV rfl) ?_
       refine rS (EX rfl) ?_
       refine rS (EX rfl) ?_
       refine rS (EX rfl) ?_
       refine rS (AG rfl) ?_
       refine rS (AG rfl) ?_
       refine rS (AG rfl) ?_
       refine RK hK53 ?_
       refine WS fun _ hK54 => ?_
       refine rS (MV rfl) ?_
       refine rS (MV rfl) ?_
       refine rS (MV rfl) ?_
       refine rS (SX (sd_bin (r := .bool true) rfl rfl rfl b_eql) rfl rfl) ?_
       refine rS (PK rfl) ?_
       refine rS (MV rfl) ?_
       refine rS (MV rfl) ?_
       refine rS (SX (sd_bin (r := .bool true) rfl rfl rfl b_eql) rfl rfl) ?_
       refine rS (PK rfl) ?_
       refine rS (MV rfl) ?_
       refine rS (MV rfl) ?_
       refine rS (SX (sd_bin (r := .bool true) rfl rfl rfl b_eql) rfl rfl) ?_
       refine rS (PK rfl) ?_
       refine rS (MV rfl) ?_
       refine rS (MV rfl) ?_
       refine rS (MV rfl) ?_
       refine rS (BI rfl b_eql) ?_
       refine rS (PK rfl) ?_
       refine rS (MV rfl) ?_
       refine r_bool (t := 217) rfl (fun h55 => ?_) (fun h55 => ?_)
       rotate_left 1
       · replace h55 := DF h55
         exact absurd rfl h55
       replace h55 := DT h55
       refine rS (MV rfl) ?_
       refine rS (MV rfl) ?_
       refine rS (BI rfl b_eql) ?_
       refine rS (PK rfl) ?_
       refine rS (AG rfl) ?_
       refine RK hK54 ?_
       refine w_ret ?_
       refine Q1 hQ rfl rfl rfl ?_
       first | rfl | (simp; done) | (simp; omega)
     refine w_seq fun _ hK56 => ?_
     refine w_draw mixed 20 (by kernel_rfl) ?_
     refine dS (MV rfl) ?_
     refine dS (MV rfl) ?_
     obtain ⟨v, hv⟩ : ∃ y_, (tHgts bl s ts ts.length)[((namesC s ts)).toNat]? = some y_ := ⟨(tHgts bl s ts ts.length)[((namesC s ts)).toNat]'(by omega), List.getElem?_eq_getElem _⟩
     have hvm : ((tHgts bl s ts ts.length).map iC)[((namesC s ts)).toNat]? = some (iC v) := by rw [List.getElem?_map, hv]; rfl
     refine dS (IA (((namesC s ts)).toNat) rfl (has_own_n (n := (tHgts bl s ts ts.length).length) 1 rfl (by simp)) te61 (by decide) (by omega) (by omega)) ?_
     refine dS (LE1 (((namesC s ts)).toNat) 0 (Value.int .i64 v) rfl tk3 (has_own_n (n := (tHgts bl s ts ts.length).length) 1 rfl (by simp)) hvm rfl (by decide) rfl) ?_
     refine dS (FA 0 rfl fo24_0 rfl) ?_
     refine dS (L1 (Value.slice tsA ts.length tsC) 3 rfl tk22 rfl rfl) ?_
     refine dS (MV rfl) ?_
     obtain ⟨x, hx⟩ : ∃ y_, ts[((namesC s ts)).toNat]? = some y_ := ⟨ts[((namesC s ts)).toNat]'(by omega), List.getElem?_eq_getElem _⟩
     have hxm : (ts.map StretchV.cells)[((namesC s ts)).toNat]? = some (StretchV.cells x) := by rw [List.getElem?_map, hx]; rfl
     refine dS (IA (((namesC s ts)).toNat) rfl (has_at 4 rfl) te22 (by decide) (by omega) (by omega)) ?_
     refine dS (FAR (((((namesC s ts)).toNat) * 9) + 8) rfl (has_at 4 rfl) (Nat.mul_pos (by omega) (by decide)) fo77_5 rfl) ?_
     refine dS (LE1 (((namesC s ts)).toNat) 8 (Value.int .i64 x.Wall) rfl tk3 (has_at 4 rfl) hxm rfl (by decide) rfl) ?_
     obtain ⟨sp1, sp2, sp3⟩ := named_speed (bl := bl) hs hst hl12 hb0 hE hx
     have hvv := tHgts_is hv (by omega)
     have hmm := tHeads_is hm (by omega)
     have hnn := tHeads_is hn (by omega)
     rw [hcn] at hnn
     have hq1 := tHead_b (bl := bl) hs hst (i := (namesC s ts).toNat) (by omega)
     have hq2 := tHead_b (bl := bl) hs hst (i := (namesC s ts).toNat + 1) (by omega)
     have m1 := mulb (a := 10 * (namesV s ts)) (b := (namesV s ts)) (A := 90000) (B := 9000) (by omega) (by omega) (by omega) (by omega)
     refine dS (BI rfl b_gtr) ?_
     refine dS (MV rfl) ?_
     refine d_bool (t := 169) rfl (fun h169 => ?_) (fun h169 => ?_)
     rotate_left 1
     · replace h169 := DF h169
       refine dS (OX rfl) ?_
       refine dS (OX rfl) ?_
       refine dS (OX rfl) ?_
       refine dS (OX rfl) ?_
       refine dS (OX rfl) ?_
       refine dS (OX rfl) ?_
       refine dS (OX rfl) ?_
       refine dS (PK rfl) ?_
       refine d_end ?_
       refine RK hK56 ?_
       refine w_if_false rfl ?_
       refine w_skip ?_
       refine k_then (k_sub (Sub.cons rfl <| Sub.cons rfl <| Sub.cons rfl <| Sub.cons rfl <| Sub.cons rfl <| Sub.nil _) (fun w hs => St.sel [0, 1, 2, 3, 4, 5] rfl rfl hs) (hK40 ()))
     replace h169 := DT h169
     refine dS (MV rfl) ?_
     refine dS (BI rfl (b_mul ⟨by omega, by omega⟩)) ?_
     refine dS (MV rfl) ?_
     refine dS (BI rfl (b_mul ⟨by omega, by omega⟩)) ?_
     refine dS (MV rfl) ?_
     refine dS (BI rfl (b_mul ⟨by omega, by omega⟩)) ?_
     refine dS (BI rfl b_gtr) ?_
     refine dS (PK rfl) ?_
     refine d_end ?_
     refine RK hK56 ?_
     refine w_if rfl (fun h177 => ?_) (fun h177 => ?_)
     · replace h177 := DT h177
       exfalso; have := sp3 (by omega); omega
     replace h177 := DF h177
     refine w_skip ?_
     refine k_then (k_sub (Sub.cons rfl <| Sub.cons rfl <| Sub.cons rfl <| Sub.cons rfl <| Sub.cons rfl <| Sub.nil _) (fun w hs => St.sel [0, 1, 2, 3, 4, 5] rfl rfl hs) (hK40 ()))
   refine WS fun _ hK57 => ?_
   obtain ⟨c0, c1, ct⟩ := named_b hb0 hE
   have hnb := named_before (bl := bl) hs hst hb0 hE
   refine rS (MV rfl) ?_
   refine rS (BI rfl b_lss) ?_
   refine rS (MV rfl) ?_
   refine r_bool (t := 123) rfl (fun h58 => ?_) (fun h58 => ?_)
   · replace h58 := DT h58
     exfalso; omega
   replace h58 := DF h58
   refine rS (MV rfl) ?_
   refine rS (FA 0 rfl fo24_0 rfl) ?_
   refine rS (L1 (Value.slice tsA ts.length tsC) 3 rfl tk22 rfl rfl) ?_
   refine rS (LN rfl ut22) ?_
   refine rS (BI rfl b_geq) ?_
   refine rS (PK rfl) ?_
   refine rS (MV rfl) ?_
   refine r_bool (t := 130) rfl (fun h59 => ?_) (fun h59 => ?_)
   · replace h59 := DT h59
     exfalso; omega
   replace h59 := DF h59
   refine rS (FA 0 rfl fo24_0 rfl) ?_
   refine rS (L1 (Value.slice tsA ts.length tsC) 3 rfl tk22 rfl rfl) ?_
   refine rS (MV rfl) ?_
   obtain ⟨x, hx⟩ : ∃ y_, ts[((namesC s ts)).toNat]? = some y_ := ⟨ts[((namesC s ts)).toNat]'(by omega), List.getElem?_eq_getElem _⟩
   have hxm : (ts.map StretchV.cells)[((namesC s ts)).toNat]? = some (StretchV.cells x) := by rw [List.getElem?_map, hx]; rfl
   refine rS (IA (((namesC s ts)).toNat) rfl (has_at 4 rfl) te22 (by decide) (by omega) (by omega)) ?_
   refine rS (FAR (((((namesC s ts)).toNat) * 9) + 7) rfl (has_at 4 rfl) (Nat.mul_pos (by omega) (by decide)) fo77_4 rfl) ?_
   obtain ⟨sp1, sp2, sp3⟩ := named_speed (bl := bl) hs hst hl12 hb0 hE hx
   refine rS (LE1 (((namesC s ts)).toNat) 7 (Value.int .u8 x.Side) rfl tk5 (has_at 4 rfl) hxm rfl (by decide) rfl) ?_
   refine rS (BI rfl b_eql) ?_
   refine rS (PK rfl) ?_
   refine rS (MV rfl) ?_
   refine r_bool (t := 139) rfl (fun h60 => ?_) (fun h60 => ?_)
   · replace h60 := DT h60
     exact absurd (by assumption) sp1
   replace h60 := DF h60
   refine rS (MV rfl) ?_
   refine rS (BI rfl b_geq) ?_
   refine rS (MV rfl) ?_
   refine r_bool (t := 142) rfl (fun h61 => ?_) (fun h61 => ?_)
   rotate_left 1
   · replace h61 := DF h61
     refine rS (OX rfl) ?_
     refine rS (OX rfl) ?_
     refine rS (OX rfl) ?_
     refine rS (PK rfl) ?_
     refine rS (PK rfl) ?_
     refine RK hK57 ?_
     refine w_if_false rfl ?_
     refine w_skip ?_
     refine k_then (k_sub (Sub.cons rfl <| Sub.cons rfl <| Sub.cons rfl <| Sub.cons rfl <| Sub.cons rfl <| Sub.cons rfl <| Sub.cons rfl <| Sub.nil _) (fun w hs => St.sel [0, 1, 2, 3, 4, 5] rfl rfl hs) (hK38 ()))
   replace h61 := DT h61
   refine rS (MV rfl) ?_
   refine rS (MV rfl) ?_
   refine rS (BI rfl b_lss) ?_
   refine rS (PK rfl) ?_
   refine rS (PK rfl) ?_
   refine RK hK57 ?_
   refine w_if rfl (fun h62 => ?_) (fun h62 => ?_)
   · replace h62 := DT h62
     exfalso; omega
   replace h62 := DF h62
   refine w_skip ?_
   refine k_then (k_sub (Sub.cons rfl <| Sub.cons rfl <| Sub.cons rfl <| Sub.cons rfl <| Sub.cons rfl <| Sub.cons rfl <| Sub.cons rfl <| Sub.nil _) (fun w hs => St.sel [0, 1, 2, 3, 4, 5] rfl rfl hs) (hK38 ()))
 refine WS fun _ hK63 => ?_
 refine rS (MV rfl) ?_
 refine rS (SX (sd_bin (r := .bool false) rfl rfl rfl b_neq) rfl rfl) ?_
 refine rS (MV rfl) ?_
 refine rS (MV rfl) ?_
 refine rS (BI rfl b_eql) ?_
 refine rS (MV rfl) ?_
 refine rS (BI rfl b_eql) ?_
 refine rS (BI rfl (b_neqb ut4)) ?_
 refine rS (PK rfl) ?_
 refine rS (MV rfl) ?_
 refine r_bool (t := 94) rfl (fun h94 => ?_) (fun h94 => ?_)
 · rw [Bool.not_eq_true'] at h94
   exfalso; rw [beq_eq_false_iff_ne] at h94; exact h94 (decide_eq_decide.2 l1)
 rw [Bool.not_eq_false'] at h94
 refine rS (MV rfl) ?_
 refine rS (BI rfl b_eql) ?_
 refine rS (MV rfl) ?_
 refine r_bool (t := 97) rfl (fun h97 => ?_) (fun h97 => ?_)
 rotate_left 1
 · replace h97 := DF h97
   refine rS (OX rfl) ?_
   refine rS (OX rfl) ?_
   refine rS (PK rfl) ?_
   refine rS (PK rfl) ?_
   refine rS (MV rfl) ?_
   refine rS (MV rfl) ?_
   refine rS (BI rfl b_eql) ?_
   refine rS (MV rfl) ?_
   refine r_bool (t := 105) rfl (fun h105 => ?_) (fun h105 => ?_)
   rotate_left 1
   · replace h105 := DF h105
     refine rS (OX rfl) ?_
     refine rS (OX rfl) ?_
     refine rS (PK rfl) ?_
     refine rS (PK rfl) ?_
     refine rS (MV rfl) ?_
     refine rS (MV rfl) ?_
     refine rS (BI rfl b_gtr) ?_
     refine rS (PK rfl) ?_
     refine RK hK63 ?_
     refine w_if rfl (fun h70 => ?_) (fun h70 => ?_)
     · replace h70 := DT h70
       exfalso; omega
     replace h70 := DF h70
     refine w_skip ?_
     refine k_then (k_sub (Sub.cons rfl <| Sub.cons rfl <| Sub.cons rfl <| Sub.cons rfl <| Sub.cons rfl <| Sub.cons rfl <| Sub.cons rfl <| Sub.cons rfl <| Sub.cons rfl <| Sub.nil _) (fun w hs => St.sel [0, 1, 2, 3, 4, 5] rfl rfl hs) (hK34 ()))
   replace h105 := DT h105
   refine rS (MV rfl) ?_
   refine rS (BI rfl b_lss) ?_
   refine rS (PK rfl) ?_
   refine rS (PK rfl) ?_
   refine rS (MV rfl) ?_
   refine r_bool (t := 110) rfl (fun h68 => ?_) (fun h68 => ?_)
   · replace h68 := DT h68
     exfalso; omega
   replace h68 := DF h68
   refine rS (MV rfl) ?_
   refine rS (BI rfl b_gtr) ?_
   refine rS (PK rfl) ?_
   refine RK hK63 ?_
   refine w_if rfl (fun h69 => ?_) (fun h69 => ?_)
   · replace h69 := DT h69
     exfalso; omega
   replace h69 := DF h69
   refine w_skip ?_
   refine k_then (k_sub (Sub.cons rfl <| Sub.cons rfl <| Sub.cons rfl <| Sub.cons rfl <| Sub.cons rfl <| Sub.cons rfl <| Sub.cons rfl <| Sub.cons rfl <| Sub.cons rfl <| Sub.nil _) (fun w hs => St.sel [0, 1, 2, 3, 4, 5] rfl rfl hs) (hK34 ()))
 replace h97 := DT h97
 refine rS (MV rfl) ?_
 refine rS (BI rfl b_geq) ?_
 refine rS (PK rfl) ?_
 refine rS (PK rfl) ?_
 refine rS (MV rfl) ?_
 refine r_bool (t := 102) rfl (fun h64 => ?_) (fun h64 => ?_)
 · replace h64 := DT h64
   exfalso; omega
 replace h64 := DF h64
 refine rS (MV rfl) ?_
 refine rS (BI rfl b_eql) ?_
 refine rS (MV rfl) ?_
 refine r_bool (t := 105) rfl (fun h105 => ?_) (fun h105 => ?_)
 rotate_left 1
 · replace h105 := DF h105
   refine rS (OX rfl) ?_
   refine rS (OX rfl) ?_
   refine rS (PK rfl) ?_
   refine rS (PK rfl) ?_
   refine rS (MV rfl) ?_
   refine rS (MV rfl) ?_
   refine rS (BI rfl b_gtr) ?_
   refine rS (PK rfl) ?_
   refine RK hK63 ?_
   refine w_if rfl (fun h67 => ?_) (fun h67 => ?_)
   · replace h67 := DT h67
     exfalso; omega
   replace h67 := DF h67
   refine w_skip ?_
   refine k_then (k_sub (Sub.cons rfl <| Sub.cons rfl <| Sub.cons rfl <| Sub.cons rfl <| Sub.cons rfl <| Sub.cons rfl <| Sub.cons rfl <| Sub.cons rfl <| Sub.cons rfl <| Sub.nil _) (fun w hs => St.sel [0, 1, 2, 3, 4, 5] rfl rfl hs) (hK34 ()))
 replace h105 := DT h105
 refine rS (MV rfl) ?_
 refine rS (BI rfl b_lss) ?_
 refine rS (PK rfl) ?_
 refine rS (PK rfl) ?_
 refine rS (MV rfl) ?_
 refine r_bool (t := 110) rfl (fun h65 => ?_) (fun h65 => ?_)
 · replace h65 := DT h65
   exfalso; omega
 replace h65 := DF h65
 refine rS (MV rfl) ?_
 refine rS (BI rfl b_gtr) ?_
 refine rS (PK rfl) ?_
 refine RK hK63 ?_
 refine w_if rfl (fun h66 => ?_) (fun h66 => ?_)
 · replace h66 := DT h66
   exfalso; omega
 replace h66 := DF h66
 refine w_skip ?_
 refine k_then (k_sub (Sub.cons rfl <| Sub.cons rfl <| Sub.cons rfl <| Sub.cons rfl <| Sub.cons rfl <| Sub.cons rfl <| Sub.cons rfl <| Sub.cons rfl <| Sub.cons rfl <| Sub.nil _) (fun w hs => St.sel [0, 1, 2, 3, 4, 5] rfl rfl hs) (hK34 ()))

end Go.Proofs.Ytpbgdeojcefnmaa
