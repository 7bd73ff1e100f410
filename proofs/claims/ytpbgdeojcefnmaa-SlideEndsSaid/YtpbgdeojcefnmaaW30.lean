/-
  Walks: kreisel/kreisellaw03.SlideEnds
-/
import Derived.Test.YtpbgdeojcefnmaaTab
import Derived.Test.YtpbgdeojcefnmaaShort
import Derived.Test.YtpbgdeojcefnmaaThr
import Derived.Test.YtpbgdeojcefnmaaMono
import Derived.Test.YtpbgdeojcefnmaaSafe
import Derived.Test.YtpbgdeojcefnmaaAlive
import Derived.Test.YtpbgdeojcefnmaaWithin
import Derived.Test.YtpbgdeojcefnmaaShut
import Derived.Test.YtpbgdeojcefnmaaStart
import Derived.Test.YtpbgdeojcefnmaaWalls
import Derived.Test.YtpbgdeojcefnmaaEnds
import Derived.Test.YtpbgdeojcefnmaaW10
import Derived.Test.YtpbgdeojcefnmaaW13
import Derived.Test.YtpbgdeojcefnmaaW22
import Derived.Test.YtpbgdeojcefnmaaW29
namespace Go.Proofs.Ytpbgdeojcefnmaa
open Go.RowKit
set_option linter.unusedVariables false

set_option maxRecDepth 100000 in
set_option maxHeartbeats 400000 in
theorem slideEnds_c (ts : List StretchV) (tsA : Option Addr) (tsC : Nat) (s : SledV) (hside : ∀ x ∈ ts, 0 ≤ x.Side ∧ x.Side ≤ 255) (hc : 0 ≤ s.Class ∧ s.Class ≤ 255) :
    FnV Try.prog 6 [(Value.agg (TrackV.cells (TrackV.mk (Slc.mk tsA ts.length tsC))).toArray), (Value.agg (SledV.cells s).toArray)] [(rd tsA ts.length 9 (ts.map StretchV.cells))] (Value.bool true) := by
 refine fnV_of go6 Try.func6 rfl rfl fun w0 Q hQ hN => ?_
 change WJ _ _ _ _ [(0, (Value.agg (TrackV.cells (TrackV.mk (Slc.mk tsA ts.length tsC))).toArray)), (1, (Value.agg (SledV.cells s).toArray))] [(rd tsA ts.length 9 (ts.map StretchV.cells)).ro]
 refine WS fun _ hK1 => ?_
 refine BXA rfl fun b2 => ?_
 refine BXA rfl fun b3 => ?_
 refine rS (AG rfl) ?_
 refine RK hK1 ?_
 refine WS fun _ hK4 => ?_
 refine rS (CL alive_c (ha_nil) rfl) ?_
 refine rS (AG rfl) ?_
 refine RK hK4 ?_
 refine w_seq fun _ hK5 => ?_
 refine WS fun _ hK6 => ?_
 refine rS (LW 1 rfl tk24 rfl rfl) ?_
 refine rS (LW 0 rfl tk28 rfl rfl) ?_
 refine rS (CL (ready_c ts tsA tsC s hc) (ha_at 2 rfl rfl <| ha_nil) rfl) ?_
 refine rS (NT rfl) ?_
 refine rS (MV rfl) ?_
 refine r_bool (t := 30) rfl (fun hrd => ?_) (fun hrd => ?_)
 · replace hrd := XT hrd
   refine rS (OX rfl) ?_
   refine rS (OX rfl) ?_
   refine rS (PK rfl) ?_
   refine RK hK6 ?_
   refine w_if_true rfl ?_
   refine WS fun _ hK7 => ?_
   refine rS (MV rfl) ?_
   refine rS (AG rfl) ?_
   refine RK hK7 ?_
   refine w_ret ?_
   refine Q1 hQ rfl rfl rfl ?_
   first | rfl | simp
 replace hrd := XF hrd
 refine rS (MV rfl) ?_
 refine rS (NT rfl) ?_
 refine rS (PK rfl) ?_
 refine RK hK6 ?_
 refine w_if_false rfl ?_
 refine WK hK5 ?_
 refine WS fun _ hK8 => ?_
 obtain ⟨hgr, htr, hs⟩ := hrd
 have hb0 := bothE_ok htr hs
 have hst := trackOk_all htr
 have hl12 := trackOk_le htr
 have htl := limT_ok (best := false) htr
 have hth := limT_ok (best := true) htr
 have hsl := limS_ok (best := false) hs
 have hsh := limS_ok (best := true) hs
 have hbl := bothE_ok htl hsl
 have hbh := bothE_ok hth hsh
 refine rS (LW 1 rfl tk24 rfl rfl) ?_
 refine rS (LW 0 rfl tk28 rfl rfl) ?_
 refine cX (ends_c ts tsA tsC s (by first | assumption | omega | (simp; done) | (simp; omega))) (ha_at 2 rfl rfl <| ha_nil) rfl fun y9 hy10 => ?_
 obtain ⟨a11, c12, a213, c214⟩ := y9
 change RJ _ _ _ _ _ ((_, (Value.tuple [(Value.agg (TrackV.cells (TrackV.mk (Slc.mk a11 ((limT false ts).length) c12))).toArray), (Value.agg (TrackV.cells (TrackV.mk (Slc.mk a213 ((limT true ts).length) c214))).toArray), (Value.agg (SledV.cells (limS false s)).toArray), (Value.agg (SledV.cells (limS true s)).toArray)].toArray)) :: _) ((own a11 c12 77 9 ((limT false ts).map StretchV.cells)) :: (own a213 c214 77 9 ((limT true ts).map StretchV.cells)) :: _)
 refine rS (MV rfl) ?_
 refine rS (EX rfl) ?_
 refine rS (EX rfl) ?_
 refine rS (EX rfl) ?_
 refine rS (EX rfl) ?_
 refine AL rfl tz24 fun b15 => ?_
 refine AL rfl tz24 fun b16 => ?_
 refine AL rfl tz28 fun b17 => ?_
 refine AL rfl tz28 fun b18 => ?_
 refine SW3 rfl ts24 rfl ?_
 refine SW2 rfl ts24 rfl ?_
 refine SW1 rfl ts28 rfl ?_
 refine SW0 rfl ts28 rfl ?_
 refine RK hK8 ?_
 refine WS fun _ hK19 => ?_
 refine rS (LW 7 rfl tk24 rfl rfl) ?_
 refine rS (LW 6 rfl tk28 rfl rfl) ?_
 refine cX (heads_c ts tsA tsC s (by first | assumption | omega | (simp; done) | (simp; omega)) hside) (ha_at 8 rfl rfl <| ha_nil) rfl fun y20 hy21 => ?_
 obtain ⟨a22, c23⟩ := y20
 change RJ _ _ _ _ _ ((_, (Value.tuple [(Value.slice a22 ((spansU s ts).length) c23), (Value.int .i64 (bothE s ts))].toArray)) :: _) ((own a22 c23 26 2 ((spansU s ts).map SpanV.cells)) :: _)
 rw [spansU_ok htr hs]
 rw [hb0]
 refine rS (MV rfl) ?_
 refine rS (EX rfl) ?_
 refine rS (EX rfl) ?_
 refine rS (AG rfl) ?_
 refine rS (AG rfl) ?_
 refine RK hK19 ?_
 refine WS fun _ hK24 => ?_
 refine rS (LW 4 rfl tk24 rfl rfl) ?_
 refine rS (LW 2 rfl tk28 rfl rfl) ?_
 refine cX (heads_c (limT false ts) a11 c12 (limS false s) (by first | assumption | omega | (simp; done) | (simp; omega)) (by exact limT_side hside)) (ha_cons (has_own_n (n := (limT false ts).length) 5 rfl (by simp)) <| ha_nil) rfl fun y25 hy26 => ?_
 obtain ⟨a27, c28⟩ := y25
 change RJ _ _ _ _ _ ((_, (Value.tuple [(Value.slice a27 ((spansU (limS false s) (limT false ts)).length) c28), (Value.int .i64 (bothE (limS false s) (limT false ts)))].toArray)) :: _) ((own a27 c28 26 2 ((spansU (limS false s) (limT false ts)).map SpanV.cells)) :: _)
 rw [spansU_ok htl hsl]
 rw [hbl]
 refine rS (MV rfl) ?_
 refine rS (EX rfl) ?_
 refine rS (EX rfl) ?_
 refine rS (AG rfl) ?_
 refine rS (AG rfl) ?_
 refine RK hK24 ?_
 refine WS fun _ hK29 => ?_
 refine rS (LW 4 rfl tk24 rfl rfl) ?_
 refine rS (LW 2 rfl tk28 rfl rfl) ?_
 refine cX (heads_c (limT true ts) a213 c214 (limS true s) (by first | assumption | omega | (simp; done) | (simp; omega)) (by exact limT_side hside)) (ha_cons (has_own_n (n := (limT true ts).length) 7 rfl (by simp)) <| ha_nil) rfl fun y30 hy31 => ?_
 obtain ⟨a32, c33⟩ := y30
 change RJ _ _ _ _ _ ((_, (Value.tuple [(Value.slice a32 ((spansU (limS true s) (limT true ts)).length) c33), (Value.int .i64 (bothE (limS true s) (limT true ts)))].toArray)) :: _) ((own a32 c33 26 2 ((spansU (limS true s) (limT true ts)).map SpanV.cells)) :: _)
 rw [spansU_ok hth hsh]
 rw [hbh]
 refine rS (MV rfl) ?_
 refine rS (EX rfl) ?_
 refine rS (EX rfl) ?_
 refine rS (AG rfl) ?_
 refine rS (AG rfl) ?_
 refine RK hK29 ?_
 refine w_seq fun _ hK34 => ?_
 refine WS fun _ hK35 => ?_
 have e0 := spansL_length (s := s) (ts := ts)
 have e1 := spansL_length (s := (limS false s)) (ts := (limT false ts))
 have e2 := spansL_length (s := (limS true s)) (ts := (limT true ts))
 rw [limT_length] at e1 e2
 refine rS (MV rfl) ?_
 refine rS (SX (sd_bin (r := .bool false) rfl rfl rfl b_neq) rfl rfl) ?_
 refine rS (MV rfl) ?_
 refine rS (MV rfl) ?_
 refine rS (SX (sd_bin (r := .bool false) rfl rfl rfl b_neq) rfl rfl) ?_
 refine rS (PK rfl) ?_
 refine rS (MV rfl) ?_
 refine rS (MV rfl) ?_
 refine rS (SX (sd_bin (r := .bool false) rfl rfl rfl b_neq) rfl rfl) ?_
 refine rS (PK rfl) ?_
 refine rS (MV rfl) ?_
 refine rS (MV rfl) ?_
 refine rS (LN rfl ut31) ?_
 refine rS (MV rfl) ?_
 refine rS (LN rfl ut31) ?_
 refine rS (BI rfl b_neq) ?_
 refine rS (PK rfl) ?_
 refine rS (MV rfl) ?_
 refine r_bool (t := 78) rfl (fun h36 => ?_) (fun h36 => ?_)
 · replace h36 := XT h36
   exfalso; omega
 replace h36 := XF h36
 refine rS (MV rfl) ?_
 refine rS (LN rfl ut31) ?_
 refine rS (MV rfl) ?_
 refine rS (LN rfl ut31) ?_
 refine rS (BI rfl b_neq) ?_
 refine rS (PK rfl) ?_
 refine rS (MV rfl) ?_
 refine r_bool (t := 85) rfl (fun h37 => ?_) (fun h37 => ?_)
 · replace h37 := XT h37
   exfalso; omega
 replace h37 := XF h37
 refine rS (MV rfl) ?_
 refine rS (LN rfl ut31) ?_
 refine rS (FA 0 rfl fo24_0 rfl) ?_
 refine rS (L1 (Value.slice tsA ts.length tsC) 10 rfl tk22 rfl rfl) ?_
 refine rS (LN rfl ut22) ?_
 refine rS (BI rfl (b_add ⟨by omega, by omega⟩)) ?_
 refine rS (BI rfl b_neq) ?_
 refine rS (PK rfl) ?_
 refine RK hK35 ?_
 refine w_if rfl (fun h38 => ?_) (fun h38 => ?_)
 · replace h38 := XT h38
   exfalso; omega
 replace h38 := XF h38
 refine WK hK34 ?_
 refine w_seq fun _ hK39 => ?_
 refine WS fun _ hK40 => ?_
 refine rS (MV rfl) ?_
 refine rS (LN rfl ut31) ?_
 refine rS (MV rfl) ?_
 refine RK hK40 ?_
 refine w_block ?_
 have hinit : (0 ≤ ts.length + 1) := by exact Nat.zero_le _
 refine w_loop (ι := { z : Nat // (z ≤ ts.length + 1) }) (fun z => [(2, (Value.pointer (some ⟨b2, 0, none⟩))), (3, (Value.pointer (some ⟨b3, 0, none⟩))), (5, (Value.bool true)), (6, (Value.pointer (some ⟨b15, 0, none⟩))), (7, (Value.pointer (some ⟨b16, 0, none⟩))), (8, (Value.pointer (some ⟨b17, 0, none⟩))), (9, (Value.pointer (some ⟨b18, 0, none⟩))), (10, (Value.slice a22 ((spansL s ts).length) c23)), (12, (Value.slice a27 ((spansL (limS false s) (limT false ts)).length) c28)), (14, (Value.slice a32 ((spansL (limS true s) (limT true ts)).length) c33)), (94, (Value.slice a22 ((spansL s ts).length) c23)), (95, (Value.int .i64 (((spansL s ts).length : Nat) : Int))), (96, (Value.int .i64 ((z.1 : Nat) : Int)))]) (fun z => [(own a32 c33 26 2 ((spansL (limS true s) (limT true ts)).map SpanV.cells)), (own a27 c28 26 2 ((spansL (limS false s) (limT false ts)).map SpanV.cells)), (own a22 c23 26 2 ((spansL s ts).map SpanV.cells)), (blk b18 28 (SledV.cells (limS true s))), (blk b17 28 (SledV.cells (limS false s))), (blk b16 24 (TrackV.cells (TrackV.mk (Slc.mk a213 ((limT true ts).length) c214)))), (blk b15 24 (TrackV.cells (TrackV.mk (Slc.mk a11 ((limT false ts).length) c12)))), (own a11 c12 77 9 ((limT false ts).map StretchV.cells)), (own a213 c214 77 9 ((limT true ts).map StretchV.cells)), (blk b3 28 (SledV.cells s)), (blk b2 24 (TrackV.cells (TrackV.mk (Slc.mk tsA ts.length tsC)))), (rd tsA ts.length 9 (ts.map StretchV.cells)).ro]) (fun z => ts.length + 1 - z.1) ⟨0, hinit⟩ (Sub.cons rfl <| Sub.cons rfl <| Sub.cons rfl <| Sub.cons rfl <| Sub.cons rfl <| Sub.cons rfl <| Sub.cons rfl <| Sub.cons rfl <| Sub.cons rfl <| Sub.cons rfl <| Sub.cons rfl <| Sub.cons rfl <| Sub.cons rfl <| Sub.nil _) (fun w hs => St.sel [0, 1, 2, 3, 4, 5, 6, 7, 8, 9, 10, 11] rfl rfl hs) ?_
 clear hinit
 rintro ⟨i, hl11_0⟩ J41 hJ41
 change WJ _ _ _ _ [(2, (Value.pointer (some ⟨b2, 0, none⟩))), (3, (Value.pointer (some ⟨b3, 0, none⟩))), (5, (Value.bool true)), (6, (Value.pointer (some ⟨b15, 0, none⟩))), (7, (Value.pointer (some ⟨b16, 0, none⟩))), (8, (Value.pointer (some ⟨b17, 0, none⟩))), (9, (Value.pointer (some ⟨b18, 0, none⟩))), (10, (Value.slice a22 ((spansL s ts).length) c23)), (12, (Value.slice a27 ((spansL (limS false s) (limT false ts)).length) c28)), (14, (Value.slice a32 ((spansL (limS true s) (limT true ts)).length) c33)), (94, (Value.slice a22 ((spansL s ts).length) c23)), (95, (Value.int .i64 (((spansL s ts).length : Nat) : Int))), (96, (Value.int .i64 ((i : Nat) : Int)))] [(own a32 c33 26 2 ((spansL (limS true s) (limT true ts)).map SpanV.cells)), (own a27 c28 26 2 ((spansL (limS false s) (limT false ts)).map SpanV.cells)), (own a22 c23 26 2 ((spansL s ts).map SpanV.cells)), (blk b18 28 (SledV.cells (limS true s))), (blk b17 28 (SledV.cells (limS false s))), (blk b16 24 (TrackV.cells (TrackV.mk (Slc.mk a213 ((limT true ts).length) c214)))), (blk b15 24 (TrackV.cells (TrackV.mk (Slc.mk a11 ((limT false ts).length) c12)))), (own a11 c12 77 9 ((limT false ts).map StretchV.cells)), (own a213 c214 77 9 ((limT true ts).map StretchV.cells)), (blk b3 28 (SledV.cells s)), (blk b2 24 (TrackV.cells (TrackV.mk (Slc.mk tsA ts.length tsC)))), (rd tsA ts.length 9 (ts.map StretchV.cells)).ro]
 refine WS fun _ hK42 => ?_
 refine rS (BI rfl b_lss) ?_
 refine RK hK42 ?_
 refine w_seq fun _ hK43 => ?_
 refine w_if rfl (fun h44 => ?_) (fun h44 => ?_)
 · replace h44 := DT h44
   refine WK hK43 ?_
   refine w_seq fun _ hK45 => ?_
   refine w_block ?_
   refine WS fun _ hK46 => ?_
   refine rS (MV rfl) ?_
   refine rS (AG rfl) ?_
   refine RK hK46 ?_
   refine w_seq fun _ hK47 => ?_
   refine w_draw mixed 34 (by kernel_rfl) ?_
   refine dS (MV rfl) ?_
   refine dS (MV rfl) ?_
   obtain ⟨y, hy⟩ : ∃ y_, (spansL (limS false s) (limT false ts))[i]? = some y_ := ⟨(spansL (limS false s) (limT false ts))[i]'(by omega), List.getElem?_eq_getElem _⟩
   have hym : ((spansL (limS false s) (limT false ts)).map SpanV.cells)[i]? = some (SpanV.cells y) := by rw [List.getElem?_map, hy]; rfl
   refine dS (IA i rfl (has_own_n (n := (spansL (limS false s) (limT false ts)).length) 1 rfl (by simp)) te31 (by decide) (by omega) (by omega)) ?_
   refine dS (LEN i 0 (SpanV.cells y) rfl tk26 (has_own_n (n := (spansL (limS false s) (limT false ts)).length) 1 rfl (by simp)) hym rfl (by decide) rfl rfl) ?_
   refine dS (MV rfl) ?_
   refine dS (MV rfl) ?_
   obtain ⟨z, hz⟩ : ∃ y_, (spansL s ts)[i]? = some y_ := ⟨(spansL s ts)[i]'(by omega), List.getElem?_eq_getElem _⟩
   have hzm : ((spansL s ts).map SpanV.cells)[i]? = some (SpanV.cells z) := by rw [List.getElem?_map, hz]; rfl
   refine dS (IA i rfl (has_own_n (n := (spansL s ts).length) 2 rfl (by simp)) te31 (by decide) (by omega) (by omega)) ?_
   refine dS (FAR (i * 2) rfl (has_own_n (n := (spansL s ts).length) 2 rfl (by simp)) (Nat.mul_pos (by omega) (by decide)) fo26_0 rfl) ?_
   refine dS (LE1 i 0 (Value.int .i64 z.Lo) rfl tk3 (has_own_n (n := (spansL s ts).length) 2 rfl (by simp)) hzm rfl (by decide) rfl) ?_
   refine dS (MV rfl) ?_
   refine dS (MV rfl) ?_
   refine dS (IA i rfl (has_own_n (n := (spansL s ts).length) 2 rfl (by simp)) te31 (by decide) (by omega) (by omega)) ?_
   refine dS (FAR (i * 2) rfl (has_own_n (n := (spansL s ts).length) 2 rfl (by simp)) (Nat.mul_pos (by omega) (by decide)) fo26_0 rfl) ?_
   refine dS (LE1 i 0 (Value.int .i64 z.Lo) rfl tk3 (has_own_n (n := (spansL s ts).length) 2 rfl (by simp)) hzm rfl (by decide) rfl) ?_
   refine dS (CL (lspan_c z.Lo z.Lo) (ha_nil) rfl) ?_
   refine dS (BI rfl (nes26 _ _ y (SpanV.mk z.Lo z.Lo))) ?_
   have zv : z = spanAt s ts i := by rw [spansL_get (by omega)] at hz; exact (Option.some.inj hz).symm
   have yv : y = SpanV.mk z.Lo z.Lo := by rw [spansL_end (by omega)] at hy; rw [zv]; exact (Option.some.inj hy).symm
   refine dS (MV rfl) ?_
   refine d_bool (t := 115) rfl (fun h115 => ?_) (fun h115 => ?_)
   · replace h115 := XT h115
     exact absurd yv h115
   replace h115 := XF h115
   refine dS (MV rfl) ?_
   refine dS (MV rfl) ?_
   obtain ⟨v, hv⟩ : ∃ y_, (spansL (limS true s) (limT true ts))[i]? = some y_ := ⟨(spansL (limS true s) (limT true ts))[i]'(by omega), List.getElem?_eq_getElem _⟩
   have hvm : ((spansL (limS true s) (limT true ts)).map SpanV.cells)[i]? = some (SpanV.cells v) := by rw [List.getElem?_map, hv]; rfl
   refine dS (IA i rfl (has_own_n (n := (spansL (limS true s) (limT true ts)).length) 0 rfl (by simp)) te31 (by decide) (by omega) (by omega)) ?_
   refine dS (LEN i 0 (SpanV.cells v) rfl tk26 (has_own_n (n := (spansL (limS true s) (limT true ts)).length) 0 rfl (by simp)) hvm rfl (by decide) rfl rfl) ?_
   refine dS (MV rfl) ?_
   refine dS (MV rfl) ?_
   refine dS (IA i rfl (has_own_n (n := (spansL s ts).length) 2 rfl (by simp)) te31 (by decide) (by omega) (by omega)) ?_
   refine dS (FAR ((i * 2) + 1) rfl (has_own_n (n := (spansL s ts).length) 2 rfl (by simp)) (Nat.mul_pos (by omega) (by decide)) fo26_1 rfl) ?_
   refine dS (LE1 i 1 (Value.int .i64 z.Hi) rfl tk3 (has_own_n (n := (spansL s ts).length) 2 rfl (by simp)) hzm rfl (by decide) rfl) ?_
   refine dS (MV rfl) ?_
   refine dS (MV rfl) ?_
   refine dS (IA i rfl (has_own_n (n := (spansL s ts).length) 2 rfl (by simp)) te31 (by decide) (by omega) (by omega)) ?_
   refine dS (FAR ((i * 2) + 1) rfl (has_own_n (n := (spansL s ts).length) 2 rfl (by simp)) (Nat.mul_pos (by omega) (by decide)) fo26_1 rfl) ?_
   have vv : v = SpanV.mk z.Hi z.Hi := by rw [spansL_end (by omega)] at hv; rw [zv]; exact (Option.some.inj hv).symm
   refine dS (LE1 i 1 (Value.int .i64 z.Hi) rfl tk3 (has_own_n (n := (spansL s ts).length) 2 rfl (by simp)) hzm rfl (by decide) rfl) ?_
   refine dS (CL (lspan_c z.Hi z.Hi) (ha_nil) rfl) ?_
   refine dS (BI rfl (nes26 _ _ v (SpanV.mk z.Hi z.Hi))) ?_
   refine dS (PK rfl) ?_
   refine d_end ?_
   refine RK hK47 ?_
   refine w_if rfl (fun h132 => ?_) (fun h132 => ?_)
   · replace h132 := XT h132
     exact absurd vv h132
   replace h132 := XF h132
   refine w_skip ?_
   refine k_block ?_
   refine KK hK45 ?_
   refine w_region ?_
   refine rS (BI rfl (b_add ⟨by omega, by omega⟩)) ?_
   refine rS (MV rfl) ?_
   refine r_nil ?_
   have hb48 : (Value.int .i64 (((i + 1) : Nat) : Int)) = (Value.int .i64 (((i : Nat) : Int) + 1)) := by exact congrArg (Value.int .i64) (by omega)
   refine k_then (hJ41 ⟨(i + 1), (by first | omega | (simp only []; omega))⟩ _ _ _ rfl (by first | omega | (simp; omega)) (Sub.cons rfl <| Sub.cons rfl <| Sub.cons rfl <| Sub.cons rfl <| Sub.cons rfl <| Sub.cons rfl <| Sub.cons rfl <| Sub.cons rfl <| Sub.cons rfl <| Sub.cons rfl <| Sub.cons rfl <| Sub.cons rfl <| sub_val rfl hb48 <| Sub.nil _) (fun w hs => St.sel [0, 1, 2, 3, 4, 5, 6, 7, 8, 9, 10, 11] rfl rfl hs))
 replace h44 := DF h44
 refine w_exit ?_
 refine k_exit_then ?_
 refine k_exit_then ?_
 refine k_exit_same ?_
 refine KK hK39 ?_
 refine w_seq fun _ hK49 => ?_
 refine WS fun _ hK50 => ?_
 refine rS (FA 0 rfl fo24_0 rfl) ?_
 refine rS (L1 (Value.slice tsA ts.length tsC) 10 rfl tk22 rfl rfl) ?_
 refine rS (LN rfl ut22) ?_
 refine rS (MV rfl) ?_
 refine RK hK50 ?_
 refine w_block ?_
 have hinit : (0 ≤ ts.length) := by exact Nat.zero_le _
 refine w_loop (ι := { z : Nat // (z ≤ ts.length) }) (fun z => [(2, (Value.pointer (some ⟨b2, 0, none⟩))), (3, (Value.pointer (some ⟨b3, 0, none⟩))), (5, (Value.bool true)), (6, (Value.pointer (some ⟨b15, 0, none⟩))), (7, (Value.pointer (some ⟨b16, 0, none⟩))), (8, (Value.pointer (some ⟨b17, 0, none⟩))), (9, (Value.pointer (some ⟨b18, 0, none⟩))), (135, (Value.slice tsA ts.length tsC)), (136, (Value.int .i64 ((ts.length : Nat) : Int))), (137, (Value.int .i64 ((z.1 : Nat) : Int)))]) (fun z => [(own a32 c33 26 2 ((spansL (limS true s) (limT true ts)).map SpanV.cells)), (own a27 c28 26 2 ((spansL (limS false s) (limT false ts)).map SpanV.cells)), (own a22 c23 26 2 ((spansL s ts).map SpanV.cells)), (blk b18 28 (SledV.cells (limS true s))), (blk b17 28 (SledV.cells (limS false s))), (blk b16 24 (TrackV.cells (TrackV.mk (Slc.mk a213 ((limT true ts).length) c214)))), (blk b15 24 (TrackV.cells (TrackV.mk (Slc.mk a11 ((limT false ts).length) c12)))), (own a11 c12 77 9 ((limT false ts).map StretchV.cells)), (own a213 c214 77 9 ((limT true ts).map StretchV.cells)), (blk b3 28 (SledV.cells s)), (blk b2 24 (TrackV.cells (TrackV.mk (Slc.mk tsA ts.length tsC)))), (rd tsA ts.length 9 (ts.map StretchV.cells)).ro]) (fun z => ts.length - z.1) ⟨0, hinit⟩ (Sub.cons rfl <| Sub.cons rfl <| Sub.cons rfl <| Sub.cons rfl <| Sub.cons rfl <| Sub.cons rfl <| Sub.cons rfl <| Sub.cons rfl <| Sub.cons rfl <| Sub.cons rfl <| Sub.nil _) (fun w hs => St.sel [0, 1, 2, 3, 4, 5, 6, 7, 8, 9, 10, 11] rfl rfl hs) ?_
 clear hinit
 rintro ⟨i, hl17_0⟩ J51 hJ51
 change WJ _ _ _ _ [(2, (Value.pointer (some ⟨b2, 0, none⟩))), (3, (Value.pointer (some ⟨b3, 0, none⟩))), (5, (Value.bool true)), (6, (Value.pointer (some ⟨b15, 0, none⟩))), (7, (Value.pointer (some ⟨b16, 0, none⟩))), (8, (Value.pointer (some ⟨b17, 0, none⟩))), (9, (Value.pointer (some ⟨b18, 0, none⟩))), (135, (Value.slice tsA ts.length tsC)), (136, (Value.int .i64 ((ts.length : Nat) : Int))), (137, (Value.int .i64 ((i : Nat) : Int)))] [(own a32 c33 26 2 ((spansL (limS true s) (limT true ts)).map SpanV.cells)), (own a27 c28 26 2 ((spansL (limS false s) (limT false ts)).map SpanV.cells)), (own a22 c23 26 2 ((spansL s ts).map SpanV.cells)), (blk b18 28 (SledV.cells (limS true s))), (blk b17 28 (SledV.cells (limS false s))), (blk b16 24 (TrackV.cells (TrackV.mk (Slc.mk a213 ((limT true ts).length) c214)))), (blk b15 24 (TrackV.cells (TrackV.mk (Slc.mk a11 ((limT false ts).length) c12)))), (own a11 c12 77 9 ((limT false ts).map StretchV.cells)), (own a213 c214 77 9 ((limT true ts).map StretchV.cells)), (blk b3 28 (SledV.cells s)), (blk b2 24 (TrackV.cells (TrackV.mk (Slc.mk tsA ts.length tsC)))), (rd tsA ts.length 9 (ts.map StretchV.cells)).ro]
 refine WS fun _ hK52 => ?_
 refine rS (BI rfl b_lss) ?_
 refine RK hK52 ?_
 refine w_seq fun _ hK53 => ?_
 refine w_if rfl (fun h54 => ?_) (fun h54 => ?_)
 rotate_left 1
 · replace h54 := DF h54
   refine w_exit ?_
   refine k_exit_then ?_
   refine k_exit_then ?_
   refine k_exit_same ?_
   refine KK hK49 ?_
   refine WS fun _ hK74 => ?_
   refine rS (MV rfl) ?_
   refine rS (AG rfl) ?_
   refine RK hK74 ?_
   refine w_ret ?_
   refine Q1 hQ rfl rfl rfl ?_
   first | rfl | simp
 replace h54 := DT h54
 refine WK hK53 ?_
 refine w_seq fun _ hK55 => ?_
 refine w_block ?_
 refine WS fun _ hK56 => ?_
 refine rS (MV rfl) ?_
 obtain ⟨x, hx⟩ : ∃ y_, ts[i]? = some y_ := ⟨ts[i]'(by omega), List.getElem?_eq_getElem _⟩
 have hxm : (ts.map StretchV.cells)[i]? = some (StretchV.cells x) := by rw [List.getElem?_map, hx]; rfl
 refine rS (IA i rfl (has_at 11 rfl) te22 (by decide) (by omega) (by omega)) ?_
 refine rS (LEN i 0 (StretchV.cells x) rfl tk77 (has_at 11 rfl) hxm rfl (by decide) rfl rfl) ?_
 refine AL rfl tz77 fun b57 => ?_
 refine rS (AG rfl) ?_
 refine SW0 rfl ts77 rfl ?_
 refine RK hK56 ?_
 refine w_seq fun _ hK58 => ?_
 refine WS fun _ hK59 => ?_
 refine rS (FA 7 rfl fo77_4 rfl) ?_
 have hsd := hside x (List.mem_of_getElem? hx)
 refine rS (L1 (Value.int .u8 x.Side) 0 rfl tk5 rfl rfl) ?_
 refine rS (BI rfl b_eql) ?_
 refine RK hK59 ?_
 refine w_if rfl (fun hd => ?_) (fun hd => ?_)
 · replace hd := DT hd
   refine w_exit ?_
   refine k_exit_then ?_
   refine k_exit_same ?_
   refine KK hK55 ?_
   refine w_region ?_
   refine rS (BI rfl (b_add ⟨by omega, by omega⟩)) ?_
   refine rS (MV rfl) ?_
   refine r_nil ?_
   have hb60 : (Value.int .i64 (((i + 1) : Nat) : Int)) = (Value.int .i64 (((i : Nat) : Int) + 1)) := by exact congrArg (Value.int .i64) (by omega)
   refine k_then (hJ51 ⟨(i + 1), (by first | omega | (simp only []; omega))⟩ _ _ _ rfl (by first | omega | (simp; omega)) (Sub.cons rfl <| Sub.cons rfl <| Sub.cons rfl <| Sub.cons rfl <| Sub.cons rfl <| Sub.cons rfl <| Sub.cons rfl <| Sub.cons rfl <| Sub.cons rfl <| sub_val rfl hb60 <| Sub.nil _) (fun w hs => St.sel [1, 2, 3, 4, 5, 6, 7, 8, 9, 10, 11, 12] rfl rfl hs))
 replace hd := DF hd
 refine WK hK58 ?_
 refine WS fun _ hK61 => ?_
 refine rS (LW 11 rfl tk24 rfl rfl) ?_
 refine rS (LW 10 rfl tk28 rfl rfl) ?_
 refine rS (MV rfl) ?_
 refine rS (CL (height_c ts tsA tsC s ((i : Nat) : Int) (by first | assumption | omega | (simp; done) | (simp; omega)) hside) (ha_at 12 rfl rfl <| ha_nil) rfl) ?_
 rw [(height_nat hb0 hx hd).2]
 refine rS (MV rfl) ?_
 refine rS (EX rfl) ?_
 refine rS (EX rfl) ?_
 refine AL rfl tz26 fun b62 => ?_
 refine SW0 rfl ts26 rfl ?_
 refine rS (AG rfl) ?_
 refine RK hK61 ?_
 refine WS fun _ hK63 => ?_
 refine rS (LW 8 rfl tk24 rfl rfl) ?_
 refine rS (LW 6 rfl tk28 rfl rfl) ?_
 refine rS (MV rfl) ?_
 refine rS (CL (height_c (limT false ts) a11 c12 (limS false s) ((i : Nat) : Int) (by first | assumption | omega | (simp; done) | (simp; omega)) (by exact limT_side hside)) (ha_cons (has_own_n (n := (limT false ts).length) 9 rfl (by simp)) <| ha_nil) rfl) ?_
 rw [(height_end (best := false) hbl hx hd).2]
 refine rS (MV rfl) ?_
 refine rS (EX rfl) ?_
 refine rS (EX rfl) ?_
 refine AL rfl tz26 fun b64 => ?_
 refine SW0 rfl ts26 rfl ?_
 refine rS (AG rfl) ?_
 refine RK hK63 ?_
 refine WS fun _ hK65 => ?_
 refine rS (LW 8 rfl tk24 rfl rfl) ?_
 refine rS (LW 6 rfl tk28 rfl rfl) ?_
 refine rS (MV rfl) ?_
 refine rS (CL (height_c (limT true ts) a213 c214 (limS true s) ((i : Nat) : Int) (by first | assumption | omega | (simp; done) | (simp; omega)) (by exact limT_side hside)) (ha_cons (has_own_n (n := (limT true ts).length) 11 rfl (by simp)) <| ha_nil) rfl) ?_
 rw [(height_end (best := true) hbh hx hd).2]
 refine rS (MV rfl) ?_
 refine rS (EX rfl) ?_
 refine rS (EX rfl) ?_
 refine AL rfl tz26 fun b66 => ?_
 refine SW0 rfl ts26 rfl ?_
 refine rS (AG rfl) ?_
 refine RK hK65 ?_
 refine w_seq fun _ hK67 => ?_
 have hb68 : (SpanV.cells (heightV s ts ((i : Nat) : Int))) = (SpanV.cells (SpanV.mk (hgt false s ts i) (hgt true s ts i))) := by rw [(height_nat hb0 hx hd).1]
 rw [hb68]
 have hb69 : (SpanV.cells (heightV (limS false s) (limT false ts) ((i : Nat) : Int))) = (SpanV.cells (SpanV.mk (hgt false s ts i) (hgt false s ts i))) := by rw [(height_end (best := false) hbl hx hd).1]
 rw [hb69]
 have hb70 : (SpanV.cells (heightV (limS true s) (limT true ts) ((i : Nat) : Int))) = (SpanV.cells (SpanV.mk (hgt true s ts i) (hgt true s ts i))) := by rw [(height_end (best := true) hbh hx hd).1]
 rw [hb70]
 refine w_draw mixed 28 (by kernel_rfl) ?_
 refine dS (MV rfl) ?_
 refine dS (SX (sd_bin (r := .bool false) rfl rfl rfl b_neq) rfl rfl) ?_
 refine dS (MV rfl) ?_
 refine dS (MV rfl) ?_
 refine dS (SX (sd_bin (r := .bool false) rfl rfl rfl b_neq) rfl rfl) ?_
 refine dS (PK rfl) ?_
 refine dS (MV rfl) ?_
 refine dS (MV rfl) ?_
 refine dS (SX (sd_bin (r := .bool false) rfl rfl rfl b_neq) rfl rfl) ?_
 refine dS (PK rfl) ?_
 refine dS (MV rfl) ?_
 refine dS (LW 1 rfl tk26 rfl rfl) ?_
 refine dS (FA 0 rfl fo26_0 rfl) ?_
 refine dS (L1 (Value.int .i64 (hgt false s ts i)) 2 rfl tk3 rfl rfl) ?_
 refine dS (FA 0 rfl fo26_0 rfl) ?_
 refine dS (L1 (Value.int .i64 (hgt false s ts i)) 2 rfl tk3 rfl rfl) ?_
 refine dS (CL (lspan_c (hgt false s ts i) (hgt false s ts i)) (ha_nil) rfl) ?_
 refine dS (BI rfl (nes26 _ _ (SpanV.mk (hgt false s ts i) (hgt false s ts i)) (SpanV.mk (hgt false s ts i) (hgt false s ts i)))) ?_
 refine dS (PK rfl) ?_
 refine dS (MV rfl) ?_
 refine d_bool (t := 185) rfl (fun h71 => ?_) (fun h71 => ?_)
 · replace h71 := XT h71
   exact absurd rfl h71
 replace h71 := XF h71
 refine dS (LW 0 rfl tk26 rfl rfl) ?_
 refine dS (FA 1 rfl fo26_1 rfl) ?_
 refine dS (L1 (Value.int .i64 (hgt true s ts i)) 2 rfl tk3 rfl rfl) ?_
 refine dS (FA 1 rfl fo26_1 rfl) ?_
 refine dS (L1 (Value.int .i64 (hgt true s ts i)) 2 rfl tk3 rfl rfl) ?_
 refine dS (CL (lspan_c (hgt true s ts i) (hgt true s ts i)) (ha_nil) rfl) ?_
 refine dS (BI rfl (nes26 _ _ (SpanV.mk (hgt true s ts i) (hgt true s ts i)) (SpanV.mk (hgt true s ts i) (hgt true s ts i)))) ?_
 refine dS (PK rfl) ?_
 refine d_end ?_
 refine RK hK67 ?_
 refine w_if rfl (fun h72 => ?_) (fun h72 => ?_)
 · replace h72 := XT h72
   exact absurd rfl h72
 replace h72 := XF h72
 refine w_skip ?_
 refine k_block ?_
 refine KK hK55 ?_
 refine w_region ?_
 refine rS (BI rfl (b_add ⟨by omega, by omega⟩)) ?_
 refine rS (MV rfl) ?_
 refine r_nil ?_
 have hb73 : (Value.int .i64 (((i + 1) : Nat) : Int)) = (Value.int .i64 (((i : Nat) : Int) + 1)) := by exact congrArg (Value.int .i64) (by omega)
 refine k_then (hJ51 ⟨(i + 1), (by first | omega | (simp only []; omega))⟩ _ _ _ rfl (by first | omega | (simp; omega)) (Sub.cons rfl <| Sub.cons rfl <| Sub.cons rfl <| Sub.cons rfl <| Sub.cons rfl <| Sub.cons rfl <| Sub.cons rfl <| Sub.cons rfl <| Sub.cons rfl <| sub_val rfl hb73 <| Sub.nil _) (fun w hs => St.sel [4, 5, 6, 7, 8, 9, 10, 11, 12, 13, 14, 15] rfl rfl hs))

end Go.Proofs.Ytpbgdeojcefnmaa
