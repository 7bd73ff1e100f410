/-
  Walks: kreisel/kreiselref03.heads
-/
import Derived.Test.YtpbgdeojcefnmaaTab
import Derived.Test.YtpbgdeojcefnmaaShort
import Derived.Test.YtpbgdeojcefnmaaW1
namespace Go.Proofs.Ytpbgdeojcefnmaa
open Go.RowKit
set_option linter.unusedVariables false

set_option maxRecDepth 100000 in
set_option maxHeartbeats 400000 in
theorem rheads_c (ts : List StretchV) (tsA : Option Addr) (tsC : Nat) (s : SledV) (hs : SledOk s) (hst : ∀ x ∈ ts, StretchOk x) (hlen : ts.length ≤ 12) :
    FnX Try.prog 64 [(Value.agg (TrackV.cells (TrackV.mk (Slc.mk tsA ts.length tsC))).toArray), (Value.agg (SledV.cells s).toArray)] [(rd tsA ts.length 9 (ts.map StretchV.cells))] (fun (x : (Option Addr) × Nat) => (Value.slice x.1 ((spansL s ts).length) x.2)) (fun (x : (Option Addr) × Nat) => True) (fun (x : (Option Addr) × Nat) => [(own x.1 x.2 26 2 ((spansL s ts).map SpanV.cells))]) := by
 refine fnX_of go64 Try.func64 rfl rfl fun w0 Q hQ hN => ?_
 change WJ _ _ _ _ [(0, (Value.agg (TrackV.cells (TrackV.mk (Slc.mk tsA ts.length tsC))).toArray)), (1, (Value.agg (SledV.cells s).toArray))] [(rd tsA ts.length 9 (ts.map StretchV.cells)).ro]
 refine WS fun _ hK1 => ?_
 refine BXA rfl fun b2 => ?_
 refine BXA rfl fun b3 => ?_
 refine rS (AG rfl) ?_
 refine RK hK1 ?_
 refine WS fun _ hK4 => ?_
 refine rS (FA 1 rfl fo28_1 rfl) ?_
 refine rS (LP (SpanV.cells s.Start) 0 rfl tk26 rfl rfl rfl) ?_
 refine AL rfl tz26 fun b5 => ?_
 refine SW0 rfl ts26 rfl ?_
 refine RK hK4 ?_
 refine WS fun _ hK6 => ?_
 refine rS (LW 0 rfl tk26 rfl rfl) ?_
 refine r_bs (xs := [.tmp 11]) (cs := (SpanV.cells s.Start)) rfl te31 tz26 rfl rfl rfl rfl (by simp [Value.cells, SpanV.cells_length]) rfl rfl fun b7 => ?_
 refine rS (AG rfl) ?_
 refine RK hK6 ?_
 refine w_seq fun _ hK8 => ?_
 refine WS fun _ hK9 => ?_
 refine rS (AG rfl) ?_
 refine RK hK9 ?_
 refine w_block ?_
 refine w_blk_own (es := (((spansL s ts).take (0 + 1)).map SpanV.cells)) (C' := [(own (some ⟨b7, 0, none⟩) (((((spansL s ts).take (0 + 1)).map SpanV.cells)).length) 26 2 (((spansL s ts).take (0 + 1)).map SpanV.cells)), _, _, _, _]) 0 rfl (map_len SpanV.cells_length _) (by rw [spans_one, spanAt_zero]; simp) (by rw [spans_one]; simp [maxLen]) rfl ?_
 have hinit : (0 ≤ ts.length) := by simp
 have hb10 : (Value.slice (some ⟨b7, 0, none⟩) (((spansL s ts).take (0 + 1)).length) (((((spansL s ts).take (0 + 1)).map SpanV.cells)).length)) = (Value.slice (some ⟨b7, 0, none⟩) 1 1) := by rw [spans_one]; rfl
 refine w_loop (ι := { z : Nat × (Option Addr) × Nat // (z.1 ≤ ts.length) }) (fun z => [(2, (Value.pointer (some ⟨b2, 0, none⟩))), (3, (Value.pointer (some ⟨b3, 0, none⟩))), (5, (Value.pointer (some ⟨b5, 0, none⟩))), (6, (Value.slice z.1.2.1 (((spansL s ts).take (z.1.1 + 1)).length) z.1.2.2)), (7, (Value.int .i64 (z.1.1 : Int)))]) (fun z => [(own z.1.2.1 z.1.2.2 26 2 (((spansL s ts).take (z.1.1 + 1)).map SpanV.cells)), (blk b5 26 (SpanV.cells (SpanV.mk (headAt false s ts z.1.1) (headAt true s ts z.1.1)))), (blk b3 28 (SledV.cells s)), (blk b2 24 (TrackV.cells (TrackV.mk (Slc.mk tsA ts.length tsC)))), (rd tsA ts.length 9 (ts.map StretchV.cells)).ro]) (fun z => ts.length - z.1.1) ⟨(0, (some ⟨b7, 0, none⟩), ((((spansL s ts).take (0 + 1)).map SpanV.cells)).length), hinit⟩ (Sub.cons rfl <| Sub.cons rfl <| Sub.cons rfl <| sub_val rfl hb10 <| Sub.cons rfl <| Sub.nil _) (fun w hs => St.sel [0, 1, 2, 3, 4] rfl rfl hs) ?_
 clear hinit
 rintro ⟨⟨i, a, c⟩, hl0_0⟩ J11 hJ11
 try dsimp only at hl0_0
 change WJ _ _ _ _ [(2, (Value.pointer (some ⟨b2, 0, none⟩))), (3, (Value.pointer (some ⟨b3, 0, none⟩))), (5, (Value.pointer (some ⟨b5, 0, none⟩))), (6, (Value.slice a (((spansL s ts).take (i + 1)).length) c)), (7, (Value.int .i64 (i : Int)))] [(own a c 26 2 (((spansL s ts).take (i + 1)).map SpanV.cells)), (blk b5 26 (SpanV.cells (SpanV.mk (headAt false s ts i) (headAt true s ts i)))), (blk b3 28 (SledV.cells s)), (blk b2 24 (TrackV.cells (TrackV.mk (Slc.mk tsA ts.length tsC)))), (rd tsA ts.length 9 (ts.map StretchV.cells)).ro]
 refine w_seq fun _ hK12 => ?_
 refine WS fun _ hK13 => ?_
 refine rS (MV rfl) ?_
 refine rS (FA 0 rfl fo24_0 rfl) ?_
 refine rS (L1 (Value.slice tsA ts.length tsC) 3 rfl tk22 rfl rfl) ?_
 refine rS (LN rfl ut22) ?_
 refine rS (BI rfl b_lss) ?_
 refine RK hK13 ?_
 refine w_if rfl (fun h14 => ?_) (fun h14 => ?_)
 rotate_left 1
 · replace h14 := DF h14
   refine w_exit ?_
   refine k_exit_then ?_
   refine k_exit_then ?_
   refine k_exit_same ?_
   refine KK hK8 ?_
   refine WS fun _ hK23 => ?_
   rw [spansL_full (by omega)]
   refine rS (MV rfl) ?_
   refine rS (AG rfl) ?_
   refine RK hK23 ?_
   refine w_ret ?_
   refine hQ _ _ _ (l_nil (vs := [(Value.slice a ((spansL s ts).length) c)]) ⟨rfl, trivial⟩ fun w hs => endX (a, c) [0] ?_ ?_ rfl rfl rfl hs)
   · rfl
   · trivial
 replace h14 := DT h14
 refine WK hK12 ?_
 refine w_seq fun _ hK15 => ?_
 refine w_block ?_
 refine WS fun _ hK16 => ?_
 refine rS (FA 0 rfl fo24_0 rfl) ?_
 refine rS (L1 (Value.slice tsA ts.length tsC) 3 rfl tk22 rfl rfl) ?_
 refine rS (MV rfl) ?_
 obtain ⟨x, hx⟩ : ∃ y_, ts[i]? = some y_ := ⟨ts[i]'(by omega), List.getElem?_eq_getElem _⟩
 have hxm : (ts.map StretchV.cells)[i]? = some (StretchV.cells x) := by rw [List.getElem?_map, hx]; rfl
 refine rS (IA i rfl (has_at 4 rfl) te22 (by decide) (by omega) (by omega)) ?_
 refine rS (LEN i 0 (StretchV.cells x) rfl tk77 (has_at 4 rfl) hxm rfl (by decide) rfl rfl) ?_
 refine AL rfl tz77 fun b17 => ?_
 refine SW0 rfl ts77 rfl ?_
 refine RK hK16 ?_
 refine w_seq fun _ hK18 => ?_
 refine w_draw mixed 37 (by kernel_rfl) ?_
 have hxo := hst x (List.mem_of_getElem? hx)
 have hb0 := headAt_b (best := false) hs hst i
 have hb1 := headAt_b (best := true) hs hst i
 obtain ⟨q1, q2, q3, q4, q5, q6⟩ := hs
 obtain ⟨p1, p2, p3, p4, p5⟩ := hxo
 simp only [SpanOk] at q2 q3 q4 q5 q6 p2 p3
 refine dS (FA 0 rfl fo26_0 rfl) ?_
 refine dS (L1 (Value.int .i64 (headAt false s ts i)) 2 rfl tk3 rfl rfl) ?_
 refine dS (FA 1 rfl fo77_1 rfl) ?_
 refine dS (FA 2 rfl fo26_1 rfl) ?_
 refine dS (L1 (Value.int .i64 x.Long.Hi) 0 rfl tk3 rfl rfl) ?_
 refine dS (FA 3 rfl fo77_2 rfl) ?_
 refine dS (FA 3 rfl fo26_0 rfl) ?_
 refine dS (L1 (Value.int .i64 x.Fall.Lo) 0 rfl tk3 rfl rfl) ?_
 refine dS (FA 3 rfl fo28_2 rfl) ?_
 refine dS (FA 4 rfl fo26_1 rfl) ?_
 refine dS (L1 (Value.int .i64 s.Rub.Hi) 3 rfl tk3 rfl rfl) ?_
 refine dS (FA 5 rfl fo28_3 rfl) ?_
 refine dS (FA 6 rfl fo26_1 rfl) ?_
 refine dS (L1 (Value.int .i64 s.Drag.Hi) 3 rfl tk3 rfl rfl) ?_
 refine dS (FA 7 rfl fo28_4 rfl) ?_
 refine dS (FA 7 rfl fo26_0 rfl) ?_
 refine dS (L1 (Value.int .i64 s.Weight.Lo) 3 rfl tk3 rfl rfl) ?_
 refine dS (CL (next_c (headAt false s ts i) x.Long.Hi x.Fall.Lo s.Rub.Hi s.Drag.Hi s.Weight.Lo (by first | assumption | omega | (simp; done) | (simp; omega)) (by first | assumption | omega | (simp; done) | (simp; omega)) (by first | assumption | omega | (simp; done) | (simp; omega)) (by first | assumption | omega | (simp; done) | (simp; omega)) (by first | assumption | omega | (simp; done) | (simp; omega)) (by first | assumption | omega | (simp; done) | (simp; omega))) (ha_nil) rfl) ?_
 refine dS (FA 1 rfl fo26_1 rfl) ?_
 refine dS (L1 (Value.int .i64 (headAt true s ts i)) 2 rfl tk3 rfl rfl) ?_
 refine dS (FA 1 rfl fo77_1 rfl) ?_
 refine dS (FA 1 rfl fo26_0 rfl) ?_
 refine dS (L1 (Value.int .i64 x.Long.Lo) 0 rfl tk3 rfl rfl) ?_
 refine dS (FA 3 rfl fo77_2 rfl) ?_
 refine dS (FA 4 rfl fo26_1 rfl) ?_
 refine dS (L1 (Value.int .i64 x.Fall.Hi) 0 rfl tk3 rfl rfl) ?_
 refine dS (FA 3 rfl fo28_2 rfl) ?_
 refine dS (FA 3 rfl fo26_0 rfl) ?_
 refine dS (L1 (Value.int .i64 s.Rub.Lo) 3 rfl tk3 rfl rfl) ?_
 refine dS (FA 5 rfl fo28_3 rfl) ?_
 refine dS (FA 5 rfl fo26_0 rfl) ?_
 refine dS (L1 (Value.int .i64 s.Drag.Lo) 3 rfl tk3 rfl rfl) ?_
 refine dS (FA 7 rfl fo28_4 rfl) ?_
 refine dS (FA 8 rfl fo26_1 rfl) ?_
 refine dS (L1 (Value.int .i64 s.Weight.Hi) 3 rfl tk3 rfl rfl) ?_
 refine dS (CL (next_c (headAt true s ts i) x.Long.Lo x.Fall.Hi s.Rub.Lo s.Drag.Lo s.Weight.Hi (by first | assumption | omega | (simp; done) | (simp; omega)) (by first | assumption | omega | (simp; done) | (simp; omega)) (by first | assumption | omega | (simp; done) | (simp; omega)) (by first | assumption | omega | (simp; done) | (simp; omega)) (by first | assumption | omega | (simp; done) | (simp; omega)) (by first | assumption | omega | (simp; done) | (simp; omega))) (ha_nil) rfl) ?_
 refine dS (SX (sd_build (xs := [(0, .tmp 42), (1, .tmp 60)]) (cs := (SpanV.cells (SpanV.mk (nextH (headAt false s ts i) x.Long.Hi x.Fall.Lo s.Rub.Hi s.Drag.Hi s.Weight.Lo) (nextH (headAt true s ts i) x.Long.Lo x.Fall.Hi s.Rub.Lo s.Drag.Lo s.Weight.Hi)))) rfl rfl (built_of tb26 rfl)) rfl rfl) ?_
 refine d_end ?_
 refine SW2 rfl ts26 rfl ?_
 refine RK hK18 ?_
 have hb19 : (SpanV.cells (SpanV.mk (nextH (headAt false s ts i) x.Long.Hi x.Fall.Lo s.Rub.Hi s.Drag.Hi s.Weight.Lo) (nextH (headAt true s ts i) x.Long.Lo x.Fall.Hi s.Rub.Lo s.Drag.Lo s.Weight.Hi))) = (SpanV.cells (spanAt s ts (i + 1))) := by exact congrArg SpanV.cells (span_next hx)
 rw [hb19]
 refine w_region ?_
 refine rS (MV rfl) ?_
 refine rS (LW 2 rfl tk26 rfl rfl) ?_
 refine r_bs (xs := [.tmp 63]) (cs := (SpanV.cells (spanAt s ts (i + 1)))) rfl te31 tz26 rfl rfl rfl rfl (by simp [Value.cells, SpanV.cells_length]) rfl rfl fun b20 => ?_
 refine r_append (es2 := (List.map SpanV.cells ((spansL s ts).take ((i + 1) + 1)))) (m' := ((spansL s ts).take ((i + 1) + 1)).length) 2 rfl rfl rfl ta31 rfl rfl (by simp) (has_rd_blk (es := List.map SpanV.cells [(spanAt s ts (i + 1))]) 0 rfl rfl (by simp [SpanV.cells_length]) rfl) (one_SpanV_cells _) (by simp [spansL_length]; omega) (by simp [spansL_length, maxLen]; omega) (by rw [spansL_take (i := i + 1) (by omega)]; simp) (by simp) rfl fun a21 c22 => ?_
 change RJ _ _ _ _ _ _ [_, _, (own a21 c22 26 2 (List.map SpanV.cells ((spansL s ts).take ((i + 1) + 1)))), _, _, _, _]
 refine rS (AG rfl) ?_
 refine r_nil ?_
 refine k_block ?_
 refine KK hK15 ?_
 refine w_region ?_
 refine rS (MV rfl) ?_
 refine rS (BI rfl (b_add ⟨by omega, by omega⟩)) ?_
 refine rS (AG rfl) ?_
 refine r_nil ?_
 refine k_then (hJ11 ⟨((i + 1), a21, c22), (by simp only []; omega)⟩ _ _ _ rfl (by first | omega | (simp; omega)) (Sub.cons rfl <| Sub.cons rfl <| Sub.cons rfl <| Sub.cons rfl <| Sub.cons rfl <| Sub.nil _) (fun w hs => St.sel [2, 3, 4, 5, 6] rfl rfl hs))

end Go.Proofs.Ytpbgdeojcefnmaa
