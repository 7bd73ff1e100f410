/-
  Walks: kreisel/track.plus, kreisel/track.open, (kreisel/track.survey).marks, (kreisel/track.survey).marks$1, (kreisel/track.survey).drop
-/
import Derived.Test.YtaehngpnlkokkaaTab
import Derived.Test.YtaehngpnlkokkaaShort
import Derived.Test.YtaehngpnlkokkaaDrop
import Derived.Test.YtaehngpnlkokkaaB1
namespace Go.Proofs.Ytaehngpnlkokkaa
open Go.RowKit
set_option linter.unusedVariables false

set_option maxRecDepth 100000 in
set_option maxHeartbeats 400000 in
theorem plus_c (a : SpanV) (l : List SpanV) (lA : Option Addr) (lC : Nat) (ha : In12 a) (hl : ∀ z ∈ l, In12 z) (hlen : l.length ≤ 4) :
    FnV Try.prog 70 [(Value.agg (SpanV.cells a).toArray), (Value.slice lA l.length lC)] [(rd lA l.length 2 (l.map SpanV.cells))] (Value.agg (SpanV.cells (plusF a l)).toArray) := by
 refine fnV_of go70 Try.func70 rfl rfl fun w0 Q hQ hN => ?_
 change WJ _ _ _ _ [(0, (Value.agg (SpanV.cells a).toArray)), (1, (Value.slice lA l.length lC))] [(rd lA l.length 2 (l.map SpanV.cells)).ro]
 refine WS fun _ hK1 => ?_
 refine BXA rfl fun b2 => ?_
 refine AL rfl tz34 fun b3 => ?_
 refine RK hK1 ?_
 refine w_seq fun _ hK4 => ?_
 refine WS fun _ hK5 => ?_
 refine rS (MV rfl) ?_
 refine rS (LN rfl ut81) ?_
 refine rS (MV rfl) ?_
 refine RK hK5 ?_
 refine w_block ?_
 have hinit : (0 ≤ l.length) := by exact Nat.zero_le _
 refine w_loop (ι := { z : Nat // (z ≤ l.length) }) (fun z => [(2, (Value.pointer (some ⟨b2, 0, none⟩))), (4, (Value.pointer (some ⟨b3, 0, none⟩))), (7, (Value.slice lA l.length lC)), (8, (Value.int .i64 ((l.length : Nat) : Int))), (9, (Value.int .i64 (z.1 : Int)))]) (fun z => [(blk b3 34 (SpanV.cells (SpanV.mk 0 0))), (blk b2 34 (SpanV.cells (plusF a (l.take z.1)))), (rd lA l.length 2 (l.map SpanV.cells)).ro]) (fun z => l.length - z.1) ⟨0, hinit⟩ (Sub.cons rfl <| Sub.cons rfl <| Sub.cons rfl <| Sub.cons rfl <| Sub.cons rfl <| Sub.nil _) (fun w hs => St.sel [0, 1, 2] rfl rfl hs) ?_
 clear hinit
 rintro ⟨i, hl2_0⟩ J6 hJ6
 change WJ _ _ _ _ [(2, (Value.pointer (some ⟨b2, 0, none⟩))), (4, (Value.pointer (some ⟨b3, 0, none⟩))), (7, (Value.slice lA l.length lC)), (8, (Value.int .i64 ((l.length : Nat) : Int))), (9, (Value.int .i64 (i : Int)))] [(blk b3 34 (SpanV.cells (SpanV.mk 0 0))), (blk b2 34 (SpanV.cells (plusF a (l.take i)))), (rd lA l.length 2 (l.map SpanV.cells)).ro]
 refine WS fun _ hK7 => ?_
 refine rS (BI rfl b_lss) ?_
 refine RK hK7 ?_
 refine w_seq fun _ hK8 => ?_
 refine w_if rfl (fun h9 => ?_) (fun h9 => ?_)
 rotate_left 1
 · replace h9 := DF h9
   refine w_exit ?_
   refine k_exit_then ?_
   refine k_exit_then ?_
   refine k_exit_same ?_
   refine KK hK4 ?_
   refine w_seq fun _ hK15 => ?_
   have hb16 : (SpanV.cells (plusF a (l.take i))) = (SpanV.cells (plusF a l)) := by rw [plus_all (by omega)]
   rw [hb16]
   refine w_region ?_
   refine rS (LW 1 rfl tk34 rfl rfl) ?_
   refine SW0 rfl ts34 rfl ?_
   refine RK hK15 ?_
   refine w_ret ?_
   refine hQ _ _ _ (l_nil (vs := [(Value.agg (SpanV.cells (plusF a l)).toArray)]) ⟨⟨_, rfl, .inl ⟨_, _, tk34, at_blk (vs := (SpanV.cells (plusF a l))) 0 rfl rfl, rfl, rfl⟩⟩, trivial⟩ fun w hs => endV ?_ hs)
   show (Value.agg (SpanV.cells (plusF a l)).toArray) = (Value.agg (SpanV.cells (plusF a l)).toArray)
   clear hs w hQ hN hK15 hK8 hK7 hK5 hK4 hK1
   rfl
 replace h9 := DT h9
 refine WK hK8 ?_
 refine w_seq fun _ hK10 => ?_
 refine w_block ?_
 refine WS fun _ hK11 => ?_
 obtain ⟨x, hx⟩ : ∃ y_, l[i]? = some y_ := ⟨l[i]'(by omega), List.getElem?_eq_getElem _⟩
 have hxm : (l.map SpanV.cells)[i]? = some (SpanV.cells x) := by rw [List.getElem?_map, hx]; rfl
 refine rS (IA i rfl (has_at 2 rfl) te81 (by decide) (by omega) (by omega)) ?_
 refine rS (LEN i 0 (SpanV.cells x) rfl tk34 (has_at 2 rfl) hxm rfl (by decide) rfl rfl) ?_
 refine AL rfl tz34 fun b12 => ?_
 refine SW0 rfl ts34 rfl ?_
 refine RK hK11 ?_
 refine w_region ?_
 have hb := plus_b ha hl i
 have hz := hl x (List.mem_of_getElem? hx)
 unfold In12 at hz
 refine rS (FA 0 rfl fo34_0 rfl) ?_
 refine rS (L1 (Value.int .i64 ((plusF a (l.take i)).Lo)) 2 rfl tk3 rfl rfl) ?_
 refine rS (FA 0 rfl fo34_0 rfl) ?_
 refine rS (L1 (Value.int .i64 x.Lo) 0 rfl tk3 rfl rfl) ?_
 refine rS (BI rfl (b_add ⟨by omega, by omega⟩)) ?_
 refine rS (FA 1 rfl fo34_1 rfl) ?_
 refine rS (L1 (Value.int .i64 ((plusF a (l.take i)).Hi)) 2 rfl tk3 rfl rfl) ?_
 refine rS (FA 1 rfl fo34_1 rfl) ?_
 refine rS (L1 (Value.int .i64 x.Hi) 0 rfl tk3 rfl rfl) ?_
 refine rS (BI rfl (b_add ⟨by omega, by omega⟩)) ?_
 refine rS (SX (sd_build (xs := [(0, .tmp 17), (1, .tmp 22)]) (cs := (SpanV.cells (SpanV.mk (((plusF a (l.take i)).Lo) + x.Lo) (((plusF a (l.take i)).Hi) + x.Hi)))) rfl rfl (built_of tb34 rfl)) rfl rfl) ?_
 refine SW2 rfl ts34 rfl ?_
 refine r_nil ?_
 refine k_block ?_
 refine KK hK10 ?_
 have hb13 : (SpanV.cells (SpanV.mk (((plusF a (l.take i)).Lo) + x.Lo) (((plusF a (l.take i)).Hi) + x.Hi))) = (SpanV.cells (plusF a (l.take (i + 1)))) := by rw [plus_take hx]; rfl
 rw [hb13]
 refine w_region ?_
 refine rS (BI rfl (b_add ⟨by omega, by omega⟩)) ?_
 refine rS (MV rfl) ?_
 refine r_nil ?_
 have hb14 : (Value.int .i64 ((i + 1) : Int)) = (Value.int .i64 ((i : Int) + 1)) := by exact congrArg (Value.int .i64) (by omega)
 refine k_then (hJ6 ⟨(i + 1), (by first | omega | (simp only []; omega))⟩ _ _ _ rfl (by first | omega | (simp; omega)) (Sub.cons rfl <| Sub.cons rfl <| Sub.cons rfl <| Sub.cons rfl <| sub_val rfl hb14 <| Sub.nil _) (fun w hs => St.sel [1, 2, 3] rfl rfl hs))

set_option maxRecDepth 100000 in
set_option maxHeartbeats 400000 in
theorem topen_c (ts : List StretchV) (tsA : Option Addr) (tsC : Nat) (hlen : ts.length ≤ 1000000) (hside : ∀ x ∈ ts, 0 ≤ x.Side ∧ x.Side ≤ 255) :
    FnV Try.prog 67 [(Value.agg (TrackV.cells (TrackV.mk (Slc.mk tsA ts.length tsC))).toArray)] [(rd tsA ts.length 9 (ts.map StretchV.cells))] (Value.tuple [(Value.agg (SurveyV.cells (SurveyV.mk (TrackV.mk (Slc.mk tsA ts.length tsC)))).toArray), (Value.int .i64 (if trackOk ts = true then 0 else 10))].toArray) := by
 refine fnV_of go67 Try.func67 rfl rfl fun w0 Q hQ hN => ?_
 change WJ _ _ _ _ [(0, (Value.agg (TrackV.cells (TrackV.mk (Slc.mk tsA ts.length tsC))).toArray))] [(rd tsA ts.length 9 (ts.map StretchV.cells)).ro]
 refine WS fun _ hK1 => ?_
 refine BXA rfl fun b2 => ?_
 refine AL rfl tz117 fun b3 => ?_
 refine rS (AG rfl) ?_
 refine RK hK1 ?_
 refine w_seq fun _ hK4 => ?_
 refine w_draw mixed 4 (by kernel_rfl) ?_
 refine dS (LW 1 rfl tk24 rfl rfl) ?_
 refine dS (SX (sd_build (xs := [(0, .tmp 4)]) (cs := (SurveyV.cells (SurveyV.mk (TrackV.mk (Slc.mk tsA ts.length tsC))))) rfl rfl (built_of tb117 rfl)) rfl rfl) ?_
 refine dS (LW 1 rfl tk24 rfl rfl) ?_
 refine dS (CL (tcheck_c ts tsA tsC hlen hside) (ha_at 2 rfl rfl <| ha_nil) rfl) ?_
 refine d_end ?_
 refine SW0 rfl ts117 rfl ?_
 refine rS (AG rfl) ?_
 refine RK hK4 ?_
 refine w_ret ?_
 refine hQ _ _ _ (l_nil (vs := [(Value.agg (SurveyV.cells (SurveyV.mk (TrackV.mk (Slc.mk tsA ts.length tsC)))).toArray), (Value.int .i64 (if trackOk ts = true then 0 else 10))]) ⟨⟨_, rfl, .inl ⟨_, _, tk117, at_blk (vs := (SurveyV.cells (SurveyV.mk (TrackV.mk (Slc.mk tsA ts.length tsC))))) 0 rfl rfl, rfl, rfl⟩⟩, rfl, trivial⟩ fun w hs => endV ?_ hs)
 show (Value.tuple [(Value.agg (SurveyV.cells (SurveyV.mk (TrackV.mk (Slc.mk tsA ts.length tsC)))).toArray), (Value.int .i64 (if trackOk ts = true then 0 else 10))].toArray) = (Value.tuple [(Value.agg (SurveyV.cells (SurveyV.mk (TrackV.mk (Slc.mk tsA ts.length tsC)))).toArray), (Value.int .i64 (if trackOk ts = true then 0 else 10))].toArray)
 clear hs w hQ hN hK4 hK1
 rfl

set_option maxRecDepth 100000 in
set_option maxHeartbeats 400000 in
theorem marks_c (f : Int) (tsA : Option Addr) (tsN : Nat) (tsC : Nat) :
    FnX Try.prog 102 [(Value.agg (SurveyV.cells (SurveyV.mk (TrackV.mk (Slc.mk tsA tsN tsC)))).toArray), (Value.int .i64 f)] [] (fun (x : Nat × Nat) => (Value.func (.func 112) [].toArray [(Value.pointer (some ⟨x.1, 0, none⟩)), (Value.pointer (some ⟨x.2, 0, none⟩))].toArray)) (fun (x : Nat × Nat) => True) (fun (x : Nat × Nat) => [(blk x.1 3 [(Value.int .i64 f)]), (blk x.2 117 (SurveyV.cells (SurveyV.mk (TrackV.mk (Slc.mk tsA tsN tsC)))))]) := by
 refine fnX_of go102 Try.func102 rfl rfl fun w0 Q hQ hN => ?_
 change WJ _ _ _ _ [(0, (Value.agg (SurveyV.cells (SurveyV.mk (TrackV.mk (Slc.mk tsA tsN tsC)))).toArray)), (1, (Value.int .i64 f))] []
 refine WS fun _ hK1 => ?_
 refine BXA rfl fun b2 => ?_
 refine BX1 rfl rfl fun b3 => ?_
 refine rS (AG rfl) ?_
 refine RK hK1 ?_
 refine WS fun _ hK4 => ?_
 refine rS (FU rfl) ?_
 refine rS (AG rfl) ?_
 refine RK hK4 ?_
 refine w_ret ?_
 refine hQ _ _ _ (l_nil (vs := [(Value.func (.func 112) [].toArray [(Value.pointer (some ⟨b3, 0, none⟩)), (Value.pointer (some ⟨b2, 0, none⟩))].toArray)]) ⟨rfl, trivial⟩ fun w hs => endX (b3, b2) [0, 1] ?_ ?_ rfl rfl rfl hs)
 · rfl
 · trivial

set_option maxRecDepth 100000 in
set_option maxHeartbeats 400000 in
theorem marksit_c (ts : List StretchV) (tsA : Option Addr) (tsC : Nat) (f : Int) (g1 : Nat) (g2 : Nat) (hst : ∀ x ∈ ts, StretchOk x) (hlen : ts.length ≤ 12) (hf : 0 ≤ f ∧ f ≤ ts.length) :
    SeqV Try.prog 112 [] [(Value.pointer (some ⟨g1, 0, none⟩)), (Value.pointer (some ⟨g2, 0, none⟩))] [(rd tsA ts.length 9 (ts.map StretchV.cells)), (blk g1 3 [(Value.int .i64 f)]), (blk g2 117 (SurveyV.cells (SurveyV.mk (TrackV.mk (Slc.mk tsA ts.length tsC)))))] (markV ts f.toNat) := by
 refine seqV_of go112 Try.func112 rfl rfl fun l J Z A0 w0 Q hY hJ0 hF0 hQ hN => ?_
 change WJ _ _ _ _ [(0, (Value.func (.yield l) #[] #[])), (1, (Value.pointer (some ⟨g1, 0, none⟩))), (2, (Value.pointer (some ⟨g2, 0, none⟩)))] [A0, (rd tsA ts.length 9 (ts.map StretchV.cells)).ro, (blk g1 3 [(Value.int .i64 f)]).ro, (blk g2 117 (SurveyV.cells (SurveyV.mk (TrackV.mk (Slc.mk tsA ts.length tsC))))).ro]
 refine WS fun _ hK1 => ?_
 refine AL rfl tz34 fun b2 => ?_
 refine AL rfl tz34 fun b3 => ?_
 refine RK hK1 ?_
 refine WS fun _ hK4 => ?_
 refine rS (L1Q 4 rfl tk3 rfl) ?_
 refine rS (AG rfl) ?_
 refine RK hK4 ?_
 refine w_block ?_
 have hinit : (0 ≤ ts.length - f.toNat) ∧ (J 0 A0) ∧ (Fo A0 w0 A0) := by exact ⟨Nat.zero_le _, hJ0, hF0⟩
 have hb5 : (Value.int .i64 (f + ((0 : Nat) : Int))) = (Value.int .i64 f) := by exact congrArg (Value.int .i64) (by omega)
 refine w_loop (ι := { z : Nat × Assn // (z.1 ≤ ts.length - f.toNat) ∧ (J z.1 z.2) ∧ (Fo A0 w0 z.2) }) (fun z => [(0, (Value.func (.yield l) #[] #[])), (1, (Value.pointer (some ⟨g1, 0, none⟩))), (2, (Value.pointer (some ⟨g2, 0, none⟩))), (4, (Value.pointer (some ⟨b2, 0, none⟩))), (5, (Value.pointer (some ⟨b3, 0, none⟩))), (6, (Value.int .i64 (f + ((z.1.1 : Nat) : Int))))]) (fun z => [(blk b3 34 (SpanV.cells (fallF ts f.toNat z.1.1))), (blk b2 34 (SpanV.cells (longF ts f.toNat z.1.1))), z.1.2, (rd tsA ts.length 9 (ts.map StretchV.cells)).ro, (blk g1 3 [(Value.int .i64 f)]).ro, (blk g2 117 (SurveyV.cells (SurveyV.mk (TrackV.mk (Slc.mk tsA ts.length tsC))))).ro]) (fun z => ts.length - f.toNat - z.1.1) ⟨(0, A0), hinit⟩ (Sub.cons rfl <| Sub.cons rfl <| Sub.cons rfl <| Sub.cons rfl <| Sub.cons rfl <| sub_val rfl hb5 <| Sub.nil _) (fun w hs => St.sel [0, 1, 2, 3, 4, 5] rfl rfl hs) ?_
 clear hinit
 rintro ⟨⟨k, A⟩, ⟨hl2_0, hl2_1, hl2_2⟩⟩ J6 hJ6
 try dsimp only at hl2_0 hl2_1 hl2_2
 change WJ _ _ _ _ [(0, (Value.func (.yield l) #[] #[])), (1, (Value.pointer (some ⟨g1, 0, none⟩))), (2, (Value.pointer (some ⟨g2, 0, none⟩))), (4, (Value.pointer (some ⟨b2, 0, none⟩))), (5, (Value.pointer (some ⟨b3, 0, none⟩))), (6, (Value.int .i64 (f + ((k : Nat) : Int))))] [(blk b3 34 (SpanV.cells (fallF ts f.toNat k))), (blk b2 34 (SpanV.cells (longF ts f.toNat k))), A, (rd tsA ts.length 9 (ts.map StretchV.cells)).ro, (blk g1 3 [(Value.int .i64 f)]).ro, (blk g2 117 (SurveyV.cells (SurveyV.mk (TrackV.mk (Slc.mk tsA ts.length tsC))))).ro]
 refine w_seq fun _ hK7 => ?_
 refine WS fun _ hK8 => ?_
 refine rS (MV rfl) ?_
 refine rS (LW 1 rfl tk34 rfl rfl) ?_
 refine rS (LW 0 rfl tk34 rfl rfl) ?_
 refine r_yield 2 hY hl2_1 hl2_2 rfl rfl rfl (markV_get (by omega)) rfl rfl (fun B9 hJ10 hF11 => ?_) (fun B9 hJ10 hF11 => ?_)
 rotate_left 1
 · refine rS (MV rfl) ?_
   refine rS (OX rfl) ?_
   refine rS (OX rfl) ?_
   refine rS (OX rfl) ?_
   refine rS (OX rfl) ?_
   refine rS (OX rfl) ?_
   refine rS (OX rfl) ?_
   refine rS (PK rfl) ?_
   refine RK hK8 ?_
   refine w_if_false rfl ?_
   refine w_exit ?_
   refine k_exit_then ?_
   refine k_exit_then ?_
   refine k_exit_same ?_
   refine hN _ _ _ (l_nil (vs := []) trivial fun w hs => endSz 2 rfl hJ10 hF11 hs)
 refine rS (MV rfl) ?_
 refine rS (MV rfl) ?_
 refine rS (FA 0 rfl fo117_0 rfl) ?_
 refine rS (FA 0 rfl fo24_0 rfl) ?_
 refine rS (L1R (Value.slice tsA ts.length tsC) 5 rfl tk22 rfl rfl) ?_
 refine rS (LN rfl ut22) ?_
 refine rS (BI rfl b_lss) ?_
 refine rS (PK rfl) ?_
 refine RK hK8 ?_
 refine w_if rfl (fun h12 => ?_) (fun h12 => ?_)
 rotate_left 1
 · replace h12 := DF h12
   refine w_exit ?_
   refine k_exit_then ?_
   refine k_exit_then ?_
   refine k_exit_same ?_
   refine hN _ _ _ (l_nil (vs := []) trivial fun w hs => endS 2 rfl (by rw [markV_length]; have e : ts.length - f.toNat + 1 = k + 1 := (by omega); rw [e]; exact hJ10) hF11 hs)
 replace h12 := DT h12
 refine WK hK7 ?_
 refine w_seq fun _ hK13 => ?_
 refine w_block ?_
 refine w_drawN mixed [0, 1, 2, 3, 4, 5, 6, 7, 10, 11, 12, 13, 14, 15, 16, 17] [8, 9, 18, 19, 20, 21] [true, false, false, false, false, false, false, false, true, false, false, false, false, false, false, false] [8, 9, 18] [B9, (rd tsA ts.length 9 (ts.map StretchV.cells)).ro, (blk g1 3 [(Value.int .i64 f)]).ro, (blk g2 117 (SurveyV.cells (SurveyV.mk (TrackV.mk (Slc.mk tsA ts.length tsC))))).ro] [(blk b3 34 (SpanV.cells (fallF ts f.toNat k))), (blk b2 34 (SpanV.cells (longF ts f.toNat k))), B9, (rd tsA ts.length 9 (ts.map StretchV.cells)).ro, (blk g1 3 [(Value.int .i64 f)]).ro, (blk g2 117 (SurveyV.cells (SurveyV.mk (TrackV.mk (Slc.mk tsA ts.length tsC))))).ro] (by kernel_rfl) (fun w hs => St.sel [2, 3, 4, 5] rfl rfl hs) (fun w hs => St.sel [0, 1, 2, 3, 4, 5] rfl rfl hs) ?_
 refine fS rfl (LW 1 rfl tk34 rfl rfl) ?_
 refine eS rfl (FA 0 rfl fo117_0 rfl) ?_
 refine eS rfl (FA 0 rfl fo24_0 rfl) ?_
 refine eS rfl (L1R (Value.slice tsA ts.length tsC) 3 rfl tk22 rfl rfl) ?_
 refine eS rfl (MV rfl) ?_
 obtain ⟨x, hx⟩ : ∃ y_, ts[(f.toNat + k)]? = some y_ := ⟨ts[(f.toNat + k)]'(by omega), List.getElem?_eq_getElem _⟩
 have hxm : (ts.map StretchV.cells)[(f.toNat + k)]? = some (StretchV.cells x) := by rw [List.getElem?_map, hx]; rfl
 refine eS rfl (IA (f.toNat + k) rfl (has_at 1 rfl) te22 (by decide) (by omega) (by omega)) ?_
 have hxo := hst x (List.mem_of_getElem? hx)
 refine eS rfl (FAR (((f.toNat + k) * 9) + 1) rfl (has_at 1 rfl) (Nat.mul_pos (by omega) (by decide)) fo126_1 rfl) ?_
 refine eS rfl (LEN (f.toNat + k) 1 (SpanV.cells x.Long) rfl tk34 (has_at 1 rfl) hxm rfl (by decide) rfl rfl) ?_
 refine fS rfl (LW 0 rfl tk34 rfl rfl) ?_
 refine eS rfl (FA 0 rfl fo117_0 rfl) ?_
 refine eS rfl (FA 0 rfl fo24_0 rfl) ?_
 refine eS rfl (L1R (Value.slice tsA ts.length tsC) 3 rfl tk22 rfl rfl) ?_
 refine eS rfl (MV rfl) ?_
 refine eS rfl (IA (f.toNat + k) rfl (has_at 1 rfl) te22 (by decide) (by omega) (by omega)) ?_
 refine eS rfl (FAR (((f.toNat + k) * 9) + 3) rfl (has_at 1 rfl) (Nat.mul_pos (by omega) (by decide)) fo126_2 rfl) ?_
 refine eS rfl (LEN (f.toNat + k) 3 (SpanV.cells x.Fall) rfl tk34 (has_at 1 rfl) hxm rfl (by decide) rfl rfl) ?_
 refine d_fin rfl ?_
 refine n_step [8, 18] (by kernel_rfl) (n_cons ?_ <| n_cons ?_ <| n_nil)
 rotate_left 1
 · refine n_op5 (rem' := [8, 9, 19, 20, 21]) rfl (by kernel_rfl) fun T34 hT34 => ?_
   refine r_bs (xs := [.tmp 39]) (cs := (SpanV.cells x.Fall)) rfl te81 tz34 rfl rfl rfl rfl (by simp [Value.cells, SpanV.cells_length]) rfl rfl fun b35 => ?_
   refine r_nil (hT34 _ _ (fun w hs => St.sel [3, 4, 5, 6] rfl rfl hs) (fun w hs => St.sel [1, 2, 3, 4, 5, 6] rfl rfl hs) ?_)
   refine n_step [8] (by kernel_rfl) (n_cons ?_ <| n_nil)
   refine n_op5 (rem' := [9, 19, 20, 21]) rfl (by kernel_rfl) fun T36 hT36 => ?_
   refine r_bs (xs := [.tmp 29]) (cs := (SpanV.cells x.Long)) rfl te81 tz34 rfl rfl rfl rfl (by simp [Value.cells, SpanV.cells_length]) rfl rfl fun b37 => ?_
   refine r_nil (hT36 _ _ (fun w hs => St.sel [4, 5, 6, 7] rfl rfl hs) (fun w hs => St.sel [2, 3, 4, 5, 6, 7] rfl rfl hs) ?_)
   refine n_step [9] (by kernel_rfl) (n_cons ?_ <| n_nil)
   refine n_op5 (rem' := [19, 20, 21]) rfl (by kernel_rfl) fun T38 hT38 => ?_
   refine rS (CL (FnV.eq (plus_c (longF ts f.toNat k) ([x.Long]) (some ⟨b37, 0, none⟩) 1 (by exact longF_in hst (by omega)) (by intro z hz; simp only [List.mem_singleton] at hz; subst hz; exact long_in12 hxo) (by simp)) plus_one) (ha_cons (has_rd_blk 0 rfl rfl (by simp [SpanV.cells_length]) rfl) <| ha_nil) rfl) ?_
   refine r_nil (hT38 _ _ (fun w hs => St.sel [4, 5, 6, 7] rfl rfl hs) (fun w hs => St.sel [2, 3, 4, 5, 6, 7] rfl rfl hs) ?_)
   refine n_step [19] (by kernel_rfl) (n_cons ?_ <| n_nil)
   refine n_op (rem' := [20, 21]) rfl (by kernel_rfl) rfl fun T39 hT39 => ?_
   refine rS (CL (FnV.eq (plus_c (fallF ts f.toNat k) ([x.Fall]) (some ⟨b35, 0, none⟩) 1 (by exact fallF_in hst (by omega)) (by intro z hz; simp only [List.mem_singleton] at hz; subst hz; exact fall_in12 hxo) (by simp)) plus_one) (ha_cons (has_rd_blk 1 rfl rfl (by simp [SpanV.cells_length]) rfl) <| ha_nil) rfl) ?_
   refine r_nil (hT39 _ _ (fun w hs => St.sel [4, 5, 6, 7] rfl rfl hs) ?_)
   refine n_step [20] (by kernel_rfl) (n_cons ?_ <| n_nil)
   refine n_op (rem' := [21]) rfl (by kernel_rfl) rfl fun T40 hT40 => ?_
   refine SW3 rfl ts34 rfl ?_
   refine r_nil (hT40 _ _ (fun w hs => St.sel [4, 5, 6, 7] rfl rfl hs) ?_)
   refine n_step [21] (by kernel_rfl) (n_cons ?_ <| n_nil)
   refine n_op (rem' := []) rfl (by kernel_rfl) rfl fun T41 hT41 => ?_
   refine SW2 rfl ts34 rfl ?_
   refine r_nil (hT41 _ _ (fun w hs => St.sel [4, 5, 6, 7] rfl rfl hs) ?_)
   refine n_fin ?_
   refine k_block ?_
   refine KK hK13 ?_
   have hb42 : (SpanV.cells (addZ (longF ts f.toNat k) x.Long)) = (SpanV.cells (longF ts f.toNat (k + 1))) := by rw [longF_succ hx]
   rw [hb42]
   have hb43 : (SpanV.cells (addZ (fallF ts f.toNat k) x.Fall)) = (SpanV.cells (fallF ts f.toNat (k + 1))) := by rw [fallF_succ hx]
   rw [hb43]
   refine w_region ?_
   refine rS (MV rfl) ?_
   refine rS (BI rfl (b_add ⟨by omega, by omega⟩)) ?_
   refine rS (AG rfl) ?_
   refine r_nil ?_
   have hb44 : (Value.int .i64 (f + (((k + 1) : Nat) : Int))) = (Value.int .i64 ((f + ((k : Nat) : Int)) + 1)) := by exact congrArg (Value.int .i64) (by omega)
   refine k_then (hJ6 ⟨((k + 1), B9), ⟨by omega, hJ10, hF11⟩⟩ _ _ _ rfl (by first | omega | (simp; omega)) (Sub.cons rfl <| Sub.cons rfl <| Sub.cons rfl <| Sub.cons rfl <| Sub.cons rfl <| sub_val rfl hb44 <| Sub.nil _) (fun w hs => St.sel [2, 3, 4, 5, 6, 7] rfl rfl hs))
 refine n_op5 (rem' := [9, 18, 19, 20, 21]) rfl (by kernel_rfl) fun T14 hT14 => ?_
 refine r_bs (xs := [.tmp 29]) (cs := (SpanV.cells x.Long)) rfl te81 tz34 rfl rfl rfl rfl (by simp [Value.cells, SpanV.cells_length]) rfl rfl fun b15 => ?_
 refine r_nil (hT14 _ _ (fun w hs => St.sel [3, 4, 5, 6] rfl rfl hs) (fun w hs => St.sel [1, 2, 3, 4, 5, 6] rfl rfl hs) ?_)
 refine n_step [9, 18] (by kernel_rfl) (n_cons ?_ <| n_cons ?_ <| n_nil)
 rotate_left 1
 · refine n_op5 (rem' := [9, 19, 20, 21]) rfl (by kernel_rfl) fun T25 hT25 => ?_
   refine r_bs (xs := [.tmp 39]) (cs := (SpanV.cells x.Fall)) rfl te81 tz34 rfl rfl rfl rfl (by simp [Value.cells, SpanV.cells_length]) rfl rfl fun b26 => ?_
   refine r_nil (hT25 _ _ (fun w hs => St.sel [4, 5, 6, 7] rfl rfl hs) (fun w hs => St.sel [2, 3, 4, 5, 6, 7] rfl rfl hs) ?_)
   refine n_step [9] (by kernel_rfl) (n_cons ?_ <| n_nil)
   refine n_op5 (rem' := [19, 20, 21]) rfl (by kernel_rfl) fun T27 hT27 => ?_
   refine rS (CL (FnV.eq (plus_c (longF ts f.toNat k) ([x.Long]) (some ⟨b15, 0, none⟩) 1 (by exact longF_in hst (by omega)) (by intro z hz; simp only [List.mem_singleton] at hz; subst hz; exact long_in12 hxo) (by simp)) plus_one) (ha_cons (has_rd_blk 1 rfl rfl (by simp [SpanV.cells_length]) rfl) <| ha_nil) rfl) ?_
   refine r_nil (hT27 _ _ (fun w hs => St.sel [4, 5, 6, 7] rfl rfl hs) (fun w hs => St.sel [2, 3, 4, 5, 6, 7] rfl rfl hs) ?_)
   refine n_step [19] (by kernel_rfl) (n_cons ?_ <| n_nil)
   refine n_op (rem' := [20, 21]) rfl (by kernel_rfl) rfl fun T28 hT28 => ?_
   refine rS (CL (FnV.eq (plus_c (fallF ts f.toNat k) ([x.Fall]) (some ⟨b26, 0, none⟩) 1 (by exact fallF_in hst (by omega)) (by intro z hz; simp only [List.mem_singleton] at hz; subst hz; exact fall_in12 hxo) (by simp)) plus_one) (ha_cons (has_rd_blk 0 rfl rfl (by simp [SpanV.cells_length]) rfl) <| ha_nil) rfl) ?_
   refine r_nil (hT28 _ _ (fun w hs => St.sel [4, 5, 6, 7] rfl rfl hs) ?_)
   refine n_step [20] (by kernel_rfl) (n_cons ?_ <| n_nil)
   refine n_op (rem' := [21]) rfl (by kernel_rfl) rfl fun T29 hT29 => ?_
   refine SW3 rfl ts34 rfl ?_
   refine r_nil (hT29 _ _ (fun w hs => St.sel [4, 5, 6, 7] rfl rfl hs) ?_)
   refine n_step [21] (by kernel_rfl) (n_cons ?_ <| n_nil)
   refine n_op (rem' := []) rfl (by kernel_rfl) rfl fun T30 hT30 => ?_
   refine SW2 rfl ts34 rfl ?_
   refine r_nil (hT30 _ _ (fun w hs => St.sel [4, 5, 6, 7] rfl rfl hs) ?_)
   refine n_fin ?_
   refine k_block ?_
   refine KK hK13 ?_
   have hb31 : (SpanV.cells (addZ (longF ts f.toNat k) x.Long)) = (SpanV.cells (longF ts f.toNat (k + 1))) := by rw [longF_succ hx]
   rw [hb31]
   have hb32 : (SpanV.cells (addZ (fallF ts f.toNat k) x.Fall)) = (SpanV.cells (fallF ts f.toNat (k + 1))) := by rw [fallF_succ hx]
   rw [hb32]
   refine w_region ?_
   refine rS (MV rfl) ?_
   refine rS (BI rfl (b_add ⟨by omega, by omega⟩)) ?_
   refine rS (AG rfl) ?_
   refine r_nil ?_
   have hb33 : (Value.int .i64 (f + (((k + 1) : Nat) : Int))) = (Value.int .i64 ((f + ((k : Nat) : Int)) + 1)) := by exact congrArg (Value.int .i64) (by omega)
   refine k_then (hJ6 ⟨((k + 1), B9), ⟨by omega, hJ10, hF11⟩⟩ _ _ _ rfl (by first | omega | (simp; omega)) (Sub.cons rfl <| Sub.cons rfl <| Sub.cons rfl <| Sub.cons rfl <| Sub.cons rfl <| sub_val rfl hb33 <| Sub.nil _) (fun w hs => St.sel [2, 3, 4, 5, 6, 7] rfl rfl hs))
 refine n_op5 (rem' := [18, 19, 20, 21]) rfl (by kernel_rfl) fun T16 hT16 => ?_
 refine rS (CL (FnV.eq (plus_c (longF ts f.toNat k) ([x.Long]) (some ⟨b15, 0, none⟩) 1 (by exact longF_in hst (by omega)) (by intro z hz; simp only [List.mem_singleton] at hz; subst hz; exact long_in12 hxo) (by simp)) plus_one) (ha_cons (has_rd_blk 0 rfl rfl (by simp [SpanV.cells_length]) rfl) <| ha_nil) rfl) ?_
 refine r_nil (hT16 _ _ (fun w hs => St.sel [3, 4, 5, 6] rfl rfl hs) (fun w hs => St.sel [1, 2, 3, 4, 5, 6] rfl rfl hs) ?_)
 refine n_step [18] (by kernel_rfl) (n_cons ?_ <| n_nil)
 refine n_op5 (rem' := [19, 20, 21]) rfl (by kernel_rfl) fun T17 hT17 => ?_
 refine r_bs (xs := [.tmp 39]) (cs := (SpanV.cells x.Fall)) rfl te81 tz34 rfl rfl rfl rfl (by simp [Value.cells, SpanV.cells_length]) rfl rfl fun b18 => ?_
 refine r_nil (hT17 _ _ (fun w hs => St.sel [4, 5, 6, 7] rfl rfl hs) (fun w hs => St.sel [2, 3, 4, 5, 6, 7] rfl rfl hs) ?_)
 refine n_step [19] (by kernel_rfl) (n_cons ?_ <| n_nil)
 refine n_op (rem' := [20, 21]) rfl (by kernel_rfl) rfl fun T19 hT19 => ?_
 refine rS (CL (FnV.eq (plus_c (fallF ts f.toNat k) ([x.Fall]) (some ⟨b18, 0, none⟩) 1 (by exact fallF_in hst (by omega)) (by intro z hz; simp only [List.mem_singleton] at hz; subst hz; exact fall_in12 hxo) (by simp)) plus_one) (ha_cons (has_rd_blk 0 rfl rfl (by simp [SpanV.cells_length]) rfl) <| ha_nil) rfl) ?_
 refine r_nil (hT19 _ _ (fun w hs => St.sel [4, 5, 6, 7] rfl rfl hs) ?_)
 refine n_step [20] (by kernel_rfl) (n_cons ?_ <| n_nil)
 refine n_op (rem' := [21]) rfl (by kernel_rfl) rfl fun T20 hT20 => ?_
 refine SW3 rfl ts34 rfl ?_
 refine r_nil (hT20 _ _ (fun w hs => St.sel [4, 5, 6, 7] rfl rfl hs) ?_)
 refine n_step [21] (by kernel_rfl) (n_cons ?_ <| n_nil)
 refine n_op (rem' := []) rfl (by kernel_rfl) rfl fun T21 hT21 => ?_
 refine SW2 rfl ts34 rfl ?_
 refine r_nil (hT21 _ _ (fun w hs => St.sel [4, 5, 6, 7] rfl rfl hs) ?_)
 refine n_fin ?_
 refine k_block ?_
 refine KK hK13 ?_
 have hb22 : (SpanV.cells (addZ (longF ts f.toNat k) x.Long)) = (SpanV.cells (longF ts f.toNat (k + 1))) := by rw [longF_succ hx]
 rw [hb22]
 have hb23 : (SpanV.cells (addZ (fallF ts f.toNat k) x.Fall)) = (SpanV.cells (fallF ts f.toNat (k + 1))) := by rw [fallF_succ hx]
 rw [hb23]
 refine w_region ?_
 refine rS (MV rfl) ?_
 refine rS (BI rfl (b_add ⟨by omega, by omega⟩)) ?_
 refine rS (AG rfl) ?_
 refine r_nil ?_
 have hb24 : (Value.int .i64 (f + (((k + 1) : Nat) : Int))) = (Value.int .i64 ((f + ((k : Nat) : Int)) + 1)) := by exact congrArg (Value.int .i64) (by omega)
 refine k_then (hJ6 ⟨((k + 1), B9), ⟨by omega, hJ10, hF11⟩⟩ _ _ _ rfl (by first | omega | (simp; omega)) (Sub.cons rfl <| Sub.cons rfl <| Sub.cons rfl <| Sub.cons rfl <| Sub.cons rfl <| sub_val rfl hb24 <| Sub.nil _) (fun w hs => St.sel [2, 3, 4, 5, 6, 7] rfl rfl hs))

set_option maxRecDepth 100000 in
set_option maxHeartbeats 400000 in
theorem drop_c (ts : List StretchV) (tsA : Option Addr) (tsC : Nat) (f : Int) (t : Int) (hst : ∀ x ∈ ts, StretchOk x) (hlen : ts.length ≤ 12) (hf : 0 ≤ f ∧ f ≤ t ∧ t ≤ ts.length) :
    FnV Try.prog 69 [(Value.agg (SurveyV.cells (SurveyV.mk (TrackV.mk (Slc.mk tsA ts.length tsC)))).toArray), (Value.int .i64 f), (Value.int .i64 t)] [(rd tsA ts.length 9 (ts.map StretchV.cells))] (Value.tuple [(Value.agg (SpanV.cells (longF ts f.toNat (t - f).toNat)).toArray), (Value.agg (SpanV.cells (fallF ts f.toNat (t - f).toNat)).toArray)].toArray) := by
 refine fnV_of go69 Try.func69 rfl rfl fun w0 Q hQ hN => ?_
 change WJ _ _ _ _ [(0, (Value.agg (SurveyV.cells (SurveyV.mk (TrackV.mk (Slc.mk tsA ts.length tsC)))).toArray)), (1, (Value.int .i64 f)), (2, (Value.int .i64 t))] [(rd tsA ts.length 9 (ts.map StretchV.cells)).ro]
 refine WS fun _ hK1 => ?_
 refine BXA rfl fun b2 => ?_
 refine BX1 rfl rfl fun b3 => ?_
 refine BX1 rfl rfl fun b4 => ?_
 refine AL rfl tz34 fun b5 => ?_
 refine AL rfl tz34 fun b6 => ?_
 refine RK hK1 ?_
 refine w_seq fun _ hK7 => ?_
 refine WS fun _ hK8 => ?_
 refine rS (LW 4 rfl tk117 rfl rfl) ?_
 refine rS (L1W 3 rfl tk3 rfl) ?_
 refine cX (marks_c f tsA ts.length tsC) (ha_nil) rfl fun y9 hy10 => ?_
 obtain ⟨b111, b212⟩ := y9
 change RJ _ _ _ _ _ ((_, (Value.func (.func 112) [].toArray [(Value.pointer (some ⟨b111, 0, none⟩)), (Value.pointer (some ⟨b212, 0, none⟩))].toArray)) :: _) ((blk b111 3 [(Value.int .i64 f)]) :: (blk b212 117 (SurveyV.cells (SurveyV.mk (TrackV.mk (Slc.mk tsA ts.length tsC))))) :: _)
 refine RK hK8 ?_
 refine w_block ?_
 refine w_dup 7 rfl (by exact fun _ h => h) ?_
 refine w_range (L0 := [(3, (Value.pointer (some ⟨b2, 0, none⟩))), (4, (Value.pointer (some ⟨b3, 0, none⟩))), (5, (Value.pointer (some ⟨b4, 0, none⟩))), (6, (Value.pointer (some ⟨b5, 0, none⟩))), (7, (Value.pointer (some ⟨b6, 0, none⟩)))]) (F := [(rd tsA ts.length 9 (ts.map StretchV.cells)).ro, (blk b111 3 [(Value.int .i64 f)]), (blk b212 117 (SurveyV.cells (SurveyV.mk (TrackV.mk (Slc.mk tsA ts.length tsC)))))]) (xs := (markV ts f.toNat)) (fun k (y : SpanV × SpanV × Int) => (k ≤ (t - f).toNat) ∧ (y.2.2 = f + ((k : Nat) : Int))) (fun k y => [(blk b6 34 (SpanV.cells y.2.1)), (blk b5 34 (SpanV.cells y.1)), (blk b4 3 [(Value.int .i64 t)]), (blk b3 3 [(Value.int .i64 y.2.2)]), (blk b2 117 (SurveyV.cells (SurveyV.mk (TrackV.mk (Slc.mk tsA ts.length tsC))))), (rd tsA ts.length 9 (ts.map StretchV.cells)).ro]) (fun c (z : Unit) => (c = .exit 0)) (fun _ z => [(blk b6 34 (SpanV.cells (fallF ts f.toNat (t - f).toNat))), (blk b5 34 (SpanV.cells (longF ts f.toNat (t - f).toNat))), (blk b4 3 [(Value.int .i64 t)]), (blk b3 3 [(Value.int .i64 t)]), (blk b2 117 (SurveyV.cells (SurveyV.mk (TrackV.mk (Slc.mk tsA ts.length tsC))))), (rd tsA ts.length 9 (ts.map StretchV.cells)).ro]) [3, 4, 5, 6, 7, 8] [0, 1, 2] (zeroZ, zeroZ, f) rfl rfl (marksit_c ts tsA tsC f b111 b212 (by first | assumption | omega | (simp; done)) (by first | assumption | omega | (simp; done)) (by omega)) rfl rfl rfl (by exact ⟨Nat.zero_le _, by simp⟩) (by simp only [List.forall_mem_cons, List.not_mem_nil, false_imp_iff, implies_true, and_true]; exact ⟨⟨_, by simp, (cov_ro (cov_refl _))⟩, ⟨_, by simp, (cov_refl _)⟩, ⟨_, by simp, (cov_refl _)⟩⟩) (by exact markV_lens) rfl (Sub.cons rfl <| Sub.cons rfl <| Sub.cons rfl <| Sub.cons rfl <| Sub.cons rfl <| Sub.nil _) ?_ ?_ ?_ ?_
 rotate_left 1
 · rintro r25 ⟨z1, z2, m⟩ hin26
   obtain ⟨hr0, hr1⟩ := hin26
   try dsimp only at hr0 hr1
   change KJ _ _ _ [(3, (Value.pointer (some ⟨b2, 0, none⟩))), (4, (Value.pointer (some ⟨b3, 0, none⟩))), (5, (Value.pointer (some ⟨b4, 0, none⟩))), (6, (Value.pointer (some ⟨b5, 0, none⟩))), (7, (Value.pointer (some ⟨b6, 0, none⟩)))] [(obj r25 (.deferred (some []))), (rd tsA ts.length 9 (ts.map StretchV.cells)).ro, (blk b111 3 [(Value.int .i64 f)]), (blk b212 117 (SurveyV.cells (SurveyV.mk (TrackV.mk (Slc.mk tsA ts.length tsC))))), (blk b6 34 (SpanV.cells z2)), (blk b5 34 (SpanV.cells z1)), (blk b4 3 [(Value.int .i64 t)]), (blk b3 3 [(Value.int .i64 m)]), (blk b2 117 (SurveyV.cells (SurveyV.mk (TrackV.mk (Slc.mk tsA ts.length tsC))))), (rd tsA ts.length 9 (ts.map StretchV.cells)).ro]
   exfalso; rw [markV_length] at hr0; omega
 · rintro r27 id _ hx28
   have hc := hx28
   cases hc
   change KJ _ _ _ [(3, (Value.pointer (some ⟨b2, 0, none⟩))), (4, (Value.pointer (some ⟨b3, 0, none⟩))), (5, (Value.pointer (some ⟨b4, 0, none⟩))), (6, (Value.pointer (some ⟨b5, 0, none⟩))), (7, (Value.pointer (some ⟨b6, 0, none⟩)))] [(obj r27 (.deferred (some []))), (rd tsA ts.length 9 (ts.map StretchV.cells)).ro, (blk b111 3 [(Value.int .i64 f)]), (blk b212 117 (SurveyV.cells (SurveyV.mk (TrackV.mk (Slc.mk tsA ts.length tsC))))), (blk b6 34 (SpanV.cells (fallF ts f.toNat (t - f).toNat))), (blk b5 34 (SpanV.cells (longF ts f.toNat (t - f).toNat))), (blk b4 3 [(Value.int .i64 t)]), (blk b3 3 [(Value.int .i64 t)]), (blk b2 117 (SurveyV.cells (SurveyV.mk (TrackV.mk (Slc.mk tsA ts.length tsC))))), (rd tsA ts.length 9 (ts.map StretchV.cells)).ro]
   refine k_exit_same ?_
   refine KK hK7 ?_
   refine w_seq fun _ hK29 => ?_
   refine w_draw4 mixed [0, 1] [2, 3] [false, false] [false, false] [(obj r27 (.deferred (some []))), (rd tsA ts.length 9 (ts.map StretchV.cells)).ro, (blk b111 3 [(Value.int .i64 f)]), (blk b212 117 (SurveyV.cells (SurveyV.mk (TrackV.mk (Slc.mk tsA ts.length tsC))))), (blk b6 34 (SpanV.cells (fallF ts f.toNat (t - f).toNat))), (blk b5 34 (SpanV.cells (longF ts f.toNat (t - f).toNat))), (blk b4 3 [(Value.int .i64 t)]), (blk b3 3 [(Value.int .i64 t)]), (blk b2 117 (SurveyV.cells (SurveyV.mk (TrackV.mk (Slc.mk tsA ts.length tsC))))), (rd tsA ts.length 9 (ts.map StretchV.cells)).ro] [] (by kernel_rfl) (fun w hs => St.sel [0, 1, 2, 3, 4, 5, 6, 7, 8, 9] rfl rfl hs) (fun w hs => St.sel [] rfl rfl hs) ?_
   refine eS rfl (LW 5 rfl tk34 rfl rfl) ?_
   refine eS rfl (LW 4 rfl tk34 rfl rfl) ?_
   refine d_fin rfl ?_
   refine t_cons rfl fun T30 hT30 => ?_
   refine SW5 rfl ts34 rfl ?_
   refine r_nil (hT30 _ _ (fun w hs => St.sel [0, 1, 2, 3, 4, 5, 6, 7, 8, 9] rfl rfl hs) ?_)
   refine t_cons rfl fun T31 hT31 => ?_
   refine SW4 rfl ts34 rfl ?_
   refine r_nil (hT31 _ _ (fun w hs => St.sel [0, 1, 2, 3, 4, 5, 6, 7, 8, 9] rfl rfl hs) ?_)
   refine t_fin rfl ?_
   refine KK hK29 ?_
   refine w_ret ?_
   refine hQ _ _ _ (l_mark 0 rfl rfl <| l_nil (vs := [(Value.agg (SpanV.cells (longF ts f.toNat (t - f).toNat)).toArray), (Value.agg (SpanV.cells (fallF ts f.toNat (t - f).toNat)).toArray)]) ⟨⟨_, rfl, .inl ⟨_, _, tk34, at_blk (vs := (SpanV.cells (longF ts f.toNat (t - f).toNat))) 5 rfl rfl, rfl, rfl⟩⟩, ⟨_, rfl, .inl ⟨_, _, tk34, at_blk (vs := (SpanV.cells (fallF ts f.toNat (t - f).toNat))) 4 rfl rfl, rfl, rfl⟩⟩, trivial⟩ fun w hs => endV ?_ hs)
   show (Value.tuple [(Value.agg (SpanV.cells (longF ts f.toNat (t - f).toNat)).toArray), (Value.agg (SpanV.cells (fallF ts f.toNat (t - f).toNat)).toArray)].toArray) = (Value.tuple [(Value.agg (SpanV.cells (longF ts f.toNat (t - f).toNat)).toArray), (Value.agg (SpanV.cells (fallF ts f.toNat (t - f).toNat)).toArray)].toArray)
   clear hs w hQ hN hT31 T31 hT30 T30 hK29 hK8 hK7 hK1
   rfl
 · rintro r32 _ hx33
   cases hx33
 rintro k x ⟨z1, z2, m⟩ l ra rb S w1 K13 Qr14 hx hin15 hK13 hQr14 xQr14 yQr14
 obtain ⟨hk, rfl⟩ := markV_out hx
 obtain ⟨hr0, hr1⟩ := hin15
 try dsimp only at hr0 hr1
 change WJ _ _ _ _ [(14, (Value.agg (SpanV.cells (fallF ts f.toNat k)).toArray)), (13, (Value.agg (SpanV.cells (longF ts f.toNat k)).toArray)), (3, (Value.pointer (some ⟨b2, 0, none⟩))), (4, (Value.pointer (some ⟨b3, 0, none⟩))), (5, (Value.pointer (some ⟨b4, 0, none⟩))), (6, (Value.pointer (some ⟨b5, 0, none⟩))), (7, (Value.pointer (some ⟨b6, 0, none⟩)))] [(obj l (.loop ra)), (blk b6 34 (SpanV.cells z2)), (blk b5 34 (SpanV.cells z1)), (blk b4 3 [(Value.int .i64 t)]), (blk b3 3 [(Value.int .i64 m)]), (blk b2 117 (SurveyV.cells (SurveyV.mk (TrackV.mk (Slc.mk tsA ts.length tsC))))), (rd tsA ts.length 9 (ts.map StretchV.cells)).ro]
 refine WS fun _ hK16 => ?_
 refine AL rfl tz34 fun b17 => ?_
 refine SW0 rfl ts34 rfl ?_
 refine RK hK16 ?_
 refine w_region ?_
 refine AL rfl tz34 fun b18 => ?_
 refine SW0 rfl ts34 rfl ?_
 refine r_nil ?_
 refine k_sub (fun _ _ h => h) (fun w hs => St.sel [2, 0, 1, 3, 4, 5, 6, 7, 8] rfl rfl hs) ?_
 refine k_then (hK13 _ _ ?_)
 refine w_block ?_
 refine w_seq fun _ hK19 => ?_
 refine w_seq fun _ hK20 => ?_
 refine w_draw4 mixed [0, 1] [2, 3] [false, false] [false, false] [(obj l (.loop rb)), (blk b18 34 (SpanV.cells (fallF ts f.toNat k))), (blk b17 34 (SpanV.cells (longF ts f.toNat k))), (blk b4 3 [(Value.int .i64 t)]), (blk b3 3 [(Value.int .i64 m)]), (blk b2 117 (SurveyV.cells (SurveyV.mk (TrackV.mk (Slc.mk tsA ts.length tsC))))), (rd tsA ts.length 9 (ts.map StretchV.cells)).ro] [] (by kernel_rfl) (fun w hs => St.sel [0, 1, 2, 5, 6, 7, 8] rfl rfl hs) (fun w hs => St.sel [] rfl rfl hs) ?_
 refine eS rfl (LW 2 rfl tk34 rfl rfl) ?_
 refine eS rfl (LW 1 rfl tk34 rfl rfl) ?_
 refine d_fin rfl ?_
 refine t_cons rfl fun T21 hT21 => ?_
 refine SW4 rfl ts34 rfl ?_
 refine r_nil (hT21 _ _ (fun w hs => St.sel [0, 1, 2, 5, 6, 7, 8] rfl rfl hs) ?_)
 refine t_cons rfl fun T22 hT22 => ?_
 refine SW3 rfl ts34 rfl ?_
 refine r_nil (hT22 _ _ (fun w hs => St.sel [0, 1, 2, 5, 6, 7, 8] rfl rfl hs) ?_)
 refine t_fin rfl ?_
 refine KK hK20 ?_
 refine WS fun _ hK23 => ?_
 refine rS (L1W 6 rfl tk3 rfl) ?_
 refine rS (L1W 5 rfl tk3 rfl) ?_
 refine rS (BI rfl b_eql) ?_
 refine RK hK23 ?_
 refine w_if rfl (fun h24 => ?_) (fun h24 => ?_)
 · replace h24 := DT h24
   refine w_exit ?_
   refine k_exit_then ?_
   refine k_exit_other rfl ?_
   rw [show m = t from by omega]
   obtain rfl : k = (t - f).toNat := by omega
   exact xQr14 _ () _ _ (by exact rfl) (fun w hs => St.sel [0, 3, 4, 5, 6, 7, 8] rfl rfl hs)
 replace h24 := DF h24
 refine WK hK19 ?_
 refine w_region ?_
 refine rS (L1W 6 rfl tk3 rfl) ?_
 refine rS (BI rfl (b_add ⟨by omega, by omega⟩)) ?_
 refine SO6 rfl ts3 rfl rfl ?_
 refine r_nil ?_
 refine k_block ?_
 exact hQr14 ((longF ts f.toNat k), (fallF ts f.toNat k), (m + 1)) _ _ (by refine ⟨by omega, ?_⟩; dsimp only; omega) (fun w hs => St.sel [0, 3, 4, 5, 6, 7, 8] rfl rfl hs)

end Go.Proofs.Ytaehngpnlkokkaa
