/-
  Walks: kreisel/kreiselref01.SameSpans, kreisel/kreiselref01.Same, kreisel/kreiselref03.both, kreisel/slide.takers$1, kreisel/slide.takers$2, kreisel/slide.takers
-/
import Derived.Test.YtpbgdeojcefnmaaTab
import Derived.Test.YtpbgdeojcefnmaaShort
import Derived.Test.YtpbgdeojcefnmaaW1
import Derived.Test.YtpbgdeojcefnmaaW3
import Derived.Test.YtpbgdeojcefnmaaW4
namespace Go.Proofs.Ytpbgdeojcefnmaa
open Go.RowKit
set_option linter.unusedVariables false

set_option maxRecDepth 100000 in
set_option maxHeartbeats 400000 in
theorem samespans_c (la : List SpanV) (laA : Option Addr) (laC : Nat) (lb : List SpanV) (lbA : Option Addr) (lbC : Nat) (h1 : la.length ≤ 1000000) (h2 : lb.length ≤ 1000000) :
    FnV Try.prog 28 [(Value.slice laA la.length laC), (Value.slice lbA lb.length lbC)] [(rd laA la.length 2 (la.map SpanV.cells)), (rd lbA lb.length 2 (lb.map SpanV.cells))] (Value.bool (decide (la = lb))) := by
 refine fnV_of go28 Try.func28 rfl rfl fun w0 Q hQ hN => ?_
 change WJ _ _ _ _ [(0, (Value.slice laA la.length laC)), (1, (Value.slice lbA lb.length lbC))] [(rd laA la.length 2 (la.map SpanV.cells)).ro, (rd lbA lb.length 2 (lb.map SpanV.cells)).ro]
 refine WS fun _ hK1 => ?_
 refine rS (AG rfl) ?_
 refine RK hK1 ?_
 refine w_seq fun _ hK2 => ?_
 refine WS fun _ hK3 => ?_
 refine rS (MV rfl) ?_
 refine rS (LN rfl ut31) ?_
 refine rS (MV rfl) ?_
 refine rS (LN rfl ut31) ?_
 refine rS (BI rfl b_neq) ?_
 refine RK hK3 ?_
 refine w_if rfl (fun hl => ?_) (fun hl => ?_)
 · replace hl := XT hl
   refine WS fun _ hK4 => ?_
   refine rS (AG rfl) ?_
   refine RK hK4 ?_
   refine w_ret ?_
   refine Q1 hQ rfl rfl rfl ?_
   first | exact congrArg Value.bool (decide_eq_false (lists_ne hx hy h)).symm | exact congrArg Value.bool (decide_eq_true (lists_eq (by omega) hl0_1 (by omega))).symm | exact congrArg Value.bool (decide_eq_false (fun e => by subst e; omega)).symm
 replace hl := XF hl
 refine WK hK2 ?_
 refine w_seq fun _ hK5 => ?_
 refine WS fun _ hK6 => ?_
 refine rS (AG rfl) ?_
 refine RK hK6 ?_
 refine w_block ?_
 have hinit : (0 ≤ la.length) ∧ (la.take 0 = lb.take 0) := by simp
 refine w_loop (ι := { z : Nat // (z ≤ la.length) ∧ (la.take z = lb.take z) }) (fun z => [(0, (Value.slice laA la.length laC)), (1, (Value.slice lbA lb.length lbC)), (5, (Value.int .i64 (z.1 : Int)))]) (fun z => [(rd laA la.length 2 (la.map SpanV.cells)).ro, (rd lbA lb.length 2 (lb.map SpanV.cells)).ro]) (fun z => la.length - z.1) ⟨0, hinit⟩ (Sub.cons rfl <| Sub.cons rfl <| Sub.cons rfl <| Sub.nil _) (fun w hs => St.sel [0, 1] rfl rfl hs) ?_
 clear hinit
 rintro ⟨i, ⟨hl0_0, hl0_1⟩⟩ J7 hJ7
 change WJ _ _ _ _ [(0, (Value.slice laA la.length laC)), (1, (Value.slice lbA lb.length lbC)), (5, (Value.int .i64 (i : Int)))] [(rd laA la.length 2 (la.map SpanV.cells)).ro, (rd lbA lb.length 2 (lb.map SpanV.cells)).ro]
 refine w_seq fun _ hK8 => ?_
 refine WS fun _ hK9 => ?_
 refine rS (MV rfl) ?_
 refine rS (MV rfl) ?_
 refine rS (LN rfl ut31) ?_
 refine rS (BI rfl b_lss) ?_
 refine RK hK9 ?_
 refine w_if rfl (fun h10 => ?_) (fun h10 => ?_)
 rotate_left 1
 · replace h10 := DF h10
   refine w_exit ?_
   refine k_exit_then ?_
   refine k_exit_then ?_
   refine k_exit_same ?_
   refine KK hK5 ?_
   refine WS fun _ hK14 => ?_
   refine rS (AG rfl) ?_
   refine RK hK14 ?_
   refine w_ret ?_
   refine Q1 hQ rfl rfl rfl ?_
   first | exact congrArg Value.bool (decide_eq_false (lists_ne hx hy h)).symm | exact congrArg Value.bool (decide_eq_true (lists_eq (by omega) hl0_1 (by omega))).symm | exact congrArg Value.bool (decide_eq_false (fun e => by subst e; omega)).symm
 replace h10 := DT h10
 refine WK hK8 ?_
 refine w_seq fun _ hK11 => ?_
 refine w_block ?_
 refine w_seq fun _ hK12 => ?_
 refine w_draw mixed 9 (by kernel_rfl) ?_
 refine dS (MV rfl) ?_
 refine dS (MV rfl) ?_
 obtain ⟨x, hx⟩ : ∃ y_, la[i]? = some y_ := ⟨la[i]'(by omega), List.getElem?_eq_getElem _⟩
 have hxm : (la.map SpanV.cells)[i]? = some (SpanV.cells x) := by rw [List.getElem?_map, hx]; rfl
 refine dS (IA i rfl (has_at 0 rfl) te31 (by decide) (by omega) (by omega)) ?_
 refine dS (LEN i 0 (SpanV.cells x) rfl tk26 (has_at 0 rfl) hxm rfl (by decide) rfl rfl) ?_
 refine dS (MV rfl) ?_
 refine dS (MV rfl) ?_
 obtain ⟨y, hy⟩ : ∃ y_, lb[i]? = some y_ := ⟨lb[i]'(by omega), List.getElem?_eq_getElem _⟩
 have hym : (lb.map SpanV.cells)[i]? = some (SpanV.cells y) := by rw [List.getElem?_map, hy]; rfl
 refine dS (IA i rfl (has_at 1 rfl) te31 (by decide) (by omega) (by omega)) ?_
 refine dS (LEN i 0 (SpanV.cells y) rfl tk26 (has_at 1 rfl) hym rfl (by decide) rfl rfl) ?_
 refine dS (BI rfl (nes26 _ _ x y)) ?_
 refine d_end ?_
 refine RK hK12 ?_
 refine w_if rfl (fun h => ?_) (fun h => ?_)
 rotate_left 1
 · replace h := XF h
   refine w_skip ?_
   refine k_block ?_
   refine KK hK11 ?_
   refine w_region ?_
   refine rS (MV rfl) ?_
   refine rS (BI rfl (b_add ⟨by omega, by omega⟩)) ?_
   refine rS (AG rfl) ?_
   refine r_nil ?_
   refine k_then (hJ7 ⟨(i + 1), ⟨by omega, take_same hl0_1 hx hy h⟩⟩ _ _ _ rfl (by first | omega | (simp; omega)) (Sub.cons rfl <| Sub.cons rfl <| Sub.cons rfl <| Sub.nil _) (fun w hs => St.sel [0, 1] rfl rfl hs))
 replace h := XT h
 refine WS fun _ hK13 => ?_
 refine rS (AG rfl) ?_
 refine RK hK13 ?_
 refine w_ret ?_
 refine Q1 hQ rfl rfl rfl ?_
 first | exact congrArg Value.bool (decide_eq_false (lists_ne hx hy h)).symm | exact congrArg Value.bool (decide_eq_true (lists_eq (by omega) hl0_1 (by omega))).symm | exact congrArg Value.bool (decide_eq_false (fun e => by subst e; omega)).symm

set_option maxRecDepth 100000 in
set_option maxHeartbeats 400000 in
theorem same_c (la : List StretchV) (laA : Option Addr) (laC : Nat) (lb : List StretchV) (lbA : Option Addr) (lbC : Nat) (h1 : la.length ≤ 1000000) (h2 : lb.length ≤ 1000000) :
    FnV Try.prog 29 [(Value.agg (TrackV.cells (TrackV.mk (Slc.mk laA la.length laC))).toArray), (Value.agg (TrackV.cells (TrackV.mk (Slc.mk lbA lb.length lbC))).toArray)] [(rd laA la.length 9 (la.map StretchV.cells)), (rd lbA lb.length 9 (lb.map StretchV.cells))] (Value.bool (decide (la = lb))) := by
 refine fnV_of go29 Try.func29 rfl rfl fun w0 Q hQ hN => ?_
 change WJ _ _ _ _ [(0, (Value.agg (TrackV.cells (TrackV.mk (Slc.mk laA la.length laC))).toArray)), (1, (Value.agg (TrackV.cells (TrackV.mk (Slc.mk lbA lb.length lbC))).toArray))] [(rd laA la.length 9 (la.map StretchV.cells)).ro, (rd lbA lb.length 9 (lb.map StretchV.cells)).ro]
 refine WS fun _ hK1 => ?_
 refine BXA rfl fun b2 => ?_
 refine BXA rfl fun b3 => ?_
 refine rS (AG rfl) ?_
 refine RK hK1 ?_
 refine w_seq fun _ hK4 => ?_
 refine WS fun _ hK5 => ?_
 refine rS (FA 0 rfl fo24_0 rfl) ?_
 refine rS (L1 (Value.slice laA la.length laC) 1 rfl tk22 rfl rfl) ?_
 refine rS (LN rfl ut22) ?_
 refine rS (FA 0 rfl fo24_0 rfl) ?_
 refine rS (L1 (Value.slice lbA lb.length lbC) 0 rfl tk22 rfl rfl) ?_
 refine rS (LN rfl ut22) ?_
 refine rS (BI rfl b_neq) ?_
 refine RK hK5 ?_
 refine w_if rfl (fun hl => ?_) (fun hl => ?_)
 · replace hl := XT hl
   refine WS fun _ hK6 => ?_
   refine rS (AG rfl) ?_
   refine RK hK6 ?_
   refine w_ret ?_
   refine Q1 hQ rfl rfl rfl ?_
   first | exact congrArg Value.bool (decide_eq_false (lists_ne hx hy h)).symm | exact congrArg Value.bool (decide_eq_true (lists_eq (by omega) hl0_1 (by omega))).symm | exact congrArg Value.bool (decide_eq_false (fun e => by subst e; omega)).symm
 replace hl := XF hl
 refine WK hK4 ?_
 refine w_seq fun _ hK7 => ?_
 refine WS fun _ hK8 => ?_
 refine rS (AG rfl) ?_
 refine RK hK8 ?_
 refine w_block ?_
 have hinit : (0 ≤ la.length) ∧ (la.take 0 = lb.take 0) := by simp
 refine w_loop (ι := { z : Nat // (z ≤ la.length) ∧ (la.take z = lb.take z) }) (fun z => [(2, (Value.pointer (some ⟨b2, 0, none⟩))), (3, (Value.pointer (some ⟨b3, 0, none⟩))), (5, (Value.int .i64 (z.1 : Int)))]) (fun z => [(blk b3 24 (TrackV.cells (TrackV.mk (Slc.mk lbA lb.length lbC)))), (blk b2 24 (TrackV.cells (TrackV.mk (Slc.mk laA la.length laC)))), (rd laA la.length 9 (la.map StretchV.cells)).ro, (rd lbA lb.length 9 (lb.map StretchV.cells)).ro]) (fun z => la.length - z.1) ⟨0, hinit⟩ (Sub.cons rfl <| Sub.cons rfl <| Sub.cons rfl <| Sub.nil _) (fun w hs => St.sel [0, 1, 2, 3] rfl rfl hs) ?_
 clear hinit
 rintro ⟨i, ⟨hl0_0, hl0_1⟩⟩ J9 hJ9
 change WJ _ _ _ _ [(2, (Value.pointer (some ⟨b2, 0, none⟩))), (3, (Value.pointer (some ⟨b3, 0, none⟩))), (5, (Value.int .i64 (i : Int)))] [(blk b3 24 (TrackV.cells (TrackV.mk (Slc.mk lbA lb.length lbC)))), (blk b2 24 (TrackV.cells (TrackV.mk (Slc.mk laA la.length laC)))), (rd laA la.length 9 (la.map StretchV.cells)).ro, (rd lbA lb.length 9 (lb.map StretchV.cells)).ro]
 refine w_seq fun _ hK10 => ?_
 refine WS fun _ hK11 => ?_
 refine rS (MV rfl) ?_
 refine rS (FA 0 rfl fo24_0 rfl) ?_
 refine rS (L1 (Value.slice laA la.length laC) 1 rfl tk22 rfl rfl) ?_
 refine rS (LN rfl ut22) ?_
 refine rS (BI rfl b_lss) ?_
 refine RK hK11 ?_
 refine w_if rfl (fun h12 => ?_) (fun h12 => ?_)
 rotate_left 1
 · replace h12 := DF h12
   refine w_exit ?_
   refine k_exit_then ?_
   refine k_exit_then ?_
   refine k_exit_same ?_
   refine KK hK7 ?_
   refine WS fun _ hK16 => ?_
   refine rS (AG rfl) ?_
   refine RK hK16 ?_
   refine w_ret ?_
   refine Q1 hQ rfl rfl rfl ?_
   first | exact congrArg Value.bool (decide_eq_false (lists_ne hx hy h)).symm | exact congrArg Value.bool (decide_eq_true (lists_eq (by omega) hl0_1 (by omega))).symm | exact congrArg Value.bool (decide_eq_false (fun e => by subst e; omega)).symm
 replace h12 := DT h12
 refine WK hK10 ?_
 refine w_seq fun _ hK13 => ?_
 refine w_block ?_
 refine w_seq fun _ hK14 => ?_
 refine w_draw mixed 11 (by kernel_rfl) ?_
 refine dS (FA 0 rfl fo24_0 rfl) ?_
 refine dS (L1 (Value.slice laA la.length laC) 1 rfl tk22 rfl rfl) ?_
 refine dS (MV rfl) ?_
 obtain ⟨x, hx⟩ : ∃ y_, la[i]? = some y_ := ⟨la[i]'(by omega), List.getElem?_eq_getElem _⟩
 have hxm : (la.map StretchV.cells)[i]? = some (StretchV.cells x) := by rw [List.getElem?_map, hx]; rfl
 refine dS (IA i rfl (has_at 2 rfl) te22 (by decide) (by omega) (by omega)) ?_
 refine dS (LEN i 0 (StretchV.cells x) rfl tk77 (has_at 2 rfl) hxm rfl (by decide) rfl rfl) ?_
 refine dS (FA 0 rfl fo24_0 rfl) ?_
 refine dS (L1 (Value.slice lbA lb.length lbC) 0 rfl tk22 rfl rfl) ?_
 refine dS (MV rfl) ?_
 obtain ⟨y, hy⟩ : ∃ y_, lb[i]? = some y_ := ⟨lb[i]'(by omega), List.getElem?_eq_getElem _⟩
 have hym : (lb.map StretchV.cells)[i]? = some (StretchV.cells y) := by rw [List.getElem?_map, hy]; rfl
 refine dS (IA i rfl (has_at 3 rfl) te22 (by decide) (by omega) (by omega)) ?_
 refine dS (LEN i 0 (StretchV.cells y) rfl tk77 (has_at 3 rfl) hym rfl (by decide) rfl rfl) ?_
 refine dS (BI rfl (nes77 _ _ x y)) ?_
 refine d_end ?_
 refine RK hK14 ?_
 refine w_if rfl (fun h => ?_) (fun h => ?_)
 · replace h := XT h
   refine WS fun _ hK15 => ?_
   refine rS (AG rfl) ?_
   refine RK hK15 ?_
   refine w_ret ?_
   refine Q1 hQ rfl rfl rfl ?_
   first | exact congrArg Value.bool (decide_eq_false (lists_ne hx hy h)).symm | exact congrArg Value.bool (decide_eq_true (lists_eq (by omega) hl0_1 (by omega))).symm | exact congrArg Value.bool (decide_eq_false (fun e => by subst e; omega)).symm
 replace h := XF h
 refine w_skip ?_
 refine k_block ?_
 refine KK hK13 ?_
 refine w_region ?_
 refine rS (MV rfl) ?_
 refine rS (BI rfl (b_add ⟨by omega, by omega⟩)) ?_
 refine rS (AG rfl) ?_
 refine r_nil ?_
 refine k_then (hJ9 ⟨(i + 1), ⟨by omega, take_same hl0_1 hx hy h⟩⟩ _ _ _ rfl (by first | omega | (simp; omega)) (Sub.cons rfl <| Sub.cons rfl <| Sub.cons rfl <| Sub.nil _) (fun w hs => St.sel [0, 1, 2, 3] rfl rfl hs))

set_option maxRecDepth 100000 in
set_option maxHeartbeats 400000 in
theorem both_c (ts : List StretchV) (tsA : Option Addr) (tsC : Nat) (s : SledV) (hlen : ts.length ≤ 1000000) (hc : 0 ≤ s.Class ∧ s.Class ≤ 255) :
    FnV Try.prog 63 [(Value.agg (TrackV.cells (TrackV.mk (Slc.mk tsA ts.length tsC))).toArray), (Value.agg (SledV.cells s).toArray)] [(rd tsA ts.length 9 (ts.map StretchV.cells))] (Value.int .i64 (bothE s ts)) := by
 refine fnV_of go63 Try.func63 rfl rfl fun w0 Q hQ hN => ?_
 change WJ _ _ _ _ [(0, (Value.agg (TrackV.cells (TrackV.mk (Slc.mk tsA ts.length tsC))).toArray)), (1, (Value.agg (SledV.cells s).toArray))] [(rd tsA ts.length 9 (ts.map StretchV.cells)).ro]
 refine WS fun _ hK1 => ?_
 refine BXA rfl fun b2 => ?_
 refine BXA rfl fun b3 => ?_
 refine rS (AG rfl) ?_
 refine RK hK1 ?_
 refine w_seq fun _ hK4 => ?_
 refine WS fun _ hK5 => ?_
 refine rS (LW 1 rfl tk24 rfl rfl) ?_
 refine rS (CL (track_c ts tsA tsC hlen) (ha_at 2 rfl rfl <| ha_nil) rfl) ?_
 refine rS (NT rfl) ?_
 refine RK hK5 ?_
 refine w_if rfl (fun h6 => ?_) (fun h6 => ?_)
 · rw [Bool.not_eq_true'] at h6
   refine WS fun _ hK7 => ?_
   refine rS (AG rfl) ?_
   refine RK hK7 ?_
   refine w_ret ?_
   refine Q1 hQ rfl rfl rfl ?_
   clear hQ hN hK7 hK5 hK4 hK1
   exact congrArg (Value.int .i64) (by simp [bothE, *])
 rw [Bool.not_eq_false'] at h6
 refine WK hK4 ?_
 refine WS fun _ hK8 => ?_
 refine rS (LW 0 rfl tk28 rfl rfl) ?_
 refine rS (CL (check3_c s hc) (ha_nil) rfl) ?_
 refine rS (AG rfl) ?_
 refine RK hK8 ?_
 refine w_ret ?_
 refine Q1 hQ rfl rfl rfl ?_
 clear hQ hN hK8 hK5 hK4 hK1
 exact congrArg (Value.int .i64) (by simp [bothE, *])

set_option maxRecDepth 100000 in
set_option maxHeartbeats 400000 in
theorem air_c (s : SledV) (best : Bool) (tsA : Option Addr) (tsN : Nat) (tsC : Nat) (h : Int) (lo : Int) (hs : SledOk s) (hh : 0 ≤ h ∧ h ≤ 400000) (hl : 0 ≤ lo ∧ lo ≤ 100000) :
    FnV Try.prog 111 [(Value.agg (RiderV.cells (RiderV.mk s (TrackV.mk (Slc.mk tsA tsN tsC)) best)).toArray), (Value.int .i64 h), (Value.int .i64 lo)] [] (Value.int .i64 (min h (h * oneF best false s.Drag * lo / (100 * oneF best true s.Weight)))) := by
 have h5 := oneF_ok (best := best) (f := false) hs.2.2.2.1
 have h6 := oneF_ok (best := best) (f := true) hs.2.2.2.2.1
 have m1 := mulb hh.1 hh.2 h5.1 h5.2
 have m2 := mulb m1.1 m1.2 hl.1 hl.2
 have m3 := divb (b := 100 * oneF best true s.Weight) m2.1 m2.2 (by omega)
 refine fnV_of go111 Try.func111 rfl rfl fun w0 Q hQ hN => ?_
 change WJ _ _ _ _ [(0, (Value.agg (RiderV.cells (RiderV.mk s (TrackV.mk (Slc.mk tsA tsN tsC)) best)).toArray)), (1, (Value.int .i64 h)), (2, (Value.int .i64 lo))] []
 refine WS fun _ hK1 => ?_
 refine BXA rfl fun b2 => ?_
 refine rS (AG rfl) ?_
 refine RK hK1 ?_
 refine w_seq fun _ hK3 => ?_
 refine w_draw mixed 19 (by kernel_rfl) ?_
 refine dS (MV rfl) ?_
 refine dS (MV rfl) ?_
 refine dS (LW 0 rfl tk108 rfl rfl) ?_
 refine dS (FA 0 rfl fo108_0 rfl) ?_
 refine dS (FA 5 rfl fo28_3 rfl) ?_
 refine dS (LP (SpanV.cells s.Drag) 0 rfl tk26 rfl rfl rfl) ?_
 refine dS (CL (one_c s best tsA tsN tsC s.Drag false) (ha_nil) rfl) ?_
 refine dS (BI rfl (b_mul ⟨by omega, by omega⟩)) ?_
 refine dS (MV rfl) ?_
 refine dS (BI rfl (b_mul ⟨by omega, by omega⟩)) ?_
 refine dS (LW 0 rfl tk108 rfl rfl) ?_
 refine dS (FA 0 rfl fo108_0 rfl) ?_
 refine dS (FA 7 rfl fo28_4 rfl) ?_
 refine dS (LP (SpanV.cells s.Weight) 0 rfl tk26 rfl rfl rfl) ?_
 refine dS (CL (one_c s best tsA tsN tsC s.Weight true) (ha_nil) rfl) ?_
 refine dS (BI rfl (b_mul ⟨by omega, by omega⟩)) ?_
 refine dS (BI rfl (b_quo (by omega) (by omega) (by omega))) ?_
 refine dS (MN rfl) ?_
 refine dS (AG rfl) ?_
 refine d_end ?_
 refine RK hK3 ?_
 refine w_ret ?_
 exact Q1 hQ rfl rfl rfl rfl

set_option maxRecDepth 100000 in
set_option maxHeartbeats 400000 in
theorem ice_c (s : SledV) (best : Bool) (tsA : Option Addr) (tsN : Nat) (tsC : Nat) (h : Int) (lo : Int) (hs : SledOk s) (hl : 0 ≤ lo ∧ lo ≤ 100000) :
    FnV Try.prog 112 [(Value.agg (RiderV.cells (RiderV.mk s (TrackV.mk (Slc.mk tsA tsN tsC)) best)).toArray), (Value.int .i64 h), (Value.int .i64 lo)] [] (Value.int .i64 (oneF best false s.Rub * lo / 100)) := by
 have h5 := oneF_ok (best := best) (f := false) hs.2.2.1
 have m1 := mulb h5.1 h5.2 hl.1 hl.2
 refine fnV_of go112 Try.func112 rfl rfl fun w0 Q hQ hN => ?_
 change WJ _ _ _ _ [(0, (Value.agg (RiderV.cells (RiderV.mk s (TrackV.mk (Slc.mk tsA tsN tsC)) best)).toArray)), (1, (Value.int .i64 h)), (2, (Value.int .i64 lo))] []
 refine WS fun _ hK1 => ?_
 refine BXA rfl fun b2 => ?_
 refine rS (AG rfl) ?_
 refine RK hK1 ?_
 refine WS fun _ hK3 => ?_
 refine rS (LW 0 rfl tk108 rfl rfl) ?_
 refine rS (FA 0 rfl fo108_0 rfl) ?_
 refine rS (FA 3 rfl fo28_2 rfl) ?_
 refine rS (LP (SpanV.cells s.Rub) 0 rfl tk26 rfl rfl rfl) ?_
 refine rS (CL (one_c s best tsA tsN tsC s.Rub false) (ha_nil) rfl) ?_
 refine rS (MV rfl) ?_
 refine rS (BI rfl (b_mul ⟨by omega, by omega⟩)) ?_
 refine rS (BI rfl (b_quo (by omega) (by omega) (by omega))) ?_
 refine rS (AG rfl) ?_
 refine RK hK3 ?_
 refine w_ret ?_
 exact Q1 hQ rfl rfl rfl rfl

set_option maxRecDepth 100000 in
set_option maxHeartbeats 400000 in
theorem takers_c  :
    FnV Try.prog 94 [] [] (Value.agg ((T151V.cells (T151V.mk (Value.func (.func 111) [].toArray [].toArray))) ++ (T151V.cells (T151V.mk (Value.func (.func 112) [].toArray [].toArray)))).toArray) := by
 refine fnV_of go94 Try.func94 rfl rfl fun w0 Q hQ hN => ?_
 change WJ _ _ _ _ [] []
 refine WS fun _ hK1 => ?_
 refine AL rfl tz152 fun b2 => ?_
 refine RK hK1 ?_
 refine WS fun _ hK3 => ?_
 refine rS (SX (sd_build (xs := [(0, .func 111)]) (cs := (T151V.cells (T151V.mk (Value.func (.func 111) [].toArray [].toArray)))) rfl rfl (built_of tb151 rfl)) rfl rfl) ?_
 refine rS (SX (sd_build (xs := [(0, .func 112)]) (cs := (T151V.cells (T151V.mk (Value.func (.func 112) [].toArray [].toArray)))) rfl rfl (built_of tb151 rfl)) rfl rfl) ?_
 refine rS (SX (sd_build (xs := [(0, .tmp 1), (1, .tmp 2)]) (cs := ((T151V.cells (T151V.mk (Value.func (.func 111) [].toArray [].toArray))) ++ (T151V.cells (T151V.mk (Value.func (.func 112) [].toArray [].toArray))))) rfl rfl (built_of tb152 rfl)) rfl rfl) ?_
 refine SW0 rfl ts152 rfl ?_
 refine RK hK3 ?_
 refine w_ret ?_
 refine hQ _ _ _ (l_nil (vs := [(Value.agg ((T151V.cells (T151V.mk (Value.func (.func 111) [].toArray [].toArray))) ++ (T151V.cells (T151V.mk (Value.func (.func 112) [].toArray [].toArray)))).toArray)]) ⟨⟨_, rfl, .inl ⟨_, _, tk152, at_blk (vs := ((T151V.cells (T151V.mk (Value.func (.func 111) [].toArray [].toArray))) ++ (T151V.cells (T151V.mk (Value.func (.func 112) [].toArray [].toArray))))) 0 rfl rfl, rfl, rfl⟩⟩, trivial⟩ fun w hs => endV ?_ hs)
 show (Value.agg ((T151V.cells (T151V.mk (Value.func (.func 111) [].toArray [].toArray))) ++ (T151V.cells (T151V.mk (Value.func (.func 112) [].toArray [].toArray)))).toArray) = (Value.agg ((T151V.cells (T151V.mk (Value.func (.func 111) [].toArray [].toArray))) ++ (T151V.cells (T151V.mk (Value.func (.func 112) [].toArray [].toArray)))).toArray)
 clear hs w hQ hN hK3 hK1
 rfl

end Go.Proofs.Ytpbgdeojcefnmaa
