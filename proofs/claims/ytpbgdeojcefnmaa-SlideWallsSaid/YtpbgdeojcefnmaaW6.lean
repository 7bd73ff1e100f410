/-
  Walks: kreisel/kreiselref01.SameSpans, kreisel/kreiselref01.Same, kreisel/kreiselref03.both, kreisel/slide.takers$1, kreisel/slide.takers$2, kreisel/slide.takers
-/
import Derived.Test.YtpbgdeojcefnmaaTab
import Derived.Test.YtpbgdeojcefnmaaSort
import Derived.Test.YtpbgdeojcefnmaaW1
import Derived.Test.YtpbgdeojcefnmaaW3
import Derived.Test.YtpbgdeojcefnmaaW4
namespace Go.Proofs.Ytpbgdeojcefnmaa
open Go.RowKit
set_option linter.unusedVariables false

set_option maxRecDepth 100000 in
set_option maxHeartbeats 400000 in
theorem samespans_c (la : List SpanV) (laA : Option Addr) (laC : Nat) (lb : List SpanV) (lbA : Option Addr) (lbC : Nat) (h1 : la.length ≤ 1000000) (h2 : lb.length ≤ 1000000) :
    FnV Try.prog 28 [(Value.slice laA la.length laC), (Value.slice lbA lb.length lbC)] [(rd laA la.length 2 (la.map SpanV.cells)), (rd lbA lb.length 2 (lb.map SpanV.cells))] (Value.bool (decide (la = lb))) := by
  refine fnV_of go28 Try.func28 rfl rfl fun w0 Q hQ hN => ?_
  change WJ _ _ _ _ [(0, (Value.slice laA la.length laC)), (1, (Value.slice lbA lb.length lbC))] [(rd laA la.length 2 (la.map SpanV.cells)).ro, (rd lbA lb.length 2 (lb.map SpanV.cells)).ro]
  refine w_seq fun K1 hK1 => ?_
  refine w_region ?_
  refine r_sd (sd_assign rfl rfl) rfl rfl ?_
  refine r_nil ?_
  refine k_then (hK1 _ _ _ ?_)
  refine w_seq fun K2 hK2 => ?_
  refine w_seq fun K3 hK3 => ?_
  refine w_region ?_
  refine r_sd (sd_move rfl rfl) rfl rfl ?_
  refine r_sd (sd_len rfl rfl ut31) rfl rfl ?_
  refine r_sd (sd_move rfl rfl) rfl rfl ?_
  refine r_sd (sd_len rfl rfl ut31) rfl rfl ?_
  refine r_sd (sd_bin rfl rfl rfl b_neq) rfl rfl ?_
  refine r_nil ?_
  refine k_then (hK3 _ _ _ ?_)
  refine w_if rfl (fun hl => ?_) (fun hl => ?_)
  · -- yes
    rw [Bool.not_eq_true'] at hl
    replace hl := of_decide_eq_false hl
    refine w_seq fun K4 hK4 => ?_
    refine w_region ?_
    refine r_sd (sd_assign rfl rfl) rfl rfl ?_
    refine r_nil ?_
    refine k_then (hK4 _ _ _ ?_)
    refine w_ret ?_
    refine hQ _ _ _ (l_nil (vs := [(Value.bool false)]) ⟨rfl, trivial⟩ fun w hs => endV ?_ hs)
    show (Value.bool false) = (Value.bool (decide (la = lb)))
    clear hs w hQ hN hK4 K4 hK3 K3 hK2 K2 hK1 K1
    first | exact congrArg Value.bool (decide_eq_false (lists_ne hx hy h)).symm | exact congrArg Value.bool (decide_eq_true (lists_eq (by omega) hl0_1 (by omega))).symm | exact congrArg Value.bool (decide_eq_false (fun e => by subst e; omega)).symm
  · -- no
    rw [Bool.not_eq_false'] at hl
    replace hl := of_decide_eq_true hl
    refine w_skip ?_
    refine k_then (hK2 _ _ _ ?_)
    refine w_seq fun K5 hK5 => ?_
    refine w_seq fun K6 hK6 => ?_
    refine w_region ?_
    refine r_sd (sd_assign rfl rfl) rfl rfl ?_
    refine r_nil ?_
    refine k_then (hK6 _ _ _ ?_)
    refine w_block ?_
    have hinit : (0 ≤ la.length) ∧ (la.take 0 = lb.take 0) := by simp
    refine w_loop (ι := { z : Nat // (z ≤ la.length) ∧ (la.take z = lb.take z) }) (fun z => [(0, (Value.slice laA la.length laC)), (1, (Value.slice lbA lb.length lbC)), (5, (Value.int .i64 (z.1 : Int)))]) (fun z => [(rd laA la.length 2 (la.map SpanV.cells)).ro, (rd lbA lb.length 2 (lb.map SpanV.cells)).ro]) (fun z => la.length - z.1) ⟨0, hinit⟩ (Sub.cons rfl <| Sub.cons rfl <| Sub.cons rfl <| Sub.nil _) (fun w hs => St.sel [0, 1] rfl rfl hs) ?_
    clear hinit
    rintro ⟨i, ⟨hl0_0, hl0_1⟩⟩ J7 hJ7
    change WJ _ _ _ _ [(0, (Value.slice laA la.length laC)), (1, (Value.slice lbA lb.length lbC)), (5, (Value.int .i64 (i : Int)))] [(rd laA la.length 2 (la.map SpanV.cells)).ro, (rd lbA lb.length 2 (lb.map SpanV.cells)).ro]
    refine w_seq fun K8 hK8 => ?_
    refine w_seq fun K9 hK9 => ?_
    refine w_region ?_
    refine r_sd (sd_move rfl rfl) rfl rfl ?_
    refine r_sd (sd_move rfl rfl) rfl rfl ?_
    refine r_sd (sd_len rfl rfl ut31) rfl rfl ?_
    refine r_sd (sd_bin rfl rfl rfl b_lss) rfl rfl ?_
    refine r_nil ?_
    refine k_then (hK9 _ _ _ ?_)
    refine w_if rfl (fun h10 => ?_) (fun h10 => ?_)
    · -- yes
      replace h10 := of_decide_eq_true h10
      refine w_skip ?_
      refine k_then (hK8 _ _ _ ?_)
      refine w_seq fun K11 hK11 => ?_
      refine w_block ?_
      refine w_seq fun K12 hK12 => ?_
      refine w_draw mixed 9 (by kernel_rfl) ?_
      refine d_sd (sd_move rfl rfl) rfl rfl ?_
      refine d_sd (sd_move rfl rfl) rfl rfl ?_
      obtain ⟨x, hx⟩ : ∃ y_, la[i]? = some y_ := ⟨la[i]'(by omega), List.getElem?_eq_getElem _⟩
      have hxm : (la.map SpanV.cells)[i]? = some (SpanV.cells x) := by rw [List.getElem?_map, hx]; rfl
      refine d_sd (sd_ia (k := i) rfl rfl rfl (has_at 0 rfl) te31 (by decide) (by omega) (by omega)) rfl rfl ?_
      refine d_sd (sd_ldn rfl rfl tk26 (at_rd (k := i) (o := 0) (vs := (SpanV.cells x)) (has_at 0 rfl) hxm rfl (by decide) rfl) rfl) rfl rfl ?_
      refine d_sd (sd_move rfl rfl) rfl rfl ?_
      refine d_sd (sd_move rfl rfl) rfl rfl ?_
      obtain ⟨y, hy⟩ : ∃ y_, lb[i]? = some y_ := ⟨lb[i]'(by omega), List.getElem?_eq_getElem _⟩
      have hym : (lb.map SpanV.cells)[i]? = some (SpanV.cells y) := by rw [List.getElem?_map, hy]; rfl
      refine d_sd (sd_ia (k := i) rfl rfl rfl (has_at 1 rfl) te31 (by decide) (by omega) (by omega)) rfl rfl ?_
      refine d_sd (sd_ldn rfl rfl tk26 (at_rd (k := i) (o := 0) (vs := (SpanV.cells y)) (has_at 1 rfl) hym rfl (by decide) rfl) rfl) rfl rfl ?_
      refine d_sd (sd_bin rfl rfl rfl (nes26 _ _ x y)) rfl rfl ?_
      refine d_end ?_
      refine r_nil ?_
      refine k_then (hK12 _ _ _ ?_)
      refine w_if rfl (fun h => ?_) (fun h => ?_)
      · -- yes
        rw [Bool.not_eq_true'] at h
        replace h := of_decide_eq_false h
        refine w_seq fun K13 hK13 => ?_
        refine w_region ?_
        refine r_sd (sd_assign rfl rfl) rfl rfl ?_
        refine r_nil ?_
        refine k_then (hK13 _ _ _ ?_)
        refine w_ret ?_
        refine hQ _ _ _ (l_nil (vs := [(Value.bool false)]) ⟨rfl, trivial⟩ fun w hs => endV ?_ hs)
        show (Value.bool false) = (Value.bool (decide (la = lb)))
        clear hs w hQ hN hK13 K13 hK12 K12 hK11 K11 hK9 K9 hK8 K8 hK6 K6 hK5 K5 hK3 K3 hK2 K2 hK1 K1
        first | exact congrArg Value.bool (decide_eq_false (lists_ne hx hy h)).symm | exact congrArg Value.bool (decide_eq_true (lists_eq (by omega) hl0_1 (by omega))).symm | exact congrArg Value.bool (decide_eq_false (fun e => by subst e; omega)).symm
      · -- no
        rw [Bool.not_eq_false'] at h
        replace h := of_decide_eq_true h
        refine w_skip ?_
        refine k_block ?_
        refine k_then (hK11 _ _ _ ?_)
        refine w_region ?_
        refine r_sd (sd_move rfl rfl) rfl rfl ?_
        refine r_sd (sd_bin rfl rfl rfl (b_add ⟨by omega, by omega⟩)) rfl rfl ?_
        refine r_sd (sd_assign rfl rfl) rfl rfl ?_
        refine r_nil ?_
        refine k_then (hJ7 ⟨(i + 1), ⟨by omega, take_same hl0_1 hx hy h⟩⟩ _ _ _ rfl (by first | omega | (simp; omega)) (Sub.cons rfl <| Sub.cons rfl <| Sub.cons rfl <| Sub.nil _) (fun w hs => St.sel [0, 1] rfl rfl hs))
    · -- no
      replace h10 := of_decide_eq_false h10
      refine w_exit ?_
      refine k_exit_then ?_
      refine k_exit_then ?_
      refine k_exit_same ?_
      refine k_then (hK5 _ _ _ ?_)
      refine w_seq fun K14 hK14 => ?_
      refine w_region ?_
      refine r_sd (sd_assign rfl rfl) rfl rfl ?_
      refine r_nil ?_
      refine k_then (hK14 _ _ _ ?_)
      refine w_ret ?_
      refine hQ _ _ _ (l_nil (vs := [(Value.bool true)]) ⟨rfl, trivial⟩ fun w hs => endV ?_ hs)
      show (Value.bool true) = (Value.bool (decide (la = lb)))
      clear hs w hQ hN hK14 K14 hK9 K9 hK8 K8 hK6 K6 hK5 K5 hK3 K3 hK2 K2 hK1 K1
      first | exact congrArg Value.bool (decide_eq_false (lists_ne hx hy h)).symm | exact congrArg Value.bool (decide_eq_true (lists_eq (by omega) hl0_1 (by omega))).symm | exact congrArg Value.bool (decide_eq_false (fun e => by subst e; omega)).symm

set_option maxRecDepth 100000 in
set_option maxHeartbeats 400000 in
theorem same_c (la : List StretchV) (laA : Option Addr) (laC : Nat) (lb : List StretchV) (lbA : Option Addr) (lbC : Nat) (h1 : la.length ≤ 1000000) (h2 : lb.length ≤ 1000000) :
    FnV Try.prog 29 [(Value.agg (TrackV.cells (TrackV.mk (Slc.mk laA la.length laC))).toArray), (Value.agg (TrackV.cells (TrackV.mk (Slc.mk lbA lb.length lbC))).toArray)] [(rd laA la.length 9 (la.map StretchV.cells)), (rd lbA lb.length 9 (lb.map StretchV.cells))] (Value.bool (decide (la = lb))) := by
  refine fnV_of go29 Try.func29 rfl rfl fun w0 Q hQ hN => ?_
  change WJ _ _ _ _ [(0, (Value.agg (TrackV.cells (TrackV.mk (Slc.mk laA la.length laC))).toArray)), (1, (Value.agg (TrackV.cells (TrackV.mk (Slc.mk lbA lb.length lbC))).toArray))] [(rd laA la.length 9 (la.map StretchV.cells)).ro, (rd lbA lb.length 9 (lb.map StretchV.cells)).ro]
  refine w_seq fun K1 hK1 => ?_
  refine w_region ?_
  refine r_box (cs := (TrackV.cells (TrackV.mk (Slc.mk laA la.length laC)))) rfl rfl rfl rfl fun b2 => ?_
  refine r_box (cs := (TrackV.cells (TrackV.mk (Slc.mk lbA lb.length lbC)))) rfl rfl rfl rfl fun b3 => ?_
  refine r_sd (sd_assign rfl rfl) rfl rfl ?_
  refine r_nil ?_
  refine k_then (hK1 _ _ _ ?_)
  refine w_seq fun K4 hK4 => ?_
  refine w_seq fun K5 hK5 => ?_
  refine w_region ?_
  refine r_sd (sd_fa (o' := 0) rfl rfl fo24_0 rfl) rfl rfl ?_
  refine r_sd (sd_ld1 rfl rfl tk22 (at_blk (vs := [(Value.slice laA la.length laC)]) 1 rfl rfl)) rfl rfl ?_
  refine r_sd (sd_len rfl rfl ut22) rfl rfl ?_
  refine r_sd (sd_fa (o' := 0) rfl rfl fo24_0 rfl) rfl rfl ?_
  refine r_sd (sd_ld1 rfl rfl tk22 (at_blk (vs := [(Value.slice lbA lb.length lbC)]) 0 rfl rfl)) rfl rfl ?_
  refine r_sd (sd_len rfl rfl ut22) rfl rfl ?_
  refine r_sd (sd_bin rfl rfl rfl b_neq) rfl rfl ?_
  refine r_nil ?_
  refine k_then (hK5 _ _ _ ?_)
  refine w_if rfl (fun hl => ?_) (fun hl => ?_)
  · -- yes
    rw [Bool.not_eq_true'] at hl
    replace hl := of_decide_eq_false hl
    refine w_seq fun K6 hK6 => ?_
    refine w_region ?_
    refine r_sd (sd_assign rfl rfl) rfl rfl ?_
    refine r_nil ?_
    refine k_then (hK6 _ _ _ ?_)
    refine w_ret ?_
    refine hQ _ _ _ (l_nil (vs := [(Value.bool false)]) ⟨rfl, trivial⟩ fun w hs => endV ?_ hs)
    show (Value.bool false) = (Value.bool (decide (la = lb)))
    clear hs w hQ hN hK6 K6 hK5 K5 hK4 K4 hK1 K1
    first | exact congrArg Value.bool (decide_eq_false (lists_ne hx hy h)).symm | exact congrArg Value.bool (decide_eq_true (lists_eq (by omega) hl0_1 (by omega))).symm | exact congrArg Value.bool (decide_eq_false (fun e => by subst e; omega)).symm
  · -- no
    rw [Bool.not_eq_false'] at hl
    replace hl := of_decide_eq_true hl
    refine w_skip ?_
    refine k_then (hK4 _ _ _ ?_)
    refine w_seq fun K7 hK7 => ?_
    refine w_seq fun K8 hK8 => ?_
    refine w_region ?_
    refine r_sd (sd_assign rfl rfl) rfl rfl ?_
    refine r_nil ?_
    refine k_then (hK8 _ _ _ ?_)
    refine w_block ?_
    have hinit : (0 ≤ la.length) ∧ (la.take 0 = lb.take 0) := by simp
    refine w_loop (ι := { z : Nat // (z ≤ la.length) ∧ (la.take z = lb.take z) }) (fun z => [(2, (Value.pointer (some ⟨b2, 0, none⟩))), (3, (Value.pointer (some ⟨b3, 0, none⟩))), (5, (Value.int .i64 (z.1 : Int)))]) (fun z => [(blk b3 24 (TrackV.cells (TrackV.mk (Slc.mk lbA lb.length lbC)))), (blk b2 24 (TrackV.cells (TrackV.mk (Slc.mk laA la.length laC)))), (rd laA la.length 9 (la.map StretchV.cells)).ro, (rd lbA lb.length 9 (lb.map StretchV.cells)).ro]) (fun z => la.length - z.1) ⟨0, hinit⟩ (Sub.cons rfl <| Sub.cons rfl <| Sub.cons rfl <| Sub.nil _) (fun w hs => St.sel [0, 1, 2, 3] rfl rfl hs) ?_
    clear hinit
    rintro ⟨i, ⟨hl0_0, hl0_1⟩⟩ J9 hJ9
    change WJ _ _ _ _ [(2, (Value.pointer (some ⟨b2, 0, none⟩))), (3, (Value.pointer (some ⟨b3, 0, none⟩))), (5, (Value.int .i64 (i : Int)))] [(blk b3 24 (TrackV.cells (TrackV.mk (Slc.mk lbA lb.length lbC)))), (blk b2 24 (TrackV.cells (TrackV.mk (Slc.mk laA la.length laC)))), (rd laA la.length 9 (la.map StretchV.cells)).ro, (rd lbA lb.length 9 (lb.map StretchV.cells)).ro]
    refine w_seq fun K10 hK10 => ?_
    refine w_seq fun K11 hK11 => ?_
    refine w_region ?_
    refine r_sd (sd_move rfl rfl) rfl rfl ?_
    refine r_sd (sd_fa (o' := 0) rfl rfl fo24_0 rfl) rfl rfl ?_
    refine r_sd (sd_ld1 rfl rfl tk22 (at_blk (vs := [(Value.slice laA la.length laC)]) 1 rfl rfl)) rfl rfl ?_
    refine r_sd (sd_len rfl rfl ut22) rfl rfl ?_
    refine r_sd (sd_bin rfl rfl rfl b_lss) rfl rfl ?_
    refine r_nil ?_
    refine k_then (hK11 _ _ _ ?_)
    refine w_if rfl (fun h12 => ?_) (fun h12 => ?_)
    · -- yes
      replace h12 := of_decide_eq_true h12
      refine w_skip ?_
      refine k_then (hK10 _ _ _ ?_)
      refine w_seq fun K13 hK13 => ?_
      refine w_block ?_
      refine w_seq fun K14 hK14 => ?_
      refine w_draw mixed 11 (by kernel_rfl) ?_
      refine d_sd (sd_fa (o' := 0) rfl rfl fo24_0 rfl) rfl rfl ?_
      refine d_sd (sd_ld1 rfl rfl tk22 (at_blk (vs := [(Value.slice laA la.length laC)]) 1 rfl rfl)) rfl rfl ?_
      refine d_sd (sd_move rfl rfl) rfl rfl ?_
      obtain ⟨x, hx⟩ : ∃ y_, la[i]? = some y_ := ⟨la[i]'(by omega), List.getElem?_eq_getElem _⟩
      have hxm : (la.map StretchV.cells)[i]? = some (StretchV.cells x) := by rw [List.getElem?_map, hx]; rfl
      refine d_sd (sd_ia (k := i) rfl rfl rfl (has_at 2 rfl) te22 (by decide) (by omega) (by omega)) rfl rfl ?_
      refine d_sd (sd_ldn rfl rfl tk77 (at_rd (k := i) (o := 0) (vs := (StretchV.cells x)) (has_at 2 rfl) hxm rfl (by decide) rfl) rfl) rfl rfl ?_
      refine d_sd (sd_fa (o' := 0) rfl rfl fo24_0 rfl) rfl rfl ?_
      refine d_sd (sd_ld1 rfl rfl tk22 (at_blk (vs := [(Value.slice lbA lb.length lbC)]) 0 rfl rfl)) rfl rfl ?_
      refine d_sd (sd_move rfl rfl) rfl rfl ?_
      obtain ⟨y, hy⟩ : ∃ y_, lb[i]? = some y_ := ⟨lb[i]'(by omega), List.getElem?_eq_getElem _⟩
      have hym : (lb.map StretchV.cells)[i]? = some (StretchV.cells y) := by rw [List.getElem?_map, hy]; rfl
      refine d_sd (sd_ia (k := i) rfl rfl rfl (has_at 3 rfl) te22 (by decide) (by omega) (by omega)) rfl rfl ?_
      refine d_sd (sd_ldn rfl rfl tk77 (at_rd (k := i) (o := 0) (vs := (StretchV.cells y)) (has_at 3 rfl) hym rfl (by decide) rfl) rfl) rfl rfl ?_
      refine d_sd (sd_bin rfl rfl rfl (nes77 _ _ x y)) rfl rfl ?_
      refine d_end ?_
      refine r_nil ?_
      refine k_then (hK14 _ _ _ ?_)
      refine w_if rfl (fun h => ?_) (fun h => ?_)
      · -- yes
        rw [Bool.not_eq_true'] at h
        replace h := of_decide_eq_false h
        refine w_seq fun K15 hK15 => ?_
        refine w_region ?_
        refine r_sd (sd_assign rfl rfl) rfl rfl ?_
        refine r_nil ?_
        refine k_then (hK15 _ _ _ ?_)
        refine w_ret ?_
        refine hQ _ _ _ (l_nil (vs := [(Value.bool false)]) ⟨rfl, trivial⟩ fun w hs => endV ?_ hs)
        show (Value.bool false) = (Value.bool (decide (la = lb)))
        clear hs w hQ hN hK15 K15 hK14 K14 hK13 K13 hK11 K11 hK10 K10 hK8 K8 hK7 K7 hK5 K5 hK4 K4 hK1 K1
        first | exact congrArg Value.bool (decide_eq_false (lists_ne hx hy h)).symm | exact congrArg Value.bool (decide_eq_true (lists_eq (by omega) hl0_1 (by omega))).symm | exact congrArg Value.bool (decide_eq_false (fun e => by subst e; omega)).symm
      · -- no
        rw [Bool.not_eq_false'] at h
        replace h := of_decide_eq_true h
        refine w_skip ?_
        refine k_block ?_
        refine k_then (hK13 _ _ _ ?_)
        refine w_region ?_
        refine r_sd (sd_move rfl rfl) rfl rfl ?_
        refine r_sd (sd_bin rfl rfl rfl (b_add ⟨by omega, by omega⟩)) rfl rfl ?_
        refine r_sd (sd_assign rfl rfl) rfl rfl ?_
        refine r_nil ?_
        refine k_then (hJ9 ⟨(i + 1), ⟨by omega, take_same hl0_1 hx hy h⟩⟩ _ _ _ rfl (by first | omega | (simp; omega)) (Sub.cons rfl <| Sub.cons rfl <| Sub.cons rfl <| Sub.nil _) (fun w hs => St.sel [0, 1, 2, 3] rfl rfl hs))
    · -- no
      replace h12 := of_decide_eq_false h12
      refine w_exit ?_
      refine k_exit_then ?_
      refine k_exit_then ?_
      refine k_exit_same ?_
      refine k_then (hK7 _ _ _ ?_)
      refine w_seq fun K16 hK16 => ?_
      refine w_region ?_
      refine r_sd (sd_assign rfl rfl) rfl rfl ?_
      refine r_nil ?_
      refine k_then (hK16 _ _ _ ?_)
      refine w_ret ?_
      refine hQ _ _ _ (l_nil (vs := [(Value.bool true)]) ⟨rfl, trivial⟩ fun w hs => endV ?_ hs)
      show (Value.bool true) = (Value.bool (decide (la = lb)))
      clear hs w hQ hN hK16 K16 hK11 K11 hK10 K10 hK8 K8 hK7 K7 hK5 K5 hK4 K4 hK1 K1
      first | exact congrArg Value.bool (decide_eq_false (lists_ne hx hy h)).symm | exact congrArg Value.bool (decide_eq_true (lists_eq (by omega) hl0_1 (by omega))).symm | exact congrArg Value.bool (decide_eq_false (fun e => by subst e; omega)).symm

set_option maxRecDepth 100000 in
set_option maxHeartbeats 400000 in
theorem both_c (ts : List StretchV) (tsA : Option Addr) (tsC : Nat) (s : SledV) (hlen : ts.length ≤ 1000000) (hc : 0 ≤ s.Class ∧ s.Class ≤ 255) :
    FnV Try.prog 63 [(Value.agg (TrackV.cells (TrackV.mk (Slc.mk tsA ts.length tsC))).toArray), (Value.agg (SledV.cells s).toArray)] [(rd tsA ts.length 9 (ts.map StretchV.cells))] (Value.int .i64 (bothE s ts)) := by
  refine fnV_of go63 Try.func63 rfl rfl fun w0 Q hQ hN => ?_
  change WJ _ _ _ _ [(0, (Value.agg (TrackV.cells (TrackV.mk (Slc.mk tsA ts.length tsC))).toArray)), (1, (Value.agg (SledV.cells s).toArray))] [(rd tsA ts.length 9 (ts.map StretchV.cells)).ro]
  refine w_seq fun K1 hK1 => ?_
  refine w_region ?_
  refine r_box (cs := (TrackV.cells (TrackV.mk (Slc.mk tsA ts.length tsC)))) rfl rfl rfl rfl fun b2 => ?_
  refine r_box (cs := (SledV.cells s)) rfl rfl rfl rfl fun b3 => ?_
  refine r_sd (sd_assign rfl rfl) rfl rfl ?_
  refine r_nil ?_
  refine k_then (hK1 _ _ _ ?_)
  refine w_seq fun K4 hK4 => ?_
  refine w_seq fun K5 hK5 => ?_
  refine w_region ?_
  refine r_sd (sd_ldn rfl rfl tk24 (at_blk (vs := (TrackV.cells (TrackV.mk (Slc.mk tsA ts.length tsC)))) 1 rfl rfl) rfl) rfl rfl ?_
  refine r_sd (sd_call rfl rfl rfl rfl (track_c ts tsA tsC (by first | assumption | omega | (simp; done) | (simp; omega))) (ha_at 2 rfl rfl <| ha_nil)) rfl rfl ?_
  refine r_sd (sd_not rfl rfl) rfl rfl ?_
  refine r_nil ?_
  refine k_then (hK5 _ _ _ ?_)
  refine w_if rfl (fun h6 => ?_) (fun h6 => ?_)
  · -- yes
    rw [Bool.not_eq_true'] at h6
    refine w_seq fun K7 hK7 => ?_
    refine w_region ?_
    refine r_sd (sd_assign rfl rfl) rfl rfl ?_
    refine r_nil ?_
    refine k_then (hK7 _ _ _ ?_)
    refine w_ret ?_
    refine hQ _ _ _ (l_nil (vs := [(Value.int .i64 10)]) ⟨rfl, trivial⟩ fun w hs => endV ?_ hs)
    show (Value.int .i64 10) = (Value.int .i64 (bothE s ts))
    clear hs w hQ hN hK7 K7 hK5 K5 hK4 K4 hK1 K1
    exact congrArg (Value.int .i64) (by simp [bothE, *])
  · -- no
    rw [Bool.not_eq_false'] at h6
    refine w_skip ?_
    refine k_then (hK4 _ _ _ ?_)
    refine w_seq fun K8 hK8 => ?_
    refine w_region ?_
    refine r_sd (sd_ldn rfl rfl tk28 (at_blk (vs := (SledV.cells s)) 0 rfl rfl) rfl) rfl rfl ?_
    refine r_sd (sd_call rfl rfl rfl rfl (check3_c s (by first | assumption | omega | (simp; done) | (simp; omega))) (ha_nil)) rfl rfl ?_
    refine r_sd (sd_assign rfl rfl) rfl rfl ?_
    refine r_nil ?_
    refine k_then (hK8 _ _ _ ?_)
    refine w_ret ?_
    refine hQ _ _ _ (l_nil (vs := [(Value.int .i64 (if SledOk s then 0 else 30))]) ⟨rfl, trivial⟩ fun w hs => endV ?_ hs)
    show (Value.int .i64 (if SledOk s then 0 else 30)) = (Value.int .i64 (bothE s ts))
    clear hs w hQ hN hK8 K8 hK5 K5 hK4 K4 hK1 K1
    exact congrArg (Value.int .i64) (by simp [bothE, *])

set_option maxRecDepth 100000 in
set_option maxHeartbeats 400000 in
theorem air_c (s : SledV) (best : Bool) (tsA : Option Addr) (tsN : Nat) (tsC : Nat) (h : Int) (lo : Int) (hs : SledOk s) (hh : 0 ≤ h ∧ h ≤ 400000) (hl : 0 ≤ lo ∧ lo ≤ 100000) :
    FnV Try.prog 111 [(Value.agg (RiderV.cells (RiderV.mk s (TrackV.mk (Slc.mk tsA tsN tsC)) best)).toArray), (Value.int .i64 h), (Value.int .i64 lo)] [] (Value.int .i64 (min h (h * oneF best false s.Drag * lo / (100 * oneF best true s.Weight)))) := by
  have h5 := oneF_ok (best := best) (f := false) hs.2.2.2.1
  have h6 := oneF_ok (best := best) (f := true) hs.2.2.2.2.1
  have m1 := mulb hh.1 hh.2 h5.1 h5.2
  have m2 := mulb m1.1 m1.2 hl.1 hl.2
  have m3 := divb (b := 100 * oneF best true s.Weight) m2.1 m2.2 (by omega)
  refine fnV_of go111 Try.func111 rfl rfl fun w0 Q hQ hN => ?_
  change WJ _ _ _ _ [(0, (Value.agg (RiderV.cells (RiderV.mk s (TrackV.mk (Slc.mk tsA tsN tsC)) best)).toArray)), (1, (Value.int .i64 h)), (2, (Value.int .i64 lo))] []
  refine w_seq fun K1 hK1 => ?_
  refine w_region ?_
  refine r_box (cs := (RiderV.cells (RiderV.mk s (TrackV.mk (Slc.mk tsA tsN tsC)) best))) rfl rfl rfl rfl fun b2 => ?_
  refine r_sd (sd_assign rfl rfl) rfl rfl ?_
  refine r_nil ?_
  refine k_then (hK1 _ _ _ ?_)
  refine w_seq fun K3 hK3 => ?_
  refine w_draw mixed 19 (by kernel_rfl) ?_
  refine d_sd (sd_move rfl rfl) rfl rfl ?_
  refine d_sd (sd_move rfl rfl) rfl rfl ?_
  refine d_sd (sd_ldn rfl rfl tk108 (at_blk (vs := (RiderV.cells (RiderV.mk s (TrackV.mk (Slc.mk tsA tsN tsC)) best))) 0 rfl rfl) rfl) rfl rfl ?_
  refine d_sd (sd_fa (o' := 0) rfl rfl fo108_0 rfl) rfl rfl ?_
  refine d_sd (sd_fa (o' := 5) rfl rfl fo28_3 rfl) rfl rfl ?_
  refine d_sd (sd_ldn rfl rfl tk26 (at_blk (vs := (SpanV.cells s.Drag)) 0 rfl rfl) rfl) rfl rfl ?_
  refine d_sd (sd_call rfl rfl rfl rfl (one_c s best tsA tsN tsC s.Drag false) (ha_nil)) rfl rfl ?_
  refine d_sd (sd_bin rfl rfl rfl (b_mul ⟨by omega, by omega⟩)) rfl rfl ?_
  refine d_sd (sd_move rfl rfl) rfl rfl ?_
  refine d_sd (sd_bin rfl rfl rfl (b_mul ⟨by omega, by omega⟩)) rfl rfl ?_
  refine d_sd (sd_ldn rfl rfl tk108 (at_blk (vs := (RiderV.cells (RiderV.mk s (TrackV.mk (Slc.mk tsA tsN tsC)) best))) 0 rfl rfl) rfl) rfl rfl ?_
  refine d_sd (sd_fa (o' := 0) rfl rfl fo108_0 rfl) rfl rfl ?_
  refine d_sd (sd_fa (o' := 7) rfl rfl fo28_4 rfl) rfl rfl ?_
  refine d_sd (sd_ldn rfl rfl tk26 (at_blk (vs := (SpanV.cells s.Weight)) 0 rfl rfl) rfl) rfl rfl ?_
  refine d_sd (sd_call rfl rfl rfl rfl (one_c s best tsA tsN tsC s.Weight true) (ha_nil)) rfl rfl ?_
  refine d_sd (sd_bin rfl rfl rfl (b_mul ⟨by omega, by omega⟩)) rfl rfl ?_
  refine d_sd (sd_bin rfl rfl rfl (b_quo (by omega) (by omega) (by omega))) rfl rfl ?_
  refine d_sd (sd_min rfl rfl rfl) rfl rfl ?_
  refine d_sd (sd_assign rfl rfl) rfl rfl ?_
  refine d_end ?_
  refine r_nil ?_
  refine k_then (hK3 _ _ _ ?_)
  refine w_ret ?_
  refine hQ _ _ _ (l_nil (vs := [(Value.int .i64 (min h (((h * (oneF best false s.Drag)) * lo) / (100 * (oneF best true s.Weight)))))]) ⟨rfl, trivial⟩ fun w hs => endV ?_ hs)
  show (Value.int .i64 (min h (((h * (oneF best false s.Drag)) * lo) / (100 * (oneF best true s.Weight))))) = (Value.int .i64 (min h (h * oneF best false s.Drag * lo / (100 * oneF best true s.Weight))))
  clear hs w hQ hN hK3 K3 hK1 K1
  rfl

set_option maxRecDepth 100000 in
set_option maxHeartbeats 400000 in
theorem ice_c (s : SledV) (best : Bool) (tsA : Option Addr) (tsN : Nat) (tsC : Nat) (h : Int) (lo : Int) (hs : SledOk s) (hl : 0 ≤ lo ∧ lo ≤ 100000) :
    FnV Try.prog 112 [(Value.agg (RiderV.cells (RiderV.mk s (TrackV.mk (Slc.mk tsA tsN tsC)) best)).toArray), (Value.int .i64 h), (Value.int .i64 lo)] [] (Value.int .i64 (oneF best false s.Rub * lo / 100)) := by
  have h5 := oneF_ok (best := best) (f := false) hs.2.2.1
  have m1 := mulb h5.1 h5.2 hl.1 hl.2
  refine fnV_of go112 Try.func112 rfl rfl fun w0 Q hQ hN => ?_
  change WJ _ _ _ _ [(0, (Value.agg (RiderV.cells (RiderV.mk s (TrackV.mk (Slc.mk tsA tsN tsC)) best)).toArray)), (1, (Value.int .i64 h)), (2, (Value.int .i64 lo))] []
  refine w_seq fun K1 hK1 => ?_
  refine w_region ?_
  refine r_box (cs := (RiderV.cells (RiderV.mk s (TrackV.mk (Slc.mk tsA tsN tsC)) best))) rfl rfl rfl rfl fun b2 => ?_
  refine r_sd (sd_assign rfl rfl) rfl rfl ?_
  refine r_nil ?_
  refine k_then (hK1 _ _ _ ?_)
  refine w_seq fun K3 hK3 => ?_
  refine w_region ?_
  refine r_sd (sd_ldn rfl rfl tk108 (at_blk (vs := (RiderV.cells (RiderV.mk s (TrackV.mk (Slc.mk tsA tsN tsC)) best))) 0 rfl rfl) rfl) rfl rfl ?_
  refine r_sd (sd_fa (o' := 0) rfl rfl fo108_0 rfl) rfl rfl ?_
  refine r_sd (sd_fa (o' := 3) rfl rfl fo28_2 rfl) rfl rfl ?_
  refine r_sd (sd_ldn rfl rfl tk26 (at_blk (vs := (SpanV.cells s.Rub)) 0 rfl rfl) rfl) rfl rfl ?_
  refine r_sd (sd_call rfl rfl rfl rfl (one_c s best tsA tsN tsC s.Rub false) (ha_nil)) rfl rfl ?_
  refine r_sd (sd_move rfl rfl) rfl rfl ?_
  refine r_sd (sd_bin rfl rfl rfl (b_mul ⟨by omega, by omega⟩)) rfl rfl ?_
  refine r_sd (sd_bin rfl rfl rfl (b_quo (by omega) (by omega) (by omega))) rfl rfl ?_
  refine r_sd (sd_assign rfl rfl) rfl rfl ?_
  refine r_nil ?_
  refine k_then (hK3 _ _ _ ?_)
  refine w_ret ?_
  refine hQ _ _ _ (l_nil (vs := [(Value.int .i64 (((oneF best false s.Rub) * lo) / 100))]) ⟨rfl, trivial⟩ fun w hs => endV ?_ hs)
  show (Value.int .i64 (((oneF best false s.Rub) * lo) / 100)) = (Value.int .i64 (oneF best false s.Rub * lo / 100))
  clear hs w hQ hN hK3 K3 hK1 K1
  rfl

set_option maxRecDepth 100000 in
set_option maxHeartbeats 400000 in
theorem takers_c  :
    FnV Try.prog 94 [] [] (Value.agg ((T151V.cells (T151V.mk (Value.func (.func 111) [].toArray [].toArray))) ++ (T151V.cells (T151V.mk (Value.func (.func 112) [].toArray [].toArray)))).toArray) := by
  refine fnV_of go94 Try.func94 rfl rfl fun w0 Q hQ hN => ?_
  change WJ _ _ _ _ [] []
  refine w_seq fun K1 hK1 => ?_
  refine w_region ?_
  refine r_alloc rfl tz152 rfl fun b2 => ?_
  refine r_nil ?_
  refine k_then (hK1 _ _ _ ?_)
  refine w_seq fun K3 hK3 => ?_
  refine w_region ?_
  refine r_sd (sd_build (xs := [(0, .func 111)]) (cs := (T151V.cells (T151V.mk (Value.func (.func 111) [].toArray [].toArray)))) rfl rfl (built_of tb151 rfl)) rfl rfl ?_
  refine r_sd (sd_build (xs := [(0, .func 112)]) (cs := (T151V.cells (T151V.mk (Value.func (.func 112) [].toArray [].toArray)))) rfl rfl (built_of tb151 rfl)) rfl rfl ?_
  refine r_sd (sd_build (xs := [(0, .tmp 1), (1, .tmp 2)]) (cs := ((T151V.cells (T151V.mk (Value.func (.func 111) [].toArray [].toArray))) ++ (T151V.cells (T151V.mk (Value.func (.func 112) [].toArray [].toArray))))) rfl rfl (built_of tb152 rfl)) rfl rfl ?_
  refine r_store (vs := ((T151V.cells (T151V.mk (Value.func (.func 111) [].toArray [].toArray))) ++ (T151V.cells (T151V.mk (Value.func (.func 112) [].toArray [].toArray))))) (cs' := ((T151V.cells (T151V.mk (Value.func (.func 111) [].toArray [].toArray))) ++ (T151V.cells (T151V.mk (Value.func (.func 112) [].toArray [].toArray))))) (C' := [(blk b2 152 ((T151V.cells (T151V.mk (Value.func (.func 111) [].toArray [].toArray))) ++ (T151V.cells (T151V.mk (Value.func (.func 112) [].toArray [].toArray)))))]) 0 rfl rfl rfl ts152 rfl rfl rfl rfl rfl rfl rfl ?_
  refine r_nil ?_
  refine k_then (hK3 _ _ _ ?_)
  refine w_ret ?_
  refine hQ _ _ _ (l_nil (vs := [(Value.agg ((T151V.cells (T151V.mk (Value.func (.func 111) [].toArray [].toArray))) ++ (T151V.cells (T151V.mk (Value.func (.func 112) [].toArray [].toArray)))).toArray)]) ⟨⟨_, rfl, .inl ⟨_, _, tk152, at_blk (vs := ((T151V.cells (T151V.mk (Value.func (.func 111) [].toArray [].toArray))) ++ (T151V.cells (T151V.mk (Value.func (.func 112) [].toArray [].toArray))))) 0 rfl rfl, rfl, rfl⟩⟩, trivial⟩ fun w hs => endV ?_ hs)
  show (Value.agg ((T151V.cells (T151V.mk (Value.func (.func 111) [].toArray [].toArray))) ++ (T151V.cells (T151V.mk (Value.func (.func 112) [].toArray [].toArray)))).toArray) = (Value.agg ((T151V.cells (T151V.mk (Value.func (.func 111) [].toArray [].toArray))) ++ (T151V.cells (T151V.mk (Value.func (.func 112) [].toArray [].toArray)))).toArray)
  clear hs w hQ hN hK3 K3 hK1 K1
  rfl

end Go.Proofs.Ytpbgdeojcefnmaa
