/-
  Walks: kreisel/kreiselref03.Sled, kreisel/kreiselref03.Check, kreisel/slide.within, kreisel/slide.Check
-/
import Derived.Test.YtpbgdeojcefnmaaTab
import Derived.Test.YtpbgdeojcefnmaaSort
import Derived.Test.YtpbgdeojcefnmaaW1
namespace Go.Proofs.Ytpbgdeojcefnmaa
open Go.RowKit
set_option linter.unusedVariables false

set_option maxRecDepth 100000 in
set_option maxHeartbeats 400000 in
theorem sled_c (s : SledV) (hc : 0 ≤ s.Class ∧ s.Class ≤ 255) :
    FnV Try.prog 48 [(Value.agg (SledV.cells s).toArray)] [] (Value.bool (decide (SledOk s))) := by
  refine fnV_of go48 Try.func48 rfl rfl fun w0 Q hQ hN => ?_
  change WJ _ _ _ _ [(0, (Value.agg (SledV.cells s).toArray))] []
  refine w_seq fun K1 hK1 => ?_
  refine w_region ?_
  refine r_box (cs := (SledV.cells s)) rfl rfl rfl rfl fun b2 => ?_
  refine r_sd (sd_assign rfl rfl) rfl rfl ?_
  refine r_nil ?_
  refine k_then (hK1 _ _ _ ?_)
  refine w_seq fun K3 hK3 => ?_
  refine w_region ?_
  refine r_sd (sd_fa (o' := 0) rfl rfl fo28_0 rfl) rfl rfl ?_
  refine r_sd (sd_ld1 rfl rfl tk5 (at_blk (vs := [(Value.int .u8 s.Class)]) 0 rfl rfl)) rfl rfl ?_
  refine r_sd (sd_conv (m := s.Class) rfl rfl ut5 ut3 (wrap_u8_i64 (by first | assumption | omega))) rfl rfl ?_
  refine r_sd (sd_call rfl rfl rfl rfl (within3_c s.Class 1 3) (ha_nil)) rfl rfl ?_
  refine r_sd (sd_move rfl rfl) rfl rfl ?_
  refine r_bool (t := 7) rfl (fun h4 => ?_) (fun h4 => ?_)
  · -- yes
    replace h4 := of_decide_eq_true h4
    refine r_sd (sd_fa (o' := 1) rfl rfl fo28_1 rfl) rfl rfl ?_
    refine r_sd (sd_ldn rfl rfl tk26 (at_blk (vs := (SpanV.cells s.Start)) 0 rfl rfl) rfl) rfl rfl ?_
    refine r_sd (sd_call rfl rfl rfl rfl (span3_c s.Start 0 200000) (ha_nil)) rfl rfl ?_
    refine r_sd (sd_pick_t rfl rfl rfl) rfl rfl ?_
    refine r_sd (sd_move rfl rfl) rfl rfl ?_
    refine r_bool (t := 12) rfl (fun h5 => ?_) (fun h5 => ?_)
    · -- yes
      replace h5 := of_decide_eq_true h5
      refine r_sd (sd_fa (o' := 3) rfl rfl fo28_2 rfl) rfl rfl ?_
      refine r_sd (sd_ldn rfl rfl tk26 (at_blk (vs := (SpanV.cells s.Rub)) 0 rfl rfl) rfl) rfl rfl ?_
      refine r_sd (sd_call rfl rfl rfl rfl (span3_c s.Rub 0 100) (ha_nil)) rfl rfl ?_
      refine r_sd (sd_pick_t rfl rfl rfl) rfl rfl ?_
      refine r_sd (sd_move rfl rfl) rfl rfl ?_
      refine r_bool (t := 17) rfl (fun h6 => ?_) (fun h6 => ?_)
      · -- yes
        replace h6 := of_decide_eq_true h6
        refine r_sd (sd_fa (o' := 5) rfl rfl fo28_3 rfl) rfl rfl ?_
        refine r_sd (sd_ldn rfl rfl tk26 (at_blk (vs := (SpanV.cells s.Drag)) 0 rfl rfl) rfl) rfl rfl ?_
        refine r_sd (sd_call rfl rfl rfl rfl (span3_c s.Drag 0 1000) (ha_nil)) rfl rfl ?_
        refine r_sd (sd_pick_t rfl rfl rfl) rfl rfl ?_
        refine r_sd (sd_move rfl rfl) rfl rfl ?_
        refine r_bool (t := 22) rfl (fun h7 => ?_) (fun h7 => ?_)
        · -- yes
          replace h7 := of_decide_eq_true h7
          refine r_sd (sd_fa (o' := 7) rfl rfl fo28_4 rfl) rfl rfl ?_
          refine r_sd (sd_ldn rfl rfl tk26 (at_blk (vs := (SpanV.cells s.Weight)) 0 rfl rfl) rfl) rfl rfl ?_
          refine r_sd (sd_call rfl rfl rfl rfl (span3_c s.Weight 50000 800000) (ha_nil)) rfl rfl ?_
          refine r_sd (sd_pick_t rfl rfl rfl) rfl rfl ?_
          refine r_sd (sd_move rfl rfl) rfl rfl ?_
          refine r_bool (t := 27) rfl (fun h8 => ?_) (fun h8 => ?_)
          · -- yes
            replace h8 := of_decide_eq_true h8
            refine r_sd (sd_fa (o' := 9) rfl rfl fo28_5 rfl) rfl rfl ?_
            refine r_sd (sd_ldn rfl rfl tk26 (at_blk (vs := (SpanV.cells s.Steer)) 0 rfl rfl) rfl) rfl rfl ?_
            refine r_sd (sd_call rfl rfl rfl rfl (span3_c s.Steer (-500) 500) (ha_nil)) rfl rfl ?_
            refine r_sd (sd_pick_t rfl rfl rfl) rfl rfl ?_
            refine r_sd (sd_assign rfl rfl) rfl rfl ?_
            refine r_nil ?_
            refine k_then (hK3 _ _ _ ?_)
            refine w_ret ?_
            refine hQ _ _ _ (l_nil (vs := [(Value.bool (decide (s.Steer.Lo ≤ s.Steer.Hi ∧ (-500) ≤ s.Steer.Lo ∧ s.Steer.Hi ≤ 500)))]) ⟨rfl, trivial⟩ fun w hs => endV ?_ hs)
            show (Value.bool (decide (s.Steer.Lo ≤ s.Steer.Hi ∧ (-500) ≤ s.Steer.Lo ∧ s.Steer.Hi ≤ 500))) = (Value.bool (decide (SledOk s)))
            clear hs w hQ hN hK3 K3 hK1 K1
            exact congrArg Value.bool (decide_eq_decide.2 (by simp only [SledOk, SpanOk]; omega))
          · -- no
            replace h8 := of_decide_eq_false h8
            refine r_sd (sd_off rfl) rfl rfl ?_
            refine r_sd (sd_off rfl) rfl rfl ?_
            refine r_sd (sd_off rfl) rfl rfl ?_
            refine r_sd (sd_pick_f rfl rfl rfl) rfl rfl ?_
            refine r_sd (sd_assign rfl rfl) rfl rfl ?_
            refine r_nil ?_
            refine k_then (hK3 _ _ _ ?_)
            refine w_ret ?_
            refine hQ _ _ _ (l_nil (vs := [(Value.bool false)]) ⟨rfl, trivial⟩ fun w hs => endV ?_ hs)
            show (Value.bool false) = (Value.bool (decide (SledOk s)))
            clear hs w hQ hN hK3 K3 hK1 K1
            exact congrArg Value.bool (decide_eq_false (by simp only [SledOk, SpanOk]; omega)).symm
        · -- no
          replace h7 := of_decide_eq_false h7
          refine r_sd (sd_off rfl) rfl rfl ?_
          refine r_sd (sd_off rfl) rfl rfl ?_
          refine r_sd (sd_off rfl) rfl rfl ?_
          refine r_sd (sd_pick_f rfl rfl rfl) rfl rfl ?_
          refine r_sd (sd_move rfl rfl) rfl rfl ?_
          refine r_sd (sd_off rfl) rfl rfl ?_
          refine r_sd (sd_off rfl) rfl rfl ?_
          refine r_sd (sd_off rfl) rfl rfl ?_
          refine r_sd (sd_pick_f rfl rfl rfl) rfl rfl ?_
          refine r_sd (sd_assign rfl rfl) rfl rfl ?_
          refine r_nil ?_
          refine k_then (hK3 _ _ _ ?_)
          refine w_ret ?_
          refine hQ _ _ _ (l_nil (vs := [(Value.bool false)]) ⟨rfl, trivial⟩ fun w hs => endV ?_ hs)
          show (Value.bool false) = (Value.bool (decide (SledOk s)))
          clear hs w hQ hN hK3 K3 hK1 K1
          exact congrArg Value.bool (decide_eq_false (by simp only [SledOk, SpanOk]; omega)).symm
      · -- no
        replace h6 := of_decide_eq_false h6
        refine r_sd (sd_off rfl) rfl rfl ?_
        refine r_sd (sd_off rfl) rfl rfl ?_
        refine r_sd (sd_off rfl) rfl rfl ?_
        refine r_sd (sd_pick_f rfl rfl rfl) rfl rfl ?_
        refine r_sd (sd_move rfl rfl) rfl rfl ?_
        refine r_sd (sd_off rfl) rfl rfl ?_
        refine r_sd (sd_off rfl) rfl rfl ?_
        refine r_sd (sd_off rfl) rfl rfl ?_
        refine r_sd (sd_pick_f rfl rfl rfl) rfl rfl ?_
        refine r_sd (sd_move rfl rfl) rfl rfl ?_
        refine r_sd (sd_off rfl) rfl rfl ?_
        refine r_sd (sd_off rfl) rfl rfl ?_
        refine r_sd (sd_off rfl) rfl rfl ?_
        refine r_sd (sd_pick_f rfl rfl rfl) rfl rfl ?_
        refine r_sd (sd_assign rfl rfl) rfl rfl ?_
        refine r_nil ?_
        refine k_then (hK3 _ _ _ ?_)
        refine w_ret ?_
        refine hQ _ _ _ (l_nil (vs := [(Value.bool false)]) ⟨rfl, trivial⟩ fun w hs => endV ?_ hs)
        show (Value.bool false) = (Value.bool (decide (SledOk s)))
        clear hs w hQ hN hK3 K3 hK1 K1
        exact congrArg Value.bool (decide_eq_false (by simp only [SledOk, SpanOk]; omega)).symm
    · -- no
      replace h5 := of_decide_eq_false h5
      refine r_sd (sd_off rfl) rfl rfl ?_
      refine r_sd (sd_off rfl) rfl rfl ?_
      refine r_sd (sd_off rfl) rfl rfl ?_
      refine r_sd (sd_pick_f rfl rfl rfl) rfl rfl ?_
      refine r_sd (sd_move rfl rfl) rfl rfl ?_
      refine r_sd (sd_off rfl) rfl rfl ?_
      refine r_sd (sd_off rfl) rfl rfl ?_
      refine r_sd (sd_off rfl) rfl rfl ?_
      refine r_sd (sd_pick_f rfl rfl rfl) rfl rfl ?_
      refine r_sd (sd_move rfl rfl) rfl rfl ?_
      refine r_sd (sd_off rfl) rfl rfl ?_
      refine r_sd (sd_off rfl) rfl rfl ?_
      refine r_sd (sd_off rfl) rfl rfl ?_
      refine r_sd (sd_pick_f rfl rfl rfl) rfl rfl ?_
      refine r_sd (sd_move rfl rfl) rfl rfl ?_
      refine r_sd (sd_off rfl) rfl rfl ?_
      refine r_sd (sd_off rfl) rfl rfl ?_
      refine r_sd (sd_off rfl) rfl rfl ?_
      refine r_sd (sd_pick_f rfl rfl rfl) rfl rfl ?_
      refine r_sd (sd_assign rfl rfl) rfl rfl ?_
      refine r_nil ?_
      refine k_then (hK3 _ _ _ ?_)
      refine w_ret ?_
      refine hQ _ _ _ (l_nil (vs := [(Value.bool false)]) ⟨rfl, trivial⟩ fun w hs => endV ?_ hs)
      show (Value.bool false) = (Value.bool (decide (SledOk s)))
      clear hs w hQ hN hK3 K3 hK1 K1
      exact congrArg Value.bool (decide_eq_false (by simp only [SledOk, SpanOk]; omega)).symm
  · -- no
    replace h4 := of_decide_eq_false h4
    refine r_sd (sd_off rfl) rfl rfl ?_
    refine r_sd (sd_off rfl) rfl rfl ?_
    refine r_sd (sd_off rfl) rfl rfl ?_
    refine r_sd (sd_pick_f rfl rfl rfl) rfl rfl ?_
    refine r_sd (sd_move rfl rfl) rfl rfl ?_
    refine r_sd (sd_off rfl) rfl rfl ?_
    refine r_sd (sd_off rfl) rfl rfl ?_
    refine r_sd (sd_off rfl) rfl rfl ?_
    refine r_sd (sd_pick_f rfl rfl rfl) rfl rfl ?_
    refine r_sd (sd_move rfl rfl) rfl rfl ?_
    refine r_sd (sd_off rfl) rfl rfl ?_
    refine r_sd (sd_off rfl) rfl rfl ?_
    refine r_sd (sd_off rfl) rfl rfl ?_
    refine r_sd (sd_pick_f rfl rfl rfl) rfl rfl ?_
    refine r_sd (sd_move rfl rfl) rfl rfl ?_
    refine r_sd (sd_off rfl) rfl rfl ?_
    refine r_sd (sd_off rfl) rfl rfl ?_
    refine r_sd (sd_off rfl) rfl rfl ?_
    refine r_sd (sd_pick_f rfl rfl rfl) rfl rfl ?_
    refine r_sd (sd_move rfl rfl) rfl rfl ?_
    refine r_sd (sd_off rfl) rfl rfl ?_
    refine r_sd (sd_off rfl) rfl rfl ?_
    refine r_sd (sd_off rfl) rfl rfl ?_
    refine r_sd (sd_pick_f rfl rfl rfl) rfl rfl ?_
    refine r_sd (sd_assign rfl rfl) rfl rfl ?_
    refine r_nil ?_
    refine k_then (hK3 _ _ _ ?_)
    refine w_ret ?_
    refine hQ _ _ _ (l_nil (vs := [(Value.bool false)]) ⟨rfl, trivial⟩ fun w hs => endV ?_ hs)
    show (Value.bool false) = (Value.bool (decide (SledOk s)))
    clear hs w hQ hN hK3 K3 hK1 K1
    exact congrArg Value.bool (decide_eq_false (by simp only [SledOk, SpanOk]; omega)).symm

set_option maxRecDepth 100000 in
set_option maxHeartbeats 400000 in
theorem check3_c (s : SledV) (hc : 0 ≤ s.Class ∧ s.Class ≤ 255) :
    FnV Try.prog 27 [(Value.agg (SledV.cells s).toArray)] [] (Value.int .i64 (if SledOk s then 0 else 30)) := by
  refine fnV_of go27 Try.func27 rfl rfl fun w0 Q hQ hN => ?_
  change WJ _ _ _ _ [(0, (Value.agg (SledV.cells s).toArray))] []
  refine w_seq fun K1 hK1 => ?_
  refine w_region ?_
  refine r_box (cs := (SledV.cells s)) rfl rfl rfl rfl fun b2 => ?_
  refine r_sd (sd_assign rfl rfl) rfl rfl ?_
  refine r_nil ?_
  refine k_then (hK1 _ _ _ ?_)
  refine w_seq fun K3 hK3 => ?_
  refine w_seq fun K4 hK4 => ?_
  refine w_region ?_
  refine r_sd (sd_ldn rfl rfl tk28 (at_blk (vs := (SledV.cells s)) 0 rfl rfl) rfl) rfl rfl ?_
  refine r_sd (sd_call rfl rfl rfl rfl (sled_c s (by first | assumption | omega | (simp; done) | (simp; omega))) (ha_nil)) rfl rfl ?_
  refine r_sd (sd_not rfl rfl) rfl rfl ?_
  refine r_nil ?_
  refine k_then (hK4 _ _ _ ?_)
  refine w_if rfl (fun h5 => ?_) (fun h5 => ?_)
  · -- yes
    rw [Bool.not_eq_true'] at h5
    replace h5 := of_decide_eq_false h5
    refine w_seq fun K6 hK6 => ?_
    refine w_region ?_
    refine r_sd (sd_assign rfl rfl) rfl rfl ?_
    refine r_nil ?_
    refine k_then (hK6 _ _ _ ?_)
    refine w_ret ?_
    refine hQ _ _ _ (l_nil (vs := [(Value.int .i64 30)]) ⟨rfl, trivial⟩ fun w hs => endV ?_ hs)
    show (Value.int .i64 30) = (Value.int .i64 (if SledOk s then 0 else 30))
    clear hs w hQ hN hK6 K6 hK4 K4 hK3 K3 hK1 K1
    exact congrArg (Value.int .i64) (by simp [*])
  · -- no
    rw [Bool.not_eq_false'] at h5
    replace h5 := of_decide_eq_true h5
    refine w_skip ?_
    refine k_then (hK3 _ _ _ ?_)
    refine w_seq fun K7 hK7 => ?_
    refine w_region ?_
    refine r_sd (sd_assign rfl rfl) rfl rfl ?_
    refine r_nil ?_
    refine k_then (hK7 _ _ _ ?_)
    refine w_ret ?_
    refine hQ _ _ _ (l_nil (vs := [(Value.int .i64 0)]) ⟨rfl, trivial⟩ fun w hs => endV ?_ hs)
    show (Value.int .i64 0) = (Value.int .i64 (if SledOk s then 0 else 30))
    clear hs w hQ hN hK7 K7 hK4 K4 hK3 K3 hK1 K1
    exact congrArg (Value.int .i64) (by simp [*])

set_option maxRecDepth 100000 in
set_option maxHeartbeats 400000 in
theorem swithin_c (lo : Int) (hi : Int) (l : List SpanV) (lA : Option Addr) (lC : Nat) (hle : lo ≤ hi) (hlen : l.length ≤ 1000000) :
    FnV Try.prog 74 [(Value.int .i64 lo), (Value.int .i64 hi), (Value.slice lA l.length lC)] [(rd lA l.length 2 (l.map SpanV.cells))] (Value.bool (inSpans lo hi l)) := by
  refine fnV_of go74 Try.func74 rfl rfl fun w0 Q hQ hN => ?_
  change WJ _ _ _ _ [(0, (Value.int .i64 lo)), (1, (Value.int .i64 hi)), (2, (Value.slice lA l.length lC))] [(rd lA l.length 2 (l.map SpanV.cells)).ro]
  refine w_seq fun K1 hK1 => ?_
  refine w_region ?_
  refine r_sd (sd_assign rfl rfl) rfl rfl ?_
  refine r_nil ?_
  refine k_then (hK1 _ _ _ ?_)
  refine w_seq fun K2 hK2 => ?_
  refine w_seq fun K3 hK3 => ?_
  refine w_region ?_
  refine r_sd (sd_move rfl rfl) rfl rfl ?_
  refine r_sd (sd_len rfl rfl ut31) rfl rfl ?_
  refine r_sd (sd_move rfl rfl) rfl rfl ?_
  refine r_nil ?_
  refine k_then (hK3 _ _ _ ?_)
  refine w_block ?_
  have hinit : (0 ≤ l.length) ∧ ((l.take 0).all (fun s => decide (s.Lo ≤ s.Hi ∧ lo ≤ s.Lo ∧ s.Hi ≤ hi)) = true) := by simp
  refine w_loop (ι := { z : Nat // (z ≤ l.length) ∧ ((l.take z).all (fun s => decide (s.Lo ≤ s.Hi ∧ lo ≤ s.Lo ∧ s.Hi ≤ hi)) = true) }) (fun z => [(0, (Value.int .i64 lo)), (1, (Value.int .i64 hi)), (2, (Value.slice lA l.length lC)), (9, (Value.slice lA l.length lC)), (10, (Value.int .i64 ((l.length : Nat) : Int))), (11, (Value.int .i64 (z.1 : Int)))]) (fun z => [(rd lA l.length 2 (l.map SpanV.cells)).ro]) (fun z => l.length - z.1) ⟨0, hinit⟩ (Sub.cons rfl <| Sub.cons rfl <| Sub.cons rfl <| Sub.cons rfl <| Sub.cons rfl <| Sub.cons rfl <| Sub.nil _) (fun w hs => St.sel [0] rfl rfl hs) ?_
  clear hinit
  rintro ⟨i, ⟨hl0_0, hl0_1⟩⟩ J4 hJ4
  change WJ _ _ _ _ [(0, (Value.int .i64 lo)), (1, (Value.int .i64 hi)), (2, (Value.slice lA l.length lC)), (9, (Value.slice lA l.length lC)), (10, (Value.int .i64 ((l.length : Nat) : Int))), (11, (Value.int .i64 (i : Int)))] [(rd lA l.length 2 (l.map SpanV.cells)).ro]
  refine w_seq fun K5 hK5 => ?_
  refine w_region ?_
  refine r_sd (sd_bin rfl rfl rfl b_lss) rfl rfl ?_
  refine r_nil ?_
  refine k_then (hK5 _ _ _ ?_)
  refine w_seq fun K6 hK6 => ?_
  refine w_if rfl (fun h7 => ?_) (fun h7 => ?_)
  · -- yes
    replace h7 := of_decide_eq_true h7
    refine w_skip ?_
    refine k_then (hK6 _ _ _ ?_)
    refine w_seq fun K8 hK8 => ?_
    refine w_block ?_
    refine w_seq fun K9 hK9 => ?_
    refine w_region ?_
    obtain ⟨x, hx⟩ : ∃ y_, l[i]? = some y_ := ⟨l[i]'(by omega), List.getElem?_eq_getElem _⟩
    have hxm : (l.map SpanV.cells)[i]? = some (SpanV.cells x) := by rw [List.getElem?_map, hx]; rfl
    refine r_sd (sd_ia (k := i) rfl rfl rfl (has_at 0 rfl) te31 (by decide) (by omega) (by omega)) rfl rfl ?_
    refine r_sd (sd_ldn rfl rfl tk26 (at_rd (k := i) (o := 0) (vs := (SpanV.cells x)) (has_at 0 rfl) hxm rfl (by decide) rfl) rfl) rfl rfl ?_
    refine r_alloc rfl tz26 rfl fun b10 => ?_
    refine r_store (vs := (SpanV.cells x)) (cs' := (SpanV.cells x)) (C' := [(blk b10 26 (SpanV.cells x)), _]) 0 rfl rfl rfl ts26 rfl rfl rfl rfl rfl rfl rfl ?_
    refine r_nil ?_
    refine k_then (hK9 _ _ _ ?_)
    refine w_seq fun K11 hK11 => ?_
    refine w_region ?_
    refine r_sd (sd_ldn rfl rfl tk26 (at_blk (vs := (SpanV.cells x)) 0 rfl rfl) rfl) rfl rfl ?_
    refine r_sd (sd_move rfl rfl) rfl rfl ?_
    refine r_sd (sd_fa (o' := 0) rfl rfl fo26_0 rfl) rfl rfl ?_
    refine r_sd (sd_ld1 rfl rfl tk3 (at_blk (vs := [(Value.int .i64 x.Lo)]) 0 rfl rfl)) rfl rfl ?_
    refine r_sd (sd_fa (o' := 1) rfl rfl fo26_1 rfl) rfl rfl ?_
    refine r_sd (sd_ld1 rfl rfl tk3 (at_blk (vs := [(Value.int .i64 x.Hi)]) 0 rfl rfl)) rfl rfl ?_
    refine r_sd (sd_min rfl rfl rfl) rfl rfl ?_
    refine r_sd (sd_max rfl rfl rfl) rfl rfl ?_
    refine r_sd (sd_move rfl rfl) rfl rfl ?_
    refine r_sd (sd_fa (o' := 0) rfl rfl fo26_0 rfl) rfl rfl ?_
    refine r_sd (sd_ld1 rfl rfl tk3 (at_blk (vs := [(Value.int .i64 x.Lo)]) 0 rfl rfl)) rfl rfl ?_
    refine r_sd (sd_fa (o' := 1) rfl rfl fo26_1 rfl) rfl rfl ?_
    refine r_sd (sd_ld1 rfl rfl tk3 (at_blk (vs := [(Value.int .i64 x.Hi)]) 0 rfl rfl)) rfl rfl ?_
    refine r_sd (sd_max rfl rfl rfl) rfl rfl ?_
    refine r_sd (sd_min rfl rfl rfl) rfl rfl ?_
    refine r_sd (sd_build (xs := [(0, .tmp 22), (1, .tmp 29)]) (cs := (SpanV.cells (SpanV.mk (max lo (min x.Lo x.Hi)) (min hi (max x.Lo x.Hi))))) rfl rfl (built_of tb26 rfl)) rfl rfl ?_
    refine r_sd (sd_bin rfl rfl rfl (nes26 _ _ x (SpanV.mk (max lo (min x.Lo x.Hi)) (min hi (max x.Lo x.Hi))))) rfl rfl ?_
    refine r_nil ?_
    refine k_then (hK11 _ _ _ ?_)
    refine w_if rfl (fun h => ?_) (fun h => ?_)
    · -- yes
      rw [Bool.not_eq_true'] at h
      replace h := of_decide_eq_false h
      refine w_seq fun K12 hK12 => ?_
      refine w_region ?_
      refine r_sd (sd_assign rfl rfl) rfl rfl ?_
      refine r_nil ?_
      refine k_then (hK12 _ _ _ ?_)
      refine w_ret ?_
      refine hQ _ _ _ (l_nil (vs := [(Value.bool false)]) ⟨rfl, trivial⟩ fun w hs => endV ?_ hs)
      show (Value.bool false) = (Value.bool (inSpans lo hi l))
      clear hs w hQ hN hK12 K12 hK11 K11 hK9 K9 hK8 K8 hK6 K6 hK5 K5 hK3 K3 hK2 K2 hK1 K1
      first | exact congrArg Value.bool (all_no hx (decide_eq_false (by rw [SpanV.ext_iff] at h; simp only at h; omega))).symm | exact congrArg Value.bool (all_end (by omega) hl0_1).symm
    · -- no
      rw [Bool.not_eq_false'] at h
      replace h := of_decide_eq_true h
      refine w_skip ?_
      refine k_block ?_
      refine k_then (hK8 _ _ _ ?_)
      refine w_region ?_
      refine r_sd (sd_bin rfl rfl rfl (b_add ⟨by omega, by omega⟩)) rfl rfl ?_
      refine r_sd (sd_move rfl rfl) rfl rfl ?_
      refine r_nil ?_
      refine k_then (hJ4 ⟨(i + 1), ⟨by omega, all_step hx hl0_1 (decide_eq_true (by rw [SpanV.ext_iff] at h; simp only at h; omega))⟩⟩ _ _ _ rfl (by first | omega | (simp; omega)) (Sub.cons rfl <| Sub.cons rfl <| Sub.cons rfl <| Sub.cons rfl <| Sub.cons rfl <| Sub.cons rfl <| Sub.nil _) (fun w hs => St.sel [1] rfl rfl hs))
  · -- no
    replace h7 := of_decide_eq_false h7
    refine w_exit ?_
    refine k_exit_then ?_
    refine k_exit_then ?_
    refine k_exit_same ?_
    refine k_then (hK2 _ _ _ ?_)
    refine w_seq fun K13 hK13 => ?_
    refine w_region ?_
    refine r_sd (sd_assign rfl rfl) rfl rfl ?_
    refine r_nil ?_
    refine k_then (hK13 _ _ _ ?_)
    refine w_ret ?_
    refine hQ _ _ _ (l_nil (vs := [(Value.bool true)]) ⟨rfl, trivial⟩ fun w hs => endV ?_ hs)
    show (Value.bool true) = (Value.bool (inSpans lo hi l))
    clear hs w hQ hN hK13 K13 hK6 K6 hK5 K5 hK3 K3 hK2 K2 hK1 K1
    first | exact congrArg Value.bool (all_no hx (decide_eq_false (by rw [SpanV.ext_iff] at h; simp only at h; omega))).symm | exact congrArg Value.bool (all_end (by omega) hl0_1).symm

set_option maxRecDepth 100000 in
set_option maxHeartbeats 400000 in
theorem scheck_c (s : SledV) :
    FnV Try.prog 26 [(Value.agg (SledV.cells s).toArray)] [] (Value.int .i64 (if SledOk s then 0 else 30)) := by
  refine fnV_of go26 Try.func26 rfl rfl fun w0 Q hQ hN => ?_
  change WJ _ _ _ _ [(0, (Value.agg (SledV.cells s).toArray))] []
  refine w_seq fun K1 hK1 => ?_
  refine w_region ?_
  refine r_box (cs := (SledV.cells s)) rfl rfl rfl rfl fun b2 => ?_
  refine r_sd (sd_assign rfl rfl) rfl rfl ?_
  refine r_nil ?_
  refine k_then (hK1 _ _ _ ?_)
  refine w_seq fun K3 hK3 => ?_
  refine w_seq fun K4 hK4 => ?_
  refine w_region ?_
  refine r_sd (sd_fa (o' := 0) rfl rfl fo28_0 rfl) rfl rfl ?_
  refine r_sd (sd_ld1 rfl rfl tk5 (at_blk (vs := [(Value.int .u8 s.Class)]) 0 rfl rfl)) rfl rfl ?_
  refine r_sd (sd_bin rfl rfl rfl b_lss) rfl rfl ?_
  refine r_sd (sd_move rfl rfl) rfl rfl ?_
  refine r_bool (t := 6) rfl (fun h5 => ?_) (fun h5 => ?_)
  · -- yes
    replace h5 := of_decide_eq_true h5
    refine r_sd (sd_off rfl) rfl rfl ?_
    refine r_sd (sd_off rfl) rfl rfl ?_
    refine r_sd (sd_off rfl) rfl rfl ?_
    refine r_sd (sd_pick_t rfl rfl rfl) rfl rfl ?_
    refine r_sd (sd_move rfl rfl) rfl rfl ?_
    refine r_sd (sd_off rfl) rfl rfl ?_
    refine r_sd (sd_off rfl) rfl rfl ?_
    refine r_sd (sd_off rfl) rfl rfl ?_
    refine r_sd (sd_off rfl) rfl rfl ?_
    refine r_sd (sd_off rfl) rfl rfl ?_
    refine r_sd (sd_pick_t rfl rfl rfl) rfl rfl ?_
    refine r_sd (sd_move rfl rfl) rfl rfl ?_
    refine r_sd (sd_off rfl) rfl rfl ?_
    refine r_sd (sd_off rfl) rfl rfl ?_
    refine r_sd (sd_off rfl) rfl rfl ?_
    refine r_sd (sd_off rfl) rfl rfl ?_
    refine r_sd (sd_off rfl) rfl rfl ?_
    refine r_sd (sd_pick_t rfl rfl rfl) rfl rfl ?_
    refine r_sd (sd_move rfl rfl) rfl rfl ?_
    refine r_sd (sd_off rfl) rfl rfl ?_
    refine r_sd (sd_off rfl) rfl rfl ?_
    refine r_sd (sd_off rfl) rfl rfl ?_
    refine r_sd (sd_off rfl) rfl rfl ?_
    refine r_sd (sd_off rfl) rfl rfl ?_
    refine r_sd (sd_pick_t rfl rfl rfl) rfl rfl ?_
    refine r_sd (sd_move rfl rfl) rfl rfl ?_
    refine r_sd (sd_off rfl) rfl rfl ?_
    refine r_sd (sd_off rfl) rfl rfl ?_
    refine r_sd (sd_off rfl) rfl rfl ?_
    refine r_sd (sd_off rfl) rfl rfl ?_
    refine r_sd (sd_off rfl) rfl rfl ?_
    refine r_sd (sd_pick_t rfl rfl rfl) rfl rfl ?_
    refine r_sd (sd_move rfl rfl) rfl rfl ?_
    refine r_sd (sd_off rfl) rfl rfl ?_
    refine r_sd (sd_off rfl) rfl rfl ?_
    refine r_sd (sd_off rfl) rfl rfl ?_
    refine r_sd (sd_off rfl) rfl rfl ?_
    refine r_sd (sd_off rfl) rfl rfl ?_
    refine r_sd (sd_pick_t rfl rfl rfl) rfl rfl ?_
    refine r_nil ?_
    refine k_then (hK4 _ _ _ ?_)
    refine w_if_true rfl ?_
    refine w_seq fun K6 hK6 => ?_
    refine w_region ?_
    refine r_sd (sd_assign rfl rfl) rfl rfl ?_
    refine r_nil ?_
    refine k_then (hK6 _ _ _ ?_)
    refine w_ret ?_
    refine hQ _ _ _ (l_nil (vs := [(Value.int .i64 30)]) ⟨rfl, trivial⟩ fun w hs => endV ?_ hs)
    show (Value.int .i64 30) = (Value.int .i64 (if SledOk s then 0 else 30))
    clear hs w hQ hN hK6 K6 hK4 K4 hK3 K3 hK1 K1
    first | exact congrArg (Value.int .i64) (if_neg (by simp only [SledOk, SpanOk]; omega)).symm | exact congrArg (Value.int .i64) (if_pos (by simp only [SledOk, SpanOk]; omega)).symm
  · -- no
    replace h5 := of_decide_eq_false h5
    refine r_sd (sd_fa (o' := 0) rfl rfl fo28_0 rfl) rfl rfl ?_
    refine r_sd (sd_ld1 rfl rfl tk5 (at_blk (vs := [(Value.int .u8 s.Class)]) 0 rfl rfl)) rfl rfl ?_
    refine r_sd (sd_bin rfl rfl rfl b_gtr) rfl rfl ?_
    refine r_sd (sd_pick_f rfl rfl rfl) rfl rfl ?_
    refine r_sd (sd_move rfl rfl) rfl rfl ?_
    refine r_bool (t := 11) rfl (fun h7 => ?_) (fun h7 => ?_)
    · -- yes
      replace h7 := of_decide_eq_true h7
      refine r_sd (sd_off rfl) rfl rfl ?_
      refine r_sd (sd_off rfl) rfl rfl ?_
      refine r_sd (sd_off rfl) rfl rfl ?_
      refine r_sd (sd_off rfl) rfl rfl ?_
      refine r_sd (sd_off rfl) rfl rfl ?_
      refine r_sd (sd_pick_t rfl rfl rfl) rfl rfl ?_
      refine r_sd (sd_move rfl rfl) rfl rfl ?_
      refine r_sd (sd_off rfl) rfl rfl ?_
      refine r_sd (sd_off rfl) rfl rfl ?_
      refine r_sd (sd_off rfl) rfl rfl ?_
      refine r_sd (sd_off rfl) rfl rfl ?_
      refine r_sd (sd_off rfl) rfl rfl ?_
      refine r_sd (sd_pick_t rfl rfl rfl) rfl rfl ?_
      refine r_sd (sd_move rfl rfl) rfl rfl ?_
      refine r_sd (sd_off rfl) rfl rfl ?_
      refine r_sd (sd_off rfl) rfl rfl ?_
      refine r_sd (sd_off rfl) rfl rfl ?_
      refine r_sd (sd_off rfl) rfl rfl ?_
      refine r_sd (sd_off rfl) rfl rfl ?_
      refine r_sd (sd_pick_t rfl rfl rfl) rfl rfl ?_
      refine r_sd (sd_move rfl rfl) rfl rfl ?_
      refine r_sd (sd_off rfl) rfl rfl ?_
      refine r_sd (sd_off rfl) rfl rfl ?_
      refine r_sd (sd_off rfl) rfl rfl ?_
      refine r_sd (sd_off rfl) rfl rfl ?_
      refine r_sd (sd_off rfl) rfl rfl ?_
      refine r_sd (sd_pick_t rfl rfl rfl) rfl rfl ?_
      refine r_sd (sd_move rfl rfl) rfl rfl ?_
      refine r_sd (sd_off rfl) rfl rfl ?_
      refine r_sd (sd_off rfl) rfl rfl ?_
      refine r_sd (sd_off rfl) rfl rfl ?_
      refine r_sd (sd_off rfl) rfl rfl ?_
      refine r_sd (sd_off rfl) rfl rfl ?_
      refine r_sd (sd_pick_t rfl rfl rfl) rfl rfl ?_
      refine r_nil ?_
      refine k_then (hK4 _ _ _ ?_)
      refine w_if_true rfl ?_
      refine w_seq fun K8 hK8 => ?_
      refine w_region ?_
      refine r_sd (sd_assign rfl rfl) rfl rfl ?_
      refine r_nil ?_
      refine k_then (hK8 _ _ _ ?_)
      refine w_ret ?_
      refine hQ _ _ _ (l_nil (vs := [(Value.int .i64 30)]) ⟨rfl, trivial⟩ fun w hs => endV ?_ hs)
      show (Value.int .i64 30) = (Value.int .i64 (if SledOk s then 0 else 30))
      clear hs w hQ hN hK8 K8 hK4 K4 hK3 K3 hK1 K1
      first | exact congrArg (Value.int .i64) (if_neg (by simp only [SledOk, SpanOk]; omega)).symm | exact congrArg (Value.int .i64) (if_pos (by simp only [SledOk, SpanOk]; omega)).symm
    · -- no
      replace h7 := of_decide_eq_false h7
      refine r_sd (sd_fa (o' := 1) rfl rfl fo28_1 rfl) rfl rfl ?_
      refine r_sd (sd_ldn rfl rfl tk26 (at_blk (vs := (SpanV.cells s.Start)) 0 rfl rfl) rfl) rfl rfl ?_
      refine r_bs (xs := [.tmp 13]) (cs := (SpanV.cells s.Start)) rfl te31 tz26 rfl rfl rfl rfl (by simp [Value.cells, SpanV.cells_length]) rfl rfl fun b9 => ?_
      refine r_sd (sd_call rfl rfl rfl rfl (FnV.eq (swithin_c 0 200000 ([s.Start]) (some ⟨b9, 0, none⟩) 1 (by first | assumption | omega | (simp; done) | (simp; omega)) (by first | assumption | omega | (simp; done) | (simp; omega))) inSpans_one) (ha_cons (has_rd_blk 0 rfl rfl (by simp [SpanV.cells_length]) rfl) <| ha_nil)) rfl rfl ?_
      refine r_sd (sd_not rfl rfl) rfl rfl ?_
      refine r_sd (sd_pick_f rfl rfl rfl) rfl rfl ?_
      refine r_sd (sd_move rfl rfl) rfl rfl ?_
      refine r_bool (t := 18) rfl (fun h10 => ?_) (fun h10 => ?_)
      · -- yes
        rw [Bool.not_eq_true'] at h10
        replace h10 := of_decide_eq_false h10
        refine r_sd (sd_off rfl) rfl rfl ?_
        refine r_sd (sd_off rfl) rfl rfl ?_
        refine r_sd (sd_off rfl) rfl rfl ?_
        refine r_sd (sd_off rfl) rfl rfl ?_
        refine r_sd (sd_off rfl) rfl rfl ?_
        refine r_sd (sd_pick_t rfl rfl rfl) rfl rfl ?_
        refine r_sd (sd_move rfl rfl) rfl rfl ?_
        refine r_sd (sd_off rfl) rfl rfl ?_
        refine r_sd (sd_off rfl) rfl rfl ?_
        refine r_sd (sd_off rfl) rfl rfl ?_
        refine r_sd (sd_off rfl) rfl rfl ?_
        refine r_sd (sd_off rfl) rfl rfl ?_
        refine r_sd (sd_pick_t rfl rfl rfl) rfl rfl ?_
        refine r_sd (sd_move rfl rfl) rfl rfl ?_
        refine r_sd (sd_off rfl) rfl rfl ?_
        refine r_sd (sd_off rfl) rfl rfl ?_
        refine r_sd (sd_off rfl) rfl rfl ?_
        refine r_sd (sd_off rfl) rfl rfl ?_
        refine r_sd (sd_off rfl) rfl rfl ?_
        refine r_sd (sd_pick_t rfl rfl rfl) rfl rfl ?_
        refine r_sd (sd_move rfl rfl) rfl rfl ?_
        refine r_sd (sd_off rfl) rfl rfl ?_
        refine r_sd (sd_off rfl) rfl rfl ?_
        refine r_sd (sd_off rfl) rfl rfl ?_
        refine r_sd (sd_off rfl) rfl rfl ?_
        refine r_sd (sd_off rfl) rfl rfl ?_
        refine r_sd (sd_pick_t rfl rfl rfl) rfl rfl ?_
        refine r_nil ?_
        refine k_then (hK4 _ _ _ ?_)
        refine w_if_true rfl ?_
        refine w_seq fun K11 hK11 => ?_
        refine w_region ?_
        refine r_sd (sd_assign rfl rfl) rfl rfl ?_
        refine r_nil ?_
        refine k_then (hK11 _ _ _ ?_)
        refine w_ret ?_
        refine hQ _ _ _ (l_nil (vs := [(Value.int .i64 30)]) ⟨rfl, trivial⟩ fun w hs => endV ?_ hs)
        show (Value.int .i64 30) = (Value.int .i64 (if SledOk s then 0 else 30))
        clear hs w hQ hN hK11 K11 hK4 K4 hK3 K3 hK1 K1
        first | exact congrArg (Value.int .i64) (if_neg (by simp only [SledOk, SpanOk]; omega)).symm | exact congrArg (Value.int .i64) (if_pos (by simp only [SledOk, SpanOk]; omega)).symm
      · -- no
        rw [Bool.not_eq_false'] at h10
        replace h10 := of_decide_eq_true h10
        refine r_sd (sd_fa (o' := 3) rfl rfl fo28_2 rfl) rfl rfl ?_
        refine r_sd (sd_ldn rfl rfl tk26 (at_blk (vs := (SpanV.cells s.Rub)) 1 rfl rfl) rfl) rfl rfl ?_
        refine r_bs (xs := [.tmp 20]) (cs := (SpanV.cells s.Rub)) rfl te31 tz26 rfl rfl rfl rfl (by simp [Value.cells, SpanV.cells_length]) rfl rfl fun b12 => ?_
        refine r_sd (sd_call rfl rfl rfl rfl (FnV.eq (swithin_c 0 100 ([s.Rub]) (some ⟨b12, 0, none⟩) 1 (by first | assumption | omega | (simp; done) | (simp; omega)) (by first | assumption | omega | (simp; done) | (simp; omega))) inSpans_one) (ha_cons (has_rd_blk 0 rfl rfl (by simp [SpanV.cells_length]) rfl) <| ha_nil)) rfl rfl ?_
        refine r_sd (sd_not rfl rfl) rfl rfl ?_
        refine r_sd (sd_pick_f rfl rfl rfl) rfl rfl ?_
        refine r_sd (sd_move rfl rfl) rfl rfl ?_
        refine r_bool (t := 25) rfl (fun h13 => ?_) (fun h13 => ?_)
        · -- yes
          rw [Bool.not_eq_true'] at h13
          replace h13 := of_decide_eq_false h13
          refine r_sd (sd_off rfl) rfl rfl ?_
          refine r_sd (sd_off rfl) rfl rfl ?_
          refine r_sd (sd_off rfl) rfl rfl ?_
          refine r_sd (sd_off rfl) rfl rfl ?_
          refine r_sd (sd_off rfl) rfl rfl ?_
          refine r_sd (sd_pick_t rfl rfl rfl) rfl rfl ?_
          refine r_sd (sd_move rfl rfl) rfl rfl ?_
          refine r_sd (sd_off rfl) rfl rfl ?_
          refine r_sd (sd_off rfl) rfl rfl ?_
          refine r_sd (sd_off rfl) rfl rfl ?_
          refine r_sd (sd_off rfl) rfl rfl ?_
          refine r_sd (sd_off rfl) rfl rfl ?_
          refine r_sd (sd_pick_t rfl rfl rfl) rfl rfl ?_
          refine r_sd (sd_move rfl rfl) rfl rfl ?_
          refine r_sd (sd_off rfl) rfl rfl ?_
          refine r_sd (sd_off rfl) rfl rfl ?_
          refine r_sd (sd_off rfl) rfl rfl ?_
          refine r_sd (sd_off rfl) rfl rfl ?_
          refine r_sd (sd_off rfl) rfl rfl ?_
          refine r_sd (sd_pick_t rfl rfl rfl) rfl rfl ?_
          refine r_nil ?_
          refine k_then (hK4 _ _ _ ?_)
          refine w_if_true rfl ?_
          refine w_seq fun K14 hK14 => ?_
          refine w_region ?_
          refine r_sd (sd_assign rfl rfl) rfl rfl ?_
          refine r_nil ?_
          refine k_then (hK14 _ _ _ ?_)
          refine w_ret ?_
          refine hQ _ _ _ (l_nil (vs := [(Value.int .i64 30)]) ⟨rfl, trivial⟩ fun w hs => endV ?_ hs)
          show (Value.int .i64 30) = (Value.int .i64 (if SledOk s then 0 else 30))
          clear hs w hQ hN hK14 K14 hK4 K4 hK3 K3 hK1 K1
          first | exact congrArg (Value.int .i64) (if_neg (by simp only [SledOk, SpanOk]; omega)).symm | exact congrArg (Value.int .i64) (if_pos (by simp only [SledOk, SpanOk]; omega)).symm
        · -- no
          rw [Bool.not_eq_false'] at h13
          replace h13 := of_decide_eq_true h13
          refine r_sd (sd_fa (o' := 5) rfl rfl fo28_3 rfl) rfl rfl ?_
          refine r_sd (sd_ldn rfl rfl tk26 (at_blk (vs := (SpanV.cells s.Drag)) 2 rfl rfl) rfl) rfl rfl ?_
          refine r_bs (xs := [.tmp 27]) (cs := (SpanV.cells s.Drag)) rfl te31 tz26 rfl rfl rfl rfl (by simp [Value.cells, SpanV.cells_length]) rfl rfl fun b15 => ?_
          refine r_sd (sd_call rfl rfl rfl rfl (FnV.eq (swithin_c 0 1000 ([s.Drag]) (some ⟨b15, 0, none⟩) 1 (by first | assumption | omega | (simp; done) | (simp; omega)) (by first | assumption | omega | (simp; done) | (simp; omega))) inSpans_one) (ha_cons (has_rd_blk 0 rfl rfl (by simp [SpanV.cells_length]) rfl) <| ha_nil)) rfl rfl ?_
          refine r_sd (sd_not rfl rfl) rfl rfl ?_
          refine r_sd (sd_pick_f rfl rfl rfl) rfl rfl ?_
          refine r_sd (sd_move rfl rfl) rfl rfl ?_
          refine r_bool (t := 32) rfl (fun h16 => ?_) (fun h16 => ?_)
          · -- yes
            rw [Bool.not_eq_true'] at h16
            replace h16 := of_decide_eq_false h16
            refine r_sd (sd_off rfl) rfl rfl ?_
            refine r_sd (sd_off rfl) rfl rfl ?_
            refine r_sd (sd_off rfl) rfl rfl ?_
            refine r_sd (sd_off rfl) rfl rfl ?_
            refine r_sd (sd_off rfl) rfl rfl ?_
            refine r_sd (sd_pick_t rfl rfl rfl) rfl rfl ?_
            refine r_sd (sd_move rfl rfl) rfl rfl ?_
            refine r_sd (sd_off rfl) rfl rfl ?_
            refine r_sd (sd_off rfl) rfl rfl ?_
            refine r_sd (sd_off rfl) rfl rfl ?_
            refine r_sd (sd_off rfl) rfl rfl ?_
            refine r_sd (sd_off rfl) rfl rfl ?_
            refine r_sd (sd_pick_t rfl rfl rfl) rfl rfl ?_
            refine r_nil ?_
            refine k_then (hK4 _ _ _ ?_)
            refine w_if_true rfl ?_
            refine w_seq fun K17 hK17 => ?_
            refine w_region ?_
            refine r_sd (sd_assign rfl rfl) rfl rfl ?_
            refine r_nil ?_
            refine k_then (hK17 _ _ _ ?_)
            refine w_ret ?_
            refine hQ _ _ _ (l_nil (vs := [(Value.int .i64 30)]) ⟨rfl, trivial⟩ fun w hs => endV ?_ hs)
            show (Value.int .i64 30) = (Value.int .i64 (if SledOk s then 0 else 30))
            clear hs w hQ hN hK17 K17 hK4 K4 hK3 K3 hK1 K1
            first | exact congrArg (Value.int .i64) (if_neg (by simp only [SledOk, SpanOk]; omega)).symm | exact congrArg (Value.int .i64) (if_pos (by simp only [SledOk, SpanOk]; omega)).symm
          · -- no
            rw [Bool.not_eq_false'] at h16
            replace h16 := of_decide_eq_true h16
            refine r_sd (sd_fa (o' := 7) rfl rfl fo28_4 rfl) rfl rfl ?_
            refine r_sd (sd_ldn rfl rfl tk26 (at_blk (vs := (SpanV.cells s.Weight)) 3 rfl rfl) rfl) rfl rfl ?_
            refine r_bs (xs := [.tmp 34]) (cs := (SpanV.cells s.Weight)) rfl te31 tz26 rfl rfl rfl rfl (by simp [Value.cells, SpanV.cells_length]) rfl rfl fun b18 => ?_
            refine r_sd (sd_call rfl rfl rfl rfl (FnV.eq (swithin_c 50000 800000 ([s.Weight]) (some ⟨b18, 0, none⟩) 1 (by first | assumption | omega | (simp; done) | (simp; omega)) (by first | assumption | omega | (simp; done) | (simp; omega))) inSpans_one) (ha_cons (has_rd_blk 0 rfl rfl (by simp [SpanV.cells_length]) rfl) <| ha_nil)) rfl rfl ?_
            refine r_sd (sd_not rfl rfl) rfl rfl ?_
            refine r_sd (sd_pick_f rfl rfl rfl) rfl rfl ?_
            refine r_sd (sd_move rfl rfl) rfl rfl ?_
            refine r_bool (t := 39) rfl (fun h19 => ?_) (fun h19 => ?_)
            · -- yes
              rw [Bool.not_eq_true'] at h19
              replace h19 := of_decide_eq_false h19
              refine r_sd (sd_off rfl) rfl rfl ?_
              refine r_sd (sd_off rfl) rfl rfl ?_
              refine r_sd (sd_off rfl) rfl rfl ?_
              refine r_sd (sd_off rfl) rfl rfl ?_
              refine r_sd (sd_off rfl) rfl rfl ?_
              refine r_sd (sd_pick_t rfl rfl rfl) rfl rfl ?_
              refine r_nil ?_
              refine k_then (hK4 _ _ _ ?_)
              refine w_if_true rfl ?_
              refine w_seq fun K20 hK20 => ?_
              refine w_region ?_
              refine r_sd (sd_assign rfl rfl) rfl rfl ?_
              refine r_nil ?_
              refine k_then (hK20 _ _ _ ?_)
              refine w_ret ?_
              refine hQ _ _ _ (l_nil (vs := [(Value.int .i64 30)]) ⟨rfl, trivial⟩ fun w hs => endV ?_ hs)
              show (Value.int .i64 30) = (Value.int .i64 (if SledOk s then 0 else 30))
              clear hs w hQ hN hK20 K20 hK4 K4 hK3 K3 hK1 K1
              first | exact congrArg (Value.int .i64) (if_neg (by simp only [SledOk, SpanOk]; omega)).symm | exact congrArg (Value.int .i64) (if_pos (by simp only [SledOk, SpanOk]; omega)).symm
            · -- no
              rw [Bool.not_eq_false'] at h19
              replace h19 := of_decide_eq_true h19
              refine r_sd (sd_fa (o' := 9) rfl rfl fo28_5 rfl) rfl rfl ?_
              refine r_sd (sd_ldn rfl rfl tk26 (at_blk (vs := (SpanV.cells s.Steer)) 4 rfl rfl) rfl) rfl rfl ?_
              refine r_bs (xs := [.tmp 41]) (cs := (SpanV.cells s.Steer)) rfl te31 tz26 rfl rfl rfl rfl (by simp [Value.cells, SpanV.cells_length]) rfl rfl fun b21 => ?_
              refine r_sd (sd_call rfl rfl rfl rfl (FnV.eq (swithin_c (-500) 500 ([s.Steer]) (some ⟨b21, 0, none⟩) 1 (by first | assumption | omega | (simp; done) | (simp; omega)) (by first | assumption | omega | (simp; done) | (simp; omega))) inSpans_one) (ha_cons (has_rd_blk 0 rfl rfl (by simp [SpanV.cells_length]) rfl) <| ha_nil)) rfl rfl ?_
              refine r_sd (sd_not rfl rfl) rfl rfl ?_
              refine r_sd (sd_pick_f rfl rfl rfl) rfl rfl ?_
              refine r_nil ?_
              refine k_then (hK4 _ _ _ ?_)
              refine w_if rfl (fun h22 => ?_) (fun h22 => ?_)
              · -- yes
                rw [Bool.not_eq_true'] at h22
                replace h22 := of_decide_eq_false h22
                refine w_seq fun K23 hK23 => ?_
                refine w_region ?_
                refine r_sd (sd_assign rfl rfl) rfl rfl ?_
                refine r_nil ?_
                refine k_then (hK23 _ _ _ ?_)
                refine w_ret ?_
                refine hQ _ _ _ (l_nil (vs := [(Value.int .i64 30)]) ⟨rfl, trivial⟩ fun w hs => endV ?_ hs)
                show (Value.int .i64 30) = (Value.int .i64 (if SledOk s then 0 else 30))
                clear hs w hQ hN hK23 K23 hK4 K4 hK3 K3 hK1 K1
                first | exact congrArg (Value.int .i64) (if_neg (by simp only [SledOk, SpanOk]; omega)).symm | exact congrArg (Value.int .i64) (if_pos (by simp only [SledOk, SpanOk]; omega)).symm
              · -- no
                rw [Bool.not_eq_false'] at h22
                replace h22 := of_decide_eq_true h22
                refine w_skip ?_
                refine k_then (hK3 _ _ _ ?_)
                refine w_seq fun K24 hK24 => ?_
                refine w_region ?_
                refine r_sd (sd_assign rfl rfl) rfl rfl ?_
                refine r_nil ?_
                refine k_then (hK24 _ _ _ ?_)
                refine w_ret ?_
                refine hQ _ _ _ (l_nil (vs := [(Value.int .i64 0)]) ⟨rfl, trivial⟩ fun w hs => endV ?_ hs)
                show (Value.int .i64 0) = (Value.int .i64 (if SledOk s then 0 else 30))
                clear hs w hQ hN hK24 K24 hK4 K4 hK3 K3 hK1 K1
                first | exact congrArg (Value.int .i64) (if_neg (by simp only [SledOk, SpanOk]; omega)).symm | exact congrArg (Value.int .i64) (if_pos (by simp only [SledOk, SpanOk]; omega)).symm

end Go.Proofs.Ytpbgdeojcefnmaa
