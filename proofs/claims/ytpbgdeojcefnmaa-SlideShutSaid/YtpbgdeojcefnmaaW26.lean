/-
  Walks: kreisel/kreisellaw03.SlideShut
-/
import Derived.Test.YtpbgdeojcefnmaaTab
import Derived.Test.YtpbgdeojcefnmaaSort
import Derived.Test.YtpbgdeojcefnmaaThr
import Derived.Test.YtpbgdeojcefnmaaMono
import Derived.Test.YtpbgdeojcefnmaaSafe
import Derived.Test.YtpbgdeojcefnmaaAlive
import Derived.Test.YtpbgdeojcefnmaaWithin
import Derived.Test.YtpbgdeojcefnmaaShut
import Derived.Test.YtpbgdeojcefnmaaW1
import Derived.Test.YtpbgdeojcefnmaaW3
import Derived.Test.YtpbgdeojcefnmaaW4
import Derived.Test.YtpbgdeojcefnmaaW16
import Derived.Test.YtpbgdeojcefnmaaW17
import Derived.Test.YtpbgdeojcefnmaaW20
import Derived.Test.YtpbgdeojcefnmaaW22
namespace Go.Proofs.Ytpbgdeojcefnmaa
open Go.RowKit
set_option linter.unusedVariables false

set_option maxRecDepth 100000 in
set_option maxHeartbeats 400000 in
theorem slideShut_c (ts : List StretchV) (tsA : Option Addr) (tsC : Nat) (l : List SledV) (lA : Option Addr) (lC : Nat) (hside : ∀ x ∈ ts, 0 ≤ x.Side ∧ x.Side ≤ 255) (hcl : ∀ s ∈ l, 0 ≤ s.Class ∧ s.Class ≤ 255) :
    FnV Try.prog 11 [(Value.agg (TrackV.cells (TrackV.mk (Slc.mk tsA ts.length tsC))).toArray), (Value.slice lA l.length lC)] [(rd tsA ts.length 9 (ts.map StretchV.cells)), (rd lA l.length 11 (l.map SledV.cells))] (Value.bool true) := by
  refine fnV_of go11 Try.func11 rfl rfl fun w0 Q hQ hN => ?_
  change WJ _ _ _ _ [(0, (Value.agg (TrackV.cells (TrackV.mk (Slc.mk tsA ts.length tsC))).toArray)), (1, (Value.slice lA l.length lC))] [(rd tsA ts.length 9 (ts.map StretchV.cells)).ro, (rd lA l.length 11 (l.map SledV.cells)).ro]
  refine w_seq fun K1 hK1 => ?_
  refine w_region ?_
  refine r_box (cs := (TrackV.cells (TrackV.mk (Slc.mk tsA ts.length tsC)))) rfl rfl rfl rfl fun b2 => ?_
  refine r_sd (sd_assign rfl rfl) rfl rfl ?_
  refine r_nil ?_
  refine k_then (hK1 _ _ _ ?_)
  refine w_seq fun K3 hK3 => ?_
  refine w_region ?_
  refine r_sd (sd_call rfl rfl rfl rfl alive_c (ha_nil)) rfl rfl ?_
  refine r_sd (sd_assign rfl rfl) rfl rfl ?_
  refine r_nil ?_
  refine k_then (hK3 _ _ _ ?_)
  refine w_seq fun K4 hK4 => ?_
  refine w_seq fun K5 hK5 => ?_
  refine w_region ?_
  refine r_sd (sd_ldn rfl rfl tk24 (at_blk (vs := (TrackV.cells (TrackV.mk (Slc.mk tsA ts.length tsC)))) 0 rfl rfl) rfl) rfl rfl ?_
  refine r_sd (sd_call rfl rfl rfl rfl (great_c ts tsA tsC) (ha_at 1 rfl rfl <| ha_nil)) rfl rfl ?_
  refine r_sd (sd_move rfl rfl) rfl rfl ?_
  refine r_bool (t := 22) rfl (fun hg => ?_) (fun hg => ?_)
  · -- yes
    replace hg := of_decide_eq_true hg
    refine r_sd (sd_off rfl) rfl rfl ?_
    refine r_sd (sd_off rfl) rfl rfl ?_
    refine r_sd (sd_off rfl) rfl rfl ?_
    refine r_sd (sd_pick_t rfl rfl rfl) rfl rfl ?_
    refine r_sd (sd_move rfl rfl) rfl rfl ?_
    refine r_sd (sd_off rfl) rfl rfl ?_
    refine r_sd (sd_off rfl) rfl rfl ?_
    refine r_sd (sd_off rfl) rfl rfl ?_
    refine r_sd (sd_pick_t rfl rfl rfl) rfl rfl ?_
    refine r_sd (sd_move rfl rfl) rfl rfl ?_
    refine r_sd (sd_off rfl) rfl rfl ?_
    refine r_sd (sd_off rfl) rfl rfl ?_
    refine r_sd (sd_pick_t rfl rfl rfl) rfl rfl ?_
    refine r_nil ?_
    refine k_then (hK5 _ _ _ ?_)
    refine w_if_true rfl ?_
    refine w_seq fun K6 hK6 => ?_
    refine w_region ?_
    refine r_sd (sd_move rfl rfl) rfl rfl ?_
    refine r_sd (sd_assign rfl rfl) rfl rfl ?_
    refine r_nil ?_
    refine k_then (hK6 _ _ _ ?_)
    refine w_ret ?_
    refine hQ _ _ _ (l_nil (vs := [(Value.bool true)]) ⟨rfl, trivial⟩ fun w hs => endV ?_ hs)
    show (Value.bool true) = (Value.bool true)
    clear hs w hQ hN hK6 K6 hK5 K5 hK4 K4 hK3 K3 hK1 K1
    first | rfl | exact congrArg Value.bool (decide_eq_true (by have e : i = l.length := (by omega); rw [e]))
  · -- no
    replace hg := of_decide_eq_false hg
    refine r_sd (sd_ldn rfl rfl tk24 (at_blk (vs := (TrackV.cells (TrackV.mk (Slc.mk tsA ts.length tsC)))) 0 rfl rfl) rfl) rfl rfl ?_
    refine r_sd (sd_call rfl rfl rfl rfl (track_c ts tsA tsC (by first | assumption | omega | (simp; done) | (simp; omega))) (ha_at 1 rfl rfl <| ha_nil)) rfl rfl ?_
    refine r_sd (sd_not rfl rfl) rfl rfl ?_
    refine r_sd (sd_pick_f rfl rfl rfl) rfl rfl ?_
    refine r_sd (sd_move rfl rfl) rfl rfl ?_
    refine r_bool (t := 27) rfl (fun ht1 => ?_) (fun ht1 => ?_)
    · -- yes
      rw [Bool.not_eq_true'] at ht1
      refine r_sd (sd_off rfl) rfl rfl ?_
      refine r_sd (sd_off rfl) rfl rfl ?_
      refine r_sd (sd_off rfl) rfl rfl ?_
      refine r_sd (sd_pick_t rfl rfl rfl) rfl rfl ?_
      refine r_sd (sd_move rfl rfl) rfl rfl ?_
      refine r_sd (sd_off rfl) rfl rfl ?_
      refine r_sd (sd_off rfl) rfl rfl ?_
      refine r_sd (sd_pick_t rfl rfl rfl) rfl rfl ?_
      refine r_nil ?_
      refine k_then (hK5 _ _ _ ?_)
      refine w_if_true rfl ?_
      refine w_seq fun K7 hK7 => ?_
      refine w_region ?_
      refine r_sd (sd_move rfl rfl) rfl rfl ?_
      refine r_sd (sd_assign rfl rfl) rfl rfl ?_
      refine r_nil ?_
      refine k_then (hK7 _ _ _ ?_)
      refine w_ret ?_
      refine hQ _ _ _ (l_nil (vs := [(Value.bool true)]) ⟨rfl, trivial⟩ fun w hs => endV ?_ hs)
      show (Value.bool true) = (Value.bool true)
      clear hs w hQ hN hK7 K7 hK5 K5 hK4 K4 hK3 K3 hK1 K1
      first | rfl | exact congrArg Value.bool (decide_eq_true (by have e : i = l.length := (by omega); rw [e]))
    · -- no
      rw [Bool.not_eq_false'] at ht1
      refine r_sd (sd_move rfl rfl) rfl rfl ?_
      refine r_sd (sd_len rfl rfl ut50) rfl rfl ?_
      refine r_sd (sd_bin rfl rfl rfl b_gtr) rfl rfl ?_
      refine r_sd (sd_pick_f rfl rfl rfl) rfl rfl ?_
      refine r_sd (sd_move rfl rfl) rfl rfl ?_
      refine r_bool (t := 32) rfl (fun hm => ?_) (fun hm => ?_)
      · -- yes
        replace hm := of_decide_eq_true hm
        refine r_sd (sd_off rfl) rfl rfl ?_
        refine r_sd (sd_off rfl) rfl rfl ?_
        refine r_sd (sd_pick_t rfl rfl rfl) rfl rfl ?_
        refine r_nil ?_
        refine k_then (hK5 _ _ _ ?_)
        refine w_if_true rfl ?_
        refine w_seq fun K8 hK8 => ?_
        refine w_region ?_
        refine r_sd (sd_move rfl rfl) rfl rfl ?_
        refine r_sd (sd_assign rfl rfl) rfl rfl ?_
        refine r_nil ?_
        refine k_then (hK8 _ _ _ ?_)
        refine w_ret ?_
        refine hQ _ _ _ (l_nil (vs := [(Value.bool true)]) ⟨rfl, trivial⟩ fun w hs => endV ?_ hs)
        show (Value.bool true) = (Value.bool true)
        clear hs w hQ hN hK8 K8 hK5 K5 hK4 K4 hK3 K3 hK1 K1
        first | rfl | exact congrArg Value.bool (decide_eq_true (by have e : i = l.length := (by omega); rw [e]))
      · -- no
        replace hm := of_decide_eq_false hm
        refine r_sd (sd_move rfl rfl) rfl rfl ?_
        refine r_sd (sd_not rfl rfl) rfl rfl ?_
        refine r_sd (sd_pick_f rfl rfl rfl) rfl rfl ?_
        refine r_nil ?_
        refine k_then (hK5 _ _ _ ?_)
        refine w_if_false rfl ?_
        refine w_skip ?_
        refine k_then (hK4 _ _ _ ?_)
        refine w_seq fun K9 hK9 => ?_
        refine w_seq fun K10 hK10 => ?_
        refine w_region ?_
        refine r_sd (sd_move rfl rfl) rfl rfl ?_
        refine r_sd (sd_len rfl rfl ut50) rfl rfl ?_
        refine r_sd (sd_move rfl rfl) rfl rfl ?_
        refine r_nil ?_
        refine k_then (hK10 _ _ _ ?_)
        refine w_block ?_
        have hinit : (0 ≤ l.length) ∧ ((l.take 0).all (fun s => decide (SledOk s)) = true) := by simp
        refine w_loop (ι := { z : Nat // (z ≤ l.length) ∧ ((l.take z).all (fun s => decide (SledOk s)) = true) }) (fun z => [(1, (Value.slice lA l.length lC)), (2, (Value.pointer (some ⟨b2, 0, none⟩))), (5, (Value.bool true)), (37, (Value.slice lA l.length lC)), (38, (Value.int .i64 ((l.length : Nat) : Int))), (39, (Value.int .i64 ((z.1 : Nat) : Int)))]) (fun z => [(blk b2 24 (TrackV.cells (TrackV.mk (Slc.mk tsA ts.length tsC)))), (rd tsA ts.length 9 (ts.map StretchV.cells)).ro, (rd lA l.length 11 (l.map SledV.cells)).ro]) (fun z => l.length - z.1) ⟨0, hinit⟩ (Sub.cons rfl <| Sub.cons rfl <| Sub.cons rfl <| Sub.cons rfl <| Sub.cons rfl <| Sub.cons rfl <| Sub.nil _) (fun w hs => St.sel [0, 1, 2] rfl rfl hs) ?_
        clear hinit
        rintro ⟨i, ⟨hl5_0, hl5_1⟩⟩ J11 hJ11
        change WJ _ _ _ _ [(1, (Value.slice lA l.length lC)), (2, (Value.pointer (some ⟨b2, 0, none⟩))), (5, (Value.bool true)), (37, (Value.slice lA l.length lC)), (38, (Value.int .i64 ((l.length : Nat) : Int))), (39, (Value.int .i64 ((i : Nat) : Int)))] [(blk b2 24 (TrackV.cells (TrackV.mk (Slc.mk tsA ts.length tsC)))), (rd tsA ts.length 9 (ts.map StretchV.cells)).ro, (rd lA l.length 11 (l.map SledV.cells)).ro]
        refine w_seq fun K12 hK12 => ?_
        refine w_region ?_
        refine r_sd (sd_bin rfl rfl rfl b_lss) rfl rfl ?_
        refine r_nil ?_
        refine k_then (hK12 _ _ _ ?_)
        refine w_seq fun K13 hK13 => ?_
        refine w_if rfl (fun h14 => ?_) (fun h14 => ?_)
        · -- yes
          replace h14 := of_decide_eq_true h14
          refine w_skip ?_
          refine k_then (hK13 _ _ _ ?_)
          refine w_seq fun K15 hK15 => ?_
          refine w_block ?_
          refine w_seq fun K16 hK16 => ?_
          refine w_region ?_
          obtain ⟨x, hx⟩ : ∃ y_, l[i]? = some y_ := ⟨l[i]'(by omega), List.getElem?_eq_getElem _⟩
          have hxm : (l.map SledV.cells)[i]? = some (SledV.cells x) := by rw [List.getElem?_map, hx]; rfl
          refine r_sd (sd_ia (k := i) rfl rfl rfl (has_at 2 rfl) te50 (by decide) (by omega) (by omega)) rfl rfl ?_
          refine r_sd (sd_ldn rfl rfl tk28 (at_rd (k := i) (o := 0) (vs := (SledV.cells x)) (has_at 2 rfl) hxm rfl (by decide) rfl) rfl) rfl rfl ?_
          refine r_alloc rfl tz28 rfl fun b17 => ?_
          refine r_store (vs := (SledV.cells x)) (cs' := (SledV.cells x)) (C' := [(blk b17 28 (SledV.cells x)), _, _, _]) 0 rfl rfl rfl ts28 rfl rfl rfl rfl rfl rfl rfl ?_
          refine r_nil ?_
          refine k_then (hK16 _ _ _ ?_)
          refine w_seq fun K18 hK18 => ?_
          refine w_region ?_
          refine r_sd (sd_ldn rfl rfl tk28 (at_blk (vs := (SledV.cells x)) 0 rfl rfl) rfl) rfl rfl ?_
          have hzc := hcl x (List.mem_of_getElem? hx)
          refine r_sd (sd_call rfl rfl rfl rfl (sled_c x (by first | assumption | omega | (simp; done) | (simp; omega))) (ha_nil)) rfl rfl ?_
          refine r_sd (sd_not rfl rfl) rfl rfl ?_
          refine r_nil ?_
          refine k_then (hK18 _ _ _ ?_)
          refine w_if rfl (fun hb => ?_) (fun hb => ?_)
          · -- yes
            rw [Bool.not_eq_true'] at hb
            replace hb := of_decide_eq_false hb
            refine w_seq fun K19 hK19 => ?_
            refine w_region ?_
            refine r_sd (sd_move rfl rfl) rfl rfl ?_
            refine r_sd (sd_assign rfl rfl) rfl rfl ?_
            refine r_nil ?_
            refine k_then (hK19 _ _ _ ?_)
            refine w_ret ?_
            refine hQ _ _ _ (l_nil (vs := [(Value.bool true)]) ⟨rfl, trivial⟩ fun w hs => endV ?_ hs)
            show (Value.bool true) = (Value.bool true)
            clear hs w hQ hN hK19 K19 hK18 K18 hK16 K16 hK15 K15 hK13 K13 hK12 K12 hK10 K10 hK9 K9 hK5 K5 hK4 K4 hK3 K3 hK1 K1
            first | rfl | exact congrArg Value.bool (decide_eq_true (by have e : i = l.length := (by omega); rw [e]))
          · -- no
            rw [Bool.not_eq_false'] at hb
            replace hb := of_decide_eq_true hb
            refine w_skip ?_
            refine k_block ?_
            refine k_then (hK15 _ _ _ ?_)
            refine w_region ?_
            refine r_sd (sd_bin rfl rfl rfl (b_add ⟨by omega, by omega⟩)) rfl rfl ?_
            refine r_sd (sd_move rfl rfl) rfl rfl ?_
            refine r_nil ?_
            have hb20 : (Value.int .i64 (((i + 1) : Nat) : Int)) = (Value.int .i64 (((i : Nat) : Int) + 1)) := by exact congrArg (Value.int .i64) (by omega)
            refine k_then (hJ11 ⟨(i + 1), ⟨by omega, all_step hx hl5_1 (decide_eq_true hb)⟩⟩ _ _ _ rfl (by first | omega | (simp; omega)) (Sub.cons rfl <| Sub.cons rfl <| Sub.cons rfl <| Sub.cons rfl <| Sub.cons rfl <| sub_val rfl hb20 <| Sub.nil _) (fun w hs => St.sel [1, 2, 3] rfl rfl hs))
        · -- no
          replace h14 := of_decide_eq_false h14
          refine w_exit ?_
          refine k_exit_then ?_
          refine k_exit_then ?_
          refine k_exit_same ?_
          refine k_then (hK9 _ _ _ ?_)
          refine w_seq fun K21 hK21 => ?_
          refine w_region ?_
          refine r_sd (sd_ldn rfl rfl tk24 (at_blk (vs := (TrackV.cells (TrackV.mk (Slc.mk tsA ts.length tsC)))) 0 rfl rfl) rfl) rfl rfl ?_
          refine r_sd (sd_move rfl rfl) rfl rfl ?_
          refine r_call rfl rfl rfl rfl (shut_c ts tsA tsC l lA lC (by first | assumption | omega | (simp; done) | (simp; omega)) (by first | assumption | omega | (simp; done) | (simp; omega))) (ha_at 1 rfl rfl <| ha_at 2 rfl rfl <| ha_nil) rfl (fun y22 hy23 => ?_)
          obtain ⟨a24, c25⟩ := y22
          change RJ _ _ _ _ _ ((_, (Value.tuple [(Value.slice a24 ((shutU ts l).length) c25), (Value.int .i64 (shutE ts l))].toArray)) :: _) ((own a24 c25 3 1 ((shutU ts l).map iC)) :: _)
          refine r_sd (sd_move rfl rfl) rfl rfl ?_
          refine r_sd (sd_extract rfl rfl rfl) rfl rfl ?_
          refine r_sd (sd_extract rfl rfl rfl) rfl rfl ?_
          refine r_sd (sd_assign rfl rfl) rfl rfl ?_
          refine r_sd (sd_assign rfl rfl) rfl rfl ?_
          refine r_nil ?_
          refine k_then (hK21 _ _ _ ?_)
          refine w_seq fun K26 hK26 => ?_
          refine w_seq fun K27 hK27 => ?_
          refine w_region ?_
          have hall := shut_all (by omega) hl5_1
          have hE := shutE_ok ht1 hm (all_end (by omega) hl5_1)
          have hst := trackOk_all ht1
          have hl12 := trackOk_le ht1
          rw [shutU_ok hE]
          rw [hE]
          refine r_sd (sd_move rfl rfl) rfl rfl ?_
          refine r_sd (sd_bin (r := .bool false) rfl rfl rfl b_neq) rfl rfl ?_
          refine r_nil ?_
          refine k_then (hK27 _ _ _ ?_)
          refine w_if_false rfl ?_
          refine w_skip ?_
          refine k_then (hK26 _ _ _ ?_)
          refine w_seq fun K28 hK28 => ?_
          refine w_region ?_
          refine r_sd (sd_assign rfl rfl) rfl rfl ?_
          refine r_nil ?_
          refine k_then (hK28 _ _ _ ?_)
          refine w_seq fun K29 hK29 => ?_
          refine w_seq fun K30 hK30 => ?_
          refine w_region ?_
          refine r_sd (sd_move rfl rfl) rfl rfl ?_
          refine r_sd (sd_len rfl rfl ut50) rfl rfl ?_
          refine r_sd (sd_move rfl rfl) rfl rfl ?_
          refine r_nil ?_
          refine k_then (hK30 _ _ _ ?_)
          refine w_block ?_
          have hinit : (0 ≤ l.length) := by exact Nat.zero_le _
          refine w_loop (ι := { z : Nat // (z ≤ l.length) }) (fun z => [(2, (Value.pointer (some ⟨b2, 0, none⟩))), (5, (Value.bool true)), (8, (Value.slice a24 ((shutL ts l l.length).length) c25)), (10, (Value.int .i64 (((shutL ts l z.1).length : Nat) : Int))), (56, (Value.slice lA l.length lC)), (57, (Value.int .i64 ((l.length : Nat) : Int))), (58, (Value.int .i64 ((z.1 : Nat) : Int)))]) (fun z => [(own a24 c25 3 1 ((shutL ts l l.length).map iC)), (blk b2 24 (TrackV.cells (TrackV.mk (Slc.mk tsA ts.length tsC)))), (rd tsA ts.length 9 (ts.map StretchV.cells)).ro, (rd lA l.length 11 (l.map SledV.cells)).ro]) (fun z => l.length - z.1) ⟨0, hinit⟩ (Sub.cons rfl <| Sub.cons rfl <| Sub.cons rfl <| Sub.cons rfl <| Sub.cons rfl <| Sub.cons rfl <| Sub.cons rfl <| Sub.nil _) (fun w hs => St.sel [0, 1, 2, 3] rfl rfl hs) ?_
          clear hinit
          rintro ⟨i, hl15_0⟩ J31 hJ31
          change WJ _ _ _ _ [(2, (Value.pointer (some ⟨b2, 0, none⟩))), (5, (Value.bool true)), (8, (Value.slice a24 ((shutL ts l l.length).length) c25)), (10, (Value.int .i64 (((shutL ts l i).length : Nat) : Int))), (56, (Value.slice lA l.length lC)), (57, (Value.int .i64 ((l.length : Nat) : Int))), (58, (Value.int .i64 ((i : Nat) : Int)))] [(own a24 c25 3 1 ((shutL ts l l.length).map iC)), (blk b2 24 (TrackV.cells (TrackV.mk (Slc.mk tsA ts.length tsC)))), (rd tsA ts.length 9 (ts.map StretchV.cells)).ro, (rd lA l.length 11 (l.map SledV.cells)).ro]
          refine w_seq fun K32 hK32 => ?_
          refine w_region ?_
          refine r_sd (sd_bin rfl rfl rfl b_lss) rfl rfl ?_
          refine r_nil ?_
          refine k_then (hK32 _ _ _ ?_)
          refine w_seq fun K33 hK33 => ?_
          refine w_if rfl (fun h34 => ?_) (fun h34 => ?_)
          · -- yes
            replace h34 := of_decide_eq_true h34
            refine w_skip ?_
            refine k_then (hK33 _ _ _ ?_)
            refine w_seq fun K35 hK35 => ?_
            refine w_block ?_
            refine w_seq fun K36 hK36 => ?_
            refine w_region ?_
            refine r_sd (sd_move rfl rfl) rfl rfl ?_
            obtain ⟨x, hx⟩ : ∃ y_, l[i]? = some y_ := ⟨l[i]'(by omega), List.getElem?_eq_getElem _⟩
            have hxm : (l.map SledV.cells)[i]? = some (SledV.cells x) := by rw [List.getElem?_map, hx]; rfl
            refine r_sd (sd_ia (k := i) rfl rfl rfl (has_at 3 rfl) te50 (by decide) (by omega) (by omega)) rfl rfl ?_
            refine r_sd (sd_ldn rfl rfl tk28 (at_rd (k := i) (o := 0) (vs := (SledV.cells x)) (has_at 3 rfl) hxm rfl (by decide) rfl) rfl) rfl rfl ?_
            refine r_alloc rfl tz28 rfl fun b37 => ?_
            refine r_sd (sd_assign rfl rfl) rfl rfl ?_
            refine r_store (vs := (SledV.cells x)) (cs' := (SledV.cells x)) (C' := [(blk b37 28 (SledV.cells x)), _, _, _, _]) 0 rfl rfl rfl ts28 rfl rfl rfl rfl rfl rfl rfl ?_
            refine r_nil ?_
            refine k_then (hK36 _ _ _ ?_)
            refine w_seq fun K38 hK38 => ?_
            refine w_region ?_
            refine r_sd (sd_ldn rfl rfl tk24 (at_blk (vs := (TrackV.cells (TrackV.mk (Slc.mk tsA ts.length tsC)))) 2 rfl rfl) rfl) rfl rfl ?_
            refine r_sd (sd_ldn rfl rfl tk28 (at_blk (vs := (SledV.cells x)) 0 rfl rfl) rfl) rfl rfl ?_
            refine r_sd (sd_call rfl rfl rfl rfl (safe_c ts tsA tsC x (by first | assumption | omega | (simp; done) | (simp; omega)) (by first | assumption | omega | (simp; done) | (simp; omega))) (ha_at 3 rfl rfl <| ha_nil)) rfl rfl ?_
            refine r_sd (sd_move rfl rfl) rfl rfl ?_
            refine r_sd (sd_extract rfl rfl rfl) rfl rfl ?_
            refine r_sd (sd_extract rfl rfl rfl) rfl rfl ?_
            refine r_sd (sd_assign rfl rfl) rfl rfl ?_
            refine r_sd (sd_assign rfl rfl) rfl rfl ?_
            refine r_nil ?_
            refine k_then (hK38 _ _ _ ?_)
            refine w_seq fun K39 hK39 => ?_
            refine w_region ?_
            refine r_sd (sd_ldn rfl rfl tk24 (at_blk (vs := (TrackV.cells (TrackV.mk (Slc.mk tsA ts.length tsC)))) 2 rfl rfl) rfl) rfl rfl ?_
            refine r_sd (sd_ldn rfl rfl tk28 (at_blk (vs := (SledV.cells x)) 0 rfl rfl) rfl) rfl rfl ?_
            refine r_sd (sd_call rfl rfl rfl rfl (names_c ts tsA tsC x (by first | assumption | omega | (simp; done) | (simp; omega)) (by first | assumption | omega | (simp; done) | (simp; omega))) (ha_at 3 rfl rfl <| ha_nil)) rfl rfl ?_
            refine r_sd (sd_move rfl rfl) rfl rfl ?_
            refine r_sd (sd_extract rfl rfl rfl) rfl rfl ?_
            refine r_sd (sd_extract rfl rfl rfl) rfl rfl ?_
            refine r_sd (sd_extract rfl rfl rfl) rfl rfl ?_
            refine r_sd (sd_assign rfl rfl) rfl rfl ?_
            refine r_sd (sd_assign rfl rfl) rfl rfl ?_
            refine r_sd (sd_assign rfl rfl) rfl rfl ?_
            refine r_nil ?_
            refine k_then (hK39 _ _ _ ?_)
            refine w_seq fun K40 hK40 => ?_
            refine w_region ?_
            have hxo := hall x (List.mem_of_getElem? hx)
            have hb0 := bothE_ok ht1 hxo
            have hsl := shutL_len (ts := ts) (l := l) (i := i)
            have hsl2 := shutL_len (ts := ts) (l := l) (i := l.length)
            rw [hb0]
            rw [safeV_ok hb0]
            refine r_sd (sd_move rfl rfl) rfl rfl ?_
            refine r_sd (sd_move rfl rfl) rfl rfl ?_
            refine r_sd (sd_len rfl rfl ut61) rfl rfl ?_
            refine r_sd (sd_bin rfl rfl rfl b_lss) rfl rfl ?_
            refine r_sd (sd_move rfl rfl) rfl rfl ?_
            refine r_bool (t := 80) rfl (fun ha => ?_) (fun ha => ?_)
            · -- yes
              replace ha := of_decide_eq_true ha
              refine r_sd (sd_move rfl rfl) rfl rfl ?_
              refine r_sd (sd_move rfl rfl) rfl rfl ?_
              obtain ⟨z, hz⟩ : ∃ y_, (shutL ts l l.length)[(shutL ts l i).length]? = some y_ := ⟨(shutL ts l l.length)[(shutL ts l i).length]'(by omega), List.getElem?_eq_getElem _⟩
              have hzm : ((shutL ts l l.length).map iC)[(shutL ts l i).length]? = some (iC z) := by rw [List.getElem?_map, hz]; rfl
              refine r_sd (sd_ia (k := (shutL ts l i).length) rfl rfl rfl (has_own_n (n := (shutL ts l l.length).length) 1 rfl (by simp)) te61 (by decide) (by omega) (by omega)) rfl rfl ?_
              refine r_sd (sd_ld1 rfl rfl tk3 (at_rd (k := (shutL ts l i).length) (o := 0) (vs := [(Value.int .i64 z)]) (has_own_n (n := (shutL ts l l.length).length) 1 rfl (by simp)) hzm rfl (by decide) rfl)) rfl rfl ?_
              refine r_sd (sd_move rfl rfl) rfl rfl ?_
              refine r_sd (sd_bin rfl rfl rfl b_eql) rfl rfl ?_
              refine r_sd (sd_pick_t rfl rfl rfl) rfl rfl ?_
              refine r_bool (t := 87) rfl (fun ht => ?_) (fun ht => ?_)
              · -- yes
                replace ht := of_decide_eq_true ht
                refine r_sd (sd_assign rfl rfl) rfl rfl ?_
                refine r_nil ?_
                refine k_then (hK40 _ _ _ ?_)
                refine w_seq fun K41 hK41 => ?_
                refine w_seq fun K42 hK42 => ?_
                refine w_region ?_
                have hsb := shut_told (by omega) hz ht
                have hs2 := shut_yes hx hsb
                have hnt := names_told hxo hst hb0 hs2
                refine r_sd (sd_move rfl rfl) rfl rfl ?_
                refine r_nil ?_
                refine k_then (hK42 _ _ _ ?_)
                refine w_if_true rfl ?_
                refine w_region ?_
                refine r_sd (sd_move rfl rfl) rfl rfl ?_
                refine r_sd (sd_bin rfl rfl rfl (b_add ⟨by omega, by omega⟩)) rfl rfl ?_
                refine r_sd (sd_assign rfl rfl) rfl rfl ?_
                refine r_nil ?_
                refine k_then (hK41 _ _ _ ?_)
                refine w_seq fun K43 hK43 => ?_
                refine w_region ?_
                rw [hnt.2.2]
                refine r_sd (sd_move rfl rfl) rfl rfl ?_
                refine r_sd (sd_bin (r := .bool false) rfl rfl rfl b_neq) rfl rfl ?_
                refine r_sd (sd_move rfl rfl) rfl rfl ?_
                refine r_sd (sd_move rfl rfl) rfl rfl ?_
                refine r_sd (sd_move rfl rfl) rfl rfl ?_
                refine r_sd (sd_bin rfl rfl rfl b_neq) rfl rfl ?_
                refine r_sd (sd_bin rfl rfl rfl (b_neqb ut4)) rfl rfl ?_
                refine r_sd (sd_pick_f rfl rfl rfl) rfl rfl ?_
                refine r_sd (sd_move rfl rfl) rfl rfl ?_
                refine r_bool (t := 99) rfl (fun h99 => ?_) (fun h99 => ?_)
                · -- yes
                  rw [Bool.not_eq_true'] at h99
                  exact absurd h99 (by simp [hs2])
                · -- no
                  rw [Bool.not_eq_false'] at h99
                  refine r_sd (sd_move rfl rfl) rfl rfl ?_
                  refine r_sd (sd_move rfl rfl) rfl rfl ?_
                  refine r_sd (sd_bin (r := .bool true) rfl rfl rfl b_eql) rfl rfl ?_
                  refine r_sd (sd_bin (r := .bool false) rfl rfl rfl (b_neqb ut4)) rfl rfl ?_
                  refine r_sd (sd_pick_f rfl rfl rfl) rfl rfl ?_
                  refine r_sd (sd_move rfl rfl) rfl rfl ?_
                  refine r_sd (sd_move rfl rfl) rfl rfl ?_
                  refine r_sd (sd_move rfl rfl) rfl rfl ?_
                  refine r_sd (sd_move rfl rfl) rfl rfl ?_
                  refine r_sd (sd_bin rfl rfl rfl b_lss) rfl rfl ?_
                  refine r_sd (sd_move rfl rfl) rfl rfl ?_
                  refine r_bool (t := 110) rfl (fun h44 => ?_) (fun h44 => ?_)
                  · -- yes
                    replace h44 := of_decide_eq_true h44
                    exfalso; omega
                  · -- no
                    replace h44 := of_decide_eq_false h44
                    refine r_sd (sd_move rfl rfl) rfl rfl ?_
                    refine r_sd (sd_fa (o' := 0) rfl rfl fo24_0 rfl) rfl rfl ?_
                    refine r_sd (sd_ld1 rfl rfl tk22 (at_blk (vs := [(Value.slice tsA ts.length tsC)]) 2 rfl rfl)) rfl rfl ?_
                    refine r_sd (sd_len rfl rfl ut22) rfl rfl ?_
                    refine r_sd (sd_bin rfl rfl rfl b_geq) rfl rfl ?_
                    refine r_sd (sd_pick_f rfl rfl rfl) rfl rfl ?_
                    refine r_sd (sd_pick_t rfl rfl rfl) rfl rfl ?_
                    refine r_sd (sd_pick_f rfl rfl rfl) rfl rfl ?_
                    refine r_nil ?_
                    refine k_then (hK43 _ _ _ ?_)
                    refine w_if rfl (fun h45 => ?_) (fun h45 => ?_)
                    · -- yes
                      replace h45 := of_decide_eq_true h45
                      exfalso; omega
                    · -- no
                      replace h45 := of_decide_eq_false h45
                      refine w_skip ?_
                      refine k_block ?_
                      refine k_then (hK35 _ _ _ ?_)
                      refine w_region ?_
                      refine r_sd (sd_bin rfl rfl rfl (b_add ⟨by omega, by omega⟩)) rfl rfl ?_
                      refine r_sd (sd_move rfl rfl) rfl rfl ?_
                      refine r_nil ?_
                      have hb46 : (Value.int .i64 (((shutL ts l (i + 1)).length : Nat) : Int)) = (Value.int .i64 ((((shutL ts l i).length : Nat) : Int) + 1)) := by exact congrArg (Value.int .i64) (by first | (rw [shutL_yes hx hs2]; simp; done) | (rw [shutL_not hx hs2]; done))
                      have hb47 : (Value.int .i64 (((i + 1) : Nat) : Int)) = (Value.int .i64 (((i : Nat) : Int) + 1)) := by exact congrArg (Value.int .i64) (by omega)
                      refine k_then (hJ31 ⟨(i + 1), (by first | omega | (simp only []; omega))⟩ _ _ _ rfl (by first | omega | (simp; omega)) (Sub.cons rfl <| Sub.cons rfl <| Sub.cons rfl <| sub_val rfl hb46 <| Sub.cons rfl <| Sub.cons rfl <| sub_val rfl hb47 <| Sub.nil _) (fun w hs => St.sel [1, 2, 3, 4] rfl rfl hs))
              · -- no
                replace ht := of_decide_eq_false ht
                refine r_sd (sd_assign rfl rfl) rfl rfl ?_
                refine r_nil ?_
                refine k_then (hK40 _ _ _ ?_)
                refine w_seq fun K48 hK48 => ?_
                refine w_seq fun K49 hK49 => ?_
                refine w_region ?_
                have hsb : shutB ts l i = false := by first | exact shut_not1 (by omega) hz ht | exact shut_not2 (by omega) (by omega)
                have hs2 := shut_no' hx hsb
                refine r_sd (sd_move rfl rfl) rfl rfl ?_
                refine r_nil ?_
                refine k_then (hK49 _ _ _ ?_)
                refine w_if_false rfl ?_
                refine w_skip ?_
                refine k_then (hK48 _ _ _ ?_)
                refine w_seq fun K50 hK50 => ?_
                refine w_region ?_
                rw [names_not hxo hst hb0 hs2]
                refine r_sd (sd_move rfl rfl) rfl rfl ?_
                refine r_sd (sd_bin (r := .bool false) rfl rfl rfl b_neq) rfl rfl ?_
                refine r_sd (sd_move rfl rfl) rfl rfl ?_
                refine r_sd (sd_move rfl rfl) rfl rfl ?_
                refine r_sd (sd_move rfl rfl) rfl rfl ?_
                refine r_sd (sd_bin rfl rfl rfl b_neq) rfl rfl ?_
                refine r_sd (sd_bin rfl rfl rfl (b_neqb ut4)) rfl rfl ?_
                refine r_sd (sd_pick_f rfl rfl rfl) rfl rfl ?_
                refine r_sd (sd_move rfl rfl) rfl rfl ?_
                refine r_bool (t := 99) rfl (fun h99 => ?_) (fun h99 => ?_)
                · -- yes
                  rw [Bool.not_eq_true'] at h99
                  exact absurd h99 (by simp [hs2])
                · -- no
                  rw [Bool.not_eq_false'] at h99
                  refine r_sd (sd_move rfl rfl) rfl rfl ?_
                  refine r_sd (sd_move rfl rfl) rfl rfl ?_
                  refine r_sd (sd_bin (r := .bool false) rfl rfl rfl b_eql) rfl rfl ?_
                  refine r_sd (sd_bin (r := .bool false) rfl rfl rfl (b_neqb ut4)) rfl rfl ?_
                  refine r_sd (sd_pick_f rfl rfl rfl) rfl rfl ?_
                  refine r_sd (sd_move rfl rfl) rfl rfl ?_
                  refine r_sd (sd_move rfl rfl) rfl rfl ?_
                  refine r_sd (sd_move rfl rfl) rfl rfl ?_
                  refine r_sd (sd_off rfl) rfl rfl ?_
                  refine r_sd (sd_off rfl) rfl rfl ?_
                  refine r_sd (sd_off rfl) rfl rfl ?_
                  refine r_sd (sd_off rfl) rfl rfl ?_
                  refine r_sd (sd_off rfl) rfl rfl ?_
                  refine r_sd (sd_off rfl) rfl rfl ?_
                  refine r_sd (sd_off rfl) rfl rfl ?_
                  refine r_sd (sd_off rfl) rfl rfl ?_
                  refine r_sd (sd_off rfl) rfl rfl ?_
                  refine r_sd (sd_pick_f rfl rfl rfl) rfl rfl ?_
                  refine r_sd (sd_pick_f rfl rfl rfl) rfl rfl ?_
                  refine r_nil ?_
                  refine k_then (hK50 _ _ _ ?_)
                  refine w_if_false rfl ?_
                  refine w_skip ?_
                  refine k_block ?_
                  refine k_then (hK35 _ _ _ ?_)
                  refine w_region ?_
                  refine r_sd (sd_bin rfl rfl rfl (b_add ⟨by omega, by omega⟩)) rfl rfl ?_
                  refine r_sd (sd_move rfl rfl) rfl rfl ?_
                  refine r_nil ?_
                  have hb51 : (Value.int .i64 (((shutL ts l (i + 1)).length : Nat) : Int)) = (Value.int .i64 (((shutL ts l i).length : Nat) : Int)) := by exact congrArg (Value.int .i64) (by first | (rw [shutL_yes hx hs2]; simp; done) | (rw [shutL_not hx hs2]; done))
                  have hb52 : (Value.int .i64 (((i + 1) : Nat) : Int)) = (Value.int .i64 (((i : Nat) : Int) + 1)) := by exact congrArg (Value.int .i64) (by omega)
                  refine k_then (hJ31 ⟨(i + 1), (by first | omega | (simp only []; omega))⟩ _ _ _ rfl (by first | omega | (simp; omega)) (Sub.cons rfl <| Sub.cons rfl <| Sub.cons rfl <| sub_val rfl hb51 <| Sub.cons rfl <| Sub.cons rfl <| sub_val rfl hb52 <| Sub.nil _) (fun w hs => St.sel [1, 2, 3, 4] rfl rfl hs))
            · -- no
              replace ha := of_decide_eq_false ha
              refine r_sd (sd_off rfl) rfl rfl ?_
              refine r_sd (sd_off rfl) rfl rfl ?_
              refine r_sd (sd_off rfl) rfl rfl ?_
              refine r_sd (sd_off rfl) rfl rfl ?_
              refine r_sd (sd_off rfl) rfl rfl ?_
              refine r_sd (sd_off rfl) rfl rfl ?_
              refine r_sd (sd_pick_f rfl rfl rfl) rfl rfl ?_
              refine r_sd (sd_assign rfl rfl) rfl rfl ?_
              refine r_nil ?_
              refine k_then (hK40 _ _ _ ?_)
              refine w_seq fun K53 hK53 => ?_
              refine w_seq fun K54 hK54 => ?_
              refine w_region ?_
              have hsb : shutB ts l i = false := by first | exact shut_not1 (by omega) hz ht | exact shut_not2 (by omega) (by omega)
              have hs2 := shut_no' hx hsb
              refine r_sd (sd_move rfl rfl) rfl rfl ?_
              refine r_nil ?_
              refine k_then (hK54 _ _ _ ?_)
              refine w_if_false rfl ?_
              refine w_skip ?_
              refine k_then (hK53 _ _ _ ?_)
              refine w_seq fun K55 hK55 => ?_
              refine w_region ?_
              rw [names_not hxo hst hb0 hs2]
              refine r_sd (sd_move rfl rfl) rfl rfl ?_
              refine r_sd (sd_bin (r := .bool false) rfl rfl rfl b_neq) rfl rfl ?_
              refine r_sd (sd_move rfl rfl) rfl rfl ?_
              refine r_sd (sd_move rfl rfl) rfl rfl ?_
              refine r_sd (sd_move rfl rfl) rfl rfl ?_
              refine r_sd (sd_bin rfl rfl rfl b_neq) rfl rfl ?_
              refine r_sd (sd_bin rfl rfl rfl (b_neqb ut4)) rfl rfl ?_
              refine r_sd (sd_pick_f rfl rfl rfl) rfl rfl ?_
              refine r_sd (sd_move rfl rfl) rfl rfl ?_
              refine r_bool (t := 99) rfl (fun h99 => ?_) (fun h99 => ?_)
              · -- yes
                rw [Bool.not_eq_true'] at h99
                exact absurd h99 (by simp [hs2])
              · -- no
                rw [Bool.not_eq_false'] at h99
                refine r_sd (sd_move rfl rfl) rfl rfl ?_
                refine r_sd (sd_move rfl rfl) rfl rfl ?_
                refine r_sd (sd_bin (r := .bool false) rfl rfl rfl b_eql) rfl rfl ?_
                refine r_sd (sd_bin (r := .bool false) rfl rfl rfl (b_neqb ut4)) rfl rfl ?_
                refine r_sd (sd_pick_f rfl rfl rfl) rfl rfl ?_
                refine r_sd (sd_move rfl rfl) rfl rfl ?_
                refine r_sd (sd_move rfl rfl) rfl rfl ?_
                refine r_sd (sd_move rfl rfl) rfl rfl ?_
                refine r_sd (sd_off rfl) rfl rfl ?_
                refine r_sd (sd_off rfl) rfl rfl ?_
                refine r_sd (sd_off rfl) rfl rfl ?_
                refine r_sd (sd_off rfl) rfl rfl ?_
                refine r_sd (sd_off rfl) rfl rfl ?_
                refine r_sd (sd_off rfl) rfl rfl ?_
                refine r_sd (sd_off rfl) rfl rfl ?_
                refine r_sd (sd_off rfl) rfl rfl ?_
                refine r_sd (sd_off rfl) rfl rfl ?_
                refine r_sd (sd_pick_f rfl rfl rfl) rfl rfl ?_
                refine r_sd (sd_pick_f rfl rfl rfl) rfl rfl ?_
                refine r_nil ?_
                refine k_then (hK55 _ _ _ ?_)
                refine w_if_false rfl ?_
                refine w_skip ?_
                refine k_block ?_
                refine k_then (hK35 _ _ _ ?_)
                refine w_region ?_
                refine r_sd (sd_bin rfl rfl rfl (b_add ⟨by omega, by omega⟩)) rfl rfl ?_
                refine r_sd (sd_move rfl rfl) rfl rfl ?_
                refine r_nil ?_
                have hb56 : (Value.int .i64 (((shutL ts l (i + 1)).length : Nat) : Int)) = (Value.int .i64 (((shutL ts l i).length : Nat) : Int)) := by exact congrArg (Value.int .i64) (by first | (rw [shutL_yes hx hs2]; simp; done) | (rw [shutL_not hx hs2]; done))
                have hb57 : (Value.int .i64 (((i + 1) : Nat) : Int)) = (Value.int .i64 (((i : Nat) : Int) + 1)) := by exact congrArg (Value.int .i64) (by omega)
                refine k_then (hJ31 ⟨(i + 1), (by first | omega | (simp only []; omega))⟩ _ _ _ rfl (by first | omega | (simp; omega)) (Sub.cons rfl <| Sub.cons rfl <| Sub.cons rfl <| sub_val rfl hb56 <| Sub.cons rfl <| Sub.cons rfl <| sub_val rfl hb57 <| Sub.nil _) (fun w hs => St.sel [1, 2, 3, 4] rfl rfl hs))
          · -- no
            replace h34 := of_decide_eq_false h34
            refine w_exit ?_
            refine k_exit_then ?_
            refine k_exit_then ?_
            refine k_exit_same ?_
            refine k_then (hK29 _ _ _ ?_)
            refine w_seq fun K58 hK58 => ?_
            refine w_region ?_
            refine r_sd (sd_move rfl rfl) rfl rfl ?_
            refine r_sd (sd_move rfl rfl) rfl rfl ?_
            refine r_sd (sd_move rfl rfl) rfl rfl ?_
            refine r_sd (sd_move rfl rfl) rfl rfl ?_
            refine r_sd (sd_len rfl rfl ut61) rfl rfl ?_
            refine r_sd (sd_bin rfl rfl rfl b_eql) rfl rfl ?_
            refine r_sd (sd_pick_t rfl rfl rfl) rfl rfl ?_
            refine r_sd (sd_assign rfl rfl) rfl rfl ?_
            refine r_nil ?_
            refine k_then (hK58 _ _ _ ?_)
            refine w_ret ?_
            refine hQ _ _ _ (l_nil (vs := [(Value.bool (decide ((((shutL ts l i).length : Nat) : Int) = (((shutL ts l l.length).length : Nat) : Int))))]) ⟨rfl, trivial⟩ fun w hs => endV ?_ hs)
            show (Value.bool (decide ((((shutL ts l i).length : Nat) : Int) = (((shutL ts l l.length).length : Nat) : Int)))) = (Value.bool true)
            clear hs w hQ hN hK58 K58 hK33 K33 hK32 K32 hK30 K30 hK29 K29 hK28 K28 hK27 K27 hK26 K26 hK21 K21 hK13 K13 hK12 K12 hK10 K10 hK9 K9 hK5 K5 hK4 K4 hK3 K3 hK1 K1
            first | rfl | exact congrArg Value.bool (decide_eq_true (by have e : i = l.length := (by omega); rw [e]))

end Go.Proofs.Ytpbgdeojcefnmaa
