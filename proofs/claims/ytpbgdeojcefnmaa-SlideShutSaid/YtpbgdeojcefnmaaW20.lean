/-
  Walks: kreisel/slide.Shut, kreisel/slide.Shut, kreisel/slide.Shut, kreisel/kreiselref03.Shut, kreisel/kreiselref03.Shut, kreisel/kreiselref03.Shut
-/
import Derived.Test.YtpbgdeojcefnmaaTab
import Derived.Test.YtpbgdeojcefnmaaSort
import Derived.Test.YtpbgdeojcefnmaaThr
import Derived.Test.YtpbgdeojcefnmaaMono
import Derived.Test.YtpbgdeojcefnmaaSafe
import Derived.Test.YtpbgdeojcefnmaaW3
import Derived.Test.YtpbgdeojcefnmaaW4
import Derived.Test.YtpbgdeojcefnmaaW16
namespace Go.Proofs.Ytpbgdeojcefnmaa
open Go.RowKit
set_option linter.unusedVariables false

set_option maxRecDepth 100000 in
set_option maxHeartbeats 400000 in
theorem shut_no (ts : List StretchV) (tsA : Option Addr) (tsC : Nat) (l : List SledV) (lA : Option Addr) (lC : Nat) (hlen : ts.length ≤ 1000000) (hside : ∀ x ∈ ts, 0 ≤ x.Side ∧ x.Side ≤ 255) (hE : ¬ shutE ts l = 0) :
    FnV Try.prog 38 [(Value.agg (TrackV.cells (TrackV.mk (Slc.mk tsA ts.length tsC))).toArray), (Value.slice lA l.length lC)] [(rd tsA ts.length 9 (ts.map StretchV.cells)), (rd lA l.length 11 (l.map SledV.cells))] (Value.tuple [(Value.slice none 0 0), (Value.int .i64 (shutE ts l))].toArray) := by
  refine fnV_of go38 Try.func38 rfl rfl fun w0 Q hQ hN => ?_
  change WJ _ _ _ _ [(0, (Value.agg (TrackV.cells (TrackV.mk (Slc.mk tsA ts.length tsC))).toArray)), (1, (Value.slice lA l.length lC))] [(rd tsA ts.length 9 (ts.map StretchV.cells)).ro, (rd lA l.length 11 (l.map SledV.cells)).ro]
  refine w_seq fun K1 hK1 => ?_
  refine w_region ?_
  refine r_box (cs := (TrackV.cells (TrackV.mk (Slc.mk tsA ts.length tsC)))) rfl rfl rfl rfl fun b2 => ?_
  refine r_sd (sd_assign rfl rfl) rfl rfl ?_
  refine r_sd (sd_assign rfl rfl) rfl rfl ?_
  refine r_nil ?_
  refine k_then (hK1 _ _ _ ?_)
  refine w_scope rfl ?_
  refine w_seq fun K3 hK3 => ?_
  refine w_seq fun K4 hK4 => ?_
  refine w_region ?_
  refine r_sd (sd_ldn rfl rfl tk24 (at_blk (vs := (TrackV.cells (TrackV.mk (Slc.mk tsA ts.length tsC)))) 0 rfl rfl) rfl) rfl rfl ?_
  refine r_sd (sd_call rfl rfl rfl rfl (tcheck_c ts tsA tsC (by first | assumption | omega | (simp; done) | (simp; omega)) (by first | assumption | omega | (simp; done) | (simp; omega))) (ha_at 1 rfl rfl <| ha_nil)) rfl rfl ?_
  refine r_sd (sd_assign rfl rfl) rfl rfl ?_
  refine r_nil ?_
  refine k_then (hK4 _ _ _ ?_)
  refine w_seq fun K5 hK5 => ?_
  refine w_region ?_
  refine r_sd (sd_move rfl rfl) rfl rfl ?_
  refine r_sd (sd_bin rfl rfl rfl b_neq) rfl rfl ?_
  refine r_nil ?_
  refine k_then (hK5 _ _ _ ?_)
  refine w_if rfl (fun he1 => ?_) (fun he1 => ?_)
  · -- yes
    rw [Bool.not_eq_true'] at he1
    replace he1 := of_decide_eq_false he1
    refine w_seq fun K6 hK6 => ?_
    refine w_region ?_
    refine r_sd (sd_move rfl rfl) rfl rfl ?_
    refine r_sd (sd_assign rfl rfl) rfl rfl ?_
    refine r_sd (sd_assign rfl rfl) rfl rfl ?_
    refine r_nil ?_
    refine k_then (hK6 _ _ _ ?_)
    refine w_ret ?_
    refine hQ _ _ _ (l_nil (vs := [(Value.slice none 0 0), (Value.int .i64 (if trackOk ts = true then 0 else 10))]) ⟨rfl, rfl, trivial⟩ fun w hs => endV ?_ hs)
    show (Value.tuple [(Value.slice none 0 0), (Value.int .i64 (if trackOk ts = true then 0 else 10))].toArray) = (Value.tuple [(Value.slice none 0 0), (Value.int .i64 (shutE ts l))].toArray)
    clear hs w hQ hN hK6 K6 hK5 K5 hK4 K4 hK3 K3 hK1 K1
    first | rw [shutE_track (shut_a he1).1, (shut_a he1).2] | rw [shutE_many htr hm] | rw [shutE_sled htr hm hz (fun h => hb (bothE_ok htr h)), bothE_sled htr (fun h => hb (bothE_ok htr h))]
  · -- no
    rw [Bool.not_eq_false'] at he1
    replace he1 := of_decide_eq_true he1
    refine w_skip ?_
    refine k_then (hK3 _ _ _ ?_)
    refine w_seq fun K7 hK7 => ?_
    refine w_seq fun K8 hK8 => ?_
    refine w_region ?_
    have htr : trackOk ts = true := shut_tr he1
    refine r_sd (sd_move rfl rfl) rfl rfl ?_
    refine r_sd (sd_len rfl rfl ut50) rfl rfl ?_
    refine r_sd (sd_bin rfl rfl rfl b_gtr) rfl rfl ?_
    refine r_nil ?_
    refine k_then (hK8 _ _ _ ?_)
    refine w_if rfl (fun hm => ?_) (fun hm => ?_)
    · -- yes
      replace hm := of_decide_eq_true hm
      refine w_seq fun K9 hK9 => ?_
      refine w_region ?_
      refine r_sd (sd_assign rfl rfl) rfl rfl ?_
      refine r_sd (sd_assign rfl rfl) rfl rfl ?_
      refine r_nil ?_
      refine k_then (hK9 _ _ _ ?_)
      refine w_ret ?_
      refine hQ _ _ _ (l_nil (vs := [(Value.slice none 0 0), (Value.int .i64 4)]) ⟨rfl, rfl, trivial⟩ fun w hs => endV ?_ hs)
      show (Value.tuple [(Value.slice none 0 0), (Value.int .i64 4)].toArray) = (Value.tuple [(Value.slice none 0 0), (Value.int .i64 (shutE ts l))].toArray)
      clear hs w hQ hN hK9 K9 hK8 K8 hK7 K7 hK5 K5 hK4 K4 hK3 K3 hK1 K1
      first | rw [shutE_track (shut_a he1).1, (shut_a he1).2] | rw [shutE_many htr hm] | rw [shutE_sled htr hm hz (fun h => hb (bothE_ok htr h)), bothE_sled htr (fun h => hb (bothE_ok htr h))]
    · -- no
      replace hm := of_decide_eq_false hm
      refine w_skip ?_
      refine k_then (hK7 _ _ _ ?_)
      refine w_seq fun K10 hK10 => ?_
      refine w_region ?_
      refine r_sd (sd_assign rfl rfl) rfl rfl ?_
      refine r_nil ?_
      refine k_then (hK10 _ _ _ ?_)
      refine w_seq fun K11 hK11 => ?_
      refine w_region ?_
      refine r_sd (sd_assign rfl rfl) rfl rfl ?_
      refine r_nil ?_
      refine k_then (hK11 _ _ _ ?_)
      refine w_seq fun K12 hK12 => ?_
      refine w_label ?_
      refine k_then (hK12 _ _ _ ?_)
      refine w_seq fun K13 hK13 => ?_
      refine w_seq fun K14 hK14 => ?_
      refine w_region ?_
      refine r_sd (sd_move rfl rfl) rfl rfl ?_
      refine r_sd (sd_len rfl rfl ut50) rfl rfl ?_
      refine r_sd (sd_move rfl rfl) rfl rfl ?_
      refine r_nil ?_
      refine k_then (hK14 _ _ _ ?_)
      refine w_block ?_
      refine w_own_nil 3 1 ?_
      have hinit : (0 ≤ l.length) ∧ ((l.take 0).all (fun s => decide (SledOk s)) = true) := by exact ⟨Nat.zero_le _, rfl⟩
      refine w_loop (ι := { z : Nat × (Option Addr) × Nat // (z.1 ≤ l.length) ∧ ((l.take z.1).all (fun s => decide (SledOk s)) = true) }) (fun z => [(1, (Value.slice lA l.length lC)), (2, (Value.pointer (some ⟨b2, 0, none⟩))), (7, (Value.slice z.1.2.1 ((shutL ts l z.1.1).length) z.1.2.2)), (8, (Value.int .i64 0)), (21, (Value.int .i64 ((l.length : Nat) : Int))), (22, (Value.int .i64 ((z.1.1 : Nat) : Int)))]) (fun z => [(own z.1.2.1 z.1.2.2 3 1 ((shutL ts l z.1.1).map iC)), (blk b2 24 (TrackV.cells (TrackV.mk (Slc.mk tsA ts.length tsC)))), (rd tsA ts.length 9 (ts.map StretchV.cells)).ro, (rd lA l.length 11 (l.map SledV.cells)).ro]) (fun z => l.length - z.1.1) ⟨(0, none, 0), hinit⟩ (Sub.cons rfl <| Sub.cons rfl <| Sub.cons rfl <| Sub.cons rfl <| Sub.cons rfl <| Sub.cons rfl <| Sub.nil _) (fun w hs => St.sel [0, 1, 2, 3] rfl rfl hs) ?_
      clear hinit
      rintro ⟨⟨i, a, c⟩, ⟨hl9_0, hl9_1⟩⟩ J15 hJ15
      try dsimp only at hl9_0 hl9_1
      change WJ _ _ _ _ [(1, (Value.slice lA l.length lC)), (2, (Value.pointer (some ⟨b2, 0, none⟩))), (7, (Value.slice a ((shutL ts l i).length) c)), (8, (Value.int .i64 0)), (21, (Value.int .i64 ((l.length : Nat) : Int))), (22, (Value.int .i64 ((i : Nat) : Int)))] [(own a c 3 1 ((shutL ts l i).map iC)), (blk b2 24 (TrackV.cells (TrackV.mk (Slc.mk tsA ts.length tsC)))), (rd tsA ts.length 9 (ts.map StretchV.cells)).ro, (rd lA l.length 11 (l.map SledV.cells)).ro]
      refine w_seq fun K16 hK16 => ?_
      refine w_region ?_
      refine r_sd (sd_bin rfl rfl rfl b_lss) rfl rfl ?_
      refine r_nil ?_
      refine k_then (hK16 _ _ _ ?_)
      refine w_seq fun K17 hK17 => ?_
      refine w_if rfl (fun h18 => ?_) (fun h18 => ?_)
      · -- yes
        replace h18 := of_decide_eq_true h18
        refine w_skip ?_
        refine k_then (hK17 _ _ _ ?_)
        refine w_seq fun K19 hK19 => ?_
        refine w_block ?_
        refine w_seq fun K20 hK20 => ?_
        refine w_region ?_
        have hsl := shutL_len (ts := ts) (l := l) (i := i)
        refine r_sd (sd_move rfl rfl) rfl rfl ?_
        refine r_sd (sd_assign rfl rfl) rfl rfl ?_
        refine r_nil ?_
        refine k_then (hK20 _ _ _ ?_)
        refine w_seq fun K21 hK21 => ?_
        refine w_draw mixed 11 (by kernel_rfl) ?_
        refine d_sd (sd_ldn rfl rfl tk24 (at_blk (vs := (TrackV.cells (TrackV.mk (Slc.mk tsA ts.length tsC)))) 1 rfl rfl) rfl) rfl rfl ?_
        refine d_sd (sd_move rfl rfl) rfl rfl ?_
        refine d_sd (sd_move rfl rfl) rfl rfl ?_
        obtain ⟨z, hz⟩ : ∃ y_, l[i]? = some y_ := ⟨l[i]'(by omega), List.getElem?_eq_getElem _⟩
        have hzm : (l.map SledV.cells)[i]? = some (SledV.cells z) := by rw [List.getElem?_map, hz]; rfl
        refine d_sd (sd_ia (k := i) rfl rfl rfl (has_at 3 rfl) te50 (by decide) (by omega) (by omega)) rfl rfl ?_
        refine d_sd (sd_ldn rfl rfl tk28 (at_rd (k := i) (o := 0) (vs := (SledV.cells z)) (has_at 3 rfl) hzm rfl (by decide) rfl) rfl) rfl rfl ?_
        refine d_sd (sd_call rfl rfl rfl rfl (safe_c ts tsA tsC z (by first | assumption | omega | (simp; done) | (simp; omega)) (by first | assumption | omega | (simp; done) | (simp; omega))) (ha_at 2 rfl rfl <| ha_nil)) rfl rfl ?_
        refine d_sd (sd_move rfl rfl) rfl rfl ?_
        refine d_sd (sd_extract rfl rfl rfl) rfl rfl ?_
        refine d_sd (sd_extract rfl rfl rfl) rfl rfl ?_
        refine d_sd (sd_assign rfl rfl) rfl rfl ?_
        refine d_sd (sd_assign rfl rfl) rfl rfl ?_
        refine d_end ?_
        refine r_nil ?_
        refine k_then (hK21 _ _ _ ?_)
        refine w_seq fun K22 hK22 => ?_
        refine w_seq fun K23 hK23 => ?_
        refine w_region ?_
        refine r_sd (sd_move rfl rfl) rfl rfl ?_
        refine r_sd (sd_bin rfl rfl rfl b_neq) rfl rfl ?_
        refine r_nil ?_
        refine k_then (hK23 _ _ _ ?_)
        refine w_if rfl (fun hb => ?_) (fun hb => ?_)
        · -- yes
          rw [Bool.not_eq_true'] at hb
          replace hb := of_decide_eq_false hb
          refine w_seq fun K24 hK24 => ?_
          refine w_region ?_
          refine r_sd (sd_move rfl rfl) rfl rfl ?_
          refine r_sd (sd_assign rfl rfl) rfl rfl ?_
          refine r_sd (sd_assign rfl rfl) rfl rfl ?_
          refine r_nil ?_
          refine k_then (hK24 _ _ _ ?_)
          refine w_exit ?_
          refine k_exit_then ?_
          refine k_exit_other rfl ?_
          refine k_exit_then ?_
          refine k_exit_then ?_
          refine k_exit_same ?_
          refine k_then (hK13 _ _ _ ?_)
          refine w_seq fun K25 hK25 => ?_
          refine w_region ?_
          refine r_sd (sd_move rfl rfl) rfl rfl ?_
          refine r_sd (sd_move rfl rfl) rfl rfl ?_
          refine r_sd (sd_assign rfl rfl) rfl rfl ?_
          refine r_sd (sd_assign rfl rfl) rfl rfl ?_
          refine r_nil ?_
          refine k_then (hK25 _ _ _ ?_)
          refine w_ret ?_
          refine hQ _ _ _ (l_nil (vs := [(Value.slice none 0 0), (Value.int .i64 (bothE z ts))]) ⟨rfl, rfl, trivial⟩ fun w hs => endV ?_ hs)
          show (Value.tuple [(Value.slice none 0 0), (Value.int .i64 (bothE z ts))].toArray) = (Value.tuple [(Value.slice none 0 0), (Value.int .i64 (shutE ts l))].toArray)
          clear hs w hQ hN hK25 K25 hK24 K24 hK23 K23 hK22 K22 hK21 K21 hK20 K20 hK19 K19 hK17 K17 hK16 K16 hK14 K14 hK13 K13 hK12 K12 hK11 K11 hK10 K10 hK8 K8 hK7 K7 hK5 K5 hK4 K4 hK3 K3 hK1 K1
          first | rw [shutE_track (shut_a he1).1, (shut_a he1).2] | rw [shutE_many htr hm] | rw [shutE_sled htr hm hz (fun h => hb (bothE_ok htr h)), bothE_sled htr (fun h => hb (bothE_ok htr h))]
        · -- no
          rw [Bool.not_eq_false'] at hb
          replace hb := of_decide_eq_true hb
          refine w_skip ?_
          refine k_then (hK22 _ _ _ ?_)
          refine w_seq fun K26 hK26 => ?_
          refine w_region ?_
          refine r_sd (sd_move rfl rfl) rfl rfl ?_
          refine r_sd (sd_bin rfl rfl rfl b_neq) rfl rfl ?_
          refine r_nil ?_
          refine k_then (hK26 _ _ _ ?_)
          refine w_if rfl (fun hs2 => ?_) (fun hs2 => ?_)
          · -- yes
            rw [Bool.not_eq_true'] at hs2
            replace hs2 := of_decide_eq_false hs2
            refine w_region ?_
            refine r_sd (sd_move rfl rfl) rfl rfl ?_
            refine r_sd (sd_move rfl rfl) rfl rfl ?_
            refine r_bs (xs := [.tmp 40]) (cs := [(Value.int .i64 ((i : Nat) : Int))]) rfl te61 tz3 rfl rfl rfl rfl (by simp [Value.cells]) rfl rfl fun b27 => ?_
            refine r_append (es2 := (List.map iC (shutL ts l (i + 1)))) (m' := (shutL ts l (i + 1)).length) 1 rfl rfl rfl ta61 rfl rfl (by simp) (has_rd_blk (es := List.map iC [((i : Nat) : Int)]) 0 rfl rfl (by simp [iC_length]) rfl) (one_iC _) (by first | omega | (simp; omega)) (by first | (simp only [maxLen]; omega) | (simp [maxLen]; omega)) (by rw [shutL_yes hz (by rw [← safeV_ok hb]; exact hs2)]; simp) (by simp) rfl fun a28 c29 => ?_
            change RJ _ _ _ _ _ _ [_, (own a28 c29 3 1 (List.map iC (shutL ts l (i + 1)))), _, _, _]
            refine r_sd (sd_assign rfl rfl) rfl rfl ?_
            refine r_nil ?_
            refine k_block ?_
            refine k_then (hK19 _ _ _ ?_)
            refine w_region ?_
            first | rw [← shutL_not hz (by rw [← safeV_ok hb]; exact hs2)] | skip
            refine r_sd (sd_bin rfl rfl rfl (b_add ⟨by omega, by omega⟩)) rfl rfl ?_
            refine r_sd (sd_move rfl rfl) rfl rfl ?_
            refine r_nil ?_
            have hb30 : (Value.int .i64 (((i + 1) : Nat) : Int)) = (Value.int .i64 (((i : Nat) : Int) + 1)) := by exact congrArg (Value.int .i64) (by omega)
            refine k_then (hJ15 ⟨((i + 1), a28, c29), ⟨by omega, all_step hz hl9_1 (decide_eq_true (bothE_zero hb).2)⟩⟩ _ _ _ rfl (by first | omega | (simp; omega)) (Sub.cons rfl <| Sub.cons rfl <| Sub.cons rfl <| Sub.cons rfl <| Sub.cons rfl <| sub_val rfl hb30 <| Sub.nil _) (fun w hs => St.sel [1, 2, 3, 4] rfl rfl hs))
          · -- no
            rw [Bool.not_eq_false'] at hs2
            replace hs2 := of_decide_eq_true hs2
            refine w_skip ?_
            refine k_block ?_
            refine k_then (hK19 _ _ _ ?_)
            refine w_region ?_
            first | rw [← shutL_not hz (by rw [← safeV_ok hb]; exact hs2)] | skip
            refine r_sd (sd_bin rfl rfl rfl (b_add ⟨by omega, by omega⟩)) rfl rfl ?_
            refine r_sd (sd_move rfl rfl) rfl rfl ?_
            refine r_nil ?_
            have hb31 : (Value.int .i64 (((i + 1) : Nat) : Int)) = (Value.int .i64 (((i : Nat) : Int) + 1)) := by exact congrArg (Value.int .i64) (by omega)
            refine k_then (hJ15 ⟨((i + 1), a, c), ⟨by omega, all_step hz hl9_1 (decide_eq_true (bothE_zero hb).2)⟩⟩ _ _ _ rfl (by first | omega | (simp; omega)) (Sub.cons rfl <| Sub.cons rfl <| Sub.cons rfl <| Sub.cons rfl <| Sub.cons rfl <| sub_val rfl hb31 <| Sub.nil _) (fun w hs => St.sel [0, 1, 2, 3] rfl rfl hs))
      · -- no
        replace h18 := of_decide_eq_false h18
        exact absurd (shutE_ok htr hm (all_end (by omega) hl9_1)) hE

set_option maxRecDepth 100000 in
set_option maxHeartbeats 400000 in
theorem shut_ok (ts : List StretchV) (tsA : Option Addr) (tsC : Nat) (l : List SledV) (lA : Option Addr) (lC : Nat) (hlen : ts.length ≤ 1000000) (hside : ∀ x ∈ ts, 0 ≤ x.Side ∧ x.Side ≤ 255) (hE : shutE ts l = 0) :
    FnX Try.prog 38 [(Value.agg (TrackV.cells (TrackV.mk (Slc.mk tsA ts.length tsC))).toArray), (Value.slice lA l.length lC)] [(rd tsA ts.length 9 (ts.map StretchV.cells)), (rd lA l.length 11 (l.map SledV.cells))] (fun (x : (Option Addr) × Nat) => (Value.tuple [(Value.slice x.1 ((shutL ts l l.length).length) x.2), (Value.int .i64 (shutE ts l))].toArray)) (fun (x : (Option Addr) × Nat) => True) (fun (x : (Option Addr) × Nat) => [(own x.1 x.2 3 1 ((shutL ts l l.length).map iC))]) := by
  obtain ⟨htr0, hl6, hall⟩ := shutE_zero hE
  refine fnX_of go38 Try.func38 rfl rfl fun w0 Q hQ hN => ?_
  change WJ _ _ _ _ [(0, (Value.agg (TrackV.cells (TrackV.mk (Slc.mk tsA ts.length tsC))).toArray)), (1, (Value.slice lA l.length lC))] [(rd tsA ts.length 9 (ts.map StretchV.cells)).ro, (rd lA l.length 11 (l.map SledV.cells)).ro]
  refine w_seq fun K1 hK1 => ?_
  refine w_region ?_
  refine r_box (cs := (TrackV.cells (TrackV.mk (Slc.mk tsA ts.length tsC)))) rfl rfl rfl rfl fun b2 => ?_
  refine r_sd (sd_assign rfl rfl) rfl rfl ?_
  refine r_sd (sd_assign rfl rfl) rfl rfl ?_
  refine r_nil ?_
  refine k_then (hK1 _ _ _ ?_)
  refine w_scope rfl ?_
  refine w_seq fun K3 hK3 => ?_
  refine w_seq fun K4 hK4 => ?_
  refine w_region ?_
  refine r_sd (sd_ldn rfl rfl tk24 (at_blk (vs := (TrackV.cells (TrackV.mk (Slc.mk tsA ts.length tsC)))) 0 rfl rfl) rfl) rfl rfl ?_
  refine r_sd (sd_call rfl rfl rfl rfl (tcheck_c ts tsA tsC (by first | assumption | omega | (simp; done) | (simp; omega)) (by first | assumption | omega | (simp; done) | (simp; omega))) (ha_at 1 rfl rfl <| ha_nil)) rfl rfl ?_
  refine r_sd (sd_assign rfl rfl) rfl rfl ?_
  refine r_nil ?_
  refine k_then (hK4 _ _ _ ?_)
  refine w_seq fun K5 hK5 => ?_
  refine w_region ?_
  refine r_sd (sd_move rfl rfl) rfl rfl ?_
  refine r_sd (sd_bin rfl rfl rfl b_neq) rfl rfl ?_
  refine r_nil ?_
  refine k_then (hK5 _ _ _ ?_)
  refine w_if rfl (fun he1 => ?_) (fun he1 => ?_)
  · -- yes
    rw [Bool.not_eq_true'] at he1
    replace he1 := of_decide_eq_false he1
    exact absurd (by rw [if_pos htr0]) he1
  · -- no
    rw [Bool.not_eq_false'] at he1
    replace he1 := of_decide_eq_true he1
    refine w_skip ?_
    refine k_then (hK3 _ _ _ ?_)
    refine w_seq fun K6 hK6 => ?_
    refine w_seq fun K7 hK7 => ?_
    refine w_region ?_
    have htr : trackOk ts = true := shut_tr he1
    refine r_sd (sd_move rfl rfl) rfl rfl ?_
    refine r_sd (sd_len rfl rfl ut50) rfl rfl ?_
    refine r_sd (sd_bin rfl rfl rfl b_gtr) rfl rfl ?_
    refine r_nil ?_
    refine k_then (hK7 _ _ _ ?_)
    refine w_if rfl (fun hm => ?_) (fun hm => ?_)
    · -- yes
      replace hm := of_decide_eq_true hm
      exfalso; omega
    · -- no
      replace hm := of_decide_eq_false hm
      refine w_skip ?_
      refine k_then (hK6 _ _ _ ?_)
      refine w_seq fun K8 hK8 => ?_
      refine w_region ?_
      refine r_sd (sd_assign rfl rfl) rfl rfl ?_
      refine r_nil ?_
      refine k_then (hK8 _ _ _ ?_)
      refine w_seq fun K9 hK9 => ?_
      refine w_region ?_
      refine r_sd (sd_assign rfl rfl) rfl rfl ?_
      refine r_nil ?_
      refine k_then (hK9 _ _ _ ?_)
      refine w_seq fun K10 hK10 => ?_
      refine w_label ?_
      refine k_then (hK10 _ _ _ ?_)
      refine w_seq fun K11 hK11 => ?_
      refine w_seq fun K12 hK12 => ?_
      refine w_region ?_
      refine r_sd (sd_move rfl rfl) rfl rfl ?_
      refine r_sd (sd_len rfl rfl ut50) rfl rfl ?_
      refine r_sd (sd_move rfl rfl) rfl rfl ?_
      refine r_nil ?_
      refine k_then (hK12 _ _ _ ?_)
      refine w_block ?_
      refine w_own_nil 3 1 ?_
      have hinit : (0 ≤ l.length) ∧ ((l.take 0).all (fun s => decide (SledOk s)) = true) := by exact ⟨Nat.zero_le _, rfl⟩
      refine w_loop (ι := { z : Nat × (Option Addr) × Nat // (z.1 ≤ l.length) ∧ ((l.take z.1).all (fun s => decide (SledOk s)) = true) }) (fun z => [(1, (Value.slice lA l.length lC)), (2, (Value.pointer (some ⟨b2, 0, none⟩))), (7, (Value.slice z.1.2.1 ((shutL ts l z.1.1).length) z.1.2.2)), (8, (Value.int .i64 0)), (21, (Value.int .i64 ((l.length : Nat) : Int))), (22, (Value.int .i64 ((z.1.1 : Nat) : Int)))]) (fun z => [(own z.1.2.1 z.1.2.2 3 1 ((shutL ts l z.1.1).map iC)), (blk b2 24 (TrackV.cells (TrackV.mk (Slc.mk tsA ts.length tsC)))), (rd tsA ts.length 9 (ts.map StretchV.cells)).ro, (rd lA l.length 11 (l.map SledV.cells)).ro]) (fun z => l.length - z.1.1) ⟨(0, none, 0), hinit⟩ (Sub.cons rfl <| Sub.cons rfl <| Sub.cons rfl <| Sub.cons rfl <| Sub.cons rfl <| Sub.cons rfl <| Sub.nil _) (fun w hs => St.sel [0, 1, 2, 3] rfl rfl hs) ?_
      clear hinit
      rintro ⟨⟨i, a, c⟩, ⟨hl9_0, hl9_1⟩⟩ J13 hJ13
      try dsimp only at hl9_0 hl9_1
      change WJ _ _ _ _ [(1, (Value.slice lA l.length lC)), (2, (Value.pointer (some ⟨b2, 0, none⟩))), (7, (Value.slice a ((shutL ts l i).length) c)), (8, (Value.int .i64 0)), (21, (Value.int .i64 ((l.length : Nat) : Int))), (22, (Value.int .i64 ((i : Nat) : Int)))] [(own a c 3 1 ((shutL ts l i).map iC)), (blk b2 24 (TrackV.cells (TrackV.mk (Slc.mk tsA ts.length tsC)))), (rd tsA ts.length 9 (ts.map StretchV.cells)).ro, (rd lA l.length 11 (l.map SledV.cells)).ro]
      refine w_seq fun K14 hK14 => ?_
      refine w_region ?_
      refine r_sd (sd_bin rfl rfl rfl b_lss) rfl rfl ?_
      refine r_nil ?_
      refine k_then (hK14 _ _ _ ?_)
      refine w_seq fun K15 hK15 => ?_
      refine w_if rfl (fun h16 => ?_) (fun h16 => ?_)
      · -- yes
        replace h16 := of_decide_eq_true h16
        refine w_skip ?_
        refine k_then (hK15 _ _ _ ?_)
        refine w_seq fun K17 hK17 => ?_
        refine w_block ?_
        refine w_seq fun K18 hK18 => ?_
        refine w_region ?_
        have hsl := shutL_len (ts := ts) (l := l) (i := i)
        refine r_sd (sd_move rfl rfl) rfl rfl ?_
        refine r_sd (sd_assign rfl rfl) rfl rfl ?_
        refine r_nil ?_
        refine k_then (hK18 _ _ _ ?_)
        refine w_seq fun K19 hK19 => ?_
        refine w_draw mixed 11 (by kernel_rfl) ?_
        refine d_sd (sd_ldn rfl rfl tk24 (at_blk (vs := (TrackV.cells (TrackV.mk (Slc.mk tsA ts.length tsC)))) 1 rfl rfl) rfl) rfl rfl ?_
        refine d_sd (sd_move rfl rfl) rfl rfl ?_
        refine d_sd (sd_move rfl rfl) rfl rfl ?_
        obtain ⟨z, hz⟩ : ∃ y_, l[i]? = some y_ := ⟨l[i]'(by omega), List.getElem?_eq_getElem _⟩
        have hzm : (l.map SledV.cells)[i]? = some (SledV.cells z) := by rw [List.getElem?_map, hz]; rfl
        refine d_sd (sd_ia (k := i) rfl rfl rfl (has_at 3 rfl) te50 (by decide) (by omega) (by omega)) rfl rfl ?_
        refine d_sd (sd_ldn rfl rfl tk28 (at_rd (k := i) (o := 0) (vs := (SledV.cells z)) (has_at 3 rfl) hzm rfl (by decide) rfl) rfl) rfl rfl ?_
        refine d_sd (sd_call rfl rfl rfl rfl (safe_c ts tsA tsC z (by first | assumption | omega | (simp; done) | (simp; omega)) (by first | assumption | omega | (simp; done) | (simp; omega))) (ha_at 2 rfl rfl <| ha_nil)) rfl rfl ?_
        refine d_sd (sd_move rfl rfl) rfl rfl ?_
        refine d_sd (sd_extract rfl rfl rfl) rfl rfl ?_
        refine d_sd (sd_extract rfl rfl rfl) rfl rfl ?_
        refine d_sd (sd_assign rfl rfl) rfl rfl ?_
        refine d_sd (sd_assign rfl rfl) rfl rfl ?_
        refine d_end ?_
        refine r_nil ?_
        refine k_then (hK19 _ _ _ ?_)
        refine w_seq fun K20 hK20 => ?_
        refine w_seq fun K21 hK21 => ?_
        refine w_region ?_
        refine r_sd (sd_move rfl rfl) rfl rfl ?_
        refine r_sd (sd_bin rfl rfl rfl b_neq) rfl rfl ?_
        refine r_nil ?_
        refine k_then (hK21 _ _ _ ?_)
        refine w_if rfl (fun hb => ?_) (fun hb => ?_)
        · -- yes
          rw [Bool.not_eq_true'] at hb
          replace hb := of_decide_eq_false hb
          exact absurd (bothE_ok htr (hall z (List.mem_of_getElem? hz))) hb
        · -- no
          rw [Bool.not_eq_false'] at hb
          replace hb := of_decide_eq_true hb
          refine w_skip ?_
          refine k_then (hK20 _ _ _ ?_)
          refine w_seq fun K22 hK22 => ?_
          refine w_region ?_
          refine r_sd (sd_move rfl rfl) rfl rfl ?_
          refine r_sd (sd_bin rfl rfl rfl b_neq) rfl rfl ?_
          refine r_nil ?_
          refine k_then (hK22 _ _ _ ?_)
          refine w_if rfl (fun hs2 => ?_) (fun hs2 => ?_)
          · -- yes
            rw [Bool.not_eq_true'] at hs2
            replace hs2 := of_decide_eq_false hs2
            refine w_region ?_
            refine r_sd (sd_move rfl rfl) rfl rfl ?_
            refine r_sd (sd_move rfl rfl) rfl rfl ?_
            refine r_bs (xs := [.tmp 40]) (cs := [(Value.int .i64 ((i : Nat) : Int))]) rfl te61 tz3 rfl rfl rfl rfl (by simp [Value.cells]) rfl rfl fun b23 => ?_
            refine r_append (es2 := (List.map iC (shutL ts l (i + 1)))) (m' := (shutL ts l (i + 1)).length) 1 rfl rfl rfl ta61 rfl rfl (by simp) (has_rd_blk (es := List.map iC [((i : Nat) : Int)]) 0 rfl rfl (by simp [iC_length]) rfl) (one_iC _) (by first | omega | (simp; omega)) (by first | (simp only [maxLen]; omega) | (simp [maxLen]; omega)) (by rw [shutL_yes hz (by rw [← safeV_ok hb]; exact hs2)]; simp) (by simp) rfl fun a24 c25 => ?_
            change RJ _ _ _ _ _ _ [_, (own a24 c25 3 1 (List.map iC (shutL ts l (i + 1)))), _, _, _]
            refine r_sd (sd_assign rfl rfl) rfl rfl ?_
            refine r_nil ?_
            refine k_block ?_
            refine k_then (hK17 _ _ _ ?_)
            refine w_region ?_
            first | rw [← shutL_not hz (by rw [← safeV_ok hb]; exact hs2)] | skip
            refine r_sd (sd_bin rfl rfl rfl (b_add ⟨by omega, by omega⟩)) rfl rfl ?_
            refine r_sd (sd_move rfl rfl) rfl rfl ?_
            refine r_nil ?_
            have hb26 : (Value.int .i64 (((i + 1) : Nat) : Int)) = (Value.int .i64 (((i : Nat) : Int) + 1)) := by exact congrArg (Value.int .i64) (by omega)
            refine k_then (hJ13 ⟨((i + 1), a24, c25), ⟨by omega, all_step hz hl9_1 (decide_eq_true (bothE_zero hb).2)⟩⟩ _ _ _ rfl (by first | omega | (simp; omega)) (Sub.cons rfl <| Sub.cons rfl <| Sub.cons rfl <| Sub.cons rfl <| Sub.cons rfl <| sub_val rfl hb26 <| Sub.nil _) (fun w hs => St.sel [1, 2, 3, 4] rfl rfl hs))
          · -- no
            rw [Bool.not_eq_false'] at hs2
            replace hs2 := of_decide_eq_true hs2
            refine w_skip ?_
            refine k_block ?_
            refine k_then (hK17 _ _ _ ?_)
            refine w_region ?_
            first | rw [← shutL_not hz (by rw [← safeV_ok hb]; exact hs2)] | skip
            refine r_sd (sd_bin rfl rfl rfl (b_add ⟨by omega, by omega⟩)) rfl rfl ?_
            refine r_sd (sd_move rfl rfl) rfl rfl ?_
            refine r_nil ?_
            have hb27 : (Value.int .i64 (((i + 1) : Nat) : Int)) = (Value.int .i64 (((i : Nat) : Int) + 1)) := by exact congrArg (Value.int .i64) (by omega)
            refine k_then (hJ13 ⟨((i + 1), a, c), ⟨by omega, all_step hz hl9_1 (decide_eq_true (bothE_zero hb).2)⟩⟩ _ _ _ rfl (by first | omega | (simp; omega)) (Sub.cons rfl <| Sub.cons rfl <| Sub.cons rfl <| Sub.cons rfl <| Sub.cons rfl <| sub_val rfl hb27 <| Sub.nil _) (fun w hs => St.sel [0, 1, 2, 3] rfl rfl hs))
      · -- no
        replace h16 := of_decide_eq_false h16
        refine w_exit ?_
        refine k_exit_then ?_
        refine k_exit_then ?_
        refine k_exit_same ?_
        refine k_then (hK11 _ _ _ ?_)
        refine w_seq fun K28 hK28 => ?_
        refine w_region ?_
        obtain rfl : i = l.length := by omega
        refine r_sd (sd_move rfl rfl) rfl rfl ?_
        refine r_sd (sd_move rfl rfl) rfl rfl ?_
        refine r_sd (sd_assign rfl rfl) rfl rfl ?_
        refine r_sd (sd_assign rfl rfl) rfl rfl ?_
        refine r_nil ?_
        refine k_then (hK28 _ _ _ ?_)
        refine w_ret ?_
        refine hQ _ _ _ (l_nil (vs := [(Value.slice a ((shutL ts l l.length).length) c), (Value.int .i64 0)]) ⟨rfl, rfl, trivial⟩ fun w hs => endX (a, c) [0] ?_ ?_ rfl rfl rfl hs)
        · rw [hE]; rfl
        · trivial

theorem shut_c (ts : List StretchV) (tsA : Option Addr) (tsC : Nat) (l : List SledV) (lA : Option Addr) (lC : Nat) (hlen : ts.length ≤ 1000000) (hside : ∀ x ∈ ts, 0 ≤ x.Side ∧ x.Side ≤ 255) :
    FnX Try.prog 38 [(Value.agg (TrackV.cells (TrackV.mk (Slc.mk tsA ts.length tsC))).toArray), (Value.slice lA l.length lC)] [(rd tsA ts.length 9 (ts.map StretchV.cells)), (rd lA l.length 11 (l.map SledV.cells))] (fun (x : (Option Addr) × Nat) => (Value.tuple [(Value.slice x.1 ((shutU ts l).length) x.2), (Value.int .i64 (shutE ts l))].toArray)) (fun (x : (Option Addr) × Nat) => True) (fun (x : (Option Addr) × Nat) => [(own x.1 x.2 3 1 ((shutU ts l).map iC))]) := by
  by_cases hE : shutE ts l = 0
  · rw [shutU_ok hE]
    exact shut_ok ts tsA tsC l lA lC hlen hside hE
  · rw [shutU_no hE]
    exact FnV.toX (none, 0) (shut_no ts tsA tsC l lA lC hlen hside hE) trivial own_none

set_option maxRecDepth 100000 in
set_option maxHeartbeats 400000 in
theorem rShut_no (ts : List StretchV) (tsA : Option Addr) (tsC : Nat) (l : List SledV) (lA : Option Addr) (lC : Nat) (hlen : ts.length ≤ 1000000) (hside : ∀ x ∈ ts, 0 ≤ x.Side ∧ x.Side ≤ 255) (hcl : ∀ s ∈ l, 0 ≤ s.Class ∧ s.Class ≤ 255) (hE : ¬ shutE ts l = 0) :
    FnV Try.prog 39 [(Value.agg (TrackV.cells (TrackV.mk (Slc.mk tsA ts.length tsC))).toArray), (Value.slice lA l.length lC)] [(rd tsA ts.length 9 (ts.map StretchV.cells)), (rd lA l.length 11 (l.map SledV.cells))] (Value.tuple [(Value.slice none 0 0), (Value.int .i64 (shutE ts l))].toArray) := by
  refine fnV_of go39 Try.func39 rfl rfl fun w0 Q hQ hN => ?_
  change WJ _ _ _ _ [(0, (Value.agg (TrackV.cells (TrackV.mk (Slc.mk tsA ts.length tsC))).toArray)), (1, (Value.slice lA l.length lC))] [(rd tsA ts.length 9 (ts.map StretchV.cells)).ro, (rd lA l.length 11 (l.map SledV.cells)).ro]
  refine w_seq fun K1 hK1 => ?_
  refine w_region ?_
  refine r_box (cs := (TrackV.cells (TrackV.mk (Slc.mk tsA ts.length tsC)))) rfl rfl rfl rfl fun b2 => ?_
  refine r_sd (sd_assign rfl rfl) rfl rfl ?_
  refine r_sd (sd_assign rfl rfl) rfl rfl ?_
  refine r_nil ?_
  refine k_then (hK1 _ _ _ ?_)
  refine w_seq fun K3 hK3 => ?_
  refine w_seq fun K4 hK4 => ?_
  refine w_region ?_
  refine r_sd (sd_ldn rfl rfl tk24 (at_blk (vs := (TrackV.cells (TrackV.mk (Slc.mk tsA ts.length tsC)))) 0 rfl rfl) rfl) rfl rfl ?_
  refine r_sd (sd_call rfl rfl rfl rfl (track_c ts tsA tsC (by first | assumption | omega | (simp; done) | (simp; omega))) (ha_at 1 rfl rfl <| ha_nil)) rfl rfl ?_
  refine r_sd (sd_not rfl rfl) rfl rfl ?_
  refine r_nil ?_
  refine k_then (hK4 _ _ _ ?_)
  refine w_if rfl (fun ht1 => ?_) (fun ht1 => ?_)
  · -- yes
    rw [Bool.not_eq_true'] at ht1
    refine w_seq fun K5 hK5 => ?_
    refine w_region ?_
    refine r_sd (sd_assign rfl rfl) rfl rfl ?_
    refine r_sd (sd_assign rfl rfl) rfl rfl ?_
    refine r_nil ?_
    refine k_then (hK5 _ _ _ ?_)
    refine w_ret ?_
    refine hQ _ _ _ (l_nil (vs := [(Value.slice none 0 0), (Value.int .i64 10)]) ⟨rfl, rfl, trivial⟩ fun w hs => endV ?_ hs)
    show (Value.tuple [(Value.slice none 0 0), (Value.int .i64 10)].toArray) = (Value.tuple [(Value.slice none 0 0), (Value.int .i64 (shutE ts l))].toArray)
    clear hs w hQ hN hK5 K5 hK4 K4 hK3 K3 hK1 K1
    first | rw [shutE_track ht1] | rw [shutE_many ht1 hm] | rw [shutE_sled ht1 hm hz hb]
  · -- no
    rw [Bool.not_eq_false'] at ht1
    refine w_skip ?_
    refine k_then (hK3 _ _ _ ?_)
    refine w_seq fun K6 hK6 => ?_
    refine w_seq fun K7 hK7 => ?_
    refine w_region ?_
    refine r_sd (sd_move rfl rfl) rfl rfl ?_
    refine r_sd (sd_len rfl rfl ut50) rfl rfl ?_
    refine r_sd (sd_bin rfl rfl rfl b_gtr) rfl rfl ?_
    refine r_nil ?_
    refine k_then (hK7 _ _ _ ?_)
    refine w_if rfl (fun hm => ?_) (fun hm => ?_)
    · -- yes
      replace hm := of_decide_eq_true hm
      refine w_seq fun K8 hK8 => ?_
      refine w_region ?_
      refine r_sd (sd_assign rfl rfl) rfl rfl ?_
      refine r_sd (sd_assign rfl rfl) rfl rfl ?_
      refine r_nil ?_
      refine k_then (hK8 _ _ _ ?_)
      refine w_ret ?_
      refine hQ _ _ _ (l_nil (vs := [(Value.slice none 0 0), (Value.int .i64 4)]) ⟨rfl, rfl, trivial⟩ fun w hs => endV ?_ hs)
      show (Value.tuple [(Value.slice none 0 0), (Value.int .i64 4)].toArray) = (Value.tuple [(Value.slice none 0 0), (Value.int .i64 (shutE ts l))].toArray)
      clear hs w hQ hN hK8 K8 hK7 K7 hK6 K6 hK4 K4 hK3 K3 hK1 K1
      first | rw [shutE_track ht1] | rw [shutE_many ht1 hm] | rw [shutE_sled ht1 hm hz hb]
    · -- no
      replace hm := of_decide_eq_false hm
      refine w_skip ?_
      refine k_then (hK6 _ _ _ ?_)
      refine w_seq fun K9 hK9 => ?_
      refine w_seq fun K10 hK10 => ?_
      refine w_region ?_
      refine r_sd (sd_assign rfl rfl) rfl rfl ?_
      refine r_nil ?_
      refine k_then (hK10 _ _ _ ?_)
      refine w_block ?_
      have hinit : (0 ≤ l.length) ∧ ((l.take 0).all (fun s => decide (SledOk s)) = true) := by exact ⟨Nat.zero_le _, rfl⟩
      refine w_loop (ι := { z : Nat // (z ≤ l.length) ∧ ((l.take z).all (fun s => decide (SledOk s)) = true) }) (fun z => [(1, (Value.slice lA l.length lC)), (2, (Value.pointer (some ⟨b2, 0, none⟩))), (6, (Value.int .i64 ((z.1 : Nat) : Int)))]) (fun z => [(blk b2 24 (TrackV.cells (TrackV.mk (Slc.mk tsA ts.length tsC)))), (rd tsA ts.length 9 (ts.map StretchV.cells)).ro, (rd lA l.length 11 (l.map SledV.cells)).ro]) (fun z => l.length - z.1) ⟨0, hinit⟩ (Sub.cons rfl <| Sub.cons rfl <| Sub.cons rfl <| Sub.nil _) (fun w hs => St.sel [0, 1, 2] rfl rfl hs) ?_
      clear hinit
      rintro ⟨i, ⟨hl6_0, hl6_1⟩⟩ J11 hJ11
      change WJ _ _ _ _ [(1, (Value.slice lA l.length lC)), (2, (Value.pointer (some ⟨b2, 0, none⟩))), (6, (Value.int .i64 ((i : Nat) : Int)))] [(blk b2 24 (TrackV.cells (TrackV.mk (Slc.mk tsA ts.length tsC)))), (rd tsA ts.length 9 (ts.map StretchV.cells)).ro, (rd lA l.length 11 (l.map SledV.cells)).ro]
      refine w_seq fun K12 hK12 => ?_
      refine w_seq fun K13 hK13 => ?_
      refine w_region ?_
      refine r_sd (sd_move rfl rfl) rfl rfl ?_
      refine r_sd (sd_move rfl rfl) rfl rfl ?_
      refine r_sd (sd_len rfl rfl ut50) rfl rfl ?_
      refine r_sd (sd_bin rfl rfl rfl b_lss) rfl rfl ?_
      refine r_nil ?_
      refine k_then (hK13 _ _ _ ?_)
      refine w_if rfl (fun h14 => ?_) (fun h14 => ?_)
      · -- yes
        replace h14 := of_decide_eq_true h14
        refine w_skip ?_
        refine k_then (hK12 _ _ _ ?_)
        refine w_seq fun K15 hK15 => ?_
        refine w_block ?_
        refine w_seq fun K16 hK16 => ?_
        refine w_region ?_
        refine r_sd (sd_move rfl rfl) rfl rfl ?_
        refine r_sd (sd_move rfl rfl) rfl rfl ?_
        obtain ⟨z, hz⟩ : ∃ y_, l[i]? = some y_ := ⟨l[i]'(by omega), List.getElem?_eq_getElem _⟩
        have hzm : (l.map SledV.cells)[i]? = some (SledV.cells z) := by rw [List.getElem?_map, hz]; rfl
        refine r_sd (sd_ia (k := i) rfl rfl rfl (has_at 2 rfl) te50 (by decide) (by omega) (by omega)) rfl rfl ?_
        refine r_sd (sd_ldn rfl rfl tk28 (at_rd (k := i) (o := 0) (vs := (SledV.cells z)) (has_at 2 rfl) hzm rfl (by decide) rfl) rfl) rfl rfl ?_
        have hzc := hcl z (List.mem_of_getElem? hz)
        refine r_sd (sd_call rfl rfl rfl rfl (sled_c z (by first | assumption | omega | (simp; done) | (simp; omega))) (ha_nil)) rfl rfl ?_
        refine r_sd (sd_not rfl rfl) rfl rfl ?_
        refine r_nil ?_
        refine k_then (hK16 _ _ _ ?_)
        refine w_if rfl (fun hb => ?_) (fun hb => ?_)
        · -- yes
          rw [Bool.not_eq_true'] at hb
          replace hb := of_decide_eq_false hb
          refine w_seq fun K17 hK17 => ?_
          refine w_region ?_
          refine r_sd (sd_assign rfl rfl) rfl rfl ?_
          refine r_sd (sd_assign rfl rfl) rfl rfl ?_
          refine r_nil ?_
          refine k_then (hK17 _ _ _ ?_)
          refine w_ret ?_
          refine hQ _ _ _ (l_nil (vs := [(Value.slice none 0 0), (Value.int .i64 30)]) ⟨rfl, rfl, trivial⟩ fun w hs => endV ?_ hs)
          show (Value.tuple [(Value.slice none 0 0), (Value.int .i64 30)].toArray) = (Value.tuple [(Value.slice none 0 0), (Value.int .i64 (shutE ts l))].toArray)
          clear hs w hQ hN hK17 K17 hK16 K16 hK15 K15 hK13 K13 hK12 K12 hK10 K10 hK9 K9 hK7 K7 hK6 K6 hK4 K4 hK3 K3 hK1 K1
          first | rw [shutE_track ht1] | rw [shutE_many ht1 hm] | rw [shutE_sled ht1 hm hz hb]
        · -- no
          rw [Bool.not_eq_false'] at hb
          replace hb := of_decide_eq_true hb
          refine w_skip ?_
          refine k_block ?_
          refine k_then (hK15 _ _ _ ?_)
          refine w_region ?_
          refine r_sd (sd_move rfl rfl) rfl rfl ?_
          refine r_sd (sd_bin rfl rfl rfl (b_add ⟨by omega, by omega⟩)) rfl rfl ?_
          refine r_sd (sd_assign rfl rfl) rfl rfl ?_
          refine r_nil ?_
          have hb18 : (Value.int .i64 (((i + 1) : Nat) : Int)) = (Value.int .i64 (((i : Nat) : Int) + 1)) := by exact congrArg (Value.int .i64) (by omega)
          refine k_then (hJ11 ⟨(i + 1), ⟨by omega, all_step hz hl6_1 (decide_eq_true hb)⟩⟩ _ _ _ rfl (by first | omega | (simp; omega)) (Sub.cons rfl <| Sub.cons rfl <| sub_val rfl hb18 <| Sub.nil _) (fun w hs => St.sel [0, 1, 2] rfl rfl hs))
      · -- no
        replace h14 := of_decide_eq_false h14
        exact absurd (shutE_ok ht1 hm (all_end (by omega) hl6_1)) hE

set_option maxRecDepth 100000 in
set_option maxHeartbeats 400000 in
theorem rShut_ok (ts : List StretchV) (tsA : Option Addr) (tsC : Nat) (l : List SledV) (lA : Option Addr) (lC : Nat) (hlen : ts.length ≤ 1000000) (hside : ∀ x ∈ ts, 0 ≤ x.Side ∧ x.Side ≤ 255) (hcl : ∀ s ∈ l, 0 ≤ s.Class ∧ s.Class ≤ 255) (hE : shutE ts l = 0) :
    FnX Try.prog 39 [(Value.agg (TrackV.cells (TrackV.mk (Slc.mk tsA ts.length tsC))).toArray), (Value.slice lA l.length lC)] [(rd tsA ts.length 9 (ts.map StretchV.cells)), (rd lA l.length 11 (l.map SledV.cells))] (fun (x : (Option Addr) × Nat) => (Value.tuple [(Value.slice x.1 ((shutL ts l l.length).length) x.2), (Value.int .i64 (shutE ts l))].toArray)) (fun (x : (Option Addr) × Nat) => True) (fun (x : (Option Addr) × Nat) => [(own x.1 x.2 3 1 ((shutL ts l l.length).map iC))]) := by
  obtain ⟨htr0, hl6, hall⟩ := shutE_zero hE
  have hst := trackOk_all htr0
  have hl12 := trackOk_le htr0
  refine fnX_of go39 Try.func39 rfl rfl fun w0 Q hQ hN => ?_
  change WJ _ _ _ _ [(0, (Value.agg (TrackV.cells (TrackV.mk (Slc.mk tsA ts.length tsC))).toArray)), (1, (Value.slice lA l.length lC))] [(rd tsA ts.length 9 (ts.map StretchV.cells)).ro, (rd lA l.length 11 (l.map SledV.cells)).ro]
  refine w_seq fun K1 hK1 => ?_
  refine w_region ?_
  refine r_box (cs := (TrackV.cells (TrackV.mk (Slc.mk tsA ts.length tsC)))) rfl rfl rfl rfl fun b2 => ?_
  refine r_sd (sd_assign rfl rfl) rfl rfl ?_
  refine r_sd (sd_assign rfl rfl) rfl rfl ?_
  refine r_nil ?_
  refine k_then (hK1 _ _ _ ?_)
  refine w_seq fun K3 hK3 => ?_
  refine w_seq fun K4 hK4 => ?_
  refine w_region ?_
  refine r_sd (sd_ldn rfl rfl tk24 (at_blk (vs := (TrackV.cells (TrackV.mk (Slc.mk tsA ts.length tsC)))) 0 rfl rfl) rfl) rfl rfl ?_
  refine r_sd (sd_call rfl rfl rfl rfl (track_c ts tsA tsC (by first | assumption | omega | (simp; done) | (simp; omega))) (ha_at 1 rfl rfl <| ha_nil)) rfl rfl ?_
  refine r_sd (sd_not rfl rfl) rfl rfl ?_
  refine r_nil ?_
  refine k_then (hK4 _ _ _ ?_)
  refine w_if rfl (fun ht1 => ?_) (fun ht1 => ?_)
  · -- yes
    rw [Bool.not_eq_true'] at ht1
    rw [htr0] at ht1; cases ht1
  · -- no
    rw [Bool.not_eq_false'] at ht1
    refine w_skip ?_
    refine k_then (hK3 _ _ _ ?_)
    refine w_seq fun K5 hK5 => ?_
    refine w_seq fun K6 hK6 => ?_
    refine w_region ?_
    refine r_sd (sd_move rfl rfl) rfl rfl ?_
    refine r_sd (sd_len rfl rfl ut50) rfl rfl ?_
    refine r_sd (sd_bin rfl rfl rfl b_gtr) rfl rfl ?_
    refine r_nil ?_
    refine k_then (hK6 _ _ _ ?_)
    refine w_if rfl (fun hm => ?_) (fun hm => ?_)
    · -- yes
      replace hm := of_decide_eq_true hm
      exfalso; omega
    · -- no
      replace hm := of_decide_eq_false hm
      refine w_skip ?_
      refine k_then (hK5 _ _ _ ?_)
      refine w_seq fun K7 hK7 => ?_
      refine w_seq fun K8 hK8 => ?_
      refine w_region ?_
      refine r_sd (sd_assign rfl rfl) rfl rfl ?_
      refine r_nil ?_
      refine k_then (hK8 _ _ _ ?_)
      refine w_block ?_
      have hinit : (0 ≤ l.length) ∧ ((l.take 0).all (fun s => decide (SledOk s)) = true) := by exact ⟨Nat.zero_le _, rfl⟩
      refine w_loop (ι := { z : Nat // (z ≤ l.length) ∧ ((l.take z).all (fun s => decide (SledOk s)) = true) }) (fun z => [(1, (Value.slice lA l.length lC)), (2, (Value.pointer (some ⟨b2, 0, none⟩))), (6, (Value.int .i64 ((z.1 : Nat) : Int)))]) (fun z => [(blk b2 24 (TrackV.cells (TrackV.mk (Slc.mk tsA ts.length tsC)))), (rd tsA ts.length 9 (ts.map StretchV.cells)).ro, (rd lA l.length 11 (l.map SledV.cells)).ro]) (fun z => l.length - z.1) ⟨0, hinit⟩ (Sub.cons rfl <| Sub.cons rfl <| Sub.cons rfl <| Sub.nil _) (fun w hs => St.sel [0, 1, 2] rfl rfl hs) ?_
      clear hinit
      rintro ⟨i, ⟨hl6_0, hl6_1⟩⟩ J9 hJ9
      change WJ _ _ _ _ [(1, (Value.slice lA l.length lC)), (2, (Value.pointer (some ⟨b2, 0, none⟩))), (6, (Value.int .i64 ((i : Nat) : Int)))] [(blk b2 24 (TrackV.cells (TrackV.mk (Slc.mk tsA ts.length tsC)))), (rd tsA ts.length 9 (ts.map StretchV.cells)).ro, (rd lA l.length 11 (l.map SledV.cells)).ro]
      refine w_seq fun K10 hK10 => ?_
      refine w_seq fun K11 hK11 => ?_
      refine w_region ?_
      refine r_sd (sd_move rfl rfl) rfl rfl ?_
      refine r_sd (sd_move rfl rfl) rfl rfl ?_
      refine r_sd (sd_len rfl rfl ut50) rfl rfl ?_
      refine r_sd (sd_bin rfl rfl rfl b_lss) rfl rfl ?_
      refine r_nil ?_
      refine k_then (hK11 _ _ _ ?_)
      refine w_if rfl (fun h12 => ?_) (fun h12 => ?_)
      · -- yes
        replace h12 := of_decide_eq_true h12
        refine w_skip ?_
        refine k_then (hK10 _ _ _ ?_)
        refine w_seq fun K13 hK13 => ?_
        refine w_block ?_
        refine w_seq fun K14 hK14 => ?_
        refine w_region ?_
        refine r_sd (sd_move rfl rfl) rfl rfl ?_
        refine r_sd (sd_move rfl rfl) rfl rfl ?_
        obtain ⟨z, hz⟩ : ∃ y_, l[i]? = some y_ := ⟨l[i]'(by omega), List.getElem?_eq_getElem _⟩
        have hzm : (l.map SledV.cells)[i]? = some (SledV.cells z) := by rw [List.getElem?_map, hz]; rfl
        refine r_sd (sd_ia (k := i) rfl rfl rfl (has_at 2 rfl) te50 (by decide) (by omega) (by omega)) rfl rfl ?_
        refine r_sd (sd_ldn rfl rfl tk28 (at_rd (k := i) (o := 0) (vs := (SledV.cells z)) (has_at 2 rfl) hzm rfl (by decide) rfl) rfl) rfl rfl ?_
        have hzc := hcl z (List.mem_of_getElem? hz)
        refine r_sd (sd_call rfl rfl rfl rfl (sled_c z (by first | assumption | omega | (simp; done) | (simp; omega))) (ha_nil)) rfl rfl ?_
        refine r_sd (sd_not rfl rfl) rfl rfl ?_
        refine r_nil ?_
        refine k_then (hK14 _ _ _ ?_)
        refine w_if rfl (fun hb => ?_) (fun hb => ?_)
        · -- yes
          rw [Bool.not_eq_true'] at hb
          replace hb := of_decide_eq_false hb
          exact absurd (hall z (List.mem_of_getElem? hz)) hb
        · -- no
          rw [Bool.not_eq_false'] at hb
          replace hb := of_decide_eq_true hb
          refine w_skip ?_
          refine k_block ?_
          refine k_then (hK13 _ _ _ ?_)
          refine w_region ?_
          refine r_sd (sd_move rfl rfl) rfl rfl ?_
          refine r_sd (sd_bin rfl rfl rfl (b_add ⟨by omega, by omega⟩)) rfl rfl ?_
          refine r_sd (sd_assign rfl rfl) rfl rfl ?_
          refine r_nil ?_
          have hb15 : (Value.int .i64 (((i + 1) : Nat) : Int)) = (Value.int .i64 (((i : Nat) : Int) + 1)) := by exact congrArg (Value.int .i64) (by omega)
          refine k_then (hJ9 ⟨(i + 1), ⟨by omega, all_step hz hl6_1 (decide_eq_true hb)⟩⟩ _ _ _ rfl (by first | omega | (simp; omega)) (Sub.cons rfl <| Sub.cons rfl <| sub_val rfl hb15 <| Sub.nil _) (fun w hs => St.sel [0, 1, 2] rfl rfl hs))
      · -- no
        replace h12 := of_decide_eq_false h12
        refine w_exit ?_
        refine k_exit_then ?_
        refine k_exit_then ?_
        refine k_exit_same ?_
        refine k_then (hK7 _ _ _ ?_)
        refine w_seq fun K16 hK16 => ?_
        refine w_region ?_
        refine r_sd (sd_assign rfl rfl) rfl rfl ?_
        refine r_nil ?_
        refine k_then (hK16 _ _ _ ?_)
        refine w_seq fun K17 hK17 => ?_
        refine w_seq fun K18 hK18 => ?_
        refine w_region ?_
        refine r_sd (sd_assign rfl rfl) rfl rfl ?_
        refine r_nil ?_
        refine k_then (hK18 _ _ _ ?_)
        refine w_block ?_
        refine w_own_nil 3 1 ?_
        have hinit : (0 ≤ l.length) := by exact Nat.zero_le _
        refine w_loop (ι := { z : Nat × (Option Addr) × Nat // (z.1 ≤ l.length) }) (fun z => [(1, (Value.slice lA l.length lC)), (2, (Value.pointer (some ⟨b2, 0, none⟩))), (7, (Value.slice z.1.2.1 ((shutL ts l z.1.1).length) z.1.2.2)), (8, (Value.int .i64 ((z.1.1 : Nat) : Int)))]) (fun z => [(own z.1.2.1 z.1.2.2 3 1 ((shutL ts l z.1.1).map iC)), (blk b2 24 (TrackV.cells (TrackV.mk (Slc.mk tsA ts.length tsC)))), (rd tsA ts.length 9 (ts.map StretchV.cells)).ro, (rd lA l.length 11 (l.map SledV.cells)).ro]) (fun z => l.length - z.1.1) ⟨(0, none, 0), hinit⟩ (Sub.cons rfl <| Sub.cons rfl <| Sub.cons rfl <| Sub.cons rfl <| Sub.nil _) (fun w hs => St.sel [0, 1, 2, 3] rfl rfl hs) ?_
        clear hinit
        rintro ⟨⟨k, a, c⟩, hl12_0⟩ J19 hJ19
        try dsimp only at hl12_0
        change WJ _ _ _ _ [(1, (Value.slice lA l.length lC)), (2, (Value.pointer (some ⟨b2, 0, none⟩))), (7, (Value.slice a ((shutL ts l k).length) c)), (8, (Value.int .i64 ((k : Nat) : Int)))] [(own a c 3 1 ((shutL ts l k).map iC)), (blk b2 24 (TrackV.cells (TrackV.mk (Slc.mk tsA ts.length tsC)))), (rd tsA ts.length 9 (ts.map StretchV.cells)).ro, (rd lA l.length 11 (l.map SledV.cells)).ro]
        refine w_seq fun K20 hK20 => ?_
        refine w_seq fun K21 hK21 => ?_
        refine w_region ?_
        refine r_sd (sd_move rfl rfl) rfl rfl ?_
        refine r_sd (sd_move rfl rfl) rfl rfl ?_
        refine r_sd (sd_len rfl rfl ut50) rfl rfl ?_
        refine r_sd (sd_bin rfl rfl rfl b_lss) rfl rfl ?_
        refine r_nil ?_
        refine k_then (hK21 _ _ _ ?_)
        refine w_if rfl (fun h22 => ?_) (fun h22 => ?_)
        · -- yes
          replace h22 := of_decide_eq_true h22
          refine w_skip ?_
          refine k_then (hK20 _ _ _ ?_)
          refine w_seq fun K23 hK23 => ?_
          refine w_block ?_
          refine w_seq fun K24 hK24 => ?_
          refine w_draw mixed 7 (by kernel_rfl) ?_
          refine d_sd (sd_ldn rfl rfl tk24 (at_blk (vs := (TrackV.cells (TrackV.mk (Slc.mk tsA ts.length tsC)))) 1 rfl rfl) rfl) rfl rfl ?_
          have hsl := shutL_len (ts := ts) (l := l) (i := k)
          refine d_sd (sd_move rfl rfl) rfl rfl ?_
          refine d_sd (sd_move rfl rfl) rfl rfl ?_
          obtain ⟨z, hz⟩ : ∃ y_, l[k]? = some y_ := ⟨l[k]'(by omega), List.getElem?_eq_getElem _⟩
          have hzm : (l.map SledV.cells)[k]? = some (SledV.cells z) := by rw [List.getElem?_map, hz]; rfl
          refine d_sd (sd_ia (k := k) rfl rfl rfl (has_at 3 rfl) te50 (by decide) (by omega) (by omega)) rfl rfl ?_
          refine d_sd (sd_ldn rfl rfl tk28 (at_rd (k := k) (o := 0) (vs := (SledV.cells z)) (has_at 3 rfl) hzm rfl (by decide) rfl) rfl) rfl rfl ?_
          have hzo := hall z (List.mem_of_getElem? hz)
          refine d_sd (sd_call rfl rfl rfl rfl (rsafe_c ts tsA tsC z (by first | assumption | omega | (simp; done) | (simp; omega)) (by first | assumption | omega | (simp; done) | (simp; omega)) (by first | assumption | omega | (simp; done) | (simp; omega)) (by first | assumption | omega | (simp; done) | (simp; omega))) (ha_at 2 rfl rfl <| ha_nil)) rfl rfl ?_
          refine d_sd (sd_bin rfl rfl rfl b_neq) rfl rfl ?_
          refine d_end ?_
          refine r_nil ?_
          refine k_then (hK24 _ _ _ ?_)
          refine w_if rfl (fun hs2 => ?_) (fun hs2 => ?_)
          · -- yes
            rw [Bool.not_eq_true'] at hs2
            replace hs2 := of_decide_eq_false hs2
            refine w_region ?_
            refine r_sd (sd_move rfl rfl) rfl rfl ?_
            refine r_sd (sd_move rfl rfl) rfl rfl ?_
            refine r_bs (xs := [.tmp 41]) (cs := [(Value.int .i64 ((k : Nat) : Int))]) rfl te61 tz3 rfl rfl rfl rfl (by simp [Value.cells]) rfl rfl fun b25 => ?_
            refine r_append (es2 := (List.map iC (shutL ts l (k + 1)))) (m' := (shutL ts l (k + 1)).length) 1 rfl rfl rfl ta61 rfl rfl (by simp) (has_rd_blk (es := List.map iC [((k : Nat) : Int)]) 0 rfl rfl (by simp [iC_length]) rfl) (one_iC _) (by first | omega | (simp; omega)) (by first | (simp only [maxLen]; omega) | (simp [maxLen]; omega)) (by rw [shutL_yes hz hs2]; simp) (by simp) rfl fun a26 c27 => ?_
            change RJ _ _ _ _ _ _ [_, (own a26 c27 3 1 (List.map iC (shutL ts l (k + 1)))), _, _, _]
            refine r_sd (sd_assign rfl rfl) rfl rfl ?_
            refine r_nil ?_
            refine k_block ?_
            refine k_then (hK23 _ _ _ ?_)
            refine w_region ?_
            first | rw [← shutL_not hz hs2] | skip
            refine r_sd (sd_move rfl rfl) rfl rfl ?_
            refine r_sd (sd_bin rfl rfl rfl (b_add ⟨by omega, by omega⟩)) rfl rfl ?_
            refine r_sd (sd_assign rfl rfl) rfl rfl ?_
            refine r_nil ?_
            have hb28 : (Value.int .i64 (((k + 1) : Nat) : Int)) = (Value.int .i64 (((k : Nat) : Int) + 1)) := by exact congrArg (Value.int .i64) (by omega)
            refine k_then (hJ19 ⟨((k + 1), a26, c27), (by first | omega | (simp only []; omega))⟩ _ _ _ rfl (by first | omega | (simp; omega)) (Sub.cons rfl <| Sub.cons rfl <| Sub.cons rfl <| sub_val rfl hb28 <| Sub.nil _) (fun w hs => St.sel [1, 2, 3, 4] rfl rfl hs))
          · -- no
            rw [Bool.not_eq_false'] at hs2
            replace hs2 := of_decide_eq_true hs2
            refine w_skip ?_
            refine k_block ?_
            refine k_then (hK23 _ _ _ ?_)
            refine w_region ?_
            first | rw [← shutL_not hz hs2] | skip
            refine r_sd (sd_move rfl rfl) rfl rfl ?_
            refine r_sd (sd_bin rfl rfl rfl (b_add ⟨by omega, by omega⟩)) rfl rfl ?_
            refine r_sd (sd_assign rfl rfl) rfl rfl ?_
            refine r_nil ?_
            have hb29 : (Value.int .i64 (((k + 1) : Nat) : Int)) = (Value.int .i64 (((k : Nat) : Int) + 1)) := by exact congrArg (Value.int .i64) (by omega)
            refine k_then (hJ19 ⟨((k + 1), a, c), (by first | omega | (simp only []; omega))⟩ _ _ _ rfl (by first | omega | (simp; omega)) (Sub.cons rfl <| Sub.cons rfl <| Sub.cons rfl <| sub_val rfl hb29 <| Sub.nil _) (fun w hs => St.sel [0, 1, 2, 3] rfl rfl hs))
        · -- no
          replace h22 := of_decide_eq_false h22
          refine w_exit ?_
          refine k_exit_then ?_
          refine k_exit_then ?_
          refine k_exit_same ?_
          refine k_then (hK17 _ _ _ ?_)
          refine w_seq fun K30 hK30 => ?_
          refine w_region ?_
          obtain rfl : k = l.length := by omega
          refine r_sd (sd_move rfl rfl) rfl rfl ?_
          refine r_sd (sd_assign rfl rfl) rfl rfl ?_
          refine r_sd (sd_assign rfl rfl) rfl rfl ?_
          refine r_nil ?_
          refine k_then (hK30 _ _ _ ?_)
          refine w_ret ?_
          refine hQ _ _ _ (l_nil (vs := [(Value.slice a ((shutL ts l l.length).length) c), (Value.int .i64 0)]) ⟨rfl, rfl, trivial⟩ fun w hs => endX (a, c) [0] ?_ ?_ rfl rfl rfl hs)
          · rw [hE]; rfl
          · trivial

theorem rShut_c (ts : List StretchV) (tsA : Option Addr) (tsC : Nat) (l : List SledV) (lA : Option Addr) (lC : Nat) (hlen : ts.length ≤ 1000000) (hside : ∀ x ∈ ts, 0 ≤ x.Side ∧ x.Side ≤ 255) (hcl : ∀ s ∈ l, 0 ≤ s.Class ∧ s.Class ≤ 255) :
    FnX Try.prog 39 [(Value.agg (TrackV.cells (TrackV.mk (Slc.mk tsA ts.length tsC))).toArray), (Value.slice lA l.length lC)] [(rd tsA ts.length 9 (ts.map StretchV.cells)), (rd lA l.length 11 (l.map SledV.cells))] (fun (x : (Option Addr) × Nat) => (Value.tuple [(Value.slice x.1 ((shutU ts l).length) x.2), (Value.int .i64 (shutE ts l))].toArray)) (fun (x : (Option Addr) × Nat) => True) (fun (x : (Option Addr) × Nat) => [(own x.1 x.2 3 1 ((shutU ts l).map iC))]) := by
  by_cases hE : shutE ts l = 0
  · rw [shutU_ok hE]
    exact rShut_ok ts tsA tsC l lA lC hlen hside hcl hE
  · rw [shutU_no hE]
    exact FnV.toX (none, 0) (rShut_no ts tsA tsC l lA lC hlen hside hcl hE) trivial own_none

end Go.Proofs.Ytpbgdeojcefnmaa
