/-
  Walks: kreisel/kreisellaw03.SlideWithin
-/
import Derived.Test.YtpbgdeojcefnmaaTab
import Derived.Test.YtpbgdeojcefnmaaSort
import Derived.Test.YtpbgdeojcefnmaaThr
import Derived.Test.YtpbgdeojcefnmaaMono
import Derived.Test.YtpbgdeojcefnmaaSafe
import Derived.Test.YtpbgdeojcefnmaaAlive
import Derived.Test.YtpbgdeojcefnmaaWithin
import Derived.Test.YtpbgdeojcefnmaaW10
import Derived.Test.YtpbgdeojcefnmaaW11
import Derived.Test.YtpbgdeojcefnmaaW13
import Derived.Test.YtpbgdeojcefnmaaW22
import Derived.Test.YtpbgdeojcefnmaaW24
namespace Go.Proofs.Ytpbgdeojcefnmaa
open Go.RowKit
set_option linter.unusedVariables false

set_option maxRecDepth 100000 in
set_option maxHeartbeats 400000 in
theorem slideWithin_c (ts : List StretchV) (tsA : Option Addr) (tsC : Nat) (s : SledV) (bl : List Int) (blA : Option Addr) (blC : Nat) (hside : ∀ x ∈ ts, 0 ≤ x.Side ∧ x.Side ≤ 255) (hc : 0 ≤ s.Class ∧ s.Class ≤ 255) (hbl : ∀ z ∈ bl, 0 ≤ z ∧ z ≤ 4294967295) :
    FnV Try.prog 5 [(Value.agg (TrackV.cells (TrackV.mk (Slc.mk tsA ts.length tsC))).toArray), (Value.agg (SledV.cells s).toArray), (Value.slice blA bl.length blC)] [(rd tsA ts.length 9 (ts.map StretchV.cells)), (rd blA bl.length 1 (bl.map iC_u32))] (Value.bool true) := by
  refine fnV_of go5 Try.func5 rfl rfl fun w0 Q hQ hN => ?_
  change WJ _ _ _ _ [(0, (Value.agg (TrackV.cells (TrackV.mk (Slc.mk tsA ts.length tsC))).toArray)), (1, (Value.agg (SledV.cells s).toArray)), (2, (Value.slice blA bl.length blC))] [(rd tsA ts.length 9 (ts.map StretchV.cells)).ro, (rd blA bl.length 1 (bl.map iC_u32)).ro]
  refine w_seq fun K1 hK1 => ?_
  refine w_region ?_
  refine r_box (cs := (TrackV.cells (TrackV.mk (Slc.mk tsA ts.length tsC)))) rfl rfl rfl rfl fun b2 => ?_
  refine r_box (cs := (SledV.cells s)) rfl rfl rfl rfl fun b3 => ?_
  refine r_sd (sd_assign rfl rfl) rfl rfl ?_
  refine r_nil ?_
  refine k_then (hK1 _ _ _ ?_)
  refine w_seq fun K4 hK4 => ?_
  refine w_region ?_
  refine r_sd (sd_call rfl rfl rfl rfl alive_c (ha_nil)) rfl rfl ?_
  refine r_sd (sd_assign rfl rfl) rfl rfl ?_
  refine r_nil ?_
  refine k_then (hK4 _ _ _ ?_)
  refine w_seq fun K5 hK5 => ?_
  refine w_seq fun K6 hK6 => ?_
  refine w_region ?_
  refine r_sd (sd_ldn rfl rfl tk24 (at_blk (vs := (TrackV.cells (TrackV.mk (Slc.mk tsA ts.length tsC)))) 1 rfl rfl) rfl) rfl rfl ?_
  refine r_sd (sd_ldn rfl rfl tk28 (at_blk (vs := (SledV.cells s)) 0 rfl rfl) rfl) rfl rfl ?_
  refine r_sd (sd_call rfl rfl rfl rfl (ready_c ts tsA tsC s (by first | assumption | omega | (simp; done) | (simp; omega))) (ha_at 2 rfl rfl <| ha_nil)) rfl rfl ?_
  refine r_sd (sd_not rfl rfl) rfl rfl ?_
  refine r_sd (sd_move rfl rfl) rfl rfl ?_
  refine r_bool (t := 25) rfl (fun hrd => ?_) (fun hrd => ?_)
  · -- yes
    rw [Bool.not_eq_true'] at hrd
    replace hrd := of_decide_eq_false hrd
    refine r_sd (sd_off rfl) rfl rfl ?_
    refine r_sd (sd_off rfl) rfl rfl ?_
    refine r_sd (sd_pick_t rfl rfl rfl) rfl rfl ?_
    refine r_nil ?_
    refine k_then (hK6 _ _ _ ?_)
    refine w_if_true rfl ?_
    refine w_seq fun K7 hK7 => ?_
    refine w_region ?_
    refine r_sd (sd_move rfl rfl) rfl rfl ?_
    refine r_sd (sd_assign rfl rfl) rfl rfl ?_
    refine r_nil ?_
    refine k_then (hK7 _ _ _ ?_)
    refine w_ret ?_
    refine hQ _ _ _ (l_nil (vs := [(Value.bool true)]) ⟨rfl, trivial⟩ fun w hs => endV ?_ hs)
    show (Value.bool true) = (Value.bool true)
    clear hs w hQ hN hK7 K7 hK6 K6 hK5 K5 hK4 K4 hK1 K1
    first | rfl | simp
  · -- no
    rw [Bool.not_eq_false'] at hrd
    replace hrd := of_decide_eq_true hrd
    refine r_sd (sd_move rfl rfl) rfl rfl ?_
    refine r_sd (sd_not rfl rfl) rfl rfl ?_
    refine r_sd (sd_pick_f rfl rfl rfl) rfl rfl ?_
    refine r_nil ?_
    refine k_then (hK6 _ _ _ ?_)
    refine w_if_false rfl ?_
    refine w_skip ?_
    refine k_then (hK5 _ _ _ ?_)
    refine w_seq fun K8 hK8 => ?_
    refine w_region ?_
    obtain ⟨hgr, htr, hs⟩ := hrd
    have hb0 := bothE_ok htr hs
    have hst := trackOk_all htr
    have hl12 := trackOk_le htr
    refine r_sd (sd_ldn rfl rfl tk24 (at_blk (vs := (TrackV.cells (TrackV.mk (Slc.mk tsA ts.length tsC)))) 1 rfl rfl) rfl) rfl rfl ?_
    refine r_sd (sd_ldn rfl rfl tk28 (at_blk (vs := (SledV.cells s)) 0 rfl rfl) rfl) rfl rfl ?_
    refine r_call rfl rfl rfl rfl (heads_c ts tsA tsC s (by first | assumption | omega | (simp; done) | (simp; omega)) (by first | assumption | omega | (simp; done) | (simp; omega))) (ha_at 2 rfl rfl <| ha_nil) rfl (fun y9 hy10 => ?_)
    obtain ⟨a11, c12⟩ := y9
    change RJ _ _ _ _ _ ((_, (Value.tuple [(Value.slice a11 ((spansU s ts).length) c12), (Value.int .i64 (bothE s ts))].toArray)) :: _) ((own a11 c12 26 2 ((spansU s ts).map SpanV.cells)) :: _)
    refine r_sd (sd_move rfl rfl) rfl rfl ?_
    refine r_sd (sd_extract rfl rfl rfl) rfl rfl ?_
    refine r_sd (sd_extract rfl rfl rfl) rfl rfl ?_
    refine r_sd (sd_assign rfl rfl) rfl rfl ?_
    refine r_sd (sd_assign rfl rfl) rfl rfl ?_
    refine r_nil ?_
    refine k_then (hK8 _ _ _ ?_)
    refine w_seq fun K13 hK13 => ?_
    refine w_region ?_
    refine r_sd (sd_ldn rfl rfl tk24 (at_blk (vs := (TrackV.cells (TrackV.mk (Slc.mk tsA ts.length tsC)))) 2 rfl rfl) rfl) rfl rfl ?_
    refine r_sd (sd_ldn rfl rfl tk28 (at_blk (vs := (SledV.cells s)) 1 rfl rfl) rfl) rfl rfl ?_
    refine r_sd (sd_move rfl rfl) rfl rfl ?_
    refine r_call rfl rfl rfl rfl (truth_c ts tsA tsC s bl blA blC (by first | assumption | omega | (simp; done) | (simp; omega)) (by first | assumption | omega | (simp; done) | (simp; omega)) (by first | assumption | omega | (simp; done) | (simp; omega)) (by first | assumption | omega | (simp; done) | (simp; omega)) (by first | assumption | omega | (simp; done) | (simp; omega))) (ha_at 3 rfl rfl <| ha_at 4 rfl rfl <| ha_nil) rfl (fun y14 hy15 => ?_)
    obtain ⟨a16, c17, a218, c219⟩ := y14
    change RJ _ _ _ _ _ ((_, (Value.tuple [(Value.slice a16 ((tHeads bl s ts ts.length).length) c17), (Value.slice a218 ((tHgts bl s ts ts.length).length) c219)].toArray)) :: _) ((own a16 c17 3 1 ((tHeads bl s ts ts.length).map iC)) :: (own a218 c219 3 1 ((tHgts bl s ts ts.length).map iC)) :: _)
    refine r_sd (sd_move rfl rfl) rfl rfl ?_
    refine r_sd (sd_extract rfl rfl rfl) rfl rfl ?_
    refine r_sd (sd_extract rfl rfl rfl) rfl rfl ?_
    refine r_sd (sd_assign rfl rfl) rfl rfl ?_
    refine r_sd (sd_assign rfl rfl) rfl rfl ?_
    refine r_nil ?_
    refine k_then (hK13 _ _ _ ?_)
    refine w_seq fun K20 hK20 => ?_
    refine w_seq fun K21 hK21 => ?_
    refine w_region ?_
    have hsl := spansL_length (s := s) (ts := ts)
    have htl := tHeads_len (bl := bl) (s := s) (ts := ts) (n := ts.length)
    have hgl := tHgts_len (bl := bl) (s := s) (ts := ts) (n := ts.length)
    rw [spansU_ok htr hs]
    rw [hb0]
    refine r_sd (sd_move rfl rfl) rfl rfl ?_
    refine r_sd (sd_bin (r := .bool false) rfl rfl rfl b_neq) rfl rfl ?_
    refine r_sd (sd_move rfl rfl) rfl rfl ?_
    refine r_sd (sd_move rfl rfl) rfl rfl ?_
    refine r_sd (sd_len rfl rfl ut31) rfl rfl ?_
    refine r_sd (sd_move rfl rfl) rfl rfl ?_
    refine r_sd (sd_len rfl rfl ut61) rfl rfl ?_
    refine r_sd (sd_bin rfl rfl rfl b_neq) rfl rfl ?_
    refine r_sd (sd_pick_f rfl rfl rfl) rfl rfl ?_
    refine r_nil ?_
    refine k_then (hK21 _ _ _ ?_)
    refine w_if rfl (fun h22 => ?_) (fun h22 => ?_)
    · -- yes
      rw [Bool.not_eq_true'] at h22
      replace h22 := of_decide_eq_false h22
      exfalso; omega
    · -- no
      rw [Bool.not_eq_false'] at h22
      replace h22 := of_decide_eq_true h22
      refine w_skip ?_
      refine k_then (hK20 _ _ _ ?_)
      refine w_seq fun K23 hK23 => ?_
      refine w_seq fun K24 hK24 => ?_
      refine w_region ?_
      refine r_sd (sd_move rfl rfl) rfl rfl ?_
      refine r_sd (sd_len rfl rfl ut61) rfl rfl ?_
      refine r_sd (sd_move rfl rfl) rfl rfl ?_
      refine r_nil ?_
      refine k_then (hK24 _ _ _ ?_)
      refine w_block ?_
      have hinit : (0 ≤ ts.length + 1) := by exact Nat.zero_le _
      refine w_loop (ι := { z : Nat // (z ≤ ts.length + 1) }) (fun z => [(3, (Value.pointer (some ⟨b2, 0, none⟩))), (4, (Value.pointer (some ⟨b3, 0, none⟩))), (7, (Value.bool true)), (8, (Value.slice a11 ((spansL s ts).length) c12)), (11, (Value.slice a218 ((tHgts bl s ts ts.length).length) c219)), (52, (Value.slice a16 ((tHeads bl s ts ts.length).length) c17)), (53, (Value.int .i64 (((tHeads bl s ts ts.length).length : Nat) : Int))), (54, (Value.int .i64 ((z.1 : Nat) : Int)))]) (fun z => [(own a16 c17 3 1 ((tHeads bl s ts ts.length).map iC)), (own a218 c219 3 1 ((tHgts bl s ts ts.length).map iC)), (own a11 c12 26 2 ((spansL s ts).map SpanV.cells)), (blk b3 28 (SledV.cells s)), (blk b2 24 (TrackV.cells (TrackV.mk (Slc.mk tsA ts.length tsC)))), (rd tsA ts.length 9 (ts.map StretchV.cells)).ro, (rd blA bl.length 1 (bl.map iC_u32)).ro]) (fun z => ts.length + 1 - z.1) ⟨0, hinit⟩ (Sub.cons rfl <| Sub.cons rfl <| Sub.cons rfl <| Sub.cons rfl <| Sub.cons rfl <| Sub.cons rfl <| Sub.cons rfl <| Sub.cons rfl <| Sub.nil _) (fun w hs => St.sel [0, 1, 2, 3, 4, 5, 6] rfl rfl hs) ?_
      clear hinit
      rintro ⟨i, hl9_0⟩ J25 hJ25
      change WJ _ _ _ _ [(3, (Value.pointer (some ⟨b2, 0, none⟩))), (4, (Value.pointer (some ⟨b3, 0, none⟩))), (7, (Value.bool true)), (8, (Value.slice a11 ((spansL s ts).length) c12)), (11, (Value.slice a218 ((tHgts bl s ts ts.length).length) c219)), (52, (Value.slice a16 ((tHeads bl s ts ts.length).length) c17)), (53, (Value.int .i64 (((tHeads bl s ts ts.length).length : Nat) : Int))), (54, (Value.int .i64 ((i : Nat) : Int)))] [(own a16 c17 3 1 ((tHeads bl s ts ts.length).map iC)), (own a218 c219 3 1 ((tHgts bl s ts ts.length).map iC)), (own a11 c12 26 2 ((spansL s ts).map SpanV.cells)), (blk b3 28 (SledV.cells s)), (blk b2 24 (TrackV.cells (TrackV.mk (Slc.mk tsA ts.length tsC)))), (rd tsA ts.length 9 (ts.map StretchV.cells)).ro, (rd blA bl.length 1 (bl.map iC_u32)).ro]
      refine w_seq fun K26 hK26 => ?_
      refine w_region ?_
      refine r_sd (sd_bin rfl rfl rfl b_lss) rfl rfl ?_
      refine r_nil ?_
      refine k_then (hK26 _ _ _ ?_)
      refine w_seq fun K27 hK27 => ?_
      refine w_if rfl (fun h28 => ?_) (fun h28 => ?_)
      · -- yes
        replace h28 := of_decide_eq_true h28
        refine w_skip ?_
        refine k_then (hK27 _ _ _ ?_)
        refine w_seq fun K29 hK29 => ?_
        refine w_block ?_
        refine w_seq fun K30 hK30 => ?_
        refine w_region ?_
        refine r_sd (sd_move rfl rfl) rfl rfl ?_
        obtain ⟨h, hh⟩ : ∃ y_, (tHeads bl s ts ts.length)[i]? = some y_ := ⟨(tHeads bl s ts ts.length)[i]'(by omega), List.getElem?_eq_getElem _⟩
        have hhm : ((tHeads bl s ts ts.length).map iC)[i]? = some (iC h) := by rw [List.getElem?_map, hh]; rfl
        refine r_sd (sd_ia (k := i) rfl rfl rfl (has_own_n (n := (tHeads bl s ts ts.length).length) 0 rfl (by simp)) te61 (by decide) (by omega) (by omega)) rfl rfl ?_
        refine r_sd (sd_ld1 rfl rfl tk3 (at_rd (k := i) (o := 0) (vs := [(Value.int .i64 h)]) (has_own_n (n := (tHeads bl s ts ts.length).length) 0 rfl (by simp)) hhm rfl (by decide) rfl)) rfl rfl ?_
        refine r_sd (sd_assign rfl rfl) rfl rfl ?_
        refine r_sd (sd_assign rfl rfl) rfl rfl ?_
        refine r_nil ?_
        refine k_then (hK30 _ _ _ ?_)
        refine w_seq fun K31 hK31 => ?_
        refine w_region ?_
        refine r_sd (sd_ldn rfl rfl tk24 (at_blk (vs := (TrackV.cells (TrackV.mk (Slc.mk tsA ts.length tsC)))) 4 rfl rfl) rfl) rfl rfl ?_
        refine r_sd (sd_ldn rfl rfl tk28 (at_blk (vs := (SledV.cells s)) 3 rfl rfl) rfl) rfl rfl ?_
        refine r_sd (sd_move rfl rfl) rfl rfl ?_
        refine r_sd (sd_call rfl rfl rfl rfl (speed_c ts tsA tsC s ((i : Nat) : Int) (by first | assumption | omega | (simp; done) | (simp; omega)) (by first | assumption | omega | (simp; done) | (simp; omega))) (ha_at 5 rfl rfl <| ha_nil)) rfl rfl ?_
        refine r_sd (sd_move rfl rfl) rfl rfl ?_
        refine r_sd (sd_extract rfl rfl rfl) rfl rfl ?_
        refine r_sd (sd_extract rfl rfl rfl) rfl rfl ?_
        refine r_alloc rfl tz26 rfl fun b32 => ?_
        refine r_store (vs := (SpanV.cells (speedV s ts ((i : Nat) : Int)))) (cs' := (SpanV.cells (speedV s ts ((i : Nat) : Int)))) (C' := [(blk b32 26 (SpanV.cells (speedV s ts ((i : Nat) : Int)))), _, _, _, _, _, _, _]) 0 rfl rfl rfl ts26 rfl rfl rfl rfl rfl rfl rfl ?_
        have hhv : h = tHead bl s ts i := by rw [tHeads_get (by omega)] at hh; exact (Option.some.inj hh).symm
        have hw := within (bl := bl) hs hst i
        have hsn := speed_nat (i := i) hb0 (by omega)
        have hsw := speed_within (i := i) (h := h) hs hst (by omega) (by rw [hhv]; exact hw.1) (by rw [hhv]; exact hw.2)
        have n0 := headAt_b (best := false) hs hst i
        have n1 := headAt_b (best := true) hs hst i
        have b0 := slowF_le n0.1 (by omega)
        have b1 := fastF_le n1.1 (by omega)
        have m1 := mulb (a := 10 * (slowF (headAt false s ts i))) (b := (slowF (headAt false s ts i))) (A := 90000) (B := 9000) (by omega) (by omega) (by omega) (by omega)
        have m2 := mulb (a := 10 * (fastF (headAt true s ts i))) (b := (fastF (headAt true s ts i))) (A := 90010) (B := 9001) (by omega) (by omega) (by omega) (by omega)
        refine r_sd (sd_assign rfl rfl) rfl rfl ?_
        refine r_nil ?_
        refine k_then (hK31 _ _ _ ?_)
        refine w_seq fun K33 hK33 => ?_
        have hb34 : (SpanV.cells (speedV s ts ((i : Nat) : Int))) = (SpanV.cells (SpanV.mk (slowF (headAt false s ts i)) (fastF (headAt true s ts i)))) := by rw [hsn.1]
        rw [hb34]
        refine w_region ?_
        rw [hsn.2]
        refine r_sd (sd_move rfl rfl) rfl rfl ?_
        refine r_sd (sd_bin (r := .bool false) rfl rfl rfl b_neq) rfl rfl ?_
        refine r_sd (sd_move rfl rfl) rfl rfl ?_
        refine r_sd (sd_move rfl rfl) rfl rfl ?_
        refine r_sd (sd_move rfl rfl) rfl rfl ?_
        refine r_sd (sd_move rfl rfl) rfl rfl ?_
        obtain ⟨y, hy⟩ : ∃ y_, (spansL s ts)[i]? = some y_ := ⟨(spansL s ts)[i]'(by omega), List.getElem?_eq_getElem _⟩
        have hym : ((spansL s ts).map SpanV.cells)[i]? = some (SpanV.cells y) := by rw [List.getElem?_map, hy]; rfl
        refine r_sd (sd_ia (k := i) rfl rfl rfl (has_own_n (n := (spansL s ts).length) 3 rfl (by simp)) te31 (by decide) (by omega) (by omega)) rfl rfl ?_
        have yv : y = spanAt s ts i := by rw [spansL_get (by omega)] at hy; exact (Option.some.inj hy).symm
        have yl : y.Lo = headAt false s ts i := by rw [yv]; rfl
        have yh : y.Hi = headAt true s ts i := by rw [yv]; rfl
        refine r_sd (sd_ldn rfl rfl tk26 (at_rd (k := i) (o := 0) (vs := (SpanV.cells y)) (has_own_n (n := (spansL s ts).length) 3 rfl (by simp)) hym rfl (by decide) rfl) rfl) rfl rfl ?_
        refine r_sd (sd_call rfl rfl rfl rfl (linside_c h y) (ha_nil)) rfl rfl ?_
        refine r_sd (sd_not rfl rfl) rfl rfl ?_
        refine r_sd (sd_pick_f rfl rfl rfl) rfl rfl ?_
        refine r_sd (sd_move rfl rfl) rfl rfl ?_
        refine r_bool (t := 77) rfl (fun h35 => ?_) (fun h35 => ?_)
        · -- yes
          rw [Bool.not_eq_true'] at h35
          replace h35 := of_decide_eq_false h35
          exfalso; omega
        · -- no
          rw [Bool.not_eq_false'] at h35
          replace h35 := of_decide_eq_true h35
          refine r_sd (sd_fa (o' := 0) rfl rfl fo26_0 rfl) rfl rfl ?_
          refine r_sd (sd_ld1 rfl rfl tk3 (at_blk (vs := [(Value.int .i64 (slowF (headAt false s ts i)))]) 0 rfl rfl)) rfl rfl ?_
          refine r_sd (sd_bin rfl rfl rfl b_lss) rfl rfl ?_
          refine r_sd (sd_pick_f rfl rfl rfl) rfl rfl ?_
          refine r_sd (sd_move rfl rfl) rfl rfl ?_
          refine r_bool (t := 82) rfl (fun h36 => ?_) (fun h36 => ?_)
          · -- yes
            replace h36 := of_decide_eq_true h36
            exfalso; omega
          · -- no
            replace h36 := of_decide_eq_false h36
            refine r_sd (sd_fa (o' := 0) rfl rfl fo26_0 rfl) rfl rfl ?_
            refine r_sd (sd_ld1 rfl rfl tk3 (at_blk (vs := [(Value.int .i64 (slowF (headAt false s ts i)))]) 0 rfl rfl)) rfl rfl ?_
            refine r_sd (sd_bin rfl rfl rfl (b_mul ⟨by omega, by omega⟩)) rfl rfl ?_
            refine r_sd (sd_fa (o' := 0) rfl rfl fo26_0 rfl) rfl rfl ?_
            refine r_sd (sd_ld1 rfl rfl tk3 (at_blk (vs := [(Value.int .i64 (slowF (headAt false s ts i)))]) 0 rfl rfl)) rfl rfl ?_
            refine r_sd (sd_bin rfl rfl rfl (b_mul ⟨by omega, by omega⟩)) rfl rfl ?_
            refine r_sd (sd_move rfl rfl) rfl rfl ?_
            refine r_sd (sd_bin rfl rfl rfl (b_mul ⟨by omega, by omega⟩)) rfl rfl ?_
            refine r_sd (sd_bin rfl rfl rfl b_gtr) rfl rfl ?_
            refine r_sd (sd_pick_f rfl rfl rfl) rfl rfl ?_
            refine r_sd (sd_move rfl rfl) rfl rfl ?_
            refine r_bool (t := 93) rfl (fun h37 => ?_) (fun h37 => ?_)
            · -- yes
              replace h37 := of_decide_eq_true h37
              exfalso; omega
            · -- no
              replace h37 := of_decide_eq_false h37
              refine r_sd (sd_fa (o' := 1) rfl rfl fo26_1 rfl) rfl rfl ?_
              refine r_sd (sd_ld1 rfl rfl tk3 (at_blk (vs := [(Value.int .i64 (fastF (headAt true s ts i)))]) 0 rfl rfl)) rfl rfl ?_
              refine r_sd (sd_bin rfl rfl rfl (b_mul ⟨by omega, by omega⟩)) rfl rfl ?_
              refine r_sd (sd_fa (o' := 1) rfl rfl fo26_1 rfl) rfl rfl ?_
              refine r_sd (sd_ld1 rfl rfl tk3 (at_blk (vs := [(Value.int .i64 (fastF (headAt true s ts i)))]) 0 rfl rfl)) rfl rfl ?_
              refine r_sd (sd_bin rfl rfl rfl (b_mul ⟨by omega, by omega⟩)) rfl rfl ?_
              refine r_sd (sd_move rfl rfl) rfl rfl ?_
              refine r_sd (sd_bin rfl rfl rfl (b_mul ⟨by omega, by omega⟩)) rfl rfl ?_
              refine r_sd (sd_bin rfl rfl rfl b_lss) rfl rfl ?_
              refine r_sd (sd_pick_f rfl rfl rfl) rfl rfl ?_
              refine r_nil ?_
              refine k_then (hK33 _ _ _ ?_)
              refine w_if rfl (fun h38 => ?_) (fun h38 => ?_)
              · -- yes
                replace h38 := of_decide_eq_true h38
                exfalso; omega
              · -- no
                replace h38 := of_decide_eq_false h38
                refine w_skip ?_
                refine k_block ?_
                refine k_then (hK29 _ _ _ ?_)
                refine w_region ?_
                refine r_sd (sd_bin rfl rfl rfl (b_add ⟨by omega, by omega⟩)) rfl rfl ?_
                refine r_sd (sd_move rfl rfl) rfl rfl ?_
                refine r_nil ?_
                have hb39 : (Value.int .i64 (((i + 1) : Nat) : Int)) = (Value.int .i64 (((i : Nat) : Int) + 1)) := by exact congrArg (Value.int .i64) (by omega)
                refine k_then (hJ25 ⟨(i + 1), (by first | omega | (simp only []; omega))⟩ _ _ _ rfl (by first | omega | (simp; omega)) (Sub.cons rfl <| Sub.cons rfl <| Sub.cons rfl <| Sub.cons rfl <| Sub.cons rfl <| Sub.cons rfl <| Sub.cons rfl <| sub_val rfl hb39 <| Sub.nil _) (fun w hs => St.sel [1, 2, 3, 4, 5, 6, 7] rfl rfl hs))
      · -- no
        replace h28 := of_decide_eq_false h28
        refine w_exit ?_
        refine k_exit_then ?_
        refine k_exit_then ?_
        refine k_exit_same ?_
        refine k_then (hK23 _ _ _ ?_)
        refine w_seq fun K40 hK40 => ?_
        refine w_seq fun K41 hK41 => ?_
        refine w_region ?_
        refine r_sd (sd_fa (o' := 0) rfl rfl fo24_0 rfl) rfl rfl ?_
        refine r_sd (sd_ld1 rfl rfl tk22 (at_blk (vs := [(Value.slice tsA ts.length tsC)]) 4 rfl rfl)) rfl rfl ?_
        refine r_sd (sd_len rfl rfl ut22) rfl rfl ?_
        refine r_sd (sd_move rfl rfl) rfl rfl ?_
        refine r_nil ?_
        refine k_then (hK41 _ _ _ ?_)
        refine w_block ?_
        have hinit : (0 ≤ ts.length) := by exact Nat.zero_le _
        refine w_loop (ι := { z : Nat // (z ≤ ts.length) }) (fun z => [(3, (Value.pointer (some ⟨b2, 0, none⟩))), (4, (Value.pointer (some ⟨b3, 0, none⟩))), (7, (Value.bool true)), (11, (Value.slice a218 ((tHgts bl s ts ts.length).length) c219)), (106, (Value.slice tsA ts.length tsC)), (107, (Value.int .i64 ((ts.length : Nat) : Int))), (108, (Value.int .i64 ((z.1 : Nat) : Int)))]) (fun z => [(own a16 c17 3 1 ((tHeads bl s ts ts.length).map iC)), (own a218 c219 3 1 ((tHgts bl s ts ts.length).map iC)), (own a11 c12 26 2 ((spansL s ts).map SpanV.cells)), (blk b3 28 (SledV.cells s)), (blk b2 24 (TrackV.cells (TrackV.mk (Slc.mk tsA ts.length tsC)))), (rd tsA ts.length 9 (ts.map StretchV.cells)).ro, (rd blA bl.length 1 (bl.map iC_u32)).ro]) (fun z => ts.length - z.1) ⟨0, hinit⟩ (Sub.cons rfl <| Sub.cons rfl <| Sub.cons rfl <| Sub.cons rfl <| Sub.cons rfl <| Sub.cons rfl <| Sub.cons rfl <| Sub.nil _) (fun w hs => St.sel [0, 1, 2, 3, 4, 5, 6] rfl rfl hs) ?_
        clear hinit
        rintro ⟨i, hl16_0⟩ J42 hJ42
        change WJ _ _ _ _ [(3, (Value.pointer (some ⟨b2, 0, none⟩))), (4, (Value.pointer (some ⟨b3, 0, none⟩))), (7, (Value.bool true)), (11, (Value.slice a218 ((tHgts bl s ts ts.length).length) c219)), (106, (Value.slice tsA ts.length tsC)), (107, (Value.int .i64 ((ts.length : Nat) : Int))), (108, (Value.int .i64 ((i : Nat) : Int)))] [(own a16 c17 3 1 ((tHeads bl s ts ts.length).map iC)), (own a218 c219 3 1 ((tHgts bl s ts ts.length).map iC)), (own a11 c12 26 2 ((spansL s ts).map SpanV.cells)), (blk b3 28 (SledV.cells s)), (blk b2 24 (TrackV.cells (TrackV.mk (Slc.mk tsA ts.length tsC)))), (rd tsA ts.length 9 (ts.map StretchV.cells)).ro, (rd blA bl.length 1 (bl.map iC_u32)).ro]
        refine w_seq fun K43 hK43 => ?_
        refine w_region ?_
        refine r_sd (sd_bin rfl rfl rfl b_lss) rfl rfl ?_
        refine r_nil ?_
        refine k_then (hK43 _ _ _ ?_)
        refine w_seq fun K44 hK44 => ?_
        refine w_if rfl (fun h45 => ?_) (fun h45 => ?_)
        · -- yes
          replace h45 := of_decide_eq_true h45
          refine w_skip ?_
          refine k_then (hK44 _ _ _ ?_)
          refine w_seq fun K46 hK46 => ?_
          refine w_block ?_
          refine w_seq fun K47 hK47 => ?_
          refine w_region ?_
          refine r_sd (sd_move rfl rfl) rfl rfl ?_
          obtain ⟨x, hx⟩ : ∃ y_, ts[i]? = some y_ := ⟨ts[i]'(by omega), List.getElem?_eq_getElem _⟩
          have hxm : (ts.map StretchV.cells)[i]? = some (StretchV.cells x) := by rw [List.getElem?_map, hx]; rfl
          refine r_sd (sd_ia (k := i) rfl rfl rfl (has_at 5 rfl) te22 (by decide) (by omega) (by omega)) rfl rfl ?_
          refine r_sd (sd_ldn rfl rfl tk77 (at_rd (k := i) (o := 0) (vs := (StretchV.cells x)) (has_at 5 rfl) hxm rfl (by decide) rfl) rfl) rfl rfl ?_
          refine r_alloc rfl tz77 rfl fun b48 => ?_
          refine r_sd (sd_assign rfl rfl) rfl rfl ?_
          refine r_store (vs := (StretchV.cells x)) (cs' := (StretchV.cells x)) (C' := [(blk b48 77 (StretchV.cells x)), _, _, _, _, _, _, _]) 0 rfl rfl rfl ts77 rfl rfl rfl rfl rfl rfl rfl ?_
          refine r_nil ?_
          refine k_then (hK47 _ _ _ ?_)
          refine w_seq fun K49 hK49 => ?_
          refine w_region ?_
          refine r_sd (sd_ldn rfl rfl tk24 (at_blk (vs := (TrackV.cells (TrackV.mk (Slc.mk tsA ts.length tsC)))) 5 rfl rfl) rfl) rfl rfl ?_
          refine r_sd (sd_ldn rfl rfl tk28 (at_blk (vs := (SledV.cells s)) 4 rfl rfl) rfl) rfl rfl ?_
          refine r_sd (sd_move rfl rfl) rfl rfl ?_
          refine r_sd (sd_call rfl rfl rfl rfl (height_c ts tsA tsC s ((i : Nat) : Int) (by first | assumption | omega | (simp; done) | (simp; omega)) (by first | assumption | omega | (simp; done) | (simp; omega))) (ha_at 6 rfl rfl <| ha_nil)) rfl rfl ?_
          refine r_sd (sd_move rfl rfl) rfl rfl ?_
          refine r_sd (sd_extract rfl rfl rfl) rfl rfl ?_
          refine r_sd (sd_extract rfl rfl rfl) rfl rfl ?_
          refine r_alloc rfl tz26 rfl fun b50 => ?_
          refine r_store (vs := (SpanV.cells (heightV s ts ((i : Nat) : Int)))) (cs' := (SpanV.cells (heightV s ts ((i : Nat) : Int)))) (C' := [(blk b50 26 (SpanV.cells (heightV s ts ((i : Nat) : Int)))), _, _, _, _, _, _, _, _]) 0 rfl rfl rfl ts26 rfl rfl rfl rfl rfl rfl rfl ?_
          refine r_sd (sd_assign rfl rfl) rfl rfl ?_
          refine r_nil ?_
          refine k_then (hK49 _ _ _ ?_)
          refine w_seq fun K51 hK51 => ?_
          refine w_seq fun K52 hK52 => ?_
          refine w_region ?_
          refine r_sd (sd_fa (o' := 7) rfl rfl fo77_4 rfl) rfl rfl ?_
          have hsd := hside x (List.mem_of_getElem? hx)
          refine r_sd (sd_ld1 rfl rfl tk5 (at_blk (vs := [(Value.int .u8 x.Side)]) 1 rfl rfl)) rfl rfl ?_
          refine r_sd (sd_bin rfl rfl rfl b_eql) rfl rfl ?_
          refine r_nil ?_
          refine k_then (hK52 _ _ _ ?_)
          refine w_if rfl (fun hd => ?_) (fun hd => ?_)
          · -- yes
            replace hd := of_decide_eq_true hd
            refine w_seq fun K53 hK53 => ?_
            refine w_seq fun K54 hK54 => ?_
            refine w_region ?_
            rw [(height_out (i := ((i : Nat) : Int)) hb0 (curve_f hx hd)).2]
            refine r_sd (sd_move rfl rfl) rfl rfl ?_
            refine r_sd (sd_bin (r := .bool false) rfl rfl rfl b_neq) rfl rfl ?_
            refine r_nil ?_
            refine k_then (hK54 _ _ _ ?_)
            refine w_if_false rfl ?_
            refine w_skip ?_
            refine k_then (hK53 _ _ _ ?_)
            refine w_exit ?_
            refine k_exit_then ?_
            refine k_exit_same ?_
            refine k_then (hK46 _ _ _ ?_)
            refine w_region ?_
            refine r_sd (sd_bin rfl rfl rfl (b_add ⟨by omega, by omega⟩)) rfl rfl ?_
            refine r_sd (sd_move rfl rfl) rfl rfl ?_
            refine r_nil ?_
            have hb55 : (Value.int .i64 (((i + 1) : Nat) : Int)) = (Value.int .i64 (((i : Nat) : Int) + 1)) := by exact congrArg (Value.int .i64) (by omega)
            refine k_then (hJ42 ⟨(i + 1), (by first | omega | (simp only []; omega))⟩ _ _ _ rfl (by first | omega | (simp; omega)) (Sub.cons rfl <| Sub.cons rfl <| Sub.cons rfl <| Sub.cons rfl <| Sub.cons rfl <| Sub.cons rfl <| sub_val rfl hb55 <| Sub.nil _) (fun w hs => St.sel [2, 3, 4, 5, 6, 7, 8] rfl rfl hs))
          · -- no
            replace hd := of_decide_eq_false hd
            refine w_skip ?_
            refine k_then (hK51 _ _ _ ?_)
            refine w_seq fun K56 hK56 => ?_
            have hb57 : (SpanV.cells (heightV s ts ((i : Nat) : Int))) = (SpanV.cells (SpanV.mk (hgt false s ts i) (hgt true s ts i))) := by rw [(height_nat hb0 hx hd).1]
            rw [hb57]
            refine w_draw mixed 11 (by kernel_rfl) ?_
            rw [(height_nat hb0 hx hd).2]
            refine d_sd (sd_move rfl rfl) rfl rfl ?_
            refine d_sd (sd_bin (r := .bool false) rfl rfl rfl b_neq) rfl rfl ?_
            refine d_sd (sd_move rfl rfl) rfl rfl ?_
            refine d_sd (sd_move rfl rfl) rfl rfl ?_
            refine d_sd (sd_move rfl rfl) rfl rfl ?_
            obtain ⟨v, hv⟩ : ∃ y_, (tHgts bl s ts ts.length)[i]? = some y_ := ⟨(tHgts bl s ts ts.length)[i]'(by omega), List.getElem?_eq_getElem _⟩
            have hvm : ((tHgts bl s ts ts.length).map iC)[i]? = some (iC v) := by rw [List.getElem?_map, hv]; rfl
            refine d_sd (sd_ia (k := i) rfl rfl rfl (has_own_n (n := (tHgts bl s ts ts.length).length) 3 rfl (by simp)) te61 (by decide) (by omega) (by omega)) rfl rfl ?_
            have vv : v = tHgt bl s ts i := by rw [tHgts_get (by omega)] at hv; exact (Option.some.inj hv).symm
            have wh := within_hgt (bl := bl) hs hst hx hd
            refine d_sd (sd_ld1 rfl rfl tk3 (at_rd (k := i) (o := 0) (vs := [(Value.int .i64 v)]) (has_own_n (n := (tHgts bl s ts ts.length).length) 3 rfl (by simp)) hvm rfl (by decide) rfl)) rfl rfl ?_
            refine d_sd (sd_ldn rfl rfl tk26 (at_blk (vs := (SpanV.cells (SpanV.mk (hgt false s ts i) (hgt true s ts i)))) 0 rfl rfl) rfl) rfl rfl ?_
            refine d_sd (sd_call rfl rfl rfl rfl (linside_c v (SpanV.mk (hgt false s ts i) (hgt true s ts i))) (ha_nil)) rfl rfl ?_
            refine d_sd (sd_not rfl rfl) rfl rfl ?_
            refine d_sd (sd_pick_f rfl rfl rfl) rfl rfl ?_
            refine d_end ?_
            refine r_nil ?_
            refine k_then (hK56 _ _ _ ?_)
            refine w_if rfl (fun hin => ?_) (fun hin => ?_)
            · -- yes
              rw [Bool.not_eq_true'] at hin
              replace hin := of_decide_eq_false hin
              exfalso; dsimp only at hin; omega
            · -- no
              rw [Bool.not_eq_false'] at hin
              replace hin := of_decide_eq_true hin
              refine w_skip ?_
              refine k_block ?_
              refine k_then (hK46 _ _ _ ?_)
              refine w_region ?_
              refine r_sd (sd_bin rfl rfl rfl (b_add ⟨by omega, by omega⟩)) rfl rfl ?_
              refine r_sd (sd_move rfl rfl) rfl rfl ?_
              refine r_nil ?_
              have hb58 : (Value.int .i64 (((i + 1) : Nat) : Int)) = (Value.int .i64 (((i : Nat) : Int) + 1)) := by exact congrArg (Value.int .i64) (by omega)
              refine k_then (hJ42 ⟨(i + 1), (by first | omega | (simp only []; omega))⟩ _ _ _ rfl (by first | omega | (simp; omega)) (Sub.cons rfl <| Sub.cons rfl <| Sub.cons rfl <| Sub.cons rfl <| Sub.cons rfl <| Sub.cons rfl <| sub_val rfl hb58 <| Sub.nil _) (fun w hs => St.sel [2, 3, 4, 5, 6, 7, 8] rfl rfl hs))
        · -- no
          replace h45 := of_decide_eq_false h45
          refine w_exit ?_
          refine k_exit_then ?_
          refine k_exit_then ?_
          refine k_exit_same ?_
          refine k_then (hK40 _ _ _ ?_)
          refine w_seq fun K59 hK59 => ?_
          refine w_region ?_
          refine r_sd (sd_move rfl rfl) rfl rfl ?_
          refine r_sd (sd_assign rfl rfl) rfl rfl ?_
          refine r_nil ?_
          refine k_then (hK59 _ _ _ ?_)
          refine w_ret ?_
          refine hQ _ _ _ (l_nil (vs := [(Value.bool true)]) ⟨rfl, trivial⟩ fun w hs => endV ?_ hs)
          show (Value.bool true) = (Value.bool true)
          clear hs w hQ hN hK59 K59 hK44 K44 hK43 K43 hK41 K41 hK40 K40 hK27 K27 hK26 K26 hK24 K24 hK23 K23 hK21 K21 hK20 K20 hK13 K13 hK8 K8 hK6 K6 hK5 K5 hK4 K4 hK1 K1
          first | rfl | simp

end Go.Proofs.Ytpbgdeojcefnmaa
