/-
  Walks: kreisel/kreiselref03.inside, kreisel/slide.Least, kreisel/slide.Least, kreisel/slide.Least, kreisel/slide.Least, kreisel/slide.Least, kreisel/kreiselref03.Least
-/
import Derived.Test.YtpbgdeojcefnmaaTab
import Derived.Test.YtpbgdeojcefnmaaSort
import Derived.Test.YtpbgdeojcefnmaaW1
import Derived.Test.YtpbgdeojcefnmaaW5
import Derived.Test.YtpbgdeojcefnmaaW6
import Derived.Test.YtpbgdeojcefnmaaW7
import Derived.Test.YtpbgdeojcefnmaaW8
import Derived.Test.YtpbgdeojcefnmaaW9
namespace Go.Proofs.Ytpbgdeojcefnmaa
open Go.RowKit
set_option linter.unusedVariables false

set_option maxRecDepth 100000 in
set_option maxHeartbeats 400000 in
theorem inside_c (ts : List StretchV) (tsA : Option Addr) (tsC : Nat) (s : SledV) (i : Int) (hs : SledOk s) (hst : ∀ x ∈ ts, StretchOk x) (hlen : ts.length ≤ 12) (hi : 0 ≤ i ∧ i < ts.length) :
    FnV Try.prog 73 [(Value.agg (TrackV.cells (TrackV.mk (Slc.mk tsA ts.length tsC))).toArray), (Value.agg (SledV.cells s).toArray), (Value.int .i64 i)] [(rd tsA ts.length 9 (ts.map StretchV.cells))] (Value.agg (SpanV.cells (SpanV.mk (inAt false s ts i.toNat) (inAt true s ts i.toNat))).toArray) := by
  refine fnV_of go73 Try.func73 rfl rfl fun w0 Q hQ hN => ?_
  change WJ _ _ _ _ [(0, (Value.agg (TrackV.cells (TrackV.mk (Slc.mk tsA ts.length tsC))).toArray)), (1, (Value.agg (SledV.cells s).toArray)), (2, (Value.int .i64 i))] [(rd tsA ts.length 9 (ts.map StretchV.cells)).ro]
  refine w_seq fun K1 hK1 => ?_
  refine w_region ?_
  refine r_box (cs := (TrackV.cells (TrackV.mk (Slc.mk tsA ts.length tsC)))) rfl rfl rfl rfl fun b2 => ?_
  refine r_box (cs := (SledV.cells s)) rfl rfl rfl rfl fun b3 => ?_
  refine r_alloc rfl tz26 rfl fun b4 => ?_
  refine r_nil ?_
  refine k_then (hK1 _ _ _ ?_)
  refine w_seq fun K5 hK5 => ?_
  refine w_region ?_
  refine r_sd (sd_ldn rfl rfl tk24 (at_blk (vs := (TrackV.cells (TrackV.mk (Slc.mk tsA ts.length tsC)))) 2 rfl rfl) rfl) rfl rfl ?_
  refine r_sd (sd_ldn rfl rfl tk28 (at_blk (vs := (SledV.cells s)) 1 rfl rfl) rfl) rfl rfl ?_
  refine r_call rfl rfl rfl rfl (rheads_c ts tsA tsC s (by first | assumption | omega | (simp; done) | (simp; omega)) (by first | assumption | omega | (simp; done) | (simp; omega)) (by first | assumption | omega | (simp; done) | (simp; omega))) (ha_at 3 rfl rfl <| ha_nil) rfl (fun y6 hy7 => ?_)
  obtain ⟨a8, c9⟩ := y6
  change RJ _ _ _ _ _ ((_, (Value.slice a8 ((spansL s ts).length) c9)) :: _) ((own a8 c9 26 2 ((spansL s ts).map SpanV.cells)) :: _)
  refine r_sd (sd_assign rfl rfl) rfl rfl ?_
  refine r_nil ?_
  refine k_then (hK5 _ _ _ ?_)
  refine w_seq fun K10 hK10 => ?_
  refine w_draw mixed 25 (by kernel_rfl) ?_
  have hsl := spansL_length (s := s) (ts := ts)
  refine d_sd (sd_move rfl rfl) rfl rfl ?_
  refine d_sd (sd_move rfl rfl) rfl rfl ?_
  obtain ⟨y, hy⟩ : ∃ y_, (spansL s ts)[(i).toNat]? = some y_ := ⟨(spansL s ts)[(i).toNat]'(by omega), List.getElem?_eq_getElem _⟩
  have hym : ((spansL s ts).map SpanV.cells)[(i).toNat]? = some (SpanV.cells y) := by rw [List.getElem?_map, hy]; rfl
  refine d_sd (sd_ia (k := (i).toNat) rfl rfl rfl (has_own_n (n := (spansL s ts).length) 0 rfl (by simp)) te31 (by decide) (by omega) (by omega)) rfl rfl ?_
  refine d_sd (sd_fa_rd (k' := (((i).toNat) * 2)) rfl rfl (has_own_n (n := (spansL s ts).length) 0 rfl (by simp)) (Nat.mul_pos (by omega) (by decide)) fo26_0 rfl) rfl rfl ?_
  refine d_sd (sd_ld1 rfl rfl tk3 (at_rd (k := (i).toNat) (o := 0) (vs := [(Value.int .i64 y.Lo)]) (has_own_n (n := (spansL s ts).length) 0 rfl (by simp)) hym rfl (by decide) rfl)) rfl rfl ?_
  refine d_sd (sd_move rfl rfl) rfl rfl ?_
  refine d_sd (sd_move rfl rfl) rfl rfl ?_
  refine d_sd (sd_bin rfl rfl rfl (b_add ⟨by omega, by omega⟩)) rfl rfl ?_
  obtain ⟨z, hz⟩ : ∃ y_, (spansL s ts)[((i + 1)).toNat]? = some y_ := ⟨(spansL s ts)[((i + 1)).toNat]'(by omega), List.getElem?_eq_getElem _⟩
  have hzm : ((spansL s ts).map SpanV.cells)[((i + 1)).toNat]? = some (SpanV.cells z) := by rw [List.getElem?_map, hz]; rfl
  refine d_sd (sd_ia (k := ((i + 1)).toNat) rfl rfl rfl (has_own_n (n := (spansL s ts).length) 0 rfl (by simp)) te31 (by decide) (by omega) (by omega)) rfl rfl ?_
  refine d_sd (sd_fa_rd (k' := ((((i + 1)).toNat) * 2)) rfl rfl (has_own_n (n := (spansL s ts).length) 0 rfl (by simp)) (Nat.mul_pos (by omega) (by decide)) fo26_0 rfl) rfl rfl ?_
  refine d_sd (sd_ld1 rfl rfl tk3 (at_rd (k := ((i + 1)).toNat) (o := 0) (vs := [(Value.int .i64 z.Lo)]) (has_own_n (n := (spansL s ts).length) 0 rfl (by simp)) hzm rfl (by decide) rfl)) rfl rfl ?_
  refine d_sd (sd_max rfl rfl rfl) rfl rfl ?_
  refine d_sd (sd_move rfl rfl) rfl rfl ?_
  refine d_sd (sd_move rfl rfl) rfl rfl ?_
  refine d_sd (sd_ia (k := (i).toNat) rfl rfl rfl (has_own_n (n := (spansL s ts).length) 0 rfl (by simp)) te31 (by decide) (by omega) (by omega)) rfl rfl ?_
  refine d_sd (sd_fa_rd (k' := ((((i).toNat) * 2) + 1)) rfl rfl (has_own_n (n := (spansL s ts).length) 0 rfl (by simp)) (Nat.mul_pos (by omega) (by decide)) fo26_1 rfl) rfl rfl ?_
  refine d_sd (sd_ld1 rfl rfl tk3 (at_rd (k := (i).toNat) (o := 1) (vs := [(Value.int .i64 y.Hi)]) (has_own_n (n := (spansL s ts).length) 0 rfl (by simp)) hym rfl (by decide) rfl)) rfl rfl ?_
  refine d_sd (sd_move rfl rfl) rfl rfl ?_
  refine d_sd (sd_move rfl rfl) rfl rfl ?_
  refine d_sd (sd_bin rfl rfl rfl (b_add ⟨by omega, by omega⟩)) rfl rfl ?_
  refine d_sd (sd_ia (k := ((i + 1)).toNat) rfl rfl rfl (has_own_n (n := (spansL s ts).length) 0 rfl (by simp)) te31 (by decide) (by omega) (by omega)) rfl rfl ?_
  refine d_sd (sd_fa_rd (k' := (((((i + 1)).toNat) * 2) + 1)) rfl rfl (has_own_n (n := (spansL s ts).length) 0 rfl (by simp)) (Nat.mul_pos (by omega) (by decide)) fo26_1 rfl) rfl rfl ?_
  refine d_sd (sd_ld1 rfl rfl tk3 (at_rd (k := ((i + 1)).toNat) (o := 1) (vs := [(Value.int .i64 z.Hi)]) (has_own_n (n := (spansL s ts).length) 0 rfl (by simp)) hzm rfl (by decide) rfl)) rfl rfl ?_
  refine d_sd (sd_max rfl rfl rfl) rfl rfl ?_
  refine d_sd (sd_build (xs := [(0, .tmp 22), (1, .tmp 34)]) (cs := (SpanV.cells (SpanV.mk (max y.Lo z.Lo) (max y.Hi z.Hi)))) rfl rfl (built_of tb26 rfl)) rfl rfl ?_
  refine d_end ?_
  refine r_store (vs := (SpanV.cells (SpanV.mk (max y.Lo z.Lo) (max y.Hi z.Hi)))) (cs' := (SpanV.cells (SpanV.mk (max y.Lo z.Lo) (max y.Hi z.Hi)))) (C' := [_, (blk b4 26 (SpanV.cells (SpanV.mk (max y.Lo z.Lo) (max y.Hi z.Hi)))), _, _, _]) 1 rfl rfl rfl ts26 rfl rfl rfl rfl rfl rfl rfl ?_
  refine r_nil ?_
  refine k_then (hK10 _ _ _ ?_)
  refine w_ret ?_
  refine hQ _ _ _ (l_nil (vs := [(Value.agg (SpanV.cells (SpanV.mk (max y.Lo z.Lo) (max y.Hi z.Hi))).toArray)]) ⟨⟨_, rfl, .inl ⟨_, _, tk26, at_blk (vs := (SpanV.cells (SpanV.mk (max y.Lo z.Lo) (max y.Hi z.Hi)))) 1 rfl rfl, rfl, rfl⟩⟩, trivial⟩ fun w hs => endV ?_ hs)
  show (Value.agg (SpanV.cells (SpanV.mk (max y.Lo z.Lo) (max y.Hi z.Hi))).toArray) = (Value.agg (SpanV.cells (SpanV.mk (inAt false s ts i.toNat) (inAt true s ts i.toNat))).toArray)
  clear hs w hQ hN hK10 K10 hK5 K5 hK1 K1
  have yv : y = spanAt s ts i.toNat := by rw [spansL_get (by omega)] at hy; exact (Option.some.inj hy).symm
  have zv : z = spanAt s ts (i + 1).toNat := by rw [spansL_get (by omega)] at hz; exact (Option.some.inj hz).symm
  have e1 := inAt_spans (best := false) hi.1 (show y.Lo = _ by rw [yv]; rfl) (show z.Lo = _ by rw [zv]; rfl)
  have e2 := inAt_spans (best := true) hi.1 (show y.Hi = _ by rw [yv]; rfl) (show z.Hi = _ by rw [zv]; rfl)
  rw [e1, e2]

set_option maxRecDepth 100000 in
set_option maxHeartbeats 400000 in
theorem least_bad (ts : List StretchV) (tsA : Option Addr) (tsC : Nat) (s : SledV) (i : Int) (hlen : ts.length ≤ 1000000) (hside : ∀ x ∈ ts, 0 ≤ x.Side ∧ x.Side ≤ 255) (htr : trackOk ts = false) :
    FnV Try.prog 24 [(Value.agg (TrackV.cells (TrackV.mk (Slc.mk tsA ts.length tsC))).toArray), (Value.agg (SledV.cells s).toArray), (Value.int .i64 i)] [(rd tsA ts.length 9 (ts.map StretchV.cells))] (Value.tuple [(Value.int .i64 (leastV s ts i)), (Value.int .i64 (leastE s ts i))].toArray) := by
  have hb0 : ¬ bothE s ts = 0 := by rw [bothE_bad htr]; decide
  refine fnV_of go24 Try.func24 rfl rfl fun w0 Q hQ hN => ?_
  change WJ _ _ _ _ [(0, (Value.agg (TrackV.cells (TrackV.mk (Slc.mk tsA ts.length tsC))).toArray)), (1, (Value.agg (SledV.cells s).toArray)), (2, (Value.int .i64 i))] [(rd tsA ts.length 9 (ts.map StretchV.cells)).ro]
  refine w_seq fun K1 hK1 => ?_
  refine w_region ?_
  refine r_box (cs := (TrackV.cells (TrackV.mk (Slc.mk tsA ts.length tsC)))) rfl rfl rfl rfl fun b2 => ?_
  refine r_box (cs := (SledV.cells s)) rfl rfl rfl rfl fun b3 => ?_
  refine r_sd (sd_assign rfl rfl) rfl rfl ?_
  refine r_sd (sd_assign rfl rfl) rfl rfl ?_
  refine r_nil ?_
  refine k_then (hK1 _ _ _ ?_)
  refine w_seq fun K4 hK4 => ?_
  refine w_region ?_
  refine r_sd (sd_ldn rfl rfl tk24 (at_blk (vs := (TrackV.cells (TrackV.mk (Slc.mk tsA ts.length tsC)))) 1 rfl rfl) rfl) rfl rfl ?_
  refine r_sd (sd_ldn rfl rfl tk28 (at_blk (vs := (SledV.cells s)) 0 rfl rfl) rfl) rfl rfl ?_
  refine r_sd (sd_call rfl rfl rfl rfl (open_bad ts tsA tsC s (by first | assumption | omega | (simp; done) | (simp; omega)) (by first | assumption | omega | (simp; done) | (simp; omega)) (by first | assumption | omega | (simp; done) | (simp; omega))) (ha_at 2 rfl rfl <| ha_nil)) rfl rfl ?_
  refine r_sd (sd_move rfl rfl) rfl rfl ?_
  refine r_sd (sd_extract rfl rfl rfl) rfl rfl ?_
  refine r_sd (sd_extract rfl rfl rfl) rfl rfl ?_
  refine r_sd (sd_extract rfl rfl rfl) rfl rfl ?_
  refine r_alloc rfl tz108 rfl fun b5 => ?_
  refine r_alloc rfl tz108 rfl fun b6 => ?_
  refine r_store (vs := (RiderV.cells (RiderV.mk (SledV.mk 0 (SpanV.mk 0 0) (SpanV.mk 0 0) (SpanV.mk 0 0) (SpanV.mk 0 0) (SpanV.mk 0 0)) (TrackV.mk (Slc.mk none 0 0)) false))) (cs' := (RiderV.cells (RiderV.mk (SledV.mk 0 (SpanV.mk 0 0) (SpanV.mk 0 0) (SpanV.mk 0 0) (SpanV.mk 0 0) (SpanV.mk 0 0)) (TrackV.mk (Slc.mk none 0 0)) false))) (C' := [_, (blk b5 108 (RiderV.cells (RiderV.mk (SledV.mk 0 (SpanV.mk 0 0) (SpanV.mk 0 0) (SpanV.mk 0 0) (SpanV.mk 0 0) (SpanV.mk 0 0)) (TrackV.mk (Slc.mk none 0 0)) false))), _, _, _]) 1 rfl rfl rfl ts108 rfl rfl rfl rfl rfl rfl rfl ?_
  refine r_store (vs := (RiderV.cells (RiderV.mk (SledV.mk 0 (SpanV.mk 0 0) (SpanV.mk 0 0) (SpanV.mk 0 0) (SpanV.mk 0 0) (SpanV.mk 0 0)) (TrackV.mk (Slc.mk none 0 0)) false))) (cs' := (RiderV.cells (RiderV.mk (SledV.mk 0 (SpanV.mk 0 0) (SpanV.mk 0 0) (SpanV.mk 0 0) (SpanV.mk 0 0) (SpanV.mk 0 0)) (TrackV.mk (Slc.mk none 0 0)) false))) (C' := [(blk b6 108 (RiderV.cells (RiderV.mk (SledV.mk 0 (SpanV.mk 0 0) (SpanV.mk 0 0) (SpanV.mk 0 0) (SpanV.mk 0 0) (SpanV.mk 0 0)) (TrackV.mk (Slc.mk none 0 0)) false))), _, _, _, _]) 0 rfl rfl rfl ts108 rfl rfl rfl rfl rfl rfl rfl ?_
  refine r_sd (sd_assign rfl rfl) rfl rfl ?_
  refine r_nil ?_
  refine k_then (hK4 _ _ _ ?_)
  refine w_seq fun K7 hK7 => ?_
  refine w_seq fun K8 hK8 => ?_
  refine w_region ?_
  refine r_sd (sd_move rfl rfl) rfl rfl ?_
  refine r_sd (sd_bin rfl rfl rfl b_neq) rfl rfl ?_
  refine r_nil ?_
  refine k_then (hK8 _ _ _ ?_)
  refine w_if rfl (fun he => ?_) (fun he => ?_)
  · -- yes
    rw [Bool.not_eq_true'] at he
    replace he := of_decide_eq_false he
    refine w_seq fun K9 hK9 => ?_
    refine w_region ?_
    refine r_sd (sd_move rfl rfl) rfl rfl ?_
    refine r_sd (sd_assign rfl rfl) rfl rfl ?_
    refine r_sd (sd_assign rfl rfl) rfl rfl ?_
    refine r_nil ?_
    refine k_then (hK9 _ _ _ ?_)
    refine w_ret ?_
    refine hQ _ _ _ (l_nil (vs := [(Value.int .i64 0), (Value.int .i64 (bothE s ts))]) ⟨rfl, rfl, trivial⟩ fun w hs => endV ?_ hs)
    show (Value.tuple [(Value.int .i64 0), (Value.int .i64 (bothE s ts))].toArray) = (Value.tuple [(Value.int .i64 (leastV s ts i)), (Value.int .i64 (leastE s ts i))].toArray)
    clear hs w hQ hN hK9 K9 hK8 K8 hK7 K7 hK4 K4 hK1 K1
    rw [(least_no (i := i) hb0).1, (least_no (i := i) hb0).2]
  · -- no
    rw [Bool.not_eq_false'] at he
    replace he := of_decide_eq_true he
    exact absurd he hb0

set_option maxRecDepth 100000 in
set_option maxHeartbeats 400000 in
theorem least_sled (ts : List StretchV) (tsA : Option Addr) (tsC : Nat) (s : SledV) (i : Int) (hlen : ts.length ≤ 1000000) (hside : ∀ x ∈ ts, 0 ≤ x.Side ∧ x.Side ≤ 255) (htr : trackOk ts = true) (hns : ¬ SledOk s) :
    FnV Try.prog 24 [(Value.agg (TrackV.cells (TrackV.mk (Slc.mk tsA ts.length tsC))).toArray), (Value.agg (SledV.cells s).toArray), (Value.int .i64 i)] [(rd tsA ts.length 9 (ts.map StretchV.cells))] (Value.tuple [(Value.int .i64 (leastV s ts i)), (Value.int .i64 (leastE s ts i))].toArray) := by
  have hb0 : ¬ bothE s ts = 0 := by rw [bothE_sled htr hns]; decide
  refine fnV_of go24 Try.func24 rfl rfl fun w0 Q hQ hN => ?_
  change WJ _ _ _ _ [(0, (Value.agg (TrackV.cells (TrackV.mk (Slc.mk tsA ts.length tsC))).toArray)), (1, (Value.agg (SledV.cells s).toArray)), (2, (Value.int .i64 i))] [(rd tsA ts.length 9 (ts.map StretchV.cells)).ro]
  refine w_seq fun K1 hK1 => ?_
  refine w_region ?_
  refine r_box (cs := (TrackV.cells (TrackV.mk (Slc.mk tsA ts.length tsC)))) rfl rfl rfl rfl fun b2 => ?_
  refine r_box (cs := (SledV.cells s)) rfl rfl rfl rfl fun b3 => ?_
  refine r_sd (sd_assign rfl rfl) rfl rfl ?_
  refine r_sd (sd_assign rfl rfl) rfl rfl ?_
  refine r_nil ?_
  refine k_then (hK1 _ _ _ ?_)
  refine w_seq fun K4 hK4 => ?_
  refine w_region ?_
  refine r_sd (sd_ldn rfl rfl tk24 (at_blk (vs := (TrackV.cells (TrackV.mk (Slc.mk tsA ts.length tsC)))) 1 rfl rfl) rfl) rfl rfl ?_
  refine r_sd (sd_ldn rfl rfl tk28 (at_blk (vs := (SledV.cells s)) 0 rfl rfl) rfl) rfl rfl ?_
  refine r_sd (sd_call rfl rfl rfl rfl (open_ok ts tsA tsC s (by first | assumption | omega | (simp; done) | (simp; omega)) (by first | assumption | omega | (simp; done) | (simp; omega)) (by first | assumption | omega | (simp; done) | (simp; omega))) (ha_at 2 rfl rfl <| ha_nil)) rfl rfl ?_
  refine r_sd (sd_move rfl rfl) rfl rfl ?_
  refine r_sd (sd_extract rfl rfl rfl) rfl rfl ?_
  refine r_sd (sd_extract rfl rfl rfl) rfl rfl ?_
  refine r_sd (sd_extract rfl rfl rfl) rfl rfl ?_
  refine r_alloc rfl tz108 rfl fun b5 => ?_
  refine r_alloc rfl tz108 rfl fun b6 => ?_
  refine r_store (vs := (RiderV.cells (RiderV.mk s (TrackV.mk (Slc.mk tsA ts.length tsC)) false))) (cs' := (RiderV.cells (RiderV.mk s (TrackV.mk (Slc.mk tsA ts.length tsC)) false))) (C' := [_, (blk b5 108 (RiderV.cells (RiderV.mk s (TrackV.mk (Slc.mk tsA ts.length tsC)) false))), _, _, _]) 1 rfl rfl rfl ts108 rfl rfl rfl rfl rfl rfl rfl ?_
  refine r_store (vs := (RiderV.cells (RiderV.mk s (TrackV.mk (Slc.mk tsA ts.length tsC)) true))) (cs' := (RiderV.cells (RiderV.mk s (TrackV.mk (Slc.mk tsA ts.length tsC)) true))) (C' := [(blk b6 108 (RiderV.cells (RiderV.mk s (TrackV.mk (Slc.mk tsA ts.length tsC)) true))), _, _, _, _]) 0 rfl rfl rfl ts108 rfl rfl rfl rfl rfl rfl rfl ?_
  refine r_sd (sd_assign rfl rfl) rfl rfl ?_
  refine r_nil ?_
  refine k_then (hK4 _ _ _ ?_)
  refine w_seq fun K7 hK7 => ?_
  refine w_seq fun K8 hK8 => ?_
  refine w_region ?_
  refine r_sd (sd_move rfl rfl) rfl rfl ?_
  refine r_sd (sd_bin rfl rfl rfl b_neq) rfl rfl ?_
  refine r_nil ?_
  refine k_then (hK8 _ _ _ ?_)
  refine w_if rfl (fun he => ?_) (fun he => ?_)
  · -- yes
    rw [Bool.not_eq_true'] at he
    replace he := of_decide_eq_false he
    refine w_seq fun K9 hK9 => ?_
    refine w_region ?_
    refine r_sd (sd_move rfl rfl) rfl rfl ?_
    refine r_sd (sd_assign rfl rfl) rfl rfl ?_
    refine r_sd (sd_assign rfl rfl) rfl rfl ?_
    refine r_nil ?_
    refine k_then (hK9 _ _ _ ?_)
    refine w_ret ?_
    refine hQ _ _ _ (l_nil (vs := [(Value.int .i64 0), (Value.int .i64 (bothE s ts))]) ⟨rfl, rfl, trivial⟩ fun w hs => endV ?_ hs)
    show (Value.tuple [(Value.int .i64 0), (Value.int .i64 (bothE s ts))].toArray) = (Value.tuple [(Value.int .i64 (leastV s ts i)), (Value.int .i64 (leastE s ts i))].toArray)
    clear hs w hQ hN hK9 K9 hK8 K8 hK7 K7 hK4 K4 hK1 K1
    rw [(least_no (i := i) hb0).1, (least_no (i := i) hb0).2]
  · -- no
    rw [Bool.not_eq_false'] at he
    replace he := of_decide_eq_true he
    exact absurd he hb0

set_option maxRecDepth 100000 in
set_option maxHeartbeats 400000 in
theorem least_ok (ts : List StretchV) (tsA : Option Addr) (tsC : Nat) (s : SledV) (i : Int) (hlen : ts.length ≤ 1000000) (hside : ∀ x ∈ ts, 0 ≤ x.Side ∧ x.Side ≤ 255) (htr : trackOk ts = true) (hs : SledOk s) :
    FnV Try.prog 24 [(Value.agg (TrackV.cells (TrackV.mk (Slc.mk tsA ts.length tsC))).toArray), (Value.agg (SledV.cells s).toArray), (Value.int .i64 i)] [(rd tsA ts.length 9 (ts.map StretchV.cells))] (Value.tuple [(Value.int .i64 (leastV s ts i)), (Value.int .i64 (leastE s ts i))].toArray) := by
  have hb0 := bothE_ok htr hs
  have hst := trackOk_all htr
  have hl12 := trackOk_le htr
  have hl1 := trackOk_pos htr
  refine fnV_of go24 Try.func24 rfl rfl fun w0 Q hQ hN => ?_
  change WJ _ _ _ _ [(0, (Value.agg (TrackV.cells (TrackV.mk (Slc.mk tsA ts.length tsC))).toArray)), (1, (Value.agg (SledV.cells s).toArray)), (2, (Value.int .i64 i))] [(rd tsA ts.length 9 (ts.map StretchV.cells)).ro]
  refine w_seq fun K1 hK1 => ?_
  refine w_region ?_
  refine r_box (cs := (TrackV.cells (TrackV.mk (Slc.mk tsA ts.length tsC)))) rfl rfl rfl rfl fun b2 => ?_
  refine r_box (cs := (SledV.cells s)) rfl rfl rfl rfl fun b3 => ?_
  refine r_sd (sd_assign rfl rfl) rfl rfl ?_
  refine r_sd (sd_assign rfl rfl) rfl rfl ?_
  refine r_nil ?_
  refine k_then (hK1 _ _ _ ?_)
  refine w_seq fun K4 hK4 => ?_
  refine w_region ?_
  refine r_sd (sd_ldn rfl rfl tk24 (at_blk (vs := (TrackV.cells (TrackV.mk (Slc.mk tsA ts.length tsC)))) 1 rfl rfl) rfl) rfl rfl ?_
  refine r_sd (sd_ldn rfl rfl tk28 (at_blk (vs := (SledV.cells s)) 0 rfl rfl) rfl) rfl rfl ?_
  refine r_sd (sd_call rfl rfl rfl rfl (open_ok ts tsA tsC s (by first | assumption | omega | (simp; done) | (simp; omega)) (by first | assumption | omega | (simp; done) | (simp; omega)) (by first | assumption | omega | (simp; done) | (simp; omega))) (ha_at 2 rfl rfl <| ha_nil)) rfl rfl ?_
  refine r_sd (sd_move rfl rfl) rfl rfl ?_
  refine r_sd (sd_extract rfl rfl rfl) rfl rfl ?_
  refine r_sd (sd_extract rfl rfl rfl) rfl rfl ?_
  refine r_sd (sd_extract rfl rfl rfl) rfl rfl ?_
  refine r_alloc rfl tz108 rfl fun b5 => ?_
  refine r_alloc rfl tz108 rfl fun b6 => ?_
  refine r_store (vs := (RiderV.cells (RiderV.mk s (TrackV.mk (Slc.mk tsA ts.length tsC)) false))) (cs' := (RiderV.cells (RiderV.mk s (TrackV.mk (Slc.mk tsA ts.length tsC)) false))) (C' := [_, (blk b5 108 (RiderV.cells (RiderV.mk s (TrackV.mk (Slc.mk tsA ts.length tsC)) false))), _, _, _]) 1 rfl rfl rfl ts108 rfl rfl rfl rfl rfl rfl rfl ?_
  refine r_store (vs := (RiderV.cells (RiderV.mk s (TrackV.mk (Slc.mk tsA ts.length tsC)) true))) (cs' := (RiderV.cells (RiderV.mk s (TrackV.mk (Slc.mk tsA ts.length tsC)) true))) (C' := [(blk b6 108 (RiderV.cells (RiderV.mk s (TrackV.mk (Slc.mk tsA ts.length tsC)) true))), _, _, _, _]) 0 rfl rfl rfl ts108 rfl rfl rfl rfl rfl rfl rfl ?_
  refine r_sd (sd_assign rfl rfl) rfl rfl ?_
  refine r_nil ?_
  refine k_then (hK4 _ _ _ ?_)
  refine w_seq fun K7 hK7 => ?_
  refine w_seq fun K8 hK8 => ?_
  refine w_region ?_
  refine r_sd (sd_move rfl rfl) rfl rfl ?_
  refine r_sd (sd_bin rfl rfl rfl b_neq) rfl rfl ?_
  refine r_nil ?_
  refine k_then (hK8 _ _ _ ?_)
  refine w_if rfl (fun he => ?_) (fun he => ?_)
  · -- yes
    rw [Bool.not_eq_true'] at he
    replace he := of_decide_eq_false he
    exact absurd hb0 he
  · -- no
    rw [Bool.not_eq_false'] at he
    replace he := of_decide_eq_true he
    refine w_skip ?_
    refine k_then (hK7 _ _ _ ?_)
    refine w_seq fun K9 hK9 => ?_
    refine w_seq fun K10 hK10 => ?_
    refine w_region ?_
    refine r_sd (sd_move rfl rfl) rfl rfl ?_
    refine r_sd (sd_bin rfl rfl rfl b_lss) rfl rfl ?_
    refine r_sd (sd_move rfl rfl) rfl rfl ?_
    refine r_bool (t := 26) rfl (fun h11 => ?_) (fun h11 => ?_)
    · -- yes
      replace h11 := of_decide_eq_true h11
      refine r_sd (sd_off rfl) rfl rfl ?_
      refine r_sd (sd_off rfl) rfl rfl ?_
      refine r_sd (sd_off rfl) rfl rfl ?_
      refine r_sd (sd_off rfl) rfl rfl ?_
      refine r_sd (sd_off rfl) rfl rfl ?_
      refine r_sd (sd_pick_t rfl rfl rfl) rfl rfl ?_
      refine r_nil ?_
      refine k_then (hK10 _ _ _ ?_)
      refine w_if_true rfl ?_
      refine w_seq fun K12 hK12 => ?_
      refine w_region ?_
      refine r_sd (sd_assign rfl rfl) rfl rfl ?_
      refine r_sd (sd_assign rfl rfl) rfl rfl ?_
      refine r_nil ?_
      refine k_then (hK12 _ _ _ ?_)
      refine w_ret ?_
      refine hQ _ _ _ (l_nil (vs := [(Value.int .i64 0), (Value.int .i64 2)]) ⟨rfl, rfl, trivial⟩ fun w hs => endV ?_ hs)
      show (Value.tuple [(Value.int .i64 0), (Value.int .i64 2)].toArray) = (Value.tuple [(Value.int .i64 (leastV s ts i)), (Value.int .i64 (leastE s ts i))].toArray)
      clear hs w hQ hN hK12 K12 hK10 K10 hK9 K9 hK8 K8 hK7 K7 hK4 K4 hK1 K1
      first | rw [(least_out (i := i) hb0 (by omega)).1, (least_out (i := i) hb0 (by omega)).2] | rw [(least_none (i := i) hb0 hi hv).1, (least_none (i := i) hb0 hi hv).2] | (have e := least_slide (i := i) hb0 hi (by omega) hx (ceil_yes (by omega) hq); rw [e.1, e.2]) | (have e := least_slide (i := i) hb0 hi (by omega) hx (ceil_no (by omega) (by omega)); rw [e.1, e.2])
    · -- no
      replace h11 := of_decide_eq_false h11
      refine r_sd (sd_move rfl rfl) rfl rfl ?_
      refine r_sd (sd_fa (o' := 0) rfl rfl fo24_0 rfl) rfl rfl ?_
      refine r_sd (sd_ld1 rfl rfl tk22 (at_blk (vs := [(Value.slice tsA ts.length tsC)]) 3 rfl rfl)) rfl rfl ?_
      refine r_sd (sd_len rfl rfl ut22) rfl rfl ?_
      refine r_sd (sd_bin rfl rfl rfl b_geq) rfl rfl ?_
      refine r_sd (sd_pick_f rfl rfl rfl) rfl rfl ?_
      refine r_nil ?_
      refine k_then (hK10 _ _ _ ?_)
      refine w_if rfl (fun h13 => ?_) (fun h13 => ?_)
      · -- yes
        replace h13 := of_decide_eq_true h13
        refine w_seq fun K14 hK14 => ?_
        refine w_region ?_
        refine r_sd (sd_assign rfl rfl) rfl rfl ?_
        refine r_sd (sd_assign rfl rfl) rfl rfl ?_
        refine r_nil ?_
        refine k_then (hK14 _ _ _ ?_)
        refine w_ret ?_
        refine hQ _ _ _ (l_nil (vs := [(Value.int .i64 0), (Value.int .i64 2)]) ⟨rfl, rfl, trivial⟩ fun w hs => endV ?_ hs)
        show (Value.tuple [(Value.int .i64 0), (Value.int .i64 2)].toArray) = (Value.tuple [(Value.int .i64 (leastV s ts i)), (Value.int .i64 (leastE s ts i))].toArray)
        clear hs w hQ hN hK14 K14 hK10 K10 hK9 K9 hK8 K8 hK7 K7 hK4 K4 hK1 K1
        first | rw [(least_out (i := i) hb0 (by omega)).1, (least_out (i := i) hb0 (by omega)).2] | rw [(least_none (i := i) hb0 hi hv).1, (least_none (i := i) hb0 hi hv).2] | (have e := least_slide (i := i) hb0 hi (by omega) hx (ceil_yes (by omega) hq); rw [e.1, e.2]) | (have e := least_slide (i := i) hb0 hi (by omega) hx (ceil_no (by omega) (by omega)); rw [e.1, e.2])
      · -- no
        replace h13 := of_decide_eq_false h13
        refine w_skip ?_
        refine k_then (hK9 _ _ _ ?_)
        refine w_seq fun K15 hK15 => ?_
        refine w_region ?_
        refine r_sd (sd_ldn rfl rfl tk108 (at_blk (vs := (RiderV.cells (RiderV.mk s (TrackV.mk (Slc.mk tsA ts.length tsC)) true))) 0 rfl rfl) rfl) rfl rfl ?_
        refine r_call rfl rfl rfl rfl (list_c s ts tsA tsC true (by first | assumption | omega | (simp; done) | (simp; omega)) (by first | assumption | omega | (simp; done) | (simp; omega)) (by first | assumption | omega | (simp; done) | (simp; omega))) (ha_at 4 rfl rfl <| ha_nil) rfl (fun y16 hy17 => ?_)
        obtain ⟨a18, c19⟩ := y16
        change RJ _ _ _ _ _ ((_, (Value.slice a18 ((headsL true s ts).length) c19)) :: _) ((own a18 c19 3 1 ((headsL true s ts).map iC)) :: _)
        refine r_sd (sd_assign rfl rfl) rfl rfl ?_
        refine r_nil ?_
        refine k_then (hK15 _ _ _ ?_)
        refine w_seq fun K20 hK20 => ?_
        refine w_draw mixed 12 (by kernel_rfl) ?_
        have hml := headsL_length (best := true) (s := s) (ts := ts)
        have hi : 0 ≤ i ∧ i < ts.length := by omega
        have hib := inAt_b (best := true) hs hst (i := i.toNat) (by omega)
        have hfb := fastF_le (h := inAt true s ts i.toNat) hib.1 (by omega)
        refine d_sd (sd_move rfl rfl) rfl rfl ?_
        refine d_sd (sd_move rfl rfl) rfl rfl ?_
        obtain ⟨m, hm⟩ : ∃ y_, (headsL true s ts)[(i).toNat]? = some y_ := ⟨(headsL true s ts)[(i).toNat]'(by omega), List.getElem?_eq_getElem _⟩
        have hmm : ((headsL true s ts).map iC)[(i).toNat]? = some (iC m) := by rw [List.getElem?_map, hm]; rfl
        refine d_sd (sd_ia (k := (i).toNat) rfl rfl rfl (has_own_n (n := (headsL true s ts).length) 0 rfl (by simp)) te61 (by decide) (by omega) (by omega)) rfl rfl ?_
        refine d_sd (sd_ld1 rfl rfl tk3 (at_rd (k := (i).toNat) (o := 0) (vs := [(Value.int .i64 m)]) (has_own_n (n := (headsL true s ts).length) 0 rfl (by simp)) hmm rfl (by decide) rfl)) rfl rfl ?_
        refine d_sd (sd_move rfl rfl) rfl rfl ?_
        refine d_sd (sd_move rfl rfl) rfl rfl ?_
        refine d_sd (sd_bin rfl rfl rfl (b_add ⟨by omega, by omega⟩)) rfl rfl ?_
        obtain ⟨n, hn⟩ : ∃ y_, (headsL true s ts)[((i + 1)).toNat]? = some y_ := ⟨(headsL true s ts)[((i + 1)).toNat]'(by omega), List.getElem?_eq_getElem _⟩
        have hnm : ((headsL true s ts).map iC)[((i + 1)).toNat]? = some (iC n) := by rw [List.getElem?_map, hn]; rfl
        refine d_sd (sd_ia (k := ((i + 1)).toNat) rfl rfl rfl (has_own_n (n := (headsL true s ts).length) 0 rfl (by simp)) te61 (by decide) (by omega) (by omega)) rfl rfl ?_
        refine d_sd (sd_ld1 rfl rfl tk3 (at_rd (k := ((i + 1)).toNat) (o := 0) (vs := [(Value.int .i64 n)]) (has_own_n (n := (headsL true s ts).length) 0 rfl (by simp)) hnm rfl (by decide) rfl)) rfl rfl ?_
        refine d_sd (sd_max rfl rfl rfl) rfl rfl ?_
        have mv : m = headAt true s ts i.toNat := by rw [headsL_get (by omega)] at hm; exact (Option.some.inj hm).symm
        have nv : n = headAt true s ts (i + 1).toNat := by rw [headsL_get (by omega)] at hn; exact (Option.some.inj hn).symm
        have hmx := inAt_spans (best := true) hi.1 mv nv
        rw [hmx]
        refine d_sd (sd_call rfl rfl rfl rfl (fast_c (inAt true s ts i.toNat) (by first | assumption | omega | (simp; done) | (simp; omega))) (ha_nil)) rfl rfl ?_
        refine d_sd (sd_assign rfl rfl) rfl rfl ?_
        refine d_end ?_
        refine r_nil ?_
        refine k_then (hK20 _ _ _ ?_)
        refine w_seq fun K21 hK21 => ?_
        refine w_seq fun K22 hK22 => ?_
        refine w_region ?_
        refine r_sd (sd_move rfl rfl) rfl rfl ?_
        refine r_sd (sd_bin rfl rfl rfl b_eql) rfl rfl ?_
        refine r_nil ?_
        refine k_then (hK22 _ _ _ ?_)
        refine w_if rfl (fun hv => ?_) (fun hv => ?_)
        · -- yes
          replace hv := of_decide_eq_true hv
          refine w_seq fun K23 hK23 => ?_
          refine w_region ?_
          refine r_sd (sd_assign rfl rfl) rfl rfl ?_
          refine r_sd (sd_assign rfl rfl) rfl rfl ?_
          refine r_nil ?_
          refine k_then (hK23 _ _ _ ?_)
          refine w_ret ?_
          refine hQ _ _ _ (l_nil (vs := [(Value.int .i64 0), (Value.int .i64 6)]) ⟨rfl, rfl, trivial⟩ fun w hs => endV ?_ hs)
          show (Value.tuple [(Value.int .i64 0), (Value.int .i64 6)].toArray) = (Value.tuple [(Value.int .i64 (leastV s ts i)), (Value.int .i64 (leastE s ts i))].toArray)
          clear hs w hQ hN hK23 K23 hK22 K22 hK21 K21 hK20 K20 hK15 K15 hK10 K10 hK9 K9 hK8 K8 hK7 K7 hK4 K4 hK1 K1
          first | rw [(least_out (i := i) hb0 (by omega)).1, (least_out (i := i) hb0 (by omega)).2] | rw [(least_none (i := i) hb0 hi hv).1, (least_none (i := i) hb0 hi hv).2] | (have e := least_slide (i := i) hb0 hi (by omega) hx (ceil_yes (by omega) hq); rw [e.1, e.2]) | (have e := least_slide (i := i) hb0 hi (by omega) hx (ceil_no (by omega) (by omega)); rw [e.1, e.2])
        · -- no
          replace hv := of_decide_eq_false hv
          refine w_skip ?_
          refine k_then (hK21 _ _ _ ?_)
          refine w_seq fun K24 hK24 => ?_
          refine w_region ?_
          refine r_sd (sd_fa (o' := 0) rfl rfl fo24_0 rfl) rfl rfl ?_
          refine r_sd (sd_ld1 rfl rfl tk22 (at_blk (vs := [(Value.slice tsA ts.length tsC)]) 4 rfl rfl)) rfl rfl ?_
          refine r_sd (sd_move rfl rfl) rfl rfl ?_
          obtain ⟨x, hx⟩ : ∃ y_, ts[(i).toNat]? = some y_ := ⟨ts[(i).toNat]'(by omega), List.getElem?_eq_getElem _⟩
          have hxm : (ts.map StretchV.cells)[(i).toNat]? = some (StretchV.cells x) := by rw [List.getElem?_map, hx]; rfl
          refine r_sd (sd_ia (k := (i).toNat) rfl rfl rfl (has_at 5 rfl) te22 (by decide) (by omega) (by omega)) rfl rfl ?_
          refine r_sd (sd_fa_rd (k' := ((((i).toNat) * 9) + 1)) rfl rfl (has_at 5 rfl) (Nat.mul_pos (by omega) (by decide)) fo77_1 rfl) rfl rfl ?_
          refine r_sd (sd_fa_rd (k' := ((((i).toNat) * 9) + 1)) rfl rfl (has_at 5 rfl) (Nat.mul_pos (by omega) (by decide)) fo26_0 rfl) rfl rfl ?_
          refine r_sd (sd_ld1 rfl rfl tk3 (at_rd (k := (i).toNat) (o := 1) (vs := [(Value.int .i64 x.Long.Lo)]) (has_at 5 rfl) hxm rfl (by decide) rfl)) rfl rfl ?_
          have hxo := hst x (List.mem_of_getElem? hx)
          have q2 := hxo.2.1
          simp only [SpanOk] at q2
          refine r_sd (sd_bin rfl rfl rfl (b_mul ⟨by omega, by omega⟩)) rfl rfl ?_
          refine r_sd (sd_assign rfl rfl) rfl rfl ?_
          refine r_nil ?_
          refine k_then (hK24 _ _ _ ?_)
          refine w_seq fun K25 hK25 => ?_
          refine w_seq fun K26 hK26 => ?_
          refine w_region ?_
          refine r_sd (sd_move rfl rfl) rfl rfl ?_
          refine r_sd (sd_move rfl rfl) rfl rfl ?_
          refine r_sd (sd_bin rfl rfl rfl (b_rem (by omega) (by omega))) rfl rfl ?_
          refine r_sd (sd_bin rfl rfl rfl b_gtr) rfl rfl ?_
          refine r_nil ?_
          refine k_then (hK26 _ _ _ ?_)
          refine w_if rfl (fun hq => ?_) (fun hq => ?_)
          · -- yes
            replace hq := of_decide_eq_true hq
            refine w_region ?_
            refine r_sd (sd_move rfl rfl) rfl rfl ?_
            refine r_sd (sd_move rfl rfl) rfl rfl ?_
            refine r_sd (sd_bin rfl rfl rfl (b_add ⟨by omega, by omega⟩)) rfl rfl ?_
            refine r_sd (sd_assign rfl rfl) rfl rfl ?_
            refine r_nil ?_
            refine k_then (hK25 _ _ _ ?_)
            refine w_seq fun K27 hK27 => ?_
            refine w_region ?_
            refine r_sd (sd_move rfl rfl) rfl rfl ?_
            refine r_sd (sd_move rfl rfl) rfl rfl ?_
            refine r_sd (sd_bin rfl rfl rfl (b_quo (by omega) (by omega) (by omega))) rfl rfl ?_
            refine r_sd (sd_assign rfl rfl) rfl rfl ?_
            refine r_sd (sd_assign rfl rfl) rfl rfl ?_
            refine r_nil ?_
            refine k_then (hK27 _ _ _ ?_)
            refine w_ret ?_
            refine hQ _ _ _ (l_nil (vs := [(Value.int .i64 (((1000 * x.Long.Lo) + (fastF (inAt true s ts i.toNat))) / (fastF (inAt true s ts i.toNat)))), (Value.int .i64 0)]) ⟨rfl, rfl, trivial⟩ fun w hs => endV ?_ hs)
            show (Value.tuple [(Value.int .i64 (((1000 * x.Long.Lo) + (fastF (inAt true s ts i.toNat))) / (fastF (inAt true s ts i.toNat)))), (Value.int .i64 0)].toArray) = (Value.tuple [(Value.int .i64 (leastV s ts i)), (Value.int .i64 (leastE s ts i))].toArray)
            clear hs w hQ hN hK27 K27 hK26 K26 hK25 K25 hK24 K24 hK22 K22 hK21 K21 hK20 K20 hK15 K15 hK10 K10 hK9 K9 hK8 K8 hK7 K7 hK4 K4 hK1 K1
            first | rw [(least_out (i := i) hb0 (by omega)).1, (least_out (i := i) hb0 (by omega)).2] | rw [(least_none (i := i) hb0 hi hv).1, (least_none (i := i) hb0 hi hv).2] | (have e := least_slide (i := i) hb0 hi (by omega) hx (ceil_yes (by omega) hq); rw [e.1, e.2]) | (have e := least_slide (i := i) hb0 hi (by omega) hx (ceil_no (by omega) (by omega)); rw [e.1, e.2])
          · -- no
            replace hq := of_decide_eq_false hq
            refine w_skip ?_
            refine k_then (hK25 _ _ _ ?_)
            refine w_seq fun K28 hK28 => ?_
            refine w_region ?_
            refine r_sd (sd_move rfl rfl) rfl rfl ?_
            refine r_sd (sd_move rfl rfl) rfl rfl ?_
            refine r_sd (sd_bin rfl rfl rfl (b_quo (by omega) (by omega) (by omega))) rfl rfl ?_
            refine r_sd (sd_assign rfl rfl) rfl rfl ?_
            refine r_sd (sd_assign rfl rfl) rfl rfl ?_
            refine r_nil ?_
            refine k_then (hK28 _ _ _ ?_)
            refine w_ret ?_
            refine hQ _ _ _ (l_nil (vs := [(Value.int .i64 ((1000 * x.Long.Lo) / (fastF (inAt true s ts i.toNat)))), (Value.int .i64 0)]) ⟨rfl, rfl, trivial⟩ fun w hs => endV ?_ hs)
            show (Value.tuple [(Value.int .i64 ((1000 * x.Long.Lo) / (fastF (inAt true s ts i.toNat)))), (Value.int .i64 0)].toArray) = (Value.tuple [(Value.int .i64 (leastV s ts i)), (Value.int .i64 (leastE s ts i))].toArray)
            clear hs w hQ hN hK28 K28 hK26 K26 hK25 K25 hK24 K24 hK22 K22 hK21 K21 hK20 K20 hK15 K15 hK10 K10 hK9 K9 hK8 K8 hK7 K7 hK4 K4 hK1 K1
            first | rw [(least_out (i := i) hb0 (by omega)).1, (least_out (i := i) hb0 (by omega)).2] | rw [(least_none (i := i) hb0 hi hv).1, (least_none (i := i) hb0 hi hv).2] | (have e := least_slide (i := i) hb0 hi (by omega) hx (ceil_yes (by omega) hq); rw [e.1, e.2]) | (have e := least_slide (i := i) hb0 hi (by omega) hx (ceil_no (by omega) (by omega)); rw [e.1, e.2])

theorem least_no_ (ts : List StretchV) (tsA : Option Addr) (tsC : Nat) (s : SledV) (i : Int) (hlen : ts.length ≤ 1000000) (hside : ∀ x ∈ ts, 0 ≤ x.Side ∧ x.Side ≤ 255) (hb : ¬ bothE s ts = 0) :
    FnV Try.prog 24 [(Value.agg (TrackV.cells (TrackV.mk (Slc.mk tsA ts.length tsC))).toArray), (Value.agg (SledV.cells s).toArray), (Value.int .i64 i)] [(rd tsA ts.length 9 (ts.map StretchV.cells))] (Value.tuple [(Value.int .i64 (leastV s ts i)), (Value.int .i64 (leastE s ts i))].toArray) := by
  by_cases htr : trackOk ts = true
  · by_cases hs : SledOk s
    · exact absurd (bothE_ok htr hs) hb
    · exact least_sled ts tsA tsC s i hlen hside htr hs
  · exact least_bad ts tsA tsC s i hlen hside (by simpa using htr)

theorem least_c (ts : List StretchV) (tsA : Option Addr) (tsC : Nat) (s : SledV) (i : Int) (hlen : ts.length ≤ 1000000) (hside : ∀ x ∈ ts, 0 ≤ x.Side ∧ x.Side ≤ 255) :
    FnV Try.prog 24 [(Value.agg (TrackV.cells (TrackV.mk (Slc.mk tsA ts.length tsC))).toArray), (Value.agg (SledV.cells s).toArray), (Value.int .i64 i)] [(rd tsA ts.length 9 (ts.map StretchV.cells))] (Value.tuple [(Value.int .i64 (leastV s ts i)), (Value.int .i64 (leastE s ts i))].toArray) := by
  by_cases hb : bothE s ts = 0
  · obtain ⟨h1, h2⟩ := bothE_zero hb
    exact least_ok ts tsA tsC s i hlen hside h1 h2
  · exact least_no_ ts tsA tsC s i hlen hside hb

set_option maxRecDepth 100000 in
set_option maxHeartbeats 400000 in
theorem rLeast_c (ts : List StretchV) (tsA : Option Addr) (tsC : Nat) (s : SledV) (i : Int) (hlen : ts.length ≤ 1000000) (hside : ∀ x ∈ ts, 0 ≤ x.Side ∧ x.Side ≤ 255) (hc : 0 ≤ s.Class ∧ s.Class ≤ 255) :
    FnV Try.prog 25 [(Value.agg (TrackV.cells (TrackV.mk (Slc.mk tsA ts.length tsC))).toArray), (Value.agg (SledV.cells s).toArray), (Value.int .i64 i)] [(rd tsA ts.length 9 (ts.map StretchV.cells))] (Value.tuple [(Value.int .i64 (leastV s ts i)), (Value.int .i64 (leastE s ts i))].toArray) := by
  refine fnV_of go25 Try.func25 rfl rfl fun w0 Q hQ hN => ?_
  change WJ _ _ _ _ [(0, (Value.agg (TrackV.cells (TrackV.mk (Slc.mk tsA ts.length tsC))).toArray)), (1, (Value.agg (SledV.cells s).toArray)), (2, (Value.int .i64 i))] [(rd tsA ts.length 9 (ts.map StretchV.cells)).ro]
  refine w_seq fun K1 hK1 => ?_
  refine w_region ?_
  refine r_box (cs := (TrackV.cells (TrackV.mk (Slc.mk tsA ts.length tsC)))) rfl rfl rfl rfl fun b2 => ?_
  refine r_box (cs := (SledV.cells s)) rfl rfl rfl rfl fun b3 => ?_
  refine r_sd (sd_assign rfl rfl) rfl rfl ?_
  refine r_sd (sd_assign rfl rfl) rfl rfl ?_
  refine r_nil ?_
  refine k_then (hK1 _ _ _ ?_)
  refine w_seq fun K4 hK4 => ?_
  refine w_seq fun K5 hK5 => ?_
  refine w_region ?_
  refine r_sd (sd_ldn rfl rfl tk24 (at_blk (vs := (TrackV.cells (TrackV.mk (Slc.mk tsA ts.length tsC)))) 1 rfl rfl) rfl) rfl rfl ?_
  refine r_sd (sd_ldn rfl rfl tk28 (at_blk (vs := (SledV.cells s)) 0 rfl rfl) rfl) rfl rfl ?_
  refine r_sd (sd_call rfl rfl rfl rfl (both_c ts tsA tsC s (by first | assumption | omega | (simp; done) | (simp; omega)) (by first | assumption | omega | (simp; done) | (simp; omega))) (ha_at 2 rfl rfl <| ha_nil)) rfl rfl ?_
  refine r_sd (sd_assign rfl rfl) rfl rfl ?_
  refine r_nil ?_
  refine k_then (hK5 _ _ _ ?_)
  refine w_seq fun K6 hK6 => ?_
  refine w_region ?_
  refine r_sd (sd_move rfl rfl) rfl rfl ?_
  refine r_sd (sd_bin rfl rfl rfl b_neq) rfl rfl ?_
  refine r_nil ?_
  refine k_then (hK6 _ _ _ ?_)
  refine w_if rfl (fun he => ?_) (fun he => ?_)
  · -- yes
    rw [Bool.not_eq_true'] at he
    replace he := of_decide_eq_false he
    refine w_seq fun K7 hK7 => ?_
    refine w_region ?_
    refine r_sd (sd_move rfl rfl) rfl rfl ?_
    refine r_sd (sd_assign rfl rfl) rfl rfl ?_
    refine r_sd (sd_assign rfl rfl) rfl rfl ?_
    refine r_nil ?_
    refine k_then (hK7 _ _ _ ?_)
    refine w_ret ?_
    refine hQ _ _ _ (l_nil (vs := [(Value.int .i64 0), (Value.int .i64 (bothE s ts))]) ⟨rfl, rfl, trivial⟩ fun w hs => endV ?_ hs)
    show (Value.tuple [(Value.int .i64 0), (Value.int .i64 (bothE s ts))].toArray) = (Value.tuple [(Value.int .i64 (leastV s ts i)), (Value.int .i64 (leastE s ts i))].toArray)
    clear hs w hQ hN hK7 K7 hK6 K6 hK5 K5 hK4 K4 hK1 K1
    first | rw [(least_no (i := i) he).1, (least_no (i := i) he).2] | rw [(least_out (i := i) he (by omega)).1, (least_out (i := i) he (by omega)).2] | rw [(least_none (i := i) he hi hv).1, (least_none (i := i) he hi hv).2] | rw [(least_in (i := i) he hi hv hx).1, (least_in (i := i) he hi hv hx).2]
  · -- no
    rw [Bool.not_eq_false'] at he
    replace he := of_decide_eq_true he
    refine w_skip ?_
    refine k_then (hK4 _ _ _ ?_)
    refine w_seq fun K8 hK8 => ?_
    refine w_seq fun K9 hK9 => ?_
    refine w_region ?_
    obtain ⟨htr, hs⟩ := bothE_zero he
    have hst := trackOk_all htr
    have hl12 := trackOk_le htr
    refine r_sd (sd_move rfl rfl) rfl rfl ?_
    refine r_sd (sd_fa (o' := 0) rfl rfl fo24_0 rfl) rfl rfl ?_
    refine r_sd (sd_ld1 rfl rfl tk22 (at_blk (vs := [(Value.slice tsA ts.length tsC)]) 1 rfl rfl)) rfl rfl ?_
    refine r_sd (sd_len rfl rfl ut22) rfl rfl ?_
    refine r_sd (sd_bin rfl rfl rfl (b_sub ⟨by omega, by omega⟩)) rfl rfl ?_
    refine r_sd (sd_call rfl rfl rfl rfl (within3_c i 0 (((ts.length : Nat) : Int) - 1)) (ha_nil)) rfl rfl ?_
    refine r_sd (sd_not rfl rfl) rfl rfl ?_
    refine r_nil ?_
    refine k_then (hK9 _ _ _ ?_)
    refine w_if rfl (fun h10 => ?_) (fun h10 => ?_)
    · -- yes
      rw [Bool.not_eq_true'] at h10
      replace h10 := of_decide_eq_false h10
      refine w_seq fun K11 hK11 => ?_
      refine w_region ?_
      refine r_sd (sd_assign rfl rfl) rfl rfl ?_
      refine r_sd (sd_assign rfl rfl) rfl rfl ?_
      refine r_nil ?_
      refine k_then (hK11 _ _ _ ?_)
      refine w_ret ?_
      refine hQ _ _ _ (l_nil (vs := [(Value.int .i64 0), (Value.int .i64 2)]) ⟨rfl, rfl, trivial⟩ fun w hs => endV ?_ hs)
      show (Value.tuple [(Value.int .i64 0), (Value.int .i64 2)].toArray) = (Value.tuple [(Value.int .i64 (leastV s ts i)), (Value.int .i64 (leastE s ts i))].toArray)
      clear hs w hQ hN hK11 K11 hK9 K9 hK8 K8 hK6 K6 hK5 K5 hK4 K4 hK1 K1
      first | rw [(least_no (i := i) he).1, (least_no (i := i) he).2] | rw [(least_out (i := i) he (by omega)).1, (least_out (i := i) he (by omega)).2] | rw [(least_none (i := i) he hi hv).1, (least_none (i := i) he hi hv).2] | rw [(least_in (i := i) he hi hv hx).1, (least_in (i := i) he hi hv hx).2]
    · -- no
      rw [Bool.not_eq_false'] at h10
      replace h10 := of_decide_eq_true h10
      refine w_skip ?_
      refine k_then (hK8 _ _ _ ?_)
      refine w_seq fun K12 hK12 => ?_
      refine w_region ?_
      have hi : 0 ≤ i ∧ i < ts.length := by omega
      have hib := inAt_b (best := true) hs hst (i := i.toNat) (by omega)
      have hfb := fastF_le (h := inAt true s ts i.toNat) hib.1 (by omega)
      refine r_sd (sd_ldn rfl rfl tk24 (at_blk (vs := (TrackV.cells (TrackV.mk (Slc.mk tsA ts.length tsC)))) 1 rfl rfl) rfl) rfl rfl ?_
      refine r_sd (sd_ldn rfl rfl tk28 (at_blk (vs := (SledV.cells s)) 0 rfl rfl) rfl) rfl rfl ?_
      refine r_sd (sd_move rfl rfl) rfl rfl ?_
      refine r_sd (sd_call rfl rfl rfl rfl (inside_c ts tsA tsC s i (by first | assumption | omega | (simp; done) | (simp; omega)) (by first | assumption | omega | (simp; done) | (simp; omega)) (by first | assumption | omega | (simp; done) | (simp; omega)) (by first | assumption | omega | (simp; done) | (simp; omega))) (ha_at 2 rfl rfl <| ha_nil)) rfl rfl ?_
      refine r_sd (sd_field1 (v := (Value.int .i64 (inAt true s ts i.toNat))) rfl rfl fo26_1 tf26_1 rfl) rfl rfl ?_
      refine r_sd (sd_call rfl rfl rfl rfl (fast3_c (inAt true s ts i.toNat) (by first | assumption | omega | (simp; done) | (simp; omega))) (ha_nil)) rfl rfl ?_
      refine r_sd (sd_assign rfl rfl) rfl rfl ?_
      refine r_nil ?_
      refine k_then (hK12 _ _ _ ?_)
      refine w_seq fun K13 hK13 => ?_
      refine w_seq fun K14 hK14 => ?_
      refine w_region ?_
      refine r_sd (sd_move rfl rfl) rfl rfl ?_
      refine r_sd (sd_bin rfl rfl rfl b_eql) rfl rfl ?_
      refine r_nil ?_
      refine k_then (hK14 _ _ _ ?_)
      refine w_if rfl (fun hv => ?_) (fun hv => ?_)
      · -- yes
        replace hv := of_decide_eq_true hv
        refine w_seq fun K15 hK15 => ?_
        refine w_region ?_
        refine r_sd (sd_assign rfl rfl) rfl rfl ?_
        refine r_sd (sd_assign rfl rfl) rfl rfl ?_
        refine r_nil ?_
        refine k_then (hK15 _ _ _ ?_)
        refine w_ret ?_
        refine hQ _ _ _ (l_nil (vs := [(Value.int .i64 0), (Value.int .i64 6)]) ⟨rfl, rfl, trivial⟩ fun w hs => endV ?_ hs)
        show (Value.tuple [(Value.int .i64 0), (Value.int .i64 6)].toArray) = (Value.tuple [(Value.int .i64 (leastV s ts i)), (Value.int .i64 (leastE s ts i))].toArray)
        clear hs w hQ hN hK15 K15 hK14 K14 hK13 K13 hK12 K12 hK9 K9 hK8 K8 hK6 K6 hK5 K5 hK4 K4 hK1 K1
        first | rw [(least_no (i := i) he).1, (least_no (i := i) he).2] | rw [(least_out (i := i) he (by omega)).1, (least_out (i := i) he (by omega)).2] | rw [(least_none (i := i) he hi hv).1, (least_none (i := i) he hi hv).2] | rw [(least_in (i := i) he hi hv hx).1, (least_in (i := i) he hi hv hx).2]
      · -- no
        replace hv := of_decide_eq_false hv
        refine w_skip ?_
        refine k_then (hK13 _ _ _ ?_)
        refine w_seq fun K16 hK16 => ?_
        refine w_region ?_
        refine r_sd (sd_fa (o' := 0) rfl rfl fo24_0 rfl) rfl rfl ?_
        refine r_sd (sd_ld1 rfl rfl tk22 (at_blk (vs := [(Value.slice tsA ts.length tsC)]) 1 rfl rfl)) rfl rfl ?_
        refine r_sd (sd_move rfl rfl) rfl rfl ?_
        obtain ⟨x, hx⟩ : ∃ y_, ts[(i).toNat]? = some y_ := ⟨ts[(i).toNat]'(by omega), List.getElem?_eq_getElem _⟩
        have hxm : (ts.map StretchV.cells)[(i).toNat]? = some (StretchV.cells x) := by rw [List.getElem?_map, hx]; rfl
        refine r_sd (sd_ia (k := (i).toNat) rfl rfl rfl (has_at 2 rfl) te22 (by decide) (by omega) (by omega)) rfl rfl ?_
        refine r_sd (sd_fa_rd (k' := ((((i).toNat) * 9) + 1)) rfl rfl (has_at 2 rfl) (Nat.mul_pos (by omega) (by decide)) fo77_1 rfl) rfl rfl ?_
        refine r_sd (sd_fa_rd (k' := ((((i).toNat) * 9) + 1)) rfl rfl (has_at 2 rfl) (Nat.mul_pos (by omega) (by decide)) fo26_0 rfl) rfl rfl ?_
        have hxo := hst x (List.mem_of_getElem? hx)
        have q2 := hxo.2.1
        simp only [SpanOk] at q2
        refine r_sd (sd_ld1 rfl rfl tk3 (at_rd (k := (i).toNat) (o := 1) (vs := [(Value.int .i64 x.Long.Lo)]) (has_at 2 rfl) hxm rfl (by decide) rfl)) rfl rfl ?_
        refine r_sd (sd_bin rfl rfl rfl (b_mul ⟨by omega, by omega⟩)) rfl rfl ?_
        refine r_sd (sd_move rfl rfl) rfl rfl ?_
        refine r_sd (sd_bin rfl rfl rfl (b_add ⟨by omega, by omega⟩)) rfl rfl ?_
        refine r_sd (sd_bin rfl rfl rfl (b_sub ⟨by omega, by omega⟩)) rfl rfl ?_
        refine r_sd (sd_move rfl rfl) rfl rfl ?_
        refine r_sd (sd_bin rfl rfl rfl (b_quo (by omega) (by omega) (by omega))) rfl rfl ?_
        refine r_sd (sd_assign rfl rfl) rfl rfl ?_
        refine r_sd (sd_assign rfl rfl) rfl rfl ?_
        refine r_nil ?_
        refine k_then (hK16 _ _ _ ?_)
        refine w_ret ?_
        refine hQ _ _ _ (l_nil (vs := [(Value.int .i64 ((((x.Long.Lo * 1000) + (fastF (inAt true s ts i.toNat))) - 1) / (fastF (inAt true s ts i.toNat)))), (Value.int .i64 0)]) ⟨rfl, rfl, trivial⟩ fun w hs => endV ?_ hs)
        show (Value.tuple [(Value.int .i64 ((((x.Long.Lo * 1000) + (fastF (inAt true s ts i.toNat))) - 1) / (fastF (inAt true s ts i.toNat)))), (Value.int .i64 0)].toArray) = (Value.tuple [(Value.int .i64 (leastV s ts i)), (Value.int .i64 (leastE s ts i))].toArray)
        clear hs w hQ hN hK16 K16 hK14 K14 hK13 K13 hK12 K12 hK9 K9 hK8 K8 hK6 K6 hK5 K5 hK4 K4 hK1 K1
        first | rw [(least_no (i := i) he).1, (least_no (i := i) he).2] | rw [(least_out (i := i) he (by omega)).1, (least_out (i := i) he (by omega)).2] | rw [(least_none (i := i) he hi hv).1, (least_none (i := i) he hi hv).2] | rw [(least_in (i := i) he hi hv hx).1, (least_in (i := i) he hi hv hx).2]

end Go.Proofs.Ytpbgdeojcefnmaa
