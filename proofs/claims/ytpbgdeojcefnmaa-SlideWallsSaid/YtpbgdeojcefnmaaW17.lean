/-
  Walks: kreisel/slide.Names$1, kreisel/slide.Names, kreisel/slide.Names, kreisel/slide.Names, kreisel/slide.Names, kreisel/slide.Names, kreisel/kreiselref03.Names
-/
import Derived.Test.YtpbgdeojcefnmaaTab
import Derived.Test.YtpbgdeojcefnmaaSort
import Derived.Test.YtpbgdeojcefnmaaThr
import Derived.Test.YtpbgdeojcefnmaaMono
import Derived.Test.YtpbgdeojcefnmaaW5
import Derived.Test.YtpbgdeojcefnmaaW6
import Derived.Test.YtpbgdeojcefnmaaW9
import Derived.Test.YtpbgdeojcefnmaaW12
import Derived.Test.YtpbgdeojcefnmaaW13
import Derived.Test.YtpbgdeojcefnmaaW16
namespace Go.Proofs.Ytpbgdeojcefnmaa
open Go.RowKit
set_option linter.unusedVariables false

set_option maxRecDepth 100000 in
set_option maxHeartbeats 400000 in
theorem names1_c (h : Int) (s : SledV) (ts : List StretchV) (tsA : Option Addr) (tsC : Nat) (best : Bool) (g1 : Nat) (tl : List Int) (tlA : Option Addr) (tlC : Nat) (g2 : Nat) (g3 : Nat) (k : Int) (x : StretchV) (hs : SledOk s) (hst : ∀ x ∈ ts, StretchOk x) (hlen : ts.length ≤ 12) (hk : tl[0]? = some k) (hk1 : 0 ≤ k ∧ k < ts.length) (hx : ts[k.toNat]? = some x) (hh : 0 ≤ h ∧ h ≤ 1048576) :
    FnV Try.prog 78 [(Value.int .i64 h), (Value.pointer (some ⟨g1, 0, none⟩)), (Value.pointer (some ⟨g2, 0, none⟩)), (Value.pointer (some ⟨g3, 0, none⟩))] [(rd tsA ts.length 9 (ts.map StretchV.cells)), (blk g1 108 (RiderV.cells (RiderV.mk s (TrackV.mk (Slc.mk tsA ts.length tsC)) best))), (rd tlA tl.length 1 (tl.map iC)), (blk g2 61 [(Value.slice tlA tl.length tlC)]), (blk g3 24 (TrackV.cells (TrackV.mk (Slc.mk tsA ts.length tsC))))] (Value.bool (decide (x.Wall < bankF best s x h))) := by
  have htl := (List.getElem?_eq_some_iff.1 hk).1
  refine fnV_of go78 Try.func78 rfl rfl fun w0 Q hQ hN => ?_
  change WJ _ _ _ _ [(0, (Value.int .i64 h)), (1, (Value.pointer (some ⟨g1, 0, none⟩))), (2, (Value.pointer (some ⟨g2, 0, none⟩))), (3, (Value.pointer (some ⟨g3, 0, none⟩)))] [(rd tsA ts.length 9 (ts.map StretchV.cells)).ro, (blk g1 108 (RiderV.cells (RiderV.mk s (TrackV.mk (Slc.mk tsA ts.length tsC)) best))).ro, (rd tlA tl.length 1 (tl.map iC)).ro, (blk g2 61 [(Value.slice tlA tl.length tlC)]).ro, (blk g3 24 (TrackV.cells (TrackV.mk (Slc.mk tsA ts.length tsC)))).ro]
  refine w_seq fun K1 hK1 => ?_
  refine w_region ?_
  refine r_sd (sd_assign rfl rfl) rfl rfl ?_
  refine r_nil ?_
  refine k_then (hK1 _ _ _ ?_)
  refine w_seq fun K2 hK2 => ?_
  refine w_draw mixed 16 (by kernel_rfl) ?_
  refine d_sd (sd_ldn rfl rfl tk108 (at_blkr (vs := (RiderV.cells (RiderV.mk s (TrackV.mk (Slc.mk tsA ts.length tsC)) best))) 1 rfl rfl) rfl) rfl rfl ?_
  refine d_sd (sd_ld1 rfl rfl tk61 (at_blkr (vs := [(Value.slice tlA tl.length tlC)]) 3 rfl rfl)) rfl rfl ?_
  obtain ⟨z, hz⟩ : ∃ y_, tl[0]? = some y_ := ⟨tl[0]'(by omega), List.getElem?_eq_getElem _⟩
  have hzm : (tl.map iC)[0]? = some (iC z) := by rw [List.getElem?_map, hz]; rfl
  refine d_sd (sd_ia (k := 0) rfl rfl rfl (has_at 2 rfl) te61 (by decide) rfl (by omega)) rfl rfl ?_
  have zk : z = k := Option.some.inj (hz.symm.trans hk)
  subst zk
  refine d_sd (sd_ld1 rfl rfl tk3 (at_rd (k := 0) (o := 0) (vs := [(Value.int .i64 z)]) (has_at 2 rfl) hzm rfl (by decide) rfl)) rfl rfl ?_
  refine d_sd (sd_move rfl rfl) rfl rfl ?_
  refine d_sd (sd_call rfl rfl rfl rfl (bank_c s ts tsA tsC best z h x (by first | assumption | omega | (simp; done) | (simp; omega)) (by first | assumption | omega | (simp; done) | (simp; omega)) (by first | assumption | omega | (simp; done) | (simp; omega)) (by first | assumption | omega | (simp; done) | (simp; omega)) (by first | assumption | omega | (simp; done) | (simp; omega)) (by first | assumption | omega | (simp; done) | (simp; omega))) (ha_at 0 rfl rfl <| ha_nil)) rfl rfl ?_
  refine d_sd (sd_fa (o' := 0) rfl rfl fo24_0 rfl) rfl rfl ?_
  refine d_sd (sd_ld1 rfl rfl tk22 (at_blkr (vs := [(Value.slice tsA ts.length tsC)]) 4 rfl rfl)) rfl rfl ?_
  refine d_sd (sd_ld1 rfl rfl tk61 (at_blkr (vs := [(Value.slice tlA tl.length tlC)]) 3 rfl rfl)) rfl rfl ?_
  refine d_sd (sd_ia (k := 0) rfl rfl rfl (has_at 2 rfl) te61 (by decide) rfl (by omega)) rfl rfl ?_
  refine d_sd (sd_ld1 rfl rfl tk3 (at_rd (k := 0) (o := 0) (vs := [(Value.int .i64 z)]) (has_at 2 rfl) hzm rfl (by decide) rfl)) rfl rfl ?_
  obtain ⟨y, hy⟩ : ∃ y_, ts[(z).toNat]? = some y_ := ⟨ts[(z).toNat]'(by omega), List.getElem?_eq_getElem _⟩
  have hym : (ts.map StretchV.cells)[(z).toNat]? = some (StretchV.cells y) := by rw [List.getElem?_map, hy]; rfl
  refine d_sd (sd_ia (k := (z).toNat) rfl rfl rfl (has_at 0 rfl) te22 (by decide) (by omega) (by omega)) rfl rfl ?_
  refine d_sd (sd_fa_rd (k' := ((((z).toNat) * 9) + 8)) rfl rfl (has_at 0 rfl) (Nat.mul_pos (by omega) (by decide)) fo77_5 rfl) rfl rfl ?_
  refine d_sd (sd_ld1 rfl rfl tk3 (at_rd (k := (z).toNat) (o := 8) (vs := [(Value.int .i64 y.Wall)]) (has_at 0 rfl) hym rfl (by decide) rfl)) rfl rfl ?_
  refine d_sd (sd_bin rfl rfl rfl b_gtr) rfl rfl ?_
  refine d_sd (sd_assign rfl rfl) rfl rfl ?_
  refine d_end ?_
  refine r_nil ?_
  refine k_then (hK2 _ _ _ ?_)
  refine w_ret ?_
  refine hQ _ _ _ (l_nil (vs := [(Value.bool (decide (y.Wall < (bankF best s x h))))]) ⟨rfl, trivial⟩ fun w hs => endV ?_ hs)
  show (Value.bool (decide (y.Wall < (bankF best s x h)))) = (Value.bool (decide (x.Wall < bankF best s x h)))
  clear hs w hQ hN hK2 K2 hK1 K1
  obtain rfl : y = x := Option.some.inj (hy.symm.trans hx)
  rfl

set_option maxRecDepth 100000 in
set_option maxHeartbeats 400000 in
theorem names_bad (ts : List StretchV) (tsA : Option Addr) (tsC : Nat) (s : SledV) (hlen : ts.length ≤ 1000000) (hside : ∀ x ∈ ts, 0 ≤ x.Side ∧ x.Side ≤ 255) (htr : trackOk ts = false) :
    FnV Try.prog 32 [(Value.agg (TrackV.cells (TrackV.mk (Slc.mk tsA ts.length tsC))).toArray), (Value.agg (SledV.cells s).toArray)] [(rd tsA ts.length 9 (ts.map StretchV.cells))] (Value.tuple [(Value.int .i64 (namesC s ts)), (Value.int .i64 (namesV s ts)), (Value.int .i64 (namesE s ts))].toArray) := by
  have hb0 : ¬ bothE s ts = 0 := by rw [bothE_bad htr]; decide
  refine fnV_of go32 Try.func32 rfl rfl fun w0 Q hQ hN => ?_
  change WJ _ _ _ _ [(0, (Value.agg (TrackV.cells (TrackV.mk (Slc.mk tsA ts.length tsC))).toArray)), (1, (Value.agg (SledV.cells s).toArray))] [(rd tsA ts.length 9 (ts.map StretchV.cells)).ro]
  refine w_seq fun K1 hK1 => ?_
  refine w_region ?_
  refine r_box (cs := (TrackV.cells (TrackV.mk (Slc.mk tsA ts.length tsC)))) rfl rfl rfl rfl fun b2 => ?_
  refine r_box (cs := (SledV.cells s)) rfl rfl rfl rfl fun b3 => ?_
  refine r_sd (sd_assign rfl rfl) rfl rfl ?_
  refine r_sd (sd_assign rfl rfl) rfl rfl ?_
  refine r_sd (sd_assign rfl rfl) rfl rfl ?_
  refine r_nil ?_
  refine k_then (hK1 _ _ _ ?_)
  refine w_seq fun K4 hK4 => ?_
  refine w_region ?_
  refine r_sd (sd_ldn rfl rfl tk24 (at_blk (vs := (TrackV.cells (TrackV.mk (Slc.mk tsA ts.length tsC)))) 1 rfl rfl) rfl) rfl rfl ?_
  refine r_sd (sd_ldn rfl rfl tk28 (at_blk (vs := (SledV.cells s)) 0 rfl rfl) rfl) rfl rfl ?_
  refine r_sd (sd_call rfl rfl rfl rfl (open_bad ts tsA tsC s (by first | assumption | omega | (simp; done) | (simp; omega)) (by first | assumption | omega | (simp; done) | (simp; omega)) (by first | assumption | omega | (simp; done) | (simp; omega))) (ha_at 2 rfl rfl <| ha_nil)) rfl rfl ?_
  refine r_sd (sd_move rfl rfl) rfl rfl ?_
  refine r_sd (sd_extract rfl rfl rfl) rfl rfl ?_
  refine r_sd (sd_extract rfl rfl rfl) rfl rfl ?_
  refine r_sd (sd_extract rfl rfl rfl) rfl rfl ?_
  refine r_alloc rfl tz108 rfl fun b5 => ?_
  refine r_alloc rfl tz108 rfl fun b6 => ?_
  refine r_store (vs := (RiderV.cells (RiderV.mk (SledV.mk 0 (SpanV.mk 0 0) (SpanV.mk 0 0) (SpanV.mk 0 0) (SpanV.mk 0 0) (SpanV.mk 0 0)) (TrackV.mk (Slc.mk none 0 0)) false))) (cs' := (RiderV.cells (RiderV.mk (SledV.mk 0 (SpanV.mk 0 0) (SpanV.mk 0 0) (SpanV.mk 0 0) (SpanV.mk 0 0) (SpanV.mk 0 0)) (TrackV.mk (Slc.mk none 0 0)) false))) (C' := [_, (blk b5 108 (RiderV.cells (RiderV.mk (SledV.mk 0 (SpanV.mk 0 0) (SpanV.mk 0 0) (SpanV.mk 0 0) (SpanV.mk 0 0) (SpanV.mk 0 0)) (TrackV.mk (Slc.mk none 0 0)) false))), _, _, _]) 1 rfl rfl rfl ts108 rfl rfl rfl rfl rfl rfl rfl ?_
  refine r_store (vs := (RiderV.cells (RiderV.mk (SledV.mk 0 (SpanV.mk 0 0) (SpanV.mk 0 0) (SpanV.mk 0 0) (SpanV.mk 0 0) (SpanV.mk 0 0)) (TrackV.mk (Slc.mk none 0 0)) false))) (cs' := (RiderV.cells (RiderV.mk (SledV.mk 0 (SpanV.mk 0 0) (SpanV.mk 0 0) (SpanV.mk 0 0) (SpanV.mk 0 0) (SpanV.mk 0 0)) (TrackV.mk (Slc.mk none 0 0)) false))) (C' := [(blk b6 108 (RiderV.cells (RiderV.mk (SledV.mk 0 (SpanV.mk 0 0) (SpanV.mk 0 0) (SpanV.mk 0 0) (SpanV.mk 0 0) (SpanV.mk 0 0)) (TrackV.mk (Slc.mk none 0 0)) false))), _, _, _, _]) 0 rfl rfl rfl ts108 rfl rfl rfl rfl rfl rfl rfl ?_
  refine r_sd (sd_assign rfl rfl) rfl rfl ?_
  refine r_nil ?_
  refine k_then (hK4 _ _ _ ?_)
  refine w_seq fun K7 hK7 => ?_
  refine w_seq fun K8 hK8 => ?_
  refine w_region ?_
  refine r_sd (sd_move rfl rfl) rfl rfl ?_
  refine r_sd (sd_bin rfl rfl rfl b_neq) rfl rfl ?_
  refine r_nil ?_
  refine k_then (hK8 _ _ _ ?_)
  refine w_if rfl (fun he => ?_) (fun he => ?_)
  · -- yes
    rw [Bool.not_eq_true'] at he
    replace he := of_decide_eq_false he
    refine w_seq fun K9 hK9 => ?_
    refine w_region ?_
    refine r_sd (sd_move rfl rfl) rfl rfl ?_
    refine r_sd (sd_assign rfl rfl) rfl rfl ?_
    refine r_sd (sd_assign rfl rfl) rfl rfl ?_
    refine r_sd (sd_assign rfl rfl) rfl rfl ?_
    refine r_nil ?_
    refine k_then (hK9 _ _ _ ?_)
    refine w_ret ?_
    refine hQ _ _ _ (l_nil (vs := [(Value.int .i64 0), (Value.int .i64 0), (Value.int .i64 (bothE s ts))]) ⟨rfl, rfl, rfl, trivial⟩ fun w hs => endV ?_ hs)
    show (Value.tuple [(Value.int .i64 0), (Value.int .i64 0), (Value.int .i64 (bothE s ts))].toArray) = (Value.tuple [(Value.int .i64 (namesC s ts)), (Value.int .i64 (namesV s ts)), (Value.int .i64 (namesE s ts))].toArray)
    clear hs w hQ hN hK9 K9 hK8 K8 hK7 K7 hK4 K4 hK1 K1
    rw [(names_no hb0).1, (names_no hb0).2.1, (names_no hb0).2.2]
  · -- no
    rw [Bool.not_eq_false'] at he
    replace he := of_decide_eq_true he
    exact absurd he hb0

set_option maxRecDepth 100000 in
set_option maxHeartbeats 400000 in
theorem names_sled (ts : List StretchV) (tsA : Option Addr) (tsC : Nat) (s : SledV) (hlen : ts.length ≤ 1000000) (hside : ∀ x ∈ ts, 0 ≤ x.Side ∧ x.Side ≤ 255) (htr : trackOk ts = true) (hns : ¬ SledOk s) :
    FnV Try.prog 32 [(Value.agg (TrackV.cells (TrackV.mk (Slc.mk tsA ts.length tsC))).toArray), (Value.agg (SledV.cells s).toArray)] [(rd tsA ts.length 9 (ts.map StretchV.cells))] (Value.tuple [(Value.int .i64 (namesC s ts)), (Value.int .i64 (namesV s ts)), (Value.int .i64 (namesE s ts))].toArray) := by
  have hb0 : ¬ bothE s ts = 0 := by rw [bothE_sled htr hns]; decide
  refine fnV_of go32 Try.func32 rfl rfl fun w0 Q hQ hN => ?_
  change WJ _ _ _ _ [(0, (Value.agg (TrackV.cells (TrackV.mk (Slc.mk tsA ts.length tsC))).toArray)), (1, (Value.agg (SledV.cells s).toArray))] [(rd tsA ts.length 9 (ts.map StretchV.cells)).ro]
  refine w_seq fun K1 hK1 => ?_
  refine w_region ?_
  refine r_box (cs := (TrackV.cells (TrackV.mk (Slc.mk tsA ts.length tsC)))) rfl rfl rfl rfl fun b2 => ?_
  refine r_box (cs := (SledV.cells s)) rfl rfl rfl rfl fun b3 => ?_
  refine r_sd (sd_assign rfl rfl) rfl rfl ?_
  refine r_sd (sd_assign rfl rfl) rfl rfl ?_
  refine r_sd (sd_assign rfl rfl) rfl rfl ?_
  refine r_nil ?_
  refine k_then (hK1 _ _ _ ?_)
  refine w_seq fun K4 hK4 => ?_
  refine w_region ?_
  refine r_sd (sd_ldn rfl rfl tk24 (at_blk (vs := (TrackV.cells (TrackV.mk (Slc.mk tsA ts.length tsC)))) 1 rfl rfl) rfl) rfl rfl ?_
  refine r_sd (sd_ldn rfl rfl tk28 (at_blk (vs := (SledV.cells s)) 0 rfl rfl) rfl) rfl rfl ?_
  refine r_sd (sd_call rfl rfl rfl rfl (open_ok ts tsA tsC s (by first | assumption | omega | (simp; done) | (simp; omega)) (by first | assumption | omega | (simp; done) | (simp; omega)) (by first | assumption | omega | (simp; done) | (simp; omega))) (ha_at 2 rfl rfl <| ha_nil)) rfl rfl ?_
  refine r_sd (sd_move rfl rfl) rfl rfl ?_
  refine r_sd (sd_extract rfl rfl rfl) rfl rfl ?_
  refine r_sd (sd_extract rfl rfl rfl) rfl rfl ?_
  refine r_sd (sd_extract rfl rfl rfl) rfl rfl ?_
  refine r_alloc rfl tz108 rfl fun b5 => ?_
  refine r_alloc rfl tz108 rfl fun b6 => ?_
  refine r_store (vs := (RiderV.cells (RiderV.mk s (TrackV.mk (Slc.mk tsA ts.length tsC)) false))) (cs' := (RiderV.cells (RiderV.mk s (TrackV.mk (Slc.mk tsA ts.length tsC)) false))) (C' := [_, (blk b5 108 (RiderV.cells (RiderV.mk s (TrackV.mk (Slc.mk tsA ts.length tsC)) false))), _, _, _]) 1 rfl rfl rfl ts108 rfl rfl rfl rfl rfl rfl rfl ?_
  refine r_store (vs := (RiderV.cells (RiderV.mk s (TrackV.mk (Slc.mk tsA ts.length tsC)) true))) (cs' := (RiderV.cells (RiderV.mk s (TrackV.mk (Slc.mk tsA ts.length tsC)) true))) (C' := [(blk b6 108 (RiderV.cells (RiderV.mk s (TrackV.mk (Slc.mk tsA ts.length tsC)) true))), _, _, _, _]) 0 rfl rfl rfl ts108 rfl rfl rfl rfl rfl rfl rfl ?_
  refine r_sd (sd_assign rfl rfl) rfl rfl ?_
  refine r_nil ?_
  refine k_then (hK4 _ _ _ ?_)
  refine w_seq fun K7 hK7 => ?_
  refine w_seq fun K8 hK8 => ?_
  refine w_region ?_
  refine r_sd (sd_move rfl rfl) rfl rfl ?_
  refine r_sd (sd_bin rfl rfl rfl b_neq) rfl rfl ?_
  refine r_nil ?_
  refine k_then (hK8 _ _ _ ?_)
  refine w_if rfl (fun he => ?_) (fun he => ?_)
  · -- yes
    rw [Bool.not_eq_true'] at he
    replace he := of_decide_eq_false he
    refine w_seq fun K9 hK9 => ?_
    refine w_region ?_
    refine r_sd (sd_move rfl rfl) rfl rfl ?_
    refine r_sd (sd_assign rfl rfl) rfl rfl ?_
    refine r_sd (sd_assign rfl rfl) rfl rfl ?_
    refine r_sd (sd_assign rfl rfl) rfl rfl ?_
    refine r_nil ?_
    refine k_then (hK9 _ _ _ ?_)
    refine w_ret ?_
    refine hQ _ _ _ (l_nil (vs := [(Value.int .i64 0), (Value.int .i64 0), (Value.int .i64 (bothE s ts))]) ⟨rfl, rfl, rfl, trivial⟩ fun w hs => endV ?_ hs)
    show (Value.tuple [(Value.int .i64 0), (Value.int .i64 0), (Value.int .i64 (bothE s ts))].toArray) = (Value.tuple [(Value.int .i64 (namesC s ts)), (Value.int .i64 (namesV s ts)), (Value.int .i64 (namesE s ts))].toArray)
    clear hs w hQ hN hK9 K9 hK8 K8 hK7 K7 hK4 K4 hK1 K1
    rw [(names_no hb0).1, (names_no hb0).2.1, (names_no hb0).2.2]
  · -- no
    rw [Bool.not_eq_false'] at he
    replace he := of_decide_eq_true he
    exact absurd he hb0

set_option maxRecDepth 100000 in
set_option maxHeartbeats 400000 in
theorem names_ok (ts : List StretchV) (tsA : Option Addr) (tsC : Nat) (s : SledV) (hlen : ts.length ≤ 1000000) (hside : ∀ x ∈ ts, 0 ≤ x.Side ∧ x.Side ≤ 255) (htr : trackOk ts = true) (hs : SledOk s) :
    FnV Try.prog 32 [(Value.agg (TrackV.cells (TrackV.mk (Slc.mk tsA ts.length tsC))).toArray), (Value.agg (SledV.cells s).toArray)] [(rd tsA ts.length 9 (ts.map StretchV.cells))] (Value.tuple [(Value.int .i64 (namesC s ts)), (Value.int .i64 (namesV s ts)), (Value.int .i64 (namesE s ts))].toArray) := by
  have hb0 := bothE_ok htr hs
  have hst := trackOk_all htr
  have hl12 := trackOk_le htr
  have hl1 := trackOk_pos htr
  have hside2 := hside
  refine fnV_of go32 Try.func32 rfl rfl fun w0 Q hQ hN => ?_
  change WJ _ _ _ _ [(0, (Value.agg (TrackV.cells (TrackV.mk (Slc.mk tsA ts.length tsC))).toArray)), (1, (Value.agg (SledV.cells s).toArray))] [(rd tsA ts.length 9 (ts.map StretchV.cells)).ro]
  refine w_seq fun K1 hK1 => ?_
  refine w_region ?_
  refine r_box (cs := (TrackV.cells (TrackV.mk (Slc.mk tsA ts.length tsC)))) rfl rfl rfl rfl fun b2 => ?_
  refine r_box (cs := (SledV.cells s)) rfl rfl rfl rfl fun b3 => ?_
  refine r_sd (sd_assign rfl rfl) rfl rfl ?_
  refine r_sd (sd_assign rfl rfl) rfl rfl ?_
  refine r_sd (sd_assign rfl rfl) rfl rfl ?_
  refine r_nil ?_
  refine k_then (hK1 _ _ _ ?_)
  refine w_seq fun K4 hK4 => ?_
  refine w_region ?_
  refine r_sd (sd_ldn rfl rfl tk24 (at_blk (vs := (TrackV.cells (TrackV.mk (Slc.mk tsA ts.length tsC)))) 1 rfl rfl) rfl) rfl rfl ?_
  refine r_sd (sd_ldn rfl rfl tk28 (at_blk (vs := (SledV.cells s)) 0 rfl rfl) rfl) rfl rfl ?_
  refine r_sd (sd_call rfl rfl rfl rfl (open_ok ts tsA tsC s (by first | assumption | omega | (simp; done) | (simp; omega)) (by first | assumption | omega | (simp; done) | (simp; omega)) (by first | assumption | omega | (simp; done) | (simp; omega))) (ha_at 2 rfl rfl <| ha_nil)) rfl rfl ?_
  refine r_sd (sd_move rfl rfl) rfl rfl ?_
  refine r_sd (sd_extract rfl rfl rfl) rfl rfl ?_
  refine r_sd (sd_extract rfl rfl rfl) rfl rfl ?_
  refine r_sd (sd_extract rfl rfl rfl) rfl rfl ?_
  refine r_alloc rfl tz108 rfl fun b5 => ?_
  refine r_alloc rfl tz108 rfl fun b6 => ?_
  refine r_store (vs := (RiderV.cells (RiderV.mk s (TrackV.mk (Slc.mk tsA ts.length tsC)) false))) (cs' := (RiderV.cells (RiderV.mk s (TrackV.mk (Slc.mk tsA ts.length tsC)) false))) (C' := [_, (blk b5 108 (RiderV.cells (RiderV.mk s (TrackV.mk (Slc.mk tsA ts.length tsC)) false))), _, _, _]) 1 rfl rfl rfl ts108 rfl rfl rfl rfl rfl rfl rfl ?_
  refine r_store (vs := (RiderV.cells (RiderV.mk s (TrackV.mk (Slc.mk tsA ts.length tsC)) true))) (cs' := (RiderV.cells (RiderV.mk s (TrackV.mk (Slc.mk tsA ts.length tsC)) true))) (C' := [(blk b6 108 (RiderV.cells (RiderV.mk s (TrackV.mk (Slc.mk tsA ts.length tsC)) true))), _, _, _, _]) 0 rfl rfl rfl ts108 rfl rfl rfl rfl rfl rfl rfl ?_
  refine r_sd (sd_assign rfl rfl) rfl rfl ?_
  refine r_nil ?_
  refine k_then (hK4 _ _ _ ?_)
  refine w_seq fun K7 hK7 => ?_
  refine w_seq fun K8 hK8 => ?_
  refine w_region ?_
  refine r_sd (sd_move rfl rfl) rfl rfl ?_
  refine r_sd (sd_bin rfl rfl rfl b_neq) rfl rfl ?_
  refine r_nil ?_
  refine k_then (hK8 _ _ _ ?_)
  refine w_if rfl (fun he => ?_) (fun he => ?_)
  · -- yes
    rw [Bool.not_eq_true'] at he
    replace he := of_decide_eq_false he
    exact absurd hb0 he
  · -- no
    rw [Bool.not_eq_false'] at he
    replace he := of_decide_eq_true he
    refine w_skip ?_
    refine k_then (hK7 _ _ _ ?_)
    refine w_seq fun K9 hK9 => ?_
    refine w_region ?_
    refine r_sd (sd_ldn rfl rfl tk108 (at_blk (vs := (RiderV.cells (RiderV.mk s (TrackV.mk (Slc.mk tsA ts.length tsC)) true))) 0 rfl rfl) rfl) rfl rfl ?_
    refine r_call rfl rfl rfl rfl (thrown_c s ts tsA tsC true (by first | assumption | omega | (simp; done) | (simp; omega)) (by first | assumption | omega | (simp; done) | (simp; omega)) (by first | assumption | omega | (simp; done) | (simp; omega)) (by first | assumption | omega | (simp; done) | (simp; omega))) (ha_at 4 rfl rfl <| ha_nil) rfl (fun y10 hy11 => ?_)
    obtain ⟨a12, c13⟩ := y10
    change RJ _ _ _ _ _ ((_, (Value.slice a12 ((thr true s ts).length) c13)) :: _) ((own a12 c13 3 1 ((thr true s ts).map iC)) :: _)
    refine r_alloc rfl tz61 rfl fun b14 => ?_
    refine r_store (vs := [(Value.slice a12 ((thr true s ts).length) c13)]) (cs' := [(Value.slice a12 ((thr true s ts).length) c13)]) (C' := [(blk b14 61 [(Value.slice a12 ((thr true s ts).length) c13)]), _, _, _, _, _, _]) 0 rfl rfl rfl ts61 rfl rfl rfl rfl rfl rfl rfl ?_
    refine r_nil ?_
    refine k_then (hK9 _ _ _ ?_)
    refine w_seq fun K15 hK15 => ?_
    refine w_seq fun K16 hK16 => ?_
    refine w_region ?_
    refine r_sd (sd_ld1 rfl rfl tk61 (at_blk (vs := [(Value.slice a12 ((thr true s ts).length) c13)]) 0 rfl rfl)) rfl rfl ?_
    refine r_sd (sd_len rfl rfl ut61) rfl rfl ?_
    refine r_sd (sd_bin rfl rfl rfl b_eql) rfl rfl ?_
    refine r_nil ?_
    refine k_then (hK16 _ _ _ ?_)
    refine w_if rfl (fun hz0 => ?_) (fun hz0 => ?_)
    · -- yes
      replace hz0 := of_decide_eq_true hz0
      refine w_seq fun K17 hK17 => ?_
      refine w_region ?_
      refine r_sd (sd_assign rfl rfl) rfl rfl ?_
      refine r_sd (sd_assign rfl rfl) rfl rfl ?_
      refine r_sd (sd_assign rfl rfl) rfl rfl ?_
      refine r_nil ?_
      refine k_then (hK17 _ _ _ ?_)
      refine w_ret ?_
      refine hQ _ _ _ (l_nil (vs := [(Value.int .i64 0), (Value.int .i64 0), (Value.int .i64 6)]) ⟨rfl, rfl, rfl, trivial⟩ fun w hs => endV ?_ hs)
      show (Value.tuple [(Value.int .i64 0), (Value.int .i64 0), (Value.int .i64 6)].toArray) = (Value.tuple [(Value.int .i64 (namesC s ts)), (Value.int .i64 (namesV s ts)), (Value.int .i64 (namesE s ts))].toArray)
      clear hs w hQ hN hK17 K17 hK16 K16 hK15 K15 hK9 K9 hK8 K8 hK7 K7 hK4 K4 hK1 K1
      first | (have e := names_none (s := s) hb0 (List.eq_nil_of_length_eq_zero (by omega)); rw [e.1, e.2.1, e.2.2]) | (have e := names_some hb0 hk hx; rw [e.1, e.2.1, e.2.2])
    · -- no
      replace hz0 := of_decide_eq_false hz0
      refine w_skip ?_
      refine k_then (hK15 _ _ _ ?_)
      refine w_seq fun K18 hK18 => ?_
      refine w_region ?_
      obtain ⟨k, hk⟩ : ∃ k, (thr true s ts)[0]? = some k := ⟨(thr true s ts)[0]'(by omega), List.getElem?_eq_getElem _⟩
      obtain ⟨hk0, hk1, htb⟩ := thr_at hk
      obtain ⟨x, hx⟩ : ∃ x, ts[k.toNat]? = some x := ⟨ts[k.toNat]'(by omega), List.getElem?_eq_getElem _⟩
      have hnh := nameH_le hs hst (by omega) hx htb
      have hib := inAt_b (best := true) hs hst (i := k.toNat) (by omega)
      refine r_sd (sd_func rfl rfl rfl) rfl rfl ?_
      refine r_sd (sd_call rfl rfl rfl rfl (first_c 0 1048576 (Value.func (.func 78) [].toArray [(Value.pointer (some ⟨b6, 0, none⟩)), (Value.pointer (some ⟨b14, 0, none⟩)), (Value.pointer (some ⟨b2, 0, none⟩))].toArray) (fun u19 => (decide (x.Wall < bankF true s x u19))) (bun [(rd tsA ts.length 9 (ts.map StretchV.cells)), (blk b6 108 (RiderV.cells (RiderV.mk s (TrackV.mk (Slc.mk tsA ts.length tsC)) true))), (rd a12 ((thr true s ts).length) 1 ((thr true s ts).map iC)), (blk b14 61 [(Value.slice a12 ((thr true s ts).length) c13)]), (blk b2 24 (TrackV.cells (TrackV.mk (Slc.mk tsA ts.length tsC))))]) (nameH s x) (by intro u19 _; exact clo_of (fi := []) (ca := [(Value.pointer (some ⟨b6, 0, none⟩)), (Value.pointer (some ⟨b14, 0, none⟩)), (Value.pointer (some ⟨b2, 0, none⟩))]) (fnV_bun (names1_c u19 s ts tsA tsC true b6 (thr true s ts) a12 c13 b14 b2 k x (by first | assumption | omega) (by first | assumption | omega) (by first | assumption | omega) (by first | assumption | omega) (by first | assumption | omega) (by first | assumption | omega) (by first | assumption | omega)) (ha_at 0 rfl rfl <| ha_at 1 rfl rfl <| ha_at 2 rfl rfl <| ha_at 3 rfl rfl <| ha_at 4 rfl rfl <| ha_nil))) (by first | assumption | omega | (simp; done) | (simp; omega)) (by intro y _ hy; exact firstN_no (p := nameP s x) (n := 1048576) (by omega) hy) (by intro y hy hy2; exact firstN_yes (p := nameP s x) (n := 1048576) (nameP_mono (hst x (List.mem_of_getElem? hx))) hy (by omega))) (ha_cons (has_bun (ha_at 6 rfl rfl <| ha_at 2 rfl rfl <| ha_cons (has_own_n (n := (thr true s ts).length) 1 rfl (by simp)) <| ha_at 0 rfl rfl <| ha_at 5 rfl rfl <| ha_nil)) <| ha_nil)) rfl rfl ?_
      refine r_sd (sd_assign rfl rfl) rfl rfl ?_
      refine r_nil ?_
      refine k_then (hK18 _ _ _ ?_)
      refine w_seq fun K20 hK20 => ?_
      refine w_draw mixed 8 (by kernel_rfl) ?_
      refine d_sd (sd_ld1 rfl rfl tk61 (at_blk (vs := [(Value.slice a12 ((thr true s ts).length) c13)]) 0 rfl rfl)) rfl rfl ?_
      obtain ⟨kk, hkk⟩ : ∃ y_, (thr true s ts)[0]? = some y_ := ⟨(thr true s ts)[0]'(by omega), List.getElem?_eq_getElem _⟩
      have hkkm : ((thr true s ts).map iC)[0]? = some (iC kk) := by rw [List.getElem?_map, hkk]; rfl
      refine d_sd (sd_ia (k := 0) rfl rfl rfl (has_own_n (n := (thr true s ts).length) 1 rfl (by simp)) te61 (by decide) rfl (by omega)) rfl rfl ?_
      have kkk : kk = k := Option.some.inj (hkk.symm.trans hk)
      subst kkk
      refine d_sd (sd_ld1 rfl rfl tk3 (at_rd (k := 0) (o := 0) (vs := [(Value.int .i64 kk)]) (has_own_n (n := (thr true s ts).length) 1 rfl (by simp)) hkkm rfl (by decide) rfl)) rfl rfl ?_
      refine d_sd (sd_move rfl rfl) rfl rfl ?_
      refine d_sd (sd_call rfl rfl rfl rfl (slow_c (nameH s x) (by first | assumption | omega | (simp; done) | (simp; omega))) (ha_nil)) rfl rfl ?_
      refine d_sd (sd_assign rfl rfl) rfl rfl ?_
      refine d_sd (sd_assign rfl rfl) rfl rfl ?_
      refine d_sd (sd_assign rfl rfl) rfl rfl ?_
      refine d_end ?_
      refine r_nil ?_
      refine k_then (hK20 _ _ _ ?_)
      refine w_ret ?_
      refine hQ _ _ _ (l_nil (vs := [(Value.int .i64 kk), (Value.int .i64 (slowF (nameH s x))), (Value.int .i64 0)]) ⟨rfl, rfl, rfl, trivial⟩ fun w hs => endV ?_ hs)
      show (Value.tuple [(Value.int .i64 kk), (Value.int .i64 (slowF (nameH s x))), (Value.int .i64 0)].toArray) = (Value.tuple [(Value.int .i64 (namesC s ts)), (Value.int .i64 (namesV s ts)), (Value.int .i64 (namesE s ts))].toArray)
      clear hs w hQ hN hK20 K20 hK18 K18 hK16 K16 hK15 K15 hK9 K9 hK8 K8 hK7 K7 hK4 K4 hK1 K1
      first | (have e := names_none (s := s) hb0 (List.eq_nil_of_length_eq_zero (by omega)); rw [e.1, e.2.1, e.2.2]) | (have e := names_some hb0 hk hx; rw [e.1, e.2.1, e.2.2])

theorem names_no_ (ts : List StretchV) (tsA : Option Addr) (tsC : Nat) (s : SledV) (hlen : ts.length ≤ 1000000) (hside : ∀ x ∈ ts, 0 ≤ x.Side ∧ x.Side ≤ 255) (hb : ¬ bothE s ts = 0) :
    FnV Try.prog 32 [(Value.agg (TrackV.cells (TrackV.mk (Slc.mk tsA ts.length tsC))).toArray), (Value.agg (SledV.cells s).toArray)] [(rd tsA ts.length 9 (ts.map StretchV.cells))] (Value.tuple [(Value.int .i64 (namesC s ts)), (Value.int .i64 (namesV s ts)), (Value.int .i64 (namesE s ts))].toArray) := by
  by_cases htr : trackOk ts = true
  · by_cases hs : SledOk s
    · exact absurd (bothE_ok htr hs) hb
    · exact names_sled ts tsA tsC s hlen hside htr hs
  · exact names_bad ts tsA tsC s hlen hside (by simpa using htr)

theorem names_c (ts : List StretchV) (tsA : Option Addr) (tsC : Nat) (s : SledV) (hlen : ts.length ≤ 1000000) (hside : ∀ x ∈ ts, 0 ≤ x.Side ∧ x.Side ≤ 255) :
    FnV Try.prog 32 [(Value.agg (TrackV.cells (TrackV.mk (Slc.mk tsA ts.length tsC))).toArray), (Value.agg (SledV.cells s).toArray)] [(rd tsA ts.length 9 (ts.map StretchV.cells))] (Value.tuple [(Value.int .i64 (namesC s ts)), (Value.int .i64 (namesV s ts)), (Value.int .i64 (namesE s ts))].toArray) := by
  by_cases hb : bothE s ts = 0
  · obtain ⟨h1, h2⟩ := bothE_zero hb
    exact names_ok ts tsA tsC s hlen hside h1 h2
  · exact names_no_ ts tsA tsC s hlen hside hb

set_option maxRecDepth 100000 in
set_option maxHeartbeats 400000 in
theorem rNames_c (ts : List StretchV) (tsA : Option Addr) (tsC : Nat) (s : SledV) (hlen : ts.length ≤ 1000000) (hside : ∀ x ∈ ts, 0 ≤ x.Side ∧ x.Side ≤ 255) (hc : 0 ≤ s.Class ∧ s.Class ≤ 255) :
    FnV Try.prog 33 [(Value.agg (TrackV.cells (TrackV.mk (Slc.mk tsA ts.length tsC))).toArray), (Value.agg (SledV.cells s).toArray)] [(rd tsA ts.length 9 (ts.map StretchV.cells))] (Value.tuple [(Value.int .i64 (namesC s ts)), (Value.int .i64 (namesV s ts)), (Value.int .i64 (namesE s ts))].toArray) := by
  refine fnV_of go33 Try.func33 rfl rfl fun w0 Q hQ hN => ?_
  change WJ _ _ _ _ [(0, (Value.agg (TrackV.cells (TrackV.mk (Slc.mk tsA ts.length tsC))).toArray)), (1, (Value.agg (SledV.cells s).toArray))] [(rd tsA ts.length 9 (ts.map StretchV.cells)).ro]
  refine w_seq fun K1 hK1 => ?_
  refine w_region ?_
  refine r_box (cs := (TrackV.cells (TrackV.mk (Slc.mk tsA ts.length tsC)))) rfl rfl rfl rfl fun b2 => ?_
  refine r_box (cs := (SledV.cells s)) rfl rfl rfl rfl fun b3 => ?_
  refine r_sd (sd_assign rfl rfl) rfl rfl ?_
  refine r_sd (sd_assign rfl rfl) rfl rfl ?_
  refine r_sd (sd_assign rfl rfl) rfl rfl ?_
  refine r_nil ?_
  refine k_then (hK1 _ _ _ ?_)
  refine w_seq fun K4 hK4 => ?_
  refine w_seq fun K5 hK5 => ?_
  refine w_region ?_
  refine r_sd (sd_ldn rfl rfl tk24 (at_blk (vs := (TrackV.cells (TrackV.mk (Slc.mk tsA ts.length tsC)))) 1 rfl rfl) rfl) rfl rfl ?_
  refine r_sd (sd_ldn rfl rfl tk28 (at_blk (vs := (SledV.cells s)) 0 rfl rfl) rfl) rfl rfl ?_
  refine r_sd (sd_call rfl rfl rfl rfl (both_c ts tsA tsC s (by first | assumption | omega | (simp; done) | (simp; omega)) (by first | assumption | omega | (simp; done) | (simp; omega))) (ha_at 2 rfl rfl <| ha_nil)) rfl rfl ?_
  refine r_sd (sd_assign rfl rfl) rfl rfl ?_
  refine r_nil ?_
  refine k_then (hK5 _ _ _ ?_)
  refine w_seq fun K6 hK6 => ?_
  refine w_region ?_
  refine r_sd (sd_move rfl rfl) rfl rfl ?_
  refine r_sd (sd_bin rfl rfl rfl b_neq) rfl rfl ?_
  refine r_nil ?_
  refine k_then (hK6 _ _ _ ?_)
  refine w_if rfl (fun he => ?_) (fun he => ?_)
  · -- yes
    rw [Bool.not_eq_true'] at he
    replace he := of_decide_eq_false he
    refine w_seq fun K7 hK7 => ?_
    refine w_region ?_
    refine r_sd (sd_move rfl rfl) rfl rfl ?_
    refine r_sd (sd_assign rfl rfl) rfl rfl ?_
    refine r_sd (sd_assign rfl rfl) rfl rfl ?_
    refine r_sd (sd_assign rfl rfl) rfl rfl ?_
    refine r_nil ?_
    refine k_then (hK7 _ _ _ ?_)
    refine w_ret ?_
    refine hQ _ _ _ (l_nil (vs := [(Value.int .i64 0), (Value.int .i64 0), (Value.int .i64 (bothE s ts))]) ⟨rfl, rfl, rfl, trivial⟩ fun w hs => endV ?_ hs)
    show (Value.tuple [(Value.int .i64 0), (Value.int .i64 0), (Value.int .i64 (bothE s ts))].toArray) = (Value.tuple [(Value.int .i64 (namesC s ts)), (Value.int .i64 (namesV s ts)), (Value.int .i64 (namesE s ts))].toArray)
    clear hs w hQ hN hK7 K7 hK6 K6 hK5 K5 hK4 K4 hK1 K1
    first | (have e := names_no he; rw [e.1, e.2.1, e.2.2]) | (have e := names_ref he hl5_1 (by omega) hx htb (by omega) (by omega) hl10_1 (by have e2 : lo = hi := (by omega); rw [e2]; exact hl10_2); rw [e.1, e.2.1, e.2.2]) | (have e := names_none (s := s) he (thr_nil.2 (by have e2 : i = ts.length := (by omega); rw [← e2]; exact hl5_1)); rw [e.1, e.2.1, e.2.2])
  · -- no
    rw [Bool.not_eq_false'] at he
    replace he := of_decide_eq_true he
    refine w_skip ?_
    refine k_then (hK4 _ _ _ ?_)
    refine w_seq fun K8 hK8 => ?_
    refine w_seq fun K9 hK9 => ?_
    refine w_region ?_
    obtain ⟨htr, hs⟩ := bothE_zero he
    have hst := trackOk_all htr
    have hl12 := trackOk_le htr
    refine r_sd (sd_assign rfl rfl) rfl rfl ?_
    refine r_nil ?_
    refine k_then (hK9 _ _ _ ?_)
    refine w_block ?_
    have hinit : (0 ≤ ts.length) ∧ (noThr true s ts 0) := by exact ⟨Nat.zero_le _, noThr_zero⟩
    refine w_loop (ι := { z : Nat // (z ≤ ts.length) ∧ (noThr true s ts z) }) (fun z => [(2, (Value.pointer (some ⟨b2, 0, none⟩))), (3, (Value.pointer (some ⟨b3, 0, none⟩))), (8, (Value.int .i64 ((z.1 : Nat) : Int)))]) (fun z => [(blk b3 28 (SledV.cells s)), (blk b2 24 (TrackV.cells (TrackV.mk (Slc.mk tsA ts.length tsC)))), (rd tsA ts.length 9 (ts.map StretchV.cells)).ro]) (fun z => ts.length - z.1) ⟨0, hinit⟩ (Sub.cons rfl <| Sub.cons rfl <| Sub.cons rfl <| Sub.nil _) (fun w hs => St.sel [0, 1, 2] rfl rfl hs) ?_
    clear hinit
    rintro ⟨i, ⟨hl5_0, hl5_1⟩⟩ J10 hJ10
    change WJ _ _ _ _ [(2, (Value.pointer (some ⟨b2, 0, none⟩))), (3, (Value.pointer (some ⟨b3, 0, none⟩))), (8, (Value.int .i64 ((i : Nat) : Int)))] [(blk b3 28 (SledV.cells s)), (blk b2 24 (TrackV.cells (TrackV.mk (Slc.mk tsA ts.length tsC)))), (rd tsA ts.length 9 (ts.map StretchV.cells)).ro]
    refine w_seq fun K11 hK11 => ?_
    refine w_seq fun K12 hK12 => ?_
    refine w_region ?_
    refine r_sd (sd_move rfl rfl) rfl rfl ?_
    refine r_sd (sd_fa (o' := 0) rfl rfl fo24_0 rfl) rfl rfl ?_
    refine r_sd (sd_ld1 rfl rfl tk22 (at_blk (vs := [(Value.slice tsA ts.length tsC)]) 1 rfl rfl)) rfl rfl ?_
    refine r_sd (sd_len rfl rfl ut22) rfl rfl ?_
    refine r_sd (sd_bin rfl rfl rfl b_lss) rfl rfl ?_
    refine r_nil ?_
    refine k_then (hK12 _ _ _ ?_)
    refine w_if rfl (fun h13 => ?_) (fun h13 => ?_)
    · -- yes
      replace h13 := of_decide_eq_true h13
      refine w_skip ?_
      refine k_then (hK11 _ _ _ ?_)
      refine w_seq fun K14 hK14 => ?_
      refine w_block ?_
      refine w_seq fun K15 hK15 => ?_
      refine w_region ?_
      refine r_sd (sd_fa (o' := 0) rfl rfl fo24_0 rfl) rfl rfl ?_
      refine r_sd (sd_ld1 rfl rfl tk22 (at_blk (vs := [(Value.slice tsA ts.length tsC)]) 1 rfl rfl)) rfl rfl ?_
      refine r_sd (sd_move rfl rfl) rfl rfl ?_
      obtain ⟨x, hx⟩ : ∃ y_, ts[i]? = some y_ := ⟨ts[i]'(by omega), List.getElem?_eq_getElem _⟩
      have hxm : (ts.map StretchV.cells)[i]? = some (StretchV.cells x) := by rw [List.getElem?_map, hx]; rfl
      refine r_sd (sd_ia (k := i) rfl rfl rfl (has_at 2 rfl) te22 (by decide) (by omega) (by omega)) rfl rfl ?_
      refine r_sd (sd_ldn rfl rfl tk77 (at_rd (k := i) (o := 0) (vs := (StretchV.cells x)) (has_at 2 rfl) hxm rfl (by decide) rfl) rfl) rfl rfl ?_
      refine r_alloc rfl tz77 rfl fun b16 => ?_
      refine r_store (vs := (StretchV.cells x)) (cs' := (StretchV.cells x)) (C' := [(blk b16 77 (StretchV.cells x)), _, _, _]) 0 rfl rfl rfl ts77 rfl rfl rfl rfl rfl rfl rfl ?_
      refine r_nil ?_
      refine k_then (hK15 _ _ _ ?_)
      refine w_seq fun K17 hK17 => ?_
      refine w_seq fun K18 hK18 => ?_
      refine w_draw mixed 14 (by kernel_rfl) ?_
      refine d_sd (sd_ldn rfl rfl tk24 (at_blk (vs := (TrackV.cells (TrackV.mk (Slc.mk tsA ts.length tsC)))) 2 rfl rfl) rfl) rfl rfl ?_
      refine d_sd (sd_move rfl rfl) rfl rfl ?_
      refine d_sd (sd_call rfl rfl rfl rfl (curve_c ts tsA tsC ((i : Nat) : Int) (by first | assumption | omega | (simp; done) | (simp; omega)) (by first | assumption | omega | (simp; done) | (simp; omega))) (ha_at 3 rfl rfl <| ha_nil)) rfl rfl ?_
      refine d_sd (sd_not rfl rfl) rfl rfl ?_
      refine d_sd (sd_move rfl rfl) rfl rfl ?_
      refine d_bool (t := 35) rfl (fun hc => ?_) (fun hc => ?_)
      · -- yes
        rw [Bool.not_eq_true'] at hc
        refine d_sd (sd_off rfl) rfl rfl ?_
        refine d_sd (sd_off rfl) rfl rfl ?_
        refine d_sd (sd_off rfl) rfl rfl ?_
        refine d_sd (sd_off rfl) rfl rfl ?_
        refine d_sd (sd_off rfl) rfl rfl ?_
        refine d_sd (sd_off rfl) rfl rfl ?_
        refine d_sd (sd_off rfl) rfl rfl ?_
        refine d_sd (sd_off rfl) rfl rfl ?_
        refine d_sd (sd_pick_t rfl rfl rfl) rfl rfl ?_
        refine d_end ?_
        refine r_nil ?_
        refine k_then (hK18 _ _ _ ?_)
        refine w_if_true rfl ?_
        refine w_exit ?_
        refine k_exit_then ?_
        refine k_exit_same ?_
        refine k_then (hK14 _ _ _ ?_)
        refine w_region ?_
        refine r_sd (sd_move rfl rfl) rfl rfl ?_
        refine r_sd (sd_bin rfl rfl rfl (b_add ⟨by omega, by omega⟩)) rfl rfl ?_
        obtain ⟨htr, hs⟩ := bothE_zero he
        have hst := trackOk_all htr
        have hl12 := trackOk_le htr
        refine r_sd (sd_assign rfl rfl) rfl rfl ?_
        refine r_nil ?_
        have hb19 : (Value.int .i64 (((i + 1) : Nat) : Int)) = (Value.int .i64 (((i : Nat) : Int) + 1)) := by exact congrArg (Value.int .i64) (by omega)
        refine k_then (hJ10 ⟨(i + 1), ⟨by omega, noThr_succ hl5_1 (by first | exact thrB_straight hc | exact thrB_no hx (by omega))⟩⟩ _ _ _ rfl (by first | omega | (simp; omega)) (Sub.cons rfl <| Sub.cons rfl <| sub_val rfl hb19 <| Sub.nil _) (fun w hs => St.sel [1, 2, 3] rfl rfl hs))
      · -- no
        rw [Bool.not_eq_false'] at hc
        refine d_sd (sd_ldn rfl rfl tk24 (at_blk (vs := (TrackV.cells (TrackV.mk (Slc.mk tsA ts.length tsC)))) 2 rfl rfl) rfl) rfl rfl ?_
        refine d_sd (sd_ldn rfl rfl tk28 (at_blk (vs := (SledV.cells s)) 1 rfl rfl) rfl) rfl rfl ?_
        refine d_sd (sd_move rfl rfl) rfl rfl ?_
        refine d_sd (sd_call rfl rfl rfl rfl (rheight_c ts tsA tsC s ((i : Nat) : Int) (by first | assumption | omega | (simp; done) | (simp; omega)) (by first | assumption | omega | (simp; done) | (simp; omega)) (by first | assumption | omega | (simp; done) | (simp; omega)) (by first | assumption | omega | (simp; done) | (simp; omega))) (ha_at 3 rfl rfl <| ha_nil)) rfl rfl ?_
        refine d_sd (sd_field1 (v := (Value.int .i64 (hgt true s ts ((i : Nat) : Int).toNat))) rfl rfl fo26_1 tf26_1 rfl) rfl rfl ?_
        refine d_sd (sd_fa (o' := 8) rfl rfl fo77_5 rfl) rfl rfl ?_
        refine d_sd (sd_ld1 rfl rfl tk3 (at_blk (vs := [(Value.int .i64 x.Wall)]) 0 rfl rfl)) rfl rfl ?_
        refine d_sd (sd_bin rfl rfl rfl b_leq) rfl rfl ?_
        refine d_sd (sd_pick_f rfl rfl rfl) rfl rfl ?_
        refine d_end ?_
        refine r_nil ?_
        refine k_then (hK18 _ _ _ ?_)
        refine w_if rfl (fun hw => ?_) (fun hw => ?_)
        · -- yes
          replace hw := of_decide_eq_true hw
          refine w_exit ?_
          refine k_exit_then ?_
          refine k_exit_same ?_
          refine k_then (hK14 _ _ _ ?_)
          refine w_region ?_
          refine r_sd (sd_move rfl rfl) rfl rfl ?_
          refine r_sd (sd_bin rfl rfl rfl (b_add ⟨by omega, by omega⟩)) rfl rfl ?_
          obtain ⟨htr, hs⟩ := bothE_zero he
          have hst := trackOk_all htr
          have hl12 := trackOk_le htr
          refine r_sd (sd_assign rfl rfl) rfl rfl ?_
          refine r_nil ?_
          have hb20 : (Value.int .i64 (((i + 1) : Nat) : Int)) = (Value.int .i64 (((i : Nat) : Int) + 1)) := by exact congrArg (Value.int .i64) (by omega)
          refine k_then (hJ10 ⟨(i + 1), ⟨by omega, noThr_succ hl5_1 (by first | exact thrB_straight hc | exact thrB_no hx (by omega))⟩⟩ _ _ _ rfl (by first | omega | (simp; omega)) (Sub.cons rfl <| Sub.cons rfl <| sub_val rfl hb20 <| Sub.nil _) (fun w hs => St.sel [1, 2, 3] rfl rfl hs))
        · -- no
          replace hw := of_decide_eq_false hw
          refine w_skip ?_
          refine k_then (hK17 _ _ _ ?_)
          refine w_seq fun K21 hK21 => ?_
          refine w_region ?_
          have htb := thrB_yes (best := true) (s := s) hx hc (by omega)
          have hib := inAt_b (best := true) hs hst (i := i) (by omega)
          have hns := (thrB_out hx htb).1
          have hxo := hst x (List.mem_of_getElem? hx)
          have hrc := radius_c hxo hns
          have q6 := hs.2.2.2.2.2
          simp only [SpanOk] at q6
          refine r_sd (sd_ldn rfl rfl tk24 (at_blk (vs := (TrackV.cells (TrackV.mk (Slc.mk tsA ts.length tsC)))) 2 rfl rfl) rfl) rfl rfl ?_
          refine r_sd (sd_ldn rfl rfl tk28 (at_blk (vs := (SledV.cells s)) 1 rfl rfl) rfl) rfl rfl ?_
          refine r_sd (sd_move rfl rfl) rfl rfl ?_
          refine r_sd (sd_call rfl rfl rfl rfl (inside_c ts tsA tsC s ((i : Nat) : Int) (by first | assumption | omega | (simp; done) | (simp; omega)) (by first | assumption | omega | (simp; done) | (simp; omega)) (by first | assumption | omega | (simp; done) | (simp; omega)) (by first | assumption | omega | (simp; done) | (simp; omega))) (ha_at 3 rfl rfl <| ha_nil)) rfl rfl ?_
          refine r_sd (sd_field1 (v := (Value.int .i64 (inAt true s ts ((i : Nat) : Int).toNat))) rfl rfl fo26_1 tf26_1 rfl) rfl rfl ?_
          refine r_sd (sd_assign rfl rfl) rfl rfl ?_
          refine r_sd (sd_assign rfl rfl) rfl rfl ?_
          refine r_nil ?_
          refine k_then (hK21 _ _ _ ?_)
          refine w_seq fun K22 hK22 => ?_
          refine w_block ?_
          have hinit : (0 ≤ (0 : Int) ∧ (0 : Int) ≤ (inAt true s ts ((i : Nat) : Int).toNat) ∧ (inAt true s ts ((i : Nat) : Int).toNat) ≤ 270000) ∧ (∀ y, 0 ≤ y → y < (0 : Int) → nameP s x y = false) ∧ (nameP s x (inAt true s ts ((i : Nat) : Int).toNat) = true) := by exact ⟨by simp only [Int.toNat_natCast]; omega, fun y h0 h1 => by omega, by simpa using nameP_in hx htb⟩
          refine w_loop (ι := { z : Int × Int // (0 ≤ z.1 ∧ z.1 ≤ z.2 ∧ z.2 ≤ 270000) ∧ (∀ y, 0 ≤ y → y < z.1 → nameP s x y = false) ∧ (nameP s x z.2 = true) }) (fun z => [(2, (Value.pointer (some ⟨b2, 0, none⟩))), (3, (Value.pointer (some ⟨b3, 0, none⟩))), (8, (Value.int .i64 ((i : Nat) : Int))), (9, (Value.pointer (some ⟨b16, 0, none⟩))), (10, (Value.int .i64 z.1.1)), (11, (Value.int .i64 z.1.2))]) (fun z => [(blk b16 77 (StretchV.cells x)), (blk b3 28 (SledV.cells s)), (blk b2 24 (TrackV.cells (TrackV.mk (Slc.mk tsA ts.length tsC)))), (rd tsA ts.length 9 (ts.map StretchV.cells)).ro]) (fun z => (z.1.2 - z.1.1).toNat) ⟨((0 : Int), (inAt true s ts ((i : Nat) : Int).toNat)), hinit⟩ (Sub.cons rfl <| Sub.cons rfl <| Sub.cons rfl <| Sub.cons rfl <| Sub.cons rfl <| Sub.cons rfl <| Sub.nil _) (fun w hs => St.sel [0, 1, 2, 3] rfl rfl hs) ?_
          clear hinit
          rintro ⟨⟨lo, hi⟩, ⟨hl10_0, hl10_1, hl10_2⟩⟩ J23 hJ23
          try dsimp only at hl10_0 hl10_1 hl10_2
          change WJ _ _ _ _ [(2, (Value.pointer (some ⟨b2, 0, none⟩))), (3, (Value.pointer (some ⟨b3, 0, none⟩))), (8, (Value.int .i64 ((i : Nat) : Int))), (9, (Value.pointer (some ⟨b16, 0, none⟩))), (10, (Value.int .i64 lo)), (11, (Value.int .i64 hi))] [(blk b16 77 (StretchV.cells x)), (blk b3 28 (SledV.cells s)), (blk b2 24 (TrackV.cells (TrackV.mk (Slc.mk tsA ts.length tsC)))), (rd tsA ts.length 9 (ts.map StretchV.cells)).ro]
          refine w_seq fun K24 hK24 => ?_
          refine w_seq fun K25 hK25 => ?_
          refine w_region ?_
          refine r_sd (sd_move rfl rfl) rfl rfl ?_
          refine r_sd (sd_move rfl rfl) rfl rfl ?_
          refine r_sd (sd_bin rfl rfl rfl b_lss) rfl rfl ?_
          refine r_nil ?_
          refine k_then (hK25 _ _ _ ?_)
          refine w_if rfl (fun h26 => ?_) (fun h26 => ?_)
          · -- yes
            replace h26 := of_decide_eq_true h26
            refine w_skip ?_
            refine k_then (hK24 _ _ _ ?_)
            refine w_block ?_
            refine w_seq fun K27 hK27 => ?_
            refine w_region ?_
            refine r_sd (sd_move rfl rfl) rfl rfl ?_
            refine r_sd (sd_move rfl rfl) rfl rfl ?_
            refine r_sd (sd_bin rfl rfl rfl (b_add ⟨by omega, by omega⟩)) rfl rfl ?_
            refine r_sd (sd_bin rfl rfl rfl (b_quo (by omega) (by omega) (by omega))) rfl rfl ?_
            refine r_sd (sd_assign rfl rfl) rfl rfl ?_
            refine r_nil ?_
            refine k_then (hK27 _ _ _ ?_)
            refine w_seq fun K28 hK28 => ?_
            refine w_draw mixed 14 (by kernel_rfl) ?_
            refine d_sd (sd_move rfl rfl) rfl rfl ?_
            have m3 := divb (a := 1200 * ((lo + hi) / 2)) (b := 10 * x.Radius.Lo) (A := 480000000) (by omega) (by omega) (by omega)
            refine d_sd (sd_bin rfl rfl rfl (b_mul ⟨by omega, by omega⟩)) rfl rfl ?_
            refine d_sd (sd_fa (o' := 5) rfl rfl fo77_3 rfl) rfl rfl ?_
            refine d_sd (sd_fa (o' := 5) rfl rfl fo26_0 rfl) rfl rfl ?_
            refine d_sd (sd_ld1 rfl rfl tk3 (at_blk (vs := [(Value.int .i64 x.Radius.Lo)]) 0 rfl rfl)) rfl rfl ?_
            refine d_sd (sd_bin rfl rfl rfl (b_mul ⟨by omega, by omega⟩)) rfl rfl ?_
            refine d_sd (sd_bin rfl rfl rfl (b_quo (by omega) (by omega) (by omega))) rfl rfl ?_
            refine d_sd (sd_fa (o' := 9) rfl rfl fo28_5 rfl) rfl rfl ?_
            refine d_sd (sd_fa (o' := 10) rfl rfl fo26_1 rfl) rfl rfl ?_
            refine d_sd (sd_ld1 rfl rfl tk3 (at_blk (vs := [(Value.int .i64 s.Steer.Hi)]) 1 rfl rfl)) rfl rfl ?_
            refine d_sd (sd_bin rfl rfl rfl (b_add ⟨by omega, by omega⟩)) rfl rfl ?_
            refine d_sd (sd_fa (o' := 8) rfl rfl fo77_5 rfl) rfl rfl ?_
            refine d_sd (sd_ld1 rfl rfl tk3 (at_blk (vs := [(Value.int .i64 x.Wall)]) 0 rfl rfl)) rfl rfl ?_
            refine d_sd (sd_bin rfl rfl rfl b_gtr) rfl rfl ?_
            refine d_end ?_
            refine r_nil ?_
            refine k_then (hK28 _ _ _ ?_)
            refine w_if rfl (fun hp => ?_) (fun hp => ?_)
            · -- yes
              replace hp := of_decide_eq_true hp
              refine w_region ?_
              refine r_sd (sd_move rfl rfl) rfl rfl ?_
              refine r_sd (sd_assign rfl rfl) rfl rfl ?_
              refine r_nil ?_
              refine k_block ?_
              refine k_then (hJ23 ⟨(lo, ((lo + hi) / 2)), (by first | exact ⟨by simp only []; omega, hl10_1, by rw [nameP_eq (by omega)]; exact decide_eq_true hp⟩ | exact ⟨by simp only []; omega, nameP_upto hxo (by rw [nameP_eq (by omega)]; exact decide_eq_false hp), hl10_2⟩)⟩ _ _ _ rfl (by simp only []; omega) (Sub.cons rfl <| Sub.cons rfl <| Sub.cons rfl <| Sub.cons rfl <| Sub.cons rfl <| Sub.cons rfl <| Sub.nil _) (fun w hs => St.sel [0, 1, 2, 3] rfl rfl hs))
            · -- no
              replace hp := of_decide_eq_false hp
              refine w_region ?_
              refine r_sd (sd_move rfl rfl) rfl rfl ?_
              refine r_sd (sd_bin rfl rfl rfl (b_add ⟨by omega, by omega⟩)) rfl rfl ?_
              refine r_sd (sd_assign rfl rfl) rfl rfl ?_
              refine r_nil ?_
              refine k_block ?_
              refine k_then (hJ23 ⟨((((lo + hi) / 2) + 1), hi), (by first | exact ⟨by simp only []; omega, hl10_1, by rw [nameP_eq (by omega)]; exact decide_eq_true hp⟩ | exact ⟨by simp only []; omega, nameP_upto hxo (by rw [nameP_eq (by omega)]; exact decide_eq_false hp), hl10_2⟩)⟩ _ _ _ rfl (by simp only []; omega) (Sub.cons rfl <| Sub.cons rfl <| Sub.cons rfl <| Sub.cons rfl <| Sub.cons rfl <| Sub.cons rfl <| Sub.nil _) (fun w hs => St.sel [0, 1, 2, 3] rfl rfl hs))
          · -- no
            replace h26 := of_decide_eq_false h26
            refine w_exit ?_
            refine k_exit_then ?_
            refine k_exit_then ?_
            refine k_exit_same ?_
            refine k_then (hK22 _ _ _ ?_)
            refine w_seq fun K29 hK29 => ?_
            refine w_region ?_
            refine r_sd (sd_move rfl rfl) rfl rfl ?_
            refine r_sd (sd_move rfl rfl) rfl rfl ?_
            refine r_sd (sd_call rfl rfl rfl rfl (slow3_c lo (by first | assumption | omega | (simp; done) | (simp; omega))) (ha_nil)) rfl rfl ?_
            refine r_sd (sd_assign rfl rfl) rfl rfl ?_
            refine r_sd (sd_assign rfl rfl) rfl rfl ?_
            refine r_sd (sd_assign rfl rfl) rfl rfl ?_
            refine r_nil ?_
            refine k_then (hK29 _ _ _ ?_)
            refine w_ret ?_
            refine hQ _ _ _ (l_nil (vs := [(Value.int .i64 ((i : Nat) : Int)), (Value.int .i64 (slowF lo)), (Value.int .i64 0)]) ⟨rfl, rfl, rfl, trivial⟩ fun w hs => endV ?_ hs)
            show (Value.tuple [(Value.int .i64 ((i : Nat) : Int)), (Value.int .i64 (slowF lo)), (Value.int .i64 0)].toArray) = (Value.tuple [(Value.int .i64 (namesC s ts)), (Value.int .i64 (namesV s ts)), (Value.int .i64 (namesE s ts))].toArray)
            clear hs w hQ hN hK29 K29 hK25 K25 hK24 K24 hK22 K22 hK21 K21 hK18 K18 hK17 K17 hK15 K15 hK14 K14 hK12 K12 hK11 K11 hK9 K9 hK8 K8 hK6 K6 hK5 K5 hK4 K4 hK1 K1
            first | (have e := names_no he; rw [e.1, e.2.1, e.2.2]) | (have e := names_ref he hl5_1 (by omega) hx htb (by omega) (by omega) hl10_1 (by have e2 : lo = hi := (by omega); rw [e2]; exact hl10_2); rw [e.1, e.2.1, e.2.2]) | (have e := names_none (s := s) he (thr_nil.2 (by have e2 : i = ts.length := (by omega); rw [← e2]; exact hl5_1)); rw [e.1, e.2.1, e.2.2])
    · -- no
      replace h13 := of_decide_eq_false h13
      refine w_exit ?_
      refine k_exit_then ?_
      refine k_exit_then ?_
      refine k_exit_same ?_
      refine k_then (hK8 _ _ _ ?_)
      refine w_seq fun K30 hK30 => ?_
      refine w_region ?_
      refine r_sd (sd_assign rfl rfl) rfl rfl ?_
      refine r_sd (sd_assign rfl rfl) rfl rfl ?_
      refine r_sd (sd_assign rfl rfl) rfl rfl ?_
      refine r_nil ?_
      refine k_then (hK30 _ _ _ ?_)
      refine w_ret ?_
      refine hQ _ _ _ (l_nil (vs := [(Value.int .i64 0), (Value.int .i64 0), (Value.int .i64 6)]) ⟨rfl, rfl, rfl, trivial⟩ fun w hs => endV ?_ hs)
      show (Value.tuple [(Value.int .i64 0), (Value.int .i64 0), (Value.int .i64 6)].toArray) = (Value.tuple [(Value.int .i64 (namesC s ts)), (Value.int .i64 (namesV s ts)), (Value.int .i64 (namesE s ts))].toArray)
      clear hs w hQ hN hK30 K30 hK12 K12 hK11 K11 hK9 K9 hK8 K8 hK6 K6 hK5 K5 hK4 K4 hK1 K1
      first | (have e := names_no he; rw [e.1, e.2.1, e.2.2]) | (have e := names_ref he hl5_1 (by omega) hx htb (by omega) (by omega) hl10_1 (by have e2 : lo = hi := (by omega); rw [e2]; exact hl10_2); rw [e.1, e.2.1, e.2.2]) | (have e := names_none (s := s) he (thr_nil.2 (by have e2 : i = ts.length := (by omega); rw [← e2]; exact hl5_1)); rw [e.1, e.2.1, e.2.2])

end Go.Proofs.Ytpbgdeojcefnmaa
