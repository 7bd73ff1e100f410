/-
  Walks: kreisel/slide.Heads, kreisel/slide.Heads, kreisel/slide.Heads, kreisel/slide.Heads, kreisel/slide.Heads
-/
import Derived.Test.YtpbgdeojcefnmaaTab
import Derived.Test.YtpbgdeojcefnmaaSort
import Derived.Test.YtpbgdeojcefnmaaW7
import Derived.Test.YtpbgdeojcefnmaaW9
namespace Go.Proofs.Ytpbgdeojcefnmaa
open Go.RowKit
set_option linter.unusedVariables false

set_option maxRecDepth 100000 in
set_option maxHeartbeats 400000 in
theorem heads_bad (ts : List StretchV) (tsA : Option Addr) (tsC : Nat) (s : SledV) (hlen : ts.length ≤ 1000000) (hside : ∀ x ∈ ts, 0 ≤ x.Side ∧ x.Side ≤ 255) (htr : trackOk ts = false) :
    FnV Try.prog 18 [(Value.agg (TrackV.cells (TrackV.mk (Slc.mk tsA ts.length tsC))).toArray), (Value.agg (SledV.cells s).toArray)] [(rd tsA ts.length 9 (ts.map StretchV.cells))] (Value.tuple [(Value.slice none 0 0), (Value.int .i64 (bothE s ts))].toArray) := by
  have hb0 : ¬ bothE s ts = 0 := by rw [bothE_bad htr]; decide
  refine fnV_of go18 Try.func18 rfl rfl fun w0 Q hQ hN => ?_
  change WJ _ _ _ _ [(0, (Value.agg (TrackV.cells (TrackV.mk (Slc.mk tsA ts.length tsC))).toArray)), (1, (Value.agg (SledV.cells s).toArray))] [(rd tsA ts.length 9 (ts.map StretchV.cells)).ro]
  refine w_seq fun K1 hK1 => ?_
  refine w_region ?_
  refine r_box (cs := (TrackV.cells (TrackV.mk (Slc.mk tsA ts.length tsC)))) rfl rfl rfl rfl fun b2 => ?_
  refine r_box (cs := (SledV.cells s)) rfl rfl rfl rfl fun b3 => ?_
  refine r_sd (sd_assign rfl rfl) rfl rfl ?_
  refine r_sd (sd_assign rfl rfl) rfl rfl ?_
  refine r_nil ?_
  refine k_then (hK1 _ _ _ ?_)
  refine w_seq fun K4 hK4 => ?_
  refine w_region ?_
  refine r_sd (sd_ldn rfl rfl tk24 (at_blk (vs := (TrackV.cells (TrackV.mk (Slc.mk tsA ts.length tsC)))) 1 rfl rfl) rfl) rfl rfl ?_
  refine r_sd (sd_ldn rfl rfl tk28 (at_blk (vs := (SledV.cells s)) 0 rfl rfl) rfl) rfl rfl ?_
  refine r_sd (sd_call rfl rfl rfl rfl (open_bad ts tsA tsC s (by first | assumption | omega | (simp; done) | (simp; omega)) (by first | assumption | omega | (simp; done) | (simp; omega)) (by first | assumption | omega | (simp; done) | (simp; omega))) (ha_at 2 rfl rfl <| ha_nil)) rfl rfl ?_
  refine r_sd (sd_move rfl rfl) rfl rfl ?_
  refine r_sd (sd_extract rfl rfl rfl) rfl rfl ?_
  refine r_sd (sd_extract rfl rfl rfl) rfl rfl ?_
  refine r_sd (sd_extract rfl rfl rfl) rfl rfl ?_
  refine r_alloc rfl tz108 rfl fun b5 => ?_
  refine r_alloc rfl tz108 rfl fun b6 => ?_
  refine r_store (vs := (RiderV.cells (RiderV.mk (SledV.mk 0 (SpanV.mk 0 0) (SpanV.mk 0 0) (SpanV.mk 0 0) (SpanV.mk 0 0) (SpanV.mk 0 0)) (TrackV.mk (Slc.mk none 0 0)) false))) (cs' := (RiderV.cells (RiderV.mk (SledV.mk 0 (SpanV.mk 0 0) (SpanV.mk 0 0) (SpanV.mk 0 0) (SpanV.mk 0 0) (SpanV.mk 0 0)) (TrackV.mk (Slc.mk none 0 0)) false))) (C' := [_, (blk b5 108 (RiderV.cells (RiderV.mk (SledV.mk 0 (SpanV.mk 0 0) (SpanV.mk 0 0) (SpanV.mk 0 0) (SpanV.mk 0 0) (SpanV.mk 0 0)) (TrackV.mk (Slc.mk none 0 0)) false))), _, _, _]) 1 rfl rfl rfl ts108 rfl rfl rfl rfl rfl rfl rfl ?_
  refine r_store (vs := (RiderV.cells (RiderV.mk (SledV.mk 0 (SpanV.mk 0 0) (SpanV.mk 0 0) (SpanV.mk 0 0) (SpanV.mk 0 0) (SpanV.mk 0 0)) (TrackV.mk (Slc.mk none 0 0)) false))) (cs' := (RiderV.cells (RiderV.mk (SledV.mk 0 (SpanV.mk 0 0) (SpanV.mk 0 0) (SpanV.mk 0 0) (SpanV.mk 0 0) (SpanV.mk 0 0)) (TrackV.mk (Slc.mk none 0 0)) false))) (C' := [(blk b6 108 (RiderV.cells (RiderV.mk (SledV.mk 0 (SpanV.mk 0 0) (SpanV.mk 0 0) (SpanV.mk 0 0) (SpanV.mk 0 0) (SpanV.mk 0 0)) (TrackV.mk (Slc.mk none 0 0)) false))), _, _, _, _]) 0 rfl rfl rfl ts108 rfl rfl rfl rfl rfl rfl rfl ?_
  refine r_sd (sd_assign rfl rfl) rfl rfl ?_
  refine r_nil ?_
  refine k_then (hK4 _ _ _ ?_)
  refine w_seq fun K7 hK7 => ?_
  refine w_seq fun K8 hK8 => ?_
  refine w_region ?_
  refine r_sd (sd_move rfl rfl) rfl rfl ?_
  refine r_sd (sd_bin rfl rfl rfl b_neq) rfl rfl ?_
  refine r_nil ?_
  refine k_then (hK8 _ _ _ ?_)
  refine w_if rfl (fun he => ?_) (fun he => ?_)
  · -- yes
    rw [Bool.not_eq_true'] at he
    replace he := of_decide_eq_false he
    refine w_seq fun K9 hK9 => ?_
    refine w_region ?_
    refine r_sd (sd_move rfl rfl) rfl rfl ?_
    refine r_sd (sd_assign rfl rfl) rfl rfl ?_
    refine r_sd (sd_assign rfl rfl) rfl rfl ?_
    refine r_nil ?_
    refine k_then (hK9 _ _ _ ?_)
    refine w_ret ?_
    refine hQ _ _ _ (l_nil (vs := [(Value.slice none 0 0), (Value.int .i64 (bothE s ts))]) ⟨rfl, rfl, trivial⟩ fun w hs => endV ?_ hs)
    show (Value.tuple [(Value.slice none 0 0), (Value.int .i64 (bothE s ts))].toArray) = (Value.tuple [(Value.slice none 0 0), (Value.int .i64 (bothE s ts))].toArray)
    clear hs w hQ hN hK9 K9 hK8 K8 hK7 K7 hK4 K4 hK1 K1
    rfl
  · -- no
    rw [Bool.not_eq_false'] at he
    replace he := of_decide_eq_true he
    exact absurd he hb0

set_option maxRecDepth 100000 in
set_option maxHeartbeats 400000 in
theorem heads_sled (ts : List StretchV) (tsA : Option Addr) (tsC : Nat) (s : SledV) (hlen : ts.length ≤ 1000000) (hside : ∀ x ∈ ts, 0 ≤ x.Side ∧ x.Side ≤ 255) (htr : trackOk ts = true) (hns : ¬ SledOk s) :
    FnV Try.prog 18 [(Value.agg (TrackV.cells (TrackV.mk (Slc.mk tsA ts.length tsC))).toArray), (Value.agg (SledV.cells s).toArray)] [(rd tsA ts.length 9 (ts.map StretchV.cells))] (Value.tuple [(Value.slice none 0 0), (Value.int .i64 (bothE s ts))].toArray) := by
  have hb0 : ¬ bothE s ts = 0 := by rw [bothE_sled htr hns]; decide
  refine fnV_of go18 Try.func18 rfl rfl fun w0 Q hQ hN => ?_
  change WJ _ _ _ _ [(0, (Value.agg (TrackV.cells (TrackV.mk (Slc.mk tsA ts.length tsC))).toArray)), (1, (Value.agg (SledV.cells s).toArray))] [(rd tsA ts.length 9 (ts.map StretchV.cells)).ro]
  refine w_seq fun K1 hK1 => ?_
  refine w_region ?_
  refine r_box (cs := (TrackV.cells (TrackV.mk (Slc.mk tsA ts.length tsC)))) rfl rfl rfl rfl fun b2 => ?_
  refine r_box (cs := (SledV.cells s)) rfl rfl rfl rfl fun b3 => ?_
  refine r_sd (sd_assign rfl rfl) rfl rfl ?_
  refine r_sd (sd_assign rfl rfl) rfl rfl ?_
  refine r_nil ?_
  refine k_then (hK1 _ _ _ ?_)
  refine w_seq fun K4 hK4 => ?_
  refine w_region ?_
  refine r_sd (sd_ldn rfl rfl tk24 (at_blk (vs := (TrackV.cells (TrackV.mk (Slc.mk tsA ts.length tsC)))) 1 rfl rfl) rfl) rfl rfl ?_
  refine r_sd (sd_ldn rfl rfl tk28 (at_blk (vs := (SledV.cells s)) 0 rfl rfl) rfl) rfl rfl ?_
  refine r_sd (sd_call rfl rfl rfl rfl (open_ok ts tsA tsC s (by first | assumption | omega | (simp; done) | (simp; omega)) (by first | assumption | omega | (simp; done) | (simp; omega)) (by first | assumption | omega | (simp; done) | (simp; omega))) (ha_at 2 rfl rfl <| ha_nil)) rfl rfl ?_
  refine r_sd (sd_move rfl rfl) rfl rfl ?_
  refine r_sd (sd_extract rfl rfl rfl) rfl rfl ?_
  refine r_sd (sd_extract rfl rfl rfl) rfl rfl ?_
  refine r_sd (sd_extract rfl rfl rfl) rfl rfl ?_
  refine r_alloc rfl tz108 rfl fun b5 => ?_
  refine r_alloc rfl tz108 rfl fun b6 => ?_
  refine r_store (vs := (RiderV.cells (RiderV.mk s (TrackV.mk (Slc.mk tsA ts.length tsC)) false))) (cs' := (RiderV.cells (RiderV.mk s (TrackV.mk (Slc.mk tsA ts.length tsC)) false))) (C' := [_, (blk b5 108 (RiderV.cells (RiderV.mk s (TrackV.mk (Slc.mk tsA ts.length tsC)) false))), _, _, _]) 1 rfl rfl rfl ts108 rfl rfl rfl rfl rfl rfl rfl ?_
  refine r_store (vs := (RiderV.cells (RiderV.mk s (TrackV.mk (Slc.mk tsA ts.length tsC)) true))) (cs' := (RiderV.cells (RiderV.mk s (TrackV.mk (Slc.mk tsA ts.length tsC)) true))) (C' := [(blk b6 108 (RiderV.cells (RiderV.mk s (TrackV.mk (Slc.mk tsA ts.length tsC)) true))), _, _, _, _]) 0 rfl rfl rfl ts108 rfl rfl rfl rfl rfl rfl rfl ?_
  refine r_sd (sd_assign rfl rfl) rfl rfl ?_
  refine r_nil ?_
  refine k_then (hK4 _ _ _ ?_)
  refine w_seq fun K7 hK7 => ?_
  refine w_seq fun K8 hK8 => ?_
  refine w_region ?_
  refine r_sd (sd_move rfl rfl) rfl rfl ?_
  refine r_sd (sd_bin rfl rfl rfl b_neq) rfl rfl ?_
  refine r_nil ?_
  refine k_then (hK8 _ _ _ ?_)
  refine w_if rfl (fun he => ?_) (fun he => ?_)
  · -- yes
    rw [Bool.not_eq_true'] at he
    replace he := of_decide_eq_false he
    refine w_seq fun K9 hK9 => ?_
    refine w_region ?_
    refine r_sd (sd_move rfl rfl) rfl rfl ?_
    refine r_sd (sd_assign rfl rfl) rfl rfl ?_
    refine r_sd (sd_assign rfl rfl) rfl rfl ?_
    refine r_nil ?_
    refine k_then (hK9 _ _ _ ?_)
    refine w_ret ?_
    refine hQ _ _ _ (l_nil (vs := [(Value.slice none 0 0), (Value.int .i64 (bothE s ts))]) ⟨rfl, rfl, trivial⟩ fun w hs => endV ?_ hs)
    show (Value.tuple [(Value.slice none 0 0), (Value.int .i64 (bothE s ts))].toArray) = (Value.tuple [(Value.slice none 0 0), (Value.int .i64 (bothE s ts))].toArray)
    clear hs w hQ hN hK9 K9 hK8 K8 hK7 K7 hK4 K4 hK1 K1
    rfl
  · -- no
    rw [Bool.not_eq_false'] at he
    replace he := of_decide_eq_true he
    exact absurd he hb0

set_option maxRecDepth 100000 in
set_option maxHeartbeats 400000 in
theorem heads_ok (ts : List StretchV) (tsA : Option Addr) (tsC : Nat) (s : SledV) (hlen : ts.length ≤ 1000000) (hside : ∀ x ∈ ts, 0 ≤ x.Side ∧ x.Side ≤ 255) (htr : trackOk ts = true) (hs : SledOk s) :
    FnX Try.prog 18 [(Value.agg (TrackV.cells (TrackV.mk (Slc.mk tsA ts.length tsC))).toArray), (Value.agg (SledV.cells s).toArray)] [(rd tsA ts.length 9 (ts.map StretchV.cells))] (fun (x : (Option Addr) × Nat) => (Value.tuple [(Value.slice x.1 ((spansL s ts).length) x.2), (Value.int .i64 (bothE s ts))].toArray)) (fun (x : (Option Addr) × Nat) => True) (fun (x : (Option Addr) × Nat) => [(own x.1 x.2 26 2 ((spansL s ts).map SpanV.cells))]) := by
  have hb0 := bothE_ok htr hs
  have hst := trackOk_all htr
  have hl12 := trackOk_le htr
  have hl1 := trackOk_pos htr
  refine fnX_of go18 Try.func18 rfl rfl fun w0 Q hQ hN => ?_
  change WJ _ _ _ _ [(0, (Value.agg (TrackV.cells (TrackV.mk (Slc.mk tsA ts.length tsC))).toArray)), (1, (Value.agg (SledV.cells s).toArray))] [(rd tsA ts.length 9 (ts.map StretchV.cells)).ro]
  refine w_seq fun K1 hK1 => ?_
  refine w_region ?_
  refine r_box (cs := (TrackV.cells (TrackV.mk (Slc.mk tsA ts.length tsC)))) rfl rfl rfl rfl fun b2 => ?_
  refine r_box (cs := (SledV.cells s)) rfl rfl rfl rfl fun b3 => ?_
  refine r_sd (sd_assign rfl rfl) rfl rfl ?_
  refine r_sd (sd_assign rfl rfl) rfl rfl ?_
  refine r_nil ?_
  refine k_then (hK1 _ _ _ ?_)
  refine w_seq fun K4 hK4 => ?_
  refine w_region ?_
  refine r_sd (sd_ldn rfl rfl tk24 (at_blk (vs := (TrackV.cells (TrackV.mk (Slc.mk tsA ts.length tsC)))) 1 rfl rfl) rfl) rfl rfl ?_
  refine r_sd (sd_ldn rfl rfl tk28 (at_blk (vs := (SledV.cells s)) 0 rfl rfl) rfl) rfl rfl ?_
  refine r_sd (sd_call rfl rfl rfl rfl (open_ok ts tsA tsC s (by first | assumption | omega | (simp; done) | (simp; omega)) (by first | assumption | omega | (simp; done) | (simp; omega)) (by first | assumption | omega | (simp; done) | (simp; omega))) (ha_at 2 rfl rfl <| ha_nil)) rfl rfl ?_
  refine r_sd (sd_move rfl rfl) rfl rfl ?_
  refine r_sd (sd_extract rfl rfl rfl) rfl rfl ?_
  refine r_sd (sd_extract rfl rfl rfl) rfl rfl ?_
  refine r_sd (sd_extract rfl rfl rfl) rfl rfl ?_
  refine r_alloc rfl tz108 rfl fun b5 => ?_
  refine r_alloc rfl tz108 rfl fun b6 => ?_
  refine r_store (vs := (RiderV.cells (RiderV.mk s (TrackV.mk (Slc.mk tsA ts.length tsC)) false))) (cs' := (RiderV.cells (RiderV.mk s (TrackV.mk (Slc.mk tsA ts.length tsC)) false))) (C' := [_, (blk b5 108 (RiderV.cells (RiderV.mk s (TrackV.mk (Slc.mk tsA ts.length tsC)) false))), _, _, _]) 1 rfl rfl rfl ts108 rfl rfl rfl rfl rfl rfl rfl ?_
  refine r_store (vs := (RiderV.cells (RiderV.mk s (TrackV.mk (Slc.mk tsA ts.length tsC)) true))) (cs' := (RiderV.cells (RiderV.mk s (TrackV.mk (Slc.mk tsA ts.length tsC)) true))) (C' := [(blk b6 108 (RiderV.cells (RiderV.mk s (TrackV.mk (Slc.mk tsA ts.length tsC)) true))), _, _, _, _]) 0 rfl rfl rfl ts108 rfl rfl rfl rfl rfl rfl rfl ?_
  refine r_sd (sd_assign rfl rfl) rfl rfl ?_
  refine r_nil ?_
  refine k_then (hK4 _ _ _ ?_)
  refine w_seq fun K7 hK7 => ?_
  refine w_seq fun K8 hK8 => ?_
  refine w_region ?_
  refine r_sd (sd_move rfl rfl) rfl rfl ?_
  refine r_sd (sd_bin rfl rfl rfl b_neq) rfl rfl ?_
  refine r_nil ?_
  refine k_then (hK8 _ _ _ ?_)
  refine w_if rfl (fun he => ?_) (fun he => ?_)
  · -- yes
    rw [Bool.not_eq_true'] at he
    replace he := of_decide_eq_false he
    exact absurd hb0 he
  · -- no
    rw [Bool.not_eq_false'] at he
    replace he := of_decide_eq_true he
    refine w_skip ?_
    refine k_then (hK7 _ _ _ ?_)
    refine w_seq fun K9 hK9 => ?_
    refine w_region ?_
    refine r_alloc rfl tz31 rfl fun b10 => ?_
    refine r_nil ?_
    refine k_then (hK9 _ _ _ ?_)
    refine w_seq fun K11 hK11 => ?_
    refine w_region ?_
    refine r_sd (sd_ldn rfl rfl tk108 (at_blk (vs := (RiderV.cells (RiderV.mk s (TrackV.mk (Slc.mk tsA ts.length tsC)) true))) 1 rfl rfl) rfl) rfl rfl ?_
    refine r_call rfl rfl rfl rfl (list_c s ts tsA tsC true (by first | assumption | omega | (simp; done) | (simp; omega)) (by first | assumption | omega | (simp; done) | (simp; omega)) (by first | assumption | omega | (simp; done) | (simp; omega))) (ha_at 5 rfl rfl <| ha_nil) rfl (fun y12 hy13 => ?_)
    obtain ⟨a14, c15⟩ := y12
    change RJ _ _ _ _ _ ((_, (Value.slice a14 ((headsL true s ts).length) c15)) :: _) ((own a14 c15 3 1 ((headsL true s ts).map iC)) :: _)
    refine r_alloc rfl tz61 rfl fun b16 => ?_
    refine r_store (vs := [(Value.slice a14 ((headsL true s ts).length) c15)]) (cs' := [(Value.slice a14 ((headsL true s ts).length) c15)]) (C' := [(blk b16 61 [(Value.slice a14 ((headsL true s ts).length) c15)]), _, _, _, _, _, _, _]) 0 rfl rfl rfl ts61 rfl rfl rfl rfl rfl rfl rfl ?_
    refine r_nil ?_
    refine k_then (hK11 _ _ _ ?_)
    refine w_seq fun K17 hK17 => ?_
    refine w_seq fun K18 hK18 => ?_
    refine w_region ?_
    refine r_sd (sd_ldn rfl rfl tk108 (at_blk (vs := (RiderV.cells (RiderV.mk s (TrackV.mk (Slc.mk tsA ts.length tsC)) false))) 4 rfl rfl) rfl) rfl rfl ?_
    refine r_call rfl rfl rfl rfl (mkheads_c s false tsA ts.length tsC) (ha_nil) rfl (fun b21 hy20 => ?_)
    change RJ _ _ _ _ _ ((_, (Value.func (.func 93) [].toArray [(Value.pointer (some ⟨b21, 0, none⟩))].toArray)) :: _) ((blk b21 108 (RiderV.cells (RiderV.mk s (TrackV.mk (Slc.mk tsA ts.length tsC)) false))) :: _)
    refine r_nil ?_
    refine k_then (hK18 _ _ _ ?_)
    refine w_block ?_
    refine w_dup 8 rfl (by exact fun _ h => h) ?_
    refine w_own_nil 26 2 ?_
    refine w_range (L0 := [(9, (Value.pointer (some ⟨b10, 0, none⟩))), (10, (Value.pointer (some ⟨b16, 0, none⟩)))]) (F := [(rd tsA ts.length 9 (ts.map StretchV.cells)).ro, (blk b21 108 (RiderV.cells (RiderV.mk s (TrackV.mk (Slc.mk tsA ts.length tsC)) false)))]) (xs := (headV false s ts)) (fun k (y : (Option Addr) × Nat) => True) (fun k y => [(own y.1 y.2 26 2 (((spansL s ts).take k).map SpanV.cells)), (blk b16 61 [(Value.slice a14 ((headsL true s ts).length) c15)]), (own a14 c15 3 1 ((headsL true s ts).map iC)), (blk b10 31 [(Value.slice y.1 (((spansL s ts).take k).length) y.2)]), (rd tsA ts.length 9 (ts.map StretchV.cells)).ro]) (fun _ (_ : Unit) => False) (fun _ _ => []) [0, 3, 4, 5, 10] [1, 2] (none, 0) rfl rfl (iter_c s ts tsA tsC false b21 (by first | assumption | omega | (simp; done)) (by first | assumption | omega | (simp; done)) (by first | assumption | omega | (simp; done))) rfl rfl rfl (by trivial) (by simp only [List.forall_mem_cons, List.not_mem_nil, false_imp_iff, implies_true, and_true]; exact ⟨⟨_, by simp, (cov_ro (cov_refl _))⟩, ⟨_, by simp, (cov_refl _)⟩⟩) (by exact headV_lens) rfl (Sub.cons rfl <| Sub.cons rfl <| Sub.nil _) ?_ ?_ (fun _ _ _ h => h.elim) (fun _ _ h => h.elim)
    · -- a round
      rintro k x ⟨a, c⟩ l ra rb S w1 K22 Qr23 hx hin24 hK22 hQr23 _ _
      obtain ⟨hk, rfl⟩ := headV_out hx
      change WJ _ _ _ _ [(28, (Value.int .i64 (headAt false s ts k))), (27, (Value.int .i64 (k : Int))), (9, (Value.pointer (some ⟨b10, 0, none⟩))), (10, (Value.pointer (some ⟨b16, 0, none⟩)))] [(obj l (.loop ra)), (own a c 26 2 (((spansL s ts).take k).map SpanV.cells)), (blk b16 61 [(Value.slice a14 ((headsL true s ts).length) c15)]), (own a14 c15 3 1 ((headsL true s ts).map iC)), (blk b10 31 [(Value.slice a (((spansL s ts).take k).length) c)]), (rd tsA ts.length 9 (ts.map StretchV.cells)).ro]
      have hml := headsL_length (best := true) (s := s) (ts := ts)
      refine w_seq fun K25 hK25 => ?_
      refine w_region ?_
      refine r_sd (sd_assign rfl rfl) rfl rfl ?_
      refine r_nil ?_
      refine k_then (hK25 _ _ _ ?_)
      refine w_region ?_
      refine r_sd (sd_assign rfl rfl) rfl rfl ?_
      refine r_nil ?_
      refine k_then (hK22 _ _ ?_)
      refine w_block ?_
      refine w_draw4 mixed [0, 1, 2, 3, 4, 5, 6] [7, 8, 9] [true, false, false, false, false, false, false] [true, false, false] [(obj l (.loop rb)), (blk b16 61 [(Value.slice a14 ((headsL true s ts).length) c15)]), (own a14 c15 3 1 ((headsL true s ts).map iC)), (rd tsA ts.length 9 (ts.map StretchV.cells)).ro] [(obj l (.loop rb)), (own a c 26 2 (((spansL s ts).take k).map SpanV.cells)), (blk b16 61 [(Value.slice a14 ((headsL true s ts).length) c15)]), (own a14 c15 3 1 ((headsL true s ts).map iC)), (blk b10 31 [(Value.slice a (((spansL s ts).take k).length) c)]), (rd tsA ts.length 9 (ts.map StretchV.cells)).ro] (by kernel_rfl) (fun w hs => St.sel [0, 2, 3, 5] rfl rfl hs) (fun w hs => St.sel [0, 1, 2, 3, 4, 5] rfl rfl hs) ?_
      refine d5_sd (sd_ld1 rfl rfl tk31 (at_blk (vs := [(Value.slice a (((spansL s ts).take k).length) c)]) 4 rfl rfl)) rfl rfl rfl ?_
      refine d4_sd (sd_move rfl rfl) rfl rfl rfl ?_
      refine d4_sd (sd_ld1 rfl rfl tk61 (at_blk (vs := [(Value.slice a14 ((headsL true s ts).length) c15)]) 1 rfl rfl)) rfl rfl rfl ?_
      refine d4_sd (sd_move rfl rfl) rfl rfl rfl ?_
      obtain ⟨m, hm⟩ : ∃ y_, (headsL true s ts)[k]? = some y_ := ⟨(headsL true s ts)[k]'(by omega), List.getElem?_eq_getElem _⟩
      have hmm : ((headsL true s ts).map iC)[k]? = some (iC m) := by rw [List.getElem?_map, hm]; rfl
      refine d4_sd (sd_ia (k := k) rfl rfl rfl (has_own_n (n := (headsL true s ts).length) 2 rfl (by simp)) te61 (by decide) (by omega) (by omega)) rfl rfl rfl ?_
      have hmv : m = headAt true s ts k := by rw [headsL_get hk] at hm; exact (Option.some.inj hm).symm
      refine d4_sd (sd_ld1 rfl rfl tk3 (at_rd (k := k) (o := 0) (vs := [(Value.int .i64 m)]) (has_own_n (n := (headsL true s ts).length) 2 rfl (by simp)) hmm rfl (by decide) rfl)) rfl rfl rfl ?_
      refine d4_sd (sd_build (xs := [(0, .tmp 30), (1, .tmp 34)]) (cs := (SpanV.cells (SpanV.mk (headAt false s ts k) m))) rfl rfl (built_of tb26 rfl)) rfl rfl rfl ?_
      refine d_fin rfl ?_
      refine t5_cons rfl fun T26 hT26 => ?_
      refine r_bs (xs := [.tmp 35]) (cs := (SpanV.cells (SpanV.mk (headAt false s ts k) m))) rfl te31 tz26 rfl rfl rfl rfl (by simp [Value.cells, SpanV.cells_length]) rfl rfl fun b27 => ?_
      refine r_nil (hT26 _ _ (fun w hs => St.sel [1, 3, 4, 6] rfl rfl hs) (fun w hs => St.sel [1, 2, 3, 4, 5, 6] rfl rfl hs) ?_)
      refine t_cons rfl fun T28 hT28 => ?_
      refine r_append (es2 := (List.map SpanV.cells ((spansL s ts).take (k + 1)))) (m' := ((spansL s ts).take (k + 1)).length) 2 rfl rfl rfl ta31 rfl rfl (by simp) (has_rd_blk (es := List.map SpanV.cells [(SpanV.mk (headAt false s ts k) m)]) 0 rfl rfl (by simp [SpanV.cells_length]) rfl) (one_SpanV_cells _) (by simp [spansL_length]; omega) (by simp [spansL_length, maxLen]; omega) (by rw [spansL_take hk, hmv]; simp [spanAt]) (by simp) rfl fun a29 c30 => ?_
      change RJ _ _ _ _ _ _ [_, _, (own a29 c30 26 2 (List.map SpanV.cells ((spansL s ts).take (k + 1)))), _, _, _, _]
      refine r_nil (hT28 _ _ (fun w hs => St.sel [1, 3, 4, 6] rfl rfl hs) ?_)
      refine t_cons rfl fun T31 hT31 => ?_
      refine r_store (vs := [(Value.slice a29 (((spansL s ts).take (k + 1)).length) c30)]) (cs' := [(Value.slice a29 (((spansL s ts).take (k + 1)).length) c30)]) (C' := [_, _, _, _, _, (blk b10 31 [(Value.slice a29 (((spansL s ts).take (k + 1)).length) c30)]), _]) 5 rfl rfl rfl ts31 rfl rfl rfl rfl rfl rfl rfl ?_
      refine r_nil (hT31 _ _ (fun w hs => St.sel [1, 3, 4, 6] rfl rfl hs) ?_)
      refine t_fin rfl ?_
      refine k_block ?_
      exact hQr23 (a29, c30) _ _ (by trivial) (fun w hs => St.sel [1, 2, 3, 4, 5, 6] rfl rfl hs)
    · -- behind the range
      rintro r32 ⟨a, c⟩ hin33
      change KJ _ _ _ [(9, (Value.pointer (some ⟨b10, 0, none⟩))), (10, (Value.pointer (some ⟨b16, 0, none⟩)))] [(obj r32 (.deferred (some []))), (rd tsA ts.length 9 (ts.map StretchV.cells)).ro, (blk b21 108 (RiderV.cells (RiderV.mk s (TrackV.mk (Slc.mk tsA ts.length tsC)) false))), (own a c 26 2 (((spansL s ts).take ((headV false s ts).length)).map SpanV.cells)), (blk b16 61 [(Value.slice a14 ((headsL true s ts).length) c15)]), (own a14 c15 3 1 ((headsL true s ts).map iC)), (blk b10 31 [(Value.slice a (((spansL s ts).take ((headV false s ts).length)).length) c)]), (rd tsA ts.length 9 (ts.map StretchV.cells)).ro]
      rw [spans_take_end]
      refine k_block ?_
      refine k_then (hK17 _ _ _ ?_)
      refine w_seq fun K34 hK34 => ?_
      refine w_region ?_
      refine r_sd (sd_ld1 rfl rfl tk31 (at_blk (vs := [(Value.slice a ((spansL s ts).length) c)]) 6 rfl rfl)) rfl rfl ?_
      refine r_sd (sd_assign rfl rfl) rfl rfl ?_
      refine r_sd (sd_assign rfl rfl) rfl rfl ?_
      refine r_nil ?_
      refine k_then (hK34 _ _ _ ?_)
      refine w_ret ?_
      refine hQ _ _ _ (l_mark 0 rfl rfl <| l_nil (vs := [(Value.slice a ((spansL s ts).length) c), (Value.int .i64 0)]) ⟨rfl, rfl, trivial⟩ fun w hs => endX (a, c) [3] ?_ ?_ rfl rfl rfl hs)
      · rw [hb0]; rfl
      · trivial

theorem heads_no (ts : List StretchV) (tsA : Option Addr) (tsC : Nat) (s : SledV) (hlen : ts.length ≤ 1000000) (hside : ∀ x ∈ ts, 0 ≤ x.Side ∧ x.Side ≤ 255) (hb : ¬ bothE s ts = 0) :
    FnV Try.prog 18 [(Value.agg (TrackV.cells (TrackV.mk (Slc.mk tsA ts.length tsC))).toArray), (Value.agg (SledV.cells s).toArray)] [(rd tsA ts.length 9 (ts.map StretchV.cells))] (Value.tuple [(Value.slice none 0 0), (Value.int .i64 (bothE s ts))].toArray) := by
  by_cases htr : trackOk ts = true
  · by_cases hs : SledOk s
    · exact absurd (bothE_ok htr hs) hb
    · exact heads_sled ts tsA tsC s hlen hside htr hs
  · exact heads_bad ts tsA tsC s hlen hside (by simpa using htr)

theorem heads_c (ts : List StretchV) (tsA : Option Addr) (tsC : Nat) (s : SledV) (hlen : ts.length ≤ 1000000) (hside : ∀ x ∈ ts, 0 ≤ x.Side ∧ x.Side ≤ 255) :
    FnX Try.prog 18 [(Value.agg (TrackV.cells (TrackV.mk (Slc.mk tsA ts.length tsC))).toArray), (Value.agg (SledV.cells s).toArray)] [(rd tsA ts.length 9 (ts.map StretchV.cells))] (fun (x : (Option Addr) × Nat) => (Value.tuple [(Value.slice x.1 ((spansU s ts).length) x.2), (Value.int .i64 (bothE s ts))].toArray)) (fun (x : (Option Addr) × Nat) => True) (fun (x : (Option Addr) × Nat) => [(own x.1 x.2 26 2 ((spansU s ts).map SpanV.cells))]) := by
  by_cases hb : bothE s ts = 0
  · obtain ⟨h1, h2⟩ := bothE_zero hb
    rw [spansU_ok h1 h2]
    exact heads_ok ts tsA tsC s hlen hside h1 h2
  · rw [spansU_no hb]
    exact FnV.toX (none, 0) (heads_no ts tsA tsC s hlen hside hb) trivial own_none

end Go.Proofs.Ytpbgdeojcefnmaa
