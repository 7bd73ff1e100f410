/-
  Walks: kreisel/slide.first[int], kreisel/slide.Start$1, start1_j, kreisel/slide.Start, kreisel/slide.Start, kreisel/slide.Start, kreisel/slide.Start, kreisel/slide.Start, kreisel/kreiselref03.from, kreisel/kreiselref03.Start
-/
import Derived.Test.YtpbgdeojcefnmaaTab
import Derived.Test.YtpbgdeojcefnmaaSort
import Derived.Test.YtpbgdeojcefnmaaThr
import Derived.Test.YtpbgdeojcefnmaaMono
import Derived.Test.YtpbgdeojcefnmaaSafe
import Derived.Test.YtpbgdeojcefnmaaW6
import Derived.Test.YtpbgdeojcefnmaaW9
import Derived.Test.YtpbgdeojcefnmaaW16
namespace Go.Proofs.Ytpbgdeojcefnmaa
open Go.RowKit
set_option linter.unusedVariables false

set_option maxRecDepth 100000 in
set_option maxHeartbeats 400000 in
theorem first2_c (lo : Int) (hi : Int) (f : Value) (p : Int → Bool) (X : Assn) (r : Int) (J : Assn → Prop) (A0 : Assn) (hf : ∀ x0, 0 ≤ x0 ∧ x0 < hi → CloJ Try.prog f [.int .i64 x0] [X] J (.bool (p x0))) (hJ0 : J A0) (hJw : ∀ B, J B → B.wr = true) (hb : 0 ≤ lo ∧ lo ≤ r ∧ r ≤ hi ∧ hi ≤ 100000000) (hno : ∀ x, lo ≤ x → x < r → p x = false) (hyes : ∀ x, r ≤ x → x < hi → p x = true) :
    FnM Try.prog 77 [(Value.int .i64 lo), (Value.int .i64 hi), f] [X] A0 (fun (x : Assn) => (Value.int .i64 r)) (fun (x : Assn) => J x) (fun (x : Assn) => x) := by
  refine fnM_of go77 Try.func77 rfl rfl fun w0 Q hQ hN => ?_
  change WJ _ _ _ _ [(0, (Value.int .i64 lo)), (1, (Value.int .i64 hi)), (2, f)] [A0, X.ro]
  refine w_seq fun K1 hK1 => ?_
  refine w_region ?_
  refine r_sd (sd_assign rfl rfl) rfl rfl ?_
  refine r_nil ?_
  refine k_then (hK1 _ _ _ ?_)
  refine w_seq fun K2 hK2 => ?_
  refine w_block ?_
  have hinit : (lo ≤ lo ∧ lo ≤ r) ∧ (r ≤ hi ∧ hi ≤ hi) ∧ (J A0) := by exact ⟨by omega, by omega, hJ0⟩
  refine w_loop (ι := { z : Int × Int × Assn // (lo ≤ z.1 ∧ z.1 ≤ r) ∧ (r ≤ z.2.1 ∧ z.2.1 ≤ hi) ∧ (J z.2.2) }) (fun z => [(0, (Value.int .i64 z.1.1)), (1, (Value.int .i64 z.1.2.1)), (2, f)]) (fun z => [z.1.2.2, X.ro]) (fun z => (z.1.2.1 - z.1.1).toNat) ⟨(lo, hi, A0), hinit⟩ (Sub.cons rfl <| Sub.cons rfl <| Sub.cons rfl <| Sub.nil _) (fun w hs => St.sel [0, 1] rfl rfl hs) ?_
  clear hinit
  rintro ⟨⟨a, b, B⟩, ⟨hl0_0, hl0_1, hl0_2⟩⟩ J3 hJ3
  try dsimp only at hl0_0 hl0_1 hl0_2
  change WJ _ _ _ _ [(0, (Value.int .i64 a)), (1, (Value.int .i64 b)), (2, f)] [B, X.ro]
  refine w_seq fun K4 hK4 => ?_
  refine w_seq fun K5 hK5 => ?_
  refine w_region ?_
  refine r_sd (sd_move rfl rfl) rfl rfl ?_
  refine r_sd (sd_move rfl rfl) rfl rfl ?_
  refine r_sd (sd_bin rfl rfl rfl b_lss) rfl rfl ?_
  refine r_nil ?_
  refine k_then (hK5 _ _ _ ?_)
  refine w_if rfl (fun h6 => ?_) (fun h6 => ?_)
  · -- yes
    replace h6 := of_decide_eq_true h6
    refine w_skip ?_
    refine k_then (hK4 _ _ _ ?_)
    refine w_block ?_
    refine w_seq fun K7 hK7 => ?_
    refine w_region ?_
    refine r_sd (sd_move rfl rfl) rfl rfl ?_
    refine r_sd (sd_move rfl rfl) rfl rfl ?_
    refine r_sd (sd_move rfl rfl) rfl rfl ?_
    refine r_sd (sd_bin rfl rfl rfl (b_sub ⟨by omega, by omega⟩)) rfl rfl ?_
    refine r_sd (sd_bin rfl rfl rfl (b_quo (by omega) (by omega) (by omega))) rfl rfl ?_
    refine r_sd (sd_bin rfl rfl rfl (b_add ⟨by omega, by omega⟩)) rfl rfl ?_
    refine r_sd (sd_assign rfl rfl) rfl rfl ?_
    refine r_nil ?_
    refine k_then (hK7 _ _ _ ?_)
    refine w_seq fun K8 hK8 => ?_
    refine w_region ?_
    refine r_sd (sd_move rfl rfl) rfl rfl ?_
    refine r_sd (sd_move rfl rfl) rfl rfl ?_
    refine r_cloj 0 rfl rfl rfl (hf (a + ((b - a) / 2)) (by omega)) hl0_2 rfl (cv_cons 1 rfl rfl (cov_ro (cov_refl _)) cv_nil) rfl (fun B9 hB10 => ?_)
    change RJ _ _ _ _ _ _ [B9, X.ro]
    refine r_nil ?_
    refine k_then (hK8 _ _ _ ?_)
    refine w_if rfl (fun hp => ?_) (fun hp => ?_)
    · -- yes
      refine w_region ?_
      refine r_sd (sd_move rfl rfl) rfl rfl ?_
      refine r_sd (sd_assign rfl rfl) rfl rfl ?_
      refine r_nil ?_
      refine k_block ?_
      refine k_then (hJ3 ⟨(a, (a + ((b - a) / 2)), B9), (by dsimp only; rcases Int.lt_or_le (a + (b - a) / 2) r with q | q; (have q2 := hno _ (by omega) q; first | (refine ⟨⟨by omega, by omega⟩, ⟨by omega, by omega⟩, hB10⟩) | (rw [q2] at hp; cases hp)); (have q2 := hyes _ q (by omega); first | (refine ⟨⟨by omega, by omega⟩, ⟨by omega, by omega⟩, hB10⟩) | (rw [q2] at hp; cases hp)))⟩ _ _ _ rfl (by simp only []; omega) (Sub.cons rfl <| Sub.cons rfl <| Sub.cons rfl <| Sub.nil _) (fun w hs => St.sel [0, 1] rfl rfl hs))
    · -- no
      refine w_region ?_
      refine r_sd (sd_move rfl rfl) rfl rfl ?_
      refine r_sd (sd_bin rfl rfl rfl (b_add ⟨by omega, by omega⟩)) rfl rfl ?_
      refine r_sd (sd_assign rfl rfl) rfl rfl ?_
      refine r_nil ?_
      refine k_block ?_
      refine k_then (hJ3 ⟨(((a + ((b - a) / 2)) + 1), b, B9), (by dsimp only; rcases Int.lt_or_le (a + (b - a) / 2) r with q | q; (have q2 := hno _ (by omega) q; first | (refine ⟨⟨by omega, by omega⟩, ⟨by omega, by omega⟩, hB10⟩) | (rw [q2] at hp; cases hp)); (have q2 := hyes _ q (by omega); first | (refine ⟨⟨by omega, by omega⟩, ⟨by omega, by omega⟩, hB10⟩) | (rw [q2] at hp; cases hp)))⟩ _ _ _ rfl (by simp only []; omega) (Sub.cons rfl <| Sub.cons rfl <| Sub.cons rfl <| Sub.nil _) (fun w hs => St.sel [0, 1] rfl rfl hs))
  · -- no
    replace h6 := of_decide_eq_false h6
    refine w_exit ?_
    refine k_exit_then ?_
    refine k_exit_then ?_
    refine k_exit_same ?_
    refine k_then (hK2 _ _ _ ?_)
    refine w_seq fun K11 hK11 => ?_
    refine w_region ?_
    refine r_sd (sd_move rfl rfl) rfl rfl ?_
    refine r_sd (sd_assign rfl rfl) rfl rfl ?_
    refine r_nil ?_
    refine k_then (hK11 _ _ _ ?_)
    refine w_ret ?_
    refine hQ _ _ _ (l_nil (vs := [(Value.int .i64 a)]) ⟨rfl, trivial⟩ fun w hs => endM B 0 ?_ ?_ rfl (hJw _ hl0_2) hs)
    · clear hs w hQ hN hK11 K11 hK5 K5 hK4 K4 hK2 K2 hK1 K1; exact congrArg (Value.int .i64) (by omega)
    · clear hs w hQ hN hK11 K11 hK5 K5 hK4 K4 hK2 K2 hK1 K1; exact hl0_2

set_option maxRecDepth 100000 in
set_option maxHeartbeats 400000 in
theorem start1_c (h : Int) (g1 : Nat) (s : SledV) (ts : List StretchV) (tsA : Option Addr) (tsC : Nat) (hs : SledOk (fromS s h)) (hst : ∀ x ∈ ts, StretchOk x) (hlen : ts.length ≤ 12) (hside : ∀ x ∈ ts, 0 ≤ x.Side ∧ x.Side ≤ 255) :
    FnM Try.prog 80 [(Value.int .i64 h), (Value.pointer (some ⟨g1, 0, none⟩))] [(rd tsA ts.length 9 (ts.map StretchV.cells))] (blk g1 108 (RiderV.cells (RiderV.mk s (TrackV.mk (Slc.mk tsA ts.length tsC)) true))) (fun (x : Unit) => (Value.bool (startP s ts h))) (fun (x : Unit) => True) (fun (x : Unit) => (blk g1 108 (RiderV.cells (RiderV.mk (fromS s h) (TrackV.mk (Slc.mk tsA ts.length tsC)) true)))) := by
  refine fnM_of go80 Try.func80 rfl rfl fun w0 Q hQ hN => ?_
  change WJ _ _ _ _ [(0, (Value.int .i64 h)), (1, (Value.pointer (some ⟨g1, 0, none⟩)))] [(blk g1 108 (RiderV.cells (RiderV.mk s (TrackV.mk (Slc.mk tsA ts.length tsC)) true))), (rd tsA ts.length 9 (ts.map StretchV.cells)).ro]
  refine w_seq fun K1 hK1 => ?_
  refine w_region ?_
  refine r_sd (sd_assign rfl rfl) rfl rfl ?_
  refine r_nil ?_
  refine k_then (hK1 _ _ _ ?_)
  refine w_seq fun K2 hK2 => ?_
  refine w_region ?_
  refine r_sd (sd_move rfl rfl) rfl rfl ?_
  refine r_sd (sd_build (xs := [(1, .tmp 4)]) (cs := (SpanV.cells (SpanV.mk 0 h))) rfl rfl (built_of tb26 rfl)) rfl rfl ?_
  refine r_sd (sd_fa (o' := 0) rfl rfl fo108_0 rfl) rfl rfl ?_
  refine r_sd (sd_fa (o' := 1) rfl rfl fo28_1 rfl) rfl rfl ?_
  refine r_store (vs := (SpanV.cells (SpanV.mk 0 h))) (cs' := (RiderV.cells (RiderV.mk (SledV.mk s.Class (SpanV.mk 0 h) s.Rub s.Drag s.Weight s.Steer) (TrackV.mk (Slc.mk tsA ts.length tsC)) true))) (C' := [(blk g1 108 (RiderV.cells (RiderV.mk (SledV.mk s.Class (SpanV.mk 0 h) s.Rub s.Drag s.Weight s.Steer) (TrackV.mk (Slc.mk tsA ts.length tsC)) true))), _]) 0 rfl rfl rfl ts26 rfl rfl rfl rfl rfl rfl rfl ?_
  refine r_nil ?_
  refine k_then (hK2 _ _ _ ?_)
  refine w_seq fun K3 hK3 => ?_
  refine w_region ?_
  refine r_sd (sd_ldn rfl rfl tk108 (at_blk (vs := (RiderV.cells (RiderV.mk (SledV.mk s.Class (SpanV.mk 0 h) s.Rub s.Drag s.Weight s.Steer) (TrackV.mk (Slc.mk tsA ts.length tsC)) true))) 0 rfl rfl) rfl) rfl rfl ?_
  refine r_call rfl rfl rfl rfl (thrown_c (SledV.mk s.Class (SpanV.mk 0 h) s.Rub s.Drag s.Weight s.Steer) ts tsA tsC true (by first | assumption | omega | (simp; done) | (simp; omega)) (by first | assumption | omega | (simp; done) | (simp; omega)) (by first | assumption | omega | (simp; done) | (simp; omega)) (by first | assumption | omega | (simp; done) | (simp; omega))) (ha_at 1 rfl rfl <| ha_nil) rfl (fun y4 hy5 => ?_)
  obtain ⟨a6, c7⟩ := y4
  change RJ _ _ _ _ _ ((_, (Value.slice a6 ((thr true (SledV.mk s.Class (SpanV.mk 0 h) s.Rub s.Drag s.Weight s.Steer) ts).length) c7)) :: _) ((own a6 c7 3 1 ((thr true (SledV.mk s.Class (SpanV.mk 0 h) s.Rub s.Drag s.Weight s.Steer) ts).map iC)) :: _)
  refine r_sd (sd_len rfl rfl ut61) rfl rfl ?_
  refine r_sd (sd_bin rfl rfl rfl b_gtr) rfl rfl ?_
  refine r_sd (sd_assign rfl rfl) rfl rfl ?_
  refine r_nil ?_
  refine k_then (hK3 _ _ _ ?_)
  refine w_ret ?_
  refine hQ _ _ _ (l_nil (vs := [(Value.bool (decide (0 < (((thr true (SledV.mk s.Class (SpanV.mk 0 h) s.Rub s.Drag s.Weight s.Steer) ts).length : Nat) : Int))))]) ⟨rfl, trivial⟩ fun w hs => endM () 1 ?_ ?_ rfl rfl hs)
  · clear hs w hQ hN hK3 K3 hK2 K2 hK1 K1; exact congrArg Value.bool start_len
  · clear hs w hQ hN hK3 K3 hK2 K2 hK1 K1; trivial

theorem start1_j (b : Nat) (s : SledV) (ts : List StretchV) (tsA : Option Addr) (tsC : Nat) (x : Int) (hx : 0 ≤ x ∧ x < 200001) (hs : SledOk s) (hst : ∀ x ∈ ts, StretchOk x) (hlen : ts.length ≤ 12) (hside : ∀ x ∈ ts, 0 ≤ x.Side ∧ x.Side ≤ 255) :
    CloJ Try.prog (Value.func (.func 80) [].toArray [(Value.pointer (some ⟨b, 0, none⟩))].toArray) [.int .i64 x] [(rd tsA ts.length 9 (ts.map StretchV.cells))] (fun B => ∃ z : SpanV, B = blk b 108 (RiderV.cells (RiderV.mk ({ s with Start := z } : SledV) (TrackV.mk (Slc.mk tsA ts.length tsC)) true))) (.bool (startP s ts x)) :=
  ⟨80, _, _, rfl, go80, fun w B hB hh hCp hsep => by
    obtain ⟨z, rfl⟩ := hB
    exact ((start1_c x b { s with Start := z } ts tsA tsC (show SledOk (fromS s x) from fromS_ok hs hx.1 (by omega)) hst hlen hside).run w hh hCp hsep).mono fun e w' ⟨_, he, _, hm⟩ => ⟨he, _, ⟨⟨0, x⟩, rfl⟩, hm⟩⟩

set_option maxRecDepth 100000 in
set_option maxHeartbeats 400000 in
theorem start_bad (ts : List StretchV) (tsA : Option Addr) (tsC : Nat) (s : SledV) (hlen : ts.length ≤ 1000000) (hside : ∀ x ∈ ts, 0 ≤ x.Side ∧ x.Side ≤ 255) (htr : trackOk ts = false) :
    FnV Try.prog 34 [(Value.agg (TrackV.cells (TrackV.mk (Slc.mk tsA ts.length tsC))).toArray), (Value.agg (SledV.cells s).toArray)] [(rd tsA ts.length 9 (ts.map StretchV.cells))] (Value.tuple [(Value.int .i64 (startV s ts)), (Value.int .i64 (startE s ts))].toArray) := by
  have hb0 : ¬ bothE s ts = 0 := by rw [bothE_bad htr]; decide
  refine fnV_of go34 Try.func34 rfl rfl fun w0 Q hQ hN => ?_
  change WJ _ _ _ _ [(0, (Value.agg (TrackV.cells (TrackV.mk (Slc.mk tsA ts.length tsC))).toArray)), (1, (Value.agg (SledV.cells s).toArray))] [(rd tsA ts.length 9 (ts.map StretchV.cells)).ro]
  refine w_seq fun K1 hK1 => ?_
  refine w_region ?_
  refine r_box (cs := (TrackV.cells (TrackV.mk (Slc.mk tsA ts.length tsC)))) rfl rfl rfl rfl fun b2 => ?_
  refine r_box (cs := (SledV.cells s)) rfl rfl rfl rfl fun b3 => ?_
  refine r_sd (sd_assign rfl rfl) rfl rfl ?_
  refine r_sd (sd_assign rfl rfl) rfl rfl ?_
  refine r_nil ?_
  refine k_then (hK1 _ _ _ ?_)
  refine w_seq fun K4 hK4 => ?_
  refine w_region ?_
  refine r_sd (sd_ldn rfl rfl tk24 (at_blk (vs := (TrackV.cells (TrackV.mk (Slc.mk tsA ts.length tsC)))) 1 rfl rfl) rfl) rfl rfl ?_
  refine r_sd (sd_ldn rfl rfl tk28 (at_blk (vs := (SledV.cells s)) 0 rfl rfl) rfl) rfl rfl ?_
  refine r_sd (sd_call rfl rfl rfl rfl (open_bad ts tsA tsC s (by first | assumption | omega | (simp; done) | (simp; omega)) (by first | assumption | omega | (simp; done) | (simp; omega)) (by first | assumption | omega | (simp; done) | (simp; omega))) (ha_at 2 rfl rfl <| ha_nil)) rfl rfl ?_
  refine r_sd (sd_move rfl rfl) rfl rfl ?_
  refine r_sd (sd_extract rfl rfl rfl) rfl rfl ?_
  refine r_sd (sd_extract rfl rfl rfl) rfl rfl ?_
  refine r_sd (sd_extract rfl rfl rfl) rfl rfl ?_
  refine r_alloc rfl tz108 rfl fun b5 => ?_
  refine r_alloc rfl tz108 rfl fun b6 => ?_
  refine r_store (vs := (RiderV.cells (RiderV.mk (SledV.mk 0 (SpanV.mk 0 0) (SpanV.mk 0 0) (SpanV.mk 0 0) (SpanV.mk 0 0) (SpanV.mk 0 0)) (TrackV.mk (Slc.mk none 0 0)) false))) (cs' := (RiderV.cells (RiderV.mk (SledV.mk 0 (SpanV.mk 0 0) (SpanV.mk 0 0) (SpanV.mk 0 0) (SpanV.mk 0 0) (SpanV.mk 0 0)) (TrackV.mk (Slc.mk none 0 0)) false))) (C' := [_, (blk b5 108 (RiderV.cells (RiderV.mk (SledV.mk 0 (SpanV.mk 0 0) (SpanV.mk 0 0) (SpanV.mk 0 0) (SpanV.mk 0 0) (SpanV.mk 0 0)) (TrackV.mk (Slc.mk none 0 0)) false))), _, _, _]) 1 rfl rfl rfl ts108 rfl rfl rfl rfl rfl rfl rfl ?_
  refine r_store (vs := (RiderV.cells (RiderV.mk (SledV.mk 0 (SpanV.mk 0 0) (SpanV.mk 0 0) (SpanV.mk 0 0) (SpanV.mk 0 0) (SpanV.mk 0 0)) (TrackV.mk (Slc.mk none 0 0)) false))) (cs' := (RiderV.cells (RiderV.mk (SledV.mk 0 (SpanV.mk 0 0) (SpanV.mk 0 0) (SpanV.mk 0 0) (SpanV.mk 0 0) (SpanV.mk 0 0)) (TrackV.mk (Slc.mk none 0 0)) false))) (C' := [(blk b6 108 (RiderV.cells (RiderV.mk (SledV.mk 0 (SpanV.mk 0 0) (SpanV.mk 0 0) (SpanV.mk 0 0) (SpanV.mk 0 0) (SpanV.mk 0 0)) (TrackV.mk (Slc.mk none 0 0)) false))), _, _, _, _]) 0 rfl rfl rfl ts108 rfl rfl rfl rfl rfl rfl rfl ?_
  refine r_sd (sd_assign rfl rfl) rfl rfl ?_
  refine r_nil ?_
  refine k_then (hK4 _ _ _ ?_)
  refine w_seq fun K7 hK7 => ?_
  refine w_seq fun K8 hK8 => ?_
  refine w_region ?_
  refine r_sd (sd_move rfl rfl) rfl rfl ?_
  refine r_sd (sd_bin rfl rfl rfl b_neq) rfl rfl ?_
  refine r_nil ?_
  refine k_then (hK8 _ _ _ ?_)
  refine w_if rfl (fun he => ?_) (fun he => ?_)
  · -- yes
    rw [Bool.not_eq_true'] at he
    replace he := of_decide_eq_false he
    refine w_seq fun K9 hK9 => ?_
    refine w_region ?_
    refine r_sd (sd_move rfl rfl) rfl rfl ?_
    refine r_sd (sd_assign rfl rfl) rfl rfl ?_
    refine r_sd (sd_assign rfl rfl) rfl rfl ?_
    refine r_nil ?_
    refine k_then (hK9 _ _ _ ?_)
    refine w_ret ?_
    refine hQ _ _ _ (l_nil (vs := [(Value.int .i64 0), (Value.int .i64 (bothE s ts))]) ⟨rfl, rfl, trivial⟩ fun w hs => endV ?_ hs)
    show (Value.tuple [(Value.int .i64 0), (Value.int .i64 (bothE s ts))].toArray) = (Value.tuple [(Value.int .i64 (startV s ts)), (Value.int .i64 (startE s ts))].toArray)
    clear hs w hQ hN hK9 K9 hK8 K8 hK7 K7 hK4 K4 hK1 K1
    rw [(start_no hb0).1, (start_no hb0).2]
  · -- no
    rw [Bool.not_eq_false'] at he
    replace he := of_decide_eq_true he
    exact absurd he hb0

set_option maxRecDepth 100000 in
set_option maxHeartbeats 400000 in
theorem start_sled (ts : List StretchV) (tsA : Option Addr) (tsC : Nat) (s : SledV) (hlen : ts.length ≤ 1000000) (hside : ∀ x ∈ ts, 0 ≤ x.Side ∧ x.Side ≤ 255) (htr : trackOk ts = true) (hns : ¬ SledOk s) :
    FnV Try.prog 34 [(Value.agg (TrackV.cells (TrackV.mk (Slc.mk tsA ts.length tsC))).toArray), (Value.agg (SledV.cells s).toArray)] [(rd tsA ts.length 9 (ts.map StretchV.cells))] (Value.tuple [(Value.int .i64 (startV s ts)), (Value.int .i64 (startE s ts))].toArray) := by
  have hb0 : ¬ bothE s ts = 0 := by rw [bothE_sled htr hns]; decide
  refine fnV_of go34 Try.func34 rfl rfl fun w0 Q hQ hN => ?_
  change WJ _ _ _ _ [(0, (Value.agg (TrackV.cells (TrackV.mk (Slc.mk tsA ts.length tsC))).toArray)), (1, (Value.agg (SledV.cells s).toArray))] [(rd tsA ts.length 9 (ts.map StretchV.cells)).ro]
  refine w_seq fun K1 hK1 => ?_
  refine w_region ?_
  refine r_box (cs := (TrackV.cells (TrackV.mk (Slc.mk tsA ts.length tsC)))) rfl rfl rfl rfl fun b2 => ?_
  refine r_box (cs := (SledV.cells s)) rfl rfl rfl rfl fun b3 => ?_
  refine r_sd (sd_assign rfl rfl) rfl rfl ?_
  refine r_sd (sd_assign rfl rfl) rfl rfl ?_
  refine r_nil ?_
  refine k_then (hK1 _ _ _ ?_)
  refine w_seq fun K4 hK4 => ?_
  refine w_region ?_
  refine r_sd (sd_ldn rfl rfl tk24 (at_blk (vs := (TrackV.cells (TrackV.mk (Slc.mk tsA ts.length tsC)))) 1 rfl rfl) rfl) rfl rfl ?_
  refine r_sd (sd_ldn rfl rfl tk28 (at_blk (vs := (SledV.cells s)) 0 rfl rfl) rfl) rfl rfl ?_
  refine r_sd (sd_call rfl rfl rfl rfl (open_ok ts tsA tsC s (by first | assumption | omega | (simp; done) | (simp; omega)) (by first | assumption | omega | (simp; done) | (simp; omega)) (by first | assumption | omega | (simp; done) | (simp; omega))) (ha_at 2 rfl rfl <| ha_nil)) rfl rfl ?_
  refine r_sd (sd_move rfl rfl) rfl rfl ?_
  refine r_sd (sd_extract rfl rfl rfl) rfl rfl ?_
  refine r_sd (sd_extract rfl rfl rfl) rfl rfl ?_
  refine r_sd (sd_extract rfl rfl rfl) rfl rfl ?_
  refine r_alloc rfl tz108 rfl fun b5 => ?_
  refine r_alloc rfl tz108 rfl fun b6 => ?_
  refine r_store (vs := (RiderV.cells (RiderV.mk s (TrackV.mk (Slc.mk tsA ts.length tsC)) false))) (cs' := (RiderV.cells (RiderV.mk s (TrackV.mk (Slc.mk tsA ts.length tsC)) false))) (C' := [_, (blk b5 108 (RiderV.cells (RiderV.mk s (TrackV.mk (Slc.mk tsA ts.length tsC)) false))), _, _, _]) 1 rfl rfl rfl ts108 rfl rfl rfl rfl rfl rfl rfl ?_
  refine r_store (vs := (RiderV.cells (RiderV.mk s (TrackV.mk (Slc.mk tsA ts.length tsC)) true))) (cs' := (RiderV.cells (RiderV.mk s (TrackV.mk (Slc.mk tsA ts.length tsC)) true))) (C' := [(blk b6 108 (RiderV.cells (RiderV.mk s (TrackV.mk (Slc.mk tsA ts.length tsC)) true))), _, _, _, _]) 0 rfl rfl rfl ts108 rfl rfl rfl rfl rfl rfl rfl ?_
  refine r_sd (sd_assign rfl rfl) rfl rfl ?_
  refine r_nil ?_
  refine k_then (hK4 _ _ _ ?_)
  refine w_seq fun K7 hK7 => ?_
  refine w_seq fun K8 hK8 => ?_
  refine w_region ?_
  refine r_sd (sd_move rfl rfl) rfl rfl ?_
  refine r_sd (sd_bin rfl rfl rfl b_neq) rfl rfl ?_
  refine r_nil ?_
  refine k_then (hK8 _ _ _ ?_)
  refine w_if rfl (fun he => ?_) (fun he => ?_)
  · -- yes
    rw [Bool.not_eq_true'] at he
    replace he := of_decide_eq_false he
    refine w_seq fun K9 hK9 => ?_
    refine w_region ?_
    refine r_sd (sd_move rfl rfl) rfl rfl ?_
    refine r_sd (sd_assign rfl rfl) rfl rfl ?_
    refine r_sd (sd_assign rfl rfl) rfl rfl ?_
    refine r_nil ?_
    refine k_then (hK9 _ _ _ ?_)
    refine w_ret ?_
    refine hQ _ _ _ (l_nil (vs := [(Value.int .i64 0), (Value.int .i64 (bothE s ts))]) ⟨rfl, rfl, trivial⟩ fun w hs => endV ?_ hs)
    show (Value.tuple [(Value.int .i64 0), (Value.int .i64 (bothE s ts))].toArray) = (Value.tuple [(Value.int .i64 (startV s ts)), (Value.int .i64 (startE s ts))].toArray)
    clear hs w hQ hN hK9 K9 hK8 K8 hK7 K7 hK4 K4 hK1 K1
    rw [(start_no hb0).1, (start_no hb0).2]
  · -- no
    rw [Bool.not_eq_false'] at he
    replace he := of_decide_eq_true he
    exact absurd he hb0

set_option maxRecDepth 100000 in
set_option maxHeartbeats 400000 in
theorem start_ok (ts : List StretchV) (tsA : Option Addr) (tsC : Nat) (s : SledV) (hlen : ts.length ≤ 1000000) (hside : ∀ x ∈ ts, 0 ≤ x.Side ∧ x.Side ≤ 255) (htr : trackOk ts = true) (hs : SledOk s) :
    FnV Try.prog 34 [(Value.agg (TrackV.cells (TrackV.mk (Slc.mk tsA ts.length tsC))).toArray), (Value.agg (SledV.cells s).toArray)] [(rd tsA ts.length 9 (ts.map StretchV.cells))] (Value.tuple [(Value.int .i64 (startV s ts)), (Value.int .i64 (startE s ts))].toArray) := by
  have hb0 := bothE_ok htr hs
  have hst := trackOk_all htr
  have hl12 := trackOk_le htr
  have hl1 := trackOk_pos htr
  refine fnV_of go34 Try.func34 rfl rfl fun w0 Q hQ hN => ?_
  change WJ _ _ _ _ [(0, (Value.agg (TrackV.cells (TrackV.mk (Slc.mk tsA ts.length tsC))).toArray)), (1, (Value.agg (SledV.cells s).toArray))] [(rd tsA ts.length 9 (ts.map StretchV.cells)).ro]
  refine w_seq fun K1 hK1 => ?_
  refine w_region ?_
  refine r_box (cs := (TrackV.cells (TrackV.mk (Slc.mk tsA ts.length tsC)))) rfl rfl rfl rfl fun b2 => ?_
  refine r_box (cs := (SledV.cells s)) rfl rfl rfl rfl fun b3 => ?_
  refine r_sd (sd_assign rfl rfl) rfl rfl ?_
  refine r_sd (sd_assign rfl rfl) rfl rfl ?_
  refine r_nil ?_
  refine k_then (hK1 _ _ _ ?_)
  refine w_seq fun K4 hK4 => ?_
  refine w_region ?_
  refine r_sd (sd_ldn rfl rfl tk24 (at_blk (vs := (TrackV.cells (TrackV.mk (Slc.mk tsA ts.length tsC)))) 1 rfl rfl) rfl) rfl rfl ?_
  refine r_sd (sd_ldn rfl rfl tk28 (at_blk (vs := (SledV.cells s)) 0 rfl rfl) rfl) rfl rfl ?_
  refine r_sd (sd_call rfl rfl rfl rfl (open_ok ts tsA tsC s (by first | assumption | omega | (simp; done) | (simp; omega)) (by first | assumption | omega | (simp; done) | (simp; omega)) (by first | assumption | omega | (simp; done) | (simp; omega))) (ha_at 2 rfl rfl <| ha_nil)) rfl rfl ?_
  refine r_sd (sd_move rfl rfl) rfl rfl ?_
  refine r_sd (sd_extract rfl rfl rfl) rfl rfl ?_
  refine r_sd (sd_extract rfl rfl rfl) rfl rfl ?_
  refine r_sd (sd_extract rfl rfl rfl) rfl rfl ?_
  refine r_alloc rfl tz108 rfl fun b5 => ?_
  refine r_alloc rfl tz108 rfl fun b6 => ?_
  refine r_store (vs := (RiderV.cells (RiderV.mk s (TrackV.mk (Slc.mk tsA ts.length tsC)) false))) (cs' := (RiderV.cells (RiderV.mk s (TrackV.mk (Slc.mk tsA ts.length tsC)) false))) (C' := [_, (blk b5 108 (RiderV.cells (RiderV.mk s (TrackV.mk (Slc.mk tsA ts.length tsC)) false))), _, _, _]) 1 rfl rfl rfl ts108 rfl rfl rfl rfl rfl rfl rfl ?_
  refine r_store (vs := (RiderV.cells (RiderV.mk s (TrackV.mk (Slc.mk tsA ts.length tsC)) true))) (cs' := (RiderV.cells (RiderV.mk s (TrackV.mk (Slc.mk tsA ts.length tsC)) true))) (C' := [(blk b6 108 (RiderV.cells (RiderV.mk s (TrackV.mk (Slc.mk tsA ts.length tsC)) true))), _, _, _, _]) 0 rfl rfl rfl ts108 rfl rfl rfl rfl rfl rfl rfl ?_
  refine r_sd (sd_assign rfl rfl) rfl rfl ?_
  refine r_nil ?_
  refine k_then (hK4 _ _ _ ?_)
  refine w_seq fun K7 hK7 => ?_
  refine w_seq fun K8 hK8 => ?_
  refine w_region ?_
  refine r_sd (sd_move rfl rfl) rfl rfl ?_
  refine r_sd (sd_bin rfl rfl rfl b_neq) rfl rfl ?_
  refine r_nil ?_
  refine k_then (hK8 _ _ _ ?_)
  refine w_if rfl (fun he => ?_) (fun he => ?_)
  · -- yes
    rw [Bool.not_eq_true'] at he
    replace he := of_decide_eq_false he
    exact absurd hb0 he
  · -- no
    rw [Bool.not_eq_false'] at he
    replace he := of_decide_eq_true he
    refine w_skip ?_
    refine k_then (hK7 _ _ _ ?_)
    refine w_seq fun K9 hK9 => ?_
    refine w_region ?_
    refine r_sd (sd_func rfl rfl rfl) rfl rfl ?_
    have hsb := startN_b (s := s) (ts := ts)
    refine r_callm 0 rfl rfl rfl rfl (first2_c 0 200001 (Value.func (.func 80) [].toArray [(Value.pointer (some ⟨b6, 0, none⟩))].toArray) (startP s ts) (rd tsA ts.length 9 (ts.map StretchV.cells)) (startN s ts) (fun B => ∃ z : SpanV, B = blk b6 108 (RiderV.cells (RiderV.mk ({ s with Start := z } : SledV) (TrackV.mk (Slc.mk tsA ts.length tsC)) true))) (blk b6 108 (RiderV.cells (RiderV.mk s (TrackV.mk (Slc.mk tsA ts.length tsC)) true))) (fun x hx => start1_j b6 s ts tsA tsC x hx hs hst (by omega) hside) ⟨s.Start, rfl⟩ (fun B hB => by obtain ⟨z, rfl⟩ := hB; rfl) (by omega) (fun y h0 h1 => firstN_no (p := startP s ts) (n := 200001) h0 h1) (fun y h0 h1 => firstN_yes (p := startP s ts) (n := 200001) (startP_mono hs hst) h0 h1)) rfl (cv_cons 4 rfl rfl (cov_ro (cov_refl _)) cv_nil) rfl (fun B hB => ?_)
    change RJ _ _ _ _ _ _ [B, (blk b5 108 (RiderV.cells (RiderV.mk s (TrackV.mk (Slc.mk tsA ts.length tsC)) false))), (blk b3 28 (SledV.cells s)), (blk b2 24 (TrackV.cells (TrackV.mk (Slc.mk tsA ts.length tsC)))), (rd tsA ts.length 9 (ts.map StretchV.cells)).ro]
    refine r_sd (sd_assign rfl rfl) rfl rfl ?_
    refine r_nil ?_
    refine k_then (hK9 _ _ _ ?_)
    refine w_seq fun K10 hK10 => ?_
    refine w_seq fun K11 hK11 => ?_
    refine w_region ?_
    refine r_sd (sd_move rfl rfl) rfl rfl ?_
    refine r_sd (sd_bin rfl rfl rfl b_eql) rfl rfl ?_
    refine r_nil ?_
    refine k_then (hK11 _ _ _ ?_)
    refine w_if rfl (fun hz0 => ?_) (fun hz0 => ?_)
    · -- yes
      replace hz0 := of_decide_eq_true hz0
      refine w_seq fun K12 hK12 => ?_
      refine w_region ?_
      refine r_sd (sd_assign rfl rfl) rfl rfl ?_
      refine r_sd (sd_assign rfl rfl) rfl rfl ?_
      refine r_nil ?_
      refine k_then (hK12 _ _ _ ?_)
      refine w_ret ?_
      refine hQ _ _ _ (l_nil (vs := [(Value.int .i64 0), (Value.int .i64 6)]) ⟨rfl, rfl, trivial⟩ fun w hs => endV ?_ hs)
      show (Value.tuple [(Value.int .i64 0), (Value.int .i64 6)].toArray) = (Value.tuple [(Value.int .i64 (startV s ts)), (Value.int .i64 (startE s ts))].toArray)
      clear hs w hQ hN hK12 K12 hK11 K11 hK10 K10 hK9 K9 hK8 K8 hK7 K7 hK4 K4 hK1 K1
      first | (have e := start_none hb0 hz0; rw [e.1, e.2]) | (have e := start_some hb0 hz0; rw [e.1, e.2])
    · -- no
      replace hz0 := of_decide_eq_false hz0
      refine w_skip ?_
      refine k_then (hK10 _ _ _ ?_)
      refine w_seq fun K13 hK13 => ?_
      refine w_region ?_
      refine r_sd (sd_move rfl rfl) rfl rfl ?_
      refine r_sd (sd_bin rfl rfl rfl (b_sub ⟨by omega, by omega⟩)) rfl rfl ?_
      refine r_sd (sd_assign rfl rfl) rfl rfl ?_
      refine r_sd (sd_assign rfl rfl) rfl rfl ?_
      refine r_nil ?_
      refine k_then (hK13 _ _ _ ?_)
      refine w_ret ?_
      refine hQ _ _ _ (l_nil (vs := [(Value.int .i64 ((startN s ts) - 1)), (Value.int .i64 0)]) ⟨rfl, rfl, trivial⟩ fun w hs => endV ?_ hs)
      show (Value.tuple [(Value.int .i64 ((startN s ts) - 1)), (Value.int .i64 0)].toArray) = (Value.tuple [(Value.int .i64 (startV s ts)), (Value.int .i64 (startE s ts))].toArray)
      clear hs w hQ hN hK13 K13 hK11 K11 hK10 K10 hK9 K9 hK8 K8 hK7 K7 hK4 K4 hK1 K1
      first | (have e := start_none hb0 hz0; rw [e.1, e.2]) | (have e := start_some hb0 hz0; rw [e.1, e.2])

theorem start_no_ (ts : List StretchV) (tsA : Option Addr) (tsC : Nat) (s : SledV) (hlen : ts.length ≤ 1000000) (hside : ∀ x ∈ ts, 0 ≤ x.Side ∧ x.Side ≤ 255) (hb : ¬ bothE s ts = 0) :
    FnV Try.prog 34 [(Value.agg (TrackV.cells (TrackV.mk (Slc.mk tsA ts.length tsC))).toArray), (Value.agg (SledV.cells s).toArray)] [(rd tsA ts.length 9 (ts.map StretchV.cells))] (Value.tuple [(Value.int .i64 (startV s ts)), (Value.int .i64 (startE s ts))].toArray) := by
  by_cases htr : trackOk ts = true
  · by_cases hs : SledOk s
    · exact absurd (bothE_ok htr hs) hb
    · exact start_sled ts tsA tsC s hlen hside htr hs
  · exact start_bad ts tsA tsC s hlen hside (by simpa using htr)

theorem start_c (ts : List StretchV) (tsA : Option Addr) (tsC : Nat) (s : SledV) (hlen : ts.length ≤ 1000000) (hside : ∀ x ∈ ts, 0 ≤ x.Side ∧ x.Side ≤ 255) :
    FnV Try.prog 34 [(Value.agg (TrackV.cells (TrackV.mk (Slc.mk tsA ts.length tsC))).toArray), (Value.agg (SledV.cells s).toArray)] [(rd tsA ts.length 9 (ts.map StretchV.cells))] (Value.tuple [(Value.int .i64 (startV s ts)), (Value.int .i64 (startE s ts))].toArray) := by
  by_cases hb : bothE s ts = 0
  · obtain ⟨h1, h2⟩ := bothE_zero hb
    exact start_ok ts tsA tsC s hlen hside h1 h2
  · exact start_no_ ts tsA tsC s hlen hside hb

set_option maxRecDepth 100000 in
set_option maxHeartbeats 400000 in
theorem from_c (s : SledV) (h : Int) :
    FnV Try.prog 81 [(Value.agg (SledV.cells s).toArray), (Value.int .i64 h)] [] (Value.agg (SledV.cells (fromS s h)).toArray) := by
  refine fnV_of go81 Try.func81 rfl rfl fun w0 Q hQ hN => ?_
  change WJ _ _ _ _ [(0, (Value.agg (SledV.cells s).toArray)), (1, (Value.int .i64 h))] []
  refine w_seq fun K1 hK1 => ?_
  refine w_region ?_
  refine r_box (cs := (SledV.cells s)) rfl rfl rfl rfl fun b2 => ?_
  refine r_alloc rfl tz28 rfl fun b3 => ?_
  refine r_nil ?_
  refine k_then (hK1 _ _ _ ?_)
  refine w_seq fun K4 hK4 => ?_
  refine w_region ?_
  refine r_sd (sd_move rfl rfl) rfl rfl ?_
  refine r_sd (sd_build (xs := [(0, .const (Value.int .i64 0)), (1, .tmp 5)]) (cs := (SpanV.cells (SpanV.mk 0 h))) rfl rfl (built_of tb26 rfl)) rfl rfl ?_
  refine r_sd (sd_fa (o' := 1) rfl rfl fo28_1 rfl) rfl rfl ?_
  refine r_store (vs := (SpanV.cells (SpanV.mk 0 h))) (cs' := (SledV.cells (SledV.mk s.Class (SpanV.mk 0 h) s.Rub s.Drag s.Weight s.Steer))) (C' := [_, (blk b2 28 (SledV.cells (SledV.mk s.Class (SpanV.mk 0 h) s.Rub s.Drag s.Weight s.Steer)))]) 1 rfl rfl rfl ts26 rfl rfl rfl rfl rfl rfl rfl ?_
  refine r_nil ?_
  refine k_then (hK4 _ _ _ ?_)
  refine w_seq fun K5 hK5 => ?_
  refine w_region ?_
  refine r_sd (sd_ldn rfl rfl tk28 (at_blk (vs := (SledV.cells (SledV.mk s.Class (SpanV.mk 0 h) s.Rub s.Drag s.Weight s.Steer))) 1 rfl rfl) rfl) rfl rfl ?_
  refine r_store (vs := (SledV.cells (SledV.mk s.Class (SpanV.mk 0 h) s.Rub s.Drag s.Weight s.Steer))) (cs' := (SledV.cells (SledV.mk s.Class (SpanV.mk 0 h) s.Rub s.Drag s.Weight s.Steer))) (C' := [(blk b3 28 (SledV.cells (SledV.mk s.Class (SpanV.mk 0 h) s.Rub s.Drag s.Weight s.Steer))), _]) 0 rfl rfl rfl ts28 rfl rfl rfl rfl rfl rfl rfl ?_
  refine r_nil ?_
  refine k_then (hK5 _ _ _ ?_)
  refine w_ret ?_
  refine hQ _ _ _ (l_nil (vs := [(Value.agg (SledV.cells (SledV.mk s.Class (SpanV.mk 0 h) s.Rub s.Drag s.Weight s.Steer)).toArray)]) ⟨⟨_, rfl, .inl ⟨_, _, tk28, at_blk (vs := (SledV.cells (SledV.mk s.Class (SpanV.mk 0 h) s.Rub s.Drag s.Weight s.Steer))) 0 rfl rfl, rfl, rfl⟩⟩, trivial⟩ fun w hs => endV ?_ hs)
  show (Value.agg (SledV.cells (SledV.mk s.Class (SpanV.mk 0 h) s.Rub s.Drag s.Weight s.Steer)).toArray) = (Value.agg (SledV.cells (fromS s h)).toArray)
  clear hs w hQ hN hK5 K5 hK4 K4 hK1 K1
  rfl

set_option maxRecDepth 100000 in
set_option maxHeartbeats 400000 in
theorem rStart_c (ts : List StretchV) (tsA : Option Addr) (tsC : Nat) (s : SledV) (hlen : ts.length ≤ 1000000) (hside : ∀ x ∈ ts, 0 ≤ x.Side ∧ x.Side ≤ 255) (hc : 0 ≤ s.Class ∧ s.Class ≤ 255) :
    FnV Try.prog 35 [(Value.agg (TrackV.cells (TrackV.mk (Slc.mk tsA ts.length tsC))).toArray), (Value.agg (SledV.cells s).toArray)] [(rd tsA ts.length 9 (ts.map StretchV.cells))] (Value.tuple [(Value.int .i64 (startV s ts)), (Value.int .i64 (startE s ts))].toArray) := by
  refine fnV_of go35 Try.func35 rfl rfl fun w0 Q hQ hN => ?_
  change WJ _ _ _ _ [(0, (Value.agg (TrackV.cells (TrackV.mk (Slc.mk tsA ts.length tsC))).toArray)), (1, (Value.agg (SledV.cells s).toArray))] [(rd tsA ts.length 9 (ts.map StretchV.cells)).ro]
  refine w_seq fun K1 hK1 => ?_
  refine w_region ?_
  refine r_box (cs := (TrackV.cells (TrackV.mk (Slc.mk tsA ts.length tsC)))) rfl rfl rfl rfl fun b2 => ?_
  refine r_box (cs := (SledV.cells s)) rfl rfl rfl rfl fun b3 => ?_
  refine r_sd (sd_assign rfl rfl) rfl rfl ?_
  refine r_sd (sd_assign rfl rfl) rfl rfl ?_
  refine r_nil ?_
  refine k_then (hK1 _ _ _ ?_)
  refine w_seq fun K4 hK4 => ?_
  refine w_seq fun K5 hK5 => ?_
  refine w_region ?_
  refine r_sd (sd_ldn rfl rfl tk24 (at_blk (vs := (TrackV.cells (TrackV.mk (Slc.mk tsA ts.length tsC)))) 1 rfl rfl) rfl) rfl rfl ?_
  refine r_sd (sd_ldn rfl rfl tk28 (at_blk (vs := (SledV.cells s)) 0 rfl rfl) rfl) rfl rfl ?_
  refine r_sd (sd_call rfl rfl rfl rfl (both_c ts tsA tsC s (by first | assumption | omega | (simp; done) | (simp; omega)) (by first | assumption | omega | (simp; done) | (simp; omega))) (ha_at 2 rfl rfl <| ha_nil)) rfl rfl ?_
  refine r_sd (sd_assign rfl rfl) rfl rfl ?_
  refine r_nil ?_
  refine k_then (hK5 _ _ _ ?_)
  refine w_seq fun K6 hK6 => ?_
  refine w_region ?_
  refine r_sd (sd_move rfl rfl) rfl rfl ?_
  refine r_sd (sd_bin rfl rfl rfl b_neq) rfl rfl ?_
  refine r_nil ?_
  refine k_then (hK6 _ _ _ ?_)
  refine w_if rfl (fun he => ?_) (fun he => ?_)
  · -- yes
    rw [Bool.not_eq_true'] at he
    replace he := of_decide_eq_false he
    refine w_seq fun K7 hK7 => ?_
    refine w_region ?_
    refine r_sd (sd_move rfl rfl) rfl rfl ?_
    refine r_sd (sd_assign rfl rfl) rfl rfl ?_
    refine r_sd (sd_assign rfl rfl) rfl rfl ?_
    refine r_nil ?_
    refine k_then (hK7 _ _ _ ?_)
    refine w_ret ?_
    refine hQ _ _ _ (l_nil (vs := [(Value.int .i64 0), (Value.int .i64 (bothE s ts))]) ⟨rfl, rfl, trivial⟩ fun w hs => endV ?_ hs)
    show (Value.tuple [(Value.int .i64 0), (Value.int .i64 (bothE s ts))].toArray) = (Value.tuple [(Value.int .i64 (startV s ts)), (Value.int .i64 (startE s ts))].toArray)
    clear hs w hQ hN hK7 K7 hK6 K6 hK5 K5 hK4 K4 hK1 K1
    first | (have e := start_no he; rw [e.1, e.2]) | (have e := start_none he (start_zero hs hst h0s); rw [e.1, e.2]) | (have e := start_ref he (by omega) (by omega) hl7_1 (startP_mono hs hst) (fun y h1 h2 => hl7_2 y (by omega) h2); rw [e.1, e.2])
  · -- no
    rw [Bool.not_eq_false'] at he
    replace he := of_decide_eq_true he
    refine w_skip ?_
    refine k_then (hK4 _ _ _ ?_)
    refine w_seq fun K8 hK8 => ?_
    refine w_seq fun K9 hK9 => ?_
    refine w_draw mixed 5 (by kernel_rfl) ?_
    obtain ⟨htr, hs⟩ := bothE_zero he
    have hst := trackOk_all htr
    have hl12 := trackOk_le htr
    have hsf0 := fromS_ok hs (Int.le_refl 0) (by omega)
    refine d_sd (sd_ldn rfl rfl tk24 (at_blk (vs := (TrackV.cells (TrackV.mk (Slc.mk tsA ts.length tsC)))) 1 rfl rfl) rfl) rfl rfl ?_
    refine d_sd (sd_ldn rfl rfl tk28 (at_blk (vs := (SledV.cells s)) 0 rfl rfl) rfl) rfl rfl ?_
    refine d_sd (sd_call rfl rfl rfl rfl (from_c s 0) (ha_nil)) rfl rfl ?_
    refine d_sd (sd_call rfl rfl rfl rfl (rsafe_c ts tsA tsC (fromS s 0) (by first | assumption | omega | (simp; done) | (simp; omega)) (by first | assumption | omega | (simp; done) | (simp; omega)) (by first | assumption | omega | (simp; done) | (simp; omega)) (by first | assumption | omega | (simp; done) | (simp; omega))) (ha_at 2 rfl rfl <| ha_nil)) rfl rfl ?_
    refine d_sd (sd_bin rfl rfl rfl b_neq) rfl rfl ?_
    refine d_end ?_
    refine r_nil ?_
    refine k_then (hK9 _ _ _ ?_)
    refine w_if rfl (fun h0s => ?_) (fun h0s => ?_)
    · -- yes
      rw [Bool.not_eq_true'] at h0s
      replace h0s := of_decide_eq_false h0s
      refine w_seq fun K10 hK10 => ?_
      refine w_region ?_
      refine r_sd (sd_assign rfl rfl) rfl rfl ?_
      refine r_sd (sd_assign rfl rfl) rfl rfl ?_
      refine r_nil ?_
      refine k_then (hK10 _ _ _ ?_)
      refine w_ret ?_
      refine hQ _ _ _ (l_nil (vs := [(Value.int .i64 0), (Value.int .i64 6)]) ⟨rfl, rfl, trivial⟩ fun w hs => endV ?_ hs)
      show (Value.tuple [(Value.int .i64 0), (Value.int .i64 6)].toArray) = (Value.tuple [(Value.int .i64 (startV s ts)), (Value.int .i64 (startE s ts))].toArray)
      clear hs w hQ hN hK10 K10 hK9 K9 hK8 K8 hK6 K6 hK5 K5 hK4 K4 hK1 K1
      first | (have e := start_no he; rw [e.1, e.2]) | (have e := start_none he (start_zero hs hst h0s); rw [e.1, e.2]) | (have e := start_ref he (by omega) (by omega) hl7_1 (startP_mono hs hst) (fun y h1 h2 => hl7_2 y (by omega) h2); rw [e.1, e.2])
    · -- no
      rw [Bool.not_eq_false'] at h0s
      replace h0s := of_decide_eq_true h0s
      refine w_skip ?_
      refine k_then (hK8 _ _ _ ?_)
      refine w_seq fun K11 hK11 => ?_
      refine w_region ?_
      refine r_sd (sd_assign rfl rfl) rfl rfl ?_
      refine r_sd (sd_assign rfl rfl) rfl rfl ?_
      refine r_nil ?_
      refine k_then (hK11 _ _ _ ?_)
      refine w_seq fun K12 hK12 => ?_
      refine w_block ?_
      have hinit : (0 ≤ (0 : Int) ∧ (0 : Int) ≤ (200000 : Int) ∧ (200000 : Int) ≤ 200000) ∧ (startP s ts (0 : Int) = false) ∧ (∀ y, (200000 : Int) < y → y ≤ 200000 → startP s ts y = true) := by exact ⟨by omega, (start_safe hs hst (Int.le_refl 0) (by omega)).1 h0s, fun y h1 h2 => by omega⟩
      refine w_loop (ι := { z : Int × Int // (0 ≤ z.1 ∧ z.1 ≤ z.2 ∧ z.2 ≤ 200000) ∧ (startP s ts z.1 = false) ∧ (∀ y, z.2 < y → y ≤ 200000 → startP s ts y = true) }) (fun z => [(2, (Value.pointer (some ⟨b2, 0, none⟩))), (3, (Value.pointer (some ⟨b3, 0, none⟩))), (7, (Value.int .i64 z.1.1)), (8, (Value.int .i64 z.1.2))]) (fun z => [(blk b3 28 (SledV.cells s)), (blk b2 24 (TrackV.cells (TrackV.mk (Slc.mk tsA ts.length tsC)))), (rd tsA ts.length 9 (ts.map StretchV.cells)).ro]) (fun z => (z.1.2 - z.1.1).toNat) ⟨((0 : Int), (200000 : Int)), hinit⟩ (Sub.cons rfl <| Sub.cons rfl <| Sub.cons rfl <| Sub.cons rfl <| Sub.nil _) (fun w hs => St.sel [0, 1, 2] rfl rfl hs) ?_
      clear hinit
      rintro ⟨⟨lo, hi⟩, ⟨hl7_0, hl7_1, hl7_2⟩⟩ J13 hJ13
      try dsimp only at hl7_0 hl7_1 hl7_2
      change WJ _ _ _ _ [(2, (Value.pointer (some ⟨b2, 0, none⟩))), (3, (Value.pointer (some ⟨b3, 0, none⟩))), (7, (Value.int .i64 lo)), (8, (Value.int .i64 hi))] [(blk b3 28 (SledV.cells s)), (blk b2 24 (TrackV.cells (TrackV.mk (Slc.mk tsA ts.length tsC)))), (rd tsA ts.length 9 (ts.map StretchV.cells)).ro]
      refine w_seq fun K14 hK14 => ?_
      refine w_seq fun K15 hK15 => ?_
      refine w_region ?_
      refine r_sd (sd_move rfl rfl) rfl rfl ?_
      refine r_sd (sd_move rfl rfl) rfl rfl ?_
      refine r_sd (sd_bin rfl rfl rfl b_lss) rfl rfl ?_
      refine r_nil ?_
      refine k_then (hK15 _ _ _ ?_)
      refine w_if rfl (fun h16 => ?_) (fun h16 => ?_)
      · -- yes
        replace h16 := of_decide_eq_true h16
        refine w_skip ?_
        refine k_then (hK14 _ _ _ ?_)
        refine w_block ?_
        refine w_seq fun K17 hK17 => ?_
        refine w_region ?_
        refine r_sd (sd_move rfl rfl) rfl rfl ?_
        refine r_sd (sd_move rfl rfl) rfl rfl ?_
        refine r_sd (sd_bin rfl rfl rfl (b_add ⟨by omega, by omega⟩)) rfl rfl ?_
        refine r_sd (sd_bin rfl rfl rfl (b_add ⟨by omega, by omega⟩)) rfl rfl ?_
        refine r_sd (sd_bin rfl rfl rfl (b_quo (by omega) (by omega) (by omega))) rfl rfl ?_
        refine r_sd (sd_assign rfl rfl) rfl rfl ?_
        refine r_nil ?_
        refine k_then (hK17 _ _ _ ?_)
        refine w_seq fun K18 hK18 => ?_
        refine w_draw mixed 6 (by kernel_rfl) ?_
        have hsf := fromS_ok (h := (((lo + hi) + 1) / 2)) hs (by omega) (by omega)
        refine d_sd (sd_ldn rfl rfl tk24 (at_blk (vs := (TrackV.cells (TrackV.mk (Slc.mk tsA ts.length tsC)))) 1 rfl rfl) rfl) rfl rfl ?_
        refine d_sd (sd_ldn rfl rfl tk28 (at_blk (vs := (SledV.cells s)) 0 rfl rfl) rfl) rfl rfl ?_
        refine d_sd (sd_move rfl rfl) rfl rfl ?_
        refine d_sd (sd_call rfl rfl rfl rfl (from_c s (((lo + hi) + 1) / 2)) (ha_nil)) rfl rfl ?_
        refine d_sd (sd_call rfl rfl rfl rfl (rsafe_c ts tsA tsC (fromS s (((lo + hi) + 1) / 2)) (by first | assumption | omega | (simp; done) | (simp; omega)) (by first | assumption | omega | (simp; done) | (simp; omega)) (by first | assumption | omega | (simp; done) | (simp; omega)) (by first | assumption | omega | (simp; done) | (simp; omega))) (ha_at 2 rfl rfl <| ha_nil)) rfl rfl ?_
        refine d_sd (sd_bin rfl rfl rfl b_eql) rfl rfl ?_
        refine d_end ?_
        refine r_nil ?_
        refine k_then (hK18 _ _ _ ?_)
        refine w_if rfl (fun hp => ?_) (fun hp => ?_)
        · -- yes
          replace hp := of_decide_eq_true hp
          refine w_region ?_
          refine r_sd (sd_move rfl rfl) rfl rfl ?_
          refine r_sd (sd_assign rfl rfl) rfl rfl ?_
          refine r_nil ?_
          refine k_block ?_
          refine k_then (hJ13 ⟨((((lo + hi) + 1) / 2), hi), (by first | exact ⟨by simp only []; omega, (start_safe hs hst (by omega) (by omega)).1 hp, hl7_2⟩ | exact ⟨by simp only []; omega, hl7_1, start_upto hs hst (by omega) (by omega) hp⟩)⟩ _ _ _ rfl (by simp only []; omega) (Sub.cons rfl <| Sub.cons rfl <| Sub.cons rfl <| Sub.cons rfl <| Sub.nil _) (fun w hs => St.sel [0, 1, 2] rfl rfl hs))
        · -- no
          replace hp := of_decide_eq_false hp
          refine w_region ?_
          refine r_sd (sd_move rfl rfl) rfl rfl ?_
          refine r_sd (sd_bin rfl rfl rfl (b_sub ⟨by omega, by omega⟩)) rfl rfl ?_
          refine r_sd (sd_assign rfl rfl) rfl rfl ?_
          refine r_nil ?_
          refine k_block ?_
          refine k_then (hJ13 ⟨(lo, ((((lo + hi) + 1) / 2) - 1)), (by first | exact ⟨by simp only []; omega, (start_safe hs hst (by omega) (by omega)).1 hp, hl7_2⟩ | exact ⟨by simp only []; omega, hl7_1, start_upto hs hst (by omega) (by omega) hp⟩)⟩ _ _ _ rfl (by simp only []; omega) (Sub.cons rfl <| Sub.cons rfl <| Sub.cons rfl <| Sub.cons rfl <| Sub.nil _) (fun w hs => St.sel [0, 1, 2] rfl rfl hs))
      · -- no
        replace h16 := of_decide_eq_false h16
        refine w_exit ?_
        refine k_exit_then ?_
        refine k_exit_then ?_
        refine k_exit_same ?_
        refine k_then (hK12 _ _ _ ?_)
        refine w_seq fun K19 hK19 => ?_
        refine w_region ?_
        refine r_sd (sd_move rfl rfl) rfl rfl ?_
        refine r_sd (sd_assign rfl rfl) rfl rfl ?_
        refine r_sd (sd_assign rfl rfl) rfl rfl ?_
        refine r_nil ?_
        refine k_then (hK19 _ _ _ ?_)
        refine w_ret ?_
        refine hQ _ _ _ (l_nil (vs := [(Value.int .i64 lo), (Value.int .i64 0)]) ⟨rfl, rfl, trivial⟩ fun w hs => endV ?_ hs)
        show (Value.tuple [(Value.int .i64 lo), (Value.int .i64 0)].toArray) = (Value.tuple [(Value.int .i64 (startV s ts)), (Value.int .i64 (startE s ts))].toArray)
        clear hs w hQ hN hK19 K19 hK15 K15 hK14 K14 hK12 K12 hK11 K11 hK9 K9 hK8 K8 hK6 K6 hK5 K5 hK4 K4 hK1 K1
        first | (have e := start_no he; rw [e.1, e.2]) | (have e := start_none he (start_zero hs hst h0s); rw [e.1, e.2]) | (have e := start_ref he (by omega) (by omega) hl7_1 (startP_mono hs hst) (fun y h1 h2 => hl7_2 y (by omega) h2); rw [e.1, e.2])

end Go.Proofs.Ytpbgdeojcefnmaa
