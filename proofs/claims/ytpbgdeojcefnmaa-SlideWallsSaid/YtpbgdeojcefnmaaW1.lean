/-
  Walks: (kreisel/slide.rider).one, kreisel/kreiselref03.within, kreisel/kreiselref01.within, kreisel/kreiselref03.span, kreisel/kreiselref01.span, kreisel/kreiselref01.Great, kreisel/kreiselref03.Next
-/
import Derived.Test.YtpbgdeojcefnmaaTab
import Derived.Test.YtpbgdeojcefnmaaSort
namespace Go.Proofs.Ytpbgdeojcefnmaa
open Go.RowKit
set_option linter.unusedVariables false

set_option maxRecDepth 100000 in
set_option maxHeartbeats 400000 in
theorem one_c (s : SledV) (best : Bool) (tsA : Option Addr) (tsN : Nat) (tsC : Nat) (z : SpanV) (f : Bool) :
    FnV Try.prog 95 [(Value.agg (RiderV.cells (RiderV.mk s (TrackV.mk (Slc.mk tsA tsN tsC)) best)).toArray), (Value.agg (SpanV.cells z).toArray), (Value.bool f)] [] (Value.int .i64 (oneF best f z)) := by
  refine fnV_of go95 Try.func95 rfl rfl fun w0 Q hQ hN => ?_
  change WJ _ _ _ _ [(0, (Value.agg (RiderV.cells (RiderV.mk s (TrackV.mk (Slc.mk tsA tsN tsC)) best)).toArray)), (1, (Value.agg (SpanV.cells z).toArray)), (2, (Value.bool f))] []
  refine w_seq fun K1 hK1 => ?_
  refine w_region ?_
  refine r_box (cs := (RiderV.cells (RiderV.mk s (TrackV.mk (Slc.mk tsA tsN tsC)) best))) rfl rfl rfl rfl fun b2 => ?_
  refine r_box (cs := (SpanV.cells z)) rfl rfl rfl rfl fun b3 => ?_
  refine r_sd (sd_assign rfl rfl) rfl rfl ?_
  refine r_nil ?_
  refine k_then (hK1 _ _ _ ?_)
  refine w_seq fun K4 hK4 => ?_
  refine w_seq fun K5 hK5 => ?_
  refine w_region ?_
  refine r_sd (sd_fa (o' := 12) rfl rfl fo108_2 rfl) rfl rfl ?_
  refine r_sd (sd_ld1 rfl rfl tk4 (at_blk (vs := [(Value.bool best)]) 1 rfl rfl)) rfl rfl ?_
  refine r_sd (sd_move rfl rfl) rfl rfl ?_
  refine r_sd (sd_bin rfl rfl rfl (b_eqlb ut4)) rfl rfl ?_
  refine r_nil ?_
  refine k_then (hK5 _ _ _ ?_)
  refine w_if rfl (fun h6 => ?_) (fun h6 => ?_)
  · -- yes
    replace h6 : best = f := by simpa using h6
    refine w_seq fun K7 hK7 => ?_
    refine w_region ?_
    refine r_sd (sd_fa (o' := 1) rfl rfl fo26_1 rfl) rfl rfl ?_
    refine r_sd (sd_ld1 rfl rfl tk3 (at_blk (vs := [(Value.int .i64 z.Hi)]) 0 rfl rfl)) rfl rfl ?_
    refine r_sd (sd_assign rfl rfl) rfl rfl ?_
    refine r_nil ?_
    refine k_then (hK7 _ _ _ ?_)
    refine w_ret ?_
    refine hQ _ _ _ (l_nil (vs := [(Value.int .i64 z.Hi)]) ⟨rfl, trivial⟩ fun w hs => endV ?_ hs)
    show (Value.int .i64 z.Hi) = (Value.int .i64 (oneF best f z))
    clear hs w hQ hN hK7 K7 hK5 K5 hK4 K4 hK1 K1
    exact congrArg (Value.int .i64) (by unfold oneF; cases hb : best <;> cases f <;> simp_all)
  · -- no
    replace h6 : ¬ best = f := by simpa using h6
    refine w_skip ?_
    refine k_then (hK4 _ _ _ ?_)
    refine w_seq fun K8 hK8 => ?_
    refine w_region ?_
    refine r_sd (sd_fa (o' := 0) rfl rfl fo26_0 rfl) rfl rfl ?_
    refine r_sd (sd_ld1 rfl rfl tk3 (at_blk (vs := [(Value.int .i64 z.Lo)]) 0 rfl rfl)) rfl rfl ?_
    refine r_sd (sd_assign rfl rfl) rfl rfl ?_
    refine r_nil ?_
    refine k_then (hK8 _ _ _ ?_)
    refine w_ret ?_
    refine hQ _ _ _ (l_nil (vs := [(Value.int .i64 z.Lo)]) ⟨rfl, trivial⟩ fun w hs => endV ?_ hs)
    show (Value.int .i64 z.Lo) = (Value.int .i64 (oneF best f z))
    clear hs w hQ hN hK8 K8 hK5 K5 hK4 K4 hK1 K1
    exact congrArg (Value.int .i64) (by unfold oneF; cases hb : best <;> cases f <;> simp_all)

set_option maxRecDepth 100000 in
set_option maxHeartbeats 400000 in
theorem within3_c (n : Int) (lo : Int) (hi : Int) :
    FnV Try.prog 67 [(Value.int .i64 n), (Value.int .i64 lo), (Value.int .i64 hi)] [] (Value.bool (decide (lo ≤ n ∧ n ≤ hi))) := by
  refine fnV_of go67 Try.func67 rfl rfl fun w0 Q hQ hN => ?_
  change WJ _ _ _ _ [(0, (Value.int .i64 n)), (1, (Value.int .i64 lo)), (2, (Value.int .i64 hi))] []
  refine w_seq fun K1 hK1 => ?_
  refine w_region ?_
  refine r_sd (sd_assign rfl rfl) rfl rfl ?_
  refine r_nil ?_
  refine k_then (hK1 _ _ _ ?_)
  refine w_seq fun K2 hK2 => ?_
  refine w_region ?_
  refine r_sd (sd_move rfl rfl) rfl rfl ?_
  refine r_sd (sd_move rfl rfl) rfl rfl ?_
  refine r_sd (sd_bin rfl rfl rfl b_geq) rfl rfl ?_
  refine r_sd (sd_move rfl rfl) rfl rfl ?_
  refine r_bool (t := 10) rfl (fun h3 => ?_) (fun h3 => ?_)
  · -- yes
    replace h3 := of_decide_eq_true h3
    refine r_sd (sd_move rfl rfl) rfl rfl ?_
    refine r_sd (sd_move rfl rfl) rfl rfl ?_
    refine r_sd (sd_bin rfl rfl rfl b_leq) rfl rfl ?_
    refine r_sd (sd_pick_t rfl rfl rfl) rfl rfl ?_
    refine r_sd (sd_assign rfl rfl) rfl rfl ?_
    refine r_nil ?_
    refine k_then (hK2 _ _ _ ?_)
    refine w_ret ?_
    refine hQ _ _ _ (l_nil (vs := [(Value.bool (decide (n ≤ hi)))]) ⟨rfl, trivial⟩ fun w hs => endV ?_ hs)
    show (Value.bool (decide (n ≤ hi))) = (Value.bool (decide (lo ≤ n ∧ n ≤ hi)))
    clear hs w hQ hN hK2 K2 hK1 K1
    exact congrArg Value.bool (decide_eq_decide.2 (by omega))
  · -- no
    replace h3 := of_decide_eq_false h3
    refine r_sd (sd_off rfl) rfl rfl ?_
    refine r_sd (sd_off rfl) rfl rfl ?_
    refine r_sd (sd_off rfl) rfl rfl ?_
    refine r_sd (sd_pick_f rfl rfl rfl) rfl rfl ?_
    refine r_sd (sd_assign rfl rfl) rfl rfl ?_
    refine r_nil ?_
    refine k_then (hK2 _ _ _ ?_)
    refine w_ret ?_
    refine hQ _ _ _ (l_nil (vs := [(Value.bool false)]) ⟨rfl, trivial⟩ fun w hs => endV ?_ hs)
    show (Value.bool false) = (Value.bool (decide (lo ≤ n ∧ n ≤ hi)))
    clear hs w hQ hN hK2 K2 hK1 K1
    exact congrArg Value.bool (decide_eq_false (by omega)).symm

set_option maxRecDepth 100000 in
set_option maxHeartbeats 400000 in
theorem within1_c (n : Int) (lo : Int) (hi : Int) :
    FnV Try.prog 85 [(Value.int .i64 n), (Value.int .i64 lo), (Value.int .i64 hi)] [] (Value.bool (decide (lo ≤ n ∧ n ≤ hi))) := by
  refine fnV_of go85 Try.func85 rfl rfl fun w0 Q hQ hN => ?_
  change WJ _ _ _ _ [(0, (Value.int .i64 n)), (1, (Value.int .i64 lo)), (2, (Value.int .i64 hi))] []
  refine w_seq fun K1 hK1 => ?_
  refine w_region ?_
  refine r_sd (sd_assign rfl rfl) rfl rfl ?_
  refine r_nil ?_
  refine k_then (hK1 _ _ _ ?_)
  refine w_seq fun K2 hK2 => ?_
  refine w_region ?_
  refine r_sd (sd_move rfl rfl) rfl rfl ?_
  refine r_sd (sd_move rfl rfl) rfl rfl ?_
  refine r_sd (sd_bin rfl rfl rfl b_geq) rfl rfl ?_
  refine r_sd (sd_move rfl rfl) rfl rfl ?_
  refine r_bool (t := 10) rfl (fun h3 => ?_) (fun h3 => ?_)
  · -- yes
    replace h3 := of_decide_eq_true h3
    refine r_sd (sd_move rfl rfl) rfl rfl ?_
    refine r_sd (sd_move rfl rfl) rfl rfl ?_
    refine r_sd (sd_bin rfl rfl rfl b_leq) rfl rfl ?_
    refine r_sd (sd_pick_t rfl rfl rfl) rfl rfl ?_
    refine r_sd (sd_assign rfl rfl) rfl rfl ?_
    refine r_nil ?_
    refine k_then (hK2 _ _ _ ?_)
    refine w_ret ?_
    refine hQ _ _ _ (l_nil (vs := [(Value.bool (decide (n ≤ hi)))]) ⟨rfl, trivial⟩ fun w hs => endV ?_ hs)
    show (Value.bool (decide (n ≤ hi))) = (Value.bool (decide (lo ≤ n ∧ n ≤ hi)))
    clear hs w hQ hN hK2 K2 hK1 K1
    exact congrArg Value.bool (decide_eq_decide.2 (by omega))
  · -- no
    replace h3 := of_decide_eq_false h3
    refine r_sd (sd_off rfl) rfl rfl ?_
    refine r_sd (sd_off rfl) rfl rfl ?_
    refine r_sd (sd_off rfl) rfl rfl ?_
    refine r_sd (sd_pick_f rfl rfl rfl) rfl rfl ?_
    refine r_sd (sd_assign rfl rfl) rfl rfl ?_
    refine r_nil ?_
    refine k_then (hK2 _ _ _ ?_)
    refine w_ret ?_
    refine hQ _ _ _ (l_nil (vs := [(Value.bool false)]) ⟨rfl, trivial⟩ fun w hs => endV ?_ hs)
    show (Value.bool false) = (Value.bool (decide (lo ≤ n ∧ n ≤ hi)))
    clear hs w hQ hN hK2 K2 hK1 K1
    exact congrArg Value.bool (decide_eq_false (by omega)).symm

set_option maxRecDepth 100000 in
set_option maxHeartbeats 400000 in
theorem span3_c (s : SpanV) (lo : Int) (hi : Int) :
    FnV Try.prog 84 [(Value.agg (SpanV.cells s).toArray), (Value.int .i64 lo), (Value.int .i64 hi)] [] (Value.bool (decide (s.Lo ≤ s.Hi ∧ lo ≤ s.Lo ∧ s.Hi ≤ hi))) := by
  refine fnV_of go84 Try.func84 rfl rfl fun w0 Q hQ hN => ?_
  change WJ _ _ _ _ [(0, (Value.agg (SpanV.cells s).toArray)), (1, (Value.int .i64 lo)), (2, (Value.int .i64 hi))] []
  refine w_seq fun K1 hK1 => ?_
  refine w_region ?_
  refine r_box (cs := (SpanV.cells s)) rfl rfl rfl rfl fun b2 => ?_
  refine r_sd (sd_assign rfl rfl) rfl rfl ?_
  refine r_nil ?_
  refine k_then (hK1 _ _ _ ?_)
  refine w_seq fun K3 hK3 => ?_
  refine w_region ?_
  refine r_sd (sd_fa (o' := 0) rfl rfl fo26_0 rfl) rfl rfl ?_
  refine r_sd (sd_ld1 rfl rfl tk3 (at_blk (vs := [(Value.int .i64 s.Lo)]) 0 rfl rfl)) rfl rfl ?_
  refine r_sd (sd_move rfl rfl) rfl rfl ?_
  refine r_sd (sd_fa (o' := 1) rfl rfl fo26_1 rfl) rfl rfl ?_
  refine r_sd (sd_ld1 rfl rfl tk3 (at_blk (vs := [(Value.int .i64 s.Hi)]) 0 rfl rfl)) rfl rfl ?_
  refine r_sd (sd_call rfl rfl rfl rfl (within3_c s.Lo lo s.Hi) (ha_nil)) rfl rfl ?_
  refine r_sd (sd_move rfl rfl) rfl rfl ?_
  refine r_bool (t := 13) rfl (fun h4 => ?_) (fun h4 => ?_)
  · -- yes
    replace h4 := of_decide_eq_true h4
    refine r_sd (sd_fa (o' := 1) rfl rfl fo26_1 rfl) rfl rfl ?_
    refine r_sd (sd_ld1 rfl rfl tk3 (at_blk (vs := [(Value.int .i64 s.Hi)]) 0 rfl rfl)) rfl rfl ?_
    refine r_sd (sd_move rfl rfl) rfl rfl ?_
    refine r_sd (sd_bin rfl rfl rfl b_leq) rfl rfl ?_
    refine r_sd (sd_pick_t rfl rfl rfl) rfl rfl ?_
    refine r_sd (sd_assign rfl rfl) rfl rfl ?_
    refine r_nil ?_
    refine k_then (hK3 _ _ _ ?_)
    refine w_ret ?_
    refine hQ _ _ _ (l_nil (vs := [(Value.bool (decide (s.Hi ≤ hi)))]) ⟨rfl, trivial⟩ fun w hs => endV ?_ hs)
    show (Value.bool (decide (s.Hi ≤ hi))) = (Value.bool (decide (s.Lo ≤ s.Hi ∧ lo ≤ s.Lo ∧ s.Hi ≤ hi)))
    clear hs w hQ hN hK3 K3 hK1 K1
    exact congrArg Value.bool (decide_eq_decide.2 (by omega))
  · -- no
    replace h4 := of_decide_eq_false h4
    refine r_sd (sd_off rfl) rfl rfl ?_
    refine r_sd (sd_off rfl) rfl rfl ?_
    refine r_sd (sd_off rfl) rfl rfl ?_
    refine r_sd (sd_off rfl) rfl rfl ?_
    refine r_sd (sd_pick_f rfl rfl rfl) rfl rfl ?_
    refine r_sd (sd_assign rfl rfl) rfl rfl ?_
    refine r_nil ?_
    refine k_then (hK3 _ _ _ ?_)
    refine w_ret ?_
    refine hQ _ _ _ (l_nil (vs := [(Value.bool false)]) ⟨rfl, trivial⟩ fun w hs => endV ?_ hs)
    show (Value.bool false) = (Value.bool (decide (s.Lo ≤ s.Hi ∧ lo ≤ s.Lo ∧ s.Hi ≤ hi)))
    clear hs w hQ hN hK3 K3 hK1 K1
    exact congrArg Value.bool (decide_eq_false (by omega)).symm

set_option maxRecDepth 100000 in
set_option maxHeartbeats 400000 in
theorem span1_c (s : SpanV) (lo : Int) (hi : Int) :
    FnV Try.prog 86 [(Value.agg (SpanV.cells s).toArray), (Value.int .i64 lo), (Value.int .i64 hi)] [] (Value.bool (decide (s.Lo ≤ s.Hi ∧ lo ≤ s.Lo ∧ s.Hi ≤ hi))) := by
  refine fnV_of go86 Try.func86 rfl rfl fun w0 Q hQ hN => ?_
  change WJ _ _ _ _ [(0, (Value.agg (SpanV.cells s).toArray)), (1, (Value.int .i64 lo)), (2, (Value.int .i64 hi))] []
  refine w_seq fun K1 hK1 => ?_
  refine w_region ?_
  refine r_box (cs := (SpanV.cells s)) rfl rfl rfl rfl fun b2 => ?_
  refine r_sd (sd_assign rfl rfl) rfl rfl ?_
  refine r_nil ?_
  refine k_then (hK1 _ _ _ ?_)
  refine w_seq fun K3 hK3 => ?_
  refine w_region ?_
  refine r_sd (sd_fa (o' := 0) rfl rfl fo26_0 rfl) rfl rfl ?_
  refine r_sd (sd_ld1 rfl rfl tk3 (at_blk (vs := [(Value.int .i64 s.Lo)]) 0 rfl rfl)) rfl rfl ?_
  refine r_sd (sd_move rfl rfl) rfl rfl ?_
  refine r_sd (sd_fa (o' := 1) rfl rfl fo26_1 rfl) rfl rfl ?_
  refine r_sd (sd_ld1 rfl rfl tk3 (at_blk (vs := [(Value.int .i64 s.Hi)]) 0 rfl rfl)) rfl rfl ?_
  refine r_sd (sd_call rfl rfl rfl rfl (within1_c s.Lo lo s.Hi) (ha_nil)) rfl rfl ?_
  refine r_sd (sd_move rfl rfl) rfl rfl ?_
  refine r_bool (t := 13) rfl (fun h4 => ?_) (fun h4 => ?_)
  · -- yes
    replace h4 := of_decide_eq_true h4
    refine r_sd (sd_fa (o' := 1) rfl rfl fo26_1 rfl) rfl rfl ?_
    refine r_sd (sd_ld1 rfl rfl tk3 (at_blk (vs := [(Value.int .i64 s.Hi)]) 0 rfl rfl)) rfl rfl ?_
    refine r_sd (sd_move rfl rfl) rfl rfl ?_
    refine r_sd (sd_bin rfl rfl rfl b_leq) rfl rfl ?_
    refine r_sd (sd_pick_t rfl rfl rfl) rfl rfl ?_
    refine r_sd (sd_assign rfl rfl) rfl rfl ?_
    refine r_nil ?_
    refine k_then (hK3 _ _ _ ?_)
    refine w_ret ?_
    refine hQ _ _ _ (l_nil (vs := [(Value.bool (decide (s.Hi ≤ hi)))]) ⟨rfl, trivial⟩ fun w hs => endV ?_ hs)
    show (Value.bool (decide (s.Hi ≤ hi))) = (Value.bool (decide (s.Lo ≤ s.Hi ∧ lo ≤ s.Lo ∧ s.Hi ≤ hi)))
    clear hs w hQ hN hK3 K3 hK1 K1
    exact congrArg Value.bool (decide_eq_decide.2 (by omega))
  · -- no
    replace h4 := of_decide_eq_false h4
    refine r_sd (sd_off rfl) rfl rfl ?_
    refine r_sd (sd_off rfl) rfl rfl ?_
    refine r_sd (sd_off rfl) rfl rfl ?_
    refine r_sd (sd_off rfl) rfl rfl ?_
    refine r_sd (sd_pick_f rfl rfl rfl) rfl rfl ?_
    refine r_sd (sd_assign rfl rfl) rfl rfl ?_
    refine r_nil ?_
    refine k_then (hK3 _ _ _ ?_)
    refine w_ret ?_
    refine hQ _ _ _ (l_nil (vs := [(Value.bool false)]) ⟨rfl, trivial⟩ fun w hs => endV ?_ hs)
    show (Value.bool false) = (Value.bool (decide (s.Lo ≤ s.Hi ∧ lo ≤ s.Lo ∧ s.Hi ≤ hi)))
    clear hs w hQ hN hK3 K3 hK1 K1
    exact congrArg Value.bool (decide_eq_false (by omega)).symm

set_option maxRecDepth 100000 in
set_option maxHeartbeats 400000 in
theorem great_c (t : List StretchV) (tA : Option Addr) (tC : Nat) :
    FnV Try.prog 16 [(Value.agg (TrackV.cells (TrackV.mk (Slc.mk tA t.length tC))).toArray)] [(rd tA t.length 9 (t.map StretchV.cells))] (Value.bool (decide (20 < (t.length : Int)))) := by
  refine fnV_of go16 Try.func16 rfl rfl fun w0 Q hQ hN => ?_
  change WJ _ _ _ _ [(0, (Value.agg (TrackV.cells (TrackV.mk (Slc.mk tA t.length tC))).toArray))] [(rd tA t.length 9 (t.map StretchV.cells)).ro]
  refine w_seq fun K1 hK1 => ?_
  refine w_region ?_
  refine r_box (cs := (TrackV.cells (TrackV.mk (Slc.mk tA t.length tC)))) rfl rfl rfl rfl fun b2 => ?_
  refine r_sd (sd_assign rfl rfl) rfl rfl ?_
  refine r_nil ?_
  refine k_then (hK1 _ _ _ ?_)
  refine w_seq fun K3 hK3 => ?_
  refine w_region ?_
  refine r_sd (sd_fa (o' := 0) rfl rfl fo24_0 rfl) rfl rfl ?_
  refine r_sd (sd_ld1 rfl rfl tk22 (at_blk (vs := [(Value.slice tA t.length tC)]) 0 rfl rfl)) rfl rfl ?_
  refine r_sd (sd_len rfl rfl ut22) rfl rfl ?_
  refine r_sd (sd_bin rfl rfl rfl b_gtr) rfl rfl ?_
  refine r_sd (sd_assign rfl rfl) rfl rfl ?_
  refine r_nil ?_
  refine k_then (hK3 _ _ _ ?_)
  refine w_ret ?_
  refine hQ _ _ _ (l_nil (vs := [(Value.bool (decide (20 < ((t.length : Nat) : Int))))]) ⟨rfl, trivial⟩ fun w hs => endV ?_ hs)
  show (Value.bool (decide (20 < ((t.length : Nat) : Int)))) = (Value.bool (decide (20 < (t.length : Int))))
  clear hs w hQ hN hK3 K3 hK1 K1
  rfl

set_option maxRecDepth 100000 in
set_option maxHeartbeats 400000 in
theorem next_c (h : Int) (lo : Int) (fa : Int) (ru : Int) (dr : Int) (we : Int) (h1 : 0 ≤ h ∧ h ≤ 400000) (h2 : 0 ≤ lo ∧ lo ≤ 100000) (h3 : 0 ≤ fa ∧ fa ≤ 10000) (h4 : 0 ≤ ru ∧ ru ≤ 200) (h5 : 0 ≤ dr ∧ dr ≤ 2000) (h6 : 1 ≤ we ∧ we ≤ 1000000) :
    FnV Try.prog 83 [(Value.int .i64 h), (Value.int .i64 lo), (Value.int .i64 fa), (Value.int .i64 ru), (Value.int .i64 dr), (Value.int .i64 we)] [] (Value.int .i64 (nextH h lo fa ru dr we)) := by
  have m1 := mulb h1.1 h1.2 h5.1 h5.2
  have m2 := mulb m1.1 m1.2 h2.1 h2.2
  have m3 := divb (b := 100 * we) m2.1 m2.2 (by omega)
  have m4 := mulb h4.1 h4.2 h2.1 h2.2
  refine fnV_of go83 Try.func83 rfl rfl fun w0 Q hQ hN => ?_
  change WJ _ _ _ _ [(0, (Value.int .i64 h)), (1, (Value.int .i64 lo)), (2, (Value.int .i64 fa)), (3, (Value.int .i64 ru)), (4, (Value.int .i64 dr)), (5, (Value.int .i64 we))] []
  refine w_seq fun K1 hK1 => ?_
  refine w_region ?_
  refine r_sd (sd_assign rfl rfl) rfl rfl ?_
  refine r_nil ?_
  refine k_then (hK1 _ _ _ ?_)
  refine w_seq fun K2 hK2 => ?_
  refine w_region ?_
  refine r_sd (sd_move rfl rfl) rfl rfl ?_
  refine r_sd (sd_move rfl rfl) rfl rfl ?_
  refine r_sd (sd_move rfl rfl) rfl rfl ?_
  refine r_sd (sd_bin rfl rfl rfl (b_mul ⟨by omega, by omega⟩)) rfl rfl ?_
  refine r_sd (sd_move rfl rfl) rfl rfl ?_
  refine r_sd (sd_bin rfl rfl rfl (b_mul ⟨by omega, by omega⟩)) rfl rfl ?_
  refine r_sd (sd_move rfl rfl) rfl rfl ?_
  refine r_sd (sd_bin rfl rfl rfl (b_mul ⟨by omega, by omega⟩)) rfl rfl ?_
  refine r_sd (sd_bin rfl rfl rfl (b_quo (by omega) (by omega) (by omega))) rfl rfl ?_
  refine r_sd (sd_bin rfl rfl rfl (b_sub ⟨by omega, by omega⟩)) rfl rfl ?_
  refine r_sd (sd_max rfl rfl rfl) rfl rfl ?_
  refine r_sd (sd_assign rfl rfl) rfl rfl ?_
  refine r_nil ?_
  refine k_then (hK2 _ _ _ ?_)
  refine w_seq fun K3 hK3 => ?_
  refine w_region ?_
  refine r_sd (sd_move rfl rfl) rfl rfl ?_
  refine r_sd (sd_move rfl rfl) rfl rfl ?_
  refine r_sd (sd_bin rfl rfl rfl (b_add ⟨by omega, by omega⟩)) rfl rfl ?_
  refine r_sd (sd_move rfl rfl) rfl rfl ?_
  refine r_sd (sd_move rfl rfl) rfl rfl ?_
  refine r_sd (sd_bin rfl rfl rfl (b_mul ⟨by omega, by omega⟩)) rfl rfl ?_
  refine r_sd (sd_bin rfl rfl rfl (b_quo (by omega) (by omega) (by omega))) rfl rfl ?_
  refine r_sd (sd_bin rfl rfl rfl (b_sub ⟨by omega, by omega⟩)) rfl rfl ?_
  refine r_sd (sd_max rfl rfl rfl) rfl rfl ?_
  refine r_sd (sd_assign rfl rfl) rfl rfl ?_
  refine r_nil ?_
  refine k_then (hK3 _ _ _ ?_)
  refine w_ret ?_
  refine hQ _ _ _ (l_nil (vs := [(Value.int .i64 (max 0 (((max 0 (h - (((h * dr) * lo) / (100 * we)))) + fa) - ((ru * lo) / 100))))]) ⟨rfl, trivial⟩ fun w hs => endV ?_ hs)
  show (Value.int .i64 (max 0 (((max 0 (h - (((h * dr) * lo) / (100 * we)))) + fa) - ((ru * lo) / 100)))) = (Value.int .i64 (nextH h lo fa ru dr we))
  clear hs w hQ hN hK3 K3 hK2 K2 hK1 K1
  rfl

end Go.Proofs.Ytpbgdeojcefnmaa
