/-
  Walks: kreisel/track.in$1, slices.IndexFunc[[]int,int], slices.ContainsFunc[[]int,int], kreisel/track.in, kreisel/track.known
-/
import Derived.Test.YtpbgdeojcefnmaaTab
import Derived.Test.YtpbgdeojcefnmaaSort
namespace Go.Proofs.Ytpbgdeojcefnmaa
open Go.RowKit
set_option linter.unusedVariables false

set_option maxRecDepth 100000 in
set_option maxHeartbeats 400000 in
theorem in1_c (n : Int) (lo : Int) (hi : Int) (g1 : Nat) (g2 : Nat) :
    FnV Try.prog 102 [(Value.int .i64 n), (Value.pointer (some ⟨g1, 0, none⟩)), (Value.pointer (some ⟨g2, 0, none⟩))] [(blk g1 3 [(Value.int .i64 lo)]), (blk g2 3 [(Value.int .i64 hi)])] (Value.bool (decide (n < lo ∨ hi < n))) := by
  refine fnV_of go102 Try.func102 rfl rfl fun w0 Q hQ hN => ?_
  change WJ _ _ _ _ [(0, (Value.int .i64 n)), (1, (Value.pointer (some ⟨g1, 0, none⟩))), (2, (Value.pointer (some ⟨g2, 0, none⟩)))] [(blk g1 3 [(Value.int .i64 lo)]).ro, (blk g2 3 [(Value.int .i64 hi)]).ro]
  refine w_seq fun K1 hK1 => ?_
  refine w_region ?_
  refine r_sd (sd_assign rfl rfl) rfl rfl ?_
  refine r_nil ?_
  refine k_then (hK1 _ _ _ ?_)
  refine w_seq fun K2 hK2 => ?_
  refine w_region ?_
  refine r_sd (sd_move rfl rfl) rfl rfl ?_
  refine r_sd (sd_ld1 rfl rfl tk3 (at_blkr (vs := [(Value.int .i64 lo)]) 0 rfl rfl)) rfl rfl ?_
  refine r_sd (sd_bin rfl rfl rfl b_lss) rfl rfl ?_
  refine r_sd (sd_move rfl rfl) rfl rfl ?_
  refine r_bool (t := 8) rfl (fun h3 => ?_) (fun h3 => ?_)
  · -- yes
    replace h3 := of_decide_eq_true h3
    refine r_sd (sd_off rfl) rfl rfl ?_
    refine r_sd (sd_off rfl) rfl rfl ?_
    refine r_sd (sd_off rfl) rfl rfl ?_
    refine r_sd (sd_pick_t rfl rfl rfl) rfl rfl ?_
    refine r_sd (sd_assign rfl rfl) rfl rfl ?_
    refine r_nil ?_
    refine k_then (hK2 _ _ _ ?_)
    refine w_ret ?_
    refine hQ _ _ _ (l_nil (vs := [(Value.bool true)]) ⟨rfl, trivial⟩ fun w hs => endV ?_ hs)
    show (Value.bool true) = (Value.bool (decide (n < lo ∨ hi < n)))
    clear hs w hQ hN hK2 K2 hK1 K1
    exact congrArg Value.bool (decide_eq_true (by omega)).symm
  · -- no
    replace h3 := of_decide_eq_false h3
    refine r_sd (sd_move rfl rfl) rfl rfl ?_
    refine r_sd (sd_ld1 rfl rfl tk3 (at_blkr (vs := [(Value.int .i64 hi)]) 1 rfl rfl)) rfl rfl ?_
    refine r_sd (sd_bin rfl rfl rfl b_gtr) rfl rfl ?_
    refine r_sd (sd_pick_f rfl rfl rfl) rfl rfl ?_
    refine r_sd (sd_assign rfl rfl) rfl rfl ?_
    refine r_nil ?_
    refine k_then (hK2 _ _ _ ?_)
    refine w_ret ?_
    refine hQ _ _ _ (l_nil (vs := [(Value.bool (decide (hi < n)))]) ⟨rfl, trivial⟩ fun w hs => endV ?_ hs)
    show (Value.bool (decide (hi < n))) = (Value.bool (decide (n < lo ∨ hi < n)))
    clear hs w hQ hN hK2 K2 hK1 K1
    exact congrArg Value.bool (decide_eq_decide.2 (by omega))

set_option maxRecDepth 100000 in
set_option maxHeartbeats 400000 in
theorem index_c (l : List Int) (lA : Option Addr) (lC : Nat) (f : Value) (p : Int → Bool) (X : Assn) (hf : ∀ x0, x0 ∈ l → Clo Try.prog f [.int .i64 x0] [X] (.bool (p x0))) (hlen : l.length ≤ 1000000) :
    FnV Try.prog 115 [(Value.slice lA l.length lC), f] [(rd lA l.length 1 (l.map iC)), X] (Value.int .i64 (findI p l)) := by
  refine fnV_of go115 Try.func115 rfl rfl fun w0 Q hQ hN => ?_
  change WJ _ _ _ _ [(0, (Value.slice lA l.length lC)), (1, f)] [(rd lA l.length 1 (l.map iC)).ro, X.ro]
  refine w_seq fun K1 hK1 => ?_
  refine w_region ?_
  refine r_sd (sd_assign rfl rfl) rfl rfl ?_
  refine r_nil ?_
  refine k_then (hK1 _ _ _ ?_)
  refine w_seq fun K2 hK2 => ?_
  refine w_seq fun K3 hK3 => ?_
  refine w_region ?_
  refine r_sd (sd_move rfl rfl) rfl rfl ?_
  refine r_sd (sd_len rfl rfl ut61) rfl rfl ?_
  refine r_sd (sd_move rfl rfl) rfl rfl ?_
  refine r_nil ?_
  refine k_then (hK3 _ _ _ ?_)
  refine w_block ?_
  have hinit : (0 ≤ l.length) ∧ ((l.take 0).any p = false) := by simp
  refine w_loop (ι := { z : Nat // (z ≤ l.length) ∧ ((l.take z).any p = false) }) (fun z => [(0, (Value.slice lA l.length lC)), (1, f), (7, (Value.int .i64 ((l.length : Nat) : Int))), (8, (Value.int .i64 (z.1 : Int)))]) (fun z => [(rd lA l.length 1 (l.map iC)).ro, X.ro]) (fun z => l.length - z.1) ⟨0, hinit⟩ (Sub.cons rfl <| Sub.cons rfl <| Sub.cons rfl <| Sub.cons rfl <| Sub.nil _) (fun w hs => St.sel [0, 1] rfl rfl hs) ?_
  clear hinit
  rintro ⟨i, ⟨hl0_0, hl0_1⟩⟩ J4 hJ4
  change WJ _ _ _ _ [(0, (Value.slice lA l.length lC)), (1, f), (7, (Value.int .i64 ((l.length : Nat) : Int))), (8, (Value.int .i64 (i : Int)))] [(rd lA l.length 1 (l.map iC)).ro, X.ro]
  refine w_seq fun K5 hK5 => ?_
  refine w_region ?_
  refine r_sd (sd_bin rfl rfl rfl b_lss) rfl rfl ?_
  refine r_nil ?_
  refine k_then (hK5 _ _ _ ?_)
  refine w_seq fun K6 hK6 => ?_
  refine w_if rfl (fun h7 => ?_) (fun h7 => ?_)
  · -- yes
    replace h7 := of_decide_eq_true h7
    refine w_skip ?_
    refine k_then (hK6 _ _ _ ?_)
    refine w_seq fun K8 hK8 => ?_
    refine w_block ?_
    refine w_seq fun K9 hK9 => ?_
    refine w_region ?_
    refine r_sd (sd_move rfl rfl) rfl rfl ?_
    refine r_sd (sd_assign rfl rfl) rfl rfl ?_
    refine r_nil ?_
    refine k_then (hK9 _ _ _ ?_)
    refine w_seq fun K10 hK10 => ?_
    refine w_region ?_
    refine r_sd (sd_move rfl rfl) rfl rfl ?_
    refine r_sd (sd_move rfl rfl) rfl rfl ?_
    refine r_sd (sd_move rfl rfl) rfl rfl ?_
    obtain ⟨x, hx⟩ : ∃ y_, l[i]? = some y_ := ⟨l[i]'(by omega), List.getElem?_eq_getElem _⟩
    have hxm : (l.map iC)[i]? = some (iC x) := by rw [List.getElem?_map, hx]; rfl
    refine r_sd (sd_ia (k := i) rfl rfl rfl (has_at 0 rfl) te61 (by decide) (by omega) (by omega)) rfl rfl ?_
    refine r_sd (sd_ld1 rfl rfl tk3 (at_rd (k := i) (o := 0) (vs := [(Value.int .i64 x)]) (has_at 0 rfl) hxm rfl (by decide) rfl)) rfl rfl ?_
    refine r_sd (sd_clo rfl rfl rfl (hf x (List.mem_of_getElem? hx)) (ha_at 1 rfl rfl <| ha_nil)) rfl rfl ?_
    refine r_nil ?_
    refine k_then (hK10 _ _ _ ?_)
    refine w_if rfl (fun hp => ?_) (fun hp => ?_)
    · -- yes
      refine w_seq fun K11 hK11 => ?_
      refine w_region ?_
      refine r_sd (sd_move rfl rfl) rfl rfl ?_
      refine r_sd (sd_assign rfl rfl) rfl rfl ?_
      refine r_nil ?_
      refine k_then (hK11 _ _ _ ?_)
      refine w_ret ?_
      refine hQ _ _ _ (l_nil (vs := [(Value.int .i64 (i : Int))]) ⟨rfl, trivial⟩ fun w hs => endV ?_ hs)
      show (Value.int .i64 (i : Int)) = (Value.int .i64 (findI p l))
      clear hs w hQ hN hK11 K11 hK10 K10 hK9 K9 hK8 K8 hK6 K6 hK5 K5 hK3 K3 hK2 K2 hK1 K1
      first | exact congrArg (Value.int .i64) (findI_at hx hp hl0_1).symm | exact congrArg (Value.int .i64) (findI_none (by omega) hl0_1).symm
    · -- no
      refine w_skip ?_
      refine k_block ?_
      refine k_then (hK8 _ _ _ ?_)
      refine w_region ?_
      refine r_sd (sd_bin rfl rfl rfl (b_add ⟨by omega, by omega⟩)) rfl rfl ?_
      refine r_sd (sd_move rfl rfl) rfl rfl ?_
      refine r_nil ?_
      refine k_then (hJ4 ⟨(i + 1), ⟨by omega, any_step hx hl0_1 hp⟩⟩ _ _ _ rfl (by first | omega | (simp; omega)) (Sub.cons rfl <| Sub.cons rfl <| Sub.cons rfl <| Sub.cons rfl <| Sub.nil _) (fun w hs => St.sel [0, 1] rfl rfl hs))
  · -- no
    replace h7 := of_decide_eq_false h7
    refine w_exit ?_
    refine k_exit_then ?_
    refine k_exit_then ?_
    refine k_exit_same ?_
    refine k_then (hK2 _ _ _ ?_)
    refine w_seq fun K12 hK12 => ?_
    refine w_region ?_
    refine r_sd (sd_assign rfl rfl) rfl rfl ?_
    refine r_nil ?_
    refine k_then (hK12 _ _ _ ?_)
    refine w_ret ?_
    refine hQ _ _ _ (l_nil (vs := [(Value.int .i64 (-1))]) ⟨rfl, trivial⟩ fun w hs => endV ?_ hs)
    show (Value.int .i64 (-1)) = (Value.int .i64 (findI p l))
    clear hs w hQ hN hK12 K12 hK6 K6 hK5 K5 hK3 K3 hK2 K2 hK1 K1
    first | exact congrArg (Value.int .i64) (findI_at hx hp hl0_1).symm | exact congrArg (Value.int .i64) (findI_none (by omega) hl0_1).symm

set_option maxRecDepth 100000 in
set_option maxHeartbeats 400000 in
theorem contains_c (l : List Int) (lA : Option Addr) (lC : Nat) (f : Value) (p : Int → Bool) (X : Assn) (hf : ∀ x0, x0 ∈ l → Clo Try.prog f [.int .i64 x0] [X] (.bool (p x0))) (hlen : l.length ≤ 1000000) :
    FnV Try.prog 101 [(Value.slice lA l.length lC), f] [(rd lA l.length 1 (l.map iC)), X] (Value.bool (l.any p)) := by
  refine fnV_of go101 Try.func101 rfl rfl fun w0 Q hQ hN => ?_
  change WJ _ _ _ _ [(0, (Value.slice lA l.length lC)), (1, f)] [(rd lA l.length 1 (l.map iC)).ro, X.ro]
  refine w_seq fun K1 hK1 => ?_
  refine w_region ?_
  refine r_sd (sd_assign rfl rfl) rfl rfl ?_
  refine r_nil ?_
  refine k_then (hK1 _ _ _ ?_)
  refine w_seq fun K2 hK2 => ?_
  refine w_region ?_
  refine r_sd (sd_move rfl rfl) rfl rfl ?_
  refine r_sd (sd_move rfl rfl) rfl rfl ?_
  refine r_sd (sd_call rfl rfl rfl rfl (index_c l lA lC f p X (by exact hf) (by first | assumption | omega | (simp; done) | (simp; omega))) (ha_at 0 rfl rfl <| ha_at 1 rfl rfl <| ha_nil)) rfl rfl ?_
  refine r_sd (sd_bin rfl rfl rfl b_geq) rfl rfl ?_
  refine r_sd (sd_assign rfl rfl) rfl rfl ?_
  refine r_nil ?_
  refine k_then (hK2 _ _ _ ?_)
  refine w_ret ?_
  refine hQ _ _ _ (l_nil (vs := [(Value.bool (decide (0 ≤ (findI p l))))]) ⟨rfl, trivial⟩ fun w hs => endV ?_ hs)
  show (Value.bool (decide (0 ≤ (findI p l)))) = (Value.bool (l.any p))
  clear hs w hQ hN hK2 K2 hK1 K1
  exact congrArg Value.bool findI_any

set_option maxRecDepth 100000 in
set_option maxHeartbeats 400000 in
theorem in_c (lo : Int) (hi : Int) (l : List Int) (lA : Option Addr) (lC : Nat) (hlen : l.length ≤ 1000000) :
    FnV Try.prog 89 [(Value.int .i64 lo), (Value.int .i64 hi), (Value.slice lA l.length lC)] [(rd lA l.length 1 (l.map iC))] (Value.bool (inAll lo hi l)) := by
  refine fnV_of go89 Try.func89 rfl rfl fun w0 Q hQ hN => ?_
  change WJ _ _ _ _ [(0, (Value.int .i64 lo)), (1, (Value.int .i64 hi)), (2, (Value.slice lA l.length lC))] [(rd lA l.length 1 (l.map iC)).ro]
  refine w_seq fun K1 hK1 => ?_
  refine w_region ?_
  refine r_box (cs := [(Value.int .i64 lo)]) rfl rfl rfl rfl fun b2 => ?_
  refine r_box (cs := [(Value.int .i64 hi)]) rfl rfl rfl rfl fun b3 => ?_
  refine r_sd (sd_assign rfl rfl) rfl rfl ?_
  refine r_nil ?_
  refine k_then (hK1 _ _ _ ?_)
  refine w_seq fun K4 hK4 => ?_
  refine w_region ?_
  refine r_sd (sd_move rfl rfl) rfl rfl ?_
  refine r_sd (sd_func rfl rfl rfl) rfl rfl ?_
  refine r_sd (sd_call rfl rfl rfl rfl (contains_c l lA lC (Value.func (.func 102) [].toArray [(Value.pointer (some ⟨b2, 0, none⟩)), (Value.pointer (some ⟨b3, 0, none⟩))].toArray) (fun u5 => (decide (u5 < lo ∨ hi < u5))) (bun [(blk b2 3 [(Value.int .i64 lo)]), (blk b3 3 [(Value.int .i64 hi)])]) (by intro u5 _; exact clo_of (fi := []) (ca := [(Value.pointer (some ⟨b2, 0, none⟩)), (Value.pointer (some ⟨b3, 0, none⟩))]) (fnV_bun (in1_c u5 lo hi b2 b3 ) (ha_at 0 rfl rfl <| ha_at 1 rfl rfl <| ha_nil))) (by first | assumption | omega | (simp; done) | (simp; omega))) (ha_at 2 rfl rfl <| ha_cons (has_bun (ha_at 1 rfl rfl <| ha_at 0 rfl rfl <| ha_nil)) <| ha_nil)) rfl rfl ?_
  refine r_sd (sd_not rfl rfl) rfl rfl ?_
  refine r_sd (sd_assign rfl rfl) rfl rfl ?_
  refine r_nil ?_
  refine k_then (hK4 _ _ _ ?_)
  refine w_ret ?_
  refine hQ _ _ _ (l_nil (vs := [(Value.bool (!(l.any (fun u5 => (decide (u5 < lo ∨ hi < u5))))))]) ⟨rfl, trivial⟩ fun w hs => endV ?_ hs)
  show (Value.bool (!(l.any (fun u5 => (decide (u5 < lo ∨ hi < u5)))))) = (Value.bool (inAll lo hi l))
  clear hs w hQ hN hK4 K4 hK1 K1
  rfl

set_option maxRecDepth 100000 in
set_option maxHeartbeats 400000 in
theorem known_c (s : SpanV) (lo : Int) (hi : Int) :
    FnV Try.prog 99 [(Value.agg (SpanV.cells s).toArray), (Value.int .i64 lo), (Value.int .i64 hi)] [] (Value.bool (decide (s.Lo ≤ s.Hi ∧ lo ≤ s.Lo ∧ s.Hi ≤ hi))) := by
  refine fnV_of go99 Try.func99 rfl rfl fun w0 Q hQ hN => ?_
  change WJ _ _ _ _ [(0, (Value.agg (SpanV.cells s).toArray)), (1, (Value.int .i64 lo)), (2, (Value.int .i64 hi))] []
  refine w_seq fun K1 hK1 => ?_
  refine w_region ?_
  refine r_box (cs := (SpanV.cells s)) rfl rfl rfl rfl fun b2 => ?_
  refine r_sd (sd_assign rfl rfl) rfl rfl ?_
  refine r_nil ?_
  refine k_then (hK1 _ _ _ ?_)
  refine w_seq fun K3 hK3 => ?_
  refine w_region ?_
  refine r_sd (sd_move rfl rfl) rfl rfl ?_
  refine r_sd (sd_move rfl rfl) rfl rfl ?_
  refine r_sd (sd_fa (o' := 0) rfl rfl fo26_0 rfl) rfl rfl ?_
  refine r_sd (sd_ld1 rfl rfl tk3 (at_blk (vs := [(Value.int .i64 s.Lo)]) 0 rfl rfl)) rfl rfl ?_
  refine r_sd (sd_fa (o' := 1) rfl rfl fo26_1 rfl) rfl rfl ?_
  refine r_sd (sd_ld1 rfl rfl tk3 (at_blk (vs := [(Value.int .i64 s.Hi)]) 0 rfl rfl)) rfl rfl ?_
  refine r_bs (xs := [.tmp 10, .tmp 12]) (cs := [(Value.int .i64 s.Lo), (Value.int .i64 s.Hi)]) rfl te61 tz3 rfl rfl rfl rfl (by simp [Value.cells]) rfl rfl fun b4 => ?_
  refine r_sd (sd_call rfl rfl rfl rfl (FnV.eq (in_c lo hi ([s.Lo, s.Hi]) (some ⟨b4, 0, none⟩) 2 (by first | assumption | omega | (simp; done) | (simp; omega))) inAll_two) (ha_cons (has_rd_blk 0 rfl rfl (by simp [iC_length]) rfl) <| ha_nil)) rfl rfl ?_
  refine r_sd (sd_move rfl rfl) rfl rfl ?_
  refine r_bool (t := 15) rfl (fun h5 => ?_) (fun h5 => ?_)
  · -- yes
    replace h5 := of_decide_eq_true h5
    refine r_sd (sd_fa (o' := 0) rfl rfl fo26_0 rfl) rfl rfl ?_
    refine r_sd (sd_ld1 rfl rfl tk3 (at_blk (vs := [(Value.int .i64 s.Lo)]) 1 rfl rfl)) rfl rfl ?_
    refine r_sd (sd_fa (o' := 1) rfl rfl fo26_1 rfl) rfl rfl ?_
    refine r_sd (sd_ld1 rfl rfl tk3 (at_blk (vs := [(Value.int .i64 s.Hi)]) 1 rfl rfl)) rfl rfl ?_
    refine r_sd (sd_bin rfl rfl rfl b_leq) rfl rfl ?_
    refine r_sd (sd_pick_t rfl rfl rfl) rfl rfl ?_
    refine r_sd (sd_assign rfl rfl) rfl rfl ?_
    refine r_nil ?_
    refine k_then (hK3 _ _ _ ?_)
    refine w_ret ?_
    refine hQ _ _ _ (l_nil (vs := [(Value.bool (decide (s.Lo ≤ s.Hi)))]) ⟨rfl, trivial⟩ fun w hs => endV ?_ hs)
    show (Value.bool (decide (s.Lo ≤ s.Hi))) = (Value.bool (decide (s.Lo ≤ s.Hi ∧ lo ≤ s.Lo ∧ s.Hi ≤ hi)))
    clear hs w hQ hN hK3 K3 hK1 K1
    exact congrArg Value.bool (decide_eq_decide.2 (by omega))
  · -- no
    replace h5 := of_decide_eq_false h5
    refine r_sd (sd_off rfl) rfl rfl ?_
    refine r_sd (sd_off rfl) rfl rfl ?_
    refine r_sd (sd_off rfl) rfl rfl ?_
    refine r_sd (sd_off rfl) rfl rfl ?_
    refine r_sd (sd_off rfl) rfl rfl ?_
    refine r_sd (sd_pick_f rfl rfl rfl) rfl rfl ?_
    refine r_sd (sd_assign rfl rfl) rfl rfl ?_
    refine r_nil ?_
    refine k_then (hK3 _ _ _ ?_)
    refine w_ret ?_
    refine hQ _ _ _ (l_nil (vs := [(Value.bool false)]) ⟨rfl, trivial⟩ fun w hs => endV ?_ hs)
    show (Value.bool false) = (Value.bool (decide (s.Lo ≤ s.Hi ∧ lo ≤ s.Lo ∧ s.Hi ≤ hi)))
    clear hs w hQ hN hK3 K3 hK1 K1
    exact congrArg Value.bool (decide_eq_false (by omega)).symm

end Go.Proofs.Ytpbgdeojcefnmaa
