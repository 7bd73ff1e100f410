/-
  Walks: cmp.isNaN[int], cmp.Less[int], slices.insertionSortOrdered[int], math/bits.Len64, math/bits.Len, slices.pdqsortOrdered[int], slices.Sort[[]int,int]
-/
import Derived.Test.YtpbgdeojcefnmaaTab
import Derived.Test.YtpbgdeojcefnmaaShort
namespace Go.Proofs.Ytpbgdeojcefnmaa
open Go.RowKit
set_option linter.unusedVariables false

set_option maxRecDepth 100000 in
set_option maxHeartbeats 400000 in
theorem isnan_c (x : Int) :
    FnV Try.prog 138 [(Value.int .i64 x)] [] (Value.bool false) := by
 refine fnV_of go138 Try.func138 rfl rfl fun w0 Q hQ hN => ?_
 change WJ _ _ _ _ [(0, (Value.int .i64 x))] []
 refine WS fun _ hK1 => ?_
 refine rS (AG rfl) ?_
 refine RK hK1 ?_
 refine WS fun _ hK2 => ?_
 refine rS (MV rfl) ?_
 refine rS (MV rfl) ?_
 refine rS (BI rfl b_neq) ?_
 refine rS (AG rfl) ?_
 refine RK hK2 ?_
 refine w_ret ?_
 refine Q1 hQ rfl rfl rfl ?_
 simp

set_option maxRecDepth 100000 in
set_option maxHeartbeats 400000 in
theorem less_c (x : Int) (y : Int) :
    FnV Try.prog 128 [(Value.int .i64 x), (Value.int .i64 y)] [] (Value.bool (decide (x < y))) := by
 refine fnV_of go128 Try.func128 rfl rfl fun w0 Q hQ hN => ?_
 change WJ _ _ _ _ [(0, (Value.int .i64 x)), (1, (Value.int .i64 y))] []
 refine WS fun _ hK1 => ?_
 refine rS (AG rfl) ?_
 refine RK hK1 ?_
 refine WS fun _ hK2 => ?_
 refine rS (MV rfl) ?_
 refine rS (CL (isnan_c x) (ha_nil) rfl) ?_
 refine rS (MV rfl) ?_
 refine rS (OX rfl) ?_
 refine rS (OX rfl) ?_
 refine rS (OX rfl) ?_
 refine rS (PK rfl) ?_
 refine rS (MV rfl) ?_
 refine rS (MV rfl) ?_
 refine rS (MV rfl) ?_
 refine rS (BI rfl b_lss) ?_
 refine rS (PK rfl) ?_
 refine rS (AG rfl) ?_
 refine RK hK2 ?_
 refine w_ret ?_
 refine Q1 hQ rfl rfl rfl ?_
 exact congrArg Value.bool (decide_eq_decide.2 (by omega))

set_option maxRecDepth 100000 in
set_option maxHeartbeats 400000 in
theorem inssort_c (l : List Int) (lA : Option Addr) (lC : Nat) (hlen : l.length ≤ 1000000) :
    FnM Try.prog 122 [(Value.slice lA l.length lC), (Value.int .i64 0), (Value.int .i64 ((l.length : Nat) : Int))] [] (own lA lC 3 1 (l.map iC)) (fun (x : (List Int)) => (Value.tuple [].toArray)) (fun (x : (List Int)) => x.Perm l ∧ x.Pairwise (· ≤ ·)) (fun (x : (List Int)) => (own lA lC 3 1 (x.map iC))) := by
 refine fnM_of go122 Try.func122 rfl rfl fun w0 Q hQ hN => ?_
 change WJ _ _ _ _ [(0, (Value.slice lA l.length lC)), (1, (Value.int .i64 0)), (2, (Value.int .i64 ((l.length : Nat) : Int)))] [(own lA lC 3 1 (l.map iC))]
 refine WS fun _ hK1 => ?_
 refine rS (MV rfl) ?_
 refine rS (SX (sd_bin (r := .int .i64 1) rfl rfl rfl (b_add ⟨by decide, by decide⟩)) rfl rfl) ?_
 refine rS (AG rfl) ?_
 refine RK hK1 ?_
 refine w_block ?_
 have hinit : (1 ≤ 1 ∧ (1 ≤ l.length ∨ 1 = 1)) ∧ (l.length = l.length) ∧ (l.Perm l) ∧ (Srt l 1) := by exact ⟨by omega, rfl, List.Perm.refl _, srt_one⟩
 refine w_loop (ι := { z : Nat × (List Int) // (1 ≤ z.1 ∧ (z.1 ≤ l.length ∨ z.1 = 1)) ∧ (z.2.length = l.length) ∧ (z.2.Perm l) ∧ (Srt z.2 z.1) }) (fun z => [(0, (Value.slice lA l.length lC)), (1, (Value.int .i64 0)), (2, (Value.int .i64 ((l.length : Nat) : Int))), (6, (Value.int .i64 (z.1.1 : Int)))]) (fun z => [(own lA lC 3 1 (z.1.2.map iC))]) (fun z => l.length - z.1.1) ⟨(1, l), hinit⟩ (Sub.cons rfl <| Sub.cons rfl <| Sub.cons rfl <| Sub.cons rfl <| Sub.nil _) (fun w hs => St.sel [0] rfl rfl hs) ?_
 clear hinit
 rintro ⟨⟨i, m⟩, ⟨hl1_0, hl1_1, hl1_2, hl1_3⟩⟩ J2 hJ2
 try dsimp only at hl1_0 hl1_1 hl1_2 hl1_3
 change WJ _ _ _ _ [(0, (Value.slice lA l.length lC)), (1, (Value.int .i64 0)), (2, (Value.int .i64 ((l.length : Nat) : Int))), (6, (Value.int .i64 (i : Int)))] [(own lA lC 3 1 (m.map iC))]
 refine w_seq fun _ hK3 => ?_
 refine WS fun _ hK4 => ?_
 refine rS (MV rfl) ?_
 refine rS (MV rfl) ?_
 refine rS (BI rfl b_lss) ?_
 refine RK hK4 ?_
 refine w_if rfl (fun h5 => ?_) (fun h5 => ?_)
 rotate_left 1
 · replace h5 := DF h5
   refine w_exit ?_
   refine k_exit_then ?_
   refine k_exit_then ?_
   refine k_exit_same ?_
   refine hN _ _ _ (l_nil (vs := []) trivial fun w hs => endM m 0 ?_ ?_ rfl rfl hs)
   · clear hs w hQ hN hK4 hK3 hK1; rfl
   · clear hs w hQ hN hK4 hK3 hK1; exact ⟨hl1_2, srt_all hl1_3 (by omega)⟩
 replace h5 := DT h5
 refine WK hK3 ?_
 refine w_seq fun _ hK6 => ?_
 refine w_block ?_
 refine WS fun _ hK7 => ?_
 refine rS (MV rfl) ?_
 refine rS (AG rfl) ?_
 refine RK hK7 ?_
 refine w_block ?_
 have hinit : (i ≤ i) ∧ (m.length = l.length) ∧ (m.Perm l) ∧ (Ins m i i) := by exact ⟨Nat.le_refl _, hl1_1, hl1_2, ins_start hl1_3 (by omega)⟩
 refine w_loop (ι := { z : Nat × (List Int) // (z.1 ≤ i) ∧ (z.2.length = l.length) ∧ (z.2.Perm l) ∧ (Ins z.2 i z.1) }) (fun z => [(0, (Value.slice lA l.length lC)), (1, (Value.int .i64 0)), (2, (Value.int .i64 ((l.length : Nat) : Int))), (6, (Value.int .i64 (i : Int))), (7, (Value.int .i64 ((z.1.1 : Nat) : Int)))]) (fun z => [(own lA lC 3 1 (z.1.2.map iC))]) (fun z => z.1.1) ⟨(i, m), hinit⟩ (Sub.cons rfl <| Sub.cons rfl <| Sub.cons rfl <| Sub.cons rfl <| Sub.cons rfl <| Sub.nil _) (fun w hs => St.sel [0] rfl rfl hs) ?_
 clear hinit
 rintro ⟨⟨j, q⟩, ⟨hl4_0, hl4_1, hl4_2, hl4_3⟩⟩ J8 hJ8
 try dsimp only at hl4_0 hl4_1 hl4_2 hl4_3
 change WJ _ _ _ _ [(0, (Value.slice lA l.length lC)), (1, (Value.int .i64 0)), (2, (Value.int .i64 ((l.length : Nat) : Int))), (6, (Value.int .i64 (i : Int))), (7, (Value.int .i64 ((j : Nat) : Int)))] [(own lA lC 3 1 (q.map iC))]
 refine w_seq fun _ hK9 => ?_
 refine w_seq fun _ hK10 => ?_
 refine w_draw mixed 15 (by kernel_rfl) ?_
 refine dS (MV rfl) ?_
 refine dS (MV rfl) ?_
 refine dS (BI rfl b_gtr) ?_
 refine dS (MV rfl) ?_
 refine d_bool (t := 19) rfl (fun hj => ?_) (fun hj => ?_)
 rotate_left 1
 · replace hj := DF hj
   refine dS (OX rfl) ?_
   refine dS (OX rfl) ?_
   refine dS (OX rfl) ?_
   refine dS (OX rfl) ?_
   refine dS (OX rfl) ?_
   refine dS (OX rfl) ?_
   refine dS (OX rfl) ?_
   refine dS (OX rfl) ?_
   refine dS (OX rfl) ?_
   refine dS (OX rfl) ?_
   refine dS (PK rfl) ?_
   refine d_end ?_
   refine RK hK10 ?_
   refine w_if_false rfl ?_
   refine w_exit ?_
   refine k_exit_then ?_
   refine k_exit_then ?_
   refine k_exit_same ?_
   refine k_block ?_
   refine KK hK6 ?_
   refine w_region ?_
   refine rS (MV rfl) ?_
   refine rS (BI rfl (b_add ⟨by omega, by omega⟩)) ?_
   refine rS (AG rfl) ?_
   refine r_nil ?_
   refine k_then (hJ2 ⟨((i + 1), q), ⟨by omega, hl4_1, hl4_2, by first | exact ins_zero (by omega) hl4_3 | exact ins_stop hx hy (by omega) hl4_0 hless hl4_3⟩⟩ _ _ _ rfl (by simp only []; omega) (Sub.cons rfl <| Sub.cons rfl <| Sub.cons rfl <| Sub.cons rfl <| Sub.nil _) (fun w hs => St.sel [0] rfl rfl hs))
 replace hj := DT hj
 refine dS (MV rfl) ?_
 refine dS (MV rfl) ?_
 obtain ⟨x, hx⟩ : ∃ y_, q[j]? = some y_ := ⟨q[j]'(by omega), List.getElem?_eq_getElem _⟩
 have hxm : (q.map iC)[j]? = some (iC x) := by rw [List.getElem?_map, hx]; rfl
 refine dS (IA j rfl (has_own_n (n := l.length) 0 rfl (by first | (simp; done) | (simp; omega))) te61 (by decide) (by omega) (by omega)) ?_
 refine dS (LE1 j 0 (Value.int .i64 x) rfl tk3 (has_own_n (n := q.length) 0 rfl (by simp)) hxm rfl (by decide) rfl) ?_
 refine dS (MV rfl) ?_
 refine dS (MV rfl) ?_
 refine dS (BI rfl (b_sub ⟨by omega, by omega⟩)) ?_
 obtain ⟨y, hy⟩ : ∃ y_, q[(j - 1)]? = some y_ := ⟨q[(j - 1)]'(by omega), List.getElem?_eq_getElem _⟩
 have hym : (q.map iC)[(j - 1)]? = some (iC y) := by rw [List.getElem?_map, hy]; rfl
 refine dS (IA (j - 1) rfl (has_own_n (n := l.length) 0 rfl (by first | (simp; done) | (simp; omega))) te61 (by decide) (by omega) (by omega)) ?_
 refine dS (LE1 (j - 1) 0 (Value.int .i64 y) rfl tk3 (has_own_n (n := q.length) 0 rfl (by simp)) hym rfl (by decide) rfl) ?_
 refine dS (CL (less_c x y) (ha_nil) rfl) ?_
 refine dS (PK rfl) ?_
 refine d_end ?_
 refine RK hK10 ?_
 refine w_if rfl (fun hless => ?_) (fun hless => ?_)
 rotate_left 1
 · replace hless := DF hless
   refine w_exit ?_
   refine k_exit_then ?_
   refine k_exit_then ?_
   refine k_exit_same ?_
   refine k_block ?_
   refine KK hK6 ?_
   refine w_region ?_
   refine rS (MV rfl) ?_
   refine rS (BI rfl (b_add ⟨by omega, by omega⟩)) ?_
   refine rS (AG rfl) ?_
   refine r_nil ?_
   refine k_then (hJ2 ⟨((i + 1), q), ⟨by omega, hl4_1, hl4_2, by first | exact ins_zero (by omega) hl4_3 | exact ins_stop hx hy (by omega) hl4_0 hless hl4_3⟩⟩ _ _ _ rfl (by simp only []; omega) (Sub.cons rfl <| Sub.cons rfl <| Sub.cons rfl <| Sub.cons rfl <| Sub.nil _) (fun w hs => St.sel [0] rfl rfl hs))
 replace hless := DT hless
 refine WK hK9 ?_
 refine w_seq fun _ hK11 => ?_
 refine w_block ?_
 refine w_draw4 mixed [0, 1, 2, 3, 4, 5, 6, 7, 8, 9, 10, 11, 12, 13, 14] [15, 16, 17] [false, false, false, false, false, false, false, false, true, true, false, false, true, true, true] [false, false, false] [] [(own lA lC 3 1 (q.map iC))] (by kernel_rfl) (fun w hs => St.sel [] rfl rfl hs) (fun w hs => St.sel [0] rfl rfl hs) ?_
 refine eS rfl (MV rfl) ?_
 refine eS rfl (MV rfl) ?_
 refine eS rfl (MV rfl) ?_
 refine eS rfl (MV rfl) ?_
 refine eS rfl (BI rfl (b_sub ⟨by omega, by omega⟩)) ?_
 refine eS rfl (MV rfl) ?_
 refine eS rfl (MV rfl) ?_
 refine eS rfl (BI rfl (b_sub ⟨by omega, by omega⟩)) ?_
 refine fS rfl (IA (j - 1) rfl (has_own_n (n := l.length) 0 rfl (by first | (simp; done) | (simp; omega))) te61 (by decide) (by omega) (by omega)) ?_
 refine fS rfl (LE1 (j - 1) 0 (Value.int .i64 y) rfl tk3 (has_own_n (n := q.length) 0 rfl (by simp)) hym rfl (by decide) rfl) ?_
 refine eS rfl (MV rfl) ?_
 refine eS rfl (MV rfl) ?_
 refine fS rfl (IA j rfl (has_own_n (n := l.length) 0 rfl (by first | (simp; done) | (simp; omega))) te61 (by decide) (by omega) (by omega)) ?_
 refine fS rfl (LE1 j 0 (Value.int .i64 x) rfl tk3 (has_own_n (n := q.length) 0 rfl (by simp)) hxm rfl (by decide) rfl) ?_
 refine fS rfl (IA j rfl (has_own_n (n := l.length) 0 rfl (by first | (simp; done) | (simp; omega))) te61 (by decide) (by omega) (by omega)) ?_
 refine d_fin rfl ?_
 refine t_cons rfl fun T12 hT12 => ?_
 refine r_store_own (k := j) (o := 0) (vs := [(Value.int .i64 y)]) (es' := (List.map iC (q.set j y))) (C' := [(own lA lC 3 1 (List.map iC (q.set j y)))]) 0 rfl rfl rfl ts3 rfl rfl rfl rfl hxm rfl (by decide) (by exact (List.map_set (f := iC) (l := q) (i := j) (a := y)).symm) rfl ?_
 refine r_nil (hT12 _ _ (fun w hs => St.sel [] rfl rfl hs) ?_)
 refine t_cons rfl fun T13 hT13 => ?_
 obtain ⟨x14, hx15⟩ : ∃ y_, (q.set j y)[(j - 1)]? = some y_ := ⟨(q.set j y)[(j - 1)]'(by first | omega | (simp; omega)), List.getElem?_eq_getElem _⟩
 have hx15m : (List.map iC (q.set j y))[(j - 1)]? = some (iC x14) := by rw [List.getElem?_map, hx15]; rfl
 refine rS (IA (j - 1) rfl (has_own_n (n := l.length) 0 rfl (by first | (simp; done) | (simp; omega))) te61 (by decide) (by omega) (by omega)) ?_
 refine r_nil (hT13 _ _ (fun w hs => St.sel [] rfl rfl hs) ?_)
 refine t_cons rfl fun T16 hT16 => ?_
 refine r_store_own (k := (j - 1)) (o := 0) (vs := [(Value.int .i64 x)]) (es' := (List.map iC ((q.set j y).set (j - 1) x))) (C' := [(own lA lC 3 1 (List.map iC ((q.set j y).set (j - 1) x)))]) 0 rfl rfl rfl ts3 rfl rfl rfl rfl hx15m rfl (by decide) (by exact (List.map_set (f := iC) (l := (q.set j y)) (i := (j - 1)) (a := x)).symm) rfl ?_
 refine r_nil (hT16 _ _ (fun w hs => St.sel [] rfl rfl hs) ?_)
 refine t_fin rfl ?_
 refine k_block ?_
 refine KK hK11 ?_
 refine w_region ?_
 refine rS (MV rfl) ?_
 refine rS (BI rfl (b_sub ⟨by omega, by omega⟩)) ?_
 refine rS (AG rfl) ?_
 refine r_nil ?_
 have hb17 : (Value.int .i64 (((j - 1) : Nat) : Int)) = (Value.int .i64 (((j : Nat) : Int) - 1)) := by exact congrArg (Value.int .i64) (by omega)
 refine k_then (hJ8 ⟨((j - 1), ((q.set j y).set (j - 1) x)), ⟨by omega, by simp; exact hl4_1, (swap_perm hx hy).trans hl4_2, ins_step hx hy (by omega) hl4_0 hless hl4_3⟩⟩ _ _ _ rfl (by simp only []; omega) (Sub.cons rfl <| Sub.cons rfl <| Sub.cons rfl <| Sub.cons rfl <| sub_val rfl hb17 <| Sub.nil _) (fun w hs => St.sel [0] rfl rfl hs))

set_option maxRecDepth 100000 in
set_option maxHeartbeats 400000 in
theorem len64_c (x : Int) (hx : 0 ≤ x ∧ x ≤ 100) :
    FnX Try.prog 132 [(Value.int .u64 x)] [] (fun (x : Int) => (Value.int .i64 x)) (fun (x : Int) => True) (fun (x : Int) => []) := by
 refine fnX_of go132 Try.func132 rfl rfl fun w0 Q hQ hN => ?_
 change WJ _ _ _ _ [(0, (Value.int .u64 x))] []
 refine WS fun _ hK1 => ?_
 refine rS (AG rfl) ?_
 refine RK hK1 ?_
 refine w_seq fun _ hK2 => ?_
 refine WS fun _ hK3 => ?_
 refine rS (MV rfl) ?_
 refine rS (BI rfl b_geq) ?_
 refine RK hK3 ?_
 refine w_if rfl (fun h4 => ?_) (fun h4 => ?_)
 · replace h4 := DT h4
   exfalso; omega
 replace h4 := DF h4
 refine WK hK2 ?_
 refine w_seq fun _ hK5 => ?_
 refine WS fun _ hK6 => ?_
 refine rS (MV rfl) ?_
 refine rS (BI rfl b_geq) ?_
 refine RK hK6 ?_
 refine w_if rfl (fun h7 => ?_) (fun h7 => ?_)
 · replace h7 := DT h7
   exfalso; omega
 replace h7 := DF h7
 refine WK hK5 ?_
 refine w_seq fun _ hK8 => ?_
 refine WS fun _ hK9 => ?_
 refine rS (MV rfl) ?_
 refine rS (BI rfl b_geq) ?_
 refine RK hK9 ?_
 refine w_if rfl (fun h10 => ?_) (fun h10 => ?_)
 · replace h10 := DT h10
   exfalso; omega
 replace h10 := DF h10
 refine WK hK8 ?_
 refine WS fun _ hK11 => ?_
 refine rS (MV rfl) ?_
 refine rS (MV rfl) ?_
 refine rS (SX (sd_conv (m := x) rfl rfl ut194 ut5 (wrap_u64_u8 (by first | assumption | omega))) rfl rfl) ?_
 refine r_sidx (k := (x).toNat) rfl rfl rfl ut9 (by omega) (Nat.lt_of_lt_of_le (m := 200) (by omega) (of_decide_eq_true (by kernel_rfl))) rfl fun b12 hb13 => ?_
 refine rS (SX (sd_conv (m := b12) rfl rfl ut5 ut3 (wrap_u8_i64 (by first | assumption | omega))) rfl rfl) ?_
 refine rS (BI rfl (b_add ⟨by omega, by omega⟩)) ?_
 refine rS (AG rfl) ?_
 refine RK hK11 ?_
 refine w_ret ?_
 refine hQ _ _ _ (l_nil (vs := [(Value.int .i64 (0 + b12))]) ⟨rfl, trivial⟩ fun w hs => endX (0 + b12) [] ?_ ?_ rfl rfl rfl hs)
 · rfl
 · trivial

set_option maxRecDepth 100000 in
set_option maxHeartbeats 400000 in
theorem blen_c (x : Int) (hx : 0 ≤ x ∧ x ≤ 100) :
    FnX Try.prog 114 [(Value.int .u64 x)] [] (fun (x : Int) => (Value.int .i64 x)) (fun (x : Int) => True) (fun (x : Int) => []) := by
 refine fnX_of go114 Try.func114 rfl rfl fun w0 Q hQ hN => ?_
 change WJ _ _ _ _ [(0, (Value.int .u64 x))] []
 refine WS fun _ hK1 => ?_
 refine rS (AG rfl) ?_
 refine RK hK1 ?_
 refine w_seq fun _ hK2 => ?_
 refine w_if_false rfl ?_
 refine WK hK2 ?_
 refine WS fun _ hK3 => ?_
 refine rS (MV rfl) ?_
 refine cX (len64_c x hx) (ha_nil) rfl fun n6 hy5 => ?_
 change RJ _ _ _ _ _ ((_, (Value.int .i64 n6)) :: _) (_)
 refine rS (AG rfl) ?_
 refine RK hK3 ?_
 refine w_ret ?_
 refine hQ _ _ _ (l_nil (vs := [(Value.int .i64 n6)]) ⟨rfl, trivial⟩ fun w hs => endX n6 [] ?_ ?_ rfl rfl rfl hs)
 · rfl
 · trivial

set_option maxRecDepth 100000 in
set_option maxHeartbeats 400000 in
theorem pdq_c (l : List Int) (lA : Option Addr) (lC : Nat) (u : Int) (hlen : l.length ≤ 12) :
    FnM Try.prog 113 [(Value.slice lA l.length lC), (Value.int .i64 0), (Value.int .i64 ((l.length : Nat) : Int)), (Value.int .i64 u)] [] (own lA lC 3 1 (l.map iC)) (fun (x : (List Int)) => (Value.tuple [].toArray)) (fun (x : (List Int)) => x.Perm l ∧ x.Pairwise (· ≤ ·)) (fun (x : (List Int)) => (own lA lC 3 1 (x.map iC))) := by
 refine fnM_of go113 Try.func113 rfl rfl fun w0 Q hQ hN => ?_
 change WJ _ _ _ _ [(0, (Value.slice lA l.length lC)), (1, (Value.int .i64 0)), (2, (Value.int .i64 ((l.length : Nat) : Int))), (3, (Value.int .i64 u))] [(own lA lC 3 1 (l.map iC))]
 refine WS fun _ hK1 => ?_
 refine rS (AG rfl) ?_
 refine RK hK1 ?_
 refine WS fun _ hK2 => ?_
 refine rS (AG rfl) ?_
 refine RK hK2 ?_
 refine w_block ?_
 refine w_rounds 1 ?_
 refine ro_succ fun R3 hR3 => ?_
 refine w_block ?_
 refine WS fun _ hK4 => ?_
 refine rS (MV rfl) ?_
 refine rS (MV rfl) ?_
 refine rS (BI rfl (b_sub ⟨by omega, by omega⟩)) ?_
 refine rS (AG rfl) ?_
 refine RK hK4 ?_
 refine w_seq fun _ hK5 => ?_
 refine WS fun _ hK6 => ?_
 refine rS (MV rfl) ?_
 refine rS (BI rfl b_leq) ?_
 refine RK hK6 ?_
 refine w_if rfl (fun h7 => ?_) (fun h7 => ?_)
 rotate_left 1
 · replace h7 := DF h7
   exfalso; omega
 replace h7 := DT h7
 refine WS fun _ hK8 => ?_
 refine rS (MV rfl) ?_
 refine rS (MV rfl) ?_
 refine rS (MV rfl) ?_
 refine r_callm 0 rfl rfl rfl rfl (inssort_c l lA lC (by first | assumption | omega | (simp; done) | (simp; omega))) rfl cv_nil rfl (fun m9 hy11 => ?_)
 change RJ _ _ _ _ _ ((_, (Value.tuple [].toArray)) :: _) [(own lA lC 3 1 (m9.map iC))]
 refine RK hK8 ?_
 refine w_ret ?_
 refine hQ _ _ _ (l_nil (vs := []) trivial fun w hs => endM m9 0 ?_ ?_ rfl rfl hs)
 · clear hs w hQ hN hK8 hK6 hK5 hK4 hK2 hK1; rfl
 · clear hs w hQ hN hK8 hK6 hK5 hK4 hK2 hK1; assumption

set_option maxRecDepth 100000 in
set_option maxHeartbeats 400000 in
theorem sort_c (l : List Int) (lA : Option Addr) (lC : Nat) (hlen : l.length ≤ 12) :
    FnM Try.prog 98 [(Value.slice lA l.length lC)] [] (own lA lC 3 1 (l.map iC)) (fun (x : (List Int)) => (Value.tuple [].toArray)) (fun (x : (List Int)) => x.Perm l ∧ x.Pairwise (· ≤ ·)) (fun (x : (List Int)) => (own lA lC 3 1 (x.map iC))) := by
 refine fnM_of go98 Try.func98 rfl rfl fun w0 Q hQ hN => ?_
 change WJ _ _ _ _ [(0, (Value.slice lA l.length lC))] [(own lA lC 3 1 (l.map iC))]
 refine WS fun _ hK1 => ?_
 refine rS (MV rfl) ?_
 refine rS (LN rfl ut61) ?_
 refine rS (AG rfl) ?_
 refine RK hK1 ?_
 refine w_region ?_
 refine rS (MV rfl) ?_
 refine rS (MV rfl) ?_
 refine rS (MV rfl) ?_
 refine rS (SX (sd_conv (m := ((l.length : Nat) : Int)) rfl rfl ut3 ut179 (wrap_i64_u64 (by first | assumption | omega))) rfl rfl) ?_
 refine cX (blen_c ((l.length : Nat) : Int) (by first | assumption | omega | (simp; done) | (simp; omega))) (ha_nil) rfl fun n4 hy3 => ?_
 change RJ _ _ _ _ _ ((_, (Value.int .i64 n4)) :: _) (_)
 refine r_callm 0 rfl rfl rfl rfl (pdq_c l lA lC n4 hlen) rfl cv_nil rfl (fun m5 hy7 => ?_)
 change RJ _ _ _ _ _ ((_, (Value.tuple [].toArray)) :: _) [(own lA lC 3 1 (m5.map iC))]
 refine r_nil ?_
 refine hN _ _ _ (l_nil (vs := []) trivial fun w hs => endM m5 0 ?_ ?_ rfl rfl hs)
 · clear hs w hQ hN hK1; rfl
 · clear hs w hQ hN hK1; assumption

end Go.Proofs.Ytpbgdeojcefnmaa
