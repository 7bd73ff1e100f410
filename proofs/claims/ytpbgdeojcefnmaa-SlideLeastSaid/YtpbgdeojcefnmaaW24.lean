/-
  Walks: kreisel/kreisellaw03.choose, kreisel/kreisellaw03.some, kreisel/kreisellaw03.inside, kreisel/kreisellaw03.truth
-/
import Derived.Test.YtpbgdeojcefnmaaTab
import Derived.Test.YtpbgdeojcefnmaaShort
import Derived.Test.YtpbgdeojcefnmaaThr
import Derived.Test.YtpbgdeojcefnmaaMono
import Derived.Test.YtpbgdeojcefnmaaSafe
import Derived.Test.YtpbgdeojcefnmaaAlive
import Derived.Test.YtpbgdeojcefnmaaWithin
import Derived.Test.YtpbgdeojcefnmaaW4
namespace Go.Proofs.Ytpbgdeojcefnmaa
open Go.RowKit
set_option linter.unusedVariables false

set_option maxRecDepth 100000 in
set_option maxHeartbeats 400000 in
theorem choose_c (bl : List Int) (blA : Option Addr) (blC : Nat) (i : Int) (hbl : ∀ z ∈ bl, 0 ≤ z ∧ z ≤ 4294967295) (hi : 0 ≤ i ∧ i ≤ 1000) :
    FnV Try.prog 57 [(Value.slice blA bl.length blC), (Value.int .i64 i)] [(rd blA bl.length 1 (bl.map iC_u32))] (Value.int .i64 (chooseF bl i)) := by
 refine fnV_of go57 Try.func57 rfl rfl fun w0 Q hQ hN => ?_
 change WJ _ _ _ _ [(0, (Value.slice blA bl.length blC)), (1, (Value.int .i64 i))] [(rd blA bl.length 1 (bl.map iC_u32)).ro]
 refine WS fun _ hK1 => ?_
 refine rS (AG rfl) ?_
 refine RK hK1 ?_
 refine w_seq fun _ hK2 => ?_
 refine WS fun _ hK3 => ?_
 refine rS (MV rfl) ?_
 refine rS (LN rfl ut70) ?_
 refine rS (BI rfl b_eql) ?_
 refine RK hK3 ?_
 refine w_if rfl (fun h0 => ?_) (fun h0 => ?_)
 · replace h0 := DT h0
   refine WS fun _ hK4 => ?_
   refine rS (AG rfl) ?_
   refine RK hK4 ?_
   refine w_ret ?_
   refine Q1 hQ rfl rfl rfl ?_
   first | exact congrArg (Value.int .i64) (by unfold chooseF; rw [if_pos (by omega)]) | exact congrArg (Value.int .i64) (chooseF_at h0 hz).symm
 replace h0 := DF h0
 refine WK hK2 ?_
 refine WS fun _ hK5 => ?_
 refine rS (MV rfl) ?_
 refine rS (MV rfl) ?_
 refine rS (MV rfl) ?_
 refine rS (LN rfl ut70) ?_
 refine rS (BI rfl (b_rem (by omega) (by omega))) ?_
 have m1 := Int.emod_nonneg i h0
 have m2 := Int.emod_lt_of_pos i (show 0 < (bl.length : Int) by omega)
 obtain ⟨z, hz⟩ : ∃ y_, bl[((i % ((bl.length : Nat) : Int))).toNat]? = some y_ := ⟨bl[((i % ((bl.length : Nat) : Int))).toNat]'(by omega), List.getElem?_eq_getElem _⟩
 have hzm : (bl.map iC_u32)[((i % ((bl.length : Nat) : Int))).toNat]? = some (iC_u32 z) := by rw [List.getElem?_map, hz]; rfl
 refine rS (IA (((i % ((bl.length : Nat) : Int))).toNat) rfl (has_at 0 rfl) te70 (by decide) (by omega) (by omega)) ?_
 refine rS (LE1 (((i % ((bl.length : Nat) : Int))).toNat) 0 (Value.int .u32 z) rfl tk88 (has_at 0 rfl) hzm rfl (by decide) rfl) ?_
 have hzb := hbl z (List.mem_of_getElem? hz)
 refine rS (SX (sd_conv (m := z) rfl rfl ut88 ut3 (wrap_u32_i64 (by first | assumption | omega))) rfl rfl) ?_
 refine rS (AG rfl) ?_
 refine RK hK5 ?_
 refine w_ret ?_
 refine Q1 hQ rfl rfl rfl ?_
 first | exact congrArg (Value.int .i64) (by unfold chooseF; rw [if_pos (by omega)]) | exact congrArg (Value.int .i64) (chooseF_at h0 hz).symm

set_option maxRecDepth 100000 in
set_option maxHeartbeats 400000 in
theorem some_c (s : SpanV) (b : Int) (hs : s.Lo ≤ s.Hi ∧ -1000000 ≤ s.Lo ∧ s.Hi ≤ 1000000) (hb : 0 ≤ b ∧ b ≤ 4294967295) :
    FnV Try.prog 56 [(Value.agg (SpanV.cells s).toArray), (Value.int .i64 b)] [] (Value.int .i64 (someF s b)) := by
 refine fnV_of go56 Try.func56 rfl rfl fun w0 Q hQ hN => ?_
 change WJ _ _ _ _ [(0, (Value.agg (SpanV.cells s).toArray)), (1, (Value.int .i64 b))] []
 refine WS fun _ hK1 => ?_
 refine BXA rfl fun b2 => ?_
 refine rS (AG rfl) ?_
 refine RK hK1 ?_
 refine w_seq fun _ hK3 => ?_
 refine WS fun _ hK4 => ?_
 refine rS (MV rfl) ?_
 refine rS (BI rfl (b_rem (by omega) (by omega))) ?_
 refine RK hK4 ?_
 refine w_block ?_
 refine WS fun _ hK5 => ?_
 refine rS (BI rfl b_eql) ?_
 refine rS (AG rfl) ?_
 refine RK hK5 ?_
 refine w_if rfl (fun h0 => ?_) (fun h0 => ?_)
 · replace h0 := DT h0
   refine WS fun _ hK6 => ?_
   refine rS (FA 0 rfl fo26_0 rfl) ?_
   refine rS (L1 (Value.int .i64 s.Lo) 0 rfl tk3 rfl rfl) ?_
   refine rS (AG rfl) ?_
   refine RK hK6 ?_
   refine w_ret ?_
   refine Q1 hQ rfl rfl rfl ?_
   clear hQ hN hK6 hK5 hK4 hK3 hK1
   exact congrArg (Value.int .i64) (by unfold someF; simp [*])
 replace h0 := DF h0
 refine WS fun _ hK7 => ?_
 refine rS (BI rfl b_eql) ?_
 refine rS (AG rfl) ?_
 refine RK hK7 ?_
 refine w_if rfl (fun h1 => ?_) (fun h1 => ?_)
 · replace h1 := DT h1
   refine WS fun _ hK8 => ?_
   refine rS (FA 1 rfl fo26_1 rfl) ?_
   refine rS (L1 (Value.int .i64 s.Hi) 0 rfl tk3 rfl rfl) ?_
   refine rS (AG rfl) ?_
   refine RK hK8 ?_
   refine w_ret ?_
   refine Q1 hQ rfl rfl rfl ?_
   clear hQ hN hK8 hK7 hK5 hK4 hK3 hK1
   exact congrArg (Value.int .i64) (by unfold someF; simp [*])
 replace h1 := DF h1
 refine w_skip ?_
 refine k_block ?_
 refine KK hK3 ?_
 refine w_seq fun _ hK9 => ?_
 refine w_draw mixed 13 (by kernel_rfl) ?_
 refine dS (FA 0 rfl fo26_0 rfl) ?_
 refine dS (L1 (Value.int .i64 s.Lo) 0 rfl tk3 rfl rfl) ?_
 refine dS (MV rfl) ?_
 refine dS (BI rfl (b_quo (by omega) (by omega) (by omega))) ?_
 refine dS (FA 1 rfl fo26_1 rfl) ?_
 refine dS (L1 (Value.int .i64 s.Hi) 0 rfl tk3 rfl rfl) ?_
 refine dS (FA 0 rfl fo26_0 rfl) ?_
 refine dS (L1 (Value.int .i64 s.Lo) 0 rfl tk3 rfl rfl) ?_
 refine dS (BI rfl (b_sub ⟨by omega, by omega⟩)) ?_
 refine dS (BI rfl (b_add ⟨by omega, by omega⟩)) ?_
 have m1 := Int.emod_nonneg (b / 5) (show s.Hi - s.Lo + 1 ≠ 0 by omega)
 have m2 := Int.emod_lt_of_pos (b / 5) (show 0 < s.Hi - s.Lo + 1 by omega)
 refine dS (BI rfl (b_rem (by omega) (by omega))) ?_
 refine dS (BI rfl (b_add ⟨by omega, by omega⟩)) ?_
 refine dS (AG rfl) ?_
 refine d_end ?_
 refine RK hK9 ?_
 refine w_ret ?_
 refine Q1 hQ rfl rfl rfl ?_
 clear hQ hN hK9 hK7 hK5 hK4 hK3 hK1
 exact congrArg (Value.int .i64) (by unfold someF; simp [*])

set_option maxRecDepth 100000 in
set_option maxHeartbeats 400000 in
theorem linside_c (n : Int) (s : SpanV) :
    FnV Try.prog 44 [(Value.int .i64 n), (Value.agg (SpanV.cells s).toArray)] [] (Value.bool (decide (s.Lo ≤ n ∧ n ≤ s.Hi))) := by
 refine fnV_of go44 Try.func44 rfl rfl fun w0 Q hQ hN => ?_
 change WJ _ _ _ _ [(0, (Value.int .i64 n)), (1, (Value.agg (SpanV.cells s).toArray))] []
 refine WS fun _ hK1 => ?_
 refine BXA rfl fun b2 => ?_
 refine rS (AG rfl) ?_
 refine RK hK1 ?_
 refine WS fun _ hK3 => ?_
 refine rS (MV rfl) ?_
 refine rS (FA 0 rfl fo26_0 rfl) ?_
 refine rS (L1 (Value.int .i64 s.Lo) 0 rfl tk3 rfl rfl) ?_
 refine rS (BI rfl b_geq) ?_
 refine rS (MV rfl) ?_
 refine r_bool (t := 9) rfl (fun h4 => ?_) (fun h4 => ?_)
 rotate_left 1
 · replace h4 := DF h4
   refine rS (OX rfl) ?_
   refine rS (OX rfl) ?_
   refine rS (OX rfl) ?_
   refine rS (OX rfl) ?_
   refine rS (PK rfl) ?_
   refine rS (AG rfl) ?_
   refine RK hK3 ?_
   refine w_ret ?_
   refine Q1 hQ rfl rfl rfl ?_
   exact congrArg Value.bool (decide_eq_false (by omega)).symm
 replace h4 := DT h4
 refine rS (MV rfl) ?_
 refine rS (FA 1 rfl fo26_1 rfl) ?_
 refine rS (L1 (Value.int .i64 s.Hi) 0 rfl tk3 rfl rfl) ?_
 refine rS (BI rfl b_leq) ?_
 refine rS (PK rfl) ?_
 refine rS (AG rfl) ?_
 refine RK hK3 ?_
 refine w_ret ?_
 refine Q1 hQ rfl rfl rfl ?_
 exact congrArg Value.bool (decide_eq_decide.2 (by omega))

set_option maxRecDepth 100000 in
set_option maxHeartbeats 400000 in
theorem truth_c (ts : List StretchV) (tsA : Option Addr) (tsC : Nat) (s : SledV) (bl : List Int) (blA : Option Addr) (blC : Nat) (hs : SledOk s) (hst : ∀ x ∈ ts, StretchOk x) (hlen : ts.length ≤ 12) (hbl : ∀ z ∈ bl, 0 ≤ z ∧ z ≤ 4294967295) (hside : ∀ x ∈ ts, 0 ≤ x.Side ∧ x.Side ≤ 255) :
    FnX Try.prog 43 [(Value.agg (TrackV.cells (TrackV.mk (Slc.mk tsA ts.length tsC))).toArray), (Value.agg (SledV.cells s).toArray), (Value.slice blA bl.length blC)] [(rd tsA ts.length 9 (ts.map StretchV.cells)), (rd blA bl.length 1 (bl.map iC_u32))] (fun (x : (Option Addr) × Nat × (Option Addr) × Nat) => (Value.tuple [(Value.slice x.1 ((tHeads bl s ts ts.length).length) x.2.1), (Value.slice x.2.2.1 ((tHgts bl s ts ts.length).length) x.2.2.2)].toArray)) (fun (x : (Option Addr) × Nat × (Option Addr) × Nat) => True) (fun (x : (Option Addr) × Nat × (Option Addr) × Nat) => [(own x.1 x.2.1 3 1 ((tHeads bl s ts ts.length).map iC)), (own x.2.2.1 x.2.2.2 3 1 ((tHgts bl s ts ts.length).map iC))]) := by
 have c0 := chooseF_b hbl 0
 have c1 := chooseF_b hbl 1
 have c2 := chooseF_b hbl 2
 have z1 := hs.2.1
 have z2 := hs.2.2.1
 have z3 := hs.2.2.2.1
 have z4 := hs.2.2.2.2.1
 have z5 := hs.2.2.2.2.2
 simp only [SpanOk] at z1 z2 z3 z4 z5
 have y3 := someF_ok (b := chooseF bl 1) hs.2.2.2.1
 have y4 := someF_ok (b := chooseF bl 2) hs.2.2.2.2.1
 refine fnX_of go43 Try.func43 rfl rfl fun w0 Q hQ hN => ?_
 change WJ _ _ _ _ [(0, (Value.agg (TrackV.cells (TrackV.mk (Slc.mk tsA ts.length tsC))).toArray)), (1, (Value.agg (SledV.cells s).toArray)), (2, (Value.slice blA bl.length blC))] [(rd tsA ts.length 9 (ts.map StretchV.cells)).ro, (rd blA bl.length 1 (bl.map iC_u32)).ro]
 refine WS fun _ hK1 => ?_
 refine BXA rfl fun b2 => ?_
 refine BXA rfl fun b3 => ?_
 refine rS (AG rfl) ?_
 refine rS (AG rfl) ?_
 refine RK hK1 ?_
 refine w_seq fun _ hK4 => ?_
 refine w_draw mixed 18 (by kernel_rfl) ?_
 refine dS (FA 1 rfl fo28_1 rfl) ?_
 refine dS (LP (SpanV.cells s.Start) 0 rfl tk26 rfl rfl rfl) ?_
 refine dS (MV rfl) ?_
 refine dS (CL (choose_c bl blA blC 0 hbl (by first | assumption | omega | (simp; done) | (simp; omega))) (ha_at 3 rfl rfl <| ha_nil) rfl) ?_
 refine dS (CL (some_c s.Start (chooseF bl 0) (by first | assumption | omega | (simp; done) | (simp; omega)) (by first | assumption | omega | (simp; done) | (simp; omega))) (ha_nil) rfl) ?_
 refine dS (FA 5 rfl fo28_3 rfl) ?_
 refine dS (LP (SpanV.cells s.Drag) 0 rfl tk26 rfl rfl rfl) ?_
 refine dS (MV rfl) ?_
 refine dS (CL (choose_c bl blA blC 1 hbl (by first | assumption | omega | (simp; done) | (simp; omega))) (ha_at 3 rfl rfl <| ha_nil) rfl) ?_
 refine dS (CL (some_c s.Drag (chooseF bl 1) (by first | assumption | omega | (simp; done) | (simp; omega)) (by first | assumption | omega | (simp; done) | (simp; omega))) (ha_nil) rfl) ?_
 refine dS (FA 7 rfl fo28_4 rfl) ?_
 refine dS (LP (SpanV.cells s.Weight) 0 rfl tk26 rfl rfl rfl) ?_
 refine dS (MV rfl) ?_
 refine dS (CL (choose_c bl blA blC 2 hbl (by first | assumption | omega | (simp; done) | (simp; omega))) (ha_at 3 rfl rfl <| ha_nil) rfl) ?_
 refine dS (CL (some_c s.Weight (chooseF bl 2) (by first | assumption | omega | (simp; done) | (simp; omega)) (by first | assumption | omega | (simp; done) | (simp; omega))) (ha_nil) rfl) ?_
 refine dS (AG rfl) ?_
 refine dS (AG rfl) ?_
 refine dS (AG rfl) ?_
 refine d_end ?_
 refine RK hK4 ?_
 refine WS fun _ hK5 => ?_
 refine rS (MV rfl) ?_
 refine r_bs (xs := [.tmp 31]) (cs := [(Value.int .i64 (someF s.Start (chooseF bl 0)))]) rfl te61 tz3 rfl rfl rfl rfl (by simp [Value.cells]) rfl rfl fun b6 => ?_
 refine rS (AG rfl) ?_
 refine RK hK5 ?_
 refine w_seq fun _ hK7 => ?_
 refine WS fun _ hK8 => ?_
 refine rS (FA 0 rfl fo24_0 rfl) ?_
 refine rS (L1 (Value.slice tsA ts.length tsC) 2 rfl tk22 rfl rfl) ?_
 refine rS (LN rfl ut22) ?_
 refine rS (MV rfl) ?_
 refine RK hK8 ?_
 refine w_block ?_
 refine w_own_nil 3 1 ?_
 refine w_blk_own (es := ((tHeads bl s ts 0).map iC)) (C' := [_, (own (some ⟨b6, 0, none⟩) ((((tHeads bl s ts 0).map iC)).length) 3 1 ((tHeads bl s ts 0).map iC)), _, _, _, _]) 1 rfl (map_len iC_length _) (by rfl) (by simp [tHeads, maxLen]) rfl ?_
 have hinit : (0 ≤ ts.length) := by exact Nat.zero_le _
 refine w_loop (ι := { z : Nat × (Option Addr) × Nat × (Option Addr) × Nat // (z.1 ≤ ts.length) }) (fun z => [(2, (Value.slice blA bl.length blC)), (3, (Value.pointer (some ⟨b2, 0, none⟩))), (4, (Value.pointer (some ⟨b3, 0, none⟩))), (6, (Value.slice z.1.2.1 ((tHeads bl s ts z.1.1).length) z.1.2.2.1)), (7, (Value.slice z.1.2.2.2.1 ((tHgts bl s ts z.1.1).length) z.1.2.2.2.2)), (8, (Value.int .i64 (tHead bl s ts z.1.1))), (9, (Value.int .i64 (someF s.Drag (chooseF bl 1)))), (10, (Value.int .i64 (someF s.Weight (chooseF bl 2)))), (34, (Value.slice tsA ts.length tsC)), (35, (Value.int .i64 ((ts.length : Nat) : Int))), (36, (Value.int .i64 ((z.1.1 : Nat) : Int)))]) (fun z => [(own z.1.2.2.2.1 z.1.2.2.2.2 3 1 ((tHgts bl s ts z.1.1).map iC)), (own z.1.2.1 z.1.2.2.1 3 1 ((tHeads bl s ts z.1.1).map iC)), (blk b3 28 (SledV.cells s)), (blk b2 24 (TrackV.cells (TrackV.mk (Slc.mk tsA ts.length tsC)))), (rd tsA ts.length 9 (ts.map StretchV.cells)).ro, (rd blA bl.length 1 (bl.map iC_u32)).ro]) (fun z => ts.length - z.1.1) ⟨(0, (some ⟨b6, 0, none⟩), (((tHeads bl s ts 0).map iC)).length, none, 0), hinit⟩ (Sub.cons rfl <| Sub.cons rfl <| Sub.cons rfl <| Sub.cons rfl <| Sub.cons rfl <| Sub.cons rfl <| Sub.cons rfl <| Sub.cons rfl <| Sub.cons rfl <| Sub.cons rfl <| Sub.cons rfl <| Sub.nil _) (fun w hs => St.sel [0, 1, 2, 3, 4, 5] rfl rfl hs) ?_
 clear hinit
 rintro ⟨⟨i, a, c, a2, c2⟩, hl4_0⟩ J9 hJ9
 try dsimp only at hl4_0
 change WJ _ _ _ _ [(2, (Value.slice blA bl.length blC)), (3, (Value.pointer (some ⟨b2, 0, none⟩))), (4, (Value.pointer (some ⟨b3, 0, none⟩))), (6, (Value.slice a ((tHeads bl s ts i).length) c)), (7, (Value.slice a2 ((tHgts bl s ts i).length) c2)), (8, (Value.int .i64 (tHead bl s ts i))), (9, (Value.int .i64 (someF s.Drag (chooseF bl 1)))), (10, (Value.int .i64 (someF s.Weight (chooseF bl 2)))), (34, (Value.slice tsA ts.length tsC)), (35, (Value.int .i64 ((ts.length : Nat) : Int))), (36, (Value.int .i64 ((i : Nat) : Int)))] [(own a2 c2 3 1 ((tHgts bl s ts i).map iC)), (own a c 3 1 ((tHeads bl s ts i).map iC)), (blk b3 28 (SledV.cells s)), (blk b2 24 (TrackV.cells (TrackV.mk (Slc.mk tsA ts.length tsC)))), (rd tsA ts.length 9 (ts.map StretchV.cells)).ro, (rd blA bl.length 1 (bl.map iC_u32)).ro]
 refine WS fun _ hK10 => ?_
 refine rS (BI rfl b_lss) ?_
 refine RK hK10 ?_
 refine w_seq fun _ hK11 => ?_
 refine w_if rfl (fun h12 => ?_) (fun h12 => ?_)
 rotate_left 1
 · replace h12 := DF h12
   refine w_exit ?_
   refine k_exit_then ?_
   refine k_exit_then ?_
   refine k_exit_same ?_
   refine KK hK7 ?_
   refine WS fun _ hK39 => ?_
   obtain rfl : i = ts.length := by omega
   skip
   refine rS (MV rfl) ?_
   refine rS (MV rfl) ?_
   refine rS (AG rfl) ?_
   refine rS (AG rfl) ?_
   refine RK hK39 ?_
   refine w_ret ?_
   refine hQ _ _ _ (l_nil (vs := [(Value.slice a ((tHeads bl s ts ts.length).length) c), (Value.slice a2 ((tHgts bl s ts ts.length).length) c2)]) ⟨rfl, rfl, trivial⟩ fun w hs => endX (a, c, a2, c2) [1, 0] ?_ ?_ rfl rfl rfl hs)
   · rfl
   · trivial
 replace h12 := DT h12
 refine WK hK11 ?_
 refine w_seq fun _ hK13 => ?_
 refine w_block ?_
 refine WS fun _ hK14 => ?_
 refine rS (MV rfl) ?_
 obtain ⟨x, hx⟩ : ∃ y_, ts[i]? = some y_ := ⟨ts[i]'(by omega), List.getElem?_eq_getElem _⟩
 have hxm : (ts.map StretchV.cells)[i]? = some (StretchV.cells x) := by rw [List.getElem?_map, hx]; rfl
 refine rS (IA i rfl (has_at 4 rfl) te22 (by decide) (by omega) (by omega)) ?_
 refine rS (LEN i 0 (StretchV.cells x) rfl tk77 (has_at 4 rfl) hxm rfl (by decide) rfl rfl) ?_
 refine AL rfl tz77 fun b15 => ?_
 refine rS (AG rfl) ?_
 refine SW0 rfl ts77 rfl ?_
 refine RK hK14 ?_
 refine WS fun _ hK16 => ?_
 refine rS (MV rfl) ?_
 refine rS (BI rfl (b_mul ⟨by omega, by omega⟩)) ?_
 have hxo := hst x (List.mem_of_getElem? hx)
 have hsd := hside x (List.mem_of_getElem? hx)
 have v1 := hxo.2.1
 have v2 := hxo.2.2.1
 simp only [SpanOk] at v1 v2
 have hth := tHead_b (bl := bl) hs hst (i := i) (by omega)
 have k0 := chooseF_b hbl ((3 + (5 * (i : Int))))
 have k1 := chooseF_b hbl ((3 + (5 * (i : Int))) + 1)
 have k2 := chooseF_b hbl ((3 + (5 * (i : Int))) + 2)
 have k3 := chooseF_b hbl ((3 + (5 * (i : Int))) + 3)
 have k4 := chooseF_b hbl ((3 + (5 * (i : Int))) + 4)
 have u1 := someF_ok (b := chooseF bl (3 + (5 * (i : Int)))) hxo.2.1
 have u2 := someF_ok (b := chooseF bl ((3 + (5 * (i : Int))) + 1)) hxo.2.2.1
 have u3 := someF_ok (b := chooseF bl ((3 + (5 * (i : Int))) + 2)) hs.2.2.1
 refine rS (BI rfl (b_add ⟨by omega, by omega⟩)) ?_
 refine rS (AG rfl) ?_
 refine RK hK16 ?_
 refine w_seq fun _ hK17 => ?_
 refine w_draw mixed 25 (by kernel_rfl) ?_
 refine dS (MV rfl) ?_
 refine dS (FA 1 rfl fo77_1 rfl) ?_
 refine dS (LP (SpanV.cells x.Long) 0 rfl tk26 rfl rfl rfl) ?_
 refine dS (MV rfl) ?_
 refine dS (MV rfl) ?_
 refine dS (CL (choose_c bl blA blC (3 + (5 * ((i : Nat) : Int))) hbl (by first | assumption | omega | (simp; done) | (simp; omega))) (ha_at 6 rfl rfl <| ha_nil) rfl) ?_
 refine dS (CL (some_c x.Long (chooseF bl (3 + (5 * ((i : Nat) : Int)))) (by first | assumption | omega | (simp; done) | (simp; omega)) (by first | assumption | omega | (simp; done) | (simp; omega))) (ha_nil) rfl) ?_
 refine dS (FA 3 rfl fo77_2 rfl) ?_
 refine dS (LP (SpanV.cells x.Fall) 0 rfl tk26 rfl rfl rfl) ?_
 refine dS (MV rfl) ?_
 refine dS (MV rfl) ?_
 refine dS (BI rfl (b_add ⟨by omega, by omega⟩)) ?_
 refine dS (CL (choose_c bl blA blC ((3 + (5 * ((i : Nat) : Int))) + 1) hbl (by first | assumption | omega | (simp; done) | (simp; omega))) (ha_at 6 rfl rfl <| ha_nil) rfl) ?_
 refine dS (CL (some_c x.Fall (chooseF bl ((3 + (5 * ((i : Nat) : Int))) + 1)) (by first | assumption | omega | (simp; done) | (simp; omega)) (by first | assumption | omega | (simp; done) | (simp; omega))) (ha_nil) rfl) ?_
 refine dS (FA 3 rfl fo28_2 rfl) ?_
 refine dS (LP (SpanV.cells s.Rub) 3 rfl tk26 rfl rfl rfl) ?_
 refine dS (MV rfl) ?_
 refine dS (MV rfl) ?_
 refine dS (BI rfl (b_add ⟨by omega, by omega⟩)) ?_
 refine dS (CL (choose_c bl blA blC ((3 + (5 * ((i : Nat) : Int))) + 2) hbl (by first | assumption | omega | (simp; done) | (simp; omega))) (ha_at 6 rfl rfl <| ha_nil) rfl) ?_
 refine dS (CL (some_c s.Rub (chooseF bl ((3 + (5 * ((i : Nat) : Int))) + 2)) (by first | assumption | omega | (simp; done) | (simp; omega)) (by first | assumption | omega | (simp; done) | (simp; omega))) (ha_nil) rfl) ?_
 refine dS (MV rfl) ?_
 refine dS (MV rfl) ?_
 refine dS (CL (next_c (tHead bl s ts i) (someF x.Long (chooseF bl (3 + (5 * ((i : Nat) : Int))))) (someF x.Fall (chooseF bl ((3 + (5 * ((i : Nat) : Int))) + 1))) (someF s.Rub (chooseF bl ((3 + (5 * ((i : Nat) : Int))) + 2))) (someF s.Drag (chooseF bl 1)) (someF s.Weight (chooseF bl 2)) (by first | assumption | omega | (simp; done) | (simp; omega)) (by first | assumption | omega | (simp; done) | (simp; omega)) (by first | assumption | omega | (simp; done) | (simp; omega)) (by first | assumption | omega | (simp; done) | (simp; omega)) (by first | assumption | omega | (simp; done) | (simp; omega)) (by first | assumption | omega | (simp; done) | (simp; omega))) (ha_nil) rfl) ?_
 refine dS (AG rfl) ?_
 refine d_end ?_
 refine RK hK17 ?_
 refine WS fun _ hK18 => ?_
 refine rS (AG rfl) ?_
 refine RK hK18 ?_
 refine w_seq fun _ hK19 => ?_
 refine WS fun _ hK20 => ?_
 refine rS (FA 7 rfl fo77_4 rfl) ?_
 refine rS (L1 (Value.int .u8 x.Side) 0 rfl tk5 rfl rfl) ?_
 refine rS (BI rfl b_neq) ?_
 refine RK hK20 ?_
 refine w_if rfl (fun hd => ?_) (fun hd => ?_)
 rotate_left 1
 · replace hd := XF hd
   refine WK hK19 ?_
   refine WS fun _ hK30 => ?_
   refine rS (MV rfl) ?_
   refine rS (MV rfl) ?_
   refine r_bs (xs := [.tmp 93]) (cs := [(Value.int .i64 (nextH (tHead bl s ts i) (someF x.Long (chooseF bl (3 + (5 * ((i : Nat) : Int))))) (someF x.Fall (chooseF bl ((3 + (5 * ((i : Nat) : Int))) + 1))) (someF s.Rub (chooseF bl ((3 + (5 * ((i : Nat) : Int))) + 2))) (someF s.Drag (chooseF bl 1)) (someF s.Weight (chooseF bl 2))))]) rfl te61 tz3 rfl rfl rfl rfl (by simp [Value.cells]) rfl rfl fun b31 => ?_
   refine r_append (es2 := (List.map iC (tHeads bl s ts (i + 1)))) (m' := (tHeads bl s ts (i + 1)).length) 3 rfl rfl rfl ta61 rfl rfl (by simp) (has_rd_blk (es := List.map iC [(nextH (tHead bl s ts i) (someF x.Long (chooseF bl (3 + (5 * ((i : Nat) : Int))))) (someF x.Fall (chooseF bl ((3 + (5 * ((i : Nat) : Int))) + 1))) (someF s.Rub (chooseF bl ((3 + (5 * ((i : Nat) : Int))) + 2))) (someF s.Drag (chooseF bl 1)) (someF s.Weight (chooseF bl 2)))]) 0 rfl rfl (by simp [iC_length]) rfl) (one_iC _) (by rw [tHeads_len]; omega) (by rw [tHeads_len]; simp only [maxLen]; omega) (by rw [tHeads_succ, tHead_succ hx, List.map_append]; rfl) (by simp) rfl fun a32 c33 => ?_
   change RJ _ _ _ _ _ _ [_, _, _, (own a32 c33 3 1 (List.map iC (tHeads bl s ts (i + 1)))), _, _, _, _]
   refine rS (MV rfl) ?_
   refine rS (MV rfl) ?_
   refine r_bs (xs := [.tmp 97]) (cs := [(Value.int .i64 0)]) rfl te61 tz3 rfl rfl rfl rfl (by simp [Value.cells]) rfl rfl fun b34 => ?_
   refine r_append (es2 := (List.map iC (tHgts bl s ts (i + 1)))) (m' := (tHgts bl s ts (i + 1)).length) 3 rfl rfl rfl ta61 rfl rfl (by simp) (has_rd_blk (es := List.map iC [0]) 0 rfl rfl (by simp [iC_length]) rfl) (one_iC _) (by rw [tHgts_len]; omega) (by rw [tHgts_len]; simp only [maxLen]; omega) (by rw [tHgts_succ, tHgt_at hx, tHead_succ hx, List.map_append]; unfold tHgtX; first | (rw [if_neg hd] <;> rfl) | (rw [if_pos hd] <;> rfl)) (by simp) rfl fun a35 c36 => ?_
   change RJ _ _ _ _ _ _ [_, _, _, (own a35 c36 3 1 (List.map iC (tHgts bl s ts (i + 1)))), _, _, _, _, _]
   refine rS (AG rfl) ?_
   refine rS (AG rfl) ?_
   refine RK hK30 ?_
   refine w_region ?_
   refine rS (MV rfl) ?_
   refine rS (AG rfl) ?_
   refine r_nil ?_
   refine k_block ?_
   refine KK hK13 ?_
   refine w_region ?_
   refine rS (BI rfl (b_add ⟨by omega, by omega⟩)) ?_
   refine rS (MV rfl) ?_
   refine r_nil ?_
   have hb37 : (Value.int .i64 (tHead bl s ts (i + 1))) = (Value.int .i64 (nextH (tHead bl s ts i) (someF x.Long (chooseF bl (3 + (5 * ((i : Nat) : Int))))) (someF x.Fall (chooseF bl ((3 + (5 * ((i : Nat) : Int))) + 1))) (someF s.Rub (chooseF bl ((3 + (5 * ((i : Nat) : Int))) + 2))) (someF s.Drag (chooseF bl 1)) (someF s.Weight (chooseF bl 2)))) := by rw [tHead_succ hx]; rfl
   have hb38 : (Value.int .i64 (((i + 1) : Nat) : Int)) = (Value.int .i64 (((i : Nat) : Int) + 1)) := by exact congrArg (Value.int .i64) (by omega)
   refine k_then (hJ9 ⟨((i + 1), a32, c33, a35, c36), (by first | omega | (simp only []; omega))⟩ _ _ _ rfl (by first | omega | (simp; omega)) (Sub.cons rfl <| Sub.cons rfl <| Sub.cons rfl <| Sub.cons rfl <| Sub.cons rfl <| sub_val rfl hb37 <| Sub.cons rfl <| Sub.cons rfl <| Sub.cons rfl <| Sub.cons rfl <| sub_val rfl hb38 <| Sub.nil _) (fun w hs => St.sel [3, 4, 5, 6, 7, 8] rfl rfl hs))
 replace hd := XT hd
 refine w_draw mixed 22 (by kernel_rfl) ?_
 have hb2 := tHead_b (bl := bl) hs hst (i := i + 1) (by omega)
 rw [tHead_succ hx] at hb2
 simp only [tStep, ch] at hb2
 have hro : SpanOk x.Radius 500 20000 := by have q := hxo.2.2.2.2; simp only [SpanOk] at q ⊢; omega
 have w1 := hro
 simp only [SpanOk] at w1
 have u4 := someF_ok (b := chooseF bl ((3 + (5 * (i : Int))) + 3)) hro
 have u5 := someF_ok (b := chooseF bl ((3 + (5 * (i : Int))) + 4)) hs.2.2.2.2.2
 refine dS (MV rfl) ?_
 refine dS (MV rfl) ?_
 refine dS (MX rfl) ?_
 refine dS (BI rfl (b_mul ⟨by omega, by omega⟩)) ?_
 refine dS (FA 5 rfl fo77_3 rfl) ?_
 refine dS (LP (SpanV.cells x.Radius) 0 rfl tk26 rfl rfl rfl) ?_
 refine dS (MV rfl) ?_
 refine dS (MV rfl) ?_
 refine dS (BI rfl (b_add ⟨by omega, by omega⟩)) ?_
 refine dS (CL (choose_c bl blA blC ((3 + (5 * ((i : Nat) : Int))) + 3) hbl (by first | assumption | omega | (simp; done) | (simp; omega))) (ha_at 6 rfl rfl <| ha_nil) rfl) ?_
 refine dS (CL (some_c x.Radius (chooseF bl ((3 + (5 * ((i : Nat) : Int))) + 3)) (by first | assumption | omega | (simp; done) | (simp; omega)) (by first | assumption | omega | (simp; done) | (simp; omega))) (ha_nil) rfl) ?_
 refine dS (BI rfl (b_mul ⟨by omega, by omega⟩)) ?_
 refine dS (BI rfl (b_quo (by omega) (by omega) (by omega))) ?_
 refine dS (FA 9 rfl fo28_5 rfl) ?_
 refine dS (LP (SpanV.cells s.Steer) 3 rfl tk26 rfl rfl rfl) ?_
 refine dS (MV rfl) ?_
 refine dS (MV rfl) ?_
 refine dS (BI rfl (b_add ⟨by omega, by omega⟩)) ?_
 refine dS (CL (choose_c bl blA blC ((3 + (5 * ((i : Nat) : Int))) + 4) hbl (by first | assumption | omega | (simp; done) | (simp; omega))) (ha_at 6 rfl rfl <| ha_nil) rfl) ?_
 refine dS (CL (some_c s.Steer (chooseF bl ((3 + (5 * ((i : Nat) : Int))) + 4)) (by first | assumption | omega | (simp; done) | (simp; omega)) (by first | assumption | omega | (simp; done) | (simp; omega))) (ha_nil) rfl) ?_
 have m3 := divb (a := (1200 * (max (tHead bl s ts i) (nextH (tHead bl s ts i) (someF x.Long (chooseF bl (3 + (5 * ((i : Nat) : Int))))) (someF x.Fall (chooseF bl ((3 + (5 * ((i : Nat) : Int))) + 1))) (someF s.Rub (chooseF bl ((3 + (5 * ((i : Nat) : Int))) + 2))) (someF s.Drag (chooseF bl 1)) (someF s.Weight (chooseF bl 2)))))) (b := (10 * (someF x.Radius (chooseF bl ((3 + (5 * ((i : Nat) : Int))) + 3))))) (A := 480000000) (by omega) (by omega) (by omega)
 refine dS (BI rfl (b_add ⟨by omega, by omega⟩)) ?_
 refine dS (AG rfl) ?_
 refine d_end ?_
 refine RK hK19 ?_
 refine WS fun _ hK21 => ?_
 refine rS (MV rfl) ?_
 refine rS (MV rfl) ?_
 refine r_bs (xs := [.tmp 93]) (cs := [(Value.int .i64 (nextH (tHead bl s ts i) (someF x.Long (chooseF bl (3 + (5 * ((i : Nat) : Int))))) (someF x.Fall (chooseF bl ((3 + (5 * ((i : Nat) : Int))) + 1))) (someF s.Rub (chooseF bl ((3 + (5 * ((i : Nat) : Int))) + 2))) (someF s.Drag (chooseF bl 1)) (someF s.Weight (chooseF bl 2))))]) rfl te61 tz3 rfl rfl rfl rfl (by simp [Value.cells]) rfl rfl fun b22 => ?_
 refine r_append (es2 := (List.map iC (tHeads bl s ts (i + 1)))) (m' := (tHeads bl s ts (i + 1)).length) 3 rfl rfl rfl ta61 rfl rfl (by simp) (has_rd_blk (es := List.map iC [(nextH (tHead bl s ts i) (someF x.Long (chooseF bl (3 + (5 * ((i : Nat) : Int))))) (someF x.Fall (chooseF bl ((3 + (5 * ((i : Nat) : Int))) + 1))) (someF s.Rub (chooseF bl ((3 + (5 * ((i : Nat) : Int))) + 2))) (someF s.Drag (chooseF bl 1)) (someF s.Weight (chooseF bl 2)))]) 0 rfl rfl (by simp [iC_length]) rfl) (one_iC _) (by rw [tHeads_len]; omega) (by rw [tHeads_len]; simp only [maxLen]; omega) (by rw [tHeads_succ, tHead_succ hx, List.map_append]; rfl) (by simp) rfl fun a23 c24 => ?_
 change RJ _ _ _ _ _ _ [_, _, _, (own a23 c24 3 1 (List.map iC (tHeads bl s ts (i + 1)))), _, _, _, _]
 refine rS (MV rfl) ?_
 refine rS (MV rfl) ?_
 refine r_bs (xs := [.tmp 97]) (cs := [(Value.int .i64 (((1200 * (max (tHead bl s ts i) (nextH (tHead bl s ts i) (someF x.Long (chooseF bl (3 + (5 * ((i : Nat) : Int))))) (someF x.Fall (chooseF bl ((3 + (5 * ((i : Nat) : Int))) + 1))) (someF s.Rub (chooseF bl ((3 + (5 * ((i : Nat) : Int))) + 2))) (someF s.Drag (chooseF bl 1)) (someF s.Weight (chooseF bl 2))))) / (10 * (someF x.Radius (chooseF bl ((3 + (5 * ((i : Nat) : Int))) + 3))))) + (someF s.Steer (chooseF bl ((3 + (5 * ((i : Nat) : Int))) + 4)))))]) rfl te61 tz3 rfl rfl rfl rfl (by simp [Value.cells]) rfl rfl fun b25 => ?_
 refine r_append (es2 := (List.map iC (tHgts bl s ts (i + 1)))) (m' := (tHgts bl s ts (i + 1)).length) 3 rfl rfl rfl ta61 rfl rfl (by simp) (has_rd_blk (es := List.map iC [(((1200 * (max (tHead bl s ts i) (nextH (tHead bl s ts i) (someF x.Long (chooseF bl (3 + (5 * ((i : Nat) : Int))))) (someF x.Fall (chooseF bl ((3 + (5 * ((i : Nat) : Int))) + 1))) (someF s.Rub (chooseF bl ((3 + (5 * ((i : Nat) : Int))) + 2))) (someF s.Drag (chooseF bl 1)) (someF s.Weight (chooseF bl 2))))) / (10 * (someF x.Radius (chooseF bl ((3 + (5 * ((i : Nat) : Int))) + 3))))) + (someF s.Steer (chooseF bl ((3 + (5 * ((i : Nat) : Int))) + 4))))]) 0 rfl rfl (by simp [iC_length]) rfl) (one_iC _) (by rw [tHgts_len]; omega) (by rw [tHgts_len]; simp only [maxLen]; omega) (by rw [tHgts_succ, tHgt_at hx, tHead_succ hx, List.map_append]; unfold tHgtX; first | (rw [if_neg hd] <;> rfl) | (rw [if_pos hd] <;> rfl)) (by simp) rfl fun a26 c27 => ?_
 change RJ _ _ _ _ _ _ [_, _, _, (own a26 c27 3 1 (List.map iC (tHgts bl s ts (i + 1)))), _, _, _, _, _]
 refine rS (AG rfl) ?_
 refine rS (AG rfl) ?_
 refine RK hK21 ?_
 refine w_region ?_
 refine rS (MV rfl) ?_
 refine rS (AG rfl) ?_
 refine r_nil ?_
 refine k_block ?_
 refine KK hK13 ?_
 refine w_region ?_
 refine rS (BI rfl (b_add ⟨by omega, by omega⟩)) ?_
 refine rS (MV rfl) ?_
 refine r_nil ?_
 have hb28 : (Value.int .i64 (tHead bl s ts (i + 1))) = (Value.int .i64 (nextH (tHead bl s ts i) (someF x.Long (chooseF bl (3 + (5 * ((i : Nat) : Int))))) (someF x.Fall (chooseF bl ((3 + (5 * ((i : Nat) : Int))) + 1))) (someF s.Rub (chooseF bl ((3 + (5 * ((i : Nat) : Int))) + 2))) (someF s.Drag (chooseF bl 1)) (someF s.Weight (chooseF bl 2)))) := by rw [tHead_succ hx]; rfl
 have hb29 : (Value.int .i64 (((i + 1) : Nat) : Int)) = (Value.int .i64 (((i : Nat) : Int) + 1)) := by exact congrArg (Value.int .i64) (by omega)
 refine k_then (hJ9 ⟨((i + 1), a23, c24, a26, c27), (by first | omega | (simp only []; omega))⟩ _ _ _ rfl (by first | omega | (simp; omega)) (Sub.cons rfl <| Sub.cons rfl <| Sub.cons rfl <| Sub.cons rfl <| Sub.cons rfl <| sub_val rfl hb28 <| Sub.cons rfl <| Sub.cons rfl <| Sub.cons rfl <| Sub.cons rfl <| sub_val rfl hb29 <| Sub.nil _) (fun w hs => St.sel [3, 4, 5, 6, 7, 8] rfl rfl hs))

end Go.Proofs.Ytpbgdeojcefnmaa
