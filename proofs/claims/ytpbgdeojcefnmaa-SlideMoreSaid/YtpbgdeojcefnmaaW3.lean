/-
  Walks: kreisel/kreiselref03.Sled, kreisel/kreiselref03.Check, kreisel/slide.within, kreisel/slide.Check
-/
import Derived.Test.YtpbgdeojcefnmaaTab
import Derived.Test.YtpbgdeojcefnmaaShort
import Derived.Test.YtpbgdeojcefnmaaW1
namespace Go.Proofs.Ytpbgdeojcefnmaa
open Go.RowKit
set_option linter.unusedVariables false

set_option maxRecDepth 100000 in
set_option maxHeartbeats 400000 in
theorem sled_c (s : SledV) (hc : 0 ≤ s.Class ∧ s.Class ≤ 255) :
    FnV Try.prog 48 [(Value.agg (SledV.cells s).toArray)] [] (Value.bool (decide (SledOk s))) := by
 refine fnV_of go48 Try.func48 rfl rfl fun w0 Q hQ hN => ?_
 change WJ _ _ _ _ [(0, (Value.agg (SledV.cells s).toArray))] []
 refine WS fun _ hK1 => ?_
 refine BXA rfl fun b2 => ?_
 refine rS (AG rfl) ?_
 refine RK hK1 ?_
 refine WS fun _ hK3 => ?_
 refine rS (FA 0 rfl fo28_0 rfl) ?_
 refine rS (L1 (Value.int .u8 s.Class) 0 rfl tk5 rfl rfl) ?_
 refine rS (SX (sd_conv (m := s.Class) rfl rfl ut5 ut3 (wrap_u8_i64 (by first | assumption | omega))) rfl rfl) ?_
 refine rS (CL (within3_c s.Class 1 3) (ha_nil) rfl) ?_
 refine rS (MV rfl) ?_
 refine r_bool (t := 7) rfl (fun h4 => ?_) (fun h4 => ?_)
 rotate_left 1
 · replace h4 := DF h4
   refine rS (OX rfl) ?_
   refine rS (OX rfl) ?_
   refine rS (OX rfl) ?_
   refine rS (PK rfl) ?_
   refine rS (MV rfl) ?_
   refine rS (OX rfl) ?_
   refine rS (OX rfl) ?_
   refine rS (OX rfl) ?_
   refine rS (PK rfl) ?_
   refine rS (MV rfl) ?_
   refine rS (OX rfl) ?_
   refine rS (OX rfl) ?_
   refine rS (OX rfl) ?_
   refine rS (PK rfl) ?_
   refine rS (MV rfl) ?_
   refine rS (OX rfl) ?_
   refine rS (OX rfl) ?_
   refine rS (OX rfl) ?_
   refine rS (PK rfl) ?_
   refine rS (MV rfl) ?_
   refine rS (OX rfl) ?_
   refine rS (OX rfl) ?_
   refine rS (OX rfl) ?_
   refine rS (PK rfl) ?_
   refine rS (AG rfl) ?_
   refine RK hK3 ?_
   refine w_ret ?_
   refine Q1 hQ rfl rfl rfl ?_
   exact congrArg Value.bool (decide_eq_false (by simp only [SledOk, SpanOk]; omega)).symm
 replace h4 := DT h4
 refine rS (FA 1 rfl fo28_1 rfl) ?_
 refine rS (LP (SpanV.cells s.Start) 0 rfl tk26 rfl rfl rfl) ?_
 refine rS (CL (span3_c s.Start 0 200000) (ha_nil) rfl) ?_
 refine rS (PK rfl) ?_
 refine rS (MV rfl) ?_
 refine r_bool (t := 12) rfl (fun h5 => ?_) (fun h5 => ?_)
 rotate_left 1
 · replace h5 := DF h5
   refine rS (OX rfl) ?_
   refine rS (OX rfl) ?_
   refine rS (OX rfl) ?_
   refine rS (PK rfl) ?_
   refine rS (MV rfl) ?_
   refine rS (OX rfl) ?_
   refine rS (OX rfl) ?_
   refine rS (OX rfl) ?_
   refine rS (PK rfl) ?_
   refine rS (MV rfl) ?_
   refine rS (OX rfl) ?_
   refine rS (OX rfl) ?_
   refine rS (OX rfl) ?_
   refine rS (PK rfl) ?_
   refine rS (MV rfl) ?_
   refine rS (OX rfl) ?_
   refine rS (OX rfl) ?_
   refine rS (OX rfl) ?_
   refine rS (PK rfl) ?_
   refine rS (AG rfl) ?_
   refine RK hK3 ?_
   refine w_ret ?_
   refine Q1 hQ rfl rfl rfl ?_
   exact congrArg Value.bool (decide_eq_false (by simp only [SledOk, SpanOk]; omega)).symm
 replace h5 := DT h5
 refine rS (FA 3 rfl fo28_2 rfl) ?_
 refine rS (LP (SpanV.cells s.Rub) 0 rfl tk26 rfl rfl rfl) ?_
 refine rS (CL (span3_c s.Rub 0 100) (ha_nil) rfl) ?_
 refine rS (PK rfl) ?_
 refine rS (MV rfl) ?_
 refine r_bool (t := 17) rfl (fun h6 => ?_) (fun h6 => ?_)
 rotate_left 1
 · replace h6 := DF h6
   refine rS (OX rfl) ?_
   refine rS (OX rfl) ?_
   refine rS (OX rfl) ?_
   refine rS (PK rfl) ?_
   refine rS (MV rfl) ?_
   refine rS (OX rfl) ?_
   refine rS (OX rfl) ?_
   refine rS (OX rfl) ?_
   refine rS (PK rfl) ?_
   refine rS (MV rfl) ?_
   refine rS (OX rfl) ?_
   refine rS (OX rfl) ?_
   refine rS (OX rfl) ?_
   refine rS (PK rfl) ?_
   refine rS (AG rfl) ?_
   refine RK hK3 ?_
   refine w_ret ?_
   refine Q1 hQ rfl rfl rfl ?_
   exact congrArg Value.bool (decide_eq_false (by simp only [SledOk, SpanOk]; omega)).symm
 replace h6 := DT h6
 refine rS (FA 5 rfl fo28_3 rfl) ?_
 refine rS (LP (SpanV.cells s.Drag) 0 rfl tk26 rfl rfl rfl) ?_
 refine rS (CL (span3_c s.Drag 0 1000) (ha_nil) rfl) ?_
 refine rS (PK rfl) ?_
 refine rS (MV rfl) ?_
 refine r_bool (t := 22) rfl (fun h7 => ?_) (fun h7 => ?_)
 rotate_left 1
 · replace h7 := DF h7
   refine rS (OX rfl) ?_
   refine rS (OX rfl) ?_
   refine rS (OX rfl) ?_
   refine rS (PK rfl) ?_
   refine rS (MV rfl) ?_
   refine rS (OX rfl) ?_
   refine rS (OX rfl) ?_
   refine rS (OX rfl) ?_
   refine rS (PK rfl) ?_
   refine rS (AG rfl) ?_
   refine RK hK3 ?_
   refine w_ret ?_
   refine Q1 hQ rfl rfl rfl ?_
   exact congrArg Value.bool (decide_eq_false (by simp only [SledOk, SpanOk]; omega)).symm
 replace h7 := DT h7
 refine rS (FA 7 rfl fo28_4 rfl) ?_
 refine rS (LP (SpanV.cells s.Weight) 0 rfl tk26 rfl rfl rfl) ?_
 refine rS (CL (span3_c s.Weight 50000 800000) (ha_nil) rfl) ?_
 refine rS (PK rfl) ?_
 refine rS (MV rfl) ?_
 refine r_bool (t := 27) rfl (fun h8 => ?_) (fun h8 => ?_)
 rotate_left 1
 · replace h8 := DF h8
   refine rS (OX rfl) ?_
   refine rS (OX rfl) ?_
   refine rS (OX rfl) ?_
   refine rS (PK rfl) ?_
   refine rS (AG rfl) ?_
   refine RK hK3 ?_
   refine w_ret ?_
   refine Q1 hQ rfl rfl rfl ?_
   exact congrArg Value.bool (decide_eq_false (by simp only [SledOk, SpanOk]; omega)).symm
 replace h8 := DT h8
 refine rS (FA 9 rfl fo28_5 rfl) ?_
 refine rS (LP (SpanV.cells s.Steer) 0 rfl tk26 rfl rfl rfl) ?_
 refine rS (CL (span3_c s.Steer (-500) 500) (ha_nil) rfl) ?_
 refine rS (PK rfl) ?_
 refine rS (AG rfl) ?_
 refine RK hK3 ?_
 refine w_ret ?_
 refine Q1 hQ rfl rfl rfl ?_
 exact congrArg Value.bool (decide_eq_decide.2 (by simp only [SledOk, SpanOk]; omega))

set_option maxRecDepth 100000 in
set_option maxHeartbeats 400000 in
theorem check3_c (s : SledV) (hc : 0 ≤ s.Class ∧ s.Class ≤ 255) :
    FnV Try.prog 27 [(Value.agg (SledV.cells s).toArray)] [] (Value.int .i64 (if SledOk s then 0 else 30)) := by
 refine fnV_of go27 Try.func27 rfl rfl fun w0 Q hQ hN => ?_
 change WJ _ _ _ _ [(0, (Value.agg (SledV.cells s).toArray))] []
 refine WS fun _ hK1 => ?_
 refine BXA rfl fun b2 => ?_
 refine rS (AG rfl) ?_
 refine RK hK1 ?_
 refine w_seq fun _ hK3 => ?_
 refine WS fun _ hK4 => ?_
 refine rS (LW 0 rfl tk28 rfl rfl) ?_
 refine rS (CL (sled_c s hc) (ha_nil) rfl) ?_
 refine rS (NT rfl) ?_
 refine RK hK4 ?_
 refine w_if rfl (fun h5 => ?_) (fun h5 => ?_)
 · replace h5 := XT h5
   refine WS fun _ hK6 => ?_
   refine rS (AG rfl) ?_
   refine RK hK6 ?_
   refine w_ret ?_
   refine Q1 hQ rfl rfl rfl ?_
   exact congrArg (Value.int .i64) (by simp [*])
 replace h5 := XF h5
 refine WK hK3 ?_
 refine WS fun _ hK7 => ?_
 refine rS (AG rfl) ?_
 refine RK hK7 ?_
 refine w_ret ?_
 refine Q1 hQ rfl rfl rfl ?_
 exact congrArg (Value.int .i64) (by simp [*])

set_option maxRecDepth 100000 in
set_option maxHeartbeats 400000 in
theorem swithin_c (lo : Int) (hi : Int) (l : List SpanV) (lA : Option Addr) (lC : Nat) (hle : lo ≤ hi) (hlen : l.length ≤ 1000000) :
    FnV Try.prog 74 [(Value.int .i64 lo), (Value.int .i64 hi), (Value.slice lA l.length lC)] [(rd lA l.length 2 (l.map SpanV.cells))] (Value.bool (inSpans lo hi l)) := by
 refine fnV_of go74 Try.func74 rfl rfl fun w0 Q hQ hN => ?_
 change WJ _ _ _ _ [(0, (Value.int .i64 lo)), (1, (Value.int .i64 hi)), (2, (Value.slice lA l.length lC))] [(rd lA l.length 2 (l.map SpanV.cells)).ro]
 refine WS fun _ hK1 => ?_
 refine rS (AG rfl) ?_
 refine RK hK1 ?_
 refine w_seq fun _ hK2 => ?_
 refine WS fun _ hK3 => ?_
 refine rS (MV rfl) ?_
 refine rS (LN rfl ut31) ?_
 refine rS (MV rfl) ?_
 refine RK hK3 ?_
 refine w_block ?_
 have hinit : (0 ≤ l.length) ∧ ((l.take 0).all (fun s => decide (s.Lo ≤ s.Hi ∧ lo ≤ s.Lo ∧ s.Hi ≤ hi)) = true) := by simp
 refine w_loop (ι := { z : Nat // (z ≤ l.length) ∧ ((l.take z).all (fun s => decide (s.Lo ≤ s.Hi ∧ lo ≤ s.Lo ∧ s.Hi ≤ hi)) = true) }) (fun z => [(0, (Value.int .i64 lo)), (1, (Value.int .i64 hi)), (2, (Value.slice lA l.length lC)), (9, (Value.slice lA l.length lC)), (10, (Value.int .i64 ((l.length : Nat) : Int))), (11, (Value.int .i64 (z.1 : Int)))]) (fun z => [(rd lA l.length 2 (l.map SpanV.cells)).ro]) (fun z => l.length - z.1) ⟨0, hinit⟩ (Sub.cons rfl <| Sub.cons rfl <| Sub.cons rfl <| Sub.cons rfl <| Sub.cons rfl <| Sub.cons rfl <| Sub.nil _) (fun w hs => St.sel [0] rfl rfl hs) ?_
 clear hinit
 rintro ⟨i, ⟨hl0_0, hl0_1⟩⟩ J4 hJ4
 change WJ _ _ _ _ [(0, (Value.int .i64 lo)), (1, (Value.int .i64 hi)), (2, (Value.slice lA l.length lC)), (9, (Value.slice lA l.length lC)), (10, (Value.int .i64 ((l.length : Nat) : Int))), (11, (Value.int .i64 (i : Int)))] [(rd lA l.length 2 (l.map SpanV.cells)).ro]
 refine WS fun _ hK5 => ?_
 refine rS (BI rfl b_lss) ?_
 refine RK hK5 ?_
 refine w_seq fun _ hK6 => ?_
 refine w_if rfl (fun h7 => ?_) (fun h7 => ?_)
 rotate_left 1
 · replace h7 := DF h7
   refine w_exit ?_
   refine k_exit_then ?_
   refine k_exit_then ?_
   refine k_exit_same ?_
   refine KK hK2 ?_
   refine WS fun _ hK13 => ?_
   refine rS (AG rfl) ?_
   refine RK hK13 ?_
   refine w_ret ?_
   refine Q1 hQ rfl rfl rfl ?_
   first | exact congrArg Value.bool (all_no hx (decide_eq_false (by rw [SpanV.ext_iff] at h; simp only at h; omega))).symm | exact congrArg Value.bool (all_end (by omega) hl0_1).symm
 replace h7 := DT h7
 refine WK hK6 ?_
 refine w_seq fun _ hK8 => ?_
 refine w_block ?_
 refine WS fun _ hK9 => ?_
 obtain ⟨x, hx⟩ : ∃ y_, l[i]? = some y_ := ⟨l[i]'(by omega), List.getElem?_eq_getElem _⟩
 have hxm : (l.map SpanV.cells)[i]? = some (SpanV.cells x) := by rw [List.getElem?_map, hx]; rfl
 refine rS (IA i rfl (has_at 0 rfl) te31 (by decide) (by omega) (by omega)) ?_
 refine rS (LEN i 0 (SpanV.cells x) rfl tk26 (has_at 0 rfl) hxm rfl (by decide) rfl rfl) ?_
 refine AL rfl tz26 fun b10 => ?_
 refine SW0 rfl ts26 rfl ?_
 refine RK hK9 ?_
 refine WS fun _ hK11 => ?_
 refine rS (LW 0 rfl tk26 rfl rfl) ?_
 refine rS (MV rfl) ?_
 refine rS (FA 0 rfl fo26_0 rfl) ?_
 refine rS (L1 (Value.int .i64 x.Lo) 0 rfl tk3 rfl rfl) ?_
 refine rS (FA 1 rfl fo26_1 rfl) ?_
 refine rS (L1 (Value.int .i64 x.Hi) 0 rfl tk3 rfl rfl) ?_
 refine rS (MN rfl) ?_
 refine rS (MX rfl) ?_
 refine rS (MV rfl) ?_
 refine rS (FA 0 rfl fo26_0 rfl) ?_
 refine rS (L1 (Value.int .i64 x.Lo) 0 rfl tk3 rfl rfl) ?_
 refine rS (FA 1 rfl fo26_1 rfl) ?_
 refine rS (L1 (Value.int .i64 x.Hi) 0 rfl tk3 rfl rfl) ?_
 refine rS (MX rfl) ?_
 refine rS (MN rfl) ?_
 refine rS (SX (sd_build (xs := [(0, .tmp 22), (1, .tmp 29)]) (cs := (SpanV.cells (SpanV.mk (max lo (min x.Lo x.Hi)) (min hi (max x.Lo x.Hi))))) rfl rfl (built_of tb26 rfl)) rfl rfl) ?_
 refine rS (BI rfl (nes26 _ _ x (SpanV.mk (max lo (min x.Lo x.Hi)) (min hi (max x.Lo x.Hi))))) ?_
 refine RK hK11 ?_
 refine w_if rfl (fun h => ?_) (fun h => ?_)
 · replace h := XT h
   refine WS fun _ hK12 => ?_
   refine rS (AG rfl) ?_
   refine RK hK12 ?_
   refine w_ret ?_
   refine Q1 hQ rfl rfl rfl ?_
   first | exact congrArg Value.bool (all_no hx (decide_eq_false (by rw [SpanV.ext_iff] at h; simp only at h; omega))).symm | exact congrArg Value.bool (all_end (by omega) hl0_1).symm
 replace h := XF h
 refine w_skip ?_
 refine k_block ?_
 refine KK hK8 ?_
 refine w_region ?_
 refine rS (BI rfl (b_add ⟨by omega, by omega⟩)) ?_
 refine rS (MV rfl) ?_
 refine r_nil ?_
 refine k_then (hJ4 ⟨(i + 1), ⟨by omega, all_step hx hl0_1 (decide_eq_true (by rw [SpanV.ext_iff] at h; simp only at h; omega))⟩⟩ _ _ _ rfl (by first | omega | (simp; omega)) (Sub.cons rfl <| Sub.cons rfl <| Sub.cons rfl <| Sub.cons rfl <| Sub.cons rfl <| Sub.cons rfl <| Sub.nil _) (fun w hs => St.sel [1] rfl rfl hs))

set_option maxRecDepth 100000 in
set_option maxHeartbeats 400000 in
theorem scheck_c (s : SledV) :
    FnV Try.prog 26 [(Value.agg (SledV.cells s).toArray)] [] (Value.int .i64 (if SledOk s then 0 else 30)) := by
 refine fnV_of go26 Try.func26 rfl rfl fun w0 Q hQ hN => ?_
 change WJ _ _ _ _ [(0, (Value.agg (SledV.cells s).toArray))] []
 refine WS fun _ hK1 => ?_
 refine BXA rfl fun b2 => ?_
 refine rS (AG rfl) ?_
 refine RK hK1 ?_
 refine w_seq fun _ hK3 => ?_
 refine WS fun _ hK4 => ?_
 refine rS (FA 0 rfl fo28_0 rfl) ?_
 refine rS (L1 (Value.int .u8 s.Class) 0 rfl tk5 rfl rfl) ?_
 refine rS (BI rfl b_lss) ?_
 refine rS (MV rfl) ?_
 refine r_bool (t := 6) rfl (fun h5 => ?_) (fun h5 => ?_)
 · replace h5 := DT h5
   refine rS (OX rfl) ?_
   refine rS (OX rfl) ?_
   refine rS (OX rfl) ?_
   refine rS (PK rfl) ?_
   refine rS (MV rfl) ?_
   refine rS (OX rfl) ?_
   refine rS (OX rfl) ?_
   refine rS (OX rfl) ?_
   refine rS (OX rfl) ?_
   refine rS (OX rfl) ?_
   refine rS (PK rfl) ?_
   refine rS (MV rfl) ?_
   refine rS (OX rfl) ?_
   refine rS (OX rfl) ?_
   refine rS (OX rfl) ?_
   refine rS (OX rfl) ?_
   refine rS (OX rfl) ?_
   refine rS (PK rfl) ?_
   refine rS (MV rfl) ?_
   refine rS (OX rfl) ?_
   refine rS (OX rfl) ?_
   refine rS (OX rfl) ?_
   refine rS (OX rfl) ?_
   refine rS (OX rfl) ?_
   refine rS (PK rfl) ?_
   refine rS (MV rfl) ?_
   refine rS (OX rfl) ?_
   refine rS (OX rfl) ?_
   refine rS (OX rfl) ?_
   refine rS (OX rfl) ?_
   refine rS (OX rfl) ?_
   refine rS (PK rfl) ?_
   refine rS (MV rfl) ?_
   refine rS (OX rfl) ?_
   refine rS (OX rfl) ?_
   refine rS (OX rfl) ?_
   refine rS (OX rfl) ?_
   refine rS (OX rfl) ?_
   refine rS (PK rfl) ?_
   refine RK hK4 ?_
   refine w_if_true rfl ?_
   refine WS fun _ hK6 => ?_
   refine rS (AG rfl) ?_
   refine RK hK6 ?_
   refine w_ret ?_
   refine Q1 hQ rfl rfl rfl ?_
   first | exact congrArg (Value.int .i64) (if_neg (by simp only [SledOk, SpanOk]; omega)).symm | exact congrArg (Value.int .i64) (if_pos (by simp only [SledOk, SpanOk]; omega)).symm
 replace h5 := DF h5
 refine rS (FA 0 rfl fo28_0 rfl) ?_
 refine rS (L1 (Value.int .u8 s.Class) 0 rfl tk5 rfl rfl) ?_
 refine rS (BI rfl b_gtr) ?_
 refine rS (PK rfl) ?_
 refine rS (MV rfl) ?_
 refine r_bool (t := 11) rfl (fun h7 => ?_) (fun h7 => ?_)
 · replace h7 := DT h7
   refine rS (OX rfl) ?_
   refine rS (OX rfl) ?_
   refine rS (OX rfl) ?_
   refine rS (OX rfl) ?_
   refine rS (OX rfl) ?_
   refine rS (PK rfl) ?_
   refine rS (MV rfl) ?_
   refine rS (OX rfl) ?_
   refine rS (OX rfl) ?_
   refine rS (OX rfl) ?_
   refine rS (OX rfl) ?_
   refine rS (OX rfl) ?_
   refine rS (PK rfl) ?_
   refine rS (MV rfl) ?_
   refine rS (OX rfl) ?_
   refine rS (OX rfl) ?_
   refine rS (OX rfl) ?_
   refine rS (OX rfl) ?_
   refine rS (OX rfl) ?_
   refine rS (PK rfl) ?_
   refine rS (MV rfl) ?_
   refine rS (OX rfl) ?_
   refine rS (OX rfl) ?_
   refine rS (OX rfl) ?_
   refine rS (OX rfl) ?_
   refine rS (OX rfl) ?_
   refine rS (PK rfl) ?_
   refine rS (MV rfl) ?_
   refine rS (OX rfl) ?_
   refine rS (OX rfl) ?_
   refine rS (OX rfl) ?_
   refine rS (OX rfl) ?_
   refine rS (OX rfl) ?_
   refine rS (PK rfl) ?_
   refine RK hK4 ?_
   refine w_if_true rfl ?_
   refine WS fun _ hK8 => ?_
   refine rS (AG rfl) ?_
   refine RK hK8 ?_
   refine w_ret ?_
   refine Q1 hQ rfl rfl rfl ?_
   first | exact congrArg (Value.int .i64) (if_neg (by simp only [SledOk, SpanOk]; omega)).symm | exact congrArg (Value.int .i64) (if_pos (by simp only [SledOk, SpanOk]; omega)).symm
 replace h7 := DF h7
 refine rS (FA 1 rfl fo28_1 rfl) ?_
 refine rS (LP (SpanV.cells s.Start) 0 rfl tk26 rfl rfl rfl) ?_
 refine r_bs (xs := [.tmp 13]) (cs := (SpanV.cells s.Start)) rfl te31 tz26 rfl rfl rfl rfl (by simp [Value.cells, SpanV.cells_length]) rfl rfl fun b9 => ?_
 refine rS (CL (FnV.eq (swithin_c 0 200000 ([s.Start]) (some ⟨b9, 0, none⟩) 1 (by first | assumption | omega | (simp; done) | (simp; omega)) (by first | assumption | omega | (simp; done) | (simp; omega))) inSpans_one) (ha_cons (has_rd_blk 0 rfl rfl (by simp [SpanV.cells_length]) rfl) <| ha_nil) rfl) ?_
 refine rS (NT rfl) ?_
 refine rS (PK rfl) ?_
 refine rS (MV rfl) ?_
 refine r_bool (t := 18) rfl (fun h10 => ?_) (fun h10 => ?_)
 · replace h10 := XT h10
   refine rS (OX rfl) ?_
   refine rS (OX rfl) ?_
   refine rS (OX rfl) ?_
   refine rS (OX rfl) ?_
   refine rS (OX rfl) ?_
   refine rS (PK rfl) ?_
   refine rS (MV rfl) ?_
   refine rS (OX rfl) ?_
   refine rS (OX rfl) ?_
   refine rS (OX rfl) ?_
   refine rS (OX rfl) ?_
   refine rS (OX rfl) ?_
   refine rS (PK rfl) ?_
   refine rS (MV rfl) ?_
   refine rS (OX rfl) ?_
   refine rS (OX rfl) ?_
   refine rS (OX rfl) ?_
   refine rS (OX rfl) ?_
   refine rS (OX rfl) ?_
   refine rS (PK rfl) ?_
   refine rS (MV rfl) ?_
   refine rS (OX rfl) ?_
   refine rS (OX rfl) ?_
   refine rS (OX rfl) ?_
   refine rS (OX rfl) ?_
   refine rS (OX rfl) ?_
   refine rS (PK rfl) ?_
   refine RK hK4 ?_
   refine w_if_true rfl ?_
   refine WS fun _ hK11 => ?_
   refine rS (AG rfl) ?_
   refine RK hK11 ?_
   refine w_ret ?_
   refine Q1 hQ rfl rfl rfl ?_
   first | exact congrArg (Value.int .i64) (if_neg (by simp only [SledOk, SpanOk]; omega)).symm | exact congrArg (Value.int .i64) (if_pos (by simp only [SledOk, SpanOk]; omega)).symm
 replace h10 := XF h10
 refine rS (FA 3 rfl fo28_2 rfl) ?_
 refine rS (LP (SpanV.cells s.Rub) 1 rfl tk26 rfl rfl rfl) ?_
 refine r_bs (xs := [.tmp 20]) (cs := (SpanV.cells s.Rub)) rfl te31 tz26 rfl rfl rfl rfl (by simp [Value.cells, SpanV.cells_length]) rfl rfl fun b12 => ?_
 refine rS (CL (FnV.eq (swithin_c 0 100 ([s.Rub]) (some ⟨b12, 0, none⟩) 1 (by first | assumption | omega | (simp; done) | (simp; omega)) (by first | assumption | omega | (simp; done) | (simp; omega))) inSpans_one) (ha_cons (has_rd_blk 0 rfl rfl (by simp [SpanV.cells_length]) rfl) <| ha_nil) rfl) ?_
 refine rS (NT rfl) ?_
 refine rS (PK rfl) ?_
 refine rS (MV rfl) ?_
 refine r_bool (t := 25) rfl (fun h13 => ?_) (fun h13 => ?_)
 · replace h13 := XT h13
   refine rS (OX rfl) ?_
   refine rS (OX rfl) ?_
   refine rS (OX rfl) ?_
   refine rS (OX rfl) ?_
   refine rS (OX rfl) ?_
   refine rS (PK rfl) ?_
   refine rS (MV rfl) ?_
   refine rS (OX rfl) ?_
   refine rS (OX rfl) ?_
   refine rS (OX rfl) ?_
   refine rS (OX rfl) ?_
   refine rS (OX rfl) ?_
   refine rS (PK rfl) ?_
   refine rS (MV rfl) ?_
   refine rS (OX rfl) ?_
   refine rS (OX rfl) ?_
   refine rS (OX rfl) ?_
   refine rS (OX rfl) ?_
   refine rS (OX rfl) ?_
   refine rS (PK rfl) ?_
   refine RK hK4 ?_
   refine w_if_true rfl ?_
   refine WS fun _ hK14 => ?_
   refine rS (AG rfl) ?_
   refine RK hK14 ?_
   refine w_ret ?_
   refine Q1 hQ rfl rfl rfl ?_
   first | exact congrArg (Value.int .i64) (if_neg (by simp only [SledOk, SpanOk]; omega)).symm | exact congrArg (Value.int .i64) (if_pos (by simp only [SledOk, SpanOk]; omega)).symm
 replace h13 := XF h13
 refine rS (FA 5 rfl fo28_3 rfl) ?_
 refine rS (LP (SpanV.cells s.Drag) 2 rfl tk26 rfl rfl rfl) ?_
 refine r_bs (xs := [.tmp 27]) (cs := (SpanV.cells s.Drag)) rfl te31 tz26 rfl rfl rfl rfl (by simp [Value.cells, SpanV.cells_length]) rfl rfl fun b15 => ?_
 refine rS (CL (FnV.eq (swithin_c 0 1000 ([s.Drag]) (some ⟨b15, 0, none⟩) 1 (by first | assumption | omega | (simp; done) | (simp; omega)) (by first | assumption | omega | (simp; done) | (simp; omega))) inSpans_one) (ha_cons (has_rd_blk 0 rfl rfl (by simp [SpanV.cells_length]) rfl) <| ha_nil) rfl) ?_
 refine rS (NT rfl) ?_
 refine rS (PK rfl) ?_
 refine rS (MV rfl) ?_
 refine r_bool (t := 32) rfl (fun h16 => ?_) (fun h16 => ?_)
 · replace h16 := XT h16
   refine rS (OX rfl) ?_
   refine rS (OX rfl) ?_
   refine rS (OX rfl) ?_
   refine rS (OX rfl) ?_
   refine rS (OX rfl) ?_
   refine rS (PK rfl) ?_
   refine rS (MV rfl) ?_
   refine rS (OX rfl) ?_
   refine rS (OX rfl) ?_
   refine rS (OX rfl) ?_
   refine rS (OX rfl) ?_
   refine rS (OX rfl) ?_
   refine rS (PK rfl) ?_
   refine RK hK4 ?_
   refine w_if_true rfl ?_
   refine WS fun _ hK17 => ?_
   refine rS (AG rfl) ?_
   refine RK hK17 ?_
   refine w_ret ?_
   refine Q1 hQ rfl rfl rfl ?_
   first | exact congrArg (Value.int .i64) (if_neg (by simp only [SledOk, SpanOk]; omega)).symm | exact congrArg (Value.int .i64) (if_pos (by simp only [SledOk, SpanOk]; omega)).symm
 replace h16 := XF h16
 refine rS (FA 7 rfl fo28_4 rfl) ?_
 refine rS (LP (SpanV.cells s.Weight) 3 rfl tk26 rfl rfl rfl) ?_
 refine r_bs (xs := [.tmp 34]) (cs := (SpanV.cells s.Weight)) rfl te31 tz26 rfl rfl rfl rfl (by simp [Value.cells, SpanV.cells_length]) rfl rfl fun b18 => ?_
 refine rS (CL (FnV.eq (swithin_c 50000 800000 ([s.Weight]) (some ⟨b18, 0, none⟩) 1 (by first | assumption | omega | (simp; done) | (simp; omega)) (by first | assumption | omega | (simp; done) | (simp; omega))) inSpans_one) (ha_cons (has_rd_blk 0 rfl rfl (by simp [SpanV.cells_length]) rfl) <| ha_nil) rfl) ?_
 refine rS (NT rfl) ?_
 refine rS (PK rfl) ?_
 refine rS (MV rfl) ?_
 refine r_bool (t := 39) rfl (fun h19 => ?_) (fun h19 => ?_)
 · replace h19 := XT h19
   refine rS (OX rfl) ?_
   refine rS (OX rfl) ?_
   refine rS (OX rfl) ?_
   refine rS (OX rfl) ?_
   refine rS (OX rfl) ?_
   refine rS (PK rfl) ?_
   refine RK hK4 ?_
   refine w_if_true rfl ?_
   refine WS fun _ hK20 => ?_
   refine rS (AG rfl) ?_
   refine RK hK20 ?_
   refine w_ret ?_
   refine Q1 hQ rfl rfl rfl ?_
   first | exact congrArg (Value.int .i64) (if_neg (by simp only [SledOk, SpanOk]; omega)).symm | exact congrArg (Value.int .i64) (if_pos (by simp only [SledOk, SpanOk]; omega)).symm
 replace h19 := XF h19
 refine rS (FA 9 rfl fo28_5 rfl) ?_
 refine rS (LP (SpanV.cells s.Steer) 4 rfl tk26 rfl rfl rfl) ?_
 refine r_bs (xs := [.tmp 41]) (cs := (SpanV.cells s.Steer)) rfl te31 tz26 rfl rfl rfl rfl (by simp [Value.cells, SpanV.cells_length]) rfl rfl fun b21 => ?_
 refine rS (CL (FnV.eq (swithin_c (-500) 500 ([s.Steer]) (some ⟨b21, 0, none⟩) 1 (by first | assumption | omega | (simp; done) | (simp; omega)) (by first | assumption | omega | (simp; done) | (simp; omega))) inSpans_one) (ha_cons (has_rd_blk 0 rfl rfl (by simp [SpanV.cells_length]) rfl) <| ha_nil) rfl) ?_
 refine rS (NT rfl) ?_
 refine rS (PK rfl) ?_
 refine RK hK4 ?_
 refine w_if rfl (fun h22 => ?_) (fun h22 => ?_)
 · replace h22 := XT h22
   refine WS fun _ hK23 => ?_
   refine rS (AG rfl) ?_
   refine RK hK23 ?_
   refine w_ret ?_
   refine Q1 hQ rfl rfl rfl ?_
   first | exact congrArg (Value.int .i64) (if_neg (by simp only [SledOk, SpanOk]; omega)).symm | exact congrArg (Value.int .i64) (if_pos (by simp only [SledOk, SpanOk]; omega)).symm
 replace h22 := XF h22
 refine WK hK3 ?_
 refine WS fun _ hK24 => ?_
 refine rS (AG rfl) ?_
 refine RK hK24 ?_
 refine w_ret ?_
 refine Q1 hQ rfl rfl rfl ?_
 first | exact congrArg (Value.int .i64) (if_neg (by simp only [SledOk, SpanOk]; omega)).symm | exact congrArg (Value.int .i64) (if_pos (by simp only [SledOk, SpanOk]; omega)).symm

end Go.Proofs.Ytpbgdeojcefnmaa
