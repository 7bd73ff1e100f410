/-
  Walks: kreisel/kreiselref01.within, kreisel/kreiselref01.span, kreisel/kreiselref01.Great, slices.IndexFunc[[]int,int], slices.ContainsFunc[[]int,int], kreisel/track.in$1, kreisel/track.in, kreisel/track.known, kreisel/kreiselref01.Track, kreisel/track.Check, kreisel/kreiselref01.Twin, kreisel/kreiselref01.Same, kreisel/kreiselref01.SameInts
-/
import Derived.Test.YtaehngpnlkokkaaTab
import Derived.Test.YtaehngpnlkokkaaShort
namespace Go.Proofs.Ytaehngpnlkokkaa
open Go.RowKit
set_option linter.unusedVariables false

set_option maxRecDepth 100000 in
set_option maxHeartbeats 400000 in
theorem within_1 (n : Int) (lo : Int) (hi : Int) :
    FnV Try.prog 90 [(Value.int .i64 n), (Value.int .i64 lo), (Value.int .i64 hi)] [] (Value.bool (decide (lo ≤ n ∧ n ≤ hi))) := by
 refine fnV_of go90 Try.func90 rfl rfl fun w0 Q hQ hN => ?_
 change WJ _ _ _ _ [(0, (Value.int .i64 n)), (1, (Value.int .i64 lo)), (2, (Value.int .i64 hi))] []
 refine WS fun _ hK1 => ?_
 refine rS (AG rfl) ?_
 refine RK hK1 ?_
 refine WS fun _ hK2 => ?_
 refine rS (MV rfl) ?_
 refine rS (MV rfl) ?_
 refine rS (BI rfl b_geq) ?_
 refine rS (MV rfl) ?_
 refine r_bool (t := 10) rfl (fun h3 => ?_) (fun h3 => ?_)
 rotate_left 1
 · replace h3 := DF h3
   refine rS (OX rfl) ?_
   refine rS (OX rfl) ?_
   refine rS (OX rfl) ?_
   refine rS (PK rfl) ?_
   refine rS (AG rfl) ?_
   refine RK hK2 ?_
   refine w_ret ?_
   refine Q1 hQ rfl rfl rfl ?_
   exact congrArg Value.bool (decide_eq_false (by omega)).symm
 replace h3 := DT h3
 refine rS (MV rfl) ?_
 refine rS (MV rfl) ?_
 refine rS (BI rfl b_leq) ?_
 refine rS (PK rfl) ?_
 refine rS (AG rfl) ?_
 refine RK hK2 ?_
 refine w_ret ?_
 refine Q1 hQ rfl rfl rfl ?_
 exact congrArg Value.bool (decide_eq_decide.2 (by omega))

set_option maxRecDepth 100000 in
set_option maxHeartbeats 400000 in
theorem span_1 (s : SpanV) (lo : Int) (hi : Int) :
    FnV Try.prog 91 [(Value.agg (SpanV.cells s).toArray), (Value.int .i64 lo), (Value.int .i64 hi)] [] (Value.bool (decide (s.Lo ≤ s.Hi ∧ lo ≤ s.Lo ∧ s.Hi ≤ hi))) := by
 refine fnV_of go91 Try.func91 rfl rfl fun w0 Q hQ hN => ?_
 change WJ _ _ _ _ [(0, (Value.agg (SpanV.cells s).toArray)), (1, (Value.int .i64 lo)), (2, (Value.int .i64 hi))] []
 refine WS fun _ hK1 => ?_
 refine BXA rfl fun b2 => ?_
 refine rS (AG rfl) ?_
 refine RK hK1 ?_
 refine WS fun _ hK3 => ?_
 refine rS (FA 0 rfl fo34_0 rfl) ?_
 refine rS (L1 (Value.int .i64 s.Lo) 0 rfl tk3 rfl rfl) ?_
 refine rS (MV rfl) ?_
 refine rS (FA 1 rfl fo34_1 rfl) ?_
 refine rS (L1 (Value.int .i64 s.Hi) 0 rfl tk3 rfl rfl) ?_
 refine rS (CL (within_1 s.Lo lo s.Hi) (ha_nil) rfl) ?_
 refine rS (MV rfl) ?_
 refine r_bool (t := 13) rfl (fun h4 => ?_) (fun h4 => ?_)
 rotate_left 1
 · replace h4 := DF h4
   refine rS (OX rfl) ?_
   refine rS (OX rfl) ?_
   refine rS (OX rfl) ?_
   refine rS (OX rfl) ?_
   refine rS (PK rfl) ?_
   refine rS (AG rfl) ?_
   refine RK hK3 ?_
   refine w_ret ?_
   refine Q1 hQ rfl rfl rfl ?_
   exact congrArg Value.bool (decide_eq_false (by omega)).symm
 replace h4 := DT h4
 refine rS (FA 1 rfl fo34_1 rfl) ?_
 refine rS (L1 (Value.int .i64 s.Hi) 0 rfl tk3 rfl rfl) ?_
 refine rS (MV rfl) ?_
 refine rS (BI rfl b_leq) ?_
 refine rS (PK rfl) ?_
 refine rS (AG rfl) ?_
 refine RK hK3 ?_
 refine w_ret ?_
 refine Q1 hQ rfl rfl rfl ?_
 exact congrArg Value.bool (decide_eq_decide.2 (by omega))

set_option maxRecDepth 100000 in
set_option maxHeartbeats 400000 in
theorem great_c (t : List StretchV) (tA : Option Addr) (tC : Nat) :
    FnV Try.prog 43 [(Value.agg (TrackV.cells (TrackV.mk (Slc.mk tA t.length tC))).toArray)] [(rd tA t.length 9 (t.map StretchV.cells))] (Value.bool (decide (20 < (t.length : Int)))) := by
 refine fnV_of go43 Try.func43 rfl rfl fun w0 Q hQ hN => ?_
 change WJ _ _ _ _ [(0, (Value.agg (TrackV.cells (TrackV.mk (Slc.mk tA t.length tC))).toArray))] [(rd tA t.length 9 (t.map StretchV.cells)).ro]
 refine WS fun _ hK1 => ?_
 refine BXA rfl fun b2 => ?_
 refine rS (AG rfl) ?_
 refine RK hK1 ?_
 refine WS fun _ hK3 => ?_
 refine rS (FA 0 rfl fo24_0 rfl) ?_
 refine rS (L1 (Value.slice tA t.length tC) 0 rfl tk22 rfl rfl) ?_
 refine rS (LN rfl ut22) ?_
 refine rS (BI rfl b_gtr) ?_
 refine rS (AG rfl) ?_
 refine RK hK3 ?_
 refine w_ret ?_
 exact Q1 hQ rfl rfl rfl rfl

set_option maxRecDepth 100000 in
set_option maxHeartbeats 400000 in
theorem index_c (l : List Int) (lA : Option Addr) (lC : Nat) (f : Value) (p : Int → Bool) (X : Assn) (hf : ∀ x0, x0 ∈ l → Clo Try.prog f [.int .i64 x0] [X] (.bool (p x0))) (hlen : l.length ≤ 1000000) :
    FnV Try.prog 105 [(Value.slice lA l.length lC), f] [(rd lA l.length 1 (l.map iC)), X] (Value.int .i64 (findI p l)) := by
 refine fnV_of go105 Try.func105 rfl rfl fun w0 Q hQ hN => ?_
 change WJ _ _ _ _ [(0, (Value.slice lA l.length lC)), (1, f)] [(rd lA l.length 1 (l.map iC)).ro, X.ro]
 refine WS fun _ hK1 => ?_
 refine rS (AG rfl) ?_
 refine RK hK1 ?_
 refine w_seq fun _ hK2 => ?_
 refine WS fun _ hK3 => ?_
 refine rS (MV rfl) ?_
 refine rS (LN rfl ut57) ?_
 refine rS (MV rfl) ?_
 refine RK hK3 ?_
 refine w_block ?_
 have hinit : (0 ≤ l.length) ∧ ((l.take 0).any p = false) := by simp
 refine w_loop (ι := { z : Nat // (z ≤ l.length) ∧ ((l.take z).any p = false) }) (fun z => [(0, (Value.slice lA l.length lC)), (1, f), (7, (Value.int .i64 ((l.length : Nat) : Int))), (8, (Value.int .i64 (z.1 : Int)))]) (fun z => [(rd lA l.length 1 (l.map iC)).ro, X.ro]) (fun z => l.length - z.1) ⟨0, hinit⟩ (Sub.cons rfl <| Sub.cons rfl <| Sub.cons rfl <| Sub.cons rfl <| Sub.nil _) (fun w hs => St.sel [0, 1] rfl rfl hs) ?_
 clear hinit
 rintro ⟨i, ⟨hl0_0, hl0_1⟩⟩ J4 hJ4
 change WJ _ _ _ _ [(0, (Value.slice lA l.length lC)), (1, f), (7, (Value.int .i64 ((l.length : Nat) : Int))), (8, (Value.int .i64 (i : Int)))] [(rd lA l.length 1 (l.map iC)).ro, X.ro]
 refine WS fun _ hK5 => ?_
 refine rS (BI rfl b_lss) ?_
 refine RK hK5 ?_
 refine w_seq fun _ hK6 => ?_
 refine w_if rfl (fun h7 => ?_) (fun h7 => ?_)
 rotate_left 1
 · replace h7 := DF h7
   refine w_exit ?_
   refine k_exit_then ?_
   refine k_exit_then ?_
   refine k_exit_same ?_
   refine KK hK2 ?_
   refine WS fun _ hK12 => ?_
   refine rS (AG rfl) ?_
   refine RK hK12 ?_
   refine w_ret ?_
   refine Q1 hQ rfl rfl rfl ?_
   first | exact congrArg (Value.int .i64) (findI_at hx hp hl0_1).symm | exact congrArg (Value.int .i64) (findI_none (by omega) hl0_1).symm
 replace h7 := DT h7
 refine WK hK6 ?_
 refine w_seq fun _ hK8 => ?_
 refine w_block ?_
 refine WS fun _ hK9 => ?_
 refine rS (MV rfl) ?_
 refine rS (AG rfl) ?_
 refine RK hK9 ?_
 refine WS fun _ hK10 => ?_
 refine rS (MV rfl) ?_
 refine rS (MV rfl) ?_
 refine rS (MV rfl) ?_
 obtain ⟨x, hx⟩ : ∃ y_, l[i]? = some y_ := ⟨l[i]'(by omega), List.getElem?_eq_getElem _⟩
 have hxm : (l.map iC)[i]? = some (iC x) := by rw [List.getElem?_map, hx]; rfl
 refine rS (IA i rfl (has_at 0 rfl) te57 (by decide) (by omega) (by omega)) ?_
 refine rS (LE1 i 0 (Value.int .i64 x) rfl tk3 (has_at 0 rfl) hxm rfl (by decide) rfl) ?_
 refine rS (SX (sd_clo rfl rfl rfl (hf x (List.mem_of_getElem? hx)) (ha_at 1 rfl rfl <| ha_nil)) rfl rfl) ?_
 refine RK hK10 ?_
 refine w_if rfl (fun hp => ?_) (fun hp => ?_)
 · refine WS fun _ hK11 => ?_
   refine rS (MV rfl) ?_
   refine rS (AG rfl) ?_
   refine RK hK11 ?_
   refine w_ret ?_
   refine Q1 hQ rfl rfl rfl ?_
   first | exact congrArg (Value.int .i64) (findI_at hx hp hl0_1).symm | exact congrArg (Value.int .i64) (findI_none (by omega) hl0_1).symm
 refine w_skip ?_
 refine k_block ?_
 refine KK hK8 ?_
 refine w_region ?_
 refine rS (BI rfl (b_add ⟨by omega, by omega⟩)) ?_
 refine rS (MV rfl) ?_
 refine r_nil ?_
 refine k_then (hJ4 ⟨(i + 1), ⟨by omega, any_step hx hl0_1 hp⟩⟩ _ _ _ rfl (by first | omega | (simp; omega)) (Sub.cons rfl <| Sub.cons rfl <| Sub.cons rfl <| Sub.cons rfl <| Sub.nil _) (fun w hs => St.sel [0, 1] rfl rfl hs))

set_option maxRecDepth 100000 in
set_option maxHeartbeats 400000 in
theorem contains_c (l : List Int) (lA : Option Addr) (lC : Nat) (f : Value) (p : Int → Bool) (X : Assn) (hf : ∀ x0, x0 ∈ l → Clo Try.prog f [.int .i64 x0] [X] (.bool (p x0))) (hlen : l.length ≤ 1000000) :
    FnV Try.prog 73 [(Value.slice lA l.length lC), f] [(rd lA l.length 1 (l.map iC)), X] (Value.bool (l.any p)) := by
 refine fnV_of go73 Try.func73 rfl rfl fun w0 Q hQ hN => ?_
 change WJ _ _ _ _ [(0, (Value.slice lA l.length lC)), (1, f)] [(rd lA l.length 1 (l.map iC)).ro, X.ro]
 refine WS fun _ hK1 => ?_
 refine rS (AG rfl) ?_
 refine RK hK1 ?_
 refine WS fun _ hK2 => ?_
 refine rS (MV rfl) ?_
 refine rS (MV rfl) ?_
 refine rS (CL (index_c l lA lC f p X (by exact hf) hlen) (ha_at 0 rfl rfl <| ha_at 1 rfl rfl <| ha_nil) rfl) ?_
 refine rS (BI rfl b_geq) ?_
 refine rS (AG rfl) ?_
 refine RK hK2 ?_
 refine w_ret ?_
 refine Q1 hQ rfl rfl rfl ?_
 exact congrArg Value.bool findI_any

set_option maxRecDepth 100000 in
set_option maxHeartbeats 400000 in
theorem in1_track (n : Int) (lo : Int) (hi : Int) (g1 : Nat) (g2 : Nat) :
    FnV Try.prog 108 [(Value.int .i64 n), (Value.pointer (some ⟨g1, 0, none⟩)), (Value.pointer (some ⟨g2, 0, none⟩))] [(blk g1 3 [(Value.int .i64 lo)]), (blk g2 3 [(Value.int .i64 hi)])] (Value.bool (decide (n < lo ∨ hi < n))) := by
 refine fnV_of go108 Try.func108 rfl rfl fun w0 Q hQ hN => ?_
 change WJ _ _ _ _ [(0, (Value.int .i64 n)), (1, (Value.pointer (some ⟨g1, 0, none⟩))), (2, (Value.pointer (some ⟨g2, 0, none⟩)))] [(blk g1 3 [(Value.int .i64 lo)]).ro, (blk g2 3 [(Value.int .i64 hi)]).ro]
 refine WS fun _ hK1 => ?_
 refine rS (AG rfl) ?_
 refine RK hK1 ?_
 refine WS fun _ hK2 => ?_
 refine rS (MV rfl) ?_
 refine rS (L1Q 0 rfl tk3 rfl) ?_
 refine rS (BI rfl b_lss) ?_
 refine rS (MV rfl) ?_
 refine r_bool (t := 8) rfl (fun h3 => ?_) (fun h3 => ?_)
 · replace h3 := DT h3
   refine rS (OX rfl) ?_
   refine rS (OX rfl) ?_
   refine rS (OX rfl) ?_
   refine rS (PK rfl) ?_
   refine rS (AG rfl) ?_
   refine RK hK2 ?_
   refine w_ret ?_
   refine Q1 hQ rfl rfl rfl ?_
   exact congrArg Value.bool (decide_eq_true (by omega)).symm
 replace h3 := DF h3
 refine rS (MV rfl) ?_
 refine rS (L1Q 1 rfl tk3 rfl) ?_
 refine rS (BI rfl b_gtr) ?_
 refine rS (PK rfl) ?_
 refine rS (AG rfl) ?_
 refine RK hK2 ?_
 refine w_ret ?_
 refine Q1 hQ rfl rfl rfl ?_
 exact congrArg Value.bool (decide_eq_decide.2 (by omega))

set_option maxRecDepth 100000 in
set_option maxHeartbeats 400000 in
theorem in_track (lo : Int) (hi : Int) (l : List Int) (lA : Option Addr) (lC : Nat) (hlen : l.length ≤ 1000000) :
    FnV Try.prog 79 [(Value.int .i64 lo), (Value.int .i64 hi), (Value.slice lA l.length lC)] [(rd lA l.length 1 (l.map iC))] (Value.bool (inAll lo hi l)) := by
 refine fnV_of go79 Try.func79 rfl rfl fun w0 Q hQ hN => ?_
 change WJ _ _ _ _ [(0, (Value.int .i64 lo)), (1, (Value.int .i64 hi)), (2, (Value.slice lA l.length lC))] [(rd lA l.length 1 (l.map iC)).ro]
 refine WS fun _ hK1 => ?_
 refine BX1 rfl rfl fun b2 => ?_
 refine BX1 rfl rfl fun b3 => ?_
 refine rS (AG rfl) ?_
 refine RK hK1 ?_
 refine WS fun _ hK4 => ?_
 refine rS (MV rfl) ?_
 refine rS (FU rfl) ?_
 refine rS (CL (contains_c l lA lC (Value.func (.func 108) [].toArray [(Value.pointer (some ⟨b2, 0, none⟩)), (Value.pointer (some ⟨b3, 0, none⟩))].toArray) (fun u5 => (decide (u5 < lo ∨ hi < u5))) (bun [(blk b2 3 [(Value.int .i64 lo)]), (blk b3 3 [(Value.int .i64 hi)])]) (by intro u5 _; exact clo_of (fi := []) (ca := [(Value.pointer (some ⟨b2, 0, none⟩)), (Value.pointer (some ⟨b3, 0, none⟩))]) (fnV_bun (in1_track u5 lo hi b2 b3 ) (ha_at 0 rfl rfl <| ha_at 1 rfl rfl <| ha_nil))) hlen) (ha_at 2 rfl rfl <| ha_cons (has_bun (ha_at 1 rfl rfl <| ha_at 0 rfl rfl <| ha_nil)) <| ha_nil) rfl) ?_
 refine rS (NT rfl) ?_
 refine rS (AG rfl) ?_
 refine RK hK4 ?_
 refine w_ret ?_
 exact Q1 hQ rfl rfl rfl rfl

set_option maxRecDepth 100000 in
set_option maxHeartbeats 400000 in
theorem known_c (s : SpanV) (lo : Int) (hi : Int) :
    FnV Try.prog 80 [(Value.agg (SpanV.cells s).toArray), (Value.int .i64 lo), (Value.int .i64 hi)] [] (Value.bool (decide (s.Lo ≤ s.Hi ∧ lo ≤ s.Lo ∧ s.Hi ≤ hi))) := by
 refine fnV_of go80 Try.func80 rfl rfl fun w0 Q hQ hN => ?_
 change WJ _ _ _ _ [(0, (Value.agg (SpanV.cells s).toArray)), (1, (Value.int .i64 lo)), (2, (Value.int .i64 hi))] []
 refine WS fun _ hK1 => ?_
 refine BXA rfl fun b2 => ?_
 refine rS (AG rfl) ?_
 refine RK hK1 ?_
 refine WS fun _ hK3 => ?_
 refine rS (MV rfl) ?_
 refine rS (MV rfl) ?_
 refine rS (FA 0 rfl fo34_0 rfl) ?_
 refine rS (L1 (Value.int .i64 s.Lo) 0 rfl tk3 rfl rfl) ?_
 refine rS (FA 1 rfl fo34_1 rfl) ?_
 refine rS (L1 (Value.int .i64 s.Hi) 0 rfl tk3 rfl rfl) ?_
 refine r_bs (xs := [.tmp 10, .tmp 12]) (cs := [(Value.int .i64 s.Lo), (Value.int .i64 s.Hi)]) rfl te57 tz3 rfl rfl rfl rfl (by simp [Value.cells]) rfl rfl fun b4 => ?_
 refine rS (CL (FnV.eq (in_track lo hi ([s.Lo, s.Hi]) (some ⟨b4, 0, none⟩) 2 (by first | assumption | omega | (simp; done) | (simp; omega))) inAll_two) (ha_cons (has_rd_blk 0 rfl rfl (by simp [iC_length]) rfl) <| ha_nil) rfl) ?_
 refine rS (MV rfl) ?_
 refine r_bool (t := 15) rfl (fun h5 => ?_) (fun h5 => ?_)
 rotate_left 1
 · replace h5 := DF h5
   refine rS (OX rfl) ?_
   refine rS (OX rfl) ?_
   refine rS (OX rfl) ?_
   refine rS (OX rfl) ?_
   refine rS (OX rfl) ?_
   refine rS (PK rfl) ?_
   refine rS (AG rfl) ?_
   refine RK hK3 ?_
   refine w_ret ?_
   refine Q1 hQ rfl rfl rfl ?_
   exact congrArg Value.bool (decide_eq_false (by omega)).symm
 replace h5 := DT h5
 refine rS (FA 0 rfl fo34_0 rfl) ?_
 refine rS (L1 (Value.int .i64 s.Lo) 1 rfl tk3 rfl rfl) ?_
 refine rS (FA 1 rfl fo34_1 rfl) ?_
 refine rS (L1 (Value.int .i64 s.Hi) 1 rfl tk3 rfl rfl) ?_
 refine rS (BI rfl b_leq) ?_
 refine rS (PK rfl) ?_
 refine rS (AG rfl) ?_
 refine RK hK3 ?_
 refine w_ret ?_
 refine Q1 hQ rfl rfl rfl ?_
 exact congrArg Value.bool (decide_eq_decide.2 (by omega))

set_option maxRecDepth 100000 in
set_option maxHeartbeats 400000 in
theorem track_c (ts : List StretchV) (tsA : Option Addr) (tsC : Nat) (hlen : ts.length ≤ 1000000) :
    FnV Try.prog 56 [(Value.agg (TrackV.cells (TrackV.mk (Slc.mk tsA ts.length tsC))).toArray)] [(rd tsA ts.length 9 (ts.map StretchV.cells))] (Value.bool (trackOk ts)) := by
 refine fnV_of go56 Try.func56 rfl rfl fun w0 Q hQ hN => ?_
 change WJ _ _ _ _ [(0, (Value.agg (TrackV.cells (TrackV.mk (Slc.mk tsA ts.length tsC))).toArray))] [(rd tsA ts.length 9 (ts.map StretchV.cells)).ro]
 refine WS fun _ hK1 => ?_
 refine BXA rfl fun b2 => ?_
 refine rS (AG rfl) ?_
 refine RK hK1 ?_
 refine w_seq fun _ hK3 => ?_
 refine WS fun _ hK4 => ?_
 refine rS (FA 0 rfl fo24_0 rfl) ?_
 refine rS (L1 (Value.slice tsA ts.length tsC) 0 rfl tk22 rfl rfl) ?_
 refine rS (LN rfl ut22) ?_
 refine rS (CL (within_1 ((ts.length : Nat) : Int) 1 12) (ha_nil) rfl) ?_
 refine rS (NT rfl) ?_
 refine RK hK4 ?_
 refine w_if rfl (fun h5 => ?_) (fun h5 => ?_)
 · replace h5 := XT h5
   refine WS fun _ hK6 => ?_
   refine rS (AG rfl) ?_
   refine RK hK6 ?_
   refine w_ret ?_
   refine Q1 hQ rfl rfl rfl ?_
   first | exact congrArg Value.bool (trackOk_len (by omega)).symm | exact congrArg Value.bool (trackOk_no hl0_1 hx (by simp only [StretchOk, SpanOk]; omega)).symm | exact congrArg Value.bool (trackOk_yes hl0_1 (by omega) (by omega)).symm
 replace h5 := XF h5
 refine WK hK3 ?_
 refine w_seq fun _ hK7 => ?_
 refine WS fun _ hK8 => ?_
 refine rS (AG rfl) ?_
 refine RK hK8 ?_
 refine w_block ?_
 have hinit : (0 ≤ ts.length) ∧ (trackFrom (-1) ts = trackFrom (lastId ts 0) (ts.drop 0)) ∧ (-1 ≤ lastId ts 0) := by (refine ⟨by omega, rfl, by simp [lastId]⟩)
 refine w_loop (ι := { z : Nat // (z ≤ ts.length) ∧ (trackFrom (-1) ts = trackFrom (lastId ts z) (ts.drop z)) ∧ (-1 ≤ lastId ts z) }) (fun z => [(1, (Value.pointer (some ⟨b2, 0, none⟩))), (3, (Value.int .i64 (z.1 : Int)))]) (fun z => [(blk b2 24 (TrackV.cells (TrackV.mk (Slc.mk tsA ts.length tsC)))), (rd tsA ts.length 9 (ts.map StretchV.cells)).ro]) (fun z => ts.length - z.1) ⟨0, hinit⟩ (Sub.cons rfl <| Sub.cons rfl <| Sub.nil _) (fun w hs => St.sel [0, 1] rfl rfl hs) ?_
 clear hinit
 rintro ⟨i, ⟨hl0_0, hl0_1, hl0_2⟩⟩ J9 hJ9
 change WJ _ _ _ _ [(1, (Value.pointer (some ⟨b2, 0, none⟩))), (3, (Value.int .i64 (i : Int)))] [(blk b2 24 (TrackV.cells (TrackV.mk (Slc.mk tsA ts.length tsC)))), (rd tsA ts.length 9 (ts.map StretchV.cells)).ro]
 have hz : i = 0 → lastId ts i = -1 := lastId_zero
 refine w_seq fun _ hK10 => ?_
 refine WS fun _ hK11 => ?_
 refine rS (MV rfl) ?_
 refine rS (FA 0 rfl fo24_0 rfl) ?_
 refine rS (L1 (Value.slice tsA ts.length tsC) 0 rfl tk22 rfl rfl) ?_
 refine rS (LN rfl ut22) ?_
 refine rS (BI rfl b_lss) ?_
 refine RK hK11 ?_
 refine w_if rfl (fun h12 => ?_) (fun h12 => ?_)
 rotate_left 1
 · replace h12 := DF h12
   refine w_exit ?_
   refine k_exit_then ?_
   refine k_exit_then ?_
   refine k_exit_same ?_
   refine KK hK7 ?_
   refine WS fun _ hK77 => ?_
   refine rS (AG rfl) ?_
   refine RK hK77 ?_
   refine w_ret ?_
   refine Q1 hQ rfl rfl rfl ?_
   first | exact congrArg Value.bool (trackOk_len (by omega)).symm | exact congrArg Value.bool (trackOk_no hl0_1 hx (by simp only [StretchOk, SpanOk]; omega)).symm | exact congrArg Value.bool (trackOk_yes hl0_1 (by omega) (by omega)).symm
 replace h12 := DT h12
 refine WK hK10 ?_
 refine w_seq fun _ hK13 => ?_
 refine w_block ?_
 refine WS fun _ hK14 => ?_
 refine rS (FA 0 rfl fo24_0 rfl) ?_
 refine rS (L1 (Value.slice tsA ts.length tsC) 0 rfl tk22 rfl rfl) ?_
 refine rS (MV rfl) ?_
 obtain ⟨x, hx⟩ : ∃ y_, ts[i]? = some y_ := ⟨ts[i]'(by omega), List.getElem?_eq_getElem _⟩
 have hxm : (ts.map StretchV.cells)[i]? = some (StretchV.cells x) := by rw [List.getElem?_map, hx]; rfl
 refine rS (IA i rfl (has_at 1 rfl) te22 (by decide) (by omega) (by omega)) ?_
 refine rS (LEN i 0 (StretchV.cells x) rfl tk126 (has_at 1 rfl) hxm rfl (by decide) rfl rfl) ?_
 refine AL rfl tz126 fun b15 => ?_
 refine SW0 rfl ts126 rfl ?_
 refine RK hK14 ?_
 refine w_seq fun _ hK16 => ?_
 refine w_seq fun _ hK17 => ?_
 refine w_draw mixed 38 (by kernel_rfl) ?_
 refine dS (FA 0 rfl fo126_0 rfl) ?_
 refine dS (L1 (Value.int .i64 x.Id) 0 rfl tk3 rfl rfl) ?_
 refine dS (CL (within_1 x.Id 0 9999) (ha_nil) rfl) ?_
 refine dS (NT rfl) ?_
 refine dS (MV rfl) ?_
 refine d_bool (t := 26) rfl (fun h18 => ?_) (fun h18 => ?_)
 · replace h18 := XT h18
   refine dS (OX rfl) ?_
   refine dS (OX rfl) ?_
   refine dS (OX rfl) ?_
   refine dS (OX rfl) ?_
   refine dS (OX rfl) ?_
   refine dS (OX rfl) ?_
   refine dS (OX rfl) ?_
   refine dS (OX rfl) ?_
   refine dS (OX rfl) ?_
   refine dS (OX rfl) ?_
   refine dS (OX rfl) ?_
   refine dS (OX rfl) ?_
   refine dS (OX rfl) ?_
   refine dS (OX rfl) ?_
   refine dS (PK rfl) ?_
   refine dS (MV rfl) ?_
   refine dS (OX rfl) ?_
   refine dS (OX rfl) ?_
   refine dS (OX rfl) ?_
   refine dS (OX rfl) ?_
   refine dS (PK rfl) ?_
   refine dS (MV rfl) ?_
   refine dS (OX rfl) ?_
   refine dS (OX rfl) ?_
   refine dS (OX rfl) ?_
   refine dS (OX rfl) ?_
   refine dS (PK rfl) ?_
   refine dS (MV rfl) ?_
   refine dS (OX rfl) ?_
   refine dS (OX rfl) ?_
   refine dS (OX rfl) ?_
   refine dS (OX rfl) ?_
   refine dS (PK rfl) ?_
   refine d_end ?_
   refine RK hK17 ?_
   refine w_if_true rfl ?_
   refine WS fun _ hK19 => ?_
   refine rS (AG rfl) ?_
   refine RK hK19 ?_
   refine w_ret ?_
   refine Q1 hQ rfl rfl rfl ?_
   first | exact congrArg Value.bool (trackOk_len (by omega)).symm | exact congrArg Value.bool (trackOk_no hl0_1 hx (by simp only [StretchOk, SpanOk]; omega)).symm | exact congrArg Value.bool (trackOk_yes hl0_1 (by omega) (by omega)).symm
 replace h18 := XF h18
 refine dS (MV rfl) ?_
 refine dS (BI rfl b_gtr) ?_
 refine dS (MV rfl) ?_
 refine d_bool (t := 29) rfl (fun h20 => ?_) (fun h20 => ?_)
 rotate_left 1
 · replace h20 := DF h20
   refine dS (OX rfl) ?_
   refine dS (OX rfl) ?_
   refine dS (OX rfl) ?_
   refine dS (OX rfl) ?_
   refine dS (OX rfl) ?_
   refine dS (OX rfl) ?_
   refine dS (OX rfl) ?_
   refine dS (OX rfl) ?_
   refine dS (OX rfl) ?_
   refine dS (OX rfl) ?_
   refine dS (PK rfl) ?_
   refine dS (PK rfl) ?_
   refine dS (MV rfl) ?_
   refine dS (FA 1 rfl fo126_1 rfl) ?_
   refine dS (LP (SpanV.cells x.Long) 0 rfl tk34 rfl rfl rfl) ?_
   refine dS (CL (span_1 x.Long 1 30000) (ha_nil) rfl) ?_
   refine dS (NT rfl) ?_
   refine dS (PK rfl) ?_
   refine dS (MV rfl) ?_
   refine d_bool (t := 48) rfl (fun h50 => ?_) (fun h50 => ?_)
   · replace h50 := XT h50
     refine dS (OX rfl) ?_
     refine dS (OX rfl) ?_
     refine dS (OX rfl) ?_
     refine dS (OX rfl) ?_
     refine dS (PK rfl) ?_
     refine dS (MV rfl) ?_
     refine dS (OX rfl) ?_
     refine dS (OX rfl) ?_
     refine dS (OX rfl) ?_
     refine dS (OX rfl) ?_
     refine dS (PK rfl) ?_
     refine d_end ?_
     refine RK hK17 ?_
     refine w_if_true rfl ?_
     refine WS fun _ hK51 => ?_
     refine rS (AG rfl) ?_
     refine RK hK51 ?_
     refine w_ret ?_
     refine Q1 hQ rfl rfl rfl ?_
     first | exact congrArg Value.bool (trackOk_len (by omega)).symm | exact congrArg Value.bool (trackOk_no hl0_1 hx (by simp only [StretchOk, SpanOk]; omega)).symm | exact congrArg Value.bool (trackOk_yes hl0_1 (by omega) (by omega)).symm
   replace h50 := XF h50
   refine dS (FA 3 rfl fo126_2 rfl) ?_
   refine dS (LP (SpanV.cells x.Fall) 0 rfl tk34 rfl rfl rfl) ?_
   refine dS (CL (span_1 x.Fall 0 5000) (ha_nil) rfl) ?_
   refine dS (NT rfl) ?_
   refine dS (PK rfl) ?_
   refine dS (MV rfl) ?_
   refine d_bool (t := 54) rfl (fun h52 => ?_) (fun h52 => ?_)
   · replace h52 := XT h52
     refine dS (OX rfl) ?_
     refine dS (OX rfl) ?_
     refine dS (OX rfl) ?_
     refine dS (OX rfl) ?_
     refine dS (PK rfl) ?_
     refine d_end ?_
     refine RK hK17 ?_
     refine w_if_true rfl ?_
     refine WS fun _ hK53 => ?_
     refine rS (AG rfl) ?_
     refine RK hK53 ?_
     refine w_ret ?_
     refine Q1 hQ rfl rfl rfl ?_
     first | exact congrArg Value.bool (trackOk_len (by omega)).symm | exact congrArg Value.bool (trackOk_no hl0_1 hx (by simp only [StretchOk, SpanOk]; omega)).symm | exact congrArg Value.bool (trackOk_yes hl0_1 (by omega) (by omega)).symm
   replace h52 := XF h52
   refine dS (FA 8 rfl fo126_5 rfl) ?_
   refine dS (L1 (Value.int .i64 x.Wall) 0 rfl tk3 rfl rfl) ?_
   refine dS (CL (within_1 x.Wall 0 5000) (ha_nil) rfl) ?_
   refine dS (NT rfl) ?_
   refine dS (PK rfl) ?_
   refine d_end ?_
   refine RK hK17 ?_
   refine w_if rfl (fun h54 => ?_) (fun h54 => ?_)
   · replace h54 := XT h54
     refine WS fun _ hK55 => ?_
     refine rS (AG rfl) ?_
     refine RK hK55 ?_
     refine w_ret ?_
     refine Q1 hQ rfl rfl rfl ?_
     first | exact congrArg Value.bool (trackOk_len (by omega)).symm | exact congrArg Value.bool (trackOk_no hl0_1 hx (by simp only [StretchOk, SpanOk]; omega)).symm | exact congrArg Value.bool (trackOk_yes hl0_1 (by omega) (by omega)).symm
   replace h54 := XF h54
   refine WK hK16 ?_
   refine WS fun _ hK56 => ?_
   refine rS (FA 7 rfl fo126_4 rfl) ?_
   refine rS (L1 (Value.int .u8 x.Side) 0 rfl tk5 rfl rfl) ?_
   refine RK hK56 ?_
   refine w_block ?_
   refine WS fun _ hK57 => ?_
   refine rS (BI rfl b_eql) ?_
   refine rS (AG rfl) ?_
   refine RK hK57 ?_
   refine w_if rfl (fun h58 => ?_) (fun h58 => ?_)
   · replace h58 := DT h58
     refine WS fun _ hK59 => ?_
     refine rS (FA 5 rfl fo126_3 rfl) ?_
     refine rS (FA 5 rfl fo34_0 rfl) ?_
     refine rS (L1 (Value.int .i64 x.Radius.Lo) 0 rfl tk3 rfl rfl) ?_
     refine rS (BI rfl b_neq) ?_
     refine rS (MV rfl) ?_
     refine r_bool (t := 68) rfl (fun h60 => ?_) (fun h60 => ?_)
     · replace h60 := XT h60
       refine rS (OX rfl) ?_
       refine rS (OX rfl) ?_
       refine rS (OX rfl) ?_
       refine rS (OX rfl) ?_
       refine rS (PK rfl) ?_
       refine RK hK59 ?_
       refine w_if_true rfl ?_
       refine WS fun _ hK61 => ?_
       refine rS (AG rfl) ?_
       refine RK hK61 ?_
       refine w_ret ?_
       refine Q1 hQ rfl rfl rfl ?_
       first | exact congrArg Value.bool (trackOk_len (by omega)).symm | exact congrArg Value.bool (trackOk_no hl0_1 hx (by simp only [StretchOk, SpanOk]; omega)).symm | exact congrArg Value.bool (trackOk_yes hl0_1 (by omega) (by omega)).symm
     replace h60 := XF h60
     refine rS (FA 5 rfl fo126_3 rfl) ?_
     refine rS (FA 6 rfl fo34_1 rfl) ?_
     refine rS (L1 (Value.int .i64 x.Radius.Hi) 0 rfl tk3 rfl rfl) ?_
     refine rS (BI rfl b_neq) ?_
     refine rS (PK rfl) ?_
     refine RK hK59 ?_
     refine w_if rfl (fun h62 => ?_) (fun h62 => ?_)
     · replace h62 := XT h62
       refine WS fun _ hK63 => ?_
       refine rS (AG rfl) ?_
       refine RK hK63 ?_
       refine w_ret ?_
       refine Q1 hQ rfl rfl rfl ?_
       first | exact congrArg Value.bool (trackOk_len (by omega)).symm | exact congrArg Value.bool (trackOk_no hl0_1 hx (by simp only [StretchOk, SpanOk]; omega)).symm | exact congrArg Value.bool (trackOk_yes hl0_1 (by omega) (by omega)).symm
     replace h62 := XF h62
     refine w_skip ?_
     refine k_block ?_
     refine k_block ?_
     refine KK hK13 ?_
     refine w_region ?_
     refine rS (MV rfl) ?_
     refine rS (BI rfl (b_add ⟨by omega, by omega⟩)) ?_
     refine rS (AG rfl) ?_
     refine r_nil ?_
     refine k_then (hJ9 ⟨(i + 1), ⟨by omega, trackFrom_next hl0_1 hx (by simp only [StretchOk, SpanOk]; omega), by rw [lastId_succ hx]; omega⟩⟩ _ _ _ rfl (by first | omega | (simp; omega)) (Sub.cons rfl <| Sub.cons rfl <| Sub.nil _) (fun w hs => St.sel [1, 2] rfl rfl hs))
   replace h58 := DF h58
   refine w_seq fun _ hK64 => ?_
   refine WS fun _ hK65 => ?_
   refine rS (BI rfl b_eql) ?_
   refine rS (AG rfl) ?_
   refine RK hK65 ?_
   refine w_if rfl (fun h66 => ?_) (fun h66 => ?_)
   · replace h66 := DT h66
     refine WK hK64 ?_
     refine w_if rfl (fun h67 => ?_) (fun h67 => ?_)
     rotate_left 1
     · replace h67 := DF h67
       refine WS fun _ hK71 => ?_
       refine rS (AG rfl) ?_
       refine RK hK71 ?_
       refine w_ret ?_
       refine Q1 hQ rfl rfl rfl ?_
       first | exact congrArg Value.bool (trackOk_len (by omega)).symm | exact congrArg Value.bool (trackOk_no hl0_1 hx (by simp only [StretchOk, SpanOk]; omega)).symm | exact congrArg Value.bool (trackOk_yes hl0_1 (by omega) (by omega)).symm
     replace h67 := DT h67
     refine WS fun _ hK68 => ?_
     refine rS (FA 5 rfl fo126_3 rfl) ?_
     refine rS (LP (SpanV.cells x.Radius) 0 rfl tk34 rfl rfl rfl) ?_
     refine rS (CL (span_1 x.Radius 500 20000) (ha_nil) rfl) ?_
     refine rS (NT rfl) ?_
     refine RK hK68 ?_
     refine w_if rfl (fun h69 => ?_) (fun h69 => ?_)
     · replace h69 := XT h69
       refine WS fun _ hK70 => ?_
       refine rS (AG rfl) ?_
       refine RK hK70 ?_
       refine w_ret ?_
       refine Q1 hQ rfl rfl rfl ?_
       first | exact congrArg Value.bool (trackOk_len (by omega)).symm | exact congrArg Value.bool (trackOk_no hl0_1 hx (by simp only [StretchOk, SpanOk]; omega)).symm | exact congrArg Value.bool (trackOk_yes hl0_1 (by omega) (by omega)).symm
     replace h69 := XF h69
     refine w_skip ?_
     refine k_block ?_
     refine k_block ?_
     refine KK hK13 ?_
     refine w_region ?_
     refine rS (MV rfl) ?_
     refine rS (BI rfl (b_add ⟨by omega, by omega⟩)) ?_
     refine rS (AG rfl) ?_
     refine r_nil ?_
     refine k_then (hJ9 ⟨(i + 1), ⟨by omega, trackFrom_next hl0_1 hx (by simp only [StretchOk, SpanOk]; omega), by rw [lastId_succ hx]; omega⟩⟩ _ _ _ rfl (by first | omega | (simp; omega)) (Sub.cons rfl <| Sub.cons rfl <| Sub.nil _) (fun w hs => St.sel [1, 2] rfl rfl hs))
   replace h66 := DF h66
   refine w_region ?_
   refine rS (BI rfl b_eql) ?_
   refine rS (AG rfl) ?_
   refine RK hK64 ?_
   refine w_if rfl (fun h72 => ?_) (fun h72 => ?_)
   rotate_left 1
   · replace h72 := DF h72
     refine WS fun _ hK76 => ?_
     refine rS (AG rfl) ?_
     refine RK hK76 ?_
     refine w_ret ?_
     refine Q1 hQ rfl rfl rfl ?_
     first | exact congrArg Value.bool (trackOk_len (by omega)).symm | exact congrArg Value.bool (trackOk_no hl0_1 hx (by simp only [StretchOk, SpanOk]; omega)).symm | exact congrArg Value.bool (trackOk_yes hl0_1 (by omega) (by omega)).symm
   replace h72 := DT h72
   refine WS fun _ hK73 => ?_
   refine rS (FA 5 rfl fo126_3 rfl) ?_
   refine rS (LP (SpanV.cells x.Radius) 0 rfl tk34 rfl rfl rfl) ?_
   refine rS (CL (span_1 x.Radius 500 20000) (ha_nil) rfl) ?_
   refine rS (NT rfl) ?_
   refine RK hK73 ?_
   refine w_if rfl (fun h74 => ?_) (fun h74 => ?_)
   · replace h74 := XT h74
     refine WS fun _ hK75 => ?_
     refine rS (AG rfl) ?_
     refine RK hK75 ?_
     refine w_ret ?_
     refine Q1 hQ rfl rfl rfl ?_
     first | exact congrArg Value.bool (trackOk_len (by omega)).symm | exact congrArg Value.bool (trackOk_no hl0_1 hx (by simp only [StretchOk, SpanOk]; omega)).symm | exact congrArg Value.bool (trackOk_yes hl0_1 (by omega) (by omega)).symm
   replace h74 := XF h74
   refine w_skip ?_
   refine k_block ?_
   refine k_block ?_
   refine KK hK13 ?_
   refine w_region ?_
   refine rS (MV rfl) ?_
   refine rS (BI rfl (b_add ⟨by omega, by omega⟩)) ?_
   refine rS (AG rfl) ?_
   refine r_nil ?_
   refine k_then (hJ9 ⟨(i + 1), ⟨by omega, trackFrom_next hl0_1 hx (by simp only [StretchOk, SpanOk]; omega), by rw [lastId_succ hx]; omega⟩⟩ _ _ _ rfl (by first | omega | (simp; omega)) (Sub.cons rfl <| Sub.cons rfl <| Sub.nil _) (fun w hs => St.sel [1, 2] rfl rfl hs))
 replace h20 := DT h20
 refine dS (FA 0 rfl fo126_0 rfl) ?_
 refine dS (L1 (Value.int .i64 x.Id) 0 rfl tk3 rfl rfl) ?_
 refine dS (FA 0 rfl fo24_0 rfl) ?_
 refine dS (L1 (Value.slice tsA ts.length tsC) 1 rfl tk22 rfl rfl) ?_
 refine dS (MV rfl) ?_
 refine dS (BI rfl (b_sub ⟨by omega, by omega⟩)) ?_
 obtain ⟨y, hy⟩ : ∃ y_, ts[(i - 1)]? = some y_ := ⟨ts[(i - 1)]'(by omega), List.getElem?_eq_getElem _⟩
 have hym : (ts.map StretchV.cells)[(i - 1)]? = some (StretchV.cells y) := by rw [List.getElem?_map, hy]; rfl
 refine dS (IA (i - 1) rfl (has_at 2 rfl) te22 (by decide) (by omega) (by omega)) ?_
 refine dS (FAR ((i - 1) * 9) rfl (has_at 2 rfl) (Nat.mul_pos (by omega) (by decide)) fo126_0 rfl) ?_
 have hyl := lastId_pos (by omega) hy
 refine dS (LE1 (i - 1) 0 (Value.int .i64 y.Id) rfl tk3 (has_at 2 rfl) hym rfl (by decide) rfl) ?_
 refine dS (BI rfl b_leq) ?_
 refine dS (PK rfl) ?_
 refine dS (PK rfl) ?_
 refine dS (MV rfl) ?_
 refine d_bool (t := 42) rfl (fun h21 => ?_) (fun h21 => ?_)
 · replace h21 := DT h21
   refine dS (OX rfl) ?_
   refine dS (OX rfl) ?_
   refine dS (OX rfl) ?_
   refine dS (OX rfl) ?_
   refine dS (PK rfl) ?_
   refine dS (MV rfl) ?_
   refine dS (OX rfl) ?_
   refine dS (OX rfl) ?_
   refine dS (OX rfl) ?_
   refine dS (OX rfl) ?_
   refine dS (PK rfl) ?_
   refine dS (MV rfl) ?_
   refine dS (OX rfl) ?_
   refine dS (OX rfl) ?_
   refine dS (OX rfl) ?_
   refine dS (OX rfl) ?_
   refine dS (PK rfl) ?_
   refine d_end ?_
   refine RK hK17 ?_
   refine w_if_true rfl ?_
   refine WS fun _ hK22 => ?_
   refine rS (AG rfl) ?_
   refine RK hK22 ?_
   refine w_ret ?_
   refine Q1 hQ rfl rfl rfl ?_
   first | exact congrArg Value.bool (trackOk_len (by omega)).symm | exact congrArg Value.bool (trackOk_no hl0_1 hx (by simp only [StretchOk, SpanOk]; omega)).symm | exact congrArg Value.bool (trackOk_yes hl0_1 (by omega) (by omega)).symm
 replace h21 := DF h21
 refine dS (FA 1 rfl fo126_1 rfl) ?_
 refine dS (LP (SpanV.cells x.Long) 0 rfl tk34 rfl rfl rfl) ?_
 refine dS (CL (span_1 x.Long 1 30000) (ha_nil) rfl) ?_
 refine dS (NT rfl) ?_
 refine dS (PK rfl) ?_
 refine dS (MV rfl) ?_
 refine d_bool (t := 48) rfl (fun h23 => ?_) (fun h23 => ?_)
 · replace h23 := XT h23
   refine dS (OX rfl) ?_
   refine dS (OX rfl) ?_
   refine dS (OX rfl) ?_
   refine dS (OX rfl) ?_
   refine dS (PK rfl) ?_
   refine dS (MV rfl) ?_
   refine dS (OX rfl) ?_
   refine dS (OX rfl) ?_
   refine dS (OX rfl) ?_
   refine dS (OX rfl) ?_
   refine dS (PK rfl) ?_
   refine d_end ?_
   refine RK hK17 ?_
   refine w_if_true rfl ?_
   refine WS fun _ hK24 => ?_
   refine rS (AG rfl) ?_
   refine RK hK24 ?_
   refine w_ret ?_
   refine Q1 hQ rfl rfl rfl ?_
   first | exact congrArg Value.bool (trackOk_len (by omega)).symm | exact congrArg Value.bool (trackOk_no hl0_1 hx (by simp only [StretchOk, SpanOk]; omega)).symm | exact congrArg Value.bool (trackOk_yes hl0_1 (by omega) (by omega)).symm
 replace h23 := XF h23
 refine dS (FA 3 rfl fo126_2 rfl) ?_
 refine dS (LP (SpanV.cells x.Fall) 0 rfl tk34 rfl rfl rfl) ?_
 refine dS (CL (span_1 x.Fall 0 5000) (ha_nil) rfl) ?_
 refine dS (NT rfl) ?_
 refine dS (PK rfl) ?_
 refine dS (MV rfl) ?_
 refine d_bool (t := 54) rfl (fun h25 => ?_) (fun h25 => ?_)
 · replace h25 := XT h25
   refine dS (OX rfl) ?_
   refine dS (OX rfl) ?_
   refine dS (OX rfl) ?_
   refine dS (OX rfl) ?_
   refine dS (PK rfl) ?_
   refine d_end ?_
   refine RK hK17 ?_
   refine w_if_true rfl ?_
   refine WS fun _ hK26 => ?_
   refine rS (AG rfl) ?_
   refine RK hK26 ?_
   refine w_ret ?_
   refine Q1 hQ rfl rfl rfl ?_
   first | exact congrArg Value.bool (trackOk_len (by omega)).symm | exact congrArg Value.bool (trackOk_no hl0_1 hx (by simp only [StretchOk, SpanOk]; omega)).symm | exact congrArg Value.bool (trackOk_yes hl0_1 (by omega) (by omega)).symm
 replace h25 := XF h25
 refine dS (FA 8 rfl fo126_5 rfl) ?_
 refine dS (L1 (Value.int .i64 x.Wall) 0 rfl tk3 rfl rfl) ?_
 refine dS (CL (within_1 x.Wall 0 5000) (ha_nil) rfl) ?_
 refine dS (NT rfl) ?_
 refine dS (PK rfl) ?_
 refine d_end ?_
 refine RK hK17 ?_
 refine w_if rfl (fun h27 => ?_) (fun h27 => ?_)
 · replace h27 := XT h27
   refine WS fun _ hK28 => ?_
   refine rS (AG rfl) ?_
   refine RK hK28 ?_
   refine w_ret ?_
   refine Q1 hQ rfl rfl rfl ?_
   first | exact congrArg Value.bool (trackOk_len (by omega)).symm | exact congrArg Value.bool (trackOk_no hl0_1 hx (by simp only [StretchOk, SpanOk]; omega)).symm | exact congrArg Value.bool (trackOk_yes hl0_1 (by omega) (by omega)).symm
 replace h27 := XF h27
 refine WK hK16 ?_
 refine WS fun _ hK29 => ?_
 refine rS (FA 7 rfl fo126_4 rfl) ?_
 refine rS (L1 (Value.int .u8 x.Side) 0 rfl tk5 rfl rfl) ?_
 refine RK hK29 ?_
 refine w_block ?_
 refine WS fun _ hK30 => ?_
 refine rS (BI rfl b_eql) ?_
 refine rS (AG rfl) ?_
 refine RK hK30 ?_
 refine w_if rfl (fun h31 => ?_) (fun h31 => ?_)
 · replace h31 := DT h31
   refine WS fun _ hK32 => ?_
   refine rS (FA 5 rfl fo126_3 rfl) ?_
   refine rS (FA 5 rfl fo34_0 rfl) ?_
   refine rS (L1 (Value.int .i64 x.Radius.Lo) 0 rfl tk3 rfl rfl) ?_
   refine rS (BI rfl b_neq) ?_
   refine rS (MV rfl) ?_
   refine r_bool (t := 68) rfl (fun h33 => ?_) (fun h33 => ?_)
   · replace h33 := XT h33
     refine rS (OX rfl) ?_
     refine rS (OX rfl) ?_
     refine rS (OX rfl) ?_
     refine rS (OX rfl) ?_
     refine rS (PK rfl) ?_
     refine RK hK32 ?_
     refine w_if_true rfl ?_
     refine WS fun _ hK34 => ?_
     refine rS (AG rfl) ?_
     refine RK hK34 ?_
     refine w_ret ?_
     refine Q1 hQ rfl rfl rfl ?_
     first | exact congrArg Value.bool (trackOk_len (by omega)).symm | exact congrArg Value.bool (trackOk_no hl0_1 hx (by simp only [StretchOk, SpanOk]; omega)).symm | exact congrArg Value.bool (trackOk_yes hl0_1 (by omega) (by omega)).symm
   replace h33 := XF h33
   refine rS (FA 5 rfl fo126_3 rfl) ?_
   refine rS (FA 6 rfl fo34_1 rfl) ?_
   refine rS (L1 (Value.int .i64 x.Radius.Hi) 0 rfl tk3 rfl rfl) ?_
   refine rS (BI rfl b_neq) ?_
   refine rS (PK rfl) ?_
   refine RK hK32 ?_
   refine w_if rfl (fun h35 => ?_) (fun h35 => ?_)
   · replace h35 := XT h35
     refine WS fun _ hK36 => ?_
     refine rS (AG rfl) ?_
     refine RK hK36 ?_
     refine w_ret ?_
     refine Q1 hQ rfl rfl rfl ?_
     first | exact congrArg Value.bool (trackOk_len (by omega)).symm | exact congrArg Value.bool (trackOk_no hl0_1 hx (by simp only [StretchOk, SpanOk]; omega)).symm | exact congrArg Value.bool (trackOk_yes hl0_1 (by omega) (by omega)).symm
   replace h35 := XF h35
   refine w_skip ?_
   refine k_block ?_
   refine k_block ?_
   refine KK hK13 ?_
   refine w_region ?_
   refine rS (MV rfl) ?_
   refine rS (BI rfl (b_add ⟨by omega, by omega⟩)) ?_
   refine rS (AG rfl) ?_
   refine r_nil ?_
   refine k_then (hJ9 ⟨(i + 1), ⟨by omega, trackFrom_next hl0_1 hx (by simp only [StretchOk, SpanOk]; omega), by rw [lastId_succ hx]; omega⟩⟩ _ _ _ rfl (by first | omega | (simp; omega)) (Sub.cons rfl <| Sub.cons rfl <| Sub.nil _) (fun w hs => St.sel [1, 2] rfl rfl hs))
 replace h31 := DF h31
 refine w_seq fun _ hK37 => ?_
 refine WS fun _ hK38 => ?_
 refine rS (BI rfl b_eql) ?_
 refine rS (AG rfl) ?_
 refine RK hK38 ?_
 refine w_if rfl (fun h39 => ?_) (fun h39 => ?_)
 · replace h39 := DT h39
   refine WK hK37 ?_
   refine w_if rfl (fun h40 => ?_) (fun h40 => ?_)
   rotate_left 1
   · replace h40 := DF h40
     refine WS fun _ hK44 => ?_
     refine rS (AG rfl) ?_
     refine RK hK44 ?_
     refine w_ret ?_
     refine Q1 hQ rfl rfl rfl ?_
     first | exact congrArg Value.bool (trackOk_len (by omega)).symm | exact congrArg Value.bool (trackOk_no hl0_1 hx (by simp only [StretchOk, SpanOk]; omega)).symm | exact congrArg Value.bool (trackOk_yes hl0_1 (by omega) (by omega)).symm
   replace h40 := DT h40
   refine WS fun _ hK41 => ?_
   refine rS (FA 5 rfl fo126_3 rfl) ?_
   refine rS (LP (SpanV.cells x.Radius) 0 rfl tk34 rfl rfl rfl) ?_
   refine rS (CL (span_1 x.Radius 500 20000) (ha_nil) rfl) ?_
   refine rS (NT rfl) ?_
   refine RK hK41 ?_
   refine w_if rfl (fun h42 => ?_) (fun h42 => ?_)
   · replace h42 := XT h42
     refine WS fun _ hK43 => ?_
     refine rS (AG rfl) ?_
     refine RK hK43 ?_
     refine w_ret ?_
     refine Q1 hQ rfl rfl rfl ?_
     first | exact congrArg Value.bool (trackOk_len (by omega)).symm | exact congrArg Value.bool (trackOk_no hl0_1 hx (by simp only [StretchOk, SpanOk]; omega)).symm | exact congrArg Value.bool (trackOk_yes hl0_1 (by omega) (by omega)).symm
   replace h42 := XF h42
   refine w_skip ?_
   refine k_block ?_
   refine k_block ?_
   refine KK hK13 ?_
   refine w_region ?_
   refine rS (MV rfl) ?_
   refine rS (BI rfl (b_add ⟨by omega, by omega⟩)) ?_
   refine rS (AG rfl) ?_
   refine r_nil ?_
   refine k_then (hJ9 ⟨(i + 1), ⟨by omega, trackFrom_next hl0_1 hx (by simp only [StretchOk, SpanOk]; omega), by rw [lastId_succ hx]; omega⟩⟩ _ _ _ rfl (by first | omega | (simp; omega)) (Sub.cons rfl <| Sub.cons rfl <| Sub.nil _) (fun w hs => St.sel [1, 2] rfl rfl hs))
 replace h39 := DF h39
 refine w_region ?_
 refine rS (BI rfl b_eql) ?_
 refine rS (AG rfl) ?_
 refine RK hK37 ?_
 refine w_if rfl (fun h45 => ?_) (fun h45 => ?_)
 rotate_left 1
 · replace h45 := DF h45
   refine WS fun _ hK49 => ?_
   refine rS (AG rfl) ?_
   refine RK hK49 ?_
   refine w_ret ?_
   refine Q1 hQ rfl rfl rfl ?_
   first | exact congrArg Value.bool (trackOk_len (by omega)).symm | exact congrArg Value.bool (trackOk_no hl0_1 hx (by simp only [StretchOk, SpanOk]; omega)).symm | exact congrArg Value.bool (trackOk_yes hl0_1 (by omega) (by omega)).symm
 replace h45 := DT h45
 refine WS fun _ hK46 => ?_
 refine rS (FA 5 rfl fo126_3 rfl) ?_
 refine rS (LP (SpanV.cells x.Radius) 0 rfl tk34 rfl rfl rfl) ?_
 refine rS (CL (span_1 x.Radius 500 20000) (ha_nil) rfl) ?_
 refine rS (NT rfl) ?_
 refine RK hK46 ?_
 refine w_if rfl (fun h47 => ?_) (fun h47 => ?_)
 · replace h47 := XT h47
   refine WS fun _ hK48 => ?_
   refine rS (AG rfl) ?_
   refine RK hK48 ?_
   refine w_ret ?_
   refine Q1 hQ rfl rfl rfl ?_
   first | exact congrArg Value.bool (trackOk_len (by omega)).symm | exact congrArg Value.bool (trackOk_no hl0_1 hx (by simp only [StretchOk, SpanOk]; omega)).symm | exact congrArg Value.bool (trackOk_yes hl0_1 (by omega) (by omega)).symm
 replace h47 := XF h47
 refine w_skip ?_
 refine k_block ?_
 refine k_block ?_
 refine KK hK13 ?_
 refine w_region ?_
 refine rS (MV rfl) ?_
 refine rS (BI rfl (b_add ⟨by omega, by omega⟩)) ?_
 refine rS (AG rfl) ?_
 refine r_nil ?_
 refine k_then (hJ9 ⟨(i + 1), ⟨by omega, trackFrom_next hl0_1 hx (by simp only [StretchOk, SpanOk]; omega), by rw [lastId_succ hx]; omega⟩⟩ _ _ _ rfl (by first | omega | (simp; omega)) (Sub.cons rfl <| Sub.cons rfl <| Sub.nil _) (fun w hs => St.sel [1, 2] rfl rfl hs))

set_option maxRecDepth 100000 in
set_option maxHeartbeats 400000 in
theorem tcheck_c (ts : List StretchV) (tsA : Option Addr) (tsC : Nat) (hlen : ts.length ≤ 1000000) (hside : ∀ x ∈ ts, 0 ≤ x.Side ∧ x.Side ≤ 255) :
    FnV Try.prog 54 [(Value.agg (TrackV.cells (TrackV.mk (Slc.mk tsA ts.length tsC))).toArray)] [(rd tsA ts.length 9 (ts.map StretchV.cells))] (Value.int .i64 (if trackOk ts = true then 0 else 10)) := by
 refine fnV_of go54 Try.func54 rfl rfl fun w0 Q hQ hN => ?_
 change WJ _ _ _ _ [(0, (Value.agg (TrackV.cells (TrackV.mk (Slc.mk tsA ts.length tsC))).toArray))] [(rd tsA ts.length 9 (ts.map StretchV.cells)).ro]
 refine WS fun _ hK1 => ?_
 refine BXA rfl fun b2 => ?_
 refine rS (AG rfl) ?_
 refine RK hK1 ?_
 refine w_scope rfl ?_
 refine w_seq fun _ hK3 => ?_
 refine WS fun _ hK4 => ?_
 refine rS (FA 0 rfl fo24_0 rfl) ?_
 refine rS (L1 (Value.slice tsA ts.length tsC) 0 rfl tk22 rfl rfl) ?_
 refine rS (LN rfl ut22) ?_
 refine r_bs (xs := [.tmp 11]) (cs := [(Value.int .i64 ((ts.length : Nat) : Int))]) rfl te57 tz3 rfl rfl rfl rfl (by simp [Value.cells]) rfl rfl fun b5 => ?_
 refine rS (CL (FnV.eq (in_track 1 12 ([((ts.length : Nat) : Int)]) (some ⟨b5, 0, none⟩) 1 (by first | assumption | omega | (simp; done) | (simp; omega))) inAll_one) (ha_cons (has_rd_blk 0 rfl rfl (by simp [iC_length]) rfl) <| ha_nil) rfl) ?_
 refine rS (NT rfl) ?_
 refine RK hK4 ?_
 refine w_if rfl (fun h6 => ?_) (fun h6 => ?_)
 · replace h6 := XT h6
   refine WS fun _ hK7 => ?_
   refine rS (AG rfl) ?_
   refine RK hK7 ?_
   refine w_ret ?_
   refine Q1 hQ rfl rfl rfl ?_
   first | exact congrArg (Value.int .i64) (if_neg (by rw [trackOk_len (by omega)]; decide)).symm | exact congrArg (Value.int .i64) (if_neg (by rw [trackOk_no hl0_1 hx (by simp only [StretchOk, SpanOk]; omega)]; decide)).symm | exact congrArg (Value.int .i64) (if_pos (trackOk_yes hl0_1 (by omega) (by omega))).symm
 replace h6 := XF h6
 refine WK hK3 ?_
 refine WS fun _ hK8 => ?_
 refine rS (AG rfl) ?_
 refine RK hK8 ?_
 refine WS fun _ hK9 => ?_
 refine rS (AG rfl) ?_
 refine RK hK9 ?_
 refine w_seq fun _ hK10 => ?_
 refine w_label ?_
 refine KK hK10 ?_
 refine w_seq fun _ hK11 => ?_
 refine WS fun _ hK12 => ?_
 refine rS (FA 0 rfl fo24_0 rfl) ?_
 refine rS (L1 (Value.slice tsA ts.length tsC) 1 rfl tk22 rfl rfl) ?_
 refine rS (LN rfl ut22) ?_
 refine rS (MV rfl) ?_
 refine RK hK12 ?_
 refine w_block ?_
 have hinit : (0 ≤ ts.length) ∧ (trackFrom (-1) ts = trackFrom (lastId ts 0) (ts.drop 0)) ∧ (-1 ≤ lastId ts 0) ∧ (lastId ts 0 ≤ 9999) := by (refine ⟨by omega, rfl, by simp [lastId], by simp [lastId]⟩)
 refine w_loop (ι := { z : Nat // (z ≤ ts.length) ∧ (trackFrom (-1) ts = trackFrom (lastId ts z) (ts.drop z)) ∧ (-1 ≤ lastId ts z) ∧ (lastId ts z ≤ 9999) }) (fun z => [(1, (Value.pointer (some ⟨b2, 0, none⟩))), (3, (Value.int .i64 (lastId ts z.1))), (4, (Value.int .i64 0)), (16, (Value.slice tsA ts.length tsC)), (17, (Value.int .i64 ((ts.length : Nat) : Int))), (18, (Value.int .i64 (z.1 : Int)))]) (fun z => [(blk b2 24 (TrackV.cells (TrackV.mk (Slc.mk tsA ts.length tsC)))), (rd tsA ts.length 9 (ts.map StretchV.cells)).ro]) (fun z => ts.length - z.1) ⟨0, hinit⟩ (Sub.cons rfl <| Sub.cons rfl <| Sub.cons rfl <| Sub.cons rfl <| Sub.cons rfl <| Sub.cons rfl <| Sub.nil _) (fun w hs => St.sel [1, 2] rfl rfl hs) ?_
 clear hinit
 rintro ⟨i, ⟨hl0_0, hl0_1, hl0_2, hl0_3⟩⟩ J13 hJ13
 change WJ _ _ _ _ [(1, (Value.pointer (some ⟨b2, 0, none⟩))), (3, (Value.int .i64 (lastId ts i))), (4, (Value.int .i64 0)), (16, (Value.slice tsA ts.length tsC)), (17, (Value.int .i64 ((ts.length : Nat) : Int))), (18, (Value.int .i64 (i : Int)))] [(blk b2 24 (TrackV.cells (TrackV.mk (Slc.mk tsA ts.length tsC)))), (rd tsA ts.length 9 (ts.map StretchV.cells)).ro]
 refine WS fun _ hK14 => ?_
 refine rS (BI rfl b_lss) ?_
 refine RK hK14 ?_
 refine w_seq fun _ hK15 => ?_
 refine w_if rfl (fun h16 => ?_) (fun h16 => ?_)
 rotate_left 1
 · replace h16 := DF h16
   refine w_exit ?_
   refine k_exit_then ?_
   refine k_exit_then ?_
   refine k_exit_same ?_
   refine KK hK11 ?_
   refine WS fun _ hK51 => ?_
   refine rS (MV rfl) ?_
   refine rS (AG rfl) ?_
   refine RK hK51 ?_
   refine w_ret ?_
   refine Q1 hQ rfl rfl rfl ?_
   first | exact congrArg (Value.int .i64) (if_neg (by rw [trackOk_len (by omega)]; decide)).symm | exact congrArg (Value.int .i64) (if_neg (by rw [trackOk_no hl0_1 hx (by simp only [StretchOk, SpanOk]; omega)]; decide)).symm | exact congrArg (Value.int .i64) (if_pos (trackOk_yes hl0_1 (by omega) (by omega))).symm
 replace h16 := DT h16
 refine WK hK15 ?_
 refine w_seq fun _ hK17 => ?_
 refine w_block ?_
 refine WS fun _ hK18 => ?_
 obtain ⟨x, hx⟩ : ∃ y_, ts[i]? = some y_ := ⟨ts[i]'(by omega), List.getElem?_eq_getElem _⟩
 have hxm : (ts.map StretchV.cells)[i]? = some (StretchV.cells x) := by rw [List.getElem?_map, hx]; rfl
 refine rS (IA i rfl (has_at 1 rfl) te22 (by decide) (by omega) (by omega)) ?_
 have hsd := hside x (List.mem_of_getElem? hx)
 refine rS (LEN i 0 (StretchV.cells x) rfl tk126 (has_at 1 rfl) hxm rfl (by decide) rfl rfl) ?_
 refine AL rfl tz126 fun b19 => ?_
 refine SW0 rfl ts126 rfl ?_
 refine RK hK18 ?_
 refine w_join (ι := Unit) (fun z => [(1, (Value.pointer (some ⟨b2, 0, none⟩))), (3, (Value.int .i64 (lastId ts i))), (4, (Value.int .i64 0)), (6, (Value.pointer (some ⟨b19, 0, none⟩))), (7, (Value.bool (decide (x.Side = 0 ∧ x.Radius.Lo = 0 ∧ x.Radius.Hi = 0)))), (16, (Value.slice tsA ts.length tsC)), (17, (Value.int .i64 ((ts.length : Nat) : Int))), (18, (Value.int .i64 (i : Int)))]) (fun z => [(blk b19 126 (StretchV.cells x)), (blk b2 24 (TrackV.cells (TrackV.mk (Slc.mk tsA ts.length tsC)))), (rd tsA ts.length 9 (ts.map StretchV.cells)).ro]) ?_ fun K20 hK20 => ?_
 · intro _
   change WJ _ _ _ _ [(1, (Value.pointer (some ⟨b2, 0, none⟩))), (3, (Value.int .i64 (lastId ts i))), (4, (Value.int .i64 0)), (6, (Value.pointer (some ⟨b19, 0, none⟩))), (7, (Value.bool (decide (x.Side = 0 ∧ x.Radius.Lo = 0 ∧ x.Radius.Hi = 0)))), (16, (Value.slice tsA ts.length tsC)), (17, (Value.int .i64 ((ts.length : Nat) : Int))), (18, (Value.int .i64 (i : Int)))] [(blk b19 126 (StretchV.cells x)), (blk b2 24 (TrackV.cells (TrackV.mk (Slc.mk tsA ts.length tsC)))), (rd tsA ts.length 9 (ts.map StretchV.cells)).ro]
   refine w_join (ι := Unit) (fun z => [(1, (Value.pointer (some ⟨b2, 0, none⟩))), (3, (Value.int .i64 (lastId ts i))), (4, (Value.int .i64 0)), (6, (Value.pointer (some ⟨b19, 0, none⟩))), (7, (Value.bool (decide (x.Side = 0 ∧ x.Radius.Lo = 0 ∧ x.Radius.Hi = 0)))), (8, (Value.bool (decide ((1 ≤ x.Side ∧ x.Side ≤ 2) ∧ x.Radius.Lo ≤ x.Radius.Hi ∧ 500 ≤ x.Radius.Lo ∧ x.Radius.Hi ≤ 20000)))), (16, (Value.slice tsA ts.length tsC)), (17, (Value.int .i64 ((ts.length : Nat) : Int))), (18, (Value.int .i64 (i : Int)))]) (fun z => [(blk b19 126 (StretchV.cells x)), (blk b2 24 (TrackV.cells (TrackV.mk (Slc.mk tsA ts.length tsC)))), (rd tsA ts.length 9 (ts.map StretchV.cells)).ro]) ?_ fun K21 hK21 => ?_
   · intro _
     change WJ _ _ _ _ [(1, (Value.pointer (some ⟨b2, 0, none⟩))), (3, (Value.int .i64 (lastId ts i))), (4, (Value.int .i64 0)), (6, (Value.pointer (some ⟨b19, 0, none⟩))), (7, (Value.bool (decide (x.Side = 0 ∧ x.Radius.Lo = 0 ∧ x.Radius.Hi = 0)))), (8, (Value.bool (decide ((1 ≤ x.Side ∧ x.Side ≤ 2) ∧ x.Radius.Lo ≤ x.Radius.Hi ∧ 500 ≤ x.Radius.Lo ∧ x.Radius.Hi ≤ 20000)))), (16, (Value.slice tsA ts.length tsC)), (17, (Value.int .i64 ((ts.length : Nat) : Int))), (18, (Value.int .i64 (i : Int)))] [(blk b19 126 (StretchV.cells x)), (blk b2 24 (TrackV.cells (TrackV.mk (Slc.mk tsA ts.length tsC)))), (rd tsA ts.length 9 (ts.map StretchV.cells)).ro]
     refine w_seq fun _ hK22 => ?_
     refine WS fun _ hK23 => ?_
     refine rS (MV rfl) ?_
     refine rS (BI rfl (b_add ⟨by omega, by omega⟩)) ?_
     refine rS (FA 0 rfl fo126_0 rfl) ?_
     refine rS (L1 (Value.int .i64 x.Id) 0 rfl tk3 rfl rfl) ?_
     refine r_bs (xs := [.tmp 44]) (cs := [(Value.int .i64 x.Id)]) rfl te57 tz3 rfl rfl rfl rfl (by simp [Value.cells]) rfl rfl fun b24 => ?_
     refine rS (CL (FnV.eq (in_track ((lastId ts i) + 1) 9999 ([x.Id]) (some ⟨b24, 0, none⟩) 1 (by first | assumption | omega | (simp; done) | (simp; omega))) inAll_one) (ha_cons (has_rd_blk 0 rfl rfl (by simp [iC_length]) rfl) <| ha_nil) rfl) ?_
     refine rS (NT rfl) ?_
     refine rS (MV rfl) ?_
     refine r_bool (t := 48) rfl (fun h25 => ?_) (fun h25 => ?_)
     · replace h25 := XT h25
       refine rS (OX rfl) ?_
       refine rS (OX rfl) ?_
       refine rS (OX rfl) ?_
       refine rS (OX rfl) ?_
       refine rS (PK rfl) ?_
       refine rS (MV rfl) ?_
       refine rS (OX rfl) ?_
       refine rS (OX rfl) ?_
       refine rS (OX rfl) ?_
       refine rS (OX rfl) ?_
       refine rS (PK rfl) ?_
       refine rS (MV rfl) ?_
       refine rS (OX rfl) ?_
       refine rS (OX rfl) ?_
       refine rS (OX rfl) ?_
       refine rS (OX rfl) ?_
       refine rS (OX rfl) ?_
       refine rS (PK rfl) ?_
       refine rS (MV rfl) ?_
       refine rS (OX rfl) ?_
       refine rS (OX rfl) ?_
       refine rS (OX rfl) ?_
       refine rS (OX rfl) ?_
       refine rS (OX rfl) ?_
       refine rS (OX rfl) ?_
       refine rS (PK rfl) ?_
       refine RK hK23 ?_
       refine w_if_true rfl ?_
       refine WS fun _ hK26 => ?_
       refine rS (AG rfl) ?_
       refine RK hK26 ?_
       refine w_exit ?_
       refine k_exit_then ?_
       refine k_exit_other rfl ?_
       refine k_exit_then ?_
       refine k_exit_then ?_
       refine k_exit_same ?_
       refine KK hK11 ?_
       refine WS fun _ hK27 => ?_
       refine rS (MV rfl) ?_
       refine rS (AG rfl) ?_
       refine RK hK27 ?_
       refine w_ret ?_
       refine Q1 hQ rfl rfl rfl ?_
       first | exact congrArg (Value.int .i64) (if_neg (by rw [trackOk_len (by omega)]; decide)).symm | exact congrArg (Value.int .i64) (if_neg (by rw [trackOk_no hl0_1 hx (by simp only [StretchOk, SpanOk]; omega)]; decide)).symm | exact congrArg (Value.int .i64) (if_pos (trackOk_yes hl0_1 (by omega) (by omega))).symm
     replace h25 := XF h25
     refine rS (FA 1 rfl fo126_1 rfl) ?_
     refine rS (LP (SpanV.cells x.Long) 1 rfl tk34 rfl rfl rfl) ?_
     refine rS (CL (known_c x.Long 1 30000) (ha_nil) rfl) ?_
     refine rS (NT rfl) ?_
     refine rS (PK rfl) ?_
     refine rS (MV rfl) ?_
     refine r_bool (t := 54) rfl (fun h28 => ?_) (fun h28 => ?_)
     · replace h28 := XT h28
       refine rS (OX rfl) ?_
       refine rS (OX rfl) ?_
       refine rS (OX rfl) ?_
       refine rS (OX rfl) ?_
       refine rS (PK rfl) ?_
       refine rS (MV rfl) ?_
       refine rS (OX rfl) ?_
       refine rS (OX rfl) ?_
       refine rS (OX rfl) ?_
       refine rS (OX rfl) ?_
       refine rS (OX rfl) ?_
       refine rS (PK rfl) ?_
       refine rS (MV rfl) ?_
       refine rS (OX rfl) ?_
       refine rS (OX rfl) ?_
       refine rS (OX rfl) ?_
       refine rS (OX rfl) ?_
       refine rS (OX rfl) ?_
       refine rS (OX rfl) ?_
       refine rS (PK rfl) ?_
       refine RK hK23 ?_
       refine w_if_true rfl ?_
       refine WS fun _ hK29 => ?_
       refine rS (AG rfl) ?_
       refine RK hK29 ?_
       refine w_exit ?_
       refine k_exit_then ?_
       refine k_exit_other rfl ?_
       refine k_exit_then ?_
       refine k_exit_then ?_
       refine k_exit_same ?_
       refine KK hK11 ?_
       refine WS fun _ hK30 => ?_
       refine rS (MV rfl) ?_
       refine rS (AG rfl) ?_
       refine RK hK30 ?_
       refine w_ret ?_
       refine Q1 hQ rfl rfl rfl ?_
       first | exact congrArg (Value.int .i64) (if_neg (by rw [trackOk_len (by omega)]; decide)).symm | exact congrArg (Value.int .i64) (if_neg (by rw [trackOk_no hl0_1 hx (by simp only [StretchOk, SpanOk]; omega)]; decide)).symm | exact congrArg (Value.int .i64) (if_pos (trackOk_yes hl0_1 (by omega) (by omega))).symm
     replace h28 := XF h28
     refine rS (FA 3 rfl fo126_2 rfl) ?_
     refine rS (LP (SpanV.cells x.Fall) 1 rfl tk34 rfl rfl rfl) ?_
     refine rS (CL (known_c x.Fall 0 5000) (ha_nil) rfl) ?_
     refine rS (NT rfl) ?_
     refine rS (PK rfl) ?_
     refine rS (MV rfl) ?_
     refine r_bool (t := 60) rfl (fun h31 => ?_) (fun h31 => ?_)
     · replace h31 := XT h31
       refine rS (OX rfl) ?_
       refine rS (OX rfl) ?_
       refine rS (OX rfl) ?_
       refine rS (OX rfl) ?_
       refine rS (OX rfl) ?_
       refine rS (PK rfl) ?_
       refine rS (MV rfl) ?_
       refine rS (OX rfl) ?_
       refine rS (OX rfl) ?_
       refine rS (OX rfl) ?_
       refine rS (OX rfl) ?_
       refine rS (OX rfl) ?_
       refine rS (OX rfl) ?_
       refine rS (PK rfl) ?_
       refine RK hK23 ?_
       refine w_if_true rfl ?_
       refine WS fun _ hK32 => ?_
       refine rS (AG rfl) ?_
       refine RK hK32 ?_
       refine w_exit ?_
       refine k_exit_then ?_
       refine k_exit_other rfl ?_
       refine k_exit_then ?_
       refine k_exit_then ?_
       refine k_exit_same ?_
       refine KK hK11 ?_
       refine WS fun _ hK33 => ?_
       refine rS (MV rfl) ?_
       refine rS (AG rfl) ?_
       refine RK hK33 ?_
       refine w_ret ?_
       refine Q1 hQ rfl rfl rfl ?_
       first | exact congrArg (Value.int .i64) (if_neg (by rw [trackOk_len (by omega)]; decide)).symm | exact congrArg (Value.int .i64) (if_neg (by rw [trackOk_no hl0_1 hx (by simp only [StretchOk, SpanOk]; omega)]; decide)).symm | exact congrArg (Value.int .i64) (if_pos (trackOk_yes hl0_1 (by omega) (by omega))).symm
     replace h31 := XF h31
     refine rS (FA 8 rfl fo126_5 rfl) ?_
     refine rS (L1 (Value.int .i64 x.Wall) 1 rfl tk3 rfl rfl) ?_
     refine r_bs (xs := [.tmp 62]) (cs := [(Value.int .i64 x.Wall)]) rfl te57 tz3 rfl rfl rfl rfl (by simp [Value.cells]) rfl rfl fun b34 => ?_
     refine rS (CL (FnV.eq (in_track 0 5000 ([x.Wall]) (some ⟨b34, 0, none⟩) 1 (by first | assumption | omega | (simp; done) | (simp; omega))) inAll_one) (ha_cons (has_rd_blk 0 rfl rfl (by simp [iC_length]) rfl) <| ha_nil) rfl) ?_
     refine rS (NT rfl) ?_
     refine rS (PK rfl) ?_
     refine rS (MV rfl) ?_
     refine r_bool (t := 67) rfl (fun h35 => ?_) (fun h35 => ?_)
     · replace h35 := XT h35
       refine rS (OX rfl) ?_
       refine rS (OX rfl) ?_
       refine rS (OX rfl) ?_
       refine rS (OX rfl) ?_
       refine rS (OX rfl) ?_
       refine rS (OX rfl) ?_
       refine rS (PK rfl) ?_
       refine RK hK23 ?_
       refine w_if_true rfl ?_
       refine WS fun _ hK36 => ?_
       refine rS (AG rfl) ?_
       refine RK hK36 ?_
       refine w_exit ?_
       refine k_exit_then ?_
       refine k_exit_other rfl ?_
       refine k_exit_then ?_
       refine k_exit_then ?_
       refine k_exit_same ?_
       refine KK hK11 ?_
       refine WS fun _ hK37 => ?_
       refine rS (MV rfl) ?_
       refine rS (AG rfl) ?_
       refine RK hK37 ?_
       refine w_ret ?_
       refine Q1 hQ rfl rfl rfl ?_
       first | exact congrArg (Value.int .i64) (if_neg (by rw [trackOk_len (by omega)]; decide)).symm | exact congrArg (Value.int .i64) (if_neg (by rw [trackOk_no hl0_1 hx (by simp only [StretchOk, SpanOk]; omega)]; decide)).symm | exact congrArg (Value.int .i64) (if_pos (trackOk_yes hl0_1 (by omega) (by omega))).symm
     replace h35 := XF h35
     refine rS (MV rfl) ?_
     refine rS (NT rfl) ?_
     refine rS (MV rfl) ?_
     refine r_bool (t := 70) rfl (fun h38 => ?_) (fun h38 => ?_)
     rotate_left 1
     · replace h38 := XF h38
       refine rS (OX rfl) ?_
       refine rS (OX rfl) ?_
       refine rS (PK rfl) ?_
       refine rS (PK rfl) ?_
       refine RK hK23 ?_
       refine w_if_false rfl ?_
       refine WK hK22 ?_
       refine w_region ?_
       refine rS (FA 0 rfl fo126_0 rfl) ?_
       refine rS (L1 (Value.int .i64 x.Id) 2 rfl tk3 rfl rfl) ?_
       refine rS (AG rfl) ?_
       refine r_nil ?_
       refine k_block ?_
       refine KK hK17 ?_
       refine w_region ?_
       refine rS (BI rfl (b_add ⟨by omega, by omega⟩)) ?_
       refine rS (MV rfl) ?_
       refine r_nil ?_
       have hb43 : (Value.int .i64 (lastId ts (i + 1))) = (Value.int .i64 x.Id) := by rw [lastId_succ hx]
       refine k_then (hJ13 ⟨(i + 1), ⟨by omega, trackFrom_next hl0_1 hx (by simp only [StretchOk, SpanOk]; omega), by rw [lastId_succ hx]; omega, by rw [lastId_succ hx]; omega⟩⟩ _ _ _ rfl (by first | omega | (simp; omega)) (Sub.cons rfl <| sub_val rfl hb43 <| Sub.cons rfl <| Sub.cons rfl <| Sub.cons rfl <| Sub.cons rfl <| Sub.nil _) (fun w hs => St.sel [3, 4] rfl rfl hs))
     replace h38 := XT h38
     refine rS (MV rfl) ?_
     refine rS (NT rfl) ?_
     refine rS (PK rfl) ?_
     refine rS (PK rfl) ?_
     refine RK hK23 ?_
     refine w_if rfl (fun h39 => ?_) (fun h39 => ?_)
     · replace h39 := XT h39
       refine WS fun _ hK40 => ?_
       refine rS (AG rfl) ?_
       refine RK hK40 ?_
       refine w_exit ?_
       refine k_exit_then ?_
       refine k_exit_other rfl ?_
       refine k_exit_then ?_
       refine k_exit_then ?_
       refine k_exit_same ?_
       refine KK hK11 ?_
       refine WS fun _ hK41 => ?_
       refine rS (MV rfl) ?_
       refine rS (AG rfl) ?_
       refine RK hK41 ?_
       refine w_ret ?_
       refine Q1 hQ rfl rfl rfl ?_
       first | exact congrArg (Value.int .i64) (if_neg (by rw [trackOk_len (by omega)]; decide)).symm | exact congrArg (Value.int .i64) (if_neg (by rw [trackOk_no hl0_1 hx (by simp only [StretchOk, SpanOk]; omega)]; decide)).symm | exact congrArg (Value.int .i64) (if_pos (trackOk_yes hl0_1 (by omega) (by omega))).symm
     replace h39 := XF h39
     refine WK hK22 ?_
     refine w_region ?_
     refine rS (FA 0 rfl fo126_0 rfl) ?_
     refine rS (L1 (Value.int .i64 x.Id) 2 rfl tk3 rfl rfl) ?_
     refine rS (AG rfl) ?_
     refine r_nil ?_
     refine k_block ?_
     refine KK hK17 ?_
     refine w_region ?_
     refine rS (BI rfl (b_add ⟨by omega, by omega⟩)) ?_
     refine rS (MV rfl) ?_
     refine r_nil ?_
     have hb42 : (Value.int .i64 (lastId ts (i + 1))) = (Value.int .i64 x.Id) := by rw [lastId_succ hx]
     refine k_then (hJ13 ⟨(i + 1), ⟨by omega, trackFrom_next hl0_1 hx (by simp only [StretchOk, SpanOk]; omega), by rw [lastId_succ hx]; omega, by rw [lastId_succ hx]; omega⟩⟩ _ _ _ rfl (by first | omega | (simp; omega)) (Sub.cons rfl <| sub_val rfl hb42 <| Sub.cons rfl <| Sub.cons rfl <| Sub.cons rfl <| Sub.cons rfl <| Sub.nil _) (fun w hs => St.sel [3, 4] rfl rfl hs))
   refine w_region ?_
   refine rS (FA 7 rfl fo126_4 rfl) ?_
   refine rS (L1 (Value.int .u8 x.Side) 0 rfl tk5 rfl rfl) ?_
   refine rS (SX (sd_conv (m := x.Side) rfl rfl ut5 ut3 (wrap_u8_i64 (by first | assumption | omega))) rfl rfl) ?_
   refine r_bs (xs := [.tmp 33]) (cs := [(Value.int .i64 x.Side)]) rfl te57 tz3 rfl rfl rfl rfl (by simp [Value.cells]) rfl rfl fun b44 => ?_
   refine rS (CL (FnV.eq (in_track 1 2 ([x.Side]) (some ⟨b44, 0, none⟩) 1 (by first | assumption | omega | (simp; done) | (simp; omega))) inAll_one) (ha_cons (has_rd_blk 0 rfl rfl (by simp [iC_length]) rfl) <| ha_nil) rfl) ?_
   refine rS (MV rfl) ?_
   refine r_bool (t := 36) rfl (fun h45 => ?_) (fun h45 => ?_)
   rotate_left 1
   · replace h45 := DF h45
     refine rS (OX rfl) ?_
     refine rS (OX rfl) ?_
     refine rS (OX rfl) ?_
     refine rS (PK rfl) ?_
     refine rS (AG rfl) ?_
     refine r_nil ?_
     have hb47 : (decide ((1 ≤ x.Side ∧ x.Side ≤ 2) ∧ x.Radius.Lo ≤ x.Radius.Hi ∧ 500 ≤ x.Radius.Lo ∧ x.Radius.Hi ≤ 20000)) = false := decide_eq_false (by first | omega | (simp only [SpanV.ext_iff] at *; omega))
     refine k_then (k_sub (Sub.cons rfl <| Sub.cons rfl <| Sub.cons rfl <| Sub.cons rfl <| Sub.cons rfl <| sub_bool rfl hb47 <| Sub.cons rfl <| Sub.cons rfl <| Sub.cons rfl <| Sub.nil _) (fun w hs => St.sel [1, 2, 3] rfl rfl hs) (hK21 ()))
   replace h45 := DT h45
   refine rS (FA 5 rfl fo126_3 rfl) ?_
   refine rS (LP (SpanV.cells x.Radius) 1 rfl tk34 rfl rfl rfl) ?_
   refine rS (CL (known_c x.Radius 500 20000) (ha_nil) rfl) ?_
   refine rS (PK rfl) ?_
   refine rS (AG rfl) ?_
   refine r_nil ?_
   have hb46 : (decide ((1 ≤ x.Side ∧ x.Side ≤ 2) ∧ x.Radius.Lo ≤ x.Radius.Hi ∧ 500 ≤ x.Radius.Lo ∧ x.Radius.Hi ≤ 20000)) = (decide (x.Radius.Lo ≤ x.Radius.Hi ∧ 500 ≤ x.Radius.Lo ∧ x.Radius.Hi ≤ 20000)) := decide_eq_decide.2 (by first | omega | (simp only [SpanV.ext_iff] at *; omega))
   refine k_then (k_sub (Sub.cons rfl <| Sub.cons rfl <| Sub.cons rfl <| Sub.cons rfl <| Sub.cons rfl <| sub_bool rfl hb46 <| Sub.cons rfl <| Sub.cons rfl <| Sub.cons rfl <| Sub.nil _) (fun w hs => St.sel [1, 2, 3] rfl rfl hs) (hK21 ()))
 refine w_region ?_
 refine rS (FA 7 rfl fo126_4 rfl) ?_
 refine rS (L1 (Value.int .u8 x.Side) 0 rfl tk5 rfl rfl) ?_
 refine rS (BI rfl b_eql) ?_
 refine rS (MV rfl) ?_
 refine r_bool (t := 25) rfl (fun h48 => ?_) (fun h48 => ?_)
 rotate_left 1
 · replace h48 := DF h48
   refine rS (OX rfl) ?_
   refine rS (OX rfl) ?_
   refine rS (OX rfl) ?_
   refine rS (OX rfl) ?_
   refine rS (PK rfl) ?_
   refine rS (AG rfl) ?_
   refine r_nil ?_
   have hb50 : (decide (x.Side = 0 ∧ x.Radius.Lo = 0 ∧ x.Radius.Hi = 0)) = false := decide_eq_false (by first | omega | (simp only [SpanV.ext_iff] at *; omega))
   refine k_then (k_sub (Sub.cons rfl <| Sub.cons rfl <| Sub.cons rfl <| Sub.cons rfl <| sub_bool rfl hb50 <| Sub.cons rfl <| Sub.cons rfl <| Sub.cons rfl <| Sub.nil _) (fun w hs => St.sel [0, 1, 2] rfl rfl hs) (hK20 ()))
 replace h48 := DT h48
 refine rS (FA 5 rfl fo126_3 rfl) ?_
 refine rS (LP (SpanV.cells x.Radius) 0 rfl tk34 rfl rfl rfl) ?_
 refine rS (SX (sd_build (xs := []) (cs := (SpanV.cells (SpanV.mk 0 0))) rfl rfl (built_of tb34 rfl)) rfl rfl) ?_
 refine rS (BI rfl (eqs34 _ _ x.Radius (SpanV.mk 0 0))) ?_
 refine rS (PK rfl) ?_
 refine rS (AG rfl) ?_
 refine r_nil ?_
 have hb49 : (decide (x.Side = 0 ∧ x.Radius.Lo = 0 ∧ x.Radius.Hi = 0)) = (decide (x.Radius = (SpanV.mk 0 0))) := decide_eq_decide.2 (by first | omega | (simp only [SpanV.ext_iff] at *; omega))
 refine k_then (k_sub (Sub.cons rfl <| Sub.cons rfl <| Sub.cons rfl <| Sub.cons rfl <| sub_bool rfl hb49 <| Sub.cons rfl <| Sub.cons rfl <| Sub.cons rfl <| Sub.nil _) (fun w hs => St.sel [0, 1, 2] rfl rfl hs) (hK20 ()))

set_option maxRecDepth 100000 in
set_option maxHeartbeats 400000 in
theorem twin_c (ts : List StretchV) (tsA : Option Addr) (tsC : Nat) (hlen : ts.length ≤ 1000000) :
    FnX Try.prog 44 [(Value.agg (TrackV.cells (TrackV.mk (Slc.mk tsA ts.length tsC))).toArray)] [(rd tsA ts.length 9 (ts.map StretchV.cells))] (fun (x : (Option Addr) × Nat) => (Value.agg (TrackV.cells (TrackV.mk (Slc.mk x.1 ts.length x.2))).toArray)) (fun (x : (Option Addr) × Nat) => True) (fun (x : (Option Addr) × Nat) => [(own x.1 x.2 126 9 (ts.map StretchV.cells))]) := by
 refine fnX_of go44 Try.func44 rfl rfl fun w0 Q hQ hN => ?_
 change WJ _ _ _ _ [(0, (Value.agg (TrackV.cells (TrackV.mk (Slc.mk tsA ts.length tsC))).toArray))] [(rd tsA ts.length 9 (ts.map StretchV.cells)).ro]
 refine WS fun _ hK1 => ?_
 refine BXA rfl fun b2 => ?_
 refine AL rfl tz24 fun b3 => ?_
 refine RK hK1 ?_
 refine WS fun _ hK4 => ?_
 refine r_bs0 rfl te22 rfl fun b5 => ?_
 refine rS (FA 0 rfl fo24_0 rfl) ?_
 refine rS (L1 (Value.slice tsA ts.length tsC) 2 rfl tk22 rfl rfl) ?_
 refine r_blk_own (es := (List.map StretchV.cells [])) (C' := [own (some ⟨b5, 0, none⟩) 0 126 9 (List.map StretchV.cells []), _, _, _]) 0 rfl (by simp) rfl (by simp [maxLen]) rfl ?_
 refine r_append (es2 := (List.map StretchV.cells ts)) (m' := ts.length) 0 rfl rfl rfl ta22 rfl rfl (by simp) (has_at 3 rfl) (one_StretchV_cells _) (by first | omega | (simp; omega)) (by first | (simp only [maxLen]; omega) | (simp [maxLen]; omega)) (by simp) (by simp) rfl fun a6 c7 => ?_
 change RJ _ _ _ _ _ _ [(own a6 c7 126 9 (List.map StretchV.cells ts)), _, _, _]
 refine rS (SX (sd_build (xs := [(0, .tmp 6)]) (cs := (TrackV.cells (TrackV.mk (Slc.mk a6 ts.length c7)))) rfl rfl (built_of tb24 rfl)) rfl rfl) ?_
 refine SW1 rfl ts24 rfl ?_
 refine RK hK4 ?_
 refine w_ret ?_
 refine hQ _ _ _ (l_nil (vs := [(Value.agg (TrackV.cells (TrackV.mk (Slc.mk a6 ts.length c7))).toArray)]) ⟨⟨_, rfl, .inl ⟨_, _, tk24, at_blk (vs := (TrackV.cells (TrackV.mk (Slc.mk a6 ts.length c7)))) 1 rfl rfl, rfl, rfl⟩⟩, trivial⟩ fun w hs => endX (a6, c7) [0] ?_ ?_ rfl rfl rfl hs)
 · rfl
 · trivial

set_option maxRecDepth 100000 in
set_option maxHeartbeats 400000 in
theorem same_c (la : List StretchV) (laA : Option Addr) (laC : Nat) (lb : List StretchV) (lbA : Option Addr) (lbC : Nat) (h1 : la.length ≤ 1000000) (h2 : lb.length ≤ 1000000) :
    FnV Try.prog 58 [(Value.agg (TrackV.cells (TrackV.mk (Slc.mk laA la.length laC))).toArray), (Value.agg (TrackV.cells (TrackV.mk (Slc.mk lbA lb.length lbC))).toArray)] [(rd laA la.length 9 (la.map StretchV.cells)), (rd lbA lb.length 9 (lb.map StretchV.cells))] (Value.bool (decide (la = lb))) := by
 refine fnV_of go58 Try.func58 rfl rfl fun w0 Q hQ hN => ?_
 change WJ _ _ _ _ [(0, (Value.agg (TrackV.cells (TrackV.mk (Slc.mk laA la.length laC))).toArray)), (1, (Value.agg (TrackV.cells (TrackV.mk (Slc.mk lbA lb.length lbC))).toArray))] [(rd laA la.length 9 (la.map StretchV.cells)).ro, (rd lbA lb.length 9 (lb.map StretchV.cells)).ro]
 refine WS fun _ hK1 => ?_
 refine BXA rfl fun b2 => ?_
 refine BXA rfl fun b3 => ?_
 refine rS (AG rfl) ?_
 refine RK hK1 ?_
 refine w_seq fun _ hK4 => ?_
 refine WS fun _ hK5 => ?_
 refine rS (FA 0 rfl fo24_0 rfl) ?_
 refine rS (L1 (Value.slice laA la.length laC) 1 rfl tk22 rfl rfl) ?_
 refine rS (LN rfl ut22) ?_
 refine rS (FA 0 rfl fo24_0 rfl) ?_
 refine rS (L1 (Value.slice lbA lb.length lbC) 0 rfl tk22 rfl rfl) ?_
 refine rS (LN rfl ut22) ?_
 refine rS (BI rfl b_neq) ?_
 refine RK hK5 ?_
 refine w_if rfl (fun hl => ?_) (fun hl => ?_)
 · replace hl := XT hl
   refine WS fun _ hK6 => ?_
   refine rS (AG rfl) ?_
   refine RK hK6 ?_
   refine w_ret ?_
   refine Q1 hQ rfl rfl rfl ?_
   first | exact congrArg Value.bool (decide_eq_false (lists_ne hx hy h)).symm | exact congrArg Value.bool (decide_eq_true (lists_eq (by omega) hl0_1 (by omega))).symm | exact congrArg Value.bool (decide_eq_false (fun e => by subst e; omega)).symm
 replace hl := XF hl
 refine WK hK4 ?_
 refine w_seq fun _ hK7 => ?_
 refine WS fun _ hK8 => ?_
 refine rS (AG rfl) ?_
 refine RK hK8 ?_
 refine w_block ?_
 have hinit : (0 ≤ la.length) ∧ (la.take 0 = lb.take 0) := by simp
 refine w_loop (ι := { z : Nat // (z ≤ la.length) ∧ (la.take z = lb.take z) }) (fun z => [(2, (Value.pointer (some ⟨b2, 0, none⟩))), (3, (Value.pointer (some ⟨b3, 0, none⟩))), (5, (Value.int .i64 ((z.1 : Nat) : Int)))]) (fun z => [(blk b3 24 (TrackV.cells (TrackV.mk (Slc.mk lbA lb.length lbC)))), (blk b2 24 (TrackV.cells (TrackV.mk (Slc.mk laA la.length laC)))), (rd laA la.length 9 (la.map StretchV.cells)).ro, (rd lbA lb.length 9 (lb.map StretchV.cells)).ro]) (fun z => la.length - z.1) ⟨0, hinit⟩ (Sub.cons rfl <| Sub.cons rfl <| Sub.cons rfl <| Sub.nil _) (fun w hs => St.sel [0, 1, 2, 3] rfl rfl hs) ?_
 clear hinit
 rintro ⟨i, ⟨hl0_0, hl0_1⟩⟩ J9 hJ9
 change WJ _ _ _ _ [(2, (Value.pointer (some ⟨b2, 0, none⟩))), (3, (Value.pointer (some ⟨b3, 0, none⟩))), (5, (Value.int .i64 ((i : Nat) : Int)))] [(blk b3 24 (TrackV.cells (TrackV.mk (Slc.mk lbA lb.length lbC)))), (blk b2 24 (TrackV.cells (TrackV.mk (Slc.mk laA la.length laC)))), (rd laA la.length 9 (la.map StretchV.cells)).ro, (rd lbA lb.length 9 (lb.map StretchV.cells)).ro]
 refine w_seq fun _ hK10 => ?_
 refine WS fun _ hK11 => ?_
 refine rS (MV rfl) ?_
 refine rS (FA 0 rfl fo24_0 rfl) ?_
 refine rS (L1 (Value.slice laA la.length laC) 1 rfl tk22 rfl rfl) ?_
 refine rS (LN rfl ut22) ?_
 refine rS (BI rfl b_lss) ?_
 refine RK hK11 ?_
 refine w_if rfl (fun h12 => ?_) (fun h12 => ?_)
 rotate_left 1
 · replace h12 := DF h12
   refine w_exit ?_
   refine k_exit_then ?_
   refine k_exit_then ?_
   refine k_exit_same ?_
   refine KK hK7 ?_
   refine WS fun _ hK17 => ?_
   refine rS (AG rfl) ?_
   refine RK hK17 ?_
   refine w_ret ?_
   refine Q1 hQ rfl rfl rfl ?_
   first | exact congrArg Value.bool (decide_eq_false (lists_ne hx hy h)).symm | exact congrArg Value.bool (decide_eq_true (lists_eq (by omega) hl0_1 (by omega))).symm | exact congrArg Value.bool (decide_eq_false (fun e => by subst e; omega)).symm
 replace h12 := DT h12
 refine WK hK10 ?_
 refine w_seq fun _ hK13 => ?_
 refine w_block ?_
 refine w_seq fun _ hK14 => ?_
 refine w_draw mixed 11 (by kernel_rfl) ?_
 refine dS (FA 0 rfl fo24_0 rfl) ?_
 refine dS (L1 (Value.slice laA la.length laC) 1 rfl tk22 rfl rfl) ?_
 refine dS (MV rfl) ?_
 obtain ⟨x, hx⟩ : ∃ y_, la[i]? = some y_ := ⟨la[i]'(by omega), List.getElem?_eq_getElem _⟩
 have hxm : (la.map StretchV.cells)[i]? = some (StretchV.cells x) := by rw [List.getElem?_map, hx]; rfl
 refine dS (IA i rfl (has_at 2 rfl) te22 (by decide) (by omega) (by omega)) ?_
 refine dS (LEN i 0 (StretchV.cells x) rfl tk126 (has_at 2 rfl) hxm rfl (by decide) rfl rfl) ?_
 refine dS (FA 0 rfl fo24_0 rfl) ?_
 refine dS (L1 (Value.slice lbA lb.length lbC) 0 rfl tk22 rfl rfl) ?_
 refine dS (MV rfl) ?_
 obtain ⟨y, hy⟩ : ∃ y_, lb[i]? = some y_ := ⟨lb[i]'(by omega), List.getElem?_eq_getElem _⟩
 have hym : (lb.map StretchV.cells)[i]? = some (StretchV.cells y) := by rw [List.getElem?_map, hy]; rfl
 refine dS (IA i rfl (has_at 3 rfl) te22 (by decide) (by omega) (by omega)) ?_
 refine dS (LEN i 0 (StretchV.cells y) rfl tk126 (has_at 3 rfl) hym rfl (by decide) rfl rfl) ?_
 refine dS (BI rfl (nes126 _ _ x y)) ?_
 refine d_end ?_
 refine RK hK14 ?_
 refine w_if rfl (fun h => ?_) (fun h => ?_)
 · replace h := XT h
   refine WS fun _ hK15 => ?_
   refine rS (AG rfl) ?_
   refine RK hK15 ?_
   refine w_ret ?_
   refine Q1 hQ rfl rfl rfl ?_
   first | exact congrArg Value.bool (decide_eq_false (lists_ne hx hy h)).symm | exact congrArg Value.bool (decide_eq_true (lists_eq (by omega) hl0_1 (by omega))).symm | exact congrArg Value.bool (decide_eq_false (fun e => by subst e; omega)).symm
 replace h := XF h
 refine w_skip ?_
 refine k_block ?_
 refine KK hK13 ?_
 refine w_region ?_
 refine rS (MV rfl) ?_
 refine rS (BI rfl (b_add ⟨by omega, by omega⟩)) ?_
 refine rS (AG rfl) ?_
 refine r_nil ?_
 have hb16 : (Value.int .i64 (((i + 1) : Nat) : Int)) = (Value.int .i64 (((i : Nat) : Int) + 1)) := by exact congrArg (Value.int .i64) (by omega)
 refine k_then (hJ9 ⟨(i + 1), ⟨by omega, take_same hl0_1 hx hy h⟩⟩ _ _ _ rfl (by first | omega | (simp; omega)) (Sub.cons rfl <| Sub.cons rfl <| sub_val rfl hb16 <| Sub.nil _) (fun w hs => St.sel [0, 1, 2, 3] rfl rfl hs))

set_option maxRecDepth 100000 in
set_option maxHeartbeats 400000 in
theorem sameints_c (la : List Int) (laA : Option Addr) (laC : Nat) (lb : List Int) (lbA : Option Addr) (lbC : Nat) (h1 : la.length ≤ 1000000) (h2 : lb.length ≤ 1000000) :
    FnV Try.prog 30 [(Value.slice laA la.length laC), (Value.slice lbA lb.length lbC)] [(rd laA la.length 1 (la.map iC)), (rd lbA lb.length 1 (lb.map iC))] (Value.bool (decide (la = lb))) := by
 refine fnV_of go30 Try.func30 rfl rfl fun w0 Q hQ hN => ?_
 change WJ _ _ _ _ [(0, (Value.slice laA la.length laC)), (1, (Value.slice lbA lb.length lbC))] [(rd laA la.length 1 (la.map iC)).ro, (rd lbA lb.length 1 (lb.map iC)).ro]
 refine WS fun _ hK1 => ?_
 refine rS (AG rfl) ?_
 refine RK hK1 ?_
 refine w_seq fun _ hK2 => ?_
 refine WS fun _ hK3 => ?_
 refine rS (MV rfl) ?_
 refine rS (LN rfl ut57) ?_
 refine rS (MV rfl) ?_
 refine rS (LN rfl ut57) ?_
 refine rS (BI rfl b_neq) ?_
 refine RK hK3 ?_
 refine w_if rfl (fun hl => ?_) (fun hl => ?_)
 · replace hl := XT hl
   refine WS fun _ hK4 => ?_
   refine rS (AG rfl) ?_
   refine RK hK4 ?_
   refine w_ret ?_
   refine Q1 hQ rfl rfl rfl ?_
   first | exact congrArg Value.bool (decide_eq_false (lists_ne hx hy h)).symm | exact congrArg Value.bool (decide_eq_true (lists_eq (by omega) hl0_1 (by omega))).symm | exact congrArg Value.bool (decide_eq_false (fun e => by subst e; omega)).symm
 replace hl := XF hl
 refine WK hK2 ?_
 refine w_seq fun _ hK5 => ?_
 refine WS fun _ hK6 => ?_
 refine rS (AG rfl) ?_
 refine RK hK6 ?_
 refine w_block ?_
 have hinit : (0 ≤ la.length) ∧ (la.take 0 = lb.take 0) := by simp
 refine w_loop (ι := { z : Nat // (z ≤ la.length) ∧ (la.take z = lb.take z) }) (fun z => [(0, (Value.slice laA la.length laC)), (1, (Value.slice lbA lb.length lbC)), (5, (Value.int .i64 ((z.1 : Nat) : Int)))]) (fun z => [(rd laA la.length 1 (la.map iC)).ro, (rd lbA lb.length 1 (lb.map iC)).ro]) (fun z => la.length - z.1) ⟨0, hinit⟩ (Sub.cons rfl <| Sub.cons rfl <| Sub.cons rfl <| Sub.nil _) (fun w hs => St.sel [0, 1] rfl rfl hs) ?_
 clear hinit
 rintro ⟨i, ⟨hl0_0, hl0_1⟩⟩ J7 hJ7
 change WJ _ _ _ _ [(0, (Value.slice laA la.length laC)), (1, (Value.slice lbA lb.length lbC)), (5, (Value.int .i64 ((i : Nat) : Int)))] [(rd laA la.length 1 (la.map iC)).ro, (rd lbA lb.length 1 (lb.map iC)).ro]
 refine w_seq fun _ hK8 => ?_
 refine WS fun _ hK9 => ?_
 refine rS (MV rfl) ?_
 refine rS (MV rfl) ?_
 refine rS (LN rfl ut57) ?_
 refine rS (BI rfl b_lss) ?_
 refine RK hK9 ?_
 refine w_if rfl (fun h10 => ?_) (fun h10 => ?_)
 rotate_left 1
 · replace h10 := DF h10
   refine w_exit ?_
   refine k_exit_then ?_
   refine k_exit_then ?_
   refine k_exit_same ?_
   refine KK hK5 ?_
   refine WS fun _ hK15 => ?_
   refine rS (AG rfl) ?_
   refine RK hK15 ?_
   refine w_ret ?_
   refine Q1 hQ rfl rfl rfl ?_
   first | exact congrArg Value.bool (decide_eq_false (lists_ne hx hy h)).symm | exact congrArg Value.bool (decide_eq_true (lists_eq (by omega) hl0_1 (by omega))).symm | exact congrArg Value.bool (decide_eq_false (fun e => by subst e; omega)).symm
 replace h10 := DT h10
 refine WK hK8 ?_
 refine w_seq fun _ hK11 => ?_
 refine w_block ?_
 refine w_seq fun _ hK12 => ?_
 refine w_draw mixed 9 (by kernel_rfl) ?_
 refine dS (MV rfl) ?_
 refine dS (MV rfl) ?_
 obtain ⟨x, hx⟩ : ∃ y_, la[i]? = some y_ := ⟨la[i]'(by omega), List.getElem?_eq_getElem _⟩
 have hxm : (la.map iC)[i]? = some (iC x) := by rw [List.getElem?_map, hx]; rfl
 refine dS (IA i rfl (has_at 0 rfl) te57 (by decide) (by omega) (by omega)) ?_
 refine dS (LE1 i 0 (Value.int .i64 x) rfl tk3 (has_at 0 rfl) hxm rfl (by decide) rfl) ?_
 refine dS (MV rfl) ?_
 refine dS (MV rfl) ?_
 obtain ⟨y, hy⟩ : ∃ y_, lb[i]? = some y_ := ⟨lb[i]'(by omega), List.getElem?_eq_getElem _⟩
 have hym : (lb.map iC)[i]? = some (iC y) := by rw [List.getElem?_map, hy]; rfl
 refine dS (IA i rfl (has_at 1 rfl) te57 (by decide) (by omega) (by omega)) ?_
 refine dS (LE1 i 0 (Value.int .i64 y) rfl tk3 (has_at 1 rfl) hym rfl (by decide) rfl) ?_
 refine dS (BI rfl b_neq) ?_
 refine d_end ?_
 refine RK hK12 ?_
 refine w_if rfl (fun h => ?_) (fun h => ?_)
 · replace h := XT h
   refine WS fun _ hK13 => ?_
   refine rS (AG rfl) ?_
   refine RK hK13 ?_
   refine w_ret ?_
   refine Q1 hQ rfl rfl rfl ?_
   first | exact congrArg Value.bool (decide_eq_false (lists_ne hx hy h)).symm | exact congrArg Value.bool (decide_eq_true (lists_eq (by omega) hl0_1 (by omega))).symm | exact congrArg Value.bool (decide_eq_false (fun e => by subst e; omega)).symm
 replace h := XF h
 refine w_skip ?_
 refine k_block ?_
 refine KK hK11 ?_
 refine w_region ?_
 refine rS (MV rfl) ?_
 refine rS (BI rfl (b_add ⟨by omega, by omega⟩)) ?_
 refine rS (AG rfl) ?_
 refine r_nil ?_
 have hb14 : (Value.int .i64 (((i + 1) : Nat) : Int)) = (Value.int .i64 (((i : Nat) : Int) + 1)) := by exact congrArg (Value.int .i64) (by omega)
 refine k_then (hJ7 ⟨(i + 1), ⟨by omega, take_same hl0_1 hx hy h⟩⟩ _ _ _ rfl (by first | omega | (simp; omega)) (Sub.cons rfl <| Sub.cons rfl <| sub_val rfl hb14 <| Sub.nil _) (fun w hs => St.sel [0, 1] rfl rfl hs))

end Go.Proofs.Ytaehngpnlkokkaa
