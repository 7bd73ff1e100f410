/-
  Walks: (kreisel/slide.rider).one, kreisel/kreiselref03.within, kreisel/kreiselref01.within, kreisel/kreiselref03.span, kreisel/kreiselref01.span, kreisel/kreiselref01.Great, kreisel/kreiselref03.Next, kreisel/track.in$1, slices.IndexFunc[[]int,int], slices.ContainsFunc[[]int,int], kreisel/track.in, kreisel/track.known, kreisel/kreiselref03.Sled, kreisel/kreiselref03.Check, kreisel/slide.within, kreisel/slide.Check, kreisel/kreiselref01.Track, kreisel/track.Check
-/
import Derived.Test.YtpbgdeojcefnmaaTab
import Derived.Test.YtpbgdeojcefnmaaShort
namespace Go.Proofs.Ytpbgdeojcefnmaa
open Go.RowKit
set_option linter.unusedVariables false

set_option maxRecDepth 100000 in
set_option maxHeartbeats 400000 in
theorem one_c (s : SledV) (best : Bool) (tsA : Option Addr) (tsN : Nat) (tsC : Nat) (z : SpanV) (f : Bool) :
    FnV Try.prog 95 [(Value.agg (RiderV.cells (RiderV.mk s (TrackV.mk (Slc.mk tsA tsN tsC)) best)).toArray), (Value.agg (SpanV.cells z).toArray), (Value.bool f)] [] (Value.int .i64 (oneF best f z)) := by
 refine fnV_of go95 Try.func95 rfl rfl fun w0 Q hQ hN => ?_
 change WJ _ _ _ _ [(0, (Value.agg (RiderV.cells (RiderV.mk s (TrackV.mk (Slc.mk tsA tsN tsC)) best)).toArray)), (1, (Value.agg (SpanV.cells z).toArray)), (2, (Value.bool f))] []
 refine WS fun _ hK1 => ?_
 refine BXA rfl fun b2 => ?_
 refine BXA rfl fun b3 => ?_
 refine rS (AG rfl) ?_
 refine RK hK1 ?_
 refine w_seq fun _ hK4 => ?_
 refine WS fun _ hK5 => ?_
 refine rS (FA 12 rfl fo108_2 rfl) ?_
 refine rS (L1 (Value.bool best) 1 rfl tk4 rfl rfl) ?_
 refine rS (MV rfl) ?_
 refine rS (BI rfl (b_eqlb ut4)) ?_
 refine RK hK5 ?_
 refine w_if rfl (fun h6 => ?_) (fun h6 => ?_)
 · replace h6 : best = f := by simpa using h6
   refine WS fun _ hK7 => ?_
   refine rS (FA 1 rfl fo26_1 rfl) ?_
   refine rS (L1 (Value.int .i64 z.Hi) 0 rfl tk3 rfl rfl) ?_
   refine rS (AG rfl) ?_
   refine RK hK7 ?_
   refine w_ret ?_
   refine Q1 hQ rfl rfl rfl ?_
   clear hQ hN hK7 hK5 hK4 hK1
   exact congrArg (Value.int .i64) (by unfold oneF; cases hb : best <;> cases f <;> simp_all)
 replace h6 : ¬ best = f := by simpa using h6
 refine WK hK4 ?_
 refine WS fun _ hK8 => ?_
 refine rS (FA 0 rfl fo26_0 rfl) ?_
 refine rS (L1 (Value.int .i64 z.Lo) 0 rfl tk3 rfl rfl) ?_
 refine rS (AG rfl) ?_
 refine RK hK8 ?_
 refine w_ret ?_
 refine Q1 hQ rfl rfl rfl ?_
 clear hQ hN hK8 hK5 hK4 hK1
 exact congrArg (Value.int .i64) (by unfold oneF; cases hb : best <;> cases f <;> simp_all)

set_option maxRecDepth 100000 in
set_option maxHeartbeats 400000 in
theorem within3_c (n : Int) (lo : Int) (hi : Int) :
    FnV Try.prog 67 [(Value.int .i64 n), (Value.int .i64 lo), (Value.int .i64 hi)] [] (Value.bool (decide (lo ≤ n ∧ n ≤ hi))) := by
 refine fnV_of go67 Try.func67 rfl rfl fun w0 Q hQ hN => ?_
 change WJ _ _ _ _ [(0, (Value.int .i64 n)), (1, (Value.int .i64 lo)), (2, (Value.int .i64 hi))] []
 refine WS fun _ hK1 => ?_
 refine rS (AG rfl) ?_
 refine RK hK1 ?_
 refine WS fun _ hK2 => ?_
 refine rS (MV rfl) ?_
 refine rS (MV rfl) ?_
 refine rS (BI rfl b_geq) ?_
 refine rS (MV rfl) ?_
 refine r_bool (t := 10) rfl (fun h3 => ?_) (fun h3 => ?_)
 rotate_left 1
 · replace h3 := DF h3
   refine rS (OX rfl) ?_
   refine rS (OX rfl) ?_
   refine rS (OX rfl) ?_
   refine rS (PK rfl) ?_
   refine rS (AG rfl) ?_
   refine RK hK2 ?_
   refine w_ret ?_
   refine Q1 hQ rfl rfl rfl ?_
   exact congrArg Value.bool (decide_eq_false (by omega)).symm
 replace h3 := DT h3
 refine rS (MV rfl) ?_
 refine rS (MV rfl) ?_
 refine rS (BI rfl b_leq) ?_
 refine rS (PK rfl) ?_
 refine rS (AG rfl) ?_
 refine RK hK2 ?_
 refine w_ret ?_
 refine Q1 hQ rfl rfl rfl ?_
 exact congrArg Value.bool (decide_eq_decide.2 (by omega))

set_option maxRecDepth 100000 in
set_option maxHeartbeats 400000 in
theorem within1_c (n : Int) (lo : Int) (hi : Int) :
    FnV Try.prog 85 [(Value.int .i64 n), (Value.int .i64 lo), (Value.int .i64 hi)] [] (Value.bool (decide (lo ≤ n ∧ n ≤ hi))) := by
 refine fnV_of go85 Try.func85 rfl rfl fun w0 Q hQ hN => ?_
 change WJ _ _ _ _ [(0, (Value.int .i64 n)), (1, (Value.int .i64 lo)), (2, (Value.int .i64 hi))] []
 refine WS fun _ hK1 => ?_
 refine rS (AG rfl) ?_
 refine RK hK1 ?_
 refine WS fun _ hK2 => ?_
 refine rS (MV rfl) ?_
 refine rS (MV rfl) ?_
 refine rS (BI rfl b_geq) ?_
 refine rS (MV rfl) ?_
 refine r_bool (t := 10) rfl (fun h3 => ?_) (fun h3 => ?_)
 rotate_left 1
 · replace h3 := DF h3
   refine rS (OX rfl) ?_
   refine rS (OX rfl) ?_
   refine rS (OX rfl) ?_
   refine rS (PK rfl) ?_
   refine rS (AG rfl) ?_
   refine RK hK2 ?_
   refine w_ret ?_
   refine Q1 hQ rfl rfl rfl ?_
   exact congrArg Value.bool (decide_eq_false (by omega)).symm
 replace h3 := DT h3
 refine rS (MV rfl) ?_
 refine rS (MV rfl) ?_
 refine rS (BI rfl b_leq) ?_
 refine rS (PK rfl) ?_
 refine rS (AG rfl) ?_
 refine RK hK2 ?_
 refine w_ret ?_
 refine Q1 hQ rfl rfl rfl ?_
 exact congrArg Value.bool (decide_eq_decide.2 (by omega))

set_option maxRecDepth 100000 in
set_option maxHeartbeats 400000 in
theorem span3_c (s : SpanV) (lo : Int) (hi : Int) :
    FnV Try.prog 84 [(Value.agg (SpanV.cells s).toArray), (Value.int .i64 lo), (Value.int .i64 hi)] [] (Value.bool (decide (s.Lo ≤ s.Hi ∧ lo ≤ s.Lo ∧ s.Hi ≤ hi))) := by
 refine fnV_of go84 Try.func84 rfl rfl fun w0 Q hQ hN => ?_
 change WJ _ _ _ _ [(0, (Value.agg (SpanV.cells s).toArray)), (1, (Value.int .i64 lo)), (2, (Value.int .i64 hi))] []
 refine WS fun _ hK1 => ?_
 refine BXA rfl fun b2 => ?_
 refine rS (AG rfl) ?_
 refine RK hK1 ?_
 refine WS fun _ hK3 => ?_
 refine rS (FA 0 rfl fo26_0 rfl) ?_
 refine rS (L1 (Value.int .i64 s.Lo) 0 rfl tk3 rfl rfl) ?_
 refine rS (MV rfl) ?_
 refine rS (FA 1 rfl fo26_1 rfl) ?_
 refine rS (L1 (Value.int .i64 s.Hi) 0 rfl tk3 rfl rfl) ?_
 refine rS (CL (within3_c s.Lo lo s.Hi) (ha_nil) rfl) ?_
 refine rS (MV rfl) ?_
 refine r_bool (t := 13) rfl (fun h4 => ?_) (fun h4 => ?_)
 rotate_left 1
 · replace h4 := DF h4
   refine rS (OX rfl) ?_
   refine rS (OX rfl) ?_
   refine rS (OX rfl) ?_
   refine rS (OX rfl) ?_
   refine rS (PK rfl) ?_
   refine rS (AG rfl) ?_
   refine RK hK3 ?_
   refine w_ret ?_
   refine Q1 hQ rfl rfl rfl ?_
   exact congrArg Value.bool (decide_eq_false (by omega)).symm
 replace h4 := DT h4
 refine rS (FA 1 rfl fo26_1 rfl) ?_
 refine rS (L1 (Value.int .i64 s.Hi) 0 rfl tk3 rfl rfl) ?_
 refine rS (MV rfl) ?_
 refine rS (BI rfl b_leq) ?_
 refine rS (PK rfl) ?_
 refine rS (AG rfl) ?_
 refine RK hK3 ?_
 refine w_ret ?_
 refine Q1 hQ rfl rfl rfl ?_
 exact congrArg Value.bool (decide_eq_decide.2 (by omega))

set_option maxRecDepth 100000 in
set_option maxHeartbeats 400000 in
theorem span1_c (s : SpanV) (lo : Int) (hi : Int) :
    FnV Try.prog 86 [(Value.agg (SpanV.cells s).toArray), (Value.int .i64 lo), (Value.int .i64 hi)] [] (Value.bool (decide (s.Lo ≤ s.Hi ∧ lo ≤ s.Lo ∧ s.Hi ≤ hi))) := by
 refine fnV_of go86 Try.func86 rfl rfl fun w0 Q hQ hN => ?_
 change WJ _ _ _ _ [(0, (Value.agg (SpanV.cells s).toArray)), (1, (Value.int .i64 lo)), (2, (Value.int .i64 hi))] []
 refine WS fun _ hK1 => ?_
 refine BXA rfl fun b2 => ?_
 refine rS (AG rfl) ?_
 refine RK hK1 ?_
 refine WS fun _ hK3 => ?_
 refine rS (FA 0 rfl fo26_0 rfl) ?_
 refine rS (L1 (Value.int .i64 s.Lo) 0 rfl tk3 rfl rfl) ?_
 refine rS (MV rfl) ?_
 refine rS (FA 1 rfl fo26_1 rfl) ?_
 refine rS (L1 (Value.int .i64 s.Hi) 0 rfl tk3 rfl rfl) ?_
 refine rS (CL (within1_c s.Lo lo s.Hi) (ha_nil) rfl) ?_
 refine rS (MV rfl) ?_
 refine r_bool (t := 13) rfl (fun h4 => ?_) (fun h4 => ?_)
 rotate_left 1
 · replace h4 := DF h4
   refine rS (OX rfl) ?_
   refine rS (OX rfl) ?_
   refine rS (OX rfl) ?_
   refine rS (OX rfl) ?_
   refine rS (PK rfl) ?_
   refine rS (AG rfl) ?_
   refine RK hK3 ?_
   refine w_ret ?_
   refine Q1 hQ rfl rfl rfl ?_
   exact congrArg Value.bool (decide_eq_false (by omega)).symm
 replace h4 := DT h4
 refine rS (FA 1 rfl fo26_1 rfl) ?_
 refine rS (L1 (Value.int .i64 s.Hi) 0 rfl tk3 rfl rfl) ?_
 refine rS (MV rfl) ?_
 refine rS (BI rfl b_leq) ?_
 refine rS (PK rfl) ?_
 refine rS (AG rfl) ?_
 refine RK hK3 ?_
 refine w_ret ?_
 refine Q1 hQ rfl rfl rfl ?_
 exact congrArg Value.bool (decide_eq_decide.2 (by omega))

set_option maxRecDepth 100000 in
set_option maxHeartbeats 400000 in
theorem great_c (t : List StretchV) (tA : Option Addr) (tC : Nat) :
    FnV Try.prog 16 [(Value.agg (TrackV.cells (TrackV.mk (Slc.mk tA t.length tC))).toArray)] [(rd tA t.length 9 (t.map StretchV.cells))] (Value.bool (decide (20 < (t.length : Int)))) := by
 refine fnV_of go16 Try.func16 rfl rfl fun w0 Q hQ hN => ?_
 change WJ _ _ _ _ [(0, (Value.agg (TrackV.cells (TrackV.mk (Slc.mk tA t.length tC))).toArray))] [(rd tA t.length 9 (t.map StretchV.cells)).ro]
 refine WS fun _ hK1 => ?_
 refine BXA rfl fun b2 => ?_
 refine rS (AG rfl) ?_
 refine RK hK1 ?_
 refine WS fun _ hK3 => ?_
 refine rS (FA 0 rfl fo24_0 rfl) ?_
 refine rS (L1 (Value.slice tA t.length tC) 0 rfl tk22 rfl rfl) ?_
 refine rS (LN rfl ut22) ?_
 refine rS (BI rfl b_gtr) ?_
 refine rS (AG rfl) ?_
 refine RK hK3 ?_
 refine w_ret ?_
 exact Q1 hQ rfl rfl rfl rfl

set_option maxRecDepth 100000 in
set_option maxHeartbeats 400000 in
theorem next_c (h : Int) (lo : Int) (fa : Int) (ru : Int) (dr : Int) (we : Int) (h1 : 0 ≤ h ∧ h ≤ 400000) (h2 : 0 ≤ lo ∧ lo ≤ 100000) (h3 : 0 ≤ fa ∧ fa ≤ 10000) (h4 : 0 ≤ ru ∧ ru ≤ 200) (h5 : 0 ≤ dr ∧ dr ≤ 2000) (h6 : 1 ≤ we ∧ we ≤ 1000000) :
    FnV Try.prog 83 [(Value.int .i64 h), (Value.int .i64 lo), (Value.int .i64 fa), (Value.int .i64 ru), (Value.int .i64 dr), (Value.int .i64 we)] [] (Value.int .i64 (nextH h lo fa ru dr we)) := by
 have m1 := mulb h1.1 h1.2 h5.1 h5.2
 have m2 := mulb m1.1 m1.2 h2.1 h2.2
 have m3 := divb (b := 100 * we) m2.1 m2.2 (by omega)
 have m4 := mulb h4.1 h4.2 h2.1 h2.2
 refine fnV_of go83 Try.func83 rfl rfl fun w0 Q hQ hN => ?_
 change WJ _ _ _ _ [(0, (Value.int .i64 h)), (1, (Value.int .i64 lo)), (2, (Value.int .i64 fa)), (3, (Value.int .i64 ru)), (4, (Value.int .i64 dr)), (5, (Value.int .i64 we))] []
 refine WS fun _ hK1 => ?_
 refine rS (AG rfl) ?_
 refine RK hK1 ?_
 refine WS fun _ hK2 => ?_
 refine rS (MV rfl) ?_
 refine rS (MV rfl) ?_
 refine rS (MV rfl) ?_
 refine rS (BI rfl (b_mul ⟨by omega, by omega⟩)) ?_
 refine rS (MV rfl) ?_
 refine rS (BI rfl (b_mul ⟨by omega, by omega⟩)) ?_
 refine rS (MV rfl) ?_
 refine rS (BI rfl (b_mul ⟨by omega, by omega⟩)) ?_
 refine rS (BI rfl (b_quo (by omega) (by omega) (by omega))) ?_
 refine rS (BI rfl (b_sub ⟨by omega, by omega⟩)) ?_
 refine rS (MX rfl) ?_
 refine rS (AG rfl) ?_
 refine RK hK2 ?_
 refine WS fun _ hK3 => ?_
 refine rS (MV rfl) ?_
 refine rS (MV rfl) ?_
 refine rS (BI rfl (b_add ⟨by omega, by omega⟩)) ?_
 refine rS (MV rfl) ?_
 refine rS (MV rfl) ?_
 refine rS (BI rfl (b_mul ⟨by omega, by omega⟩)) ?_
 refine rS (BI rfl (b_quo (by omega) (by omega) (by omega))) ?_
 refine rS (BI rfl (b_sub ⟨by omega, by omega⟩)) ?_
 refine rS (MX rfl) ?_
 refine rS (AG rfl) ?_
 refine RK hK3 ?_
 refine w_ret ?_
 exact Q1 hQ rfl rfl rfl rfl

set_option maxRecDepth 100000 in
set_option maxHeartbeats 400000 in
theorem in1_c (n : Int) (lo : Int) (hi : Int) (g1 : Nat) (g2 : Nat) :
    FnV Try.prog 102 [(Value.int .i64 n), (Value.pointer (some ⟨g1, 0, none⟩)), (Value.pointer (some ⟨g2, 0, none⟩))] [(blk g1 3 [(Value.int .i64 lo)]), (blk g2 3 [(Value.int .i64 hi)])] (Value.bool (decide (n < lo ∨ hi < n))) := by
 refine fnV_of go102 Try.func102 rfl rfl fun w0 Q hQ hN => ?_
 change WJ _ _ _ _ [(0, (Value.int .i64 n)), (1, (Value.pointer (some ⟨g1, 0, none⟩))), (2, (Value.pointer (some ⟨g2, 0, none⟩)))] [(blk g1 3 [(Value.int .i64 lo)]).ro, (blk g2 3 [(Value.int .i64 hi)]).ro]
 refine WS fun _ hK1 => ?_
 refine rS (AG rfl) ?_
 refine RK hK1 ?_
 refine WS fun _ hK2 => ?_
 refine rS (MV rfl) ?_
 refine rS (L1Q 0 rfl tk3 rfl) ?_
 refine rS (BI rfl b_lss) ?_
 refine rS (MV rfl) ?_
 refine r_bool (t := 8) rfl (fun h3 => ?_) (fun h3 => ?_)
 · replace h3 := DT h3
   refine rS (OX rfl) ?_
   refine rS (OX rfl) ?_
   refine rS (OX rfl) ?_
   refine rS (PK rfl) ?_
   refine rS (AG rfl) ?_
   refine RK hK2 ?_
   refine w_ret ?_
   refine Q1 hQ rfl rfl rfl ?_
   exact congrArg Value.bool (decide_eq_true (by omega)).symm
 replace h3 := DF h3
 refine rS (MV rfl) ?_
 refine rS (L1Q 1 rfl tk3 rfl) ?_
 refine rS (BI rfl b_gtr) ?_
 refine rS (PK rfl) ?_
 refine rS (AG rfl) ?_
 refine RK hK2 ?_
 refine w_ret ?_
 refine Q1 hQ rfl rfl rfl ?_
 exact congrArg Value.bool (decide_eq_decide.2 (by omega))

set_option maxRecDepth 100000 in
set_option maxHeartbeats 400000 in
theorem index_c (l : List Int) (lA : Option Addr) (lC : Nat) (f : Value) (p : Int → Bool) (X : Assn) (hf : ∀ x0, x0 ∈ l → Clo Try.prog f [.int .i64 x0] [X] (.bool (p x0))) (hlen : l.length ≤ 1000000) :
    FnV Try.prog 115 [(Value.slice lA l.length lC), f] [(rd lA l.length 1 (l.map iC)), X] (Value.int .i64 (findI p l)) := by
 refine fnV_of go115 Try.func115 rfl rfl fun w0 Q hQ hN => ?_
 change WJ _ _ _ _ [(0, (Value.slice lA l.length lC)), (1, f)] [(rd lA l.length 1 (l.map iC)).ro, X.ro]
 refine WS fun _ hK1 => ?_
 refine rS (AG rfl) ?_
 refine RK hK1 ?_
 refine w_seq fun _ hK2 => ?_
 refine WS fun _ hK3 => ?_
 refine rS (MV rfl) ?_
 refine rS (LN rfl ut61) ?_
 refine rS (MV rfl) ?_
 refine RK hK3 ?_
 refine w_block ?_
 have hinit : (0 ≤ l.length) ∧ ((l.take 0).any p = false) := by simp
 refine w_loop (ι := { z : Nat // (z ≤ l.length) ∧ ((l.take z).any p = false) }) (fun z => [(0, (Value.slice lA l.length lC)), (1, f), (7, (Value.int .i64 ((l.length : Nat) : Int))), (8, (Value.int .i64 (z.1 : Int)))]) (fun z => [(rd lA l.length 1 (l.map iC)).ro, X.ro]) (fun z => l.length - z.1) ⟨0, hinit⟩ (Sub.cons rfl <| Sub.cons rfl <| Sub.cons rfl <| Sub.cons rfl <| Sub.nil _) (fun w hs => St.sel [0, 1] rfl rfl hs) ?_
 clear hinit
 rintro ⟨i, ⟨hl0_0, hl0_1⟩⟩ J4 hJ4
 change WJ _ _ _ _ [(0, (Value.slice lA l.length lC)), (1, f), (7, (Value.int .i64 ((l.length : Nat) : Int))), (8, (Value.int .i64 (i : Int)))] [(rd lA l.length 1 (l.map iC)).ro, X.ro]
 refine WS fun _ hK5 => ?_
 refine rS (BI rfl b_lss) ?_
 refine RK hK5 ?_
 refine w_seq fun _ hK6 => ?_
 refine w_if rfl (fun h7 => ?_) (fun h7 => ?_)
 rotate_left 1
 · replace h7 := DF h7
   refine w_exit ?_
   refine k_exit_then ?_
   refine k_exit_then ?_
   refine k_exit_same ?_
   refine KK hK2 ?_
   refine WS fun _ hK12 => ?_
   refine rS (AG rfl) ?_
   refine RK hK12 ?_
   refine w_ret ?_
   refine Q1 hQ rfl rfl rfl ?_
   clear hQ hN hK12 hK6 hK5 hK3 hK2 hK1
   first | exact congrArg (Value.int .i64) (findI_at hx hp hl0_1).symm | exact congrArg (Value.int .i64) (findI_none (by omega) hl0_1).symm
 replace h7 := DT h7
 refine WK hK6 ?_
 refine w_seq fun _ hK8 => ?_
 refine w_block ?_
 refine WS fun _ hK9 => ?_
 refine rS (MV rfl) ?_
 refine rS (AG rfl) ?_
 refine RK hK9 ?_
 refine WS fun _ hK10 => ?_
 refine rS (MV rfl) ?_
 refine rS (MV rfl) ?_
 refine rS (MV rfl) ?_
 obtain ⟨x, hx⟩ : ∃ y_, l[i]? = some y_ := ⟨l[i]'(by omega), List.getElem?_eq_getElem _⟩
 have hxm : (l.map iC)[i]? = some (iC x) := by rw [List.getElem?_map, hx]; rfl
 refine rS (IA i rfl (has_at 0 rfl) te61 (by decide) (by omega) (by omega)) ?_
 refine rS (LE1 i 0 (Value.int .i64 x) rfl tk3 (has_at 0 rfl) hxm rfl (by decide) rfl) ?_
 refine rS (SX (sd_clo rfl rfl rfl (hf x (List.mem_of_getElem? hx)) (ha_at 1 rfl rfl <| ha_nil)) rfl rfl) ?_
 refine RK hK10 ?_
 refine w_if rfl (fun hp => ?_) (fun hp => ?_)
 · refine WS fun _ hK11 => ?_
   refine rS (MV rfl) ?_
   refine rS (AG rfl) ?_
   refine RK hK11 ?_
   refine w_ret ?_
   refine Q1 hQ rfl rfl rfl ?_
   clear hQ hN hK11 hK10 hK9 hK8 hK6 hK5 hK3 hK2 hK1
   first | exact congrArg (Value.int .i64) (findI_at hx hp hl0_1).symm | exact congrArg (Value.int .i64) (findI_none (by omega) hl0_1).symm
 refine w_skip ?_
 refine k_block ?_
 refine KK hK8 ?_
 refine w_region ?_
 refine rS (BI rfl (b_add ⟨by omega, by omega⟩)) ?_
 refine rS (MV rfl) ?_
 refine r_nil ?_
 refine k_then (hJ4 ⟨(i + 1), ⟨by omega, any_step hx hl0_1 hp⟩⟩ _ _ _ rfl (by first | omega | (simp; omega)) (Sub.cons rfl <| Sub.cons rfl <| Sub.cons rfl <| Sub.cons rfl <| Sub.nil _) (fun w hs => St.sel [0, 1] rfl rfl hs))

set_option maxRecDepth 100000 in
set_option maxHeartbeats 400000 in
theorem contains_c (l : List Int) (lA : Option Addr) (lC : Nat) (f : Value) (p : Int → Bool) (X : Assn) (hf : ∀ x0, x0 ∈ l → Clo Try.prog f [.int .i64 x0] [X] (.bool (p x0))) (hlen : l.length ≤ 1000000) :
    FnV Try.prog 101 [(Value.slice lA l.length lC), f] [(rd lA l.length 1 (l.map iC)), X] (Value.bool (l.any p)) := by
 refine fnV_of go101 Try.func101 rfl rfl fun w0 Q hQ hN => ?_
 change WJ _ _ _ _ [(0, (Value.slice lA l.length lC)), (1, f)] [(rd lA l.length 1 (l.map iC)).ro, X.ro]
 refine WS fun _ hK1 => ?_
 refine rS (AG rfl) ?_
 refine RK hK1 ?_
 refine WS fun _ hK2 => ?_
 refine rS (MV rfl) ?_
 refine rS (MV rfl) ?_
 refine rS (CL (index_c l lA lC f p X (by exact hf) hlen) (ha_at 0 rfl rfl <| ha_at 1 rfl rfl <| ha_nil) rfl) ?_
 refine rS (BI rfl b_geq) ?_
 refine rS (AG rfl) ?_
 refine RK hK2 ?_
 refine w_ret ?_
 refine Q1 hQ rfl rfl rfl ?_
 exact congrArg Value.bool findI_any

set_option maxRecDepth 100000 in
set_option maxHeartbeats 400000 in
theorem in_c (lo : Int) (hi : Int) (l : List Int) (lA : Option Addr) (lC : Nat) (hlen : l.length ≤ 1000000) :
    FnV Try.prog 89 [(Value.int .i64 lo), (Value.int .i64 hi), (Value.slice lA l.length lC)] [(rd lA l.length 1 (l.map iC))] (Value.bool (inAll lo hi l)) := by
 refine fnV_of go89 Try.func89 rfl rfl fun w0 Q hQ hN => ?_
 change WJ _ _ _ _ [(0, (Value.int .i64 lo)), (1, (Value.int .i64 hi)), (2, (Value.slice lA l.length lC))] [(rd lA l.length 1 (l.map iC)).ro]
 refine WS fun _ hK1 => ?_
 refine BX1 rfl rfl fun b2 => ?_
 refine BX1 rfl rfl fun b3 => ?_
 refine rS (AG rfl) ?_
 refine RK hK1 ?_
 refine WS fun _ hK4 => ?_
 refine rS (MV rfl) ?_
 refine rS (FU rfl) ?_
 refine rS (CL (contains_c l lA lC (Value.func (.func 102) [].toArray [(Value.pointer (some ⟨b2, 0, none⟩)), (Value.pointer (some ⟨b3, 0, none⟩))].toArray) (fun u5 => (decide (u5 < lo ∨ hi < u5))) (bun [(blk b2 3 [(Value.int .i64 lo)]), (blk b3 3 [(Value.int .i64 hi)])]) (by intro u5 _; exact clo_of (fi := []) (ca := [(Value.pointer (some ⟨b2, 0, none⟩)), (Value.pointer (some ⟨b3, 0, none⟩))]) (fnV_bun (in1_c u5 lo hi b2 b3 ) (ha_at 0 rfl rfl <| ha_at 1 rfl rfl <| ha_nil))) hlen) (ha_at 2 rfl rfl <| ha_cons (has_bun (ha_at 1 rfl rfl <| ha_at 0 rfl rfl <| ha_nil)) <| ha_nil) rfl) ?_
 refine rS (NT rfl) ?_
 refine rS (AG rfl) ?_
 refine RK hK4 ?_
 refine w_ret ?_
 exact Q1 hQ rfl rfl rfl rfl

set_option maxRecDepth 100000 in
set_option maxHeartbeats 400000 in
theorem known_c (s : SpanV) (lo : Int) (hi : Int) :
    FnV Try.prog 99 [(Value.agg (SpanV.cells s).toArray), (Value.int .i64 lo), (Value.int .i64 hi)] [] (Value.bool (decide (s.Lo ≤ s.Hi ∧ lo ≤ s.Lo ∧ s.Hi ≤ hi))) := by
 refine fnV_of go99 Try.func99 rfl rfl fun w0 Q hQ hN => ?_
 change WJ _ _ _ _ [(0, (Value.agg (SpanV.cells s).toArray)), (1, (Value.int .i64 lo)), (2, (Value.int .i64 hi))] []
 refine WS fun _ hK1 => ?_
 refine BXA rfl fun b2 => ?_
 refine rS (AG rfl) ?_
 refine RK hK1 ?_
 refine WS fun _ hK3 => ?_
 refine rS (MV rfl) ?_
 refine rS (MV rfl) ?_
 refine rS (FA 0 rfl fo26_0 rfl) ?_
 refine rS (L1 (Value.int .i64 s.Lo) 0 rfl tk3 rfl rfl) ?_
 refine rS (FA 1 rfl fo26_1 rfl) ?_
 refine rS (L1 (Value.int .i64 s.Hi) 0 rfl tk3 rfl rfl) ?_
 refine r_bs (xs := [.tmp 10, .tmp 12]) (cs := [(Value.int .i64 s.Lo), (Value.int .i64 s.Hi)]) rfl te61 tz3 rfl rfl rfl rfl (by simp [Value.cells]) rfl rfl fun b4 => ?_
 refine rS (CL (FnV.eq (in_c lo hi ([s.Lo, s.Hi]) (some ⟨b4, 0, none⟩) 2 (by first | assumption | omega | (simp; done) | (simp; omega))) inAll_two) (ha_cons (has_rd_blk 0 rfl rfl (by simp [iC_length]) rfl) <| ha_nil) rfl) ?_
 refine rS (MV rfl) ?_
 refine r_bool (t := 15) rfl (fun h5 => ?_) (fun h5 => ?_)
 rotate_left 1
 · replace h5 := DF h5
   refine rS (OX rfl) ?_
   refine rS (OX rfl) ?_
   refine rS (OX rfl) ?_
   refine rS (OX rfl) ?_
   refine rS (OX rfl) ?_
   refine rS (PK rfl) ?_
   refine rS (AG rfl) ?_
   refine RK hK3 ?_
   refine w_ret ?_
   refine Q1 hQ rfl rfl rfl ?_
   exact congrArg Value.bool (decide_eq_false (by omega)).symm
 replace h5 := DT h5
 refine rS (FA 0 rfl fo26_0 rfl) ?_
 refine rS (L1 (Value.int .i64 s.Lo) 1 rfl tk3 rfl rfl) ?_
 refine rS (FA 1 rfl fo26_1 rfl) ?_
 refine rS (L1 (Value.int .i64 s.Hi) 1 rfl tk3 rfl rfl) ?_
 refine rS (BI rfl b_leq) ?_
 refine rS (PK rfl) ?_
 refine rS (AG rfl) ?_
 refine RK hK3 ?_
 refine w_ret ?_
 refine Q1 hQ rfl rfl rfl ?_
 exact congrArg Value.bool (decide_eq_decide.2 (by omega))

set_option maxRecDepth 100000 in
set_option maxHeartbeats 400000 in
theorem sled_c (s : SledV) (hc : 0 ≤ s.Class ∧ s.Class ≤ 255) :
    FnV Try.prog 48 [(Value.agg (SledV.cells s).toArray)] [] (Value.bool (decide (SledOk s))) := by
 refine fnV_of go48 Try.func48 rfl rfl fun w0 Q hQ hN => ?_
 change WJ _ _ _ _ [(0, (Value.agg (SledV.cells s).toArray))] []
 refine WS fun _ hK1 => ?_
 refine BXA rfl fun b2 => ?_
 refine rS (AG rfl) ?_
 refine RK hK1 ?_
 refine WS fun _ hK3 => ?_
 refine rS (FA 0 rfl fo28_0 rfl) ?_
 refine rS (L1 (Value.int .u8 s.Class) 0 rfl tk5 rfl rfl) ?_
 refine rS (SX (sd_conv (m := s.Class) rfl rfl ut5 ut3 (wrap_u8_i64 (by first | assumption | omega))) rfl rfl) ?_
 refine rS (CL (within3_c s.Class 1 3) (ha_nil) rfl) ?_
 refine rS (MV rfl) ?_
 refine r_bool (t := 7) rfl (fun h4 => ?_) (fun h4 => ?_)
 rotate_left 1
 · replace h4 := DF h4
   refine rS (OX rfl) ?_
   refine rS (OX rfl) ?_
   refine rS (OX rfl) ?_
   refine rS (PK rfl) ?_
   refine rS (MV rfl) ?_
   refine rS (OX rfl) ?_
   refine rS (OX rfl) ?_
   refine rS (OX rfl) ?_
   refine rS (PK rfl) ?_
   refine rS (MV rfl) ?_
   refine rS (OX rfl) ?_
   refine rS (OX rfl) ?_
   refine rS (OX rfl) ?_
   refine rS (PK rfl) ?_
   refine rS (MV rfl) ?_
   refine rS (OX rfl) ?_
   refine rS (OX rfl) ?_
   refine rS (OX rfl) ?_
   refine rS (PK rfl) ?_
   refine rS (MV rfl) ?_
   refine rS (OX rfl) ?_
   refine rS (OX rfl) ?_
   refine rS (OX rfl) ?_
   refine rS (PK rfl) ?_
   refine rS (AG rfl) ?_
   refine RK hK3 ?_
   refine w_ret ?_
   refine Q1 hQ rfl rfl rfl ?_
   exact congrArg Value.bool (decide_eq_false (by simp only [SledOk, SpanOk]; omega)).symm
 replace h4 := DT h4
 refine rS (FA 1 rfl fo28_1 rfl) ?_
 refine rS (LP (SpanV.cells s.Start) 0 rfl tk26 rfl rfl rfl) ?_
 refine rS (CL (span3_c s.Start 0 200000) (ha_nil) rfl) ?_
 refine rS (PK rfl) ?_
 refine rS (MV rfl) ?_
 refine r_bool (t := 12) rfl (fun h5 => ?_) (fun h5 => ?_)
 rotate_left 1
 · replace h5 := DF h5
   refine rS (OX rfl) ?_
   refine rS (OX rfl) ?_
   refine rS (OX rfl) ?_
   refine rS (PK rfl) ?_
   refine rS (MV rfl) ?_
   refine rS (OX rfl) ?_
   refine rS (OX rfl) ?_
   refine rS (OX rfl) ?_
   refine rS (PK rfl) ?_
   refine rS (MV rfl) ?_
   refine rS (OX rfl) ?_
   refine rS (OX rfl) ?_
   refine rS (OX rfl) ?_
   refine rS (PK rfl) ?_
   refine rS (MV rfl) ?_
   refine rS (OX rfl) ?_
   refine rS (OX rfl) ?_
   refine rS (OX rfl) ?_
   refine rS (PK rfl) ?_
   refine rS (AG rfl) ?_
   refine RK hK3 ?_
   refine w_ret ?_
   refine Q1 hQ rfl rfl rfl ?_
   exact congrArg Value.bool (decide_eq_false (by simp only [SledOk, SpanOk]; omega)).symm
 replace h5 := DT h5
 refine rS (FA 3 rfl fo28_2 rfl) ?_
 refine rS (LP (SpanV.cells s.Rub) 0 rfl tk26 rfl rfl rfl) ?_
 refine rS (CL (span3_c s.Rub 0 100) (ha_nil) rfl) ?_
 refine rS (PK rfl) ?_
 refine rS (MV rfl) ?_
 refine r_bool (t := 17) rfl (fun h6 => ?_) (fun h6 => ?_)
 rotate_left 1
 · replace h6 := DF h6
   refine rS (OX rfl) ?_
   refine rS (OX rfl) ?_
   refine rS (OX rfl) ?_
   refine rS (PK rfl) ?_
   refine rS (MV rfl) ?_
   refine rS (OX rfl) ?_
   refine rS (OX rfl) ?_
   refine rS (OX rfl) ?_
   refine rS (PK rfl) ?_
   refine rS (MV rfl) ?_
   refine rS (OX rfl) ?_
   refine rS (OX rfl) ?_
   refine rS (OX rfl) ?_
   refine rS (PK rfl) ?_
   refine rS (AG rfl) ?_
   refine RK hK3 ?_
   refine w_ret ?_
   refine Q1 hQ rfl rfl rfl ?_
   exact congrArg Value.bool (decide_eq_false (by simp only [SledOk, SpanOk]; omega)).symm
 replace h6 := DT h6
 refine rS (FA 5 rfl fo28_3 rfl) ?_
 refine rS (LP (SpanV.cells s.Drag) 0 rfl tk26 rfl rfl rfl) ?_
 refine rS (CL (span3_c s.Drag 0 1000) (ha_nil) rfl) ?_
 refine rS (PK rfl) ?_
 refine rS (MV rfl) ?_
 refine r_bool (t := 22) rfl (fun h7 => ?_) (fun h7 => ?_)
 rotate_left 1
 · replace h7 := DF h7
   refine rS (OX rfl) ?_
   refine rS (OX rfl) ?_
   refine rS (OX rfl) ?_
   refine rS (PK rfl) ?_
   refine rS (MV rfl) ?_
   refine rS (OX rfl) ?_
   refine rS (OX rfl) ?_
   refine rS (OX rfl) ?_
   refine rS (PK rfl) ?_
   refine rS (AG rfl) ?_
   refine RK hK3 ?_
   refine w_ret ?_
   refine Q1 hQ rfl rfl rfl ?_
   exact congrArg Value.bool (decide_eq_false (by simp only [SledOk, SpanOk]; omega)).symm
 replace h7 := DT h7
 refine rS (FA 7 rfl fo28_4 rfl) ?_
 refine rS (LP (SpanV.cells s.Weight) 0 rfl tk26 rfl rfl rfl) ?_
 refine rS (CL (span3_c s.Weight 50000 800000) (ha_nil) rfl) ?_
 refine rS (PK rfl) ?_
 refine rS (MV rfl) ?_
 refine r_bool (t := 27) rfl (fun h8 => ?_) (fun h8 => ?_)
 rotate_left 1
 · replace h8 := DF h8
   refine rS (OX rfl) ?_
   refine rS (OX rfl) ?_
   refine rS (OX rfl) ?_
   refine rS (PK rfl) ?_
   refine rS (AG rfl) ?_
   refine RK hK3 ?_
   refine w_ret ?_
   refine Q1 hQ rfl rfl rfl ?_
   exact congrArg Value.bool (decide_eq_false (by simp only [SledOk, SpanOk]; omega)).symm
 replace h8 := DT h8
 refine rS (FA 9 rfl fo28_5 rfl) ?_
 refine rS (LP (SpanV.cells s.Steer) 0 rfl tk26 rfl rfl rfl) ?_
 refine rS (CL (span3_c s.Steer (-500) 500) (ha_nil) rfl) ?_
 refine rS (PK rfl) ?_
 refine rS (AG rfl) ?_
 refine RK hK3 ?_
 refine w_ret ?_
 refine Q1 hQ rfl rfl rfl ?_
 exact congrArg Value.bool (decide_eq_decide.2 (by simp only [SledOk, SpanOk]; omega))

set_option maxRecDepth 100000 in
set_option maxHeartbeats 400000 in
theorem check3_c (s : SledV) (hc : 0 ≤ s.Class ∧ s.Class ≤ 255) :
    FnV Try.prog 27 [(Value.agg (SledV.cells s).toArray)] [] (Value.int .i64 (if SledOk s then 0 else 30)) := by
 refine fnV_of go27 Try.func27 rfl rfl fun w0 Q hQ hN => ?_
 change WJ _ _ _ _ [(0, (Value.agg (SledV.cells s).toArray))] []
 refine WS fun _ hK1 => ?_
 refine BXA rfl fun b2 => ?_
 refine rS (AG rfl) ?_
 refine RK hK1 ?_
 refine w_seq fun _ hK3 => ?_
 refine WS fun _ hK4 => ?_
 refine rS (LW 0 rfl tk28 rfl rfl) ?_
 refine rS (CL (sled_c s hc) (ha_nil) rfl) ?_
 refine rS (NT rfl) ?_
 refine RK hK4 ?_
 refine w_if rfl (fun h5 => ?_) (fun h5 => ?_)
 · replace h5 := XT h5
   refine WS fun _ hK6 => ?_
   refine rS (AG rfl) ?_
   refine RK hK6 ?_
   refine w_ret ?_
   refine Q1 hQ rfl rfl rfl ?_
   exact congrArg (Value.int .i64) (by simp [*])
 replace h5 := XF h5
 refine WK hK3 ?_
 refine WS fun _ hK7 => ?_
 refine rS (AG rfl) ?_
 refine RK hK7 ?_
 refine w_ret ?_
 refine Q1 hQ rfl rfl rfl ?_
 exact congrArg (Value.int .i64) (by simp [*])

set_option maxRecDepth 100000 in
set_option maxHeartbeats 400000 in
theorem swithin_c (lo : Int) (hi : Int) (l : List SpanV) (lA : Option Addr) (lC : Nat) (hle : lo ≤ hi) (hlen : l.length ≤ 1000000) :
    FnV Try.prog 74 [(Value.int .i64 lo), (Value.int .i64 hi), (Value.slice lA l.length lC)] [(rd lA l.length 2 (l.map SpanV.cells))] (Value.bool (inSpans lo hi l)) := by
 refine fnV_of go74 Try.func74 rfl rfl fun w0 Q hQ hN => ?_
 change WJ _ _ _ _ [(0, (Value.int .i64 lo)), (1, (Value.int .i64 hi)), (2, (Value.slice lA l.length lC))] [(rd lA l.length 2 (l.map SpanV.cells)).ro]
 refine WS fun _ hK1 => ?_
 refine rS (AG rfl) ?_
 refine RK hK1 ?_
 refine w_seq fun _ hK2 => ?_
 refine WS fun _ hK3 => ?_
 refine rS (MV rfl) ?_
 refine rS (LN rfl ut31) ?_
 refine rS (MV rfl) ?_
 refine RK hK3 ?_
 refine w_block ?_
 have hinit : (0 ≤ l.length) ∧ ((l.take 0).all (fun s => decide (s.Lo ≤ s.Hi ∧ lo ≤ s.Lo ∧ s.Hi ≤ hi)) = true) := by simp
 refine w_loop (ι := { z : Nat // (z ≤ l.length) ∧ ((l.take z).all (fun s => decide (s.Lo ≤ s.Hi ∧ lo ≤ s.Lo ∧ s.Hi ≤ hi)) = true) }) (fun z => [(0, (Value.int .i64 lo)), (1, (Value.int .i64 hi)), (2, (Value.slice lA l.length lC)), (9, (Value.slice lA l.length lC)), (10, (Value.int .i64 ((l.length : Nat) : Int))), (11, (Value.int .i64 (z.1 : Int)))]) (fun z => [(rd lA l.length 2 (l.map SpanV.cells)).ro]) (fun z => l.length - z.1) ⟨0, hinit⟩ (Sub.cons rfl <| Sub.cons rfl <| Sub.cons rfl <| Sub.cons rfl <| Sub.cons rfl <| Sub.cons rfl <| Sub.nil _) (fun w hs => St.sel [0] rfl rfl hs) ?_
 clear hinit
 rintro ⟨i, ⟨hl0_0, hl0_1⟩⟩ J4 hJ4
 change WJ _ _ _ _ [(0, (Value.int .i64 lo)), (1, (Value.int .i64 hi)), (2, (Value.slice lA l.length lC)), (9, (Value.slice lA l.length lC)), (10, (Value.int .i64 ((l.length : Nat) : Int))), (11, (Value.int .i64 (i : Int)))] [(rd lA l.length 2 (l.map SpanV.cells)).ro]
 refine WS fun _ hK5 => ?_
 refine rS (BI rfl b_lss) ?_
 refine RK hK5 ?_
 refine w_seq fun _ hK6 => ?_
 refine w_if rfl (fun h7 => ?_) (fun h7 => ?_)
 rotate_left 1
 · replace h7 := DF h7
   refine w_exit ?_
   refine k_exit_then ?_
   refine k_exit_then ?_
   refine k_exit_same ?_
   refine KK hK2 ?_
   refine WS fun _ hK13 => ?_
   refine rS (AG rfl) ?_
   refine RK hK13 ?_
   refine w_ret ?_
   refine Q1 hQ rfl rfl rfl ?_
   first | exact congrArg Value.bool (all_no hx (decide_eq_false (by rw [SpanV.ext_iff] at h; simp only at h; omega))).symm | exact congrArg Value.bool (all_end (by omega) hl0_1).symm
 replace h7 := DT h7
 refine WK hK6 ?_
 refine w_seq fun _ hK8 => ?_
 refine w_block ?_
 refine WS fun _ hK9 => ?_
 obtain ⟨x, hx⟩ : ∃ y_, l[i]? = some y_ := ⟨l[i]'(by omega), List.getElem?_eq_getElem _⟩
 have hxm : (l.map SpanV.cells)[i]? = some (SpanV.cells x) := by rw [List.getElem?_map, hx]; rfl
 refine rS (IA i rfl (has_at 0 rfl) te31 (by decide) (by omega) (by omega)) ?_
 refine rS (LEN i 0 (SpanV.cells x) rfl tk26 (has_at 0 rfl) hxm rfl (by decide) rfl rfl) ?_
 refine AL rfl tz26 fun b10 => ?_
 refine SW0 rfl ts26 rfl ?_
 refine RK hK9 ?_
 refine WS fun _ hK11 => ?_
 refine rS (LW 0 rfl tk26 rfl rfl) ?_
 refine rS (MV rfl) ?_
 refine rS (FA 0 rfl fo26_0 rfl) ?_
 refine rS (L1 (Value.int .i64 x.Lo) 0 rfl tk3 rfl rfl) ?_
 refine rS (FA 1 rfl fo26_1 rfl) ?_
 refine rS (L1 (Value.int .i64 x.Hi) 0 rfl tk3 rfl rfl) ?_
 refine rS (MN rfl) ?_
 refine rS (MX rfl) ?_
 refine rS (MV rfl) ?_
 refine rS (FA 0 rfl fo26_0 rfl) ?_
 refine rS (L1 (Value.int .i64 x.Lo) 0 rfl tk3 rfl rfl) ?_
 refine rS (FA 1 rfl fo26_1 rfl) ?_
 refine rS (L1 (Value.int .i64 x.Hi) 0 rfl tk3 rfl rfl) ?_
 refine rS (MX rfl) ?_
 refine rS (MN rfl) ?_
 refine rS (SX (sd_build (xs := [(0, .tmp 22), (1, .tmp 29)]) (cs := (SpanV.cells (SpanV.mk (max lo (min x.Lo x.Hi)) (min hi (max x.Lo x.Hi))))) rfl rfl (built_of tb26 rfl)) rfl rfl) ?_
 refine rS (BI rfl (nes26 _ _ x (SpanV.mk (max lo (min x.Lo x.Hi)) (min hi (max x.Lo x.Hi))))) ?_
 refine RK hK11 ?_
 refine w_if rfl (fun h => ?_) (fun h => ?_)
 · replace h := XT h
   refine WS fun _ hK12 => ?_
   refine rS (AG rfl) ?_
   refine RK hK12 ?_
   refine w_ret ?_
   refine Q1 hQ rfl rfl rfl ?_
   first | exact congrArg Value.bool (all_no hx (decide_eq_false (by rw [SpanV.ext_iff] at h; simp only at h; omega))).symm | exact congrArg Value.bool (all_end (by omega) hl0_1).symm
 replace h := XF h
 refine w_skip ?_
 refine k_block ?_
 refine KK hK8 ?_
 refine w_region ?_
 refine rS (BI rfl (b_add ⟨by omega, by omega⟩)) ?_
 refine rS (MV rfl) ?_
 refine r_nil ?_
 refine k_then (hJ4 ⟨(i + 1), ⟨by omega, all_step hx hl0_1 (decide_eq_true (by rw [SpanV.ext_iff] at h; simp only at h; omega))⟩⟩ _ _ _ rfl (by first | omega | (simp; omega)) (Sub.cons rfl <| Sub.cons rfl <| Sub.cons rfl <| Sub.cons rfl <| Sub.cons rfl <| Sub.cons rfl <| Sub.nil _) (fun w hs => St.sel [1] rfl rfl hs))

set_option maxRecDepth 100000 in
set_option maxHeartbeats 400000 in
theorem scheck_c (s : SledV) :
    FnV Try.prog 26 [(Value.agg (SledV.cells s).toArray)] [] (Value.int .i64 (if SledOk s then 0 else 30)) := by
 refine fnV_of go26 Try.func26 rfl rfl fun w0 Q hQ hN => ?_
 change WJ _ _ _ _ [(0, (Value.agg (SledV.cells s).toArray))] []
 refine WS fun _ hK1 => ?_
 refine BXA rfl fun b2 => ?_
 refine rS (AG rfl) ?_
 refine RK hK1 ?_
 refine w_seq fun _ hK3 => ?_
 refine WS fun _ hK4 => ?_
 refine rS (FA 0 rfl fo28_0 rfl) ?_
 refine rS (L1 (Value.int .u8 s.Class) 0 rfl tk5 rfl rfl) ?_
 refine rS (BI rfl b_lss) ?_
 refine rS (MV rfl) ?_
 refine r_bool (t := 6) rfl (fun h5 => ?_) (fun h5 => ?_)
 · replace h5 := DT h5
   refine rS (OX rfl) ?_
   refine rS (OX rfl) ?_
   refine rS (OX rfl) ?_
   refine rS (PK rfl) ?_
   refine rS (MV rfl) ?_
   refine rS (OX rfl) ?_
   refine rS (OX rfl) ?_
   refine rS (OX rfl) ?_
   refine rS (OX rfl) ?_
   refine rS (OX rfl) ?_
   refine rS (PK rfl) ?_
   refine rS (MV rfl) ?_
   refine rS (OX rfl) ?_
   refine rS (OX rfl) ?_
   refine rS (OX rfl) ?_
   refine rS (OX rfl) ?_
   refine rS (OX rfl) ?_
   refine rS (PK rfl) ?_
   refine rS (MV rfl) ?_
   refine rS (OX rfl) ?_
   refine rS (OX rfl) ?_
   refine rS (OX rfl) ?_
   refine rS (OX rfl) ?_
   refine rS (OX rfl) ?_
   refine rS (PK rfl) ?_
   refine rS (MV rfl) ?_
   refine rS (OX rfl) ?_
   refine rS (OX rfl) ?_
   refine rS (OX rfl) ?_
   refine rS (OX rfl) ?_
   refine rS (OX rfl) ?_
   refine rS (PK rfl) ?_
   refine rS (MV rfl) ?_
   refine rS (OX rfl) ?_
   refine rS (OX rfl) ?_
   refine rS (OX rfl) ?_
   refine rS (OX rfl) ?_
   refine rS (OX rfl) ?_
   refine rS (PK rfl) ?_
   refine RK hK4 ?_
   refine w_if_true rfl ?_
   refine WS fun _ hK6 => ?_
   refine rS (AG rfl) ?_
   refine RK hK6 ?_
   refine w_ret ?_
   refine Q1 hQ rfl rfl rfl ?_
   first | exact congrArg (Value.int .i64) (if_neg (by simp only [SledOk, SpanOk]; omega)).symm | exact congrArg (Value.int .i64) (if_pos (by simp only [SledOk, SpanOk]; omega)).symm
 replace h5 := DF h5
 refine rS (FA 0 rfl fo28_0 rfl) ?_
 refine rS (L1 (Value.int .u8 s.Class) 0 rfl tk5 rfl rfl) ?_
 refine rS (BI rfl b_gtr) ?_
 refine rS (PK rfl) ?_
 refine rS (MV rfl) ?_
 refine r_bool (t := 11) rfl (fun h7 => ?_) (fun h7 => ?_)
 · replace h7 := DT h7
   refine rS (OX rfl) ?_
   refine rS (OX rfl) ?_
   refine rS (OX rfl) ?_
   refine rS (OX rfl) ?_
   refine rS (OX rfl) ?_
   refine rS (PK rfl) ?_
   refine rS (MV rfl) ?_
   refine rS (OX rfl) ?_
   refine rS (OX rfl) ?_
   refine rS (OX rfl) ?_
   refine rS (OX rfl) ?_
   refine rS (OX rfl) ?_
   refine rS (PK rfl) ?_
   refine rS (MV rfl) ?_
   refine rS (OX rfl) ?_
   refine rS (OX rfl) ?_
   refine rS (OX rfl) ?_
   refine rS (OX rfl) ?_
   refine rS (OX rfl) ?_
   refine rS (PK rfl) ?_
   refine rS (MV rfl) ?_
   refine rS (OX rfl) ?_
   refine rS (OX rfl) ?_
   refine rS (OX rfl) ?_
   refine rS (OX rfl) ?_
   refine rS (OX rfl) ?_
   refine rS (PK rfl) ?_
   refine rS (MV rfl) ?_
   refine rS (OX rfl) ?_
   refine rS (OX rfl) ?_
   refine rS (OX rfl) ?_
   refine rS (OX rfl) ?_
   refine rS (OX rfl) ?_
   refine rS (PK rfl) ?_
   refine RK hK4 ?_
   refine w_if_true rfl ?_
   refine WS fun _ hK8 => ?_
   refine rS (AG rfl) ?_
   refine RK hK8 ?_
   refine w_ret ?_
   refine Q1 hQ rfl rfl rfl ?_
   first | exact congrArg (Value.int .i64) (if_neg (by simp only [SledOk, SpanOk]; omega)).symm | exact congrArg (Value.int .i64) (if_pos (by simp only [SledOk, SpanOk]; omega)).symm
 replace h7 := DF h7
 refine rS (FA 1 rfl fo28_1 rfl) ?_
 refine rS (LP (SpanV.cells s.Start) 0 rfl tk26 rfl rfl rfl) ?_
 refine r_bs (xs := [.tmp 13]) (cs := (SpanV.cells s.Start)) rfl te31 tz26 rfl rfl rfl rfl (by simp [Value.cells, SpanV.cells_length]) rfl rfl fun b9 => ?_
 refine rS (CL (FnV.eq (swithin_c 0 200000 ([s.Start]) (some ⟨b9, 0, none⟩) 1 (by first | assumption | omega | (simp; done) | (simp; omega)) (by first | assumption | omega | (simp; done) | (simp; omega))) inSpans_one) (ha_cons (has_rd_blk 0 rfl rfl (by simp [SpanV.cells_length]) rfl) <| ha_nil) rfl) ?_
 refine rS (NT rfl) ?_
 refine rS (PK rfl) ?_
 refine rS (MV rfl) ?_
 refine r_bool (t := 18) rfl (fun h10 => ?_) (fun h10 => ?_)
 · replace h10 := XT h10
   refine rS (OX rfl) ?_
   refine rS (OX rfl) ?_
   refine rS (OX rfl) ?_
   refine rS (OX rfl) ?_
   refine rS (OX rfl) ?_
   refine rS (PK rfl) ?_
   refine rS (MV rfl) ?_
   refine rS (OX rfl) ?_
   refine rS (OX rfl) ?_
   refine rS (OX rfl) ?_
   refine rS (OX rfl) ?_
   refine rS (OX rfl) ?_
   refine rS (PK rfl) ?_
   refine rS (MV rfl) ?_
   refine rS (OX rfl) ?_
   refine rS (OX rfl) ?_
   refine rS (OX rfl) ?_
   refine rS (OX rfl) ?_
   refine rS (OX rfl) ?_
   refine rS (PK rfl) ?_
   refine rS (MV rfl) ?_
   refine rS (OX rfl) ?_
   refine rS (OX rfl) ?_
   refine rS (OX rfl) ?_
   refine rS (OX rfl) ?_
   refine rS (OX rfl) ?_
   refine rS (PK rfl) ?_
   refine RK hK4 ?_
   refine w_if_true rfl ?_
   refine WS fun _ hK11 => ?_
   refine rS (AG rfl) ?_
   refine RK hK11 ?_
   refine w_ret ?_
   refine Q1 hQ rfl rfl rfl ?_
   first | exact congrArg (Value.int .i64) (if_neg (by simp only [SledOk, SpanOk]; omega)).symm | exact congrArg (Value.int .i64) (if_pos (by simp only [SledOk, SpanOk]; omega)).symm
 replace h10 := XF h10
 refine rS (FA 3 rfl fo28_2 rfl) ?_
 refine rS (LP (SpanV.cells s.Rub) 1 rfl tk26 rfl rfl rfl) ?_
 refine r_bs (xs := [.tmp 20]) (cs := (SpanV.cells s.Rub)) rfl te31 tz26 rfl rfl rfl rfl (by simp [Value.cells, SpanV.cells_length]) rfl rfl fun b12 => ?_
 refine rS (CL (FnV.eq (swithin_c 0 100 ([s.Rub]) (some ⟨b12, 0, none⟩) 1 (by first | assumption | omega | (simp; done) | (simp; omega)) (by first | assumption | omega | (simp; done) | (simp; omega))) inSpans_one) (ha_cons (has_rd_blk 0 rfl rfl (by simp [SpanV.cells_length]) rfl) <| ha_nil) rfl) ?_
 refine rS (NT rfl) ?_
 refine rS (PK rfl) ?_
 refine rS (MV rfl) ?_
 refine r_bool (t := 25) rfl (fun h13 => ?_) (fun h13 => ?_)
 · replace h13 := XT h13
   refine rS (OX rfl) ?_
   refine rS (OX rfl) ?_
   refine rS (OX rfl) ?_
   refine rS (OX rfl) ?_
   refine rS (OX rfl) ?_
   refine rS (PK rfl) ?_
   refine rS (MV rfl) ?_
   refine rS (OX rfl) ?_
   refine rS (OX rfl) ?_
   refine rS (OX rfl) ?_
   refine rS (OX rfl) ?_
   refine rS (OX rfl) ?_
   refine rS (PK rfl) ?_
   refine rS (MV rfl) ?_
   refine rS (OX rfl) ?_
   refine rS (OX rfl) ?_
   refine rS (OX rfl) ?_
   refine rS (OX rfl) ?_
   refine rS (OX rfl) ?_
   refine rS (PK rfl) ?_
   refine RK hK4 ?_
   refine w_if_true rfl ?_
   refine WS fun _ hK14 => ?_
   refine rS (AG rfl) ?_
   refine RK hK14 ?_
   refine w_ret ?_
   refine Q1 hQ rfl rfl rfl ?_
   first | exact congrArg (Value.int .i64) (if_neg (by simp only [SledOk, SpanOk]; omega)).symm | exact congrArg (Value.int .i64) (if_pos (by simp only [SledOk, SpanOk]; omega)).symm
 replace h13 := XF h13
 refine rS (FA 5 rfl fo28_3 rfl) ?_
 refine rS (LP (SpanV.cells s.Drag) 2 rfl tk26 rfl rfl rfl) ?_
 refine r_bs (xs := [.tmp 27]) (cs := (SpanV.cells s.Drag)) rfl te31 tz26 rfl rfl rfl rfl (by simp [Value.cells, SpanV.cells_length]) rfl rfl fun b15 => ?_
 refine rS (CL (FnV.eq (swithin_c 0 1000 ([s.Drag]) (some ⟨b15, 0, none⟩) 1 (by first | assumption | omega | (simp; done) | (simp; omega)) (by first | assumption | omega | (simp; done) | (simp; omega))) inSpans_one) (ha_cons (has_rd_blk 0 rfl rfl (by simp [SpanV.cells_length]) rfl) <| ha_nil) rfl) ?_
 refine rS (NT rfl) ?_
 refine rS (PK rfl) ?_
 refine rS (MV rfl) ?_
 refine r_bool (t := 32) rfl (fun h16 => ?_) (fun h16 => ?_)
 · replace h16 := XT h16
   refine rS (OX rfl) ?_
   refine rS (OX rfl) ?_
   refine rS (OX rfl) ?_
   refine rS (OX rfl) ?_
   refine rS (OX rfl) ?_
   refine rS (PK rfl) ?_
   refine rS (MV rfl) ?_
   refine rS (OX rfl) ?_
   refine rS (OX rfl) ?_
   refine rS (OX rfl) ?_
   refine rS (OX rfl) ?_
   refine rS (OX rfl) ?_
   refine rS (PK rfl) ?_
   refine RK hK4 ?_
   refine w_if_true rfl ?_
   refine WS fun _ hK17 => ?_
   refine rS (AG rfl) ?_
   refine RK hK17 ?_
   refine w_ret ?_
   refine Q1 hQ rfl rfl rfl ?_
   first | exact congrArg (Value.int .i64) (if_neg (by simp only [SledOk, SpanOk]; omega)).symm | exact congrArg (Value.int .i64) (if_pos (by simp only [SledOk, SpanOk]; omega)).symm
 replace h16 := XF h16
 refine rS (FA 7 rfl fo28_4 rfl) ?_
 refine rS (LP (SpanV.cells s.Weight) 3 rfl tk26 rfl rfl rfl) ?_
 refine r_bs (xs := [.tmp 34]) (cs := (SpanV.cells s.Weight)) rfl te31 tz26 rfl rfl rfl rfl (by simp [Value.cells, SpanV.cells_length]) rfl rfl fun b18 => ?_
 refine rS (CL (FnV.eq (swithin_c 50000 800000 ([s.Weight]) (some ⟨b18, 0, none⟩) 1 (by first | assumption | omega | (simp; done) | (simp; omega)) (by first | assumption | omega | (simp; done) | (simp; omega))) inSpans_one) (ha_cons (has_rd_blk 0 rfl rfl (by simp [SpanV.cells_length]) rfl) <| ha_nil) rfl) ?_
 refine rS (NT rfl) ?_
 refine rS (PK rfl) ?_
 refine rS (MV rfl) ?_
 refine r_bool (t := 39) rfl (fun h19 => ?_) (fun h19 => ?_)
 · replace h19 := XT h19
   refine rS (OX rfl) ?_
   refine rS (OX rfl) ?_
   refine rS (OX rfl) ?_
   refine rS (OX rfl) ?_
   refine rS (OX rfl) ?_
   refine rS (PK rfl) ?_
   refine RK hK4 ?_
   refine w_if_true rfl ?_
   refine WS fun _ hK20 => ?_
   refine rS (AG rfl) ?_
   refine RK hK20 ?_
   refine w_ret ?_
   refine Q1 hQ rfl rfl rfl ?_
   first | exact congrArg (Value.int .i64) (if_neg (by simp only [SledOk, SpanOk]; omega)).symm | exact congrArg (Value.int .i64) (if_pos (by simp only [SledOk, SpanOk]; omega)).symm
 replace h19 := XF h19
 refine rS (FA 9 rfl fo28_5 rfl) ?_
 refine rS (LP (SpanV.cells s.Steer) 4 rfl tk26 rfl rfl rfl) ?_
 refine r_bs (xs := [.tmp 41]) (cs := (SpanV.cells s.Steer)) rfl te31 tz26 rfl rfl rfl rfl (by simp [Value.cells, SpanV.cells_length]) rfl rfl fun b21 => ?_
 refine rS (CL (FnV.eq (swithin_c (-500) 500 ([s.Steer]) (some ⟨b21, 0, none⟩) 1 (by first | assumption | omega | (simp; done) | (simp; omega)) (by first | assumption | omega | (simp; done) | (simp; omega))) inSpans_one) (ha_cons (has_rd_blk 0 rfl rfl (by simp [SpanV.cells_length]) rfl) <| ha_nil) rfl) ?_
 refine rS (NT rfl) ?_
 refine rS (PK rfl) ?_
 refine RK hK4 ?_
 refine w_if rfl (fun h22 => ?_) (fun h22 => ?_)
 · replace h22 := XT h22
   refine WS fun _ hK23 => ?_
   refine rS (AG rfl) ?_
   refine RK hK23 ?_
   refine w_ret ?_
   refine Q1 hQ rfl rfl rfl ?_
   first | exact congrArg (Value.int .i64) (if_neg (by simp only [SledOk, SpanOk]; omega)).symm | exact congrArg (Value.int .i64) (if_pos (by simp only [SledOk, SpanOk]; omega)).symm
 replace h22 := XF h22
 refine WK hK3 ?_
 refine WS fun _ hK24 => ?_
 refine rS (AG rfl) ?_
 refine RK hK24 ?_
 refine w_ret ?_
 refine Q1 hQ rfl rfl rfl ?_
 first | exact congrArg (Value.int .i64) (if_neg (by simp only [SledOk, SpanOk]; omega)).symm | exact congrArg (Value.int .i64) (if_pos (by simp only [SledOk, SpanOk]; omega)).symm

set_option maxRecDepth 100000 in
set_option maxHeartbeats 400000 in
theorem track_c (ts : List StretchV) (tsA : Option Addr) (tsC : Nat) (hlen : ts.length ≤ 1000000) :
    FnV Try.prog 50 [(Value.agg (TrackV.cells (TrackV.mk (Slc.mk tsA ts.length tsC))).toArray)] [(rd tsA ts.length 9 (ts.map StretchV.cells))] (Value.bool (trackOk ts)) := by
 refine fnV_of go50 Try.func50 rfl rfl fun w0 Q hQ hN => ?_
 change WJ _ _ _ _ [(0, (Value.agg (TrackV.cells (TrackV.mk (Slc.mk tsA ts.length tsC))).toArray))] [(rd tsA ts.length 9 (ts.map StretchV.cells)).ro]
 refine WS fun _ hK1 => ?_
 refine BXA rfl fun b2 => ?_
 refine rS (AG rfl) ?_
 refine RK hK1 ?_
 refine w_seq fun _ hK3 => ?_
 refine WS fun _ hK4 => ?_
 refine rS (FA 0 rfl fo24_0 rfl) ?_
 refine rS (L1 (Value.slice tsA ts.length tsC) 0 rfl tk22 rfl rfl) ?_
 refine rS (LN rfl ut22) ?_
 refine rS (CL (within1_c ((ts.length : Nat) : Int) 1 12) (ha_nil) rfl) ?_
 refine rS (NT rfl) ?_
 refine RK hK4 ?_
 refine w_if rfl (fun h5 => ?_) (fun h5 => ?_)
 · replace h5 := XT h5
   refine WS fun _ hK6 => ?_
   refine rS (AG rfl) ?_
   refine RK hK6 ?_
   refine w_ret ?_
   refine Q1 hQ rfl rfl rfl ?_
   first | exact congrArg Value.bool (trackOk_len (by omega)).symm | exact congrArg Value.bool (trackOk_no hl0_1 hx (by simp only [StretchOk, SpanOk]; omega)).symm | exact congrArg Value.bool (trackOk_yes hl0_1 (by omega) (by omega)).symm
 replace h5 := XF h5
 refine WK hK3 ?_
 refine w_seq fun _ hK7 => ?_
 refine WS fun _ hK8 => ?_
 refine rS (AG rfl) ?_
 refine RK hK8 ?_
 refine w_block ?_
 have hinit : (0 ≤ ts.length) ∧ (trackFrom (-1) ts = trackFrom (lastId ts 0) (ts.drop 0)) ∧ (-1 ≤ lastId ts 0) := by (refine ⟨by omega, rfl, by simp [lastId]⟩)
 refine w_loop (ι := { z : Nat // (z ≤ ts.length) ∧ (trackFrom (-1) ts = trackFrom (lastId ts z) (ts.drop z)) ∧ (-1 ≤ lastId ts z) }) (fun z => [(1, (Value.pointer (some ⟨b2, 0, none⟩))), (3, (Value.int .i64 (z.1 : Int)))]) (fun z => [(blk b2 24 (TrackV.cells (TrackV.mk (Slc.mk tsA ts.length tsC)))), (rd tsA ts.length 9 (ts.map StretchV.cells)).ro]) (fun z => ts.length - z.1) ⟨0, hinit⟩ (Sub.cons rfl <| Sub.cons rfl <| Sub.nil _) (fun w hs => St.sel [0, 1] rfl rfl hs) ?_
 clear hinit
 rintro ⟨i, ⟨hl0_0, hl0_1, hl0_2⟩⟩ J9 hJ9
 change WJ _ _ _ _ [(1, (Value.pointer (some ⟨b2, 0, none⟩))), (3, (Value.int .i64 (i : Int)))] [(blk b2 24 (TrackV.cells (TrackV.mk (Slc.mk tsA ts.length tsC)))), (rd tsA ts.length 9 (ts.map StretchV.cells)).ro]
 have hz : i = 0 → lastId ts i = -1 := lastId_zero
 refine w_seq fun _ hK10 => ?_
 refine WS fun _ hK11 => ?_
 refine rS (MV rfl) ?_
 refine rS (FA 0 rfl fo24_0 rfl) ?_
 refine rS (L1 (Value.slice tsA ts.length tsC) 0 rfl tk22 rfl rfl) ?_
 refine rS (LN rfl ut22) ?_
 refine rS (BI rfl b_lss) ?_
 refine RK hK11 ?_
 refine w_if rfl (fun h12 => ?_) (fun h12 => ?_)
 rotate_left 1
 · replace h12 := DF h12
   refine w_exit ?_
   refine k_exit_then ?_
   refine k_exit_then ?_
   refine k_exit_same ?_
   refine KK hK7 ?_
   refine WS fun _ hK77 => ?_
   refine rS (AG rfl) ?_
   refine RK hK77 ?_
   refine w_ret ?_
   refine Q1 hQ rfl rfl rfl ?_
   first | exact congrArg Value.bool (trackOk_len (by omega)).symm | exact congrArg Value.bool (trackOk_no hl0_1 hx (by simp only [StretchOk, SpanOk]; omega)).symm | exact congrArg Value.bool (trackOk_yes hl0_1 (by omega) (by omega)).symm
 replace h12 := DT h12
 refine WK hK10 ?_
 refine w_seq fun _ hK13 => ?_
 refine w_block ?_
 refine WS fun _ hK14 => ?_
 refine rS (FA 0 rfl fo24_0 rfl) ?_
 refine rS (L1 (Value.slice tsA ts.length tsC) 0 rfl tk22 rfl rfl) ?_
 refine rS (MV rfl) ?_
 obtain ⟨x, hx⟩ : ∃ y_, ts[i]? = some y_ := ⟨ts[i]'(by omega), List.getElem?_eq_getElem _⟩
 have hxm : (ts.map StretchV.cells)[i]? = some (StretchV.cells x) := by rw [List.getElem?_map, hx]; rfl
 refine rS (IA i rfl (has_at 1 rfl) te22 (by decide) (by omega) (by omega)) ?_
 refine rS (LEN i 0 (StretchV.cells x) rfl tk77 (has_at 1 rfl) hxm rfl (by decide) rfl rfl) ?_
 refine AL rfl tz77 fun b15 => ?_
 refine SW0 rfl ts77 rfl ?_
 refine RK hK14 ?_
 refine w_seq fun _ hK16 => ?_
 refine w_seq fun _ hK17 => ?_
 refine w_draw mixed 38 (by kernel_rfl) ?_
 refine dS (FA 0 rfl fo77_0 rfl) ?_
 refine dS (L1 (Value.int .i64 x.Id) 0 rfl tk3 rfl rfl) ?_
 refine dS (CL (within1_c x.Id 0 9999) (ha_nil) rfl) ?_
 refine dS (NT rfl) ?_
 refine dS (MV rfl) ?_
 refine d_bool (t := 26) rfl (fun h18 => ?_) (fun h18 => ?_)
 · replace h18 := XT h18
   refine dS (OX rfl) ?_
   refine dS (OX rfl) ?_
   refine dS (OX rfl) ?_
   refine dS (OX rfl) ?_
   refine dS (OX rfl) ?_
   refine dS (OX rfl) ?_
   refine dS (OX rfl) ?_
   refine dS (OX rfl) ?_
   refine dS (OX rfl) ?_
   refine dS (OX rfl) ?_
   refine dS (OX rfl) ?_
   refine dS (OX rfl) ?_
   refine dS (OX rfl) ?_
   refine dS (OX rfl) ?_
   refine dS (PK rfl) ?_
   refine dS (MV rfl) ?_
   refine dS (OX rfl) ?_
   refine dS (OX rfl) ?_
   refine dS (OX rfl) ?_
   refine dS (OX rfl) ?_
   refine dS (PK rfl) ?_
   refine dS (MV rfl) ?_
   refine dS (OX rfl) ?_
   refine dS (OX rfl) ?_
   refine dS (OX rfl) ?_
   refine dS (OX rfl) ?_
   refine dS (PK rfl) ?_
   refine dS (MV rfl) ?_
   refine dS (OX rfl) ?_
   refine dS (OX rfl) ?_
   refine dS (OX rfl) ?_
   refine dS (OX rfl) ?_
   refine dS (PK rfl) ?_
   refine d_end ?_
   refine RK hK17 ?_
   refine w_if_true rfl ?_
   refine WS fun _ hK19 => ?_
   refine rS (AG rfl) ?_
   refine RK hK19 ?_
   refine w_ret ?_
   refine Q1 hQ rfl rfl rfl ?_
   first | exact congrArg Value.bool (trackOk_len (by omega)).symm | exact congrArg Value.bool (trackOk_no hl0_1 hx (by simp only [StretchOk, SpanOk]; omega)).symm | exact congrArg Value.bool (trackOk_yes hl0_1 (by omega) (by omega)).symm
 replace h18 := XF h18
 refine dS (MV rfl) ?_
 refine dS (BI rfl b_gtr) ?_
 refine dS (MV rfl) ?_
 refine d_bool (t := 29) rfl (fun h20 => ?_) (fun h20 => ?_)
 rotate_left 1
 · replace h20 := DF h20
   refine dS (OX rfl) ?_
   refine dS (OX rfl) ?_
   refine dS (OX rfl) ?_
   refine dS (OX rfl) ?_
   refine dS (OX rfl) ?_
   refine dS (OX rfl) ?_
   refine dS (OX rfl) ?_
   refine dS (OX rfl) ?_
   refine dS (OX rfl) ?_
   refine dS (OX rfl) ?_
   refine dS (PK rfl) ?_
   refine dS (PK rfl) ?_
   refine dS (MV rfl) ?_
   refine dS (FA 1 rfl fo77_1 rfl) ?_
   refine dS (LP (SpanV.cells x.Long) 0 rfl tk26 rfl rfl rfl) ?_
   refine dS (CL (span1_c x.Long 1 30000) (ha_nil) rfl) ?_
   refine dS (NT rfl) ?_
   refine dS (PK rfl) ?_
   refine dS (MV rfl) ?_
   refine d_bool (t := 48) rfl (fun h50 => ?_) (fun h50 => ?_)
   · replace h50 := XT h50
     refine dS (OX rfl) ?_
     refine dS (OX rfl) ?_
     refine dS (OX rfl) ?_
     refine dS (OX rfl) ?_
     refine dS (PK rfl) ?_
     refine dS (MV rfl) ?_
     refine dS (OX rfl) ?_
     refine dS (OX rfl) ?_
     refine dS (OX rfl) ?_
     refine dS (OX rfl) ?_
     refine dS (PK rfl) ?_
     refine d_end ?_
     refine RK hK17 ?_
     refine w_if_true rfl ?_
     refine WS fun _ hK51 => ?_
     refine rS (AG rfl) ?_
     refine RK hK51 ?_
     refine w_ret ?_
     refine Q1 hQ rfl rfl rfl ?_
     first | exact congrArg Value.bool (trackOk_len (by omega)).symm | exact congrArg Value.bool (trackOk_no hl0_1 hx (by simp only [StretchOk, SpanOk]; omega)).symm | exact congrArg Value.bool (trackOk_yes hl0_1 (by omega) (by omega)).symm
   replace h50 := XF h50
   refine dS (FA 3 rfl fo77_2 rfl) ?_
   refine dS (LP (SpanV.cells x.Fall) 0 rfl tk26 rfl rfl rfl) ?_
   refine dS (CL (span1_c x.Fall 0 5000) (ha_nil) rfl) ?_
   refine dS (NT rfl) ?_
   refine dS (PK rfl) ?_
   refine dS (MV rfl) ?_
   refine d_bool (t := 54) rfl (fun h52 => ?_) (fun h52 => ?_)
   · replace h52 := XT h52
     refine dS (OX rfl) ?_
     refine dS (OX rfl) ?_
     refine dS (OX rfl) ?_
     refine dS (OX rfl) ?_
     refine dS (PK rfl) ?_
     refine d_end ?_
     refine RK hK17 ?_
     refine w_if_true rfl ?_
     refine WS fun _ hK53 => ?_
     refine rS (AG rfl) ?_
     refine RK hK53 ?_
     refine w_ret ?_
     refine Q1 hQ rfl rfl rfl ?_
     first | exact congrArg Value.bool (trackOk_len (by omega)).symm | exact congrArg Value.bool (trackOk_no hl0_1 hx (by simp only [StretchOk, SpanOk]; omega)).symm | exact congrArg Value.bool (trackOk_yes hl0_1 (by omega) (by omega)).symm
   replace h52 := XF h52
   refine dS (FA 8 rfl fo77_5 rfl) ?_
   refine dS (L1 (Value.int .i64 x.Wall) 0 rfl tk3 rfl rfl) ?_
   refine dS (CL (within1_c x.Wall 0 5000) (ha_nil) rfl) ?_
   refine dS (NT rfl) ?_
   refine dS (PK rfl) ?_
   refine d_end ?_
   refine RK hK17 ?_
   refine w_if rfl (fun h54 => ?_) (fun h54 => ?_)
   · replace h54 := XT h54
     refine WS fun _ hK55 => ?_
     refine rS (AG rfl) ?_
     refine RK hK55 ?_
     refine w_ret ?_
     refine Q1 hQ rfl rfl rfl ?_
     first | exact congrArg Value.bool (trackOk_len (by omega)).symm | exact congrArg Value.bool (trackOk_no hl0_1 hx (by simp only [StretchOk, SpanOk]; omega)).symm | exact congrArg Value.bool (trackOk_yes hl0_1 (by omega) (by omega)).symm
   replace h54 := XF h54
   refine WK hK16 ?_
   refine WS fun _ hK56 => ?_
   refine rS (FA 7 rfl fo77_4 rfl) ?_
   refine rS (L1 (Value.int .u8 x.Side) 0 rfl tk5 rfl rfl) ?_
   refine RK hK56 ?_
   refine w_block ?_
   refine WS fun _ hK57 => ?_
   refine rS (BI rfl b_eql) ?_
   refine rS (AG rfl) ?_
   refine RK hK57 ?_
   refine w_if rfl (fun h58 => ?_) (fun h58 => ?_)
   · replace h58 := DT h58
     refine WS fun _ hK59 => ?_
     refine rS (FA 5 rfl fo77_3 rfl) ?_
     refine rS (FA 5 rfl fo26_0 rfl) ?_
     refine rS (L1 (Value.int .i64 x.Radius.Lo) 0 rfl tk3 rfl rfl) ?_
     refine rS (BI rfl b_neq) ?_
     refine rS (MV rfl) ?_
     refine r_bool (t := 68) rfl (fun h60 => ?_) (fun h60 => ?_)
     · replace h60 := XT h60
       refine rS (OX rfl) ?_
       refine rS (OX rfl) ?_
       refine rS (OX rfl) ?_
       refine rS (OX rfl) ?_
       refine rS (PK rfl) ?_
       refine RK hK59 ?_
       refine w_if_true rfl ?_
       refine WS fun _ hK61 => ?_
       refine rS (AG rfl) ?_
       refine RK hK61 ?_
       refine w_ret ?_
       refine Q1 hQ rfl rfl rfl ?_
       first | exact congrArg Value.bool (trackOk_len (by omega)).symm | exact congrArg Value.bool (trackOk_no hl0_1 hx (by simp only [StretchOk, SpanOk]; omega)).symm | exact congrArg Value.bool (trackOk_yes hl0_1 (by omega) (by omega)).symm
     replace h60 := XF h60
     refine rS (FA 5 rfl fo77_3 rfl) ?_
     refine rS (FA 6 rfl fo26_1 rfl) ?_
     refine rS (L1 (Value.int .i64 x.Radius.Hi) 0 rfl tk3 rfl rfl) ?_
     refine rS (BI rfl b_neq) ?_
     refine rS (PK rfl) ?_
     refine RK hK59 ?_
     refine w_if rfl (fun h62 => ?_) (fun h62 => ?_)
     · replace h62 := XT h62
       refine WS fun _ hK63 => ?_
       refine rS (AG rfl) ?_
       refine RK hK63 ?_
       refine w_ret ?_
       refine Q1 hQ rfl rfl rfl ?_
       first | exact congrArg Value.bool (trackOk_len (by omega)).symm | exact congrArg Value.bool (trackOk_no hl0_1 hx (by simp only [StretchOk, SpanOk]; omega)).symm | exact congrArg Value.bool (trackOk_yes hl0_1 (by omega) (by omega)).symm
     replace h62 := XF h62
     refine w_skip ?_
     refine k_block ?_
     refine k_block ?_
     refine KK hK13 ?_
     refine w_region ?_
     refine rS (MV rfl) ?_
     refine rS (BI rfl (b_add ⟨by omega, by omega⟩)) ?_
     refine rS (AG rfl) ?_
     refine r_nil ?_
     refine k_then (hJ9 ⟨(i + 1), ⟨by omega, trackFrom_next hl0_1 hx (by simp only [StretchOk, SpanOk]; omega), by rw [lastId_succ hx]; omega⟩⟩ _ _ _ rfl (by first | omega | (simp; omega)) (Sub.cons rfl <| Sub.cons rfl <| Sub.nil _) (fun w hs => St.sel [1, 2] rfl rfl hs))
   replace h58 := DF h58
   refine w_seq fun _ hK64 => ?_
   refine WS fun _ hK65 => ?_
   refine rS (BI rfl b_eql) ?_
   refine rS (AG rfl) ?_
   refine RK hK65 ?_
   refine w_if rfl (fun h66 => ?_) (fun h66 => ?_)
   · replace h66 := DT h66
     refine WK hK64 ?_
     refine w_if rfl (fun h67 => ?_) (fun h67 => ?_)
     rotate_left 1
     · replace h67 := DF h67
       refine WS fun _ hK71 => ?_
       refine rS (AG rfl) ?_
       refine RK hK71 ?_
       refine w_ret ?_
       refine Q1 hQ rfl rfl rfl ?_
       first | exact congrArg Value.bool (trackOk_len (by omega)).symm | exact congrArg Value.bool (trackOk_no hl0_1 hx (by simp only [StretchOk, SpanOk]; omega)).symm | exact congrArg Value.bool (trackOk_yes hl0_1 (by omega) (by omega)).symm
     replace h67 := DT h67
     refine WS fun _ hK68 => ?_
     refine rS (FA 5 rfl fo77_3 rfl) ?_
     refine rS (LP (SpanV.cells x.Radius) 0 rfl tk26 rfl rfl rfl) ?_
     refine rS (CL (span1_c x.Radius 500 20000) (ha_nil) rfl) ?_
     refine rS (NT rfl) ?_
     refine RK hK68 ?_
     refine w_if rfl (fun h69 => ?_) (fun h69 => ?_)
     · replace h69 := XT h69
       refine WS fun _ hK70 => ?_
       refine rS (AG rfl) ?_
       refine RK hK70 ?_
       refine w_ret ?_
       refine Q1 hQ rfl rfl rfl ?_
       first | exact congrArg Value.bool (trackOk_len (by omega)).symm | exact congrArg Value.bool (trackOk_no hl0_1 hx (by simp only [StretchOk, SpanOk]; omega)).symm | exact congrArg Value.bool (trackOk_yes hl0_1 (by omega) (by omega)).symm
     replace h69 := XF h69
     refine w_skip ?_
     refine k_block ?_
     refine k_block ?_
     refine KK hK13 ?_
     refine w_region ?_
     refine rS (MV rfl) ?_
     refine rS (BI rfl (b_add ⟨by omega, by omega⟩)) ?_
     refine rS (AG rfl) ?_
     refine r_nil ?_
     refine k_then (hJ9 ⟨(i + 1), ⟨by omega, trackFrom_next hl0_1 hx (by simp only [StretchOk, SpanOk]; omega), by rw [lastId_succ hx]; omega⟩⟩ _ _ _ rfl (by first | omega | (simp; omega)) (Sub.cons rfl <| Sub.cons rfl <| Sub.nil _) (fun w hs => St.sel [1, 2] rfl rfl hs))
   replace h66 := DF h66
   refine w_region ?_
   refine rS (BI rfl b_eql) ?_
   refine rS (AG rfl) ?_
   refine RK hK64 ?_
   refine w_if rfl (fun h72 => ?_) (fun h72 => ?_)
   rotate_left 1
   · replace h72 := DF h72
     refine WS fun _ hK76 => ?_
     refine rS (AG rfl) ?_
     refine RK hK76 ?_
     refine w_ret ?_
     refine Q1 hQ rfl rfl rfl ?_
     first | exact congrArg Value.bool (trackOk_len (by omega)).symm | exact congrArg Value.bool (trackOk_no hl0_1 hx (by simp only [StretchOk, SpanOk]; omega)).symm | exact congrArg Value.bool (trackOk_yes hl0_1 (by omega) (by omega)).symm
   replace h72 := DT h72
   refine WS fun _ hK73 => ?_
   refine rS (FA 5 rfl fo77_3 rfl) ?_
   refine rS (LP (SpanV.cells x.Radius) 0 rfl tk26 rfl rfl rfl) ?_
   refine rS (CL (span1_c x.Radius 500 20000) (ha_nil) rfl) ?_
   refine rS (NT rfl) ?_
   refine RK hK73 ?_
   refine w_if rfl (fun h74 => ?_) (fun h74 => ?_)
   · replace h74 := XT h74
     refine WS fun _ hK75 => ?_
     refine rS (AG rfl) ?_
     refine RK hK75 ?_
     refine w_ret ?_
     refine Q1 hQ rfl rfl rfl ?_
     first | exact congrArg Value.bool (trackOk_len (by omega)).symm | exact congrArg Value.bool (trackOk_no hl0_1 hx (by simp only [StretchOk, SpanOk]; omega)).symm | exact congrArg Value.bool (trackOk_yes hl0_1 (by omega) (by omega)).symm
   replace h74 := XF h74
   refine w_skip ?_
   refine k_block ?_
   refine k_block ?_
   refine KK hK13 ?_
   refine w_region ?_
   refine rS (MV rfl) ?_
   refine rS (BI rfl (b_add ⟨by omega, by omega⟩)) ?_
   refine rS (AG rfl) ?_
   refine r_nil ?_
   refine k_then (hJ9 ⟨(i + 1), ⟨by omega, trackFrom_next hl0_1 hx (by simp only [StretchOk, SpanOk]; omega), by rw [lastId_succ hx]; omega⟩⟩ _ _ _ rfl (by first | omega | (simp; omega)) (Sub.cons rfl <| Sub.cons rfl <| Sub.nil _) (fun w hs => St.sel [1, 2] rfl rfl hs))
 replace h20 := DT h20
 refine dS (FA 0 rfl fo77_0 rfl) ?_
 refine dS (L1 (Value.int .i64 x.Id) 0 rfl tk3 rfl rfl) ?_
 refine dS (FA 0 rfl fo24_0 rfl) ?_
 refine dS (L1 (Value.slice tsA ts.length tsC) 1 rfl tk22 rfl rfl) ?_
 refine dS (MV rfl) ?_
 refine dS (BI rfl (b_sub ⟨by omega, by omega⟩)) ?_
 obtain ⟨y, hy⟩ : ∃ y_, ts[(i - 1)]? = some y_ := ⟨ts[(i - 1)]'(by omega), List.getElem?_eq_getElem _⟩
 have hym : (ts.map StretchV.cells)[(i - 1)]? = some (StretchV.cells y) := by rw [List.getElem?_map, hy]; rfl
 refine dS (IA (i - 1) rfl (has_at 2 rfl) te22 (by decide) (by omega) (by omega)) ?_
 refine dS (FAR ((i - 1) * 9) rfl (has_at 2 rfl) (Nat.mul_pos (by omega) (by decide)) fo77_0 rfl) ?_
 have hyl := lastId_pos (by omega) hy
 refine dS (LE1 (i - 1) 0 (Value.int .i64 y.Id) rfl tk3 (has_at 2 rfl) hym rfl (by decide) rfl) ?_
 refine dS (BI rfl b_leq) ?_
 refine dS (PK rfl) ?_
 refine dS (PK rfl) ?_
 refine dS (MV rfl) ?_
 refine d_bool (t := 42) rfl (fun h21 => ?_) (fun h21 => ?_)
 · replace h21 := DT h21
   refine dS (OX rfl) ?_
   refine dS (OX rfl) ?_
   refine dS (OX rfl) ?_
   refine dS (OX rfl) ?_
   refine dS (PK rfl) ?_
   refine dS (MV rfl) ?_
   refine dS (OX rfl) ?_
   refine dS (OX rfl) ?_
   refine dS (OX rfl) ?_
   refine dS (OX rfl) ?_
   refine dS (PK rfl) ?_
   refine dS (MV rfl) ?_
   refine dS (OX rfl) ?_
   refine dS (OX rfl) ?_
   refine dS (OX rfl) ?_
   refine dS (OX rfl) ?_
   refine dS (PK rfl) ?_
   refine d_end ?_
   refine RK hK17 ?_
   refine w_if_true rfl ?_
   refine WS fun _ hK22 => ?_
   refine rS (AG rfl) ?_
   refine RK hK22 ?_
   refine w_ret ?_
   refine Q1 hQ rfl rfl rfl ?_
   first | exact congrArg Value.bool (trackOk_len (by omega)).symm | exact congrArg Value.bool (trackOk_no hl0_1 hx (by simp only [StretchOk, SpanOk]; omega)).symm | exact congrArg Value.bool (trackOk_yes hl0_1 (by omega) (by omega)).symm
 replace h21 := DF h21
 refine dS (FA 1 rfl fo77_1 rfl) ?_
 refine dS (LP (SpanV.cells x.Long) 0 rfl tk26 rfl rfl rfl) ?_
 refine dS (CL (span1_c x.Long 1 30000) (ha_nil) rfl) ?_
 refine dS (NT rfl) ?_
 refine dS (PK rfl) ?_
 refine dS (MV rfl) ?_
 refine d_bool (t := 48) rfl (fun h23 => ?_) (fun h23 => ?_)
 · replace h23 := XT h23
   refine dS (OX rfl) ?_
   refine dS (OX rfl) ?_
   refine dS (OX rfl) ?_
   refine dS (OX rfl) ?_
   refine dS (PK rfl) ?_
   refine dS (MV rfl) ?_
   refine dS (OX rfl) ?_
   refine dS (OX rfl) ?_
   refine dS (OX rfl) ?_
   refine dS (OX rfl) ?_
   refine dS (PK rfl) ?_
   refine d_end ?_
   refine RK hK17 ?_
   refine w_if_true rfl ?_
   refine WS fun _ hK24 => ?_
   refine rS (AG rfl) ?_
   refine RK hK24 ?_
   refine w_ret ?_
   refine Q1 hQ rfl rfl rfl ?_
   first | exact congrArg Value.bool (trackOk_len (by omega)).symm | exact congrArg Value.bool (trackOk_no hl0_1 hx (by simp only [StretchOk, SpanOk]; omega)).symm | exact congrArg Value.bool (trackOk_yes hl0_1 (by omega) (by omega)).symm
 replace h23 := XF h23
 refine dS (FA 3 rfl fo77_2 rfl) ?_
 refine dS (LP (SpanV.cells x.Fall) 0 rfl tk26 rfl rfl rfl) ?_
 refine dS (CL (span1_c x.Fall 0 5000) (ha_nil) rfl) ?_
 refine dS (NT rfl) ?_
 refine dS (PK rfl) ?_
 refine dS (MV rfl) ?_
 refine d_bool (t := 54) rfl (fun h25 => ?_) (fun h25 => ?_)
 · replace h25 := XT h25
   refine dS (OX rfl) ?_
   refine dS (OX rfl) ?_
   refine dS (OX rfl) ?_
   refine dS (OX rfl) ?_
   refine dS (PK rfl) ?_
   refine d_end ?_
   refine RK hK17 ?_
   refine w_if_true rfl ?_
   refine WS fun _ hK26 => ?_
   refine rS (AG rfl) ?_
   refine RK hK26 ?_
   refine w_ret ?_
   refine Q1 hQ rfl rfl rfl ?_
   first | exact congrArg Value.bool (trackOk_len (by omega)).symm | exact congrArg Value.bool (trackOk_no hl0_1 hx (by simp only [StretchOk, SpanOk]; omega)).symm | exact congrArg Value.bool (trackOk_yes hl0_1 (by omega) (by omega)).symm
 replace h25 := XF h25
 refine dS (FA 8 rfl fo77_5 rfl) ?_
 refine dS (L1 (Value.int .i64 x.Wall) 0 rfl tk3 rfl rfl) ?_
 refine dS (CL (within1_c x.Wall 0 5000) (ha_nil) rfl) ?_
 refine dS (NT rfl) ?_
 refine dS (PK rfl) ?_
 refine d_end ?_
 refine RK hK17 ?_
 refine w_if rfl (fun h27 => ?_) (fun h27 => ?_)
 · replace h27 := XT h27
   refine WS fun _ hK28 => ?_
   refine rS (AG rfl) ?_
   refine RK hK28 ?_
   refine w_ret ?_
   refine Q1 hQ rfl rfl rfl ?_
   first | exact congrArg Value.bool (trackOk_len (by omega)).symm | exact congrArg Value.bool (trackOk_no hl0_1 hx (by simp only [StretchOk, SpanOk]; omega)).symm | exact congrArg Value.bool (trackOk_yes hl0_1 (by omega) (by omega)).symm
 replace h27 := XF h27
 refine WK hK16 ?_
 refine WS fun _ hK29 => ?_
 refine rS (FA 7 rfl fo77_4 rfl) ?_
 refine rS (L1 (Value.int .u8 x.Side) 0 rfl tk5 rfl rfl) ?_
 refine RK hK29 ?_
 refine w_block ?_
 refine WS fun _ hK30 => ?_
 refine rS (BI rfl b_eql) ?_
 refine rS (AG rfl) ?_
 refine RK hK30 ?_
 refine w_if rfl (fun h31 => ?_) (fun h31 => ?_)
 · replace h31 := DT h31
   refine WS fun _ hK32 => ?_
   refine rS (FA 5 rfl fo77_3 rfl) ?_
   refine rS (FA 5 rfl fo26_0 rfl) ?_
   refine rS (L1 (Value.int .i64 x.Radius.Lo) 0 rfl tk3 rfl rfl) ?_
   refine rS (BI rfl b_neq) ?_
   refine rS (MV rfl) ?_
   refine r_bool (t := 68) rfl (fun h33 => ?_) (fun h33 => ?_)
   · replace h33 := XT h33
     refine rS (OX rfl) ?_
     refine rS (OX rfl) ?_
     refine rS (OX rfl) ?_
     refine rS (OX rfl) ?_
     refine rS (PK rfl) ?_
     refine RK hK32 ?_
     refine w_if_true rfl ?_
     refine WS fun _ hK34 => ?_
     refine rS (AG rfl) ?_
     refine RK hK34 ?_
     refine w_ret ?_
     refine Q1 hQ rfl rfl rfl ?_
     first | exact congrArg Value.bool (trackOk_len (by omega)).symm | exact congrArg Value.bool (trackOk_no hl0_1 hx (by simp only [StretchOk, SpanOk]; omega)).symm | exact congrArg Value.bool (trackOk_yes hl0_1 (by omega) (by omega)).symm
   replace h33 := XF h33
   refine rS (FA 5 rfl fo77_3 rfl) ?_
   refine rS (FA 6 rfl fo26_1 rfl) ?_
   refine rS (L1 (Value.int .i64 x.Radius.Hi) 0 rfl tk3 rfl rfl) ?_
   refine rS (BI rfl b_neq) ?_
   refine rS (PK rfl) ?_
   refine RK hK32 ?_
   refine w_if rfl (fun h35 => ?_) (fun h35 => ?_)
   · replace h35 := XT h35
     refine WS fun _ hK36 => ?_
     refine rS (AG rfl) ?_
     refine RK hK36 ?_
     refine w_ret ?_
     refine Q1 hQ rfl rfl rfl ?_
     first | exact congrArg Value.bool (trackOk_len (by omega)).symm | exact congrArg Value.bool (trackOk_no hl0_1 hx (by simp only [StretchOk, SpanOk]; omega)).symm | exact congrArg Value.bool (trackOk_yes hl0_1 (by omega) (by omega)).symm
   replace h35 := XF h35
   refine w_skip ?_
   refine k_block ?_
   refine k_block ?_
   refine KK hK13 ?_
   refine w_region ?_
   refine rS (MV rfl) ?_
   refine rS (BI rfl (b_add ⟨by omega, by omega⟩)) ?_
   refine rS (AG rfl) ?_
   refine r_nil ?_
   refine k_then (hJ9 ⟨(i + 1), ⟨by omega, trackFrom_next hl0_1 hx (by simp only [StretchOk, SpanOk]; omega), by rw [lastId_succ hx]; omega⟩⟩ _ _ _ rfl (by first | omega | (simp; omega)) (Sub.cons rfl <| Sub.cons rfl <| Sub.nil _) (fun w hs => St.sel [1, 2] rfl rfl hs))
 replace h31 := DF h31
 refine w_seq fun _ hK37 => ?_
 refine WS fun _ hK38 => ?_
 refine rS (BI rfl b_eql) ?_
 refine rS (AG rfl) ?_
 refine RK hK38 ?_
 refine w_if rfl (fun h39 => ?_) (fun h39 => ?_)
 · replace h39 := DT h39
   refine WK hK37 ?_
   refine w_if rfl (fun h40 => ?_) (fun h40 => ?_)
   rotate_left 1
   · replace h40 := DF h40
     refine WS fun _ hK44 => ?_
     refine rS (AG rfl) ?_
     refine RK hK44 ?_
     refine w_ret ?_
     refine Q1 hQ rfl rfl rfl ?_
     first | exact congrArg Value.bool (trackOk_len (by omega)).symm | exact congrArg Value.bool (trackOk_no hl0_1 hx (by simp only [StretchOk, SpanOk]; omega)).symm | exact congrArg Value.bool (trackOk_yes hl0_1 (by omega) (by omega)).symm
   replace h40 := DT h40
   refine WS fun _ hK41 => ?_
   refine rS (FA 5 rfl fo77_3 rfl) ?_
   refine rS (LP (SpanV.cells x.Radius) 0 rfl tk26 rfl rfl rfl) ?_
   refine rS (CL (span1_c x.Radius 500 20000) (ha_nil) rfl) ?_
   refine rS (NT rfl) ?_
   refine RK hK41 ?_
   refine w_if rfl (fun h42 => ?_) (fun h42 => ?_)
   · replace h42 := XT h42
     refine WS fun _ hK43 => ?_
     refine rS (AG rfl) ?_
     refine RK hK43 ?_
     refine w_ret ?_
     refine Q1 hQ rfl rfl rfl ?_
     first | exact congrArg Value.bool (trackOk_len (by omega)).symm | exact congrArg Value.bool (trackOk_no hl0_1 hx (by simp only [StretchOk, SpanOk]; omega)).symm | exact congrArg Value.bool (trackOk_yes hl0_1 (by omega) (by omega)).symm
   replace h42 := XF h42
   refine w_skip ?_
   refine k_block ?_
   refine k_block ?_
   refine KK hK13 ?_
   refine w_region ?_
   refine rS (MV rfl) ?_
   refine rS (BI rfl (b_add ⟨by omega, by omega⟩)) ?_
   refine rS (AG rfl) ?_
   refine r_nil ?_
   refine k_then (hJ9 ⟨(i + 1), ⟨by omega, trackFrom_next hl0_1 hx (by simp only [StretchOk, SpanOk]; omega), by rw [lastId_succ hx]; omega⟩⟩ _ _ _ rfl (by first | omega | (simp; omega)) (Sub.cons rfl <| Sub.cons rfl <| Sub.nil _) (fun w hs => St.sel [1, 2] rfl rfl hs))
 replace h39 := DF h39
 refine w_region ?_
 refine rS (BI rfl b_eql) ?_
 refine rS (AG rfl) ?_
 refine RK hK37 ?_
 refine w_if rfl (fun h45 => ?_) (fun h45 => ?_)
 rotate_left 1
 · replace h45 := DF h45
   refine WS fun _ hK49 => ?_
   refine rS (AG rfl) ?_
   refine RK hK49 ?_
   refine w_ret ?_
   refine Q1 hQ rfl rfl rfl ?_
   first | exact congrArg Value.bool (trackOk_len (by omega)).symm | exact congrArg Value.bool (trackOk_no hl0_1 hx (by simp only [StretchOk, SpanOk]; omega)).symm | exact congrArg Value.bool (trackOk_yes hl0_1 (by omega) (by omega)).symm
 replace h45 := DT h45
 refine WS fun _ hK46 => ?_
 refine rS (FA 5 rfl fo77_3 rfl) ?_
 refine rS (LP (SpanV.cells x.Radius) 0 rfl tk26 rfl rfl rfl) ?_
 refine rS (CL (span1_c x.Radius 500 20000) (ha_nil) rfl) ?_
 refine rS (NT rfl) ?_
 refine RK hK46 ?_
 refine w_if rfl (fun h47 => ?_) (fun h47 => ?_)
 · replace h47 := XT h47
   refine WS fun _ hK48 => ?_
   refine rS (AG rfl) ?_
   refine RK hK48 ?_
   refine w_ret ?_
   refine Q1 hQ rfl rfl rfl ?_
   first | exact congrArg Value.bool (trackOk_len (by omega)).symm | exact congrArg Value.bool (trackOk_no hl0_1 hx (by simp only [StretchOk, SpanOk]; omega)).symm | exact congrArg Value.bool (trackOk_yes hl0_1 (by omega) (by omega)).symm
 replace h47 := XF h47
 refine w_skip ?_
 refine k_block ?_
 refine k_block ?_
 refine KK hK13 ?_
 refine w_region ?_
 refine rS (MV rfl) ?_
 refine rS (BI rfl (b_add ⟨by omega, by omega⟩)) ?_
 refine rS (AG rfl) ?_
 refine r_nil ?_
 refine k_then (hJ9 ⟨(i + 1), ⟨by omega, trackFrom_next hl0_1 hx (by simp only [StretchOk, SpanOk]; omega), by rw [lastId_succ hx]; omega⟩⟩ _ _ _ rfl (by first | omega | (simp; omega)) (Sub.cons rfl <| Sub.cons rfl <| Sub.nil _) (fun w hs => St.sel [1, 2] rfl rfl hs))

set_option maxRecDepth 100000 in
set_option maxHeartbeats 400000 in
theorem tcheck_c (ts : List StretchV) (tsA : Option Addr) (tsC : Nat) (hlen : ts.length ≤ 1000000) (hside : ∀ x ∈ ts, 0 ≤ x.Side ∧ x.Side ≤ 255) :
    FnV Try.prog 82 [(Value.agg (TrackV.cells (TrackV.mk (Slc.mk tsA ts.length tsC))).toArray)] [(rd tsA ts.length 9 (ts.map StretchV.cells))] (Value.int .i64 (if trackOk ts = true then 0 else 10)) := by
 refine fnV_of go82 Try.func82 rfl rfl fun w0 Q hQ hN => ?_
 change WJ _ _ _ _ [(0, (Value.agg (TrackV.cells (TrackV.mk (Slc.mk tsA ts.length tsC))).toArray))] [(rd tsA ts.length 9 (ts.map StretchV.cells)).ro]
 refine WS fun _ hK1 => ?_
 refine BXA rfl fun b2 => ?_
 refine rS (AG rfl) ?_
 refine RK hK1 ?_
 refine w_scope rfl ?_
 refine w_seq fun _ hK3 => ?_
 refine WS fun _ hK4 => ?_
 refine rS (FA 0 rfl fo24_0 rfl) ?_
 refine rS (L1 (Value.slice tsA ts.length tsC) 0 rfl tk22 rfl rfl) ?_
 refine rS (LN rfl ut22) ?_
 refine r_bs (xs := [.tmp 11]) (cs := [(Value.int .i64 ((ts.length : Nat) : Int))]) rfl te61 tz3 rfl rfl rfl rfl (by simp [Value.cells]) rfl rfl fun b5 => ?_
 refine rS (CL (FnV.eq (in_c 1 12 ([((ts.length : Nat) : Int)]) (some ⟨b5, 0, none⟩) 1 (by first | assumption | omega | (simp; done) | (simp; omega))) inAll_one) (ha_cons (has_rd_blk 0 rfl rfl (by simp [iC_length]) rfl) <| ha_nil) rfl) ?_
 refine rS (NT rfl) ?_
 refine RK hK4 ?_
 refine w_if rfl (fun h6 => ?_) (fun h6 => ?_)
 · replace h6 := XT h6
   refine WS fun _ hK7 => ?_
   refine rS (AG rfl) ?_
   refine RK hK7 ?_
   refine w_ret ?_
   refine Q1 hQ rfl rfl rfl ?_
   first | exact congrArg (Value.int .i64) (if_neg (by rw [trackOk_len (by omega)]; decide)).symm | exact congrArg (Value.int .i64) (if_neg (by rw [trackOk_no hl0_1 hx (by simp only [StretchOk, SpanOk]; omega)]; decide)).symm | exact congrArg (Value.int .i64) (if_pos (trackOk_yes hl0_1 (by omega) (by omega))).symm
 replace h6 := XF h6
 refine WK hK3 ?_
 refine WS fun _ hK8 => ?_
 refine rS (AG rfl) ?_
 refine RK hK8 ?_
 refine WS fun _ hK9 => ?_
 refine rS (AG rfl) ?_
 refine RK hK9 ?_
 refine w_seq fun _ hK10 => ?_
 refine w_label ?_
 refine KK hK10 ?_
 refine w_seq fun _ hK11 => ?_
 refine WS fun _ hK12 => ?_
 refine rS (FA 0 rfl fo24_0 rfl) ?_
 refine rS (L1 (Value.slice tsA ts.length tsC) 1 rfl tk22 rfl rfl) ?_
 refine rS (LN rfl ut22) ?_
 refine rS (MV rfl) ?_
 refine RK hK12 ?_
 refine w_block ?_
 have hinit : (0 ≤ ts.length) ∧ (trackFrom (-1) ts = trackFrom (lastId ts 0) (ts.drop 0)) ∧ (-1 ≤ lastId ts 0) ∧ (lastId ts 0 ≤ 9999) := by (refine ⟨by omega, rfl, by simp [lastId], by simp [lastId]⟩)
 refine w_loop (ι := { z : Nat // (z ≤ ts.length) ∧ (trackFrom (-1) ts = trackFrom (lastId ts z) (ts.drop z)) ∧ (-1 ≤ lastId ts z) ∧ (lastId ts z ≤ 9999) }) (fun z => [(1, (Value.pointer (some ⟨b2, 0, none⟩))), (3, (Value.int .i64 (lastId ts z.1))), (4, (Value.int .i64 0)), (16, (Value.slice tsA ts.length tsC)), (17, (Value.int .i64 ((ts.length : Nat) : Int))), (18, (Value.int .i64 (z.1 : Int)))]) (fun z => [(blk b2 24 (TrackV.cells (TrackV.mk (Slc.mk tsA ts.length tsC)))), (rd tsA ts.length 9 (ts.map StretchV.cells)).ro]) (fun z => ts.length - z.1) ⟨0, hinit⟩ (Sub.cons rfl <| Sub.cons rfl <| Sub.cons rfl <| Sub.cons rfl <| Sub.cons rfl <| Sub.cons rfl <| Sub.nil _) (fun w hs => St.sel [1, 2] rfl rfl hs) ?_
 clear hinit
 rintro ⟨i, ⟨hl0_0, hl0_1, hl0_2, hl0_3⟩⟩ J13 hJ13
 change WJ _ _ _ _ [(1, (Value.pointer (some ⟨b2, 0, none⟩))), (3, (Value.int .i64 (lastId ts i))), (4, (Value.int .i64 0)), (16, (Value.slice tsA ts.length tsC)), (17, (Value.int .i64 ((ts.length : Nat) : Int))), (18, (Value.int .i64 (i : Int)))] [(blk b2 24 (TrackV.cells (TrackV.mk (Slc.mk tsA ts.length tsC)))), (rd tsA ts.length 9 (ts.map StretchV.cells)).ro]
 refine WS fun _ hK14 => ?_
 refine rS (BI rfl b_lss) ?_
 refine RK hK14 ?_
 refine w_seq fun _ hK15 => ?_
 refine w_if rfl (fun h16 => ?_) (fun h16 => ?_)
 rotate_left 1
 · replace h16 := DF h16
   refine w_exit ?_
   refine k_exit_then ?_
   refine k_exit_then ?_
   refine k_exit_same ?_
   refine KK hK11 ?_
   refine WS fun _ hK51 => ?_
   refine rS (MV rfl) ?_
   refine rS (AG rfl) ?_
   refine RK hK51 ?_
   refine w_ret ?_
   refine Q1 hQ rfl rfl rfl ?_
   first | exact congrArg (Value.int .i64) (if_neg (by rw [trackOk_len (by omega)]; decide)).symm | exact congrArg (Value.int .i64) (if_neg (by rw [trackOk_no hl0_1 hx (by simp only [StretchOk, SpanOk]; omega)]; decide)).symm | exact congrArg (Value.int .i64) (if_pos (trackOk_yes hl0_1 (by omega) (by omega))).symm
 replace h16 := DT h16
 refine WK hK15 ?_
 refine w_seq fun _ hK17 => ?_
 refine w_block ?_
 refine WS fun _ hK18 => ?_
 obtain ⟨x, hx⟩ : ∃ y_, ts[i]? = some y_ := ⟨ts[i]'(by omega), List.getElem?_eq_getElem _⟩
 have hxm : (ts.map StretchV.cells)[i]? = some (StretchV.cells x) := by rw [List.getElem?_map, hx]; rfl
 refine rS (IA i rfl (has_at 1 rfl) te22 (by decide) (by omega) (by omega)) ?_
 have hsd := hside x (List.mem_of_getElem? hx)
 refine rS (LEN i 0 (StretchV.cells x) rfl tk77 (has_at 1 rfl) hxm rfl (by decide) rfl rfl) ?_
 refine AL rfl tz77 fun b19 => ?_
 refine SW0 rfl ts77 rfl ?_
 refine RK hK18 ?_
 refine w_join (ι := Unit) (fun z => [(1, (Value.pointer (some ⟨b2, 0, none⟩))), (3, (Value.int .i64 (lastId ts i))), (4, (Value.int .i64 0)), (6, (Value.pointer (some ⟨b19, 0, none⟩))), (7, (Value.bool (decide (x.Side = 0 ∧ x.Radius.Lo = 0 ∧ x.Radius.Hi = 0)))), (16, (Value.slice tsA ts.length tsC)), (17, (Value.int .i64 ((ts.length : Nat) : Int))), (18, (Value.int .i64 (i : Int)))]) (fun z => [(blk b19 77 (StretchV.cells x)), (blk b2 24 (TrackV.cells (TrackV.mk (Slc.mk tsA ts.length tsC)))), (rd tsA ts.length 9 (ts.map StretchV.cells)).ro]) ?_ fun K20 hK20 => ?_
 · intro _
   change WJ _ _ _ _ [(1, (Value.pointer (some ⟨b2, 0, none⟩))), (3, (Value.int .i64 (lastId ts i))), (4, (Value.int .i64 0)), (6, (Value.pointer (some ⟨b19, 0, none⟩))), (7, (Value.bool (decide (x.Side = 0 ∧ x.Radius.Lo = 0 ∧ x.Radius.Hi = 0)))), (16, (Value.slice tsA ts.length tsC)), (17, (Value.int .i64 ((ts.length : Nat) : Int))), (18, (Value.int .i64 (i : Int)))] [(blk b19 77 (StretchV.cells x)), (blk b2 24 (TrackV.cells (TrackV.mk (Slc.mk tsA ts.length tsC)))), (rd tsA ts.length 9 (ts.map StretchV.cells)).ro]
   refine w_join (ι := Unit) (fun z => [(1, (Value.pointer (some ⟨b2, 0, none⟩))), (3, (Value.int .i64 (lastId ts i))), (4, (Value.int .i64 0)), (6, (Value.pointer (some ⟨b19, 0, none⟩))), (7, (Value.bool (decide (x.Side = 0 ∧ x.Radius.Lo = 0 ∧ x.Radius.Hi = 0)))), (8, (Value.bool (decide ((1 ≤ x.Side ∧ x.Side ≤ 2) ∧ x.Radius.Lo ≤ x.Radius.Hi ∧ 500 ≤ x.Radius.Lo ∧ x.Radius.Hi ≤ 20000)))), (16, (Value.slice tsA ts.length tsC)), (17, (Value.int .i64 ((ts.length : Nat) : Int))), (18, (Value.int .i64 (i : Int)))]) (fun z => [(blk b19 77 (StretchV.cells x)), (blk b2 24 (TrackV.cells (TrackV.mk (Slc.mk tsA ts.length tsC)))), (rd tsA ts.length 9 (ts.map StretchV.cells)).ro]) ?_ fun K21 hK21 => ?_
   · intro _
     change WJ _ _ _ _ [(1, (Value.pointer (some ⟨b2, 0, none⟩))), (3, (Value.int .i64 (lastId ts i))), (4, (Value.int .i64 0)), (6, (Value.pointer (some ⟨b19, 0, none⟩))), (7, (Value.bool (decide (x.Side = 0 ∧ x.Radius.Lo = 0 ∧ x.Radius.Hi = 0)))), (8, (Value.bool (decide ((1 ≤ x.Side ∧ x.Side ≤ 2) ∧ x.Radius.Lo ≤ x.Radius.Hi ∧ 500 ≤ x.Radius.Lo ∧ x.Radius.Hi ≤ 20000)))), (16, (Value.slice tsA ts.length tsC)), (17, (Value.int .i64 ((ts.length : Nat) : Int))), (18, (Value.int .i64 (i : Int)))] [(blk b19 77 (StretchV.cells x)), (blk b2 24 (TrackV.cells (TrackV.mk (Slc.mk tsA ts.length tsC)))), (rd tsA ts.length 9 (ts.map StretchV.cells)).ro]
     refine w_seq fun _ hK22 => ?_
     refine WS fun _ hK23 => ?_
     refine rS (MV rfl) ?_
     refine rS (BI rfl (b_add ⟨by omega, by omega⟩)) ?_
     refine rS (FA 0 rfl fo77_0 rfl) ?_
     refine rS (L1 (Value.int .i64 x.Id) 0 rfl tk3 rfl rfl) ?_
     refine r_bs (xs := [.tmp 44]) (cs := [(Value.int .i64 x.Id)]) rfl te61 tz3 rfl rfl rfl rfl (by simp [Value.cells]) rfl rfl fun b24 => ?_
     refine rS (CL (FnV.eq (in_c ((lastId ts i) + 1) 9999 ([x.Id]) (some ⟨b24, 0, none⟩) 1 (by first | assumption | omega | (simp; done) | (simp; omega))) inAll_one) (ha_cons (has_rd_blk 0 rfl rfl (by simp [iC_length]) rfl) <| ha_nil) rfl) ?_
     refine rS (NT rfl) ?_
     refine rS (MV rfl) ?_
     refine r_bool (t := 48) rfl (fun h25 => ?_) (fun h25 => ?_)
     · replace h25 := XT h25
       refine rS (OX rfl) ?_
       refine rS (OX rfl) ?_
       refine rS (OX rfl) ?_
       refine rS (OX rfl) ?_
       refine rS (PK rfl) ?_
       refine rS (MV rfl) ?_
       refine rS (OX rfl) ?_
       refine rS (OX rfl) ?_
       refine rS (OX rfl) ?_
       refine rS (OX rfl) ?_
       refine rS (PK rfl) ?_
       refine rS (MV rfl) ?_
       refine rS (OX rfl) ?_
       refine rS (OX rfl) ?_
       refine rS (OX rfl) ?_
       refine rS (OX rfl) ?_
       refine rS (OX rfl) ?_
       refine rS (PK rfl) ?_
       refine rS (MV rfl) ?_
       refine rS (OX rfl) ?_
       refine rS (OX rfl) ?_
       refine rS (OX rfl) ?_
       refine rS (OX rfl) ?_
       refine rS (OX rfl) ?_
       refine rS (OX rfl) ?_
       refine rS (PK rfl) ?_
       refine RK hK23 ?_
       refine w_if_true rfl ?_
       refine WS fun _ hK26 => ?_
       refine rS (AG rfl) ?_
       refine RK hK26 ?_
       refine w_exit ?_
       refine k_exit_then ?_
       refine k_exit_other rfl ?_
       refine k_exit_then ?_
       refine k_exit_then ?_
       refine k_exit_same ?_
       refine KK hK11 ?_
       refine WS fun _ hK27 => ?_
       refine rS (MV rfl) ?_
       refine rS (AG rfl) ?_
       refine RK hK27 ?_
       refine w_ret ?_
       refine Q1 hQ rfl rfl rfl ?_
       first | exact congrArg (Value.int .i64) (if_neg (by rw [trackOk_len (by omega)]; decide)).symm | exact congrArg (Value.int .i64) (if_neg (by rw [trackOk_no hl0_1 hx (by simp only [StretchOk, SpanOk]; omega)]; decide)).symm | exact congrArg (Value.int .i64) (if_pos (trackOk_yes hl0_1 (by omega) (by omega))).symm
     replace h25 := XF h25
     refine rS (FA 1 rfl fo77_1 rfl) ?_
     refine rS (LP (SpanV.cells x.Long) 1 rfl tk26 rfl rfl rfl) ?_
     refine rS (CL (known_c x.Long 1 30000) (ha_nil) rfl) ?_
     refine rS (NT rfl) ?_
     refine rS (PK rfl) ?_
     refine rS (MV rfl) ?_
     refine r_bool (t := 54) rfl (fun h28 => ?_) (fun h28 => ?_)
     · replace h28 := XT h28
       refine rS (OX rfl) ?_
       refine rS (OX rfl) ?_
       refine rS (OX rfl) ?_
       refine rS (OX rfl) ?_
       refine rS (PK rfl) ?_
       refine rS (MV rfl) ?_
       refine rS (OX rfl) ?_
       refine rS (OX rfl) ?_
       refine rS (OX rfl) ?_
       refine rS (OX rfl) ?_
       refine rS (OX rfl) ?_
       refine rS (PK rfl) ?_
       refine rS (MV rfl) ?_
       refine rS (OX rfl) ?_
       refine rS (OX rfl) ?_
       refine rS (OX rfl) ?_
       refine rS (OX rfl) ?_
       refine rS (OX rfl) ?_
       refine rS (OX rfl) ?_
       refine rS (PK rfl) ?_
       refine RK hK23 ?_
       refine w_if_true rfl ?_
       refine WS fun _ hK29 => ?_
       refine rS (AG rfl) ?_
       refine RK hK29 ?_
       refine w_exit ?_
       refine k_exit_then ?_
       refine k_exit_other rfl ?_
       refine k_exit_then ?_
       refine k_exit_then ?_
       refine k_exit_same ?_
       refine KK hK11 ?_
       refine WS fun _ hK30 => ?_
       refine rS (MV rfl) ?_
       refine rS (AG rfl) ?_
       refine RK hK30 ?_
       refine w_ret ?_
       refine Q1 hQ rfl rfl rfl ?_
       first | exact congrArg (Value.int .i64) (if_neg (by rw [trackOk_len (by omega)]; decide)).symm | exact congrArg (Value.int .i64) (if_neg (by rw [trackOk_no hl0_1 hx (by simp only [StretchOk, SpanOk]; omega)]; decide)).symm | exact congrArg (Value.int .i64) (if_pos (trackOk_yes hl0_1 (by omega) (by omega))).symm
     replace h28 := XF h28
     refine rS (FA 3 rfl fo77_2 rfl) ?_
     refine rS (LP (SpanV.cells x.Fall) 1 rfl tk26 rfl rfl rfl) ?_
     refine rS (CL (known_c x.Fall 0 5000) (ha_nil) rfl) ?_
     refine rS (NT rfl) ?_
     refine rS (PK rfl) ?_
     refine rS (MV rfl) ?_
     refine r_bool (t := 60) rfl (fun h31 => ?_) (fun h31 => ?_)
     · replace h31 := XT h31
       refine rS (OX rfl) ?_
       refine rS (OX rfl) ?_
       refine rS (OX rfl) ?_
       refine rS (OX rfl) ?_
       refine rS (OX rfl) ?_
       refine rS (PK rfl) ?_
       refine rS (MV rfl) ?_
       refine rS (OX rfl) ?_
       refine rS (OX rfl) ?_
       refine rS (OX rfl) ?_
       refine rS (OX rfl) ?_
       refine rS (OX rfl) ?_
       refine rS (OX rfl) ?_
       refine rS (PK rfl) ?_
       refine RK hK23 ?_
       refine w_if_true rfl ?_
       refine WS fun _ hK32 => ?_
       refine rS (AG rfl) ?_
       refine RK hK32 ?_
       refine w_exit ?_
       refine k_exit_then ?_
       refine k_exit_other rfl ?_
       refine k_exit_then ?_
       refine k_exit_then ?_
       refine k_exit_same ?_
       refine KK hK11 ?_
       refine WS fun _ hK33 => ?_
       refine rS (MV rfl) ?_
       refine rS (AG rfl) ?_
       refine RK hK33 ?_
       refine w_ret ?_
       refine Q1 hQ rfl rfl rfl ?_
       first | exact congrArg (Value.int .i64) (if_neg (by rw [trackOk_len (by omega)]; decide)).symm | exact congrArg (Value.int .i64) (if_neg (by rw [trackOk_no hl0_1 hx (by simp only [StretchOk, SpanOk]; omega)]; decide)).symm | exact congrArg (Value.int .i64) (if_pos (trackOk_yes hl0_1 (by omega) (by omega))).symm
     replace h31 := XF h31
     refine rS (FA 8 rfl fo77_5 rfl) ?_
     refine rS (L1 (Value.int .i64 x.Wall) 1 rfl tk3 rfl rfl) ?_
     refine r_bs (xs := [.tmp 62]) (cs := [(Value.int .i64 x.Wall)]) rfl te61 tz3 rfl rfl rfl rfl (by simp [Value.cells]) rfl rfl fun b34 => ?_
     refine rS (CL (FnV.eq (in_c 0 5000 ([x.Wall]) (some ⟨b34, 0, none⟩) 1 (by first | assumption | omega | (simp; done) | (simp; omega))) inAll_one) (ha_cons (has_rd_blk 0 rfl rfl (by simp [iC_length]) rfl) <| ha_nil) rfl) ?_
     refine rS (NT rfl) ?_
     refine rS (PK rfl) ?_
     refine rS (MV rfl) ?_
     refine r_bool (t := 67) rfl (fun h35 => ?_) (fun h35 => ?_)
     · replace h35 := XT h35
       refine rS (OX rfl) ?_
       refine rS (OX rfl) ?_
       refine rS (OX rfl) ?_
       refine rS (OX rfl) ?_
       refine rS (OX rfl) ?_
       refine rS (OX rfl) ?_
       refine rS (PK rfl) ?_
       refine RK hK23 ?_
       refine w_if_true rfl ?_
       refine WS fun _ hK36 => ?_
       refine rS (AG rfl) ?_
       refine RK hK36 ?_
       refine w_exit ?_
       refine k_exit_then ?_
       refine k_exit_other rfl ?_
       refine k_exit_then ?_
       refine k_exit_then ?_
       refine k_exit_same ?_
       refine KK hK11 ?_
       refine WS fun _ hK37 => ?_
       refine rS (MV rfl) ?_
       refine rS (AG rfl) ?_
       refine RK hK37 ?_
       refine w_ret ?_
       refine Q1 hQ rfl rfl rfl ?_
       first | exact congrArg (Value.int .i64) (if_neg (by rw [trackOk_len (by omega)]; decide)).symm | exact congrArg (Value.int .i64) (if_neg (by rw [trackOk_no hl0_1 hx (by simp only [StretchOk, SpanOk]; omega)]; decide)).symm | exact congrArg (Value.int .i64) (if_pos (trackOk_yes hl0_1 (by omega) (by omega))).symm
     replace h35 := XF h35
     refine rS (MV rfl) ?_
     refine rS (NT rfl) ?_
     refine rS (MV rfl) ?_
     refine r_bool (t := 70) rfl (fun h38 => ?_) (fun h38 => ?_)
     rotate_left 1
     · replace h38 := XF h38
       refine rS (OX rfl) ?_
       refine rS (OX rfl) ?_
       refine rS (PK rfl) ?_
       refine rS (PK rfl) ?_
       refine RK hK23 ?_
       refine w_if_false rfl ?_
       refine WK hK22 ?_
       refine w_region ?_
       refine rS (FA 0 rfl fo77_0 rfl) ?_
       refine rS (L1 (Value.int .i64 x.Id) 2 rfl tk3 rfl rfl) ?_
       refine rS (AG rfl) ?_
       refine r_nil ?_
       refine k_block ?_
       refine KK hK17 ?_
       refine w_region ?_
       refine rS (BI rfl (b_add ⟨by omega, by omega⟩)) ?_
       refine rS (MV rfl) ?_
       refine r_nil ?_
       have hb43 : (Value.int .i64 (lastId ts (i + 1))) = (Value.int .i64 x.Id) := by rw [lastId_succ hx]
       refine k_then (hJ13 ⟨(i + 1), ⟨by omega, trackFrom_next hl0_1 hx (by simp only [StretchOk, SpanOk]; omega), by rw [lastId_succ hx]; omega, by rw [lastId_succ hx]; omega⟩⟩ _ _ _ rfl (by first | omega | (simp; omega)) (Sub.cons rfl <| sub_val rfl hb43 <| Sub.cons rfl <| Sub.cons rfl <| Sub.cons rfl <| Sub.cons rfl <| Sub.nil _) (fun w hs => St.sel [3, 4] rfl rfl hs))
     replace h38 := XT h38
     refine rS (MV rfl) ?_
     refine rS (NT rfl) ?_
     refine rS (PK rfl) ?_
     refine rS (PK rfl) ?_
     refine RK hK23 ?_
     refine w_if rfl (fun h39 => ?_) (fun h39 => ?_)
     · replace h39 := XT h39
       refine WS fun _ hK40 => ?_
       refine rS (AG rfl) ?_
       refine RK hK40 ?_
       refine w_exit ?_
       refine k_exit_then ?_
       refine k_exit_other rfl ?_
       refine k_exit_then ?_
       refine k_exit_then ?_
       refine k_exit_same ?_
       refine KK hK11 ?_
       refine WS fun _ hK41 => ?_
       refine rS (MV rfl) ?_
       refine rS (AG rfl) ?_
       refine RK hK41 ?_
       refine w_ret ?_
       refine Q1 hQ rfl rfl rfl ?_
       first | exact congrArg (Value.int .i64) (if_neg (by rw [trackOk_len (by omega)]; decide)).symm | exact congrArg (Value.int .i64) (if_neg (by rw [trackOk_no hl0_1 hx (by simp only [StretchOk, SpanOk]; omega)]; decide)).symm | exact congrArg (Value.int .i64) (if_pos (trackOk_yes hl0_1 (by omega) (by omega))).symm
     replace h39 := XF h39
     refine WK hK22 ?_
     refine w_region ?_
     refine rS (FA 0 rfl fo77_0 rfl) ?_
     refine rS (L1 (Value.int .i64 x.Id) 2 rfl tk3 rfl rfl) ?_
     refine rS (AG rfl) ?_
     refine r_nil ?_
     refine k_block ?_
     refine KK hK17 ?_
     refine w_region ?_
     refine rS (BI rfl (b_add ⟨by omega, by omega⟩)) ?_
     refine rS (MV rfl) ?_
     refine r_nil ?_
     have hb42 : (Value.int .i64 (lastId ts (i + 1))) = (Value.int .i64 x.Id) := by rw [lastId_succ hx]
     refine k_then (hJ13 ⟨(i + 1), ⟨by omega, trackFrom_next hl0_1 hx (by simp only [StretchOk, SpanOk]; omega), by rw [lastId_succ hx]; omega, by rw [lastId_succ hx]; omega⟩⟩ _ _ _ rfl (by first | omega | (simp; omega)) (Sub.cons rfl <| sub_val rfl hb42 <| Sub.cons rfl <| Sub.cons rfl <| Sub.cons rfl <| Sub.cons rfl <| Sub.nil _) (fun w hs => St.sel [3, 4] rfl rfl hs))
   refine w_region ?_
   refine rS (FA 7 rfl fo77_4 rfl) ?_
   refine rS (L1 (Value.int .u8 x.Side) 0 rfl tk5 rfl rfl) ?_
   refine rS (SX (sd_conv (m := x.Side) rfl rfl ut5 ut3 (wrap_u8_i64 (by first | assumption | omega))) rfl rfl) ?_
   refine r_bs (xs := [.tmp 33]) (cs := [(Value.int .i64 x.Side)]) rfl te61 tz3 rfl rfl rfl rfl (by simp [Value.cells]) rfl rfl fun b44 => ?_
   refine rS (CL (FnV.eq (in_c 1 2 ([x.Side]) (some ⟨b44, 0, none⟩) 1 (by first | assumption | omega | (simp; done) | (simp; omega))) inAll_one) (ha_cons (has_rd_blk 0 rfl rfl (by simp [iC_length]) rfl) <| ha_nil) rfl) ?_
   refine rS (MV rfl) ?_
   refine r_bool (t := 36) rfl (fun h45 => ?_) (fun h45 => ?_)
   rotate_left 1
   · replace h45 := DF h45
     refine rS (OX rfl) ?_
     refine rS (OX rfl) ?_
     refine rS (OX rfl) ?_
     refine rS (PK rfl) ?_
     refine rS (AG rfl) ?_
     refine r_nil ?_
     have hb47 : (decide ((1 ≤ x.Side ∧ x.Side ≤ 2) ∧ x.Radius.Lo ≤ x.Radius.Hi ∧ 500 ≤ x.Radius.Lo ∧ x.Radius.Hi ≤ 20000)) = false := decide_eq_false (by first | omega | (simp only [SpanV.ext_iff] at *; omega))
     refine k_then (k_sub (Sub.cons rfl <| Sub.cons rfl <| Sub.cons rfl <| Sub.cons rfl <| Sub.cons rfl <| sub_bool rfl hb47 <| Sub.cons rfl <| Sub.cons rfl <| Sub.cons rfl <| Sub.nil _) (fun w hs => St.sel [1, 2, 3] rfl rfl hs) (hK21 ()))
   replace h45 := DT h45
   refine rS (FA 5 rfl fo77_3 rfl) ?_
   refine rS (LP (SpanV.cells x.Radius) 1 rfl tk26 rfl rfl rfl) ?_
   refine rS (CL (known_c x.Radius 500 20000) (ha_nil) rfl) ?_
   refine rS (PK rfl) ?_
   refine rS (AG rfl) ?_
   refine r_nil ?_
   have hb46 : (decide ((1 ≤ x.Side ∧ x.Side ≤ 2) ∧ x.Radius.Lo ≤ x.Radius.Hi ∧ 500 ≤ x.Radius.Lo ∧ x.Radius.Hi ≤ 20000)) = (decide (x.Radius.Lo ≤ x.Radius.Hi ∧ 500 ≤ x.Radius.Lo ∧ x.Radius.Hi ≤ 20000)) := decide_eq_decide.2 (by first | omega | (simp only [SpanV.ext_iff] at *; omega))
   refine k_then (k_sub (Sub.cons rfl <| Sub.cons rfl <| Sub.cons rfl <| Sub.cons rfl <| Sub.cons rfl <| sub_bool rfl hb46 <| Sub.cons rfl <| Sub.cons rfl <| Sub.cons rfl <| Sub.nil _) (fun w hs => St.sel [1, 2, 3] rfl rfl hs) (hK21 ()))
 refine w_region ?_
 refine rS (FA 7 rfl fo77_4 rfl) ?_
 refine rS (L1 (Value.int .u8 x.Side) 0 rfl tk5 rfl rfl) ?_
 refine rS (BI rfl b_eql) ?_
 refine rS (MV rfl) ?_
 refine r_bool (t := 25) rfl (fun h48 => ?_) (fun h48 => ?_)
 rotate_left 1
 · replace h48 := DF h48
   refine rS (OX rfl) ?_
   refine rS (OX rfl) ?_
   refine rS (OX rfl) ?_
   refine rS (OX rfl) ?_
   refine rS (PK rfl) ?_
   refine rS (AG rfl) ?_
   refine r_nil ?_
   have hb50 : (decide (x.Side = 0 ∧ x.Radius.Lo = 0 ∧ x.Radius.Hi = 0)) = false := decide_eq_false (by first | omega | (simp only [SpanV.ext_iff] at *; omega))
   refine k_then (k_sub (Sub.cons rfl <| Sub.cons rfl <| Sub.cons rfl <| Sub.cons rfl <| sub_bool rfl hb50 <| Sub.cons rfl <| Sub.cons rfl <| Sub.cons rfl <| Sub.nil _) (fun w hs => St.sel [0, 1, 2] rfl rfl hs) (hK20 ()))
 replace h48 := DT h48
 refine rS (FA 5 rfl fo77_3 rfl) ?_
 refine rS (LP (SpanV.cells x.Radius) 0 rfl tk26 rfl rfl rfl) ?_
 refine rS (SX (sd_build (xs := []) (cs := (SpanV.cells (SpanV.mk 0 0))) rfl rfl (built_of tb26 rfl)) rfl rfl) ?_
 refine rS (BI rfl (eqs26 _ _ x.Radius (SpanV.mk 0 0))) ?_
 refine rS (PK rfl) ?_
 refine rS (AG rfl) ?_
 refine r_nil ?_
 have hb49 : (decide (x.Side = 0 ∧ x.Radius.Lo = 0 ∧ x.Radius.Hi = 0)) = (decide (x.Radius = (SpanV.mk 0 0))) := decide_eq_decide.2 (by first | omega | (simp only [SpanV.ext_iff] at *; omega))
 refine k_then (k_sub (Sub.cons rfl <| Sub.cons rfl <| Sub.cons rfl <| Sub.cons rfl <| sub_bool rfl hb49 <| Sub.cons rfl <| Sub.cons rfl <| Sub.cons rfl <| Sub.nil _) (fun w hs => St.sel [0, 1, 2] rfl rfl hs) (hK20 ()))

end Go.Proofs.Ytpbgdeojcefnmaa
