/-
  Walks: (kreisel/slide.rider).one, kreisel/kreiselref03.within, kreisel/kreiselref01.within, kreisel/kreiselref03.span, kreisel/kreiselref01.span, kreisel/kreiselref01.Great, kreisel/kreiselref03.Next
-/
import Derived.Test.YtpbgdeojcefnmaaTab
import Derived.Test.YtpbgdeojcefnmaaShort
namespace Go.Proofs.Ytpbgdeojcefnmaa
open Go.RowKit
set_option linter.unusedVariables false

set_option maxRecDepth 100000 in
set_option maxHeartbeats 400000 in
theorem one_c (s : SledV) (best : Bool) (tsA : Option Addr) (tsN : Nat) (tsC : Nat) (z : SpanV) (f : Bool) :
    FnV Try.prog 95 [(Value.agg (RiderV.cells (RiderV.mk s (TrackV.mk (Slc.mk tsA tsN tsC)) best)).toArray), (Value.agg (SpanV.cells z).toArray), (Value.bool f)] [] (Value.int .i64 (oneF best f z)) := by
 refine fnV_of go95 Try.func95 rfl rfl fun w0 Q hQ hN => ?_
 change WJ _ _ _ _ [(0, (Value.agg (RiderV.cells (RiderV.mk s (TrackV.mk (Slc.mk tsA tsN tsC)) best)).toArray)), (1, (Value.agg (SpanV.cells z).toArray)), (2, (Value.bool f))] []
 refine WS fun _ hK1 => ?_
 refine BXA rfl fun b2 => ?_
 refine BXA rfl fun b3 => ?_
 refine rS (AG rfl) ?_
 refine RK hK1 ?_
 refine w_seq fun _ hK4 => ?_
 refine WS fun _ hK5 => ?_
 refine rS (FA 12 rfl fo108_2 rfl) ?_
 refine rS (L1 (Value.bool best) 1 rfl tk4 rfl rfl) ?_
 refine rS (MV rfl) ?_
 refine rS (BI rfl (b_eqlb ut4)) ?_
 refine RK hK5 ?_
 refine w_if rfl (fun h6 => ?_) (fun h6 => ?_)
 · replace h6 : best = f := by simpa using h6
   refine WS fun _ hK7 => ?_
   refine rS (FA 1 rfl fo26_1 rfl) ?_
   refine rS (L1 (Value.int .i64 z.Hi) 0 rfl tk3 rfl rfl) ?_
   refine rS (AG rfl) ?_
   refine RK hK7 ?_
   refine w_ret ?_
   refine Q1 hQ rfl rfl rfl ?_
   clear hQ hN hK7 hK5 hK4 hK1
   exact congrArg (Value.int .i64) (by unfold oneF; cases hb : best <;> cases f <;> simp_all)
 replace h6 : ¬ best = f := by simpa using h6
 refine WK hK4 ?_
 refine WS fun _ hK8 => ?_
 refine rS (FA 0 rfl fo26_0 rfl) ?_
 refine rS (L1 (Value.int .i64 z.Lo) 0 rfl tk3 rfl rfl) ?_
 refine rS (AG rfl) ?_
 refine RK hK8 ?_
 refine w_ret ?_
 refine Q1 hQ rfl rfl rfl ?_
 clear hQ hN hK8 hK5 hK4 hK1
 exact congrArg (Value.int .i64) (by unfold oneF; cases hb : best <;> cases f <;> simp_all)

set_option maxRecDepth 100000 in
set_option maxHeartbeats 400000 in
theorem within3_c (n : Int) (lo : Int) (hi : Int) :
    FnV Try.prog 67 [(Value.int .i64 n), (Value.int .i64 lo), (Value.int .i64 hi)] [] (Value.bool (decide (lo ≤ n ∧ n ≤ hi))) := by
 refine fnV_of go67 Try.func67 rfl rfl fun w0 Q hQ hN => ?_
 change WJ _ _ _ _ [(0, (Value.int .i64 n)), (1, (Value.int .i64 lo)), (2, (Value.int .i64 hi))] []
 refine WS fun _ hK1 => ?_
 refine rS (AG rfl) ?_
 refine RK hK1 ?_
 refine WS fun _ hK2 => ?_
 refine rS (MV rfl) ?_
 refine rS (MV rfl) ?_
 refine rS (BI rfl b_geq) ?_
 refine rS (MV rfl) ?_
 refine r_bool (t := 10) rfl (fun h3 => ?_) (fun h3 => ?_)
 rotate_left 1
 · replace h3 := DF h3
   refine rS (OX rfl) ?_
   refine rS (OX rfl) ?_
   refine rS (OX rfl) ?_
   refine rS (PK rfl) ?_
   refine rS (AG rfl) ?_
   refine RK hK2 ?_
   refine w_ret ?_
   refine Q1 hQ rfl rfl rfl ?_
   exact congrArg Value.bool (decide_eq_false (by omega)).symm
 replace h3 := DT h3
 refine rS (MV rfl) ?_
 refine rS (MV rfl) ?_
 refine rS (BI rfl b_leq) ?_
 refine rS (PK rfl) ?_
 refine rS (AG rfl) ?_
 refine RK hK2 ?_
 refine w_ret ?_
 refine Q1 hQ rfl rfl rfl ?_
 exact congrArg Value.bool (decide_eq_decide.2 (by omega))

set_option maxRecDepth 100000 in
set_option maxHeartbeats 400000 in
theorem within1_c (n : Int) (lo : Int) (hi : Int) :
    FnV Try.prog 85 [(Value.int .i64 n), (Value.int .i64 lo), (Value.int .i64 hi)] [] (Value.bool (decide (lo ≤ n ∧ n ≤ hi))) := by
 refine fnV_of go85 Try.func85 rfl rfl fun w0 Q hQ hN => ?_
 change WJ _ _ _ _ [(0, (Value.int .i64 n)), (1, (Value.int .i64 lo)), (2, (Value.int .i64 hi))] []
 refine WS fun _ hK1 => ?_
 refine rS (AG rfl) ?_
 refine RK hK1 ?_
 refine WS fun _ hK2 => ?_
 refine rS (MV rfl) ?_
 refine rS (MV rfl) ?_
 refine rS (BI rfl b_geq) ?_
 refine rS (MV rfl) ?_
 refine r_bool (t := 10) rfl (fun h3 => ?_) (fun h3 => ?_)
 rotate_left 1
 · replace h3 := DF h3
   refine rS (OX rfl) ?_
   refine rS (OX rfl) ?_
   refine rS (OX rfl) ?_
   refine rS (PK rfl) ?_
   refine rS (AG rfl) ?_
   refine RK hK2 ?_
   refine w_ret ?_
   refine Q1 hQ rfl rfl rfl ?_
   exact congrArg Value.bool (decide_eq_false (by omega)).symm
 replace h3 := DT h3
 refine rS (MV rfl) ?_
 refine rS (MV rfl) ?_
 refine rS (BI rfl b_leq) ?_
 refine rS (PK rfl) ?_
 refine rS (AG rfl) ?_
 refine RK hK2 ?_
 refine w_ret ?_
 refine Q1 hQ rfl rfl rfl ?_
 exact congrArg Value.bool (decide_eq_decide.2 (by omega))

set_option maxRecDepth 100000 in
set_option maxHeartbeats 400000 in
theorem span3_c (s : SpanV) (lo : Int) (hi : Int) :
    FnV Try.prog 84 [(Value.agg (SpanV.cells s).toArray), (Value.int .i64 lo), (Value.int .i64 hi)] [] (Value.bool (decide (s.Lo ≤ s.Hi ∧ lo ≤ s.Lo ∧ s.Hi ≤ hi))) := by
 refine fnV_of go84 Try.func84 rfl rfl fun w0 Q hQ hN => ?_
 change WJ _ _ _ _ [(0, (Value.agg (SpanV.cells s).toArray)), (1, (Value.int .i64 lo)), (2, (Value.int .i64 hi))] []
 refine WS fun _ hK1 => ?_
 refine BXA rfl fun b2 => ?_
 refine rS (AG rfl) ?_
 refine RK hK1 ?_
 refine WS fun _ hK3 => ?_
 refine rS (FA 0 rfl fo26_0 rfl) ?_
 refine rS (L1 (Value.int .i64 s.Lo) 0 rfl tk3 rfl rfl) ?_
 refine rS (MV rfl) ?_
 refine rS (FA 1 rfl fo26_1 rfl) ?_
 refine rS (L1 (Value.int .i64 s.Hi) 0 rfl tk3 rfl rfl) ?_
 refine rS (CL (within3_c s.Lo lo s.Hi) (ha_nil) rfl) ?_
 refine rS (MV rfl) ?_
 refine r_bool (t := 13) rfl (fun h4 => ?_) (fun h4 => ?_)
 rotate_left 1
 · replace h4 := DF h4
   refine rS (OX rfl) ?_
   refine rS (OX rfl) ?_
   refine rS (OX rfl) ?_
   refine rS (OX rfl) ?_
   refine rS (PK rfl) ?_
   refine rS (AG rfl) ?_
   refine RK hK3 ?_
   refine w_ret ?_
   refine Q1 hQ rfl rfl rfl ?_
   exact congrArg Value.bool (decide_eq_false (by omega)).symm
 replace h4 := DT h4
 refine rS (FA 1 rfl fo26_1 rfl) ?_
 refine rS (L1 (Value.int .i64 s.Hi) 0 rfl tk3 rfl rfl) ?_
 refine rS (MV rfl) ?_
 refine rS (BI rfl b_leq) ?_
 refine rS (PK rfl) ?_
 refine rS (AG rfl) ?_
 refine RK hK3 ?_
 refine w_ret ?_
 refine Q1 hQ rfl rfl rfl ?_
 exact congrArg Value.bool (decide_eq_decide.2 (by omega))

set_option maxRecDepth 100000 in
set_option maxHeartbeats 400000 in
theorem span1_c (s : SpanV) (lo : Int) (hi : Int) :
    FnV Try.prog 86 [(Value.agg (SpanV.cells s).toArray), (Value.int .i64 lo), (Value.int .i64 hi)] [] (Value.bool (decide (s.Lo ≤ s.Hi ∧ lo ≤ s.Lo ∧ s.Hi ≤ hi))) := by
 refine fnV_of go86 Try.func86 rfl rfl fun w0 Q hQ hN => ?_
 change WJ _ _ _ _ [(0, (Value.agg (SpanV.cells s).toArray)), (1, (Value.int .i64 lo)), (2, (Value.int .i64 hi))] []
 refine WS fun _ hK1 => ?_
 refine BXA rfl fun b2 => ?_
 refine rS (AG rfl) ?_
 refine RK hK1 ?_
 refine WS fun _ hK3 => ?_
 refine rS (FA 0 rfl fo26_0 rfl) ?_
 refine rS (L1 (Value.int .i64 s.Lo) 0 rfl tk3 rfl rfl) ?_
 refine rS (MV rfl) ?_
 refine rS (FA 1 rfl fo26_1 rfl) ?_
 refine rS (L1 (Value.int .i64 s.Hi) 0 rfl tk3 rfl rfl) ?_
 refine rS (CL (within1_c s.Lo lo s.Hi) (ha_nil) rfl) ?_
 refine rS (MV rfl) ?_
 refine r_bool (t := 13) rfl (fun h4 => ?_) (fun h4 => ?_)
 rotate_left 1
 · replace h4 := DF h4
   refine rS (OX rfl) ?_
   refine rS (OX rfl) ?_
   refine rS (OX rfl) ?_
   refine rS (OX rfl) ?_
   refine rS (PK rfl) ?_
   refine rS (AG rfl) ?_
   refine RK hK3 ?_
   refine w_ret ?_
   refine Q1 hQ rfl rfl rfl ?_
   exact congrArg Value.bool (decide_eq_false (by omega)).symm
 replace h4 := DT h4
 refine rS (FA 1 rfl fo26_1 rfl) ?_
 refine rS (L1 (Value.int .i64 s.Hi) 0 rfl tk3 rfl rfl) ?_
 refine rS (MV rfl) ?_
 refine rS (BI rfl b_leq) ?_
 refine rS (PK rfl) ?_
 refine rS (AG rfl) ?_
 refine RK hK3 ?_
 refine w_ret ?_
 refine Q1 hQ rfl rfl rfl ?_
 exact congrArg Value.bool (decide_eq_decide.2 (by omega))

set_option maxRecDepth 100000 in
set_option maxHeartbeats 400000 in
theorem great_c (t : List StretchV) (tA : Option Addr) (tC : Nat) :
    FnV Try.prog 16 [(Value.agg (TrackV.cells (TrackV.mk (Slc.mk tA t.length tC))).toArray)] [(rd tA t.length 9 (t.map StretchV.cells))] (Value.bool (decide (20 < (t.length : Int)))) := by
 refine fnV_of go16 Try.func16 rfl rfl fun w0 Q hQ hN => ?_
 change WJ _ _ _ _ [(0, (Value.agg (TrackV.cells (TrackV.mk (Slc.mk tA t.length tC))).toArray))] [(rd tA t.length 9 (t.map StretchV.cells)).ro]
 refine WS fun _ hK1 => ?_
 refine BXA rfl fun b2 => ?_
 refine rS (AG rfl) ?_
 refine RK hK1 ?_
 refine WS fun _ hK3 => ?_
 refine rS (FA 0 rfl fo24_0 rfl) ?_
 refine rS (L1 (Value.slice tA t.length tC) 0 rfl tk22 rfl rfl) ?_
 refine rS (LN rfl ut22) ?_
 refine rS (BI rfl b_gtr) ?_
 refine rS (AG rfl) ?_
 refine RK hK3 ?_
 refine w_ret ?_
 exact Q1 hQ rfl rfl rfl rfl

set_option maxRecDepth 100000 in
set_option maxHeartbeats 400000 in
theorem next_c (h : Int) (lo : Int) (fa : Int) (ru : Int) (dr : Int) (we : Int) (h1 : 0 ≤ h ∧ h ≤ 400000) (h2 : 0 ≤ lo ∧ lo ≤ 100000) (h3 : 0 ≤ fa ∧ fa ≤ 10000) (h4 : 0 ≤ ru ∧ ru ≤ 200) (h5 : 0 ≤ dr ∧ dr ≤ 2000) (h6 : 1 ≤ we ∧ we ≤ 1000000) :
    FnV Try.prog 83 [(Value.int .i64 h), (Value.int .i64 lo), (Value.int .i64 fa), (Value.int .i64 ru), (Value.int .i64 dr), (Value.int .i64 we)] [] (Value.int .i64 (nextH h lo fa ru dr we)) := by
 have m1 := mulb h1.1 h1.2 h5.1 h5.2
 have m2 := mulb m1.1 m1.2 h2.1 h2.2
 have m3 := divb (b := 100 * we) m2.1 m2.2 (by omega)
 have m4 := mulb h4.1 h4.2 h2.1 h2.2
 refine fnV_of go83 Try.func83 rfl rfl fun w0 Q hQ hN => ?_
 change WJ _ _ _ _ [(0, (Value.int .i64 h)), (1, (Value.int .i64 lo)), (2, (Value.int .i64 fa)), (3, (Value.int .i64 ru)), (4, (Value.int .i64 dr)), (5, (Value.int .i64 we))] []
 refine WS fun _ hK1 => ?_
 refine rS (AG rfl) ?_
 refine RK hK1 ?_
 refine WS fun _ hK2 => ?_
 refine rS (MV rfl) ?_
 refine rS (MV rfl) ?_
 refine rS (MV rfl) ?_
 refine rS (BI rfl (b_mul ⟨by omega, by omega⟩)) ?_
 refine rS (MV rfl) ?_
 refine rS (BI rfl (b_mul ⟨by omega, by omega⟩)) ?_
 refine rS (MV rfl) ?_
 refine rS (BI rfl (b_mul ⟨by omega, by omega⟩)) ?_
 refine rS (BI rfl (b_quo (by omega) (by omega) (by omega))) ?_
 refine rS (BI rfl (b_sub ⟨by omega, by omega⟩)) ?_
 refine rS (MX rfl) ?_
 refine rS (AG rfl) ?_
 refine RK hK2 ?_
 refine WS fun _ hK3 => ?_
 refine rS (MV rfl) ?_
 refine rS (MV rfl) ?_
 refine rS (BI rfl (b_add ⟨by omega, by omega⟩)) ?_
 refine rS (MV rfl) ?_
 refine rS (MV rfl) ?_
 refine rS (BI rfl (b_mul ⟨by omega, by omega⟩)) ?_
 refine rS (BI rfl (b_quo (by omega) (by omega) (by omega))) ?_
 refine rS (BI rfl (b_sub ⟨by omega, by omega⟩)) ?_
 refine rS (MX rfl) ?_
 refine rS (AG rfl) ?_
 refine RK hK3 ?_
 refine w_ret ?_
 exact Q1 hQ rfl rfl rfl rfl

end Go.Proofs.Ytpbgdeojcefnmaa
