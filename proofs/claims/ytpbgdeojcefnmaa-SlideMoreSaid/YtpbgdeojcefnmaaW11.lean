/-
  Walks: kreisel/kreiselref03.Heads, kreisel/kreiselref03.Heads, kreisel/kreiselref03.Heads, kreisel/slide.Speed, kreisel/kreiselref03.Speed
-/
import Derived.Test.YtpbgdeojcefnmaaTab
import Derived.Test.YtpbgdeojcefnmaaShort
import Derived.Test.YtpbgdeojcefnmaaW1
import Derived.Test.YtpbgdeojcefnmaaW5
import Derived.Test.YtpbgdeojcefnmaaW6
import Derived.Test.YtpbgdeojcefnmaaW8
import Derived.Test.YtpbgdeojcefnmaaW10
namespace Go.Proofs.Ytpbgdeojcefnmaa
open Go.RowKit
set_option linter.unusedVariables false

set_option maxRecDepth 100000 in
set_option maxHeartbeats 400000 in
theorem rHeads_no (ts : List StretchV) (tsA : Option Addr) (tsC : Nat) (s : SledV) (hlen : ts.length ≤ 1000000) (hside : ∀ x ∈ ts, 0 ≤ x.Side ∧ x.Side ≤ 255) (hc : 0 ≤ s.Class ∧ s.Class ≤ 255) (hb : ¬ bothE s ts = 0) :
    FnV Try.prog 19 [(Value.agg (TrackV.cells (TrackV.mk (Slc.mk tsA ts.length tsC))).toArray), (Value.agg (SledV.cells s).toArray)] [(rd tsA ts.length 9 (ts.map StretchV.cells))] (Value.tuple [(Value.slice none 0 0), (Value.int .i64 (bothE s ts))].toArray) := by
 refine fnV_of go19 Try.func19 rfl rfl fun w0 Q hQ hN => ?_
 change WJ _ _ _ _ [(0, (Value.agg (TrackV.cells (TrackV.mk (Slc.mk tsA ts.length tsC))).toArray)), (1, (Value.agg (SledV.cells s).toArray))] [(rd tsA ts.length 9 (ts.map StretchV.cells)).ro]
 refine WS fun _ hK1 => ?_
 refine BXA rfl fun b2 => ?_
 refine BXA rfl fun b3 => ?_
 refine rS (AG rfl) ?_
 refine rS (AG rfl) ?_
 refine RK hK1 ?_
 refine w_seq fun _ hK4 => ?_
 refine WS fun _ hK5 => ?_
 refine rS (LW 1 rfl tk24 rfl rfl) ?_
 refine rS (LW 0 rfl tk28 rfl rfl) ?_
 refine rS (CL (both_c ts tsA tsC s hlen hc) (ha_at 2 rfl rfl <| ha_nil) rfl) ?_
 refine rS (AG rfl) ?_
 refine RK hK5 ?_
 refine WS fun _ hK6 => ?_
 refine rS (MV rfl) ?_
 refine rS (BI rfl b_neq) ?_
 refine RK hK6 ?_
 refine w_if rfl (fun he => ?_) (fun he => ?_)
 rotate_left 1
 · replace he := XF he
   exact absurd he hb
 replace he := XT he
 refine WS fun _ hK7 => ?_
 refine rS (MV rfl) ?_
 refine rS (AG rfl) ?_
 refine rS (AG rfl) ?_
 refine RK hK7 ?_
 refine w_ret ?_
 exact Q2 hQ rfl rfl rfl rfl rfl

set_option maxRecDepth 100000 in
set_option maxHeartbeats 400000 in
theorem rHeads_ok (ts : List StretchV) (tsA : Option Addr) (tsC : Nat) (s : SledV) (hlen : ts.length ≤ 1000000) (hside : ∀ x ∈ ts, 0 ≤ x.Side ∧ x.Side ≤ 255) (hc : 0 ≤ s.Class ∧ s.Class ≤ 255) (htr : trackOk ts = true) (hs : SledOk s) :
    FnX Try.prog 19 [(Value.agg (TrackV.cells (TrackV.mk (Slc.mk tsA ts.length tsC))).toArray), (Value.agg (SledV.cells s).toArray)] [(rd tsA ts.length 9 (ts.map StretchV.cells))] (fun (x : (Option Addr) × Nat) => (Value.tuple [(Value.slice x.1 ((spansL s ts).length) x.2), (Value.int .i64 (bothE s ts))].toArray)) (fun (x : (Option Addr) × Nat) => True) (fun (x : (Option Addr) × Nat) => [(own x.1 x.2 26 2 ((spansL s ts).map SpanV.cells))]) := by
 have hb0 := bothE_ok htr hs
 have hst := trackOk_all htr
 have hl12 := trackOk_le htr
 refine fnX_of go19 Try.func19 rfl rfl fun w0 Q hQ hN => ?_
 change WJ _ _ _ _ [(0, (Value.agg (TrackV.cells (TrackV.mk (Slc.mk tsA ts.length tsC))).toArray)), (1, (Value.agg (SledV.cells s).toArray))] [(rd tsA ts.length 9 (ts.map StretchV.cells)).ro]
 refine WS fun _ hK1 => ?_
 refine BXA rfl fun b2 => ?_
 refine BXA rfl fun b3 => ?_
 refine rS (AG rfl) ?_
 refine rS (AG rfl) ?_
 refine RK hK1 ?_
 refine w_seq fun _ hK4 => ?_
 refine WS fun _ hK5 => ?_
 refine rS (LW 1 rfl tk24 rfl rfl) ?_
 refine rS (LW 0 rfl tk28 rfl rfl) ?_
 refine rS (CL (both_c ts tsA tsC s hlen hc) (ha_at 2 rfl rfl <| ha_nil) rfl) ?_
 refine rS (AG rfl) ?_
 refine RK hK5 ?_
 refine WS fun _ hK6 => ?_
 refine rS (MV rfl) ?_
 refine rS (BI rfl b_neq) ?_
 refine RK hK6 ?_
 refine w_if rfl (fun he => ?_) (fun he => ?_)
 · replace he := XT he
   exact absurd hb0 he
 replace he := XF he
 refine WK hK4 ?_
 refine WS fun _ hK7 => ?_
 refine rS (LW 1 rfl tk24 rfl rfl) ?_
 refine rS (LW 0 rfl tk28 rfl rfl) ?_
 refine cX (rheads_c ts tsA tsC s hs (by first | assumption | omega | (simp; done) | (simp; omega)) (by first | assumption | omega | (simp; done) | (simp; omega))) (ha_at 2 rfl rfl <| ha_nil) rfl fun y8 hy9 => ?_
 obtain ⟨a10, c11⟩ := y8
 change RJ _ _ _ _ _ ((_, (Value.slice a10 ((spansL s ts).length) c11)) :: _) ((own a10 c11 26 2 ((spansL s ts).map SpanV.cells)) :: _)
 refine rS (AG rfl) ?_
 refine rS (AG rfl) ?_
 refine RK hK7 ?_
 refine w_ret ?_
 refine hQ _ _ _ (l_nil (vs := [(Value.slice a10 ((spansL s ts).length) c11), (Value.int .i64 0)]) ⟨rfl, rfl, trivial⟩ fun w hs => endX (a10, c11) [0] ?_ ?_ rfl rfl rfl hs)
 · rw [hb0]; rfl
 · trivial

theorem rHeads_c (ts : List StretchV) (tsA : Option Addr) (tsC : Nat) (s : SledV) (hlen : ts.length ≤ 1000000) (hside : ∀ x ∈ ts, 0 ≤ x.Side ∧ x.Side ≤ 255) (hc : 0 ≤ s.Class ∧ s.Class ≤ 255) :
    FnX Try.prog 19 [(Value.agg (TrackV.cells (TrackV.mk (Slc.mk tsA ts.length tsC))).toArray), (Value.agg (SledV.cells s).toArray)] [(rd tsA ts.length 9 (ts.map StretchV.cells))] (fun (x : (Option Addr) × Nat) => (Value.tuple [(Value.slice x.1 ((spansU s ts).length) x.2), (Value.int .i64 (bothE s ts))].toArray)) (fun (x : (Option Addr) × Nat) => True) (fun (x : (Option Addr) × Nat) => [(own x.1 x.2 26 2 ((spansU s ts).map SpanV.cells))]) := by
  by_cases hb : bothE s ts = 0
  · obtain ⟨h1, h2⟩ := bothE_zero hb
    rw [spansU_ok h1 h2]
    exact rHeads_ok ts tsA tsC s hlen hside hc h1 h2
  · rw [spansU_no hb]
    exact FnV.toX (none, 0) (rHeads_no ts tsA tsC s hlen hside hc hb) trivial own_none

set_option maxRecDepth 100000 in
set_option maxHeartbeats 400000 in
theorem speed_c (ts : List StretchV) (tsA : Option Addr) (tsC : Nat) (s : SledV) (i : Int) (hlen : ts.length ≤ 1000000) (hside : ∀ x ∈ ts, 0 ≤ x.Side ∧ x.Side ≤ 255) :
    FnV Try.prog 20 [(Value.agg (TrackV.cells (TrackV.mk (Slc.mk tsA ts.length tsC))).toArray), (Value.agg (SledV.cells s).toArray), (Value.int .i64 i)] [(rd tsA ts.length 9 (ts.map StretchV.cells))] (Value.tuple [(Value.agg (SpanV.cells (speedV s ts i)).toArray), (Value.int .i64 (speedE s ts i))].toArray) := by
 refine fnV_of go20 Try.func20 rfl rfl fun w0 Q hQ hN => ?_
 change WJ _ _ _ _ [(0, (Value.agg (TrackV.cells (TrackV.mk (Slc.mk tsA ts.length tsC))).toArray)), (1, (Value.agg (SledV.cells s).toArray)), (2, (Value.int .i64 i))] [(rd tsA ts.length 9 (ts.map StretchV.cells)).ro]
 refine WS fun _ hK1 => ?_
 refine BXA rfl fun b2 => ?_
 refine BXA rfl fun b3 => ?_
 refine AL rfl tz26 fun b4 => ?_
 refine rS (AG rfl) ?_
 refine RK hK1 ?_
 refine WS fun _ hK5 => ?_
 refine rS (LW 2 rfl tk24 rfl rfl) ?_
 refine rS (LW 1 rfl tk28 rfl rfl) ?_
 refine cX (heads_c ts tsA tsC s hlen hside) (ha_at 3 rfl rfl <| ha_nil) rfl fun y6 hy7 => ?_
 obtain ⟨a8, c9⟩ := y6
 change RJ _ _ _ _ _ ((_, (Value.tuple [(Value.slice a8 ((spansU s ts).length) c9), (Value.int .i64 (bothE s ts))].toArray)) :: _) ((own a8 c9 26 2 ((spansU s ts).map SpanV.cells)) :: _)
 refine rS (MV rfl) ?_
 refine rS (EX rfl) ?_
 refine rS (EX rfl) ?_
 refine rS (AG rfl) ?_
 refine rS (AG rfl) ?_
 refine RK hK5 ?_
 refine w_seq fun _ hK10 => ?_
 refine WS fun _ hK11 => ?_
 refine rS (MV rfl) ?_
 refine rS (BI rfl b_neq) ?_
 refine RK hK11 ?_
 refine w_if rfl (fun he => ?_) (fun he => ?_)
 · replace he := XT he
   refine WS fun _ hK12 => ?_
   refine rS (SX (sd_build (xs := []) (cs := (SpanV.cells (SpanV.mk 0 0))) rfl rfl (built_of tb26 rfl)) rfl rfl) ?_
   refine rS (MV rfl) ?_
   refine SW1 rfl ts26 rfl ?_
   refine rS (AG rfl) ?_
   refine RK hK12 ?_
   refine w_ret ?_
   refine hQ _ _ _ (l_nil (vs := [(Value.agg (SpanV.cells (SpanV.mk 0 0)).toArray), (Value.int .i64 (bothE s ts))]) ⟨⟨_, rfl, .inl ⟨_, _, tk26, at_blk (vs := (SpanV.cells (SpanV.mk 0 0))) 1 rfl rfl, rfl, rfl⟩⟩, rfl, trivial⟩ fun w hs => endV ?_ hs)
   show (Value.tuple [(Value.agg (SpanV.cells (SpanV.mk 0 0)).toArray), (Value.int .i64 (bothE s ts))].toArray) = (Value.tuple [(Value.agg (SpanV.cells (speedV s ts i)).toArray), (Value.int .i64 (speedE s ts i))].toArray)
   clear hs w hQ hN hK12 hK11 hK10 hK5 hK1
   first | (rw [(speed_no (i := i) he).1, (speed_no (i := i) he).2] <;> rfl) | (rw [(speed_out (i := i) he (by omega)).1, (speed_out (i := i) he (by omega)).2] <;> rfl) | (rw [(speed_in (i := i) he (by omega)).1, (speed_in (i := i) he (by omega)).2, hyv] <;> rfl)
 replace he := XF he
 refine WK hK10 ?_
 refine w_seq fun _ hK13 => ?_
 refine WS fun _ hK14 => ?_
 obtain ⟨htr, hs⟩ := bothE_zero he
 have hst := trackOk_all htr
 have hl12 := trackOk_le htr
 have hsl := spansL_length (s := s) (ts := ts)
 rw [spansU_ok htr hs]
 refine rS (MV rfl) ?_
 refine rS (BI rfl b_lss) ?_
 refine rS (MV rfl) ?_
 refine r_bool (t := 22) rfl (fun h15 => ?_) (fun h15 => ?_)
 · replace h15 := DT h15
   refine rS (OX rfl) ?_
   refine rS (OX rfl) ?_
   refine rS (OX rfl) ?_
   refine rS (OX rfl) ?_
   refine rS (PK rfl) ?_
   refine RK hK14 ?_
   refine w_if_true rfl ?_
   refine WS fun _ hK16 => ?_
   refine rS (SX (sd_build (xs := []) (cs := (SpanV.cells (SpanV.mk 0 0))) rfl rfl (built_of tb26 rfl)) rfl rfl) ?_
   refine SW1 rfl ts26 rfl ?_
   refine rS (AG rfl) ?_
   refine RK hK16 ?_
   refine w_ret ?_
   refine hQ _ _ _ (l_nil (vs := [(Value.agg (SpanV.cells (SpanV.mk 0 0)).toArray), (Value.int .i64 2)]) ⟨⟨_, rfl, .inl ⟨_, _, tk26, at_blk (vs := (SpanV.cells (SpanV.mk 0 0))) 1 rfl rfl, rfl, rfl⟩⟩, rfl, trivial⟩ fun w hs => endV ?_ hs)
   show (Value.tuple [(Value.agg (SpanV.cells (SpanV.mk 0 0)).toArray), (Value.int .i64 2)].toArray) = (Value.tuple [(Value.agg (SpanV.cells (speedV s ts i)).toArray), (Value.int .i64 (speedE s ts i))].toArray)
   clear hs w hQ hN hK16 hK14 hK13 hK11 hK10 hK5 hK1
   first | (rw [(speed_no (i := i) he).1, (speed_no (i := i) he).2] <;> rfl) | (rw [(speed_out (i := i) he (by omega)).1, (speed_out (i := i) he (by omega)).2] <;> rfl) | (rw [(speed_in (i := i) he (by omega)).1, (speed_in (i := i) he (by omega)).2, hyv] <;> rfl)
 replace h15 := DF h15
 refine rS (MV rfl) ?_
 refine rS (MV rfl) ?_
 refine rS (LN rfl ut31) ?_
 refine rS (BI rfl b_geq) ?_
 refine rS (PK rfl) ?_
 refine RK hK14 ?_
 refine w_if rfl (fun h17 => ?_) (fun h17 => ?_)
 · replace h17 := DT h17
   refine WS fun _ hK18 => ?_
   refine rS (SX (sd_build (xs := []) (cs := (SpanV.cells (SpanV.mk 0 0))) rfl rfl (built_of tb26 rfl)) rfl rfl) ?_
   refine SW1 rfl ts26 rfl ?_
   refine rS (AG rfl) ?_
   refine RK hK18 ?_
   refine w_ret ?_
   refine hQ _ _ _ (l_nil (vs := [(Value.agg (SpanV.cells (SpanV.mk 0 0)).toArray), (Value.int .i64 2)]) ⟨⟨_, rfl, .inl ⟨_, _, tk26, at_blk (vs := (SpanV.cells (SpanV.mk 0 0))) 1 rfl rfl, rfl, rfl⟩⟩, rfl, trivial⟩ fun w hs => endV ?_ hs)
   show (Value.tuple [(Value.agg (SpanV.cells (SpanV.mk 0 0)).toArray), (Value.int .i64 2)].toArray) = (Value.tuple [(Value.agg (SpanV.cells (speedV s ts i)).toArray), (Value.int .i64 (speedE s ts i))].toArray)
   clear hs w hQ hN hK18 hK14 hK13 hK11 hK10 hK5 hK1
   first | (rw [(speed_no (i := i) he).1, (speed_no (i := i) he).2] <;> rfl) | (rw [(speed_out (i := i) he (by omega)).1, (speed_out (i := i) he (by omega)).2] <;> rfl) | (rw [(speed_in (i := i) he (by omega)).1, (speed_in (i := i) he (by omega)).2, hyv] <;> rfl)
 replace h17 := DF h17
 refine WK hK13 ?_
 refine w_seq fun _ hK19 => ?_
 refine w_draw mixed 13 (by kernel_rfl) ?_
 refine dS (MV rfl) ?_
 refine dS (MV rfl) ?_
 obtain ⟨y, hy⟩ : ∃ y_, (spansL s ts)[(i).toNat]? = some y_ := ⟨(spansL s ts)[(i).toNat]'(by omega), List.getElem?_eq_getElem _⟩
 have hym : ((spansL s ts).map SpanV.cells)[(i).toNat]? = some (SpanV.cells y) := by rw [List.getElem?_map, hy]; rfl
 refine dS (IA ((i).toNat) rfl (has_own_n (n := (spansL s ts).length) 0 rfl (by simp)) te31 (by decide) (by omega) (by omega)) ?_
 refine dS (FAR (((i).toNat) * 2) rfl (has_own_n (n := (spansL s ts).length) 0 rfl (by simp)) (Nat.mul_pos (by omega) (by decide)) fo26_0 rfl) ?_
 have hb0 := headAt_b (best := false) hs hst i.toNat
 have hb1 := headAt_b (best := true) hs hst i.toNat
 have hyv : y = spanAt s ts i.toNat := by rw [spansL_get (by omega)] at hy; exact (Option.some.inj hy).symm
 have hylo : 0 ≤ y.Lo ∧ y.Lo ≤ 400000 := by rw [hyv]; simp only [spanAt]; omega
 have hyhi : 0 ≤ y.Hi ∧ y.Hi ≤ 400000 := by rw [hyv]; simp only [spanAt]; omega
 refine dS (LE1 ((i).toNat) 0 (Value.int .i64 y.Lo) rfl tk3 (has_own_n (n := (spansL s ts).length) 0 rfl (by simp)) hym rfl (by decide) rfl) ?_
 refine dS (CL (slow_c y.Lo (by first | assumption | omega | (simp; done) | (simp; omega))) (ha_nil) rfl) ?_
 refine dS (MV rfl) ?_
 refine dS (MV rfl) ?_
 refine dS (IA ((i).toNat) rfl (has_own_n (n := (spansL s ts).length) 0 rfl (by simp)) te31 (by decide) (by omega) (by omega)) ?_
 refine dS (FAR ((((i).toNat) * 2) + 1) rfl (has_own_n (n := (spansL s ts).length) 0 rfl (by simp)) (Nat.mul_pos (by omega) (by decide)) fo26_1 rfl) ?_
 refine dS (LE1 ((i).toNat) 1 (Value.int .i64 y.Hi) rfl tk3 (has_own_n (n := (spansL s ts).length) 0 rfl (by simp)) hym rfl (by decide) rfl) ?_
 refine dS (CL (fast_c y.Hi (by first | assumption | omega | (simp; done) | (simp; omega))) (ha_nil) rfl) ?_
 refine dS (SX (sd_build (xs := [(0, .tmp 34), (1, .tmp 40)]) (cs := (SpanV.cells (SpanV.mk (slowF y.Lo) (fastF y.Hi)))) rfl rfl (built_of tb26 rfl)) rfl rfl) ?_
 refine d_end ?_
 refine SW1 rfl ts26 rfl ?_
 refine rS (AG rfl) ?_
 refine RK hK19 ?_
 refine w_ret ?_
 refine hQ _ _ _ (l_nil (vs := [(Value.agg (SpanV.cells (SpanV.mk (slowF y.Lo) (fastF y.Hi))).toArray), (Value.int .i64 0)]) ⟨⟨_, rfl, .inl ⟨_, _, tk26, at_blk (vs := (SpanV.cells (SpanV.mk (slowF y.Lo) (fastF y.Hi)))) 1 rfl rfl, rfl, rfl⟩⟩, rfl, trivial⟩ fun w hs => endV ?_ hs)
 show (Value.tuple [(Value.agg (SpanV.cells (SpanV.mk (slowF y.Lo) (fastF y.Hi))).toArray), (Value.int .i64 0)].toArray) = (Value.tuple [(Value.agg (SpanV.cells (speedV s ts i)).toArray), (Value.int .i64 (speedE s ts i))].toArray)
 clear hs w hQ hN hK19 hK14 hK13 hK11 hK10 hK5 hK1
 first | (rw [(speed_no (i := i) he).1, (speed_no (i := i) he).2] <;> rfl) | (rw [(speed_out (i := i) he (by omega)).1, (speed_out (i := i) he (by omega)).2] <;> rfl) | (rw [(speed_in (i := i) he (by omega)).1, (speed_in (i := i) he (by omega)).2, hyv] <;> rfl)

set_option maxRecDepth 100000 in
set_option maxHeartbeats 400000 in
theorem rSpeed_c (ts : List StretchV) (tsA : Option Addr) (tsC : Nat) (s : SledV) (i : Int) (hlen : ts.length ≤ 1000000) (hside : ∀ x ∈ ts, 0 ≤ x.Side ∧ x.Side ≤ 255) (hc : 0 ≤ s.Class ∧ s.Class ≤ 255) :
    FnV Try.prog 21 [(Value.agg (TrackV.cells (TrackV.mk (Slc.mk tsA ts.length tsC))).toArray), (Value.agg (SledV.cells s).toArray), (Value.int .i64 i)] [(rd tsA ts.length 9 (ts.map StretchV.cells))] (Value.tuple [(Value.agg (SpanV.cells (speedV s ts i)).toArray), (Value.int .i64 (speedE s ts i))].toArray) := by
 refine fnV_of go21 Try.func21 rfl rfl fun w0 Q hQ hN => ?_
 change WJ _ _ _ _ [(0, (Value.agg (TrackV.cells (TrackV.mk (Slc.mk tsA ts.length tsC))).toArray)), (1, (Value.agg (SledV.cells s).toArray)), (2, (Value.int .i64 i))] [(rd tsA ts.length 9 (ts.map StretchV.cells)).ro]
 refine WS fun _ hK1 => ?_
 refine BXA rfl fun b2 => ?_
 refine BXA rfl fun b3 => ?_
 refine AL rfl tz26 fun b4 => ?_
 refine rS (AG rfl) ?_
 refine RK hK1 ?_
 refine w_seq fun _ hK5 => ?_
 refine WS fun _ hK6 => ?_
 refine rS (LW 2 rfl tk24 rfl rfl) ?_
 refine rS (LW 1 rfl tk28 rfl rfl) ?_
 refine rS (CL (both_c ts tsA tsC s hlen hc) (ha_at 3 rfl rfl <| ha_nil) rfl) ?_
 refine rS (AG rfl) ?_
 refine RK hK6 ?_
 refine WS fun _ hK7 => ?_
 refine rS (MV rfl) ?_
 refine rS (BI rfl b_neq) ?_
 refine RK hK7 ?_
 refine w_if rfl (fun he => ?_) (fun he => ?_)
 · replace he := XT he
   refine WS fun _ hK8 => ?_
   refine rS (SX (sd_build (xs := []) (cs := (SpanV.cells (SpanV.mk 0 0))) rfl rfl (built_of tb26 rfl)) rfl rfl) ?_
   refine rS (MV rfl) ?_
   refine SW0 rfl ts26 rfl ?_
   refine rS (AG rfl) ?_
   refine RK hK8 ?_
   refine w_ret ?_
   refine hQ _ _ _ (l_nil (vs := [(Value.agg (SpanV.cells (SpanV.mk 0 0)).toArray), (Value.int .i64 (bothE s ts))]) ⟨⟨_, rfl, .inl ⟨_, _, tk26, at_blk (vs := (SpanV.cells (SpanV.mk 0 0))) 0 rfl rfl, rfl, rfl⟩⟩, rfl, trivial⟩ fun w hs => endV ?_ hs)
   show (Value.tuple [(Value.agg (SpanV.cells (SpanV.mk 0 0)).toArray), (Value.int .i64 (bothE s ts))].toArray) = (Value.tuple [(Value.agg (SpanV.cells (speedV s ts i)).toArray), (Value.int .i64 (speedE s ts i))].toArray)
   clear hs w hQ hN hK8 hK7 hK6 hK5 hK1
   first | (rw [(speed_no (i := i) he).1, (speed_no (i := i) he).2] <;> rfl) | (rw [(speed_out (i := i) he (by omega)).1, (speed_out (i := i) he (by omega)).2] <;> rfl) | (rw [(speed_in (i := i) he (by omega)).1, (speed_in (i := i) he (by omega)).2, hyv] <;> rfl)
 replace he := XF he
 refine WK hK5 ?_
 refine w_seq fun _ hK9 => ?_
 refine WS fun _ hK10 => ?_
 obtain ⟨htr, hs⟩ := bothE_zero he
 have hst := trackOk_all htr
 have hl12 := trackOk_le htr
 have hsl := spansL_length (s := s) (ts := ts)
 refine rS (MV rfl) ?_
 refine rS (FA 0 rfl fo24_0 rfl) ?_
 refine rS (L1 (Value.slice tsA ts.length tsC) 2 rfl tk22 rfl rfl) ?_
 refine rS (LN rfl ut22) ?_
 refine rS (CL (within3_c i 0 ((ts.length : Nat) : Int)) (ha_nil) rfl) ?_
 refine rS (NT rfl) ?_
 refine RK hK10 ?_
 refine w_if rfl (fun h11 => ?_) (fun h11 => ?_)
 · replace h11 := XT h11
   refine WS fun _ hK12 => ?_
   refine rS (SX (sd_build (xs := []) (cs := (SpanV.cells (SpanV.mk 0 0))) rfl rfl (built_of tb26 rfl)) rfl rfl) ?_
   refine SW0 rfl ts26 rfl ?_
   refine rS (AG rfl) ?_
   refine RK hK12 ?_
   refine w_ret ?_
   refine hQ _ _ _ (l_nil (vs := [(Value.agg (SpanV.cells (SpanV.mk 0 0)).toArray), (Value.int .i64 2)]) ⟨⟨_, rfl, .inl ⟨_, _, tk26, at_blk (vs := (SpanV.cells (SpanV.mk 0 0))) 0 rfl rfl, rfl, rfl⟩⟩, rfl, trivial⟩ fun w hs => endV ?_ hs)
   show (Value.tuple [(Value.agg (SpanV.cells (SpanV.mk 0 0)).toArray), (Value.int .i64 2)].toArray) = (Value.tuple [(Value.agg (SpanV.cells (speedV s ts i)).toArray), (Value.int .i64 (speedE s ts i))].toArray)
   clear hs w hQ hN hK12 hK10 hK9 hK7 hK6 hK5 hK1
   first | (rw [(speed_no (i := i) he).1, (speed_no (i := i) he).2] <;> rfl) | (rw [(speed_out (i := i) he (by omega)).1, (speed_out (i := i) he (by omega)).2] <;> rfl) | (rw [(speed_in (i := i) he (by omega)).1, (speed_in (i := i) he (by omega)).2, hyv] <;> rfl)
 replace h11 := XF h11
 refine WK hK9 ?_
 refine WS fun _ hK13 => ?_
 refine rS (LW 2 rfl tk24 rfl rfl) ?_
 refine rS (LW 1 rfl tk28 rfl rfl) ?_
 refine cX (rheads_c ts tsA tsC s (by first | assumption | omega | (simp; done) | (simp; omega)) (by first | assumption | omega | (simp; done) | (simp; omega)) (by first | assumption | omega | (simp; done) | (simp; omega))) (ha_at 3 rfl rfl <| ha_nil) rfl fun y14 hy15 => ?_
 obtain ⟨a16, c17⟩ := y14
 change RJ _ _ _ _ _ ((_, (Value.slice a16 ((spansL s ts).length) c17)) :: _) ((own a16 c17 26 2 ((spansL s ts).map SpanV.cells)) :: _)
 refine rS (MV rfl) ?_
 obtain ⟨y, hy⟩ : ∃ y_, (spansL s ts)[(i).toNat]? = some y_ := ⟨(spansL s ts)[(i).toNat]'(by omega), List.getElem?_eq_getElem _⟩
 have hym : ((spansL s ts).map SpanV.cells)[(i).toNat]? = some (SpanV.cells y) := by rw [List.getElem?_map, hy]; rfl
 refine rS (IA ((i).toNat) rfl (has_own_n (n := (spansL s ts).length) 0 rfl (by simp)) te31 (by decide) (by omega) (by omega)) ?_
 have hb0 := headAt_b (best := false) hs hst i.toNat
 have hb1 := headAt_b (best := true) hs hst i.toNat
 have hyv : y = spanAt s ts i.toNat := by rw [spansL_get (by omega)] at hy; exact (Option.some.inj hy).symm
 have hylo : 0 ≤ y.Lo ∧ y.Lo ≤ 400000 := by rw [hyv]; simp only [spanAt]; omega
 have hyhi : 0 ≤ y.Hi ∧ y.Hi ≤ 400000 := by rw [hyv]; simp only [spanAt]; omega
 refine rS (LEN ((i).toNat) 0 (SpanV.cells y) rfl tk26 (has_own_n (n := (spansL s ts).length) 0 rfl (by simp)) hym rfl (by decide) rfl rfl) ?_
 refine AL rfl tz26 fun b18 => ?_
 refine SW0 rfl ts26 rfl ?_
 refine RK hK13 ?_
 refine w_seq fun _ hK19 => ?_
 refine w_draw mixed 7 (by kernel_rfl) ?_
 refine dS (FA 0 rfl fo26_0 rfl) ?_
 refine dS (L1 (Value.int .i64 y.Lo) 0 rfl tk3 rfl rfl) ?_
 refine dS (CL (slow3_c y.Lo (by first | assumption | omega | (simp; done) | (simp; omega))) (ha_nil) rfl) ?_
 refine dS (FA 1 rfl fo26_1 rfl) ?_
 refine dS (L1 (Value.int .i64 y.Hi) 0 rfl tk3 rfl rfl) ?_
 refine dS (CL (fast3_c y.Hi (by first | assumption | omega | (simp; done) | (simp; omega))) (ha_nil) rfl) ?_
 refine dS (SX (sd_build (xs := [(0, .tmp 32), (1, .tmp 35)]) (cs := (SpanV.cells (SpanV.mk (slowF y.Lo) (fastF y.Hi)))) rfl rfl (built_of tb26 rfl)) rfl rfl) ?_
 refine d_end ?_
 refine SW2 rfl ts26 rfl ?_
 refine rS (AG rfl) ?_
 refine RK hK19 ?_
 refine w_ret ?_
 refine hQ _ _ _ (l_nil (vs := [(Value.agg (SpanV.cells (SpanV.mk (slowF y.Lo) (fastF y.Hi))).toArray), (Value.int .i64 0)]) ⟨⟨_, rfl, .inl ⟨_, _, tk26, at_blk (vs := (SpanV.cells (SpanV.mk (slowF y.Lo) (fastF y.Hi)))) 2 rfl rfl, rfl, rfl⟩⟩, rfl, trivial⟩ fun w hs => endV ?_ hs)
 show (Value.tuple [(Value.agg (SpanV.cells (SpanV.mk (slowF y.Lo) (fastF y.Hi))).toArray), (Value.int .i64 0)].toArray) = (Value.tuple [(Value.agg (SpanV.cells (speedV s ts i)).toArray), (Value.int .i64 (speedE s ts i))].toArray)
 clear hs w hQ hN hK19 hK13 hK10 hK9 hK7 hK6 hK5 hK1
 first | (rw [(speed_no (i := i) he).1, (speed_no (i := i) he).2] <;> rfl) | (rw [(speed_out (i := i) he (by omega)).1, (speed_out (i := i) he (by omega)).2] <;> rfl) | (rw [(speed_in (i := i) he (by omega)).1, (speed_in (i := i) he (by omega)).2, hyv] <;> rfl)

end Go.Proofs.Ytpbgdeojcefnmaa
