/-
  Walks: kreisel/kreiselref01.Twin, kreisel/kreisellaw03.SlideHeads
-/
import Derived.Test.YtpbgdeojcefnmaaTab
import Derived.Test.YtpbgdeojcefnmaaShort
import Derived.Test.YtpbgdeojcefnmaaW1
import Derived.Test.YtpbgdeojcefnmaaW3
import Derived.Test.YtpbgdeojcefnmaaW6
import Derived.Test.YtpbgdeojcefnmaaW10
import Derived.Test.YtpbgdeojcefnmaaW11
import Derived.Test.YtpbgdeojcefnmaaW12
import Derived.Test.YtpbgdeojcefnmaaW13
namespace Go.Proofs.Ytpbgdeojcefnmaa
open Go.RowKit
set_option linter.unusedVariables false

set_option maxRecDepth 100000 in
set_option maxHeartbeats 400000 in
theorem twin_c (ts : List StretchV) (tsA : Option Addr) (tsC : Nat) (hlen : ts.length ≤ 1000000) :
    FnX Try.prog 17 [(Value.agg (TrackV.cells (TrackV.mk (Slc.mk tsA ts.length tsC))).toArray)] [(rd tsA ts.length 9 (ts.map StretchV.cells))] (fun (x : (Option Addr) × Nat) => (Value.agg (TrackV.cells (TrackV.mk (Slc.mk x.1 ts.length x.2))).toArray)) (fun (x : (Option Addr) × Nat) => True) (fun (x : (Option Addr) × Nat) => [(own x.1 x.2 77 9 (ts.map StretchV.cells))]) := by
 refine fnX_of go17 Try.func17 rfl rfl fun w0 Q hQ hN => ?_
 change WJ _ _ _ _ [(0, (Value.agg (TrackV.cells (TrackV.mk (Slc.mk tsA ts.length tsC))).toArray))] [(rd tsA ts.length 9 (ts.map StretchV.cells)).ro]
 refine WS fun _ hK1 => ?_
 refine BXA rfl fun b2 => ?_
 refine AL rfl tz24 fun b3 => ?_
 refine RK hK1 ?_
 refine WS fun _ hK4 => ?_
 refine r_bs0 rfl te22 rfl fun b5 => ?_
 refine rS (FA 0 rfl fo24_0 rfl) ?_
 refine rS (L1 (Value.slice tsA ts.length tsC) 2 rfl tk22 rfl rfl) ?_
 refine r_blk_own (es := (List.map StretchV.cells [])) (C' := [own (some ⟨b5, 0, none⟩) 0 77 9 (List.map StretchV.cells []), _, _, _]) 0 rfl (by simp) rfl (by simp [maxLen]) rfl ?_
 refine r_append (es2 := (List.map StretchV.cells ts)) (m' := ts.length) 0 rfl rfl rfl ta22 rfl rfl (by simp) (has_at 3 rfl) (one_StretchV_cells _) (by first | omega | (simp; omega)) (by first | (simp only [maxLen]; omega) | (simp [maxLen]; omega)) (by simp) (by simp) rfl fun a6 c7 => ?_
 change RJ _ _ _ _ _ _ [(own a6 c7 77 9 (List.map StretchV.cells ts)), _, _, _]
 refine rS (SX (sd_build (xs := [(0, .tmp 6)]) (cs := (TrackV.cells (TrackV.mk (Slc.mk a6 ts.length c7)))) rfl rfl (built_of tb24 rfl)) rfl rfl) ?_
 refine SW1 rfl ts24 rfl ?_
 refine RK hK4 ?_
 refine w_ret ?_
 refine hQ _ _ _ (l_nil (vs := [(Value.agg (TrackV.cells (TrackV.mk (Slc.mk a6 ts.length c7))).toArray)]) ⟨⟨_, rfl, .inl ⟨_, _, tk24, at_blk (vs := (TrackV.cells (TrackV.mk (Slc.mk a6 ts.length c7)))) 1 rfl rfl, rfl, rfl⟩⟩, trivial⟩ fun w hs => endX (a6, c7) [0] ?_ ?_ rfl rfl rfl hs)
 · rfl
 · trivial

set_option maxRecDepth 100000 in
set_option maxHeartbeats 400000 in
theorem slideHeads_c (ts : List StretchV) (tsA : Option Addr) (tsC : Nat) (s : SledV) (mark : Int) (i : Int) (hside : ∀ x ∈ ts, 0 ≤ x.Side ∧ x.Side ≤ 255) (hc : 0 ≤ s.Class ∧ s.Class ≤ 255) :
    FnV Try.prog 3 [(Value.agg (TrackV.cells (TrackV.mk (Slc.mk tsA ts.length tsC))).toArray), (Value.agg (SledV.cells s).toArray), (Value.int .i64 mark), (Value.int .i64 i)] [(rd tsA ts.length 9 (ts.map StretchV.cells))] (Value.bool true) := by
 refine fnV_of go3 Try.func3 rfl rfl fun w0 Q hQ hN => ?_
 change WJ _ _ _ _ [(0, (Value.agg (TrackV.cells (TrackV.mk (Slc.mk tsA ts.length tsC))).toArray)), (1, (Value.agg (SledV.cells s).toArray)), (2, (Value.int .i64 mark)), (3, (Value.int .i64 i))] [(rd tsA ts.length 9 (ts.map StretchV.cells)).ro]
 refine WS fun _ hK1 => ?_
 refine BXA rfl fun b2 => ?_
 refine BXA rfl fun b3 => ?_
 refine rS (AG rfl) ?_
 refine RK hK1 ?_
 refine w_seq fun _ hK4 => ?_
 refine WS fun _ hK5 => ?_
 refine rS (LW 1 rfl tk24 rfl rfl) ?_
 refine rS (CL (great_c ts tsA tsC) (ha_at 2 rfl rfl <| ha_nil) rfl) ?_
 refine RK hK5 ?_
 refine w_if rfl (fun hg => ?_) (fun hg => ?_)
 · replace hg := DT hg
   refine WS fun _ hK6 => ?_
   refine rS (AG rfl) ?_
   refine RK hK6 ?_
   refine w_ret ?_
   refine Q1 hQ rfl rfl rfl ?_
   first | rfl | simp
 replace hg := DF hg
 refine WK hK4 ?_
 refine WS fun _ hK7 => ?_
 refine rS (LW 1 rfl tk24 rfl rfl) ?_
 refine cX (twin_c ts tsA tsC (by first | assumption | omega | (simp; done) | (simp; omega))) (ha_at 2 rfl rfl <| ha_nil) rfl fun y8 hy9 => ?_
 obtain ⟨a10, c11⟩ := y8
 change RJ _ _ _ _ _ ((_, (Value.agg (TrackV.cells (TrackV.mk (Slc.mk a10 ts.length c11))).toArray)) :: _) ((own a10 c11 77 9 (ts.map StretchV.cells)) :: _)
 refine AL rfl tz24 fun b12 => ?_
 refine SW0 rfl ts24 rfl ?_
 refine RK hK7 ?_
 refine WS fun _ hK13 => ?_
 refine rS (LW 0 rfl tk24 rfl rfl) ?_
 refine rS (LW 2 rfl tk28 rfl rfl) ?_
 refine cX (heads_c ts a10 c11 s (by first | assumption | omega | (simp; done) | (simp; omega)) hside) (ha_cons (has_own_n (n := ts.length) 1 rfl (by simp)) <| ha_nil) rfl fun y14 hy15 => ?_
 obtain ⟨a16, c17⟩ := y14
 change RJ _ _ _ _ _ ((_, (Value.tuple [(Value.slice a16 ((spansU s ts).length) c17), (Value.int .i64 (bothE s ts))].toArray)) :: _) ((own a16 c17 26 2 ((spansU s ts).map SpanV.cells)) :: _)
 refine rS (MV rfl) ?_
 refine rS (EX rfl) ?_
 refine rS (EX rfl) ?_
 refine rS (AG rfl) ?_
 refine rS (AG rfl) ?_
 refine RK hK13 ?_
 refine WS fun _ hK18 => ?_
 refine rS (LW 4 rfl tk24 rfl rfl) ?_
 refine rS (LW 3 rfl tk28 rfl rfl) ?_
 refine cX (rHeads_c ts tsA tsC s (by first | assumption | omega | (simp; done) | (simp; omega)) hside hc) (ha_at 5 rfl rfl <| ha_nil) rfl fun y19 hy20 => ?_
 obtain ⟨a21, c22⟩ := y19
 change RJ _ _ _ _ _ ((_, (Value.tuple [(Value.slice a21 ((spansU s ts).length) c22), (Value.int .i64 (bothE s ts))].toArray)) :: _) ((own a21 c22 26 2 ((spansU s ts).map SpanV.cells)) :: _)
 refine rS (MV rfl) ?_
 refine rS (EX rfl) ?_
 refine rS (EX rfl) ?_
 refine rS (AG rfl) ?_
 refine rS (AG rfl) ?_
 refine RK hK18 ?_
 refine WS fun _ hK23 => ?_
 refine rS (LW 2 rfl tk24 rfl rfl) ?_
 refine rS (LW 4 rfl tk28 rfl rfl) ?_
 refine rS (MV rfl) ?_
 refine rS (CL (speed_c ts a10 c11 s mark (by first | assumption | omega | (simp; done) | (simp; omega)) hside) (ha_cons (has_own_n (n := ts.length) 3 rfl (by simp)) <| ha_nil) rfl) ?_
 refine rS (MV rfl) ?_
 refine rS (EX rfl) ?_
 refine rS (EX rfl) ?_
 refine AL rfl tz26 fun b24 => ?_
 refine SW0 rfl ts26 rfl ?_
 refine rS (AG rfl) ?_
 refine RK hK23 ?_
 refine WS fun _ hK25 => ?_
 refine rS (LW 6 rfl tk24 rfl rfl) ?_
 refine rS (LW 5 rfl tk28 rfl rfl) ?_
 refine rS (MV rfl) ?_
 refine rS (CL (rSpeed_c ts tsA tsC s mark (by first | assumption | omega | (simp; done) | (simp; omega)) hside hc) (ha_at 7 rfl rfl <| ha_nil) rfl) ?_
 refine rS (MV rfl) ?_
 refine rS (EX rfl) ?_
 refine rS (EX rfl) ?_
 refine AL rfl tz26 fun b26 => ?_
 refine SW0 rfl ts26 rfl ?_
 refine rS (AG rfl) ?_
 refine RK hK25 ?_
 refine WS fun _ hK27 => ?_
 refine rS (LW 4 rfl tk24 rfl rfl) ?_
 refine rS (LW 6 rfl tk28 rfl rfl) ?_
 refine rS (MV rfl) ?_
 refine rS (CL (height_c ts a10 c11 s i (by first | assumption | omega | (simp; done) | (simp; omega)) hside) (ha_cons (has_own_n (n := ts.length) 5 rfl (by simp)) <| ha_nil) rfl) ?_
 refine rS (MV rfl) ?_
 refine rS (EX rfl) ?_
 refine rS (EX rfl) ?_
 refine AL rfl tz26 fun b28 => ?_
 refine SW0 rfl ts26 rfl ?_
 refine rS (AG rfl) ?_
 refine RK hK27 ?_
 refine WS fun _ hK29 => ?_
 refine rS (LW 8 rfl tk24 rfl rfl) ?_
 refine rS (LW 7 rfl tk28 rfl rfl) ?_
 refine rS (MV rfl) ?_
 refine rS (CL (rHeight_c ts tsA tsC s i (by first | assumption | omega | (simp; done) | (simp; omega)) hside hc) (ha_at 9 rfl rfl <| ha_nil) rfl) ?_
 refine rS (MV rfl) ?_
 refine rS (EX rfl) ?_
 refine rS (EX rfl) ?_
 refine AL rfl tz26 fun b30 => ?_
 refine SW0 rfl ts26 rfl ?_
 refine rS (AG rfl) ?_
 refine RK hK29 ?_
 refine WS fun _ hK31 => ?_
 refine rS (LW 6 rfl tk24 rfl rfl) ?_
 refine rS (LW 8 rfl tk28 rfl rfl) ?_
 refine rS (MV rfl) ?_
 refine rS (CL (least_c ts a10 c11 s i (by first | assumption | omega | (simp; done) | (simp; omega)) hside) (ha_cons (has_own_n (n := ts.length) 7 rfl (by simp)) <| ha_nil) rfl) ?_
 refine rS (MV rfl) ?_
 refine rS (EX rfl) ?_
 refine rS (EX rfl) ?_
 refine rS (AG rfl) ?_
 refine rS (AG rfl) ?_
 refine RK hK31 ?_
 refine WS fun _ hK32 => ?_
 refine rS (LW 9 rfl tk24 rfl rfl) ?_
 refine rS (LW 8 rfl tk28 rfl rfl) ?_
 refine rS (MV rfl) ?_
 refine rS (CL (rLeast_c ts tsA tsC s i (by first | assumption | omega | (simp; done) | (simp; omega)) hside hc) (ha_at 10 rfl rfl <| ha_nil) rfl) ?_
 refine rS (MV rfl) ?_
 refine rS (EX rfl) ?_
 refine rS (EX rfl) ?_
 refine rS (AG rfl) ?_
 refine rS (AG rfl) ?_
 refine RK hK32 ?_
 refine w_seq fun _ hK33 => ?_
 refine w_draw mixed 51 (by kernel_rfl) ?_
 refine dS (LW 8 rfl tk28 rfl rfl) ?_
 refine dS (CL (scheck_c s) (ha_nil) rfl) ?_
 refine dS (LW 8 rfl tk28 rfl rfl) ?_
 refine dS (CL (check3_c s hc) (ha_nil) rfl) ?_
 refine dS (BI rfl b_eql) ?_
 refine dS (MV rfl) ?_
 refine d_bool (t := 89) rfl (fun h34 => ?_) (fun h34 => ?_)
 rotate_left 1
 · replace h34 := DF h34
   exact absurd rfl h34
 replace h34 := DT h34
 refine dS (MV rfl) ?_
 refine dS (MV rfl) ?_
 have hsu : (spansU s ts).length ≤ ts.length + 1 := by unfold spansU; split <;> simp [spansL_length]
 refine dS (CL (samespans_c (spansU s ts) a16 c17 (spansU s ts) a21 c22 (by first | assumption | omega | (simp; done) | (simp; omega)) (by first | assumption | omega | (simp; done) | (simp; omega))) (ha_cons (has_own_n (n := (spansU s ts).length) 5 rfl (by simp)) <| ha_cons (has_own_n (n := (spansU s ts).length) 4 rfl (by simp)) <| ha_nil) rfl) ?_
 refine dS (PK rfl) ?_
 refine dS (MV rfl) ?_
 refine d_bool (t := 94) rfl (fun h35 => ?_) (fun h35 => ?_)
 rotate_left 1
 · replace h35 := DF h35
   exact absurd rfl h35
 replace h35 := DT h35
 refine dS (MV rfl) ?_
 refine dS (MV rfl) ?_
 refine dS (BI rfl b_eql) ?_
 refine dS (PK rfl) ?_
 refine dS (MV rfl) ?_
 refine d_bool (t := 99) rfl (fun h36 => ?_) (fun h36 => ?_)
 rotate_left 1
 · replace h36 := DF h36
   exact absurd rfl h36
 replace h36 := DT h36
 refine dS (LW 3 rfl tk26 rfl rfl) ?_
 refine dS (LW 2 rfl tk26 rfl rfl) ?_
 refine dS (BI rfl (eqs26 _ _ (speedV s ts mark) (speedV s ts mark))) ?_
 refine dS (PK rfl) ?_
 refine dS (MV rfl) ?_
 refine d_bool (t := 104) rfl (fun h37 => ?_) (fun h37 => ?_)
 rotate_left 1
 · replace h37 := DF h37
   exact absurd rfl h37
 replace h37 := DT h37
 refine dS (MV rfl) ?_
 refine dS (MV rfl) ?_
 refine dS (BI rfl b_eql) ?_
 refine dS (PK rfl) ?_
 refine dS (MV rfl) ?_
 refine d_bool (t := 109) rfl (fun h38 => ?_) (fun h38 => ?_)
 rotate_left 1
 · replace h38 := DF h38
   exact absurd rfl h38
 replace h38 := DT h38
 refine dS (LW 1 rfl tk26 rfl rfl) ?_
 refine dS (LW 0 rfl tk26 rfl rfl) ?_
 refine dS (BI rfl (eqs26 _ _ (heightV s ts i) (heightV s ts i))) ?_
 refine dS (PK rfl) ?_
 refine dS (MV rfl) ?_
 refine d_bool (t := 114) rfl (fun h39 => ?_) (fun h39 => ?_)
 rotate_left 1
 · replace h39 := DF h39
   exact absurd rfl h39
 replace h39 := DT h39
 refine dS (MV rfl) ?_
 refine dS (MV rfl) ?_
 refine dS (BI rfl b_eql) ?_
 refine dS (PK rfl) ?_
 refine dS (MV rfl) ?_
 refine d_bool (t := 119) rfl (fun h40 => ?_) (fun h40 => ?_)
 rotate_left 1
 · replace h40 := DF h40
   exact absurd rfl h40
 replace h40 := DT h40
 refine dS (MV rfl) ?_
 refine dS (MV rfl) ?_
 refine dS (BI rfl b_eql) ?_
 refine dS (PK rfl) ?_
 refine dS (MV rfl) ?_
 refine d_bool (t := 124) rfl (fun h41 => ?_) (fun h41 => ?_)
 rotate_left 1
 · replace h41 := DF h41
   exact absurd rfl h41
 replace h41 := DT h41
 refine dS (MV rfl) ?_
 refine dS (MV rfl) ?_
 refine dS (BI rfl b_eql) ?_
 refine dS (PK rfl) ?_
 refine dS (MV rfl) ?_
 refine d_bool (t := 129) rfl (fun h42 => ?_) (fun h42 => ?_)
 rotate_left 1
 · replace h42 := DF h42
   exact absurd rfl h42
 replace h42 := DT h42
 refine dS (LW 6 rfl tk24 rfl rfl) ?_
 refine dS (LW 9 rfl tk24 rfl rfl) ?_
 refine dS (CL (same_c ts a10 c11 ts tsA tsC (by first | assumption | omega | (simp; done) | (simp; omega)) (by first | assumption | omega | (simp; done) | (simp; omega))) (ha_cons (has_own_n (n := ts.length) 7 rfl (by simp)) <| ha_at 10 rfl rfl <| ha_nil) rfl) ?_
 refine dS (PK rfl) ?_
 refine dS (AG rfl) ?_
 refine d_end ?_
 refine RK hK33 ?_
 refine w_ret ?_
 refine Q1 hQ rfl rfl rfl ?_
 first | rfl | simp

end Go.Proofs.Ytpbgdeojcefnmaa
