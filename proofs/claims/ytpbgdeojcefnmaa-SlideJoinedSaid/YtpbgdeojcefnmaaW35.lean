/-
  Walks: slices.Grow[[]kreisel/api.Stretch,kreisel/api.Stretch], slices.Concat[[]kreisel/api.Stretch,kreisel/api.Stretch], kreisel/track.Join, kreisel/track.Join, kreisel/track.Join
-/
import Derived.Test.YtpbgdeojcefnmaaTab
import Derived.Test.YtpbgdeojcefnmaaShort
import Derived.Test.YtpbgdeojcefnmaaThr
import Derived.Test.YtpbgdeojcefnmaaMono
import Derived.Test.YtpbgdeojcefnmaaSafe
import Derived.Test.YtpbgdeojcefnmaaAlive
import Derived.Test.YtpbgdeojcefnmaaWithin
import Derived.Test.YtpbgdeojcefnmaaShut
import Derived.Test.YtpbgdeojcefnmaaStart
import Derived.Test.YtpbgdeojcefnmaaWalls
import Derived.Test.YtpbgdeojcefnmaaEnds
import Derived.Test.YtpbgdeojcefnmaaIn
import Derived.Test.YtpbgdeojcefnmaaDrop
import Derived.Test.YtpbgdeojcefnmaaJoin
import Derived.Test.YtpbgdeojcefnmaaGrow
import Derived.Test.YtpbgdeojcefnmaaW4
namespace Go.Proofs.Ytpbgdeojcefnmaa
open Go.RowKit
set_option linter.unusedVariables false

set_option maxRecDepth 100000 in
set_option maxHeartbeats 400000 in
theorem grow_c (n : Nat) (hn : 0 < n) (hn2 : n ≤ 1000) :
    FnX Try.prog 100 [(Value.slice none 0 0), (Value.int .i64 ((n : Nat) : Int))] [] (fun (x : Nat × Nat) => (Value.slice (some ⟨x.1, 0, none⟩) 0 x.2)) (fun (x : Nat × Nat) => True) (fun (x : Nat × Nat) => [(own (some ⟨x.1, 0, none⟩) x.2 77 9 [])]) := by
 refine fnX_of go100 Try.func100 rfl rfl fun w0 Q hQ hN => ?_
 change WJ _ _ _ _ [(0, (Value.slice none 0 0)), (1, (Value.int .i64 ((n : Nat) : Int)))] []
 refine WS fun _ hK1 => ?_
 refine rS (AG rfl) ?_
 refine RK hK1 ?_
 refine w_seq fun _ hK2 => ?_
 refine WS fun _ hK3 => ?_
 refine rS (MV rfl) ?_
 refine rS (BI rfl b_lss) ?_
 refine RK hK3 ?_
 refine w_if rfl (fun h4 => ?_) (fun h4 => ?_)
 · replace h4 := DT h4
   exfalso; omega
 replace h4 := DF h4
 refine WK hK2 ?_
 refine w_seq fun _ hK5 => ?_
 refine WS fun _ hK6 => ?_
 refine rS (MV rfl) ?_
 refine rS (MV rfl) ?_
 refine rS (CAP rfl ut22) ?_
 refine rS (MV rfl) ?_
 refine rS (LN rfl ut22) ?_
 refine rS (SX (sd_bin (r := .int .i64 0) rfl rfl rfl (b_sub ⟨by decide, by decide⟩)) rfl rfl) ?_
 refine rS (BI rfl (b_sub ⟨by omega, by omega⟩)) ?_
 refine rS (AG rfl) ?_
 refine RK hK6 ?_
 refine WS fun _ hK7 => ?_
 refine rS (MV rfl) ?_
 refine rS (BI rfl b_gtr) ?_
 refine RK hK7 ?_
 refine w_if rfl (fun h8 => ?_) (fun h8 => ?_)
 rotate_left 1
 · replace h8 := DF h8
   exfalso; omega
 replace h8 := DT h8
 refine w_region ?_
 refine rS (MV rfl) ?_
 refine rS (MV rfl) ?_
 refine rS (CAP rfl ut22) ?_
 refine rS (SHI 0 rfl te22 (by omega) (by first | omega | exact Nat.zero_le _ | (simp; omega))) ?_
 refine rS (MV rfl) ?_
 rw [Int.sub_zero]
 refine r_room (n := (n - 0)) rfl rfl rfl ta22 ut3 rfl (by omega) (by omega) (by decide) fun b9 c10 hc11 => ?_
 refine rS (MV rfl) ?_
 refine rS (LN rfl ut22) ?_
 refine rS (SHI 0 rfl te22 (by omega) (by first | omega | exact Nat.zero_le _ | (simp; omega))) ?_
 refine rS (AG rfl) ?_
 refine RK hK5 ?_
 refine WS fun _ hK12 => ?_
 refine rS (MV rfl) ?_
 refine rS (AG rfl) ?_
 refine RK hK12 ?_
 refine w_ret ?_
 refine hQ _ _ _ (l_nil (vs := [(Value.slice (some ⟨b9, 0, none⟩) 0 c10)]) ⟨rfl, trivial⟩ fun w hs => endX (b9, c10) [0] ?_ ?_ rfl rfl rfl hs)
 · rfl
 · trivial

set_option maxRecDepth 100000 in
set_option maxHeartbeats 400000 in
theorem concat_c (xs : List StretchV) (xsA : Option Addr) (xsC : Nat) (ys : List StretchV) (ysA : Option Addr) (ysC : Nat) (gb : Nat) (hn : 0 < xs.length + ys.length) (hn2 : xs.length ≤ 100 ∧ ys.length ≤ 100) :
    FnX Try.prog 87 [(Value.slice (some ⟨gb, 0, none⟩) 2 2)] [(blk gb 22 [(Value.slice xsA xs.length xsC), (Value.slice ysA ys.length ysC)]), (rd xsA xs.length 9 (xs.map StretchV.cells)), (rd ysA ys.length 9 (ys.map StretchV.cells))] (fun (x : (Option Addr) × Nat) => (Value.slice x.1 ((xs ++ ys).length) x.2)) (fun (x : (Option Addr) × Nat) => True) (fun (x : (Option Addr) × Nat) => [(own x.1 x.2 77 9 ((xs ++ ys).map StretchV.cells))]) := by
 refine fnX_of go87 Try.func87 rfl rfl fun w0 Q hQ hN => ?_
 change WJ _ _ _ _ [(0, (Value.slice (some ⟨gb, 0, none⟩) 2 2))] [(blk gb 22 [(Value.slice xsA xs.length xsC), (Value.slice ysA ys.length ysC)]).ro, (rd xsA xs.length 9 (xs.map StretchV.cells)).ro, (rd ysA ys.length 9 (ys.map StretchV.cells)).ro]
 refine WS fun _ hK1 => ?_
 refine rS (AG rfl) ?_
 refine RK hK1 ?_
 refine WS fun _ hK2 => ?_
 refine rS (AG rfl) ?_
 refine RK hK2 ?_
 refine w_seq fun _ hK3 => ?_
 refine WS fun _ hK4 => ?_
 refine rS (MV rfl) ?_
 refine rS (LN rfl ut156) ?_
 refine rS (MV rfl) ?_
 refine RK hK4 ?_
 refine w_block ?_
 refine w_rounds 3 ?_
 refine ro_succ fun R5 hR5 => ?_
 refine WS fun _ hK6 => ?_
 refine rS (SX (sd_bin (r := .bool true) rfl rfl rfl b_lss) rfl rfl) ?_
 refine RK hK6 ?_
 refine w_seq fun _ hK7 => ?_
 refine w_if_true rfl ?_
 refine WK hK7 ?_
 refine w_seq fun _ hK8 => ?_
 refine w_block ?_
 refine WS fun _ hK9 => ?_
 refine rS (IAB 0 0 rfl te156 rfl (by decide) rfl) ?_
 refine rS (L1R (Value.slice xsA xs.length xsC) 0 rfl tk22 rfl rfl) ?_
 refine rS (AG rfl) ?_
 refine RK hK9 ?_
 refine WS fun _ hK10 => ?_
 refine rS (MV rfl) ?_
 refine rS (MV rfl) ?_
 refine rS (LN rfl ut22) ?_
 refine rS (BI rfl (b_add ⟨by omega, by omega⟩)) ?_
 refine rS (AG rfl) ?_
 refine RK hK10 ?_
 refine WS fun _ hK11 => ?_
 refine rS (MV rfl) ?_
 refine rS (BI rfl b_lss) ?_
 refine RK hK11 ?_
 refine w_if rfl (fun h12 => ?_) (fun h12 => ?_)
 · replace h12 := DT h12
   exfalso; omega
 replace h12 := DF h12
 refine w_skip ?_
 refine k_block ?_
 refine KK hK8 ?_
 refine w_region ?_
 refine rS (SX (sd_bin (r := .int .i64 1) rfl rfl rfl (b_add ⟨by decide, by decide⟩)) rfl rfl) ?_
 refine rS (MV rfl) ?_
 refine RK hR5 ?_
 refine ro_succ fun R13 hR13 => ?_
 refine WS fun _ hK14 => ?_
 refine rS (SX (sd_bin (r := .bool true) rfl rfl rfl b_lss) rfl rfl) ?_
 refine RK hK14 ?_
 refine w_seq fun _ hK15 => ?_
 refine w_if_true rfl ?_
 refine WK hK15 ?_
 refine w_seq fun _ hK16 => ?_
 refine w_block ?_
 refine WS fun _ hK17 => ?_
 refine rS (IAB 1 1 rfl te156 rfl (by decide) rfl) ?_
 refine rS (L1R (Value.slice ysA ys.length ysC) 0 rfl tk22 rfl rfl) ?_
 refine rS (AG rfl) ?_
 refine RK hK17 ?_
 refine WS fun _ hK18 => ?_
 refine rS (MV rfl) ?_
 refine rS (MV rfl) ?_
 refine rS (LN rfl ut22) ?_
 refine rS (BI rfl (b_add ⟨by omega, by omega⟩)) ?_
 refine rS (AG rfl) ?_
 refine RK hK18 ?_
 refine WS fun _ hK19 => ?_
 refine rS (MV rfl) ?_
 refine rS (BI rfl b_lss) ?_
 refine RK hK19 ?_
 refine w_if rfl (fun h20 => ?_) (fun h20 => ?_)
 · replace h20 := DT h20
   exfalso; omega
 replace h20 := DF h20
 refine w_skip ?_
 refine k_block ?_
 refine KK hK16 ?_
 refine w_region ?_
 refine rS (SX (sd_bin (r := .int .i64 2) rfl rfl rfl (b_add ⟨by decide, by decide⟩)) rfl rfl) ?_
 refine rS (MV rfl) ?_
 refine RK hR13 ?_
 refine ro_succ fun R21 hR21 => ?_
 refine WS fun _ hK22 => ?_
 refine rS (SX (sd_bin (r := .bool false) rfl rfl rfl b_lss) rfl rfl) ?_
 refine RK hK22 ?_
 refine w_seq fun _ hK23 => ?_
 refine w_if_false rfl ?_
 refine w_exit ?_
 refine k_exit_then ?_
 refine k_exit_then ?_
 refine k_exit_same ?_
 refine KK hK3 ?_
 refine WS fun _ hK24 => ?_
 refine rS (MV rfl) ?_
 rw [show ((0 + ((xs.length : Nat) : Int)) + ((ys.length : Nat) : Int)) = ((xs.length + ys.length : Nat) : Int) from by omega]
 refine cX (grow_c (xs.length + ys.length) (by first | assumption | omega | (simp; done) | (simp; omega)) (by first | assumption | omega | (simp; done) | (simp; omega))) (ha_nil) rfl fun y25 hy26 => ?_
 obtain ⟨b27, c28⟩ := y25
 change RJ _ _ _ _ _ ((_, (Value.slice (some ⟨b27, 0, none⟩) 0 c28)) :: _) ((own (some ⟨b27, 0, none⟩) c28 77 9 []) :: _)
 refine rS (AG rfl) ?_
 refine RK hK24 ?_
 refine w_seq fun _ hK29 => ?_
 refine WS fun _ hK30 => ?_
 refine rS (MV rfl) ?_
 refine rS (LN rfl ut156) ?_
 refine rS (MV rfl) ?_
 refine RK hK30 ?_
 refine w_block ?_
 refine w_rounds 3 ?_
 refine ro_succ fun R31 hR31 => ?_
 refine WS fun _ hK32 => ?_
 refine rS (SX (sd_bin (r := .bool true) rfl rfl rfl b_lss) rfl rfl) ?_
 refine RK hK32 ?_
 refine w_seq fun _ hK33 => ?_
 refine w_if_true rfl ?_
 refine WK hK33 ?_
 refine w_seq fun _ hK34 => ?_
 refine w_block ?_
 refine WS fun _ hK35 => ?_
 refine rS (IAB 0 0 rfl te156 rfl (by decide) rfl) ?_
 refine rS (L1R (Value.slice xsA xs.length xsC) 1 rfl tk22 rfl rfl) ?_
 refine rS (AG rfl) ?_
 refine RK hK35 ?_
 refine w_region ?_
 refine rS (MV rfl) ?_
 refine rS (MV rfl) ?_
 refine r_append (es2 := (List.map StretchV.cells xs)) (m' := xs.length) 0 rfl rfl rfl ta22 rfl rfl (by simp) (has_at 2 rfl) (one_StretchV_cells _) (by first | omega | (simp; omega)) (by first | (simp only [maxLen]; omega) | (simp [maxLen]; omega)) (by simp) (by simp) rfl fun a36 c37 => ?_
 change RJ _ _ _ _ _ _ [(own a36 c37 77 9 (List.map StretchV.cells xs)), _, _, _]
 refine rS (AG rfl) ?_
 refine r_nil ?_
 refine k_block ?_
 refine KK hK34 ?_
 refine w_region ?_
 refine rS (SX (sd_bin (r := .int .i64 1) rfl rfl rfl (b_add ⟨by decide, by decide⟩)) rfl rfl) ?_
 refine rS (MV rfl) ?_
 refine RK hR31 ?_
 refine ro_succ fun R38 hR38 => ?_
 refine WS fun _ hK39 => ?_
 refine rS (SX (sd_bin (r := .bool true) rfl rfl rfl b_lss) rfl rfl) ?_
 refine RK hK39 ?_
 refine w_seq fun _ hK40 => ?_
 refine w_if_true rfl ?_
 refine WK hK40 ?_
 refine w_seq fun _ hK41 => ?_
 refine w_block ?_
 refine WS fun _ hK42 => ?_
 refine rS (IAB 1 1 rfl te156 rfl (by decide) rfl) ?_
 refine rS (L1R (Value.slice ysA ys.length ysC) 1 rfl tk22 rfl rfl) ?_
 refine rS (AG rfl) ?_
 refine RK hK42 ?_
 refine w_region ?_
 refine rS (MV rfl) ?_
 refine rS (MV rfl) ?_
 refine r_append (es2 := (List.map StretchV.cells (xs ++ ys))) (m' := (xs ++ ys).length) 0 rfl rfl rfl ta22 rfl rfl (by simp) (has_at 3 rfl) (one_StretchV_cells _) (by first | omega | (simp; omega)) (by first | (simp only [maxLen]; omega) | (simp [maxLen]; omega)) (by simp) (by simp) rfl fun a43 c44 => ?_
 change RJ _ _ _ _ _ _ [(own a43 c44 77 9 (List.map StretchV.cells (xs ++ ys))), _, _, _]
 refine rS (AG rfl) ?_
 refine r_nil ?_
 refine k_block ?_
 refine KK hK41 ?_
 refine w_region ?_
 refine rS (SX (sd_bin (r := .int .i64 2) rfl rfl rfl (b_add ⟨by decide, by decide⟩)) rfl rfl) ?_
 refine rS (MV rfl) ?_
 refine RK hR38 ?_
 refine ro_succ fun R45 hR45 => ?_
 refine WS fun _ hK46 => ?_
 refine rS (SX (sd_bin (r := .bool false) rfl rfl rfl b_lss) rfl rfl) ?_
 refine RK hK46 ?_
 refine w_seq fun _ hK47 => ?_
 refine w_if_false rfl ?_
 refine w_exit ?_
 refine k_exit_then ?_
 refine k_exit_then ?_
 refine k_exit_same ?_
 refine KK hK29 ?_
 refine WS fun _ hK48 => ?_
 refine rS (MV rfl) ?_
 refine rS (AG rfl) ?_
 refine RK hK48 ?_
 refine w_ret ?_
 refine hQ _ _ _ (l_nil (vs := [(Value.slice a43 ((xs ++ ys).length) c44)]) ⟨rfl, trivial⟩ fun w hs => endX (a43, c44) [0] ?_ ?_ rfl rfl rfl hs)
 · rfl
 · trivial

set_option maxRecDepth 100000 in
set_option maxHeartbeats 400000 in
theorem join_no (ts : List StretchV) (tsA : Option Addr) (tsC : Nat) (us : List StretchV) (usA : Option Addr) (usC : Nat) (hlen : ts.length ≤ 1000000) (hlen2 : us.length ≤ 1000000) (hside : ∀ x ∈ ts, 0 ≤ x.Side ∧ x.Side ≤ 255) (hside2 : ∀ x ∈ us, 0 ≤ x.Side ∧ x.Side ≤ 255) (hE : ¬ joinE ts us = 0) :
    FnV Try.prog 51 [(Value.agg (TrackV.cells (TrackV.mk (Slc.mk tsA ts.length tsC))).toArray), (Value.agg (TrackV.cells (TrackV.mk (Slc.mk usA us.length usC))).toArray)] [(rd tsA ts.length 9 (ts.map StretchV.cells)), (rd usA us.length 9 (us.map StretchV.cells))] (Value.tuple [(Value.agg (TrackV.cells (TrackV.mk (Slc.mk none 0 0))).toArray), (Value.int .i64 (joinE ts us))].toArray) := by
 refine fnV_of go51 Try.func51 rfl rfl fun w0 Q hQ hN => ?_
 change WJ _ _ _ _ [(0, (Value.agg (TrackV.cells (TrackV.mk (Slc.mk tsA ts.length tsC))).toArray)), (1, (Value.agg (TrackV.cells (TrackV.mk (Slc.mk usA us.length usC))).toArray))] [(rd tsA ts.length 9 (ts.map StretchV.cells)).ro, (rd usA us.length 9 (us.map StretchV.cells)).ro]
 refine WS fun _ hK1 => ?_
 refine BXA rfl fun b2 => ?_
 refine BXA rfl fun b3 => ?_
 refine AL rfl tz24 fun b4 => ?_
 refine rS (AG rfl) ?_
 refine RK hK1 ?_
 refine w_seq fun _ hK5 => ?_
 refine WS fun _ hK6 => ?_
 refine rS (LW 2 rfl tk24 rfl rfl) ?_
 refine rS (CL (tcheck_c ts tsA tsC hlen hside) (ha_at 3 rfl rfl <| ha_nil) rfl) ?_
 refine rS (BI rfl b_neq) ?_
 refine rS (MV rfl) ?_
 refine r_bool (t := 10) rfl (fun h10 => ?_) (fun h10 => ?_)
 · replace h10 := XT h10
   refine rS (OX rfl) ?_
   refine rS (OX rfl) ?_
   refine rS (OX rfl) ?_
   refine rS (PK rfl) ?_
   refine RK hK6 ?_
   refine w_if_true rfl ?_
   refine WS fun _ hK7 => ?_
   refine rS (SX (sd_build (xs := []) (cs := (TrackV.cells (TrackV.mk (Slc.mk none 0 0)))) rfl rfl (built_of tb24 rfl)) rfl rfl) ?_
   refine SW0 rfl ts24 rfl ?_
   refine rS (AG rfl) ?_
   refine RK hK7 ?_
   refine w_ret ?_
   refine hQ _ _ _ (l_nil (vs := [(Value.agg (TrackV.cells (TrackV.mk (Slc.mk none 0 0))).toArray), (Value.int .i64 10)]) ⟨⟨_, rfl, .inl ⟨_, _, tk24, at_blk (vs := (TrackV.cells (TrackV.mk (Slc.mk none 0 0)))) 0 rfl rfl, rfl, rfl⟩⟩, rfl, trivial⟩ fun w hs => endV ?_ hs)
   show (Value.tuple [(Value.agg (TrackV.cells (TrackV.mk (Slc.mk none 0 0))).toArray), (Value.int .i64 10)].toArray) = (Value.tuple [(Value.agg (TrackV.cells (TrackV.mk (Slc.mk none 0 0))).toArray), (Value.int .i64 (joinE ts us))].toArray)
   clear hs w hQ hN hK7 hK6 hK5 hK1
   first | (rw [joinE_bad (fun e => code_no h10 e.1)] <;> rfl) | (rw [joinE_bad (fun e => code_no h14 e.2)] <;> rfl) | (rw [joinE_full ⟨code_tr h10, code_tr h14⟩ h23] <;> rfl) | (rw [joinE_odd ⟨code_tr h10, code_tr h14⟩ h23 (code_no h29)] <;> rfl)
 replace h10 := XF h10
 refine rS (LW 1 rfl tk24 rfl rfl) ?_
 refine rS (CL (tcheck_c us usA usC hlen2 hside2) (ha_at 4 rfl rfl <| ha_nil) rfl) ?_
 refine rS (BI rfl b_neq) ?_
 refine rS (PK rfl) ?_
 refine RK hK6 ?_
 refine w_if rfl (fun h14 => ?_) (fun h14 => ?_)
 · replace h14 := XT h14
   refine WS fun _ hK8 => ?_
   refine rS (SX (sd_build (xs := []) (cs := (TrackV.cells (TrackV.mk (Slc.mk none 0 0)))) rfl rfl (built_of tb24 rfl)) rfl rfl) ?_
   refine SW0 rfl ts24 rfl ?_
   refine rS (AG rfl) ?_
   refine RK hK8 ?_
   refine w_ret ?_
   refine hQ _ _ _ (l_nil (vs := [(Value.agg (TrackV.cells (TrackV.mk (Slc.mk none 0 0))).toArray), (Value.int .i64 10)]) ⟨⟨_, rfl, .inl ⟨_, _, tk24, at_blk (vs := (TrackV.cells (TrackV.mk (Slc.mk none 0 0)))) 0 rfl rfl, rfl, rfl⟩⟩, rfl, trivial⟩ fun w hs => endV ?_ hs)
   show (Value.tuple [(Value.agg (TrackV.cells (TrackV.mk (Slc.mk none 0 0))).toArray), (Value.int .i64 10)].toArray) = (Value.tuple [(Value.agg (TrackV.cells (TrackV.mk (Slc.mk none 0 0))).toArray), (Value.int .i64 (joinE ts us))].toArray)
   clear hs w hQ hN hK8 hK6 hK5 hK1
   first | (rw [joinE_bad (fun e => code_no h10 e.1)] <;> rfl) | (rw [joinE_bad (fun e => code_no h14 e.2)] <;> rfl) | (rw [joinE_full ⟨code_tr h10, code_tr h14⟩ h23] <;> rfl) | (rw [joinE_odd ⟨code_tr h10, code_tr h14⟩ h23 (code_no h29)] <;> rfl)
 replace h14 := XF h14
 refine WK hK5 ?_
 refine WS fun _ hK9 => ?_
 refine rS (FA 0 rfl fo24_0 rfl) ?_
 refine rS (L1 (Value.slice tsA ts.length tsC) 2 rfl tk22 rfl rfl) ?_
 refine rS (FA 0 rfl fo24_0 rfl) ?_
 refine rS (L1 (Value.slice usA us.length usC) 1 rfl tk22 rfl rfl) ?_
 refine r_bs (xs := [.tmp 17, .tmp 19]) (cs := [(Value.slice tsA ts.length tsC), (Value.slice usA us.length usC)]) rfl te156 tz22 rfl rfl rfl rfl (by simp [Value.cells]) rfl rfl fun b10 => ?_
 refine cX (concat_c ts tsA tsC us usA usC b10 (by have := trackOk_pos (code_tr h10); omega) (by have := trackOk_le (code_tr h10); have := trackOk_le (code_tr h14); omega)) (ha_at 0 rfl rfl <| ha_at 4 rfl rfl <| ha_at 5 rfl rfl <| ha_nil) rfl fun y11 hy12 => ?_
 obtain ⟨a13, c14⟩ := y11
 change RJ _ _ _ _ _ ((_, (Value.slice a13 ((ts ++ us).length) c14)) :: _) ((own a13 c14 77 9 ((ts ++ us).map StretchV.cells)) :: _)
 refine rS (SX (sd_build (xs := [(0, .tmp 21)]) (cs := (TrackV.cells (TrackV.mk (Slc.mk a13 ((ts ++ us).length) c14)))) rfl rfl (built_of tb24 rfl)) rfl rfl) ?_
 refine AL rfl tz24 fun b15 => ?_
 refine SW0 rfl ts24 rfl ?_
 refine RK hK9 ?_
 refine w_seq fun _ hK16 => ?_
 refine w_block ?_
 refine WS fun _ hK17 => ?_
 refine rS (FA 0 rfl fo24_0 rfl) ?_
 refine rS (L1 (Value.slice a13 ((ts ++ us).length) c14) 0 rfl tk22 rfl rfl) ?_
 refine rS (LN rfl ut22) ?_
 refine rS (BI rfl b_gtr) ?_
 refine rS (AG rfl) ?_
 refine RK hK17 ?_
 refine w_if rfl (fun h23 => ?_) (fun h23 => ?_)
 · replace h23 := DT h23
   refine WS fun _ hK18 => ?_
   refine rS (SX (sd_build (xs := []) (cs := (TrackV.cells (TrackV.mk (Slc.mk none 0 0)))) rfl rfl (built_of tb24 rfl)) rfl rfl) ?_
   refine SW3 rfl ts24 rfl ?_
   refine rS (AG rfl) ?_
   refine RK hK18 ?_
   refine w_ret ?_
   refine hQ _ _ _ (l_nil (vs := [(Value.agg (TrackV.cells (TrackV.mk (Slc.mk none 0 0))).toArray), (Value.int .i64 9)]) ⟨⟨_, rfl, .inl ⟨_, _, tk24, at_blk (vs := (TrackV.cells (TrackV.mk (Slc.mk none 0 0)))) 3 rfl rfl, rfl, rfl⟩⟩, rfl, trivial⟩ fun w hs => endV ?_ hs)
   show (Value.tuple [(Value.agg (TrackV.cells (TrackV.mk (Slc.mk none 0 0))).toArray), (Value.int .i64 9)].toArray) = (Value.tuple [(Value.agg (TrackV.cells (TrackV.mk (Slc.mk none 0 0))).toArray), (Value.int .i64 (joinE ts us))].toArray)
   clear hs w hQ hN hK18 hK17 hK16 hK9 hK6 hK5 hK1
   first | (rw [joinE_bad (fun e => code_no h10 e.1)] <;> rfl) | (rw [joinE_bad (fun e => code_no h14 e.2)] <;> rfl) | (rw [joinE_full ⟨code_tr h10, code_tr h14⟩ h23] <;> rfl) | (rw [joinE_odd ⟨code_tr h10, code_tr h14⟩ h23 (code_no h29)] <;> rfl)
 replace h23 := DF h23
 refine WS fun _ hK19 => ?_
 refine rS (LW 0 rfl tk24 rfl rfl) ?_
 refine rS (CL (tcheck_c (ts ++ us) a13 c14 (by first | omega | (simp only [List.length_append]; omega)) (by exact append_side hside hside2)) (ha_cons (has_own_n (n := (ts ++ us).length) 1 rfl (by simp)) <| ha_nil) rfl) ?_
 refine rS (BI rfl b_neq) ?_
 refine rS (AG rfl) ?_
 refine RK hK19 ?_
 refine w_if rfl (fun h29 => ?_) (fun h29 => ?_)
 rotate_left 1
 · replace h29 := XF h29
   exact absurd (by unfold joinE; rw [if_pos ⟨code_tr h10, code_tr h14⟩, if_neg h23, if_pos (code_tr h29)]) hE
 replace h29 := XT h29
 refine WS fun _ hK20 => ?_
 refine rS (SX (sd_build (xs := []) (cs := (TrackV.cells (TrackV.mk (Slc.mk none 0 0)))) rfl rfl (built_of tb24 rfl)) rfl rfl) ?_
 refine SW3 rfl ts24 rfl ?_
 refine rS (AG rfl) ?_
 refine RK hK20 ?_
 refine w_ret ?_
 refine hQ _ _ _ (l_nil (vs := [(Value.agg (TrackV.cells (TrackV.mk (Slc.mk none 0 0))).toArray), (Value.int .i64 8)]) ⟨⟨_, rfl, .inl ⟨_, _, tk24, at_blk (vs := (TrackV.cells (TrackV.mk (Slc.mk none 0 0)))) 3 rfl rfl, rfl, rfl⟩⟩, rfl, trivial⟩ fun w hs => endV ?_ hs)
 show (Value.tuple [(Value.agg (TrackV.cells (TrackV.mk (Slc.mk none 0 0))).toArray), (Value.int .i64 8)].toArray) = (Value.tuple [(Value.agg (TrackV.cells (TrackV.mk (Slc.mk none 0 0))).toArray), (Value.int .i64 (joinE ts us))].toArray)
 clear hs w hQ hN hK20 hK19 hK17 hK16 hK9 hK6 hK5 hK1
 first | (rw [joinE_bad (fun e => code_no h10 e.1)] <;> rfl) | (rw [joinE_bad (fun e => code_no h14 e.2)] <;> rfl) | (rw [joinE_full ⟨code_tr h10, code_tr h14⟩ h23] <;> rfl) | (rw [joinE_odd ⟨code_tr h10, code_tr h14⟩ h23 (code_no h29)] <;> rfl)

set_option maxRecDepth 100000 in
set_option maxHeartbeats 400000 in
theorem join_ok (ts : List StretchV) (tsA : Option Addr) (tsC : Nat) (us : List StretchV) (usA : Option Addr) (usC : Nat) (hlen : ts.length ≤ 1000000) (hlen2 : us.length ≤ 1000000) (hside : ∀ x ∈ ts, 0 ≤ x.Side ∧ x.Side ≤ 255) (hside2 : ∀ x ∈ us, 0 ≤ x.Side ∧ x.Side ≤ 255) (hE : joinE ts us = 0) :
    FnX Try.prog 51 [(Value.agg (TrackV.cells (TrackV.mk (Slc.mk tsA ts.length tsC))).toArray), (Value.agg (TrackV.cells (TrackV.mk (Slc.mk usA us.length usC))).toArray)] [(rd tsA ts.length 9 (ts.map StretchV.cells)), (rd usA us.length 9 (us.map StretchV.cells))] (fun (x : (Option Addr) × Nat) => (Value.tuple [(Value.agg (TrackV.cells (TrackV.mk (Slc.mk x.1 ((ts ++ us).length) x.2))).toArray), (Value.int .i64 (joinE ts us))].toArray)) (fun (x : (Option Addr) × Nat) => True) (fun (x : (Option Addr) × Nat) => [(own x.1 x.2 77 9 ((ts ++ us).map StretchV.cells))]) := by
 obtain ⟨t1, t2, t3, t4⟩ := joinE_ok hE
 have p1 := trackOk_pos t1
 have q1 := trackOk_le t1
 have p2 := trackOk_pos t2
 have q2 := trackOk_le t2
 refine fnX_of go51 Try.func51 rfl rfl fun w0 Q hQ hN => ?_
 change WJ _ _ _ _ [(0, (Value.agg (TrackV.cells (TrackV.mk (Slc.mk tsA ts.length tsC))).toArray)), (1, (Value.agg (TrackV.cells (TrackV.mk (Slc.mk usA us.length usC))).toArray))] [(rd tsA ts.length 9 (ts.map StretchV.cells)).ro, (rd usA us.length 9 (us.map StretchV.cells)).ro]
 refine WS fun _ hK1 => ?_
 refine BXA rfl fun b2 => ?_
 refine BXA rfl fun b3 => ?_
 refine AL rfl tz24 fun b4 => ?_
 refine rS (AG rfl) ?_
 refine RK hK1 ?_
 refine w_seq fun _ hK5 => ?_
 refine WS fun _ hK6 => ?_
 refine rS (LW 2 rfl tk24 rfl rfl) ?_
 refine rS (CL (tcheck_c ts tsA tsC hlen hside) (ha_at 3 rfl rfl <| ha_nil) rfl) ?_
 refine rS (BI rfl b_neq) ?_
 refine rS (MV rfl) ?_
 refine r_bool (t := 10) rfl (fun h10 => ?_) (fun h10 => ?_)
 · replace h10 := XT h10
   exact absurd (if_pos t1) h10
 replace h10 := XF h10
 refine rS (LW 1 rfl tk24 rfl rfl) ?_
 refine rS (CL (tcheck_c us usA usC hlen2 hside2) (ha_at 4 rfl rfl <| ha_nil) rfl) ?_
 refine rS (BI rfl b_neq) ?_
 refine rS (PK rfl) ?_
 refine RK hK6 ?_
 refine w_if rfl (fun h14 => ?_) (fun h14 => ?_)
 · replace h14 := XT h14
   exact absurd (if_pos t2) h14
 replace h14 := XF h14
 refine WK hK5 ?_
 refine WS fun _ hK7 => ?_
 refine rS (FA 0 rfl fo24_0 rfl) ?_
 refine rS (L1 (Value.slice tsA ts.length tsC) 2 rfl tk22 rfl rfl) ?_
 refine rS (FA 0 rfl fo24_0 rfl) ?_
 refine rS (L1 (Value.slice usA us.length usC) 1 rfl tk22 rfl rfl) ?_
 refine r_bs (xs := [.tmp 17, .tmp 19]) (cs := [(Value.slice tsA ts.length tsC), (Value.slice usA us.length usC)]) rfl te156 tz22 rfl rfl rfl rfl (by simp [Value.cells]) rfl rfl fun b8 => ?_
 refine cX (concat_c ts tsA tsC us usA usC b8 (by first | assumption | omega | (simp; done) | (simp; omega)) (by first | assumption | omega | (simp; done) | (simp; omega))) (ha_at 0 rfl rfl <| ha_at 4 rfl rfl <| ha_at 5 rfl rfl <| ha_nil) rfl fun y9 hy10 => ?_
 obtain ⟨a11, c12⟩ := y9
 change RJ _ _ _ _ _ ((_, (Value.slice a11 ((ts ++ us).length) c12)) :: _) ((own a11 c12 77 9 ((ts ++ us).map StretchV.cells)) :: _)
 refine rS (SX (sd_build (xs := [(0, .tmp 21)]) (cs := (TrackV.cells (TrackV.mk (Slc.mk a11 ((ts ++ us).length) c12)))) rfl rfl (built_of tb24 rfl)) rfl rfl) ?_
 refine AL rfl tz24 fun b13 => ?_
 refine SW0 rfl ts24 rfl ?_
 refine RK hK7 ?_
 refine w_seq fun _ hK14 => ?_
 refine w_block ?_
 refine WS fun _ hK15 => ?_
 refine rS (FA 0 rfl fo24_0 rfl) ?_
 refine rS (L1 (Value.slice a11 ((ts ++ us).length) c12) 0 rfl tk22 rfl rfl) ?_
 refine rS (LN rfl ut22) ?_
 refine rS (BI rfl b_gtr) ?_
 refine rS (AG rfl) ?_
 refine RK hK15 ?_
 refine w_if rfl (fun h23 => ?_) (fun h23 => ?_)
 · replace h23 := DT h23
   exfalso; omega
 replace h23 := DF h23
 refine WS fun _ hK16 => ?_
 refine rS (LW 0 rfl tk24 rfl rfl) ?_
 refine rS (CL (tcheck_c (ts ++ us) a11 c12 (by first | omega | (simp only [List.length_append]; omega)) (by exact append_side hside hside2)) (ha_cons (has_own_n (n := (ts ++ us).length) 1 rfl (by simp)) <| ha_nil) rfl) ?_
 refine rS (BI rfl b_neq) ?_
 refine rS (AG rfl) ?_
 refine RK hK16 ?_
 refine w_if rfl (fun h29 => ?_) (fun h29 => ?_)
 · replace h29 := XT h29
   exact absurd (if_pos t4) h29
 replace h29 := XF h29
 refine w_skip ?_
 refine k_block ?_
 refine KK hK14 ?_
 refine WS fun _ hK17 => ?_
 refine rS (LW 0 rfl tk24 rfl rfl) ?_
 refine SW3 rfl ts24 rfl ?_
 refine rS (AG rfl) ?_
 refine RK hK17 ?_
 refine w_ret ?_
 refine hQ _ _ _ (l_nil (vs := [(Value.agg (TrackV.cells (TrackV.mk (Slc.mk a11 ((ts ++ us).length) c12))).toArray), (Value.int .i64 0)]) ⟨⟨_, rfl, .inl ⟨_, _, tk24, at_blk (vs := (TrackV.cells (TrackV.mk (Slc.mk a11 ((ts ++ us).length) c12)))) 3 rfl rfl, rfl, rfl⟩⟩, rfl, trivial⟩ fun w hs => endX (a11, c12) [1] ?_ ?_ rfl rfl rfl hs)
 · rw [hE] <;> rfl
 · trivial

theorem join_c (ts : List StretchV) (tsA : Option Addr) (tsC : Nat) (us : List StretchV) (usA : Option Addr) (usC : Nat) (hlen : ts.length ≤ 1000000) (hlen2 : us.length ≤ 1000000) (hside : ∀ x ∈ ts, 0 ≤ x.Side ∧ x.Side ≤ 255) (hside2 : ∀ x ∈ us, 0 ≤ x.Side ∧ x.Side ≤ 255) :
    FnX Try.prog 51 [(Value.agg (TrackV.cells (TrackV.mk (Slc.mk tsA ts.length tsC))).toArray), (Value.agg (TrackV.cells (TrackV.mk (Slc.mk usA us.length usC))).toArray)] [(rd tsA ts.length 9 (ts.map StretchV.cells)), (rd usA us.length 9 (us.map StretchV.cells))] (fun (x : (Option Addr) × Nat) => (Value.tuple [(Value.agg (TrackV.cells (TrackV.mk (Slc.mk x.1 ((joinL ts us).length) x.2))).toArray), (Value.int .i64 (joinE ts us))].toArray)) (fun (x : (Option Addr) × Nat) => True) (fun (x : (Option Addr) × Nat) => [(own x.1 x.2 77 9 ((joinL ts us).map StretchV.cells))]) := by
  by_cases hE : joinE ts us = 0
  · rw [joinL_ok hE]
    exact join_ok ts tsA tsC us usA usC hlen hlen2 hside hside2 hE
  · rw [joinL_no hE]
    exact FnV.toX (none, 0) (join_no ts tsA tsC us usA usC hlen hlen2 hside hside2 hE) trivial own_none

end Go.Proofs.Ytpbgdeojcefnmaa
