/-
  Walks: kreisel/kreiselref05.within, kreisel/kreiselref01.marks, kreisel/kreiselref01.At, kreisel/kreiselref01.Apart, kreisel/kreiselref01.Apart
-/
import Derived.Test.YtaehngpnlkokkaaTab
import Derived.Test.YtaehngpnlkokkaaShort
import Derived.Test.YtaehngpnlkokkaaLineR
import Derived.Test.YtaehngpnlkokkaaB1
import Derived.Test.YtaehngpnlkokkaaB3
namespace Go.Proofs.Ytaehngpnlkokkaa
open Go.RowKit
set_option linter.unusedVariables false

set_option maxRecDepth 100000 in
set_option maxHeartbeats 400000 in
theorem within_5 (n : Int) (lo : Int) (hi : Int) :
    FnV Try.prog 47 [(Value.int .i64 n), (Value.int .i64 lo), (Value.int .i64 hi)] [] (Value.bool (decide (lo ≤ n ∧ n ≤ hi))) := by
 refine fnV_of go47 Try.func47 rfl rfl fun w0 Q hQ hN => ?_
 change WJ _ _ _ _ [(0, (Value.int .i64 n)), (1, (Value.int .i64 lo)), (2, (Value.int .i64 hi))] []
 refine WS fun _ hK1 => ?_
 refine rS (AG rfl) ?_
 refine RK hK1 ?_
 refine WS fun _ hK2 => ?_
 refine rS (MV rfl) ?_
 refine rS (MV rfl) ?_
 refine rS (BI rfl b_geq) ?_
 refine rS (MV rfl) ?_
 refine r_bool (t := 10) rfl (fun h3 => ?_) (fun h3 => ?_)
 rotate_left 1
 · replace h3 := DF h3
   refine rS (OX rfl) ?_
   refine rS (OX rfl) ?_
   refine rS (OX rfl) ?_
   refine rS (PK rfl) ?_
   refine rS (AG rfl) ?_
   refine RK hK2 ?_
   refine w_ret ?_
   refine Q1 hQ rfl rfl rfl ?_
   exact congrArg Value.bool (decide_eq_false (by omega)).symm
 replace h3 := DT h3
 refine rS (MV rfl) ?_
 refine rS (MV rfl) ?_
 refine rS (BI rfl b_leq) ?_
 refine rS (PK rfl) ?_
 refine rS (AG rfl) ?_
 refine RK hK2 ?_
 refine w_ret ?_
 refine Q1 hQ rfl rfl rfl ?_
 exact congrArg Value.bool (decide_eq_decide.2 (by omega))

set_option maxRecDepth 100000 in
set_option maxHeartbeats 400000 in
theorem rmarks_c (ts : List StretchV) (tsA : Option Addr) (tsC : Nat) (hst : ∀ x ∈ ts, StretchOk x) (hlen : ts.length ≤ 12) :
    FnX Try.prog 124 [(Value.agg (TrackV.cells (TrackV.mk (Slc.mk tsA ts.length tsC))).toArray)] [(rd tsA ts.length 9 (ts.map StretchV.cells))] (fun (x : (Option Addr) × Nat) => (Value.slice x.1 ((marksS ts (ts.length + 1)).length) x.2)) (fun (x : (Option Addr) × Nat) => True) (fun (x : (Option Addr) × Nat) => [(own x.1 x.2 34 2 ((marksS ts (ts.length + 1)).map SpanV.cells))]) := by
 refine fnX_of go124 Try.func124 rfl rfl fun w0 Q hQ hN => ?_
 change WJ _ _ _ _ [(0, (Value.agg (TrackV.cells (TrackV.mk (Slc.mk tsA ts.length tsC))).toArray))] [(rd tsA ts.length 9 (ts.map StretchV.cells)).ro]
 refine WS fun _ hK1 => ?_
 refine BXA rfl fun b2 => ?_
 refine rS (AG rfl) ?_
 refine RK hK1 ?_
 refine WS fun _ hK3 => ?_
 refine rS (AG rfl) ?_
 refine RK hK3 ?_
 refine w_seq fun _ hK4 => ?_
 refine WS fun _ hK5 => ?_
 refine rS (AG rfl) ?_
 refine RK hK5 ?_
 refine w_block ?_
 refine w_own_nil 34 2 ?_
 have hinit : (0 ≤ ts.length + 1) := by exact Nat.zero_le _
 refine w_loop (ι := { z : Nat × (Option Addr) × Nat // (z.1 ≤ ts.length + 1) }) (fun z => [(1, (Value.pointer (some ⟨b2, 0, none⟩))), (3, (Value.slice z.1.2.1 ((marksS ts z.1.1).length) z.1.2.2)), (4, (Value.int .i64 ((z.1.1 : Nat) : Int)))]) (fun z => [(own z.1.2.1 z.1.2.2 34 2 ((marksS ts z.1.1).map SpanV.cells)), (blk b2 24 (TrackV.cells (TrackV.mk (Slc.mk tsA ts.length tsC)))), (rd tsA ts.length 9 (ts.map StretchV.cells)).ro]) (fun z => ts.length + 1 - z.1.1) ⟨(0, none, 0), hinit⟩ (Sub.cons rfl <| Sub.cons rfl <| Sub.cons rfl <| Sub.nil _) (fun w hs => St.sel [0, 1, 2] rfl rfl hs) ?_
 clear hinit
 rintro ⟨⟨i, a, c⟩, hl0_0⟩ J6 hJ6
 try dsimp only at hl0_0
 change WJ _ _ _ _ [(1, (Value.pointer (some ⟨b2, 0, none⟩))), (3, (Value.slice a ((marksS ts i).length) c)), (4, (Value.int .i64 ((i : Nat) : Int)))] [(own a c 34 2 ((marksS ts i).map SpanV.cells)), (blk b2 24 (TrackV.cells (TrackV.mk (Slc.mk tsA ts.length tsC)))), (rd tsA ts.length 9 (ts.map StretchV.cells)).ro]
 refine w_seq fun _ hK7 => ?_
 refine WS fun _ hK8 => ?_
 refine rS (MV rfl) ?_
 refine rS (FA 0 rfl fo24_0 rfl) ?_
 refine rS (L1 (Value.slice tsA ts.length tsC) 1 rfl tk22 rfl rfl) ?_
 refine rS (LN rfl ut22) ?_
 refine rS (BI rfl b_leq) ?_
 refine RK hK8 ?_
 refine w_if rfl (fun h9 => ?_) (fun h9 => ?_)
 rotate_left 1
 · replace h9 := DF h9
   refine w_exit ?_
   refine k_exit_then ?_
   refine k_exit_then ?_
   refine k_exit_same ?_
   refine KK hK4 ?_
   refine WS fun _ hK18 => ?_
   obtain rfl : i = ts.length + 1 := by omega
   refine rS (MV rfl) ?_
   refine rS (AG rfl) ?_
   refine RK hK18 ?_
   refine w_ret ?_
   refine hQ _ _ _ (l_nil (vs := [(Value.slice a ((marksS ts (ts.length + 1)).length) c)]) ⟨rfl, trivial⟩ fun w hs => endX (a, c) [0] ?_ ?_ rfl rfl rfl hs)
   · rfl
   · trivial
 replace h9 := DT h9
 refine WK hK7 ?_
 refine w_seq fun _ hK10 => ?_
 refine w_block ?_
 refine WS fun _ hK11 => ?_
 refine rS (LW 1 rfl tk24 rfl rfl) ?_
 refine rS (MV rfl) ?_
 refine rS (CL (rdrop_c ts tsA tsC 0 ((i : Nat) : Int) hst hlen (by omega)) (ha_at 2 rfl rfl <| ha_nil) rfl) ?_
 refine rS (MV rfl) ?_
 refine rS (EX rfl) ?_
 refine rS (EX rfl) ?_
 refine AL rfl tz34 fun b12 => ?_
 refine AL rfl tz34 fun b13 => ?_
 refine SW1 rfl ts34 rfl ?_
 refine SW0 rfl ts34 rfl ?_
 refine RK hK11 ?_
 refine w_region ?_
 refine rS (MV rfl) ?_
 refine rS (LW 1 rfl tk34 rfl rfl) ?_
 refine r_bs (xs := [.tmp 21]) (cs := (SpanV.cells (longF ts (0 : Int).toNat (((i : Nat) : Int) - 0).toNat))) rfl te81 tz34 rfl rfl rfl rfl (by simp [Value.cells, SpanV.cells_length]) rfl rfl fun b14 => ?_
 refine r_append (es2 := (List.map SpanV.cells (marksS ts (i + 1)))) (m' := (marksS ts (i + 1)).length) 3 rfl rfl rfl ta81 rfl rfl (by simp) (has_rd_blk (es := List.map SpanV.cells [(longF ts (0 : Int).toNat (((i : Nat) : Int) - 0).toNat)]) 0 rfl rfl (by simp [SpanV.cells_length]) rfl) (one_SpanV_cells _) (by simp only [marksS_length]; omega) (by simp only [maxLen, marksS_length]; omega) (by rw [marksS_succ]; simp) (by simp) rfl fun a15 c16 => ?_
 change RJ _ _ _ _ _ _ [_, _, _, (own a15 c16 34 2 (List.map SpanV.cells (marksS ts (i + 1)))), _, _]
 refine rS (AG rfl) ?_
 refine r_nil ?_
 refine k_block ?_
 refine KK hK10 ?_
 refine w_region ?_
 refine rS (MV rfl) ?_
 refine rS (BI rfl (b_add ⟨by omega, by omega⟩)) ?_
 refine rS (AG rfl) ?_
 refine r_nil ?_
 have hb17 : (Value.int .i64 (((i + 1) : Nat) : Int)) = (Value.int .i64 (((i : Nat) : Int) + 1)) := by exact congrArg (Value.int .i64) (by omega)
 refine k_then (hJ6 ⟨((i + 1), a15, c16), (by first | omega | (simp only []; omega))⟩ _ _ _ rfl (by first | omega | (simp; omega)) (Sub.cons rfl <| Sub.cons rfl <| sub_val rfl hb17 <| Sub.nil _) (fun w hs => St.sel [3, 4, 5] rfl rfl hs))

set_option maxRecDepth 100000 in
set_option maxHeartbeats 400000 in
theorem rat_c (ts : List StretchV) (tsA : Option Addr) (tsC : Nat) (s : SpotV) (hlen : ts.length ≤ 1000000) (hside : ∀ x ∈ ts, 0 ≤ x.Side ∧ x.Side ≤ 255) :
    FnV Try.prog 106 [(Value.agg (TrackV.cells (TrackV.mk (Slc.mk tsA ts.length tsC))).toArray), (Value.agg (SpotV.cells s).toArray)] [(rd tsA ts.length 9 (ts.map StretchV.cells))] (Value.tuple [(Value.agg (SpanV.cells (atV ts s)).toArray), (Value.int .i64 (atE ts s))].toArray) := by
 refine fnV_of go106 Try.func106 rfl rfl fun w0 Q hQ hN => ?_
 change WJ _ _ _ _ [(0, (Value.agg (TrackV.cells (TrackV.mk (Slc.mk tsA ts.length tsC))).toArray)), (1, (Value.agg (SpotV.cells s).toArray))] [(rd tsA ts.length 9 (ts.map StretchV.cells)).ro]
 refine WS fun _ hK1 => ?_
 refine BXA rfl fun b2 => ?_
 refine BXA rfl fun b3 => ?_
 refine AL rfl tz34 fun b4 => ?_
 refine rS (AG rfl) ?_
 refine RK hK1 ?_
 refine w_seq fun _ hK5 => ?_
 refine WS fun _ hK6 => ?_
 refine rS (LW 2 rfl tk24 rfl rfl) ?_
 refine rS (CL (track_c ts tsA tsC hlen) (ha_at 3 rfl rfl <| ha_nil) rfl) ?_
 refine rS (NT rfl) ?_
 refine RK hK6 ?_
 refine w_if rfl (fun h9 => ?_) (fun h9 => ?_)
 · rw [Bool.not_eq_true'] at h9
   refine WS fun _ hK7 => ?_
   refine rS (SX (sd_build (xs := []) (cs := (SpanV.cells (SpanV.mk 0 0))) rfl rfl (built_of tb34 rfl)) rfl rfl) ?_
   refine SW0 rfl ts34 rfl ?_
   refine rS (AG rfl) ?_
   refine RK hK7 ?_
   refine w_ret ?_
   refine hQ _ _ _ (l_nil (vs := [(Value.agg (SpanV.cells (SpanV.mk 0 0)).toArray), (Value.int .i64 10)]) ⟨⟨_, rfl, .inl ⟨_, _, tk34, at_blk (vs := (SpanV.cells (SpanV.mk 0 0))) 0 rfl rfl, rfl, rfl⟩⟩, rfl, trivial⟩ fun w hs => endV ?_ hs)
   show (Value.tuple [(Value.agg (SpanV.cells (SpanV.mk 0 0)).toArray), (Value.int .i64 10)].toArray) = (Value.tuple [(Value.agg (SpanV.cells (atV ts s)).toArray), (Value.int .i64 (atE ts s))].toArray)
   clear hs w hQ hN hK7 hK6 hK5 hK1
   first | (have e := at_bad (s := s) (by simpa using h9); rw [e.1, e.2] <;> rfl) | (have e := at_out h9 h14; rw [e.1, e.2] <;> rfl) | (have e := at_in h9 h14; subst hzm; rw [e.1, e.2] <;> rfl)
 rw [Bool.not_eq_false'] at h9
 refine WK hK5 ?_
 refine w_seq fun _ hK8 => ?_
 refine WS fun _ hK9 => ?_
 have hst := trackOk_all h9
 have hl12 := trackOk_le h9
 refine rS (LW 2 rfl tk24 rfl rfl) ?_
 refine rS (LW 1 rfl tk53 rfl rfl) ?_
 refine rS (CL (rspot_c ts tsA tsC s (by first | assumption | omega | (simp; done) | (simp; omega)) (by first | assumption | omega | (simp; done) | (simp; omega))) (ha_at 3 rfl rfl <| ha_nil) rfl) ?_
 refine rS (NT rfl) ?_
 refine RK hK9 ?_
 refine w_if rfl (fun h14 => ?_) (fun h14 => ?_)
 · replace h14 := XT h14
   refine WS fun _ hK10 => ?_
   refine rS (SX (sd_build (xs := []) (cs := (SpanV.cells (SpanV.mk 0 0))) rfl rfl (built_of tb34 rfl)) rfl rfl) ?_
   refine SW0 rfl ts34 rfl ?_
   refine rS (AG rfl) ?_
   refine RK hK10 ?_
   refine w_ret ?_
   refine hQ _ _ _ (l_nil (vs := [(Value.agg (SpanV.cells (SpanV.mk 0 0)).toArray), (Value.int .i64 12)]) ⟨⟨_, rfl, .inl ⟨_, _, tk34, at_blk (vs := (SpanV.cells (SpanV.mk 0 0))) 0 rfl rfl, rfl, rfl⟩⟩, rfl, trivial⟩ fun w hs => endV ?_ hs)
   show (Value.tuple [(Value.agg (SpanV.cells (SpanV.mk 0 0)).toArray), (Value.int .i64 12)].toArray) = (Value.tuple [(Value.agg (SpanV.cells (atV ts s)).toArray), (Value.int .i64 (atE ts s))].toArray)
   clear hs w hQ hN hK10 hK9 hK8 hK6 hK5 hK1
   first | (have e := at_bad (s := s) (by simpa using h9); rw [e.1, e.2] <;> rfl) | (have e := at_out h9 h14; rw [e.1, e.2] <;> rfl) | (have e := at_in h9 h14; subst hzm; rw [e.1, e.2] <;> rfl)
 replace h14 := XF h14
 refine WK hK8 ?_
 refine w_seq fun _ hK11 => ?_
 refine w_drawN mixed [0, 2, 3] [1, 4, 5, 6, 7] [false, false, false] [] [(blk b4 34 (SpanV.cells (SpanV.mk 0 0))), (blk b3 53 (SpotV.cells s)), (blk b2 24 (TrackV.cells (TrackV.mk (Slc.mk tsA ts.length tsC)))), (rd tsA ts.length 9 (ts.map StretchV.cells)).ro] [] (by kernel_rfl) (fun w hs => St.sel [0, 1, 2, 3] rfl rfl hs) (fun w hs => St.sel [] rfl rfl hs) ?_
 have hsb := h14.1
 have hof := off_in hst h14
 have hml : (marksS ts (ts.length + 1)).length = ts.length + 1 := marksS_length
 refine eS rfl (LW 2 rfl tk24 rfl rfl) ?_
 refine eS rfl (FA 0 rfl fo53_0 rfl) ?_
 refine eS rfl (L1 (Value.int .i64 s.Stretch) 1 rfl tk3 rfl rfl) ?_
 refine d_fin rfl ?_
 refine n_step [1, 6] (by kernel_rfl) (n_cons ?_ <| n_cons ?_ <| n_nil)
 rotate_left 1
 · refine n_op (rem' := [1, 4, 5, 7]) rfl (by kernel_rfl) rfl fun T34 hT34 => ?_
   refine AL rfl tz34 fun b35 => ?_
   refine r_nil (hT34 _ _ (fun w hs => St.sel [1, 2, 3, 4] rfl rfl hs) ?_)
   refine n_step [1] (by kernel_rfl) (n_cons ?_ <| n_nil)
   refine n_op (rem' := [4, 5, 7]) rfl (by kernel_rfl) rfl fun T36 hT36 => ?_
   refine cX (rmarks_c ts tsA tsC (by first | assumption | omega | (simp; done) | (simp; omega)) (by first | assumption | omega | (simp; done) | (simp; omega))) (ha_at 4 rfl rfl <| ha_nil) rfl fun y37 hy38 => ?_
   obtain ⟨a39, c40⟩ := y37
   change RJ _ _ _ _ _ ((_, (Value.slice a39 ((marksS ts (ts.length + 1)).length) c40)) :: _) ((own a39 c40 34 2 ((marksS ts (ts.length + 1)).map SpanV.cells)) :: _)
   refine r_nil (hT36 _ _ (fun w hs => St.sel [2, 3, 4, 5] rfl rfl hs) ?_)
   refine n_step [4] (by kernel_rfl) (n_cons ?_ <| n_nil)
   refine n_op (rem' := [5, 7]) rfl (by kernel_rfl) rfl fun T41 hT41 => ?_
   obtain ⟨z, hz⟩ : ∃ y_, (marksS ts (ts.length + 1))[(s.Stretch).toNat]? = some y_ := ⟨(marksS ts (ts.length + 1))[(s.Stretch).toNat]'(by omega), List.getElem?_eq_getElem _⟩
   have hzm : ((marksS ts (ts.length + 1)).map SpanV.cells)[(s.Stretch).toNat]? = some (SpanV.cells z) := by rw [List.getElem?_map, hz]; rfl
   refine rS (IA ((s.Stretch).toNat) rfl (has_own_n (n := (marksS ts (ts.length + 1)).length) 0 rfl (by simp)) te81 (by decide) (by omega) (by omega)) ?_
   refine r_nil (hT41 _ _ (fun w hs => St.sel [2, 3, 4, 5] rfl rfl hs) ?_)
   refine n_step [5] (by kernel_rfl) (n_cons ?_ <| n_nil)
   refine n_op (rem' := [7]) rfl (by kernel_rfl) rfl fun T42 hT42 => ?_
   refine rS (LEN ((s.Stretch).toNat) 0 (SpanV.cells z) rfl tk34 (has_own_n (n := (marksS ts (ts.length + 1)).length) 0 rfl (by simp)) hzm rfl (by decide) rfl rfl) ?_
   refine r_nil (hT42 _ _ (fun w hs => St.sel [2, 3, 4, 5] rfl rfl hs) ?_)
   refine n_step [7] (by kernel_rfl) (n_cons ?_ <| n_nil)
   refine n_op (rem' := []) rfl (by kernel_rfl) rfl fun T43 hT43 => ?_
   refine SW1 rfl ts34 rfl ?_
   refine r_nil (hT43 _ _ (fun w hs => St.sel [2, 3, 4, 5] rfl rfl hs) ?_)
   refine n_fin ?_
   refine KK hK11 ?_
   refine WS fun _ hK44 => ?_
   refine rS (FA 0 rfl fo34_0 rfl) ?_
   have hzm := marksS_get hz
   have hlb := longF_b hst 0 s.Stretch.toNat
   unfold In12 at hof
   rw [← hzm] at hlb
   refine rS (L1 (Value.int .i64 z.Lo) 1 rfl tk3 rfl rfl) ?_
   refine rS (FA 1 rfl fo53_1 rfl) ?_
   refine rS (FA 1 rfl fo34_0 rfl) ?_
   refine rS (L1 (Value.int .i64 s.Off.Lo) 3 rfl tk3 rfl rfl) ?_
   refine rS (BI rfl (b_add ⟨by omega, by omega⟩)) ?_
   refine rS (FA 1 rfl fo34_1 rfl) ?_
   refine rS (L1 (Value.int .i64 z.Hi) 1 rfl tk3 rfl rfl) ?_
   refine rS (FA 1 rfl fo53_1 rfl) ?_
   refine rS (FA 2 rfl fo34_1 rfl) ?_
   refine rS (L1 (Value.int .i64 s.Off.Hi) 3 rfl tk3 rfl rfl) ?_
   refine rS (BI rfl (b_add ⟨by omega, by omega⟩)) ?_
   refine rS (SX (sd_build (xs := [(0, .tmp 27), (1, .tmp 33)]) (cs := (SpanV.cells (SpanV.mk (z.Lo + s.Off.Lo) (z.Hi + s.Off.Hi)))) rfl rfl (built_of tb34 rfl)) rfl rfl) ?_
   refine SW2 rfl ts34 rfl ?_
   refine rS (AG rfl) ?_
   refine RK hK44 ?_
   refine w_ret ?_
   refine hQ _ _ _ (l_nil (vs := [(Value.agg (SpanV.cells (SpanV.mk (z.Lo + s.Off.Lo) (z.Hi + s.Off.Hi))).toArray), (Value.int .i64 0)]) ⟨⟨_, rfl, .inl ⟨_, _, tk34, at_blk (vs := (SpanV.cells (SpanV.mk (z.Lo + s.Off.Lo) (z.Hi + s.Off.Hi)))) 2 rfl rfl, rfl, rfl⟩⟩, rfl, trivial⟩ fun w hs => endV ?_ hs)
   show (Value.tuple [(Value.agg (SpanV.cells (SpanV.mk (z.Lo + s.Off.Lo) (z.Hi + s.Off.Hi))).toArray), (Value.int .i64 0)].toArray) = (Value.tuple [(Value.agg (SpanV.cells (atV ts s)).toArray), (Value.int .i64 (atE ts s))].toArray)
   clear hs w hQ hN hK44 hT43 T43 hT42 T42 hT41 T41 hT36 T36 hT34 T34 hK11 hK9 hK8 hK6 hK5 hK1
   first | (have e := at_bad (s := s) (by simpa using h9); rw [e.1, e.2] <;> rfl) | (have e := at_out h9 h14; rw [e.1, e.2] <;> rfl) | (have e := at_in h9 h14; subst hzm; rw [e.1, e.2] <;> rfl)
 refine n_op (rem' := [4, 5, 6, 7]) rfl (by kernel_rfl) rfl fun T12 hT12 => ?_
 refine cX (rmarks_c ts tsA tsC (by first | assumption | omega | (simp; done) | (simp; omega)) (by first | assumption | omega | (simp; done) | (simp; omega))) (ha_at 3 rfl rfl <| ha_nil) rfl fun y13 hy14 => ?_
 obtain ⟨a15, c16⟩ := y13
 change RJ _ _ _ _ _ ((_, (Value.slice a15 ((marksS ts (ts.length + 1)).length) c16)) :: _) ((own a15 c16 34 2 ((marksS ts (ts.length + 1)).map SpanV.cells)) :: _)
 refine r_nil (hT12 _ _ (fun w hs => St.sel [1, 2, 3, 4] rfl rfl hs) ?_)
 refine n_step [4, 6] (by kernel_rfl) (n_cons ?_ <| n_cons ?_ <| n_nil)
 rotate_left 1
 · refine n_op (rem' := [4, 5, 7]) rfl (by kernel_rfl) rfl fun T28 hT28 => ?_
   refine AL rfl tz34 fun b29 => ?_
   refine r_nil (hT28 _ _ (fun w hs => St.sel [2, 3, 4, 5] rfl rfl hs) ?_)
   refine n_step [4] (by kernel_rfl) (n_cons ?_ <| n_nil)
   refine n_op (rem' := [5, 7]) rfl (by kernel_rfl) rfl fun T30 hT30 => ?_
   obtain ⟨z, hz⟩ : ∃ y_, (marksS ts (ts.length + 1))[(s.Stretch).toNat]? = some y_ := ⟨(marksS ts (ts.length + 1))[(s.Stretch).toNat]'(by omega), List.getElem?_eq_getElem _⟩
   have hzm : ((marksS ts (ts.length + 1)).map SpanV.cells)[(s.Stretch).toNat]? = some (SpanV.cells z) := by rw [List.getElem?_map, hz]; rfl
   refine rS (IA ((s.Stretch).toNat) rfl (has_own_n (n := (marksS ts (ts.length + 1)).length) 1 rfl (by simp)) te81 (by decide) (by omega) (by omega)) ?_
   refine r_nil (hT30 _ _ (fun w hs => St.sel [2, 3, 4, 5] rfl rfl hs) ?_)
   refine n_step [5] (by kernel_rfl) (n_cons ?_ <| n_nil)
   refine n_op (rem' := [7]) rfl (by kernel_rfl) rfl fun T31 hT31 => ?_
   refine rS (LEN ((s.Stretch).toNat) 0 (SpanV.cells z) rfl tk34 (has_own_n (n := (marksS ts (ts.length + 1)).length) 1 rfl (by simp)) hzm rfl (by decide) rfl rfl) ?_
   refine r_nil (hT31 _ _ (fun w hs => St.sel [2, 3, 4, 5] rfl rfl hs) ?_)
   refine n_step [7] (by kernel_rfl) (n_cons ?_ <| n_nil)
   refine n_op (rem' := []) rfl (by kernel_rfl) rfl fun T32 hT32 => ?_
   refine SW0 rfl ts34 rfl ?_
   refine r_nil (hT32 _ _ (fun w hs => St.sel [2, 3, 4, 5] rfl rfl hs) ?_)
   refine n_fin ?_
   refine KK hK11 ?_
   refine WS fun _ hK33 => ?_
   refine rS (FA 0 rfl fo34_0 rfl) ?_
   have hzm := marksS_get hz
   have hlb := longF_b hst 0 s.Stretch.toNat
   unfold In12 at hof
   rw [← hzm] at hlb
   refine rS (L1 (Value.int .i64 z.Lo) 0 rfl tk3 rfl rfl) ?_
   refine rS (FA 1 rfl fo53_1 rfl) ?_
   refine rS (FA 1 rfl fo34_0 rfl) ?_
   refine rS (L1 (Value.int .i64 s.Off.Lo) 3 rfl tk3 rfl rfl) ?_
   refine rS (BI rfl (b_add ⟨by omega, by omega⟩)) ?_
   refine rS (FA 1 rfl fo34_1 rfl) ?_
   refine rS (L1 (Value.int .i64 z.Hi) 0 rfl tk3 rfl rfl) ?_
   refine rS (FA 1 rfl fo53_1 rfl) ?_
   refine rS (FA 2 rfl fo34_1 rfl) ?_
   refine rS (L1 (Value.int .i64 s.Off.Hi) 3 rfl tk3 rfl rfl) ?_
   refine rS (BI rfl (b_add ⟨by omega, by omega⟩)) ?_
   refine rS (SX (sd_build (xs := [(0, .tmp 27), (1, .tmp 33)]) (cs := (SpanV.cells (SpanV.mk (z.Lo + s.Off.Lo) (z.Hi + s.Off.Hi)))) rfl rfl (built_of tb34 rfl)) rfl rfl) ?_
   refine SW2 rfl ts34 rfl ?_
   refine rS (AG rfl) ?_
   refine RK hK33 ?_
   refine w_ret ?_
   refine hQ _ _ _ (l_nil (vs := [(Value.agg (SpanV.cells (SpanV.mk (z.Lo + s.Off.Lo) (z.Hi + s.Off.Hi))).toArray), (Value.int .i64 0)]) ⟨⟨_, rfl, .inl ⟨_, _, tk34, at_blk (vs := (SpanV.cells (SpanV.mk (z.Lo + s.Off.Lo) (z.Hi + s.Off.Hi)))) 2 rfl rfl, rfl, rfl⟩⟩, rfl, trivial⟩ fun w hs => endV ?_ hs)
   show (Value.tuple [(Value.agg (SpanV.cells (SpanV.mk (z.Lo + s.Off.Lo) (z.Hi + s.Off.Hi))).toArray), (Value.int .i64 0)].toArray) = (Value.tuple [(Value.agg (SpanV.cells (atV ts s)).toArray), (Value.int .i64 (atE ts s))].toArray)
   clear hs w hQ hN hK33 hT32 T32 hT31 T31 hT30 T30 hT28 T28 hT12 T12 hK11 hK9 hK8 hK6 hK5 hK1
   first | (have e := at_bad (s := s) (by simpa using h9); rw [e.1, e.2] <;> rfl) | (have e := at_out h9 h14; rw [e.1, e.2] <;> rfl) | (have e := at_in h9 h14; subst hzm; rw [e.1, e.2] <;> rfl)
 refine n_op (rem' := [5, 6, 7]) rfl (by kernel_rfl) rfl fun T17 hT17 => ?_
 obtain ⟨z, hz⟩ : ∃ y_, (marksS ts (ts.length + 1))[(s.Stretch).toNat]? = some y_ := ⟨(marksS ts (ts.length + 1))[(s.Stretch).toNat]'(by omega), List.getElem?_eq_getElem _⟩
 have hzm : ((marksS ts (ts.length + 1)).map SpanV.cells)[(s.Stretch).toNat]? = some (SpanV.cells z) := by rw [List.getElem?_map, hz]; rfl
 refine rS (IA ((s.Stretch).toNat) rfl (has_own_n (n := (marksS ts (ts.length + 1)).length) 0 rfl (by simp)) te81 (by decide) (by omega) (by omega)) ?_
 refine r_nil (hT17 _ _ (fun w hs => St.sel [1, 2, 3, 4] rfl rfl hs) ?_)
 refine n_step [5, 6] (by kernel_rfl) (n_cons ?_ <| n_cons ?_ <| n_nil)
 rotate_left 1
 · refine n_op (rem' := [5, 7]) rfl (by kernel_rfl) rfl fun T23 hT23 => ?_
   refine AL rfl tz34 fun b24 => ?_
   refine r_nil (hT23 _ _ (fun w hs => St.sel [2, 3, 4, 5] rfl rfl hs) ?_)
   refine n_step [5] (by kernel_rfl) (n_cons ?_ <| n_nil)
   refine n_op (rem' := [7]) rfl (by kernel_rfl) rfl fun T25 hT25 => ?_
   refine rS (LEN ((s.Stretch).toNat) 0 (SpanV.cells z) rfl tk34 (has_own_n (n := (marksS ts (ts.length + 1)).length) 1 rfl (by simp)) hzm rfl (by decide) rfl rfl) ?_
   refine r_nil (hT25 _ _ (fun w hs => St.sel [2, 3, 4, 5] rfl rfl hs) ?_)
   refine n_step [7] (by kernel_rfl) (n_cons ?_ <| n_nil)
   refine n_op (rem' := []) rfl (by kernel_rfl) rfl fun T26 hT26 => ?_
   refine SW0 rfl ts34 rfl ?_
   refine r_nil (hT26 _ _ (fun w hs => St.sel [2, 3, 4, 5] rfl rfl hs) ?_)
   refine n_fin ?_
   refine KK hK11 ?_
   refine WS fun _ hK27 => ?_
   refine rS (FA 0 rfl fo34_0 rfl) ?_
   have hzm := marksS_get hz
   have hlb := longF_b hst 0 s.Stretch.toNat
   unfold In12 at hof
   rw [← hzm] at hlb
   refine rS (L1 (Value.int .i64 z.Lo) 0 rfl tk3 rfl rfl) ?_
   refine rS (FA 1 rfl fo53_1 rfl) ?_
   refine rS (FA 1 rfl fo34_0 rfl) ?_
   refine rS (L1 (Value.int .i64 s.Off.Lo) 3 rfl tk3 rfl rfl) ?_
   refine rS (BI rfl (b_add ⟨by omega, by omega⟩)) ?_
   refine rS (FA 1 rfl fo34_1 rfl) ?_
   refine rS (L1 (Value.int .i64 z.Hi) 0 rfl tk3 rfl rfl) ?_
   refine rS (FA 1 rfl fo53_1 rfl) ?_
   refine rS (FA 2 rfl fo34_1 rfl) ?_
   refine rS (L1 (Value.int .i64 s.Off.Hi) 3 rfl tk3 rfl rfl) ?_
   refine rS (BI rfl (b_add ⟨by omega, by omega⟩)) ?_
   refine rS (SX (sd_build (xs := [(0, .tmp 27), (1, .tmp 33)]) (cs := (SpanV.cells (SpanV.mk (z.Lo + s.Off.Lo) (z.Hi + s.Off.Hi)))) rfl rfl (built_of tb34 rfl)) rfl rfl) ?_
   refine SW2 rfl ts34 rfl ?_
   refine rS (AG rfl) ?_
   refine RK hK27 ?_
   refine w_ret ?_
   refine hQ _ _ _ (l_nil (vs := [(Value.agg (SpanV.cells (SpanV.mk (z.Lo + s.Off.Lo) (z.Hi + s.Off.Hi))).toArray), (Value.int .i64 0)]) ⟨⟨_, rfl, .inl ⟨_, _, tk34, at_blk (vs := (SpanV.cells (SpanV.mk (z.Lo + s.Off.Lo) (z.Hi + s.Off.Hi)))) 2 rfl rfl, rfl, rfl⟩⟩, rfl, trivial⟩ fun w hs => endV ?_ hs)
   show (Value.tuple [(Value.agg (SpanV.cells (SpanV.mk (z.Lo + s.Off.Lo) (z.Hi + s.Off.Hi))).toArray), (Value.int .i64 0)].toArray) = (Value.tuple [(Value.agg (SpanV.cells (atV ts s)).toArray), (Value.int .i64 (atE ts s))].toArray)
   clear hs w hQ hN hK27 hT26 T26 hT25 T25 hT23 T23 hT17 T17 hT12 T12 hK11 hK9 hK8 hK6 hK5 hK1
   first | (have e := at_bad (s := s) (by simpa using h9); rw [e.1, e.2] <;> rfl) | (have e := at_out h9 h14; rw [e.1, e.2] <;> rfl) | (have e := at_in h9 h14; subst hzm; rw [e.1, e.2] <;> rfl)
 refine n_op (rem' := [6, 7]) rfl (by kernel_rfl) rfl fun T18 hT18 => ?_
 refine rS (LEN ((s.Stretch).toNat) 0 (SpanV.cells z) rfl tk34 (has_own_n (n := (marksS ts (ts.length + 1)).length) 0 rfl (by simp)) hzm rfl (by decide) rfl rfl) ?_
 refine r_nil (hT18 _ _ (fun w hs => St.sel [1, 2, 3, 4] rfl rfl hs) ?_)
 refine n_step [6] (by kernel_rfl) (n_cons ?_ <| n_nil)
 refine n_op (rem' := [7]) rfl (by kernel_rfl) rfl fun T19 hT19 => ?_
 refine AL rfl tz34 fun b20 => ?_
 refine r_nil (hT19 _ _ (fun w hs => St.sel [2, 3, 4, 5] rfl rfl hs) ?_)
 refine n_step [7] (by kernel_rfl) (n_cons ?_ <| n_nil)
 refine n_op (rem' := []) rfl (by kernel_rfl) rfl fun T21 hT21 => ?_
 refine SW0 rfl ts34 rfl ?_
 refine r_nil (hT21 _ _ (fun w hs => St.sel [2, 3, 4, 5] rfl rfl hs) ?_)
 refine n_fin ?_
 refine KK hK11 ?_
 refine WS fun _ hK22 => ?_
 refine rS (FA 0 rfl fo34_0 rfl) ?_
 have hzm := marksS_get hz
 have hlb := longF_b hst 0 s.Stretch.toNat
 unfold In12 at hof
 rw [← hzm] at hlb
 refine rS (L1 (Value.int .i64 z.Lo) 0 rfl tk3 rfl rfl) ?_
 refine rS (FA 1 rfl fo53_1 rfl) ?_
 refine rS (FA 1 rfl fo34_0 rfl) ?_
 refine rS (L1 (Value.int .i64 s.Off.Lo) 3 rfl tk3 rfl rfl) ?_
 refine rS (BI rfl (b_add ⟨by omega, by omega⟩)) ?_
 refine rS (FA 1 rfl fo34_1 rfl) ?_
 refine rS (L1 (Value.int .i64 z.Hi) 0 rfl tk3 rfl rfl) ?_
 refine rS (FA 1 rfl fo53_1 rfl) ?_
 refine rS (FA 2 rfl fo34_1 rfl) ?_
 refine rS (L1 (Value.int .i64 s.Off.Hi) 3 rfl tk3 rfl rfl) ?_
 refine rS (BI rfl (b_add ⟨by omega, by omega⟩)) ?_
 refine rS (SX (sd_build (xs := [(0, .tmp 27), (1, .tmp 33)]) (cs := (SpanV.cells (SpanV.mk (z.Lo + s.Off.Lo) (z.Hi + s.Off.Hi)))) rfl rfl (built_of tb34 rfl)) rfl rfl) ?_
 refine SW2 rfl ts34 rfl ?_
 refine rS (AG rfl) ?_
 refine RK hK22 ?_
 refine w_ret ?_
 refine hQ _ _ _ (l_nil (vs := [(Value.agg (SpanV.cells (SpanV.mk (z.Lo + s.Off.Lo) (z.Hi + s.Off.Hi))).toArray), (Value.int .i64 0)]) ⟨⟨_, rfl, .inl ⟨_, _, tk34, at_blk (vs := (SpanV.cells (SpanV.mk (z.Lo + s.Off.Lo) (z.Hi + s.Off.Hi)))) 2 rfl rfl, rfl, rfl⟩⟩, rfl, trivial⟩ fun w hs => endV ?_ hs)
 show (Value.tuple [(Value.agg (SpanV.cells (SpanV.mk (z.Lo + s.Off.Lo) (z.Hi + s.Off.Hi))).toArray), (Value.int .i64 0)].toArray) = (Value.tuple [(Value.agg (SpanV.cells (atV ts s)).toArray), (Value.int .i64 (atE ts s))].toArray)
 clear hs w hQ hN hK22 hT21 T21 hT19 T19 hT18 T18 hT17 T17 hT12 T12 hK11 hK9 hK8 hK6 hK5 hK1
 first | (have e := at_bad (s := s) (by simpa using h9); rw [e.1, e.2] <;> rfl) | (have e := at_out h9 h14; rw [e.1, e.2] <;> rfl) | (have e := at_in h9 h14; subst hzm; rw [e.1, e.2] <;> rfl)

set_option maxRecDepth 100000 in
set_option maxHeartbeats 400000 in
theorem rapart1_c (ts : List StretchV) (tsA : Option Addr) (tsC : Nat) (p : SpotV) (q : SpotV) (hlen : ts.length ≤ 1000000) (hside : ∀ x ∈ ts, 0 ≤ x.Side ∧ x.Side ≤ 255) (hord : ¬ q.Stretch < p.Stretch) :
    FnV Try.prog 107 [(Value.agg (TrackV.cells (TrackV.mk (Slc.mk tsA ts.length tsC))).toArray), (Value.agg (SpotV.cells p).toArray), (Value.agg (SpotV.cells q).toArray)] [(rd tsA ts.length 9 (ts.map StretchV.cells))] (Value.tuple [(Value.agg (SpanV.cells (apartV ts p q)).toArray), (Value.int .i64 (apartE ts p q))].toArray) := by
 refine fnV_of go107 Try.func107 rfl rfl fun w0 Q hQ hN => ?_
 change WJ _ _ _ _ [(0, (Value.agg (TrackV.cells (TrackV.mk (Slc.mk tsA ts.length tsC))).toArray)), (1, (Value.agg (SpotV.cells p).toArray)), (2, (Value.agg (SpotV.cells q).toArray))] [(rd tsA ts.length 9 (ts.map StretchV.cells)).ro]
 refine WS fun _ hK1 => ?_
 refine BXA rfl fun b2 => ?_
 refine BXA rfl fun b3 => ?_
 refine BXA rfl fun b4 => ?_
 refine AL rfl tz34 fun b5 => ?_
 refine rS (AG rfl) ?_
 refine RK hK1 ?_
 refine w_seq fun _ hK6 => ?_
 refine WS fun _ hK7 => ?_
 refine rS (LW 3 rfl tk24 rfl rfl) ?_
 refine rS (CL (track_c ts tsA tsC hlen) (ha_at 4 rfl rfl <| ha_nil) rfl) ?_
 refine rS (NT rfl) ?_
 refine RK hK7 ?_
 refine w_if rfl (fun h14 => ?_) (fun h14 => ?_)
 · rw [Bool.not_eq_true'] at h14
   refine WS fun _ hK8 => ?_
   refine rS (SX (sd_build (xs := []) (cs := (SpanV.cells (SpanV.mk 0 0))) rfl rfl (built_of tb34 rfl)) rfl rfl) ?_
   refine SW0 rfl ts34 rfl ?_
   refine rS (AG rfl) ?_
   refine RK hK8 ?_
   refine w_ret ?_
   refine hQ _ _ _ (l_nil (vs := [(Value.agg (SpanV.cells (SpanV.mk 0 0)).toArray), (Value.int .i64 10)]) ⟨⟨_, rfl, .inl ⟨_, _, tk34, at_blk (vs := (SpanV.cells (SpanV.mk 0 0))) 0 rfl rfl, rfl, rfl⟩⟩, rfl, trivial⟩ fun w hs => endV ?_ hs)
   show (Value.tuple [(Value.agg (SpanV.cells (SpanV.mk 0 0)).toArray), (Value.int .i64 10)].toArray) = (Value.tuple [(Value.agg (SpanV.cells (apartV ts p q)).toArray), (Value.int .i64 (apartE ts p q))].toArray)
   clear hs w hQ hN hK8 hK7 hK6 hK1
   first | (have e := apart_bad (a := p) (b := q) (by simpa using h14); rw [e.1, e.2] <;> rfl) | (have e := apart_in h14 hq1; rw [e.1, e.2, apart_straight h31] <;> rfl) | (have e := apart_in h14 hq1; have e2 := apart_in h14 ⟨h25, h20⟩; rw [e.1, e.2, e2.2, apart_swap h31] <;> rfl) | (have e := apart_out (a := p) (b := q) h14 (fun h => by first | exact h20 h.1 | exact h25 h.2); rw [e.1, e.2] <;> rfl)
 rw [Bool.not_eq_false'] at h14
 refine WK hK6 ?_
 refine w_seq fun _ hK9 => ?_
 refine WS fun _ hK10 => ?_
 have hst := trackOk_all h14
 have hl12 := trackOk_le h14
 refine rS (LW 3 rfl tk24 rfl rfl) ?_
 refine rS (LW 2 rfl tk53 rfl rfl) ?_
 refine rS (CL (rspot_c ts tsA tsC p (by first | assumption | omega | (simp; done) | (simp; omega)) (by first | assumption | omega | (simp; done) | (simp; omega))) (ha_at 4 rfl rfl <| ha_nil) rfl) ?_
 refine rS (NT rfl) ?_
 refine rS (MV rfl) ?_
 refine r_bool (t := 20) rfl (fun h20 => ?_) (fun h20 => ?_)
 · replace h20 := XT h20
   refine rS (OX rfl) ?_
   refine rS (OX rfl) ?_
   refine rS (OX rfl) ?_
   refine rS (OX rfl) ?_
   refine rS (PK rfl) ?_
   refine RK hK10 ?_
   refine w_if_true rfl ?_
   refine WS fun _ hK11 => ?_
   refine rS (SX (sd_build (xs := []) (cs := (SpanV.cells (SpanV.mk 0 0))) rfl rfl (built_of tb34 rfl)) rfl rfl) ?_
   refine SW0 rfl ts34 rfl ?_
   refine rS (AG rfl) ?_
   refine RK hK11 ?_
   refine w_ret ?_
   refine hQ _ _ _ (l_nil (vs := [(Value.agg (SpanV.cells (SpanV.mk 0 0)).toArray), (Value.int .i64 12)]) ⟨⟨_, rfl, .inl ⟨_, _, tk34, at_blk (vs := (SpanV.cells (SpanV.mk 0 0))) 0 rfl rfl, rfl, rfl⟩⟩, rfl, trivial⟩ fun w hs => endV ?_ hs)
   show (Value.tuple [(Value.agg (SpanV.cells (SpanV.mk 0 0)).toArray), (Value.int .i64 12)].toArray) = (Value.tuple [(Value.agg (SpanV.cells (apartV ts p q)).toArray), (Value.int .i64 (apartE ts p q))].toArray)
   clear hs w hQ hN hK11 hK10 hK9 hK7 hK6 hK1
   first | (have e := apart_bad (a := p) (b := q) (by simpa using h14); rw [e.1, e.2] <;> rfl) | (have e := apart_in h14 hq1; rw [e.1, e.2, apart_straight h31] <;> rfl) | (have e := apart_in h14 hq1; have e2 := apart_in h14 ⟨h25, h20⟩; rw [e.1, e.2, e2.2, apart_swap h31] <;> rfl) | (have e := apart_out (a := p) (b := q) h14 (fun h => by first | exact h20 h.1 | exact h25 h.2); rw [e.1, e.2] <;> rfl)
 replace h20 := XF h20
 refine rS (LW 3 rfl tk24 rfl rfl) ?_
 refine rS (LW 1 rfl tk53 rfl rfl) ?_
 refine rS (CL (rspot_c ts tsA tsC q (by first | assumption | omega | (simp; done) | (simp; omega)) (by first | assumption | omega | (simp; done) | (simp; omega))) (ha_at 4 rfl rfl <| ha_nil) rfl) ?_
 refine rS (NT rfl) ?_
 refine rS (PK rfl) ?_
 refine RK hK10 ?_
 refine w_if rfl (fun h25 => ?_) (fun h25 => ?_)
 · replace h25 := XT h25
   refine WS fun _ hK12 => ?_
   refine rS (SX (sd_build (xs := []) (cs := (SpanV.cells (SpanV.mk 0 0))) rfl rfl (built_of tb34 rfl)) rfl rfl) ?_
   refine SW0 rfl ts34 rfl ?_
   refine rS (AG rfl) ?_
   refine RK hK12 ?_
   refine w_ret ?_
   refine hQ _ _ _ (l_nil (vs := [(Value.agg (SpanV.cells (SpanV.mk 0 0)).toArray), (Value.int .i64 12)]) ⟨⟨_, rfl, .inl ⟨_, _, tk34, at_blk (vs := (SpanV.cells (SpanV.mk 0 0))) 0 rfl rfl, rfl, rfl⟩⟩, rfl, trivial⟩ fun w hs => endV ?_ hs)
   show (Value.tuple [(Value.agg (SpanV.cells (SpanV.mk 0 0)).toArray), (Value.int .i64 12)].toArray) = (Value.tuple [(Value.agg (SpanV.cells (apartV ts p q)).toArray), (Value.int .i64 (apartE ts p q))].toArray)
   clear hs w hQ hN hK12 hK10 hK9 hK7 hK6 hK1
   first | (have e := apart_bad (a := p) (b := q) (by simpa using h14); rw [e.1, e.2] <;> rfl) | (have e := apart_in h14 hq1; rw [e.1, e.2, apart_straight h31] <;> rfl) | (have e := apart_in h14 hq1; have e2 := apart_in h14 ⟨h25, h20⟩; rw [e.1, e.2, e2.2, apart_swap h31] <;> rfl) | (have e := apart_out (a := p) (b := q) h14 (fun h => by first | exact h20 h.1 | exact h25 h.2); rw [e.1, e.2] <;> rfl)
 replace h25 := XF h25
 refine WK hK9 ?_
 refine w_seq fun _ hK13 => ?_
 refine WS fun _ hK14 => ?_
 have hq1 : SpotOk ts p ∧ SpotOk ts q := ⟨h20, h25⟩
 have hpo := off_in hst h20
 have hqo := off_in hst h25
 have hpb := h20.1
 have hqb := h25.1
 have hab := apartF_b hst hl12 h25 h20
 unfold In12 at hpo hqo
 refine rS (FA 0 rfl fo53_0 rfl) ?_
 refine rS (L1 (Value.int .i64 q.Stretch) 1 rfl tk3 rfl rfl) ?_
 refine rS (FA 0 rfl fo53_0 rfl) ?_
 refine rS (L1 (Value.int .i64 p.Stretch) 2 rfl tk3 rfl rfl) ?_
 refine rS (BI rfl b_lss) ?_
 refine RK hK14 ?_
 refine w_if rfl (fun h31 => ?_) (fun h31 => ?_)
 · replace h31 := DT h31
   exfalso; omega
 replace h31 := DF h31
 refine WK hK13 ?_
 refine WS fun _ hK15 => ?_
 refine rS (LW 3 rfl tk24 rfl rfl) ?_
 refine rS (FA 0 rfl fo53_0 rfl) ?_
 have hlb := longF_b hst p.Stretch.toNat (q.Stretch - p.Stretch).toNat
 refine rS (L1 (Value.int .i64 p.Stretch) 2 rfl tk3 rfl rfl) ?_
 refine rS (FA 0 rfl fo53_0 rfl) ?_
 refine rS (L1 (Value.int .i64 q.Stretch) 1 rfl tk3 rfl rfl) ?_
 refine rS (CL (rdrop_c ts tsA tsC p.Stretch q.Stretch (by first | assumption | omega | (simp; done) | (simp; omega)) (by first | assumption | omega | (simp; done) | (simp; omega)) (by omega)) (ha_at 4 rfl rfl <| ha_nil) rfl) ?_
 refine rS (MV rfl) ?_
 refine rS (EX rfl) ?_
 refine rS (EX rfl) ?_
 refine AL rfl tz34 fun b16 => ?_
 refine AL rfl tz34 fun b17 => ?_
 refine SW1 rfl ts34 rfl ?_
 refine SW0 rfl ts34 rfl ?_
 refine RK hK15 ?_
 refine WS fun _ hK18 => ?_
 refine rS (FA 0 rfl fo34_0 rfl) ?_
 refine rS (L1 (Value.int .i64 ((longF ts p.Stretch.toNat (q.Stretch - p.Stretch).toNat).Lo)) 1 rfl tk3 rfl rfl) ?_
 refine rS (FA 1 rfl fo53_1 rfl) ?_
 refine rS (FA 1 rfl fo34_0 rfl) ?_
 refine rS (L1 (Value.int .i64 q.Off.Lo) 3 rfl tk3 rfl rfl) ?_
 refine rS (BI rfl (b_add ⟨by omega, by omega⟩)) ?_
 refine rS (FA 1 rfl fo53_1 rfl) ?_
 refine rS (FA 2 rfl fo34_1 rfl) ?_
 refine rS (L1 (Value.int .i64 p.Off.Hi) 4 rfl tk3 rfl rfl) ?_
 refine rS (BI rfl (b_sub ⟨by omega, by omega⟩)) ?_
 refine rS (FA 1 rfl fo34_1 rfl) ?_
 refine rS (L1 (Value.int .i64 ((longF ts p.Stretch.toNat (q.Stretch - p.Stretch).toNat).Hi)) 1 rfl tk3 rfl rfl) ?_
 refine rS (FA 1 rfl fo53_1 rfl) ?_
 refine rS (FA 2 rfl fo34_1 rfl) ?_
 refine rS (L1 (Value.int .i64 q.Off.Hi) 3 rfl tk3 rfl rfl) ?_
 refine rS (BI rfl (b_add ⟨by omega, by omega⟩)) ?_
 refine rS (FA 1 rfl fo53_1 rfl) ?_
 refine rS (FA 1 rfl fo34_0 rfl) ?_
 refine rS (L1 (Value.int .i64 p.Off.Lo) 4 rfl tk3 rfl rfl) ?_
 refine rS (BI rfl (b_sub ⟨by omega, by omega⟩)) ?_
 refine rS (SX (sd_build (xs := [(0, .tmp 64), (1, .tmp 74)]) (cs := (SpanV.cells (SpanV.mk ((((longF ts p.Stretch.toNat (q.Stretch - p.Stretch).toNat).Lo) + q.Off.Lo) - p.Off.Hi) ((((longF ts p.Stretch.toNat (q.Stretch - p.Stretch).toNat).Hi) + q.Off.Hi) - p.Off.Lo)))) rfl rfl (built_of tb34 rfl)) rfl rfl) ?_
 refine SW2 rfl ts34 rfl ?_
 refine rS (AG rfl) ?_
 refine RK hK18 ?_
 refine w_ret ?_
 refine hQ _ _ _ (l_nil (vs := [(Value.agg (SpanV.cells (SpanV.mk ((((longF ts p.Stretch.toNat (q.Stretch - p.Stretch).toNat).Lo) + q.Off.Lo) - p.Off.Hi) ((((longF ts p.Stretch.toNat (q.Stretch - p.Stretch).toNat).Hi) + q.Off.Hi) - p.Off.Lo))).toArray), (Value.int .i64 0)]) ⟨⟨_, rfl, .inl ⟨_, _, tk34, at_blk (vs := (SpanV.cells (SpanV.mk ((((longF ts p.Stretch.toNat (q.Stretch - p.Stretch).toNat).Lo) + q.Off.Lo) - p.Off.Hi) ((((longF ts p.Stretch.toNat (q.Stretch - p.Stretch).toNat).Hi) + q.Off.Hi) - p.Off.Lo)))) 2 rfl rfl, rfl, rfl⟩⟩, rfl, trivial⟩ fun w hs => endV ?_ hs)
 show (Value.tuple [(Value.agg (SpanV.cells (SpanV.mk ((((longF ts p.Stretch.toNat (q.Stretch - p.Stretch).toNat).Lo) + q.Off.Lo) - p.Off.Hi) ((((longF ts p.Stretch.toNat (q.Stretch - p.Stretch).toNat).Hi) + q.Off.Hi) - p.Off.Lo))).toArray), (Value.int .i64 0)].toArray) = (Value.tuple [(Value.agg (SpanV.cells (apartV ts p q)).toArray), (Value.int .i64 (apartE ts p q))].toArray)
 clear hs w hQ hN hK18 hK15 hK14 hK13 hK10 hK9 hK7 hK6 hK1
 first | (have e := apart_bad (a := p) (b := q) (by simpa using h14); rw [e.1, e.2] <;> rfl) | (have e := apart_in h14 hq1; rw [e.1, e.2, apart_straight h31] <;> rfl) | (have e := apart_in h14 hq1; have e2 := apart_in h14 ⟨h25, h20⟩; rw [e.1, e.2, e2.2, apart_swap h31] <;> rfl) | (have e := apart_out (a := p) (b := q) h14 (fun h => by first | exact h20 h.1 | exact h25 h.2); rw [e.1, e.2] <;> rfl)

set_option maxRecDepth 100000 in
set_option maxHeartbeats 400000 in
theorem rapart_c (ts : List StretchV) (tsA : Option Addr) (tsC : Nat) (p : SpotV) (q : SpotV) (hlen : ts.length ≤ 1000000) (hside : ∀ x ∈ ts, 0 ≤ x.Side ∧ x.Side ≤ 255) :
    FnV Try.prog 107 [(Value.agg (TrackV.cells (TrackV.mk (Slc.mk tsA ts.length tsC))).toArray), (Value.agg (SpotV.cells p).toArray), (Value.agg (SpotV.cells q).toArray)] [(rd tsA ts.length 9 (ts.map StretchV.cells))] (Value.tuple [(Value.agg (SpanV.cells (apartV ts p q)).toArray), (Value.int .i64 (apartE ts p q))].toArray) := by
 refine fnV_of go107 Try.func107 rfl rfl fun w0 Q hQ hN => ?_
 change WJ _ _ _ _ [(0, (Value.agg (TrackV.cells (TrackV.mk (Slc.mk tsA ts.length tsC))).toArray)), (1, (Value.agg (SpotV.cells p).toArray)), (2, (Value.agg (SpotV.cells q).toArray))] [(rd tsA ts.length 9 (ts.map StretchV.cells)).ro]
 refine WS fun _ hK1 => ?_
 refine BXA rfl fun b2 => ?_
 refine BXA rfl fun b3 => ?_
 refine BXA rfl fun b4 => ?_
 refine AL rfl tz34 fun b5 => ?_
 refine rS (AG rfl) ?_
 refine RK hK1 ?_
 refine w_seq fun _ hK6 => ?_
 refine WS fun _ hK7 => ?_
 refine rS (LW 3 rfl tk24 rfl rfl) ?_
 refine rS (CL (track_c ts tsA tsC hlen) (ha_at 4 rfl rfl <| ha_nil) rfl) ?_
 refine rS (NT rfl) ?_
 refine RK hK7 ?_
 refine w_if rfl (fun h14 => ?_) (fun h14 => ?_)
 · rw [Bool.not_eq_true'] at h14
   refine WS fun _ hK8 => ?_
   refine rS (SX (sd_build (xs := []) (cs := (SpanV.cells (SpanV.mk 0 0))) rfl rfl (built_of tb34 rfl)) rfl rfl) ?_
   refine SW0 rfl ts34 rfl ?_
   refine rS (AG rfl) ?_
   refine RK hK8 ?_
   refine w_ret ?_
   refine hQ _ _ _ (l_nil (vs := [(Value.agg (SpanV.cells (SpanV.mk 0 0)).toArray), (Value.int .i64 10)]) ⟨⟨_, rfl, .inl ⟨_, _, tk34, at_blk (vs := (SpanV.cells (SpanV.mk 0 0))) 0 rfl rfl, rfl, rfl⟩⟩, rfl, trivial⟩ fun w hs => endV ?_ hs)
   show (Value.tuple [(Value.agg (SpanV.cells (SpanV.mk 0 0)).toArray), (Value.int .i64 10)].toArray) = (Value.tuple [(Value.agg (SpanV.cells (apartV ts p q)).toArray), (Value.int .i64 (apartE ts p q))].toArray)
   clear hs w hQ hN hK8 hK7 hK6 hK1
   first | (have e := apart_bad (a := p) (b := q) (by simpa using h14); rw [e.1, e.2] <;> rfl) | (have e := apart_in h14 hq1; rw [e.1, e.2, apart_straight h31] <;> rfl) | (have e := apart_in h14 hq1; have e2 := apart_in h14 ⟨h25, h20⟩; rw [e.1, e.2, e2.2, apart_swap h31] <;> rfl) | (have e := apart_out (a := p) (b := q) h14 (fun h => by first | exact h20 h.1 | exact h25 h.2); rw [e.1, e.2] <;> rfl)
 rw [Bool.not_eq_false'] at h14
 refine WK hK6 ?_
 refine w_seq fun _ hK9 => ?_
 refine WS fun _ hK10 => ?_
 have hst := trackOk_all h14
 have hl12 := trackOk_le h14
 refine rS (LW 3 rfl tk24 rfl rfl) ?_
 refine rS (LW 2 rfl tk53 rfl rfl) ?_
 refine rS (CL (rspot_c ts tsA tsC p (by first | assumption | omega | (simp; done) | (simp; omega)) (by first | assumption | omega | (simp; done) | (simp; omega))) (ha_at 4 rfl rfl <| ha_nil) rfl) ?_
 refine rS (NT rfl) ?_
 refine rS (MV rfl) ?_
 refine r_bool (t := 20) rfl (fun h20 => ?_) (fun h20 => ?_)
 · replace h20 := XT h20
   refine rS (OX rfl) ?_
   refine rS (OX rfl) ?_
   refine rS (OX rfl) ?_
   refine rS (OX rfl) ?_
   refine rS (PK rfl) ?_
   refine RK hK10 ?_
   refine w_if_true rfl ?_
   refine WS fun _ hK11 => ?_
   refine rS (SX (sd_build (xs := []) (cs := (SpanV.cells (SpanV.mk 0 0))) rfl rfl (built_of tb34 rfl)) rfl rfl) ?_
   refine SW0 rfl ts34 rfl ?_
   refine rS (AG rfl) ?_
   refine RK hK11 ?_
   refine w_ret ?_
   refine hQ _ _ _ (l_nil (vs := [(Value.agg (SpanV.cells (SpanV.mk 0 0)).toArray), (Value.int .i64 12)]) ⟨⟨_, rfl, .inl ⟨_, _, tk34, at_blk (vs := (SpanV.cells (SpanV.mk 0 0))) 0 rfl rfl, rfl, rfl⟩⟩, rfl, trivial⟩ fun w hs => endV ?_ hs)
   show (Value.tuple [(Value.agg (SpanV.cells (SpanV.mk 0 0)).toArray), (Value.int .i64 12)].toArray) = (Value.tuple [(Value.agg (SpanV.cells (apartV ts p q)).toArray), (Value.int .i64 (apartE ts p q))].toArray)
   clear hs w hQ hN hK11 hK10 hK9 hK7 hK6 hK1
   first | (have e := apart_bad (a := p) (b := q) (by simpa using h14); rw [e.1, e.2] <;> rfl) | (have e := apart_in h14 hq1; rw [e.1, e.2, apart_straight h31] <;> rfl) | (have e := apart_in h14 hq1; have e2 := apart_in h14 ⟨h25, h20⟩; rw [e.1, e.2, e2.2, apart_swap h31] <;> rfl) | (have e := apart_out (a := p) (b := q) h14 (fun h => by first | exact h20 h.1 | exact h25 h.2); rw [e.1, e.2] <;> rfl)
 replace h20 := XF h20
 refine rS (LW 3 rfl tk24 rfl rfl) ?_
 refine rS (LW 1 rfl tk53 rfl rfl) ?_
 refine rS (CL (rspot_c ts tsA tsC q (by first | assumption | omega | (simp; done) | (simp; omega)) (by first | assumption | omega | (simp; done) | (simp; omega))) (ha_at 4 rfl rfl <| ha_nil) rfl) ?_
 refine rS (NT rfl) ?_
 refine rS (PK rfl) ?_
 refine RK hK10 ?_
 refine w_if rfl (fun h25 => ?_) (fun h25 => ?_)
 · replace h25 := XT h25
   refine WS fun _ hK12 => ?_
   refine rS (SX (sd_build (xs := []) (cs := (SpanV.cells (SpanV.mk 0 0))) rfl rfl (built_of tb34 rfl)) rfl rfl) ?_
   refine SW0 rfl ts34 rfl ?_
   refine rS (AG rfl) ?_
   refine RK hK12 ?_
   refine w_ret ?_
   refine hQ _ _ _ (l_nil (vs := [(Value.agg (SpanV.cells (SpanV.mk 0 0)).toArray), (Value.int .i64 12)]) ⟨⟨_, rfl, .inl ⟨_, _, tk34, at_blk (vs := (SpanV.cells (SpanV.mk 0 0))) 0 rfl rfl, rfl, rfl⟩⟩, rfl, trivial⟩ fun w hs => endV ?_ hs)
   show (Value.tuple [(Value.agg (SpanV.cells (SpanV.mk 0 0)).toArray), (Value.int .i64 12)].toArray) = (Value.tuple [(Value.agg (SpanV.cells (apartV ts p q)).toArray), (Value.int .i64 (apartE ts p q))].toArray)
   clear hs w hQ hN hK12 hK10 hK9 hK7 hK6 hK1
   first | (have e := apart_bad (a := p) (b := q) (by simpa using h14); rw [e.1, e.2] <;> rfl) | (have e := apart_in h14 hq1; rw [e.1, e.2, apart_straight h31] <;> rfl) | (have e := apart_in h14 hq1; have e2 := apart_in h14 ⟨h25, h20⟩; rw [e.1, e.2, e2.2, apart_swap h31] <;> rfl) | (have e := apart_out (a := p) (b := q) h14 (fun h => by first | exact h20 h.1 | exact h25 h.2); rw [e.1, e.2] <;> rfl)
 replace h25 := XF h25
 refine WK hK9 ?_
 refine w_seq fun _ hK13 => ?_
 refine WS fun _ hK14 => ?_
 have hq1 : SpotOk ts p ∧ SpotOk ts q := ⟨h20, h25⟩
 have hpo := off_in hst h20
 have hqo := off_in hst h25
 have hpb := h20.1
 have hqb := h25.1
 have hab := apartF_b hst hl12 h25 h20
 unfold In12 at hpo hqo
 refine rS (FA 0 rfl fo53_0 rfl) ?_
 refine rS (L1 (Value.int .i64 q.Stretch) 1 rfl tk3 rfl rfl) ?_
 refine rS (FA 0 rfl fo53_0 rfl) ?_
 refine rS (L1 (Value.int .i64 p.Stretch) 2 rfl tk3 rfl rfl) ?_
 refine rS (BI rfl b_lss) ?_
 refine RK hK14 ?_
 refine w_if rfl (fun h31 => ?_) (fun h31 => ?_)
 · replace h31 := DT h31
   refine WS fun _ hK15 => ?_
   refine rS (LW 3 rfl tk24 rfl rfl) ?_
   refine rS (LW 1 rfl tk53 rfl rfl) ?_
   refine rS (LW 2 rfl tk53 rfl rfl) ?_
   refine rS (CL (rapart1_c ts tsA tsC q p hlen hside (by first | assumption | omega | (simp; done) | (simp; omega))) (ha_at 4 rfl rfl <| ha_nil) rfl) ?_
   refine rS (MV rfl) ?_
   refine rS (EX rfl) ?_
   refine rS (EX rfl) ?_
   refine AL rfl tz34 fun b16 => ?_
   refine SW0 rfl ts34 rfl ?_
   refine rS (AG rfl) ?_
   refine RK hK15 ?_
   refine WS fun _ hK17 => ?_
   refine rS (FA 1 rfl fo34_1 rfl) ?_
   refine rS (L1 (Value.int .i64 ((apartV ts q p).Hi)) 0 rfl tk3 rfl rfl) ?_
   have hav : apartV ts q p = apartF ts q p := (apart_in h14 ⟨h25, h20⟩).2
   have hav1 : -400000 ≤ (apartV ts q p).Lo ∧ (apartV ts q p).Hi ≤ 400000 := by rw [hav]; omega
   have hav2 : (apartV ts q p).Lo ≤ (apartV ts q p).Hi := by rw [hav]; omega
   refine rS (NG rfl ⟨by omega, by omega⟩) ?_
   refine rS (FA 0 rfl fo34_0 rfl) ?_
   refine rS (L1 (Value.int .i64 ((apartV ts q p).Lo)) 0 rfl tk3 rfl rfl) ?_
   refine rS (NG rfl ⟨by omega, by omega⟩) ?_
   refine rS (SX (sd_build (xs := [(0, .tmp 41), (1, .tmp 44)]) (cs := (SpanV.cells (SpanV.mk (-((apartV ts q p).Hi)) (-((apartV ts q p).Lo))))) rfl rfl (built_of tb34 rfl)) rfl rfl) ?_
   refine SW1 rfl ts34 rfl ?_
   refine rS (AG rfl) ?_
   refine RK hK17 ?_
   refine w_ret ?_
   refine hQ _ _ _ (l_nil (vs := [(Value.agg (SpanV.cells (SpanV.mk (-((apartV ts q p).Hi)) (-((apartV ts q p).Lo)))).toArray), (Value.int .i64 0)]) ⟨⟨_, rfl, .inl ⟨_, _, tk34, at_blk (vs := (SpanV.cells (SpanV.mk (-((apartV ts q p).Hi)) (-((apartV ts q p).Lo))))) 1 rfl rfl, rfl, rfl⟩⟩, rfl, trivial⟩ fun w hs => endV ?_ hs)
   show (Value.tuple [(Value.agg (SpanV.cells (SpanV.mk (-((apartV ts q p).Hi)) (-((apartV ts q p).Lo)))).toArray), (Value.int .i64 0)].toArray) = (Value.tuple [(Value.agg (SpanV.cells (apartV ts p q)).toArray), (Value.int .i64 (apartE ts p q))].toArray)
   clear hs w hQ hN hK17 hK15 hK14 hK13 hK10 hK9 hK7 hK6 hK1
   first | (have e := apart_bad (a := p) (b := q) (by simpa using h14); rw [e.1, e.2] <;> rfl) | (have e := apart_in h14 hq1; rw [e.1, e.2, apart_straight h31] <;> rfl) | (have e := apart_in h14 hq1; have e2 := apart_in h14 ⟨h25, h20⟩; rw [e.1, e.2, e2.2, apart_swap h31] <;> rfl) | (have e := apart_out (a := p) (b := q) h14 (fun h => by first | exact h20 h.1 | exact h25 h.2); rw [e.1, e.2] <;> rfl)
 replace h31 := DF h31
 refine WK hK13 ?_
 refine WS fun _ hK18 => ?_
 refine rS (LW 3 rfl tk24 rfl rfl) ?_
 refine rS (FA 0 rfl fo53_0 rfl) ?_
 have hlb := longF_b hst p.Stretch.toNat (q.Stretch - p.Stretch).toNat
 refine rS (L1 (Value.int .i64 p.Stretch) 2 rfl tk3 rfl rfl) ?_
 refine rS (FA 0 rfl fo53_0 rfl) ?_
 refine rS (L1 (Value.int .i64 q.Stretch) 1 rfl tk3 rfl rfl) ?_
 refine rS (CL (rdrop_c ts tsA tsC p.Stretch q.Stretch (by first | assumption | omega | (simp; done) | (simp; omega)) (by first | assumption | omega | (simp; done) | (simp; omega)) (by omega)) (ha_at 4 rfl rfl <| ha_nil) rfl) ?_
 refine rS (MV rfl) ?_
 refine rS (EX rfl) ?_
 refine rS (EX rfl) ?_
 refine AL rfl tz34 fun b19 => ?_
 refine AL rfl tz34 fun b20 => ?_
 refine SW1 rfl ts34 rfl ?_
 refine SW0 rfl ts34 rfl ?_
 refine RK hK18 ?_
 refine WS fun _ hK21 => ?_
 refine rS (FA 0 rfl fo34_0 rfl) ?_
 refine rS (L1 (Value.int .i64 ((longF ts p.Stretch.toNat (q.Stretch - p.Stretch).toNat).Lo)) 1 rfl tk3 rfl rfl) ?_
 refine rS (FA 1 rfl fo53_1 rfl) ?_
 refine rS (FA 1 rfl fo34_0 rfl) ?_
 refine rS (L1 (Value.int .i64 q.Off.Lo) 3 rfl tk3 rfl rfl) ?_
 refine rS (BI rfl (b_add ⟨by omega, by omega⟩)) ?_
 refine rS (FA 1 rfl fo53_1 rfl) ?_
 refine rS (FA 2 rfl fo34_1 rfl) ?_
 refine rS (L1 (Value.int .i64 p.Off.Hi) 4 rfl tk3 rfl rfl) ?_
 refine rS (BI rfl (b_sub ⟨by omega, by omega⟩)) ?_
 refine rS (FA 1 rfl fo34_1 rfl) ?_
 refine rS (L1 (Value.int .i64 ((longF ts p.Stretch.toNat (q.Stretch - p.Stretch).toNat).Hi)) 1 rfl tk3 rfl rfl) ?_
 refine rS (FA 1 rfl fo53_1 rfl) ?_
 refine rS (FA 2 rfl fo34_1 rfl) ?_
 refine rS (L1 (Value.int .i64 q.Off.Hi) 3 rfl tk3 rfl rfl) ?_
 refine rS (BI rfl (b_add ⟨by omega, by omega⟩)) ?_
 refine rS (FA 1 rfl fo53_1 rfl) ?_
 refine rS (FA 1 rfl fo34_0 rfl) ?_
 refine rS (L1 (Value.int .i64 p.Off.Lo) 4 rfl tk3 rfl rfl) ?_
 refine rS (BI rfl (b_sub ⟨by omega, by omega⟩)) ?_
 refine rS (SX (sd_build (xs := [(0, .tmp 64), (1, .tmp 74)]) (cs := (SpanV.cells (SpanV.mk ((((longF ts p.Stretch.toNat (q.Stretch - p.Stretch).toNat).Lo) + q.Off.Lo) - p.Off.Hi) ((((longF ts p.Stretch.toNat (q.Stretch - p.Stretch).toNat).Hi) + q.Off.Hi) - p.Off.Lo)))) rfl rfl (built_of tb34 rfl)) rfl rfl) ?_
 refine SW2 rfl ts34 rfl ?_
 refine rS (AG rfl) ?_
 refine RK hK21 ?_
 refine w_ret ?_
 refine hQ _ _ _ (l_nil (vs := [(Value.agg (SpanV.cells (SpanV.mk ((((longF ts p.Stretch.toNat (q.Stretch - p.Stretch).toNat).Lo) + q.Off.Lo) - p.Off.Hi) ((((longF ts p.Stretch.toNat (q.Stretch - p.Stretch).toNat).Hi) + q.Off.Hi) - p.Off.Lo))).toArray), (Value.int .i64 0)]) ⟨⟨_, rfl, .inl ⟨_, _, tk34, at_blk (vs := (SpanV.cells (SpanV.mk ((((longF ts p.Stretch.toNat (q.Stretch - p.Stretch).toNat).Lo) + q.Off.Lo) - p.Off.Hi) ((((longF ts p.Stretch.toNat (q.Stretch - p.Stretch).toNat).Hi) + q.Off.Hi) - p.Off.Lo)))) 2 rfl rfl, rfl, rfl⟩⟩, rfl, trivial⟩ fun w hs => endV ?_ hs)
 show (Value.tuple [(Value.agg (SpanV.cells (SpanV.mk ((((longF ts p.Stretch.toNat (q.Stretch - p.Stretch).toNat).Lo) + q.Off.Lo) - p.Off.Hi) ((((longF ts p.Stretch.toNat (q.Stretch - p.Stretch).toNat).Hi) + q.Off.Hi) - p.Off.Lo))).toArray), (Value.int .i64 0)].toArray) = (Value.tuple [(Value.agg (SpanV.cells (apartV ts p q)).toArray), (Value.int .i64 (apartE ts p q))].toArray)
 clear hs w hQ hN hK21 hK18 hK14 hK13 hK10 hK9 hK7 hK6 hK1
 first | (have e := apart_bad (a := p) (b := q) (by simpa using h14); rw [e.1, e.2] <;> rfl) | (have e := apart_in h14 hq1; rw [e.1, e.2, apart_straight h31] <;> rfl) | (have e := apart_in h14 hq1; have e2 := apart_in h14 ⟨h25, h20⟩; rw [e.1, e.2, e2.2, apart_swap h31] <;> rfl) | (have e := apart_out (a := p) (b := q) h14 (fun h => by first | exact h20 h.1 | exact h25 h.2); rw [e.1, e.2] <;> rfl)

end Go.Proofs.Ytaehngpnlkokkaa
