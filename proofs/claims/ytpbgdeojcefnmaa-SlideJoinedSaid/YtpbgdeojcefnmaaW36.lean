/-
  Walks: kreisel/kreisellaw03.SlideJoined
-/
import Derived.Test.YtpbgdeojcefnmaaTab
import Derived.Test.YtpbgdeojcefnmaaShort
import Derived.Test.YtpbgdeojcefnmaaThr
import Derived.Test.YtpbgdeojcefnmaaMono
import Derived.Test.YtpbgdeojcefnmaaSafe
import Derived.Test.YtpbgdeojcefnmaaAlive
import Derived.Test.YtpbgdeojcefnmaaWithin
import Derived.Test.YtpbgdeojcefnmaaShut
import Derived.Test.YtpbgdeojcefnmaaStart
import Derived.Test.YtpbgdeojcefnmaaWalls
import Derived.Test.YtpbgdeojcefnmaaEnds
import Derived.Test.YtpbgdeojcefnmaaIn
import Derived.Test.YtpbgdeojcefnmaaDrop
import Derived.Test.YtpbgdeojcefnmaaJoin
import Derived.Test.YtpbgdeojcefnmaaGrow
import Derived.Test.YtpbgdeojcefnmaaW4
import Derived.Test.YtpbgdeojcefnmaaW9
import Derived.Test.YtpbgdeojcefnmaaW12
import Derived.Test.YtpbgdeojcefnmaaW18
import Derived.Test.YtpbgdeojcefnmaaW22
import Derived.Test.YtpbgdeojcefnmaaW35
namespace Go.Proofs.Ytpbgdeojcefnmaa
open Go.RowKit
set_option linter.unusedVariables false

set_option maxRecDepth 100000 in
set_option maxHeartbeats 400000 in
theorem slideJoined_c (ts : List StretchV) (tsA : Option Addr) (tsC : Nat) (us : List StretchV) (usA : Option Addr) (usC : Nat) (s : SledV) (hside : ∀ x ∈ ts, 0 ≤ x.Side ∧ x.Side ≤ 255) (hside2 : ∀ x ∈ us, 0 ≤ x.Side ∧ x.Side ≤ 255) (hc : 0 ≤ s.Class ∧ s.Class ≤ 255) :
    FnV Try.prog 12 [(Value.agg (TrackV.cells (TrackV.mk (Slc.mk tsA ts.length tsC))).toArray), (Value.agg (TrackV.cells (TrackV.mk (Slc.mk usA us.length usC))).toArray), (Value.agg (SledV.cells s).toArray)] [(rd tsA ts.length 9 (ts.map StretchV.cells)), (rd usA us.length 9 (us.map StretchV.cells))] (Value.bool true) := by
 refine fnV_of go12 Try.func12 rfl rfl fun w0 Q hQ hN => ?_
 change WJ _ _ _ _ [(0, (Value.agg (TrackV.cells (TrackV.mk (Slc.mk tsA ts.length tsC))).toArray)), (1, (Value.agg (TrackV.cells (TrackV.mk (Slc.mk usA us.length usC))).toArray)), (2, (Value.agg (SledV.cells s).toArray))] [(rd tsA ts.length 9 (ts.map StretchV.cells)).ro, (rd usA us.length 9 (us.map StretchV.cells)).ro]
 refine WS fun _ hK1 => ?_
 refine BXA rfl fun b2 => ?_
 refine BXA rfl fun b3 => ?_
 refine BXA rfl fun b4 => ?_
 refine rS (AG rfl) ?_
 refine RK hK1 ?_
 refine WS fun _ hK5 => ?_
 refine rS (CL alive_c (ha_nil) rfl) ?_
 refine rS (AG rfl) ?_
 refine RK hK5 ?_
 refine w_seq fun _ hK6 => ?_
 refine WS fun _ hK7 => ?_
 refine rS (LW 2 rfl tk24 rfl rfl) ?_
 refine rS (LW 0 rfl tk28 rfl rfl) ?_
 refine rS (CL (ready_c ts tsA tsC s hc) (ha_at 3 rfl rfl <| ha_nil) rfl) ?_
 refine rS (NT rfl) ?_
 refine rS (MV rfl) ?_
 refine r_bool (t := 28) rfl (fun hr1 => ?_) (fun hr1 => ?_)
 · replace hr1 := XT hr1
   refine rS (OX rfl) ?_
   refine rS (OX rfl) ?_
   refine rS (OX rfl) ?_
   refine rS (OX rfl) ?_
   refine rS (PK rfl) ?_
   refine rS (MV rfl) ?_
   refine rS (OX rfl) ?_
   refine rS (OX rfl) ?_
   refine rS (PK rfl) ?_
   refine RK hK7 ?_
   refine w_if_true rfl ?_
   refine WS fun _ hK8 => ?_
   refine rS (MV rfl) ?_
   refine rS (AG rfl) ?_
   refine RK hK8 ?_
   refine w_ret ?_
   refine Q1 hQ rfl rfl rfl ?_
   first | rfl | (exact congrArg Value.bool (decide_eq_true (then_bad hs hst hz))) | (exact congrArg Value.bool (decide_eq_true (by omega))) | (exact congrArg Value.bool (by simp)) | (simp; done)
 replace hr1 := XF hr1
 refine rS (LW 1 rfl tk24 rfl rfl) ?_
 refine rS (LW 0 rfl tk28 rfl rfl) ?_
 refine rS (CL (ready_c us usA usC s hc) (ha_at 4 rfl rfl <| ha_nil) rfl) ?_
 refine rS (NT rfl) ?_
 refine rS (PK rfl) ?_
 refine rS (MV rfl) ?_
 refine r_bool (t := 34) rfl (fun hr2 => ?_) (fun hr2 => ?_)
 · replace hr2 := XT hr2
   refine rS (OX rfl) ?_
   refine rS (OX rfl) ?_
   refine rS (PK rfl) ?_
   refine RK hK7 ?_
   refine w_if_true rfl ?_
   refine WS fun _ hK9 => ?_
   refine rS (MV rfl) ?_
   refine rS (AG rfl) ?_
   refine RK hK9 ?_
   refine w_ret ?_
   refine Q1 hQ rfl rfl rfl ?_
   first | rfl | (exact congrArg Value.bool (decide_eq_true (then_bad hs hst hz))) | (exact congrArg Value.bool (decide_eq_true (by omega))) | (exact congrArg Value.bool (by simp)) | (simp; done)
 replace hr2 := XF hr2
 refine rS (MV rfl) ?_
 refine rS (NT rfl) ?_
 refine rS (PK rfl) ?_
 refine RK hK7 ?_
 refine w_if_false rfl ?_
 refine WK hK6 ?_
 refine WS fun _ hK10 => ?_
 obtain ⟨hg1, htr, hs⟩ := hr1
 obtain ⟨hg2, htu, _⟩ := hr2
 have hst := trackOk_all htr
 have hb1 := bothE_ok htr hs
 have hl1 := trackOk_pos htr
 have hl12 := trackOk_le htr
 have hm12 := trackOk_le htu
 have hjt := joinE_two ⟨htr, htu⟩
 have e0 := spansL_length (s := s) (ts := ts)
 refine rS (LW 2 rfl tk24 rfl rfl) ?_
 refine rS (LW 1 rfl tk24 rfl rfl) ?_
 refine cX (join_c ts tsA tsC us usA usC (by first | assumption | omega | (simp; done) | (simp; omega)) (by first | assumption | omega | (simp; done) | (simp; omega)) hside hside2) (ha_at 3 rfl rfl <| ha_at 4 rfl rfl <| ha_nil) rfl fun y11 hy12 => ?_
 obtain ⟨a13, c14⟩ := y11
 change RJ _ _ _ _ _ ((_, (Value.tuple [(Value.agg (TrackV.cells (TrackV.mk (Slc.mk a13 ((joinL ts us).length) c14))).toArray), (Value.int .i64 (joinE ts us))].toArray)) :: _) ((own a13 c14 77 9 ((joinL ts us).map StretchV.cells)) :: _)
 refine rS (MV rfl) ?_
 refine rS (EX rfl) ?_
 refine rS (EX rfl) ?_
 refine AL rfl tz24 fun b15 => ?_
 refine SW0 rfl ts24 rfl ?_
 refine rS (AG rfl) ?_
 refine RK hK10 ?_
 refine w_seq fun _ hK16 => ?_
 refine WS fun _ hK17 => ?_
 refine rS (MV rfl) ?_
 refine rS (BI rfl b_neq) ?_
 refine RK hK17 ?_
 refine w_if rfl (fun hE => ?_) (fun hE => ?_)
 · replace hE := XT hE
   refine WS fun _ hK18 => ?_
   refine rS (MV rfl) ?_
   refine rS (MV rfl) ?_
   refine rS (MV rfl) ?_
   refine rS (BI rfl b_eql) ?_
   refine rS (MV rfl) ?_
   refine r_bool (t := 51) rfl (fun h51 => ?_) (fun h51 => ?_)
   · replace h51 := DT h51
     refine rS (OX rfl) ?_
     refine rS (OX rfl) ?_
     refine rS (PK rfl) ?_
     refine rS (PK rfl) ?_
     refine rS (AG rfl) ?_
     refine RK hK18 ?_
     refine w_ret ?_
     refine Q1 hQ rfl rfl rfl ?_
     first | rfl | (exact congrArg Value.bool (decide_eq_true (then_bad hs hst hz))) | (exact congrArg Value.bool (decide_eq_true (by omega))) | (exact congrArg Value.bool (by simp)) | (simp; done)
   replace h51 := DF h51
   refine rS (MV rfl) ?_
   refine rS (BI rfl b_eql) ?_
   refine rS (PK rfl) ?_
   refine rS (PK rfl) ?_
   refine rS (AG rfl) ?_
   refine RK hK18 ?_
   refine w_ret ?_
   refine Q1 hQ rfl rfl rfl ?_
   first | rfl | (exact congrArg Value.bool (decide_eq_true (then_bad hs hst hz))) | (exact congrArg Value.bool (decide_eq_true (by omega))) | (exact congrArg Value.bool (by simp)) | (simp; done)
 replace hE := XF hE
 refine WK hK16 ?_
 refine WS fun _ hK19 => ?_
 obtain ⟨_, _, ha12, hta⟩ := joinE_ok hE
 have hba := bothE_ok hta hs
 rw [joinL_ok hE]
 refine rS (LW 4 rfl tk24 rfl rfl) ?_
 refine rS (LW 2 rfl tk28 rfl rfl) ?_
 refine cX (heads_c ts tsA tsC s (by first | assumption | omega | (simp; done) | (simp; omega)) hside) (ha_at 5 rfl rfl <| ha_nil) rfl fun y20 hy21 => ?_
 obtain ⟨a22, c23⟩ := y20
 change RJ _ _ _ _ _ ((_, (Value.tuple [(Value.slice a22 ((spansU s ts).length) c23), (Value.int .i64 (bothE s ts))].toArray)) :: _) ((own a22 c23 26 2 ((spansU s ts).map SpanV.cells)) :: _)
 rw [spansU_ok htr hs]
 rw [hb1]
 refine rS (MV rfl) ?_
 refine rS (EX rfl) ?_
 refine rS (EX rfl) ?_
 refine rS (AG rfl) ?_
 refine rS (AG rfl) ?_
 refine RK hK19 ?_
 refine w_seq fun _ hK24 => ?_
 refine WS fun _ hK25 => ?_
 refine rS (MV rfl) ?_
 refine rS (SX (sd_bin (r := .bool false) rfl rfl rfl b_neq) rfl rfl) ?_
 refine rS (MV rfl) ?_
 refine rS (MV rfl) ?_
 refine rS (LN rfl ut31) ?_
 refine rS (FA 0 rfl fo24_0 rfl) ?_
 refine rS (L1 (Value.slice tsA ts.length tsC) 5 rfl tk22 rfl rfl) ?_
 refine rS (LN rfl ut22) ?_
 refine rS (BI rfl (b_add ⟨by omega, by omega⟩)) ?_
 refine rS (BI rfl b_neq) ?_
 refine rS (PK rfl) ?_
 refine RK hK25 ?_
 refine w_if rfl (fun h26 => ?_) (fun h26 => ?_)
 · replace h26 := XT h26
   exfalso; omega
 replace h26 := XF h26
 refine WK hK24 ?_
 refine WS fun _ hK27 => ?_
 refine rS (LW 3 rfl tk28 rfl rfl) ?_
 refine AL rfl tz28 fun b28 => ?_
 refine SW0 rfl ts28 rfl ?_
 refine RK hK27 ?_
 refine WS fun _ hK29 => ?_
 refine rS (MV rfl) ?_
 refine rS (MV rfl) ?_
 refine rS (LN rfl ut31) ?_
 refine rS (BI rfl (b_sub ⟨by omega, by omega⟩)) ?_
 obtain ⟨y, hy⟩ : ∃ y_, (spansL s ts)[((spansL s ts).length - 1)]? = some y_ := ⟨(spansL s ts)[((spansL s ts).length - 1)]'(by omega), List.getElem?_eq_getElem _⟩
 have hym : ((spansL s ts).map SpanV.cells)[((spansL s ts).length - 1)]? = some (SpanV.cells y) := by rw [List.getElem?_map, hy]; rfl
 refine rS (IA ((spansL s ts).length - 1) rfl (has_own_n (n := (spansL s ts).length) 1 rfl (by simp)) te31 (by decide) (by omega) (by omega)) ?_
 refine rS (LEN ((spansL s ts).length - 1) 0 (SpanV.cells y) rfl tk26 (has_own_n (n := (spansL s ts).length) 1 rfl (by simp)) hym rfl (by decide) rfl rfl) ?_
 refine rS (FA 1 rfl fo28_1 rfl) ?_
 refine ST0 (SledV.cells (SledV.mk s.Class y s.Rub s.Drag s.Weight s.Steer)) rfl ts26 rfl rfl ?_
 refine RK hK29 ?_
 refine w_seq fun _ hK30 => ?_
 refine w_seq fun _ hK31 => ?_
 have hb32 : (SledV.cells (SledV.mk s.Class y s.Rub s.Drag s.Weight s.Steer)) = (SledV.cells (thenS s ts)) := by rw [show y = spanAt s ts ts.length from by rw [show (spansL s ts).length - 1 = ts.length from by omega, spansL_get (Nat.le_refl _)] at hy; exact (Option.some.inj hy).symm]; rfl
 rw [hb32]
 refine w_region ?_
 refine rS (LW 0 rfl tk28 rfl rfl) ?_
 refine rS (CL (sled_c (thenS s ts) (by first | assumption | omega | (simp; done) | (simp; omega))) (ha_nil) rfl) ?_
 refine rS (NT rfl) ?_
 refine RK hK31 ?_
 refine w_if rfl (fun hz => ?_) (fun hz => ?_)
 · replace hz := XT hz
   refine WS fun _ hK33 => ?_
   refine rS (MV rfl) ?_
   refine rS (MV rfl) ?_
   refine rS (FA 1 rfl fo28_1 rfl) ?_
   refine rS (FA 2 rfl fo26_1 rfl) ?_
   refine rS (L1 (Value.int .i64 (((thenS s ts).Start).Hi)) 0 rfl tk3 rfl rfl) ?_
   refine rS (BI rfl b_gtr) ?_
   refine rS (PK rfl) ?_
   refine rS (AG rfl) ?_
   refine RK hK33 ?_
   refine w_ret ?_
   refine Q1 hQ rfl rfl rfl ?_
   first | rfl | (exact congrArg Value.bool (decide_eq_true (then_bad hs hst hz))) | (exact congrArg Value.bool (decide_eq_true (by omega))) | (exact congrArg Value.bool (by simp)) | (simp; done)
 replace hz := XF hz
 refine WK hK30 ?_
 refine WS fun _ hK34 => ?_
 have hbz := bothE_ok htu hz
 have e2 := spansL_length (s := (thenS s ts)) (ts := us)
 refine rS (LW 5 rfl tk24 rfl rfl) ?_
 refine rS (LW 0 rfl tk28 rfl rfl) ?_
 refine cX (heads_c us usA usC (thenS s ts) (by first | assumption | omega | (simp; done) | (simp; omega)) hside2) (ha_at 8 rfl rfl <| ha_nil) rfl fun y35 hy36 => ?_
 obtain ⟨a37, c38⟩ := y35
 change RJ _ _ _ _ _ ((_, (Value.tuple [(Value.slice a37 ((spansU (thenS s ts) us).length) c38), (Value.int .i64 (bothE (thenS s ts) us))].toArray)) :: _) ((own a37 c38 26 2 ((spansU (thenS s ts) us).map SpanV.cells)) :: _)
 rw [spansU_ok htu hz]
 rw [hbz]
 refine rS (MV rfl) ?_
 refine rS (EX rfl) ?_
 refine rS (EX rfl) ?_
 refine rS (AG rfl) ?_
 refine rS (AG rfl) ?_
 refine RK hK34 ?_
 refine WS fun _ hK39 => ?_
 refine rS (LW 3 rfl tk24 rfl rfl) ?_
 refine rS (LW 5 rfl tk28 rfl rfl) ?_
 refine cX (heads_c (ts ++ us) a13 c14 s (by first | omega | (simp only [List.length_append]; omega)) (by exact append_side hside hside2)) (ha_cons (has_own_n (n := (ts ++ us).length) 4 rfl (by simp)) <| ha_nil) rfl fun y40 hy41 => ?_
 obtain ⟨a42, c43⟩ := y40
 change RJ _ _ _ _ _ ((_, (Value.tuple [(Value.slice a42 ((spansU s (ts ++ us)).length) c43), (Value.int .i64 (bothE s (ts ++ us)))].toArray)) :: _) ((own a42 c43 26 2 ((spansU s (ts ++ us)).map SpanV.cells)) :: _)
 rw [spansU_ok hta hs, spans_join]
 rw [hba]
 refine rS (MV rfl) ?_
 refine rS (EX rfl) ?_
 refine rS (EX rfl) ?_
 refine rS (AG rfl) ?_
 refine rS (AG rfl) ?_
 refine RK hK39 ?_
 refine w_seq fun _ hK44 => ?_
 refine w_seq fun _ hK45 => ?_
 refine w_draw4 mixed [0, 1, 2, 3, 4, 5, 6, 7, 8, 9, 10, 11, 12, 13, 14, 15, 16, 18, 20, 21] [17, 19, 22, 23, 24, 25] [false, false, false, false, false, false, false, false, false, false, false, false, false, false, false, false, false, false, false, false] [false, false, false, false, false, false] [(own a42 c43 26 2 (((spansL s ts) ++ ((spansL (thenS s ts) us).drop 1)).map SpanV.cells)), (own a37 c38 26 2 ((spansL (thenS s ts) us).map SpanV.cells)), (blk b28 28 (SledV.cells (thenS s ts))), (own a22 c23 26 2 ((spansL s ts).map SpanV.cells)), (blk b15 24 (TrackV.cells (TrackV.mk (Slc.mk a13 ((ts ++ us).length) c14)))), (own a13 c14 77 9 ((ts ++ us).map StretchV.cells)), (blk b4 28 (SledV.cells s)), (blk b3 24 (TrackV.cells (TrackV.mk (Slc.mk usA us.length usC)))), (blk b2 24 (TrackV.cells (TrackV.mk (Slc.mk tsA ts.length tsC)))), (rd tsA ts.length 9 (ts.map StretchV.cells)).ro, (rd usA us.length 9 (us.map StretchV.cells)).ro] [] (by kernel_rfl) (fun w hs => St.sel [0, 1, 2, 3, 4, 5, 6, 7, 8, 9, 10] rfl rfl hs) (fun w hs => St.sel [] rfl rfl hs) ?_
 refine eS rfl (MV rfl) ?_
 refine eS rfl (SX (sd_bin (r := .bool false) rfl rfl rfl b_neq) rfl rfl) ?_
 refine eS rfl (MV rfl) ?_
 refine eS rfl (MV rfl) ?_
 refine eS rfl (SX (sd_bin (r := .bool false) rfl rfl rfl b_neq) rfl rfl) ?_
 refine eS rfl (PK rfl) ?_
 refine eS rfl (MV rfl) ?_
 refine eS rfl (MV rfl) ?_
 refine eS rfl (LN rfl ut31) ?_
 refine eS rfl (FA 0 rfl fo24_0 rfl) ?_
 refine eS rfl (L1 (Value.slice usA us.length usC) 7 rfl tk22 rfl rfl) ?_
 refine eS rfl (LN rfl ut22) ?_
 refine eS rfl (BI rfl (b_add ⟨by omega, by omega⟩)) ?_
 refine eS rfl (BI rfl b_neq) ?_
 refine eS rfl (PK rfl) ?_
 refine eS rfl (MV rfl) ?_
 refine d_bool3 (t := 118) rfl (fun h46 => ?_) (fun h46 => ?_)
 · replace h46 := XT h46
   exfalso; omega
 replace h46 := XF h46
 refine eS rfl (MV rfl) ?_
 refine eS rfl (MV rfl) ?_
 refine eS rfl (MV rfl) ?_
 refine eS rfl (SLO 1 rfl te31 rfl (by first | omega | (simp; omega))) ?_
 refine d_fin rfl ?_
 refine t_cons rfl fun T47 hT47 => ?_
 refine r_bs0 rfl te31 rfl fun b48 => ?_
 refine r_nil (hT47 _ _ (fun w hs => St.sel [1, 2, 3, 4, 5, 6, 7, 8, 9, 10, 11] rfl rfl hs) ?_)
 refine t_cons rfl fun T49 hT49 => ?_
 refine r_blk_own (es := (List.map SpanV.cells [])) (C' := [own (some ⟨b48, 0, none⟩) 0 26 2 (List.map SpanV.cells []), _, _, _, _, _, _, _, _, _, _, _]) 0 rfl (by simp) rfl (by simp [maxLen]) rfl ?_
 refine r_append (es2 := (List.map SpanV.cells (spansL s ts))) (m' := (spansL s ts).length) 0 rfl rfl rfl ta31 rfl rfl (by simp) (has_own_n (n := (spansL s ts).length) 4 rfl (by simp)) (one_SpanV_cells _) (by first | omega | (simp; omega)) (by first | (simp only [maxLen]; omega) | (simp [maxLen]; omega)) (by simp) (by simp) rfl fun a50 c51 => ?_
 change RJ _ _ _ _ _ _ [(own a50 c51 26 2 (List.map SpanV.cells (spansL s ts))), _, _, _, _, _, _, _, _, _, _, _]
 refine r_nil (hT49 _ _ (fun w hs => St.sel [1, 2, 3, 4, 5, 6, 7, 8, 9, 10, 11] rfl rfl hs) ?_)
 refine t_cons rfl fun T52 hT52 => ?_
 refine r_append (es2 := (List.map SpanV.cells ((spansL s ts) ++ ((spansL (thenS s ts) us).drop 1)))) (m' := ((spansL s ts) ++ ((spansL (thenS s ts) us).drop 1)).length) 0 rfl rfl rfl ta31 rfl rfl (by simp) (by rw [List.map_drop]; exact rd_sub_own 2 rfl (by simp) (by first | omega | (simp; omega))) (one_SpanV_cells _) (by omega) (by simp only [maxLen]; omega) (by simp) (by simp) rfl fun a53 c54 => ?_
 change RJ _ _ _ _ _ _ [(own a53 c54 26 2 (List.map SpanV.cells ((spansL s ts) ++ ((spansL (thenS s ts) us).drop 1)))), _, _, _, _, _, _, _, _, _, _, _]
 refine r_nil (hT52 _ _ (fun w hs => St.sel [1, 2, 3, 4, 5, 6, 7, 8, 9, 10, 11] rfl rfl hs) ?_)
 refine t_cons rfl fun T55 hT55 => ?_
 refine rS (CL (samespans_c ((spansL s ts) ++ ((spansL (thenS s ts) us).drop 1)) a42 c43 ((spansL s ts) ++ ((spansL (thenS s ts) us).drop 1)) a53 c54 (by first | assumption | omega | (simp; done) | (simp; omega)) (by first | assumption | omega | (simp; done) | (simp; omega))) (ha_cons (has_own_n (n := ((spansL s ts) ++ ((spansL (thenS s ts) us).drop 1)).length) 1 rfl (by simp)) <| ha_cons (has_own_n (n := ((spansL s ts) ++ ((spansL (thenS s ts) us).drop 1)).length) 0 rfl (by simp)) <| ha_nil) rfl) ?_
 refine r_nil (hT55 _ _ (fun w hs => St.sel [1, 2, 3, 4, 5, 6, 7, 8, 9, 10, 11] rfl rfl hs) ?_)
 refine t_cons rfl fun T56 hT56 => ?_
 refine rS (NT rfl) ?_
 refine r_nil (hT56 _ _ (fun w hs => St.sel [1, 2, 3, 4, 5, 6, 7, 8, 9, 10, 11] rfl rfl hs) ?_)
 refine t_cons rfl fun T57 hT57 => ?_
 refine rS (PK rfl) ?_
 refine r_nil (hT57 _ _ (fun w hs => St.sel [1, 2, 3, 4, 5, 6, 7, 8, 9, 10, 11] rfl rfl hs) ?_)
 refine t_fin rfl ?_
 refine KK hK45 ?_
 refine w_if rfl (fun h58 => ?_) (fun h58 => ?_)
 · replace h58 := XT h58
   exfalso; simp_all
 replace h58 := XF h58
 refine WK hK44 ?_
 refine WS fun _ hK59 => ?_
 refine rS (LW 9 rfl tk24 rfl rfl) ?_
 refine rS (LW 7 rfl tk28 rfl rfl) ?_
 refine rS (CL (safe_c ts tsA tsC s (by first | assumption | omega | (simp; done) | (simp; omega)) hside) (ha_at 10 rfl rfl <| ha_nil) rfl) ?_
 rw [safeV_ok hb1]
 try rw [hb1]
 refine rS (MV rfl) ?_
 refine rS (EX rfl) ?_
 refine rS (EX rfl) ?_
 refine rS (AG rfl) ?_
 refine rS (AG rfl) ?_
 refine RK hK59 ?_
 refine WS fun _ hK60 => ?_
 refine rS (LW 8 rfl tk24 rfl rfl) ?_
 refine rS (LW 3 rfl tk28 rfl rfl) ?_
 refine rS (CL (safe_c us usA usC (thenS s ts) (by first | assumption | omega | (simp; done) | (simp; omega)) hside2) (ha_at 11 rfl rfl <| ha_nil) rfl) ?_
 rw [safeV_ok hbz]
 try rw [hbz]
 refine rS (MV rfl) ?_
 refine rS (EX rfl) ?_
 refine rS (EX rfl) ?_
 refine rS (AG rfl) ?_
 refine rS (AG rfl) ?_
 refine RK hK60 ?_
 refine WS fun _ hK61 => ?_
 refine rS (LW 5 rfl tk24 rfl rfl) ?_
 refine rS (LW 7 rfl tk28 rfl rfl) ?_
 refine rS (CL (safe_c (ts ++ us) a13 c14 s (by first | omega | (simp only [List.length_append]; omega)) (by exact append_side hside hside2)) (ha_cons (has_own_n (n := (ts ++ us).length) 6 rfl (by simp)) <| ha_nil) rfl) ?_
 rw [safeV_ok hba, safe_join]
 try rw [hba]
 refine rS (MV rfl) ?_
 refine rS (EX rfl) ?_
 refine rS (EX rfl) ?_
 refine rS (AG rfl) ?_
 refine rS (AG rfl) ?_
 refine RK hK61 ?_
 refine WS fun _ hK62 => ?_
 refine rS (MV rfl) ?_
 refine rS (MV rfl) ?_
 refine rS (MV rfl) ?_
 refine rS (SX (sd_bin (r := .bool true) rfl rfl rfl b_eql) rfl rfl) ?_
 refine rS (PK rfl) ?_
 refine rS (MV rfl) ?_
 refine rS (MV rfl) ?_
 refine rS (SX (sd_bin (r := .bool true) rfl rfl rfl b_eql) rfl rfl) ?_
 refine rS (PK rfl) ?_
 refine rS (MV rfl) ?_
 refine rS (MV rfl) ?_
 refine rS (SX (sd_bin (r := .bool true) rfl rfl rfl b_eql) rfl rfl) ?_
 refine rS (PK rfl) ?_
 refine rS (MV rfl) ?_
 refine rS (MV rfl) ?_
 refine rS (MV rfl) ?_
 refine rS (MV rfl) ?_
 refine rS (MN rfl) ?_
 refine rS (BI rfl b_eql) ?_
 refine rS (PK rfl) ?_
 refine rS (AG rfl) ?_
 refine RK hK62 ?_
 refine w_ret ?_
 refine Q1 hQ rfl rfl rfl ?_
 first | rfl | (exact congrArg Value.bool (decide_eq_true (then_bad hs hst hz))) | (exact congrArg Value.bool (decide_eq_true (by omega))) | (exact congrArg Value.bool (by simp)) | (simp; done)

end Go.Proofs.Ytpbgdeojcefnmaa
