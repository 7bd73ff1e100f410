/-
  Walks: kreisel/kreisellaw03.ends
-/
import Derived.Test.YtpbgdeojcefnmaaTab
import Derived.Test.YtpbgdeojcefnmaaShort
import Derived.Test.YtpbgdeojcefnmaaThr
import Derived.Test.YtpbgdeojcefnmaaMono
import Derived.Test.YtpbgdeojcefnmaaSafe
import Derived.Test.YtpbgdeojcefnmaaAlive
import Derived.Test.YtpbgdeojcefnmaaWithin
import Derived.Test.YtpbgdeojcefnmaaShut
import Derived.Test.YtpbgdeojcefnmaaStart
import Derived.Test.YtpbgdeojcefnmaaWalls
import Derived.Test.YtpbgdeojcefnmaaEnds
import Derived.Test.YtpbgdeojcefnmaaW14
import Derived.Test.YtpbgdeojcefnmaaW22
namespace Go.Proofs.Ytpbgdeojcefnmaa
open Go.RowKit
set_option linter.unusedVariables false

set_option maxRecDepth 100000 in
set_option maxHeartbeats 1000000 in
theorem ends_c (ts : List StretchV) (tsA : Option Addr) (tsC : Nat) (s : SledV) (hlen : ts.length ≤ 1000000) :
    FnX Try.prog 45 [(Value.agg (TrackV.cells (TrackV.mk (Slc.mk tsA ts.length tsC))).toArray), (Value.agg (SledV.cells s).toArray)] [(rd tsA ts.length 9 (ts.map StretchV.cells))] (fun (x : (Option Addr) × Nat × (Option Addr) × Nat) => (Value.tuple [(Value.agg (TrackV.cells (TrackV.mk (Slc.mk x.1 ((limT false ts).length) x.2.1))).toArray), (Value.agg (TrackV.cells (TrackV.mk (Slc.mk x.2.2.1 ((limT true ts).length) x.2.2.2))).toArray), (Value.agg (SledV.cells (limS false s)).toArray), (Value.agg (SledV.cells (limS true s)).toArray)].toArray)) (fun (x : (Option Addr) × Nat × (Option Addr) × Nat) => True) (fun (x : (Option Addr) × Nat × (Option Addr) × Nat) => [(own x.1 x.2.1 77 9 ((limT false ts).map StretchV.cells)), (own x.2.2.1 x.2.2.2 77 9 ((limT true ts).map StretchV.cells))]) := by
 refine fnX_of go45 Try.func45 rfl rfl fun w0 Q hQ hN => ?_
 change WJ _ _ _ _ [(0, (Value.agg (TrackV.cells (TrackV.mk (Slc.mk tsA ts.length tsC))).toArray)), (1, (Value.agg (SledV.cells s).toArray))] [(rd tsA ts.length 9 (ts.map StretchV.cells)).ro]
 refine WS fun _ hK1 => ?_
 refine BXA rfl fun b2 => ?_
 refine BXA rfl fun b3 => ?_
 refine AL rfl tz24 fun b4 => ?_
 refine AL rfl tz24 fun b5 => ?_
 refine AL rfl tz28 fun b6 => ?_
 refine AL rfl tz28 fun b7 => ?_
 refine RK hK1 ?_
 refine w_seq fun _ hK8 => ?_
 refine w_draw4 mixed [0, 2, 4, 5] [1, 3, 6, 7, 8, 9] [false, false, false, false] [false, false, false, false, false, false] [(blk b3 28 (SledV.cells s)), (blk b2 24 (TrackV.cells (TrackV.mk (Slc.mk tsA ts.length tsC)))), (rd tsA ts.length 9 (ts.map StretchV.cells)).ro] [] (by kernel_rfl) (fun w hs => St.sel [4, 5, 6] rfl rfl hs) (fun w hs => St.sel [] rfl rfl hs) ?_
 refine eS rfl (LW 1 rfl tk24 rfl rfl) ?_
 refine eS rfl (LW 1 rfl tk24 rfl rfl) ?_
 refine eS rfl (LW 0 rfl tk28 rfl rfl) ?_
 refine eS rfl (LW 0 rfl tk28 rfl rfl) ?_
 refine d_fin rfl ?_
 refine t_cons rfl fun T9 hT9 => ?_
 refine cX (twin_c ts tsA tsC hlen) (ha_at 6 rfl rfl <| ha_nil) rfl fun y10 hy11 => ?_
 obtain ⟨a12, c13⟩ := y10
 change RJ _ _ _ _ _ ((_, (Value.agg (TrackV.cells (TrackV.mk (Slc.mk a12 ts.length c13))).toArray)) :: _) ((own a12 c13 77 9 (ts.map StretchV.cells)) :: _)
 refine r_nil (hT9 _ _ (fun w hs => St.sel [5, 6, 7] rfl rfl hs) ?_)
 refine t_cons rfl fun T14 hT14 => ?_
 refine cX (twin_c ts tsA tsC hlen) (ha_at 7 rfl rfl <| ha_nil) rfl fun y15 hy16 => ?_
 obtain ⟨a17, c18⟩ := y15
 change RJ _ _ _ _ _ ((_, (Value.agg (TrackV.cells (TrackV.mk (Slc.mk a17 ts.length c18))).toArray)) :: _) ((own a17 c18 77 9 (ts.map StretchV.cells)) :: _)
 refine r_nil (hT14 _ _ (fun w hs => St.sel [6, 7, 8] rfl rfl hs) ?_)
 refine t_cons rfl fun T19 hT19 => ?_
 refine SW5 rfl ts24 rfl ?_
 refine r_nil (hT19 _ _ (fun w hs => St.sel [6, 7, 8] rfl rfl hs) ?_)
 refine t_cons rfl fun T20 hT20 => ?_
 refine SW4 rfl ts24 rfl ?_
 refine r_nil (hT20 _ _ (fun w hs => St.sel [6, 7, 8] rfl rfl hs) ?_)
 refine t_cons rfl fun T21 hT21 => ?_
 refine SW3 rfl ts28 rfl ?_
 refine r_nil (hT21 _ _ (fun w hs => St.sel [6, 7, 8] rfl rfl hs) ?_)
 refine t_cons rfl fun T22 hT22 => ?_
 refine SW2 rfl ts28 rfl ?_
 refine r_nil (hT22 _ _ (fun w hs => St.sel [6, 7, 8] rfl rfl hs) ?_)
 refine t_fin rfl ?_
 refine KK hK8 ?_
 refine w_seq fun _ hK23 => ?_
 refine WS fun _ hK24 => ?_
 refine rS (FA 0 rfl fo24_0 rfl) ?_
 refine rS (L1 (Value.slice tsA ts.length tsC) 7 rfl tk22 rfl rfl) ?_
 rw [show (own a12 c13 77 9 (ts.map StretchV.cells)) = (own a12 c13 77 9 ((limM false ts 0 0).map StretchV.cells)) from by rw [limM_start]]
 rw [show (own a17 c18 77 9 (ts.map StretchV.cells)) = (own a17 c18 77 9 ((limM true ts 0 0).map StretchV.cells)) from by rw [limM_start]]
 refine rS (LN rfl ut22) ?_
 refine rS (MV rfl) ?_
 refine RK hK24 ?_
 refine w_block ?_
 have hinit : (0 ≤ ts.length) := by exact Nat.zero_le _
 refine w_loop (ι := { z : Nat // (z ≤ ts.length) }) (fun z => [(2, (Value.pointer (some ⟨b2, 0, none⟩))), (3, (Value.pointer (some ⟨b3, 0, none⟩))), (4, (Value.pointer (some ⟨b4, 0, none⟩))), (5, (Value.pointer (some ⟨b5, 0, none⟩))), (6, (Value.pointer (some ⟨b6, 0, none⟩))), (7, (Value.pointer (some ⟨b7, 0, none⟩))), (19, (Value.slice tsA ts.length tsC)), (20, (Value.int .i64 ((ts.length : Nat) : Int))), (21, (Value.int .i64 ((z.1 : Nat) : Int)))]) (fun z => [(own a17 c18 77 9 ((limM true ts z.1 0).map StretchV.cells)), (own a12 c13 77 9 ((limM false ts z.1 0).map StretchV.cells)), (blk b7 28 (SledV.cells s)), (blk b6 28 (SledV.cells s)), (blk b5 24 (TrackV.cells (TrackV.mk (Slc.mk a17 ts.length c18)))), (blk b4 24 (TrackV.cells (TrackV.mk (Slc.mk a12 ts.length c13)))), (blk b3 28 (SledV.cells s)), (blk b2 24 (TrackV.cells (TrackV.mk (Slc.mk tsA ts.length tsC)))), (rd tsA ts.length 9 (ts.map StretchV.cells)).ro]) (fun z => ts.length - z.1) ⟨0, hinit⟩ (Sub.cons rfl <| Sub.cons rfl <| Sub.cons rfl <| Sub.cons rfl <| Sub.cons rfl <| Sub.cons rfl <| Sub.cons rfl <| Sub.cons rfl <| Sub.cons rfl <| Sub.nil _) (fun w hs => St.sel [0, 1, 2, 3, 4, 5, 6, 7, 8] rfl rfl hs) ?_
 clear hinit
 rintro ⟨i, hl3_0⟩ J25 hJ25
 change WJ _ _ _ _ [(2, (Value.pointer (some ⟨b2, 0, none⟩))), (3, (Value.pointer (some ⟨b3, 0, none⟩))), (4, (Value.pointer (some ⟨b4, 0, none⟩))), (5, (Value.pointer (some ⟨b5, 0, none⟩))), (6, (Value.pointer (some ⟨b6, 0, none⟩))), (7, (Value.pointer (some ⟨b7, 0, none⟩))), (19, (Value.slice tsA ts.length tsC)), (20, (Value.int .i64 ((ts.length : Nat) : Int))), (21, (Value.int .i64 ((i : Nat) : Int)))] [(own a17 c18 77 9 ((limM true ts i 0).map StretchV.cells)), (own a12 c13 77 9 ((limM false ts i 0).map StretchV.cells)), (blk b7 28 (SledV.cells s)), (blk b6 28 (SledV.cells s)), (blk b5 24 (TrackV.cells (TrackV.mk (Slc.mk a17 ts.length c18)))), (blk b4 24 (TrackV.cells (TrackV.mk (Slc.mk a12 ts.length c13)))), (blk b3 28 (SledV.cells s)), (blk b2 24 (TrackV.cells (TrackV.mk (Slc.mk tsA ts.length tsC)))), (rd tsA ts.length 9 (ts.map StretchV.cells)).ro]
 refine WS fun _ hK26 => ?_
 refine rS (BI rfl b_lss) ?_
 refine RK hK26 ?_
 refine w_seq fun _ hK27 => ?_
 refine w_if rfl (fun h28 => ?_) (fun h28 => ?_)
 rotate_left 1
 · replace h28 := DF h28
   refine w_exit ?_
   refine k_exit_then ?_
   refine k_exit_then ?_
   refine k_exit_same ?_
   refine KK hK23 ?_
   refine w_seq fun _ hK60 => ?_
   refine w_draw mixed 15 (by kernel_rfl) ?_
   obtain rfl : i = ts.length := by omega
   rw [show (own a12 c13 77 9 ((limM false ts ts.length 0).map StretchV.cells)) = (own a12 c13 77 9 ((limT false ts).map StretchV.cells)) from by rw [limM_end]]
   rw [show (own a17 c18 77 9 ((limM true ts ts.length 0).map StretchV.cells)) = (own a17 c18 77 9 ((limT true ts).map StretchV.cells)) from by rw [limM_end]]
   refine dS (FA 1 rfl fo28_1 rfl) ?_
   refine dS (FA 1 rfl fo26_0 rfl) ?_
   refine dS (L1 (Value.int .i64 s.Start.Lo) 6 rfl tk3 rfl rfl) ?_
   refine dS (FA 1 rfl fo28_1 rfl) ?_
   refine dS (FA 1 rfl fo26_0 rfl) ?_
   refine dS (L1 (Value.int .i64 s.Start.Lo) 6 rfl tk3 rfl rfl) ?_
   refine dS (CL (lspan_c s.Start.Lo s.Start.Lo) (ha_nil) rfl) ?_
   refine dS (FA 1 rfl fo28_1 rfl) ?_
   refine dS (FA 2 rfl fo26_1 rfl) ?_
   refine dS (L1 (Value.int .i64 s.Start.Hi) 6 rfl tk3 rfl rfl) ?_
   refine dS (FA 1 rfl fo28_1 rfl) ?_
   refine dS (FA 2 rfl fo26_1 rfl) ?_
   refine dS (L1 (Value.int .i64 s.Start.Hi) 6 rfl tk3 rfl rfl) ?_
   refine dS (CL (lspan_c s.Start.Hi s.Start.Hi) (ha_nil) rfl) ?_
   refine dS (FA 1 rfl fo28_1 rfl) ?_
   refine d_end ?_
   refine ST3 (SledV.cells (SledV.mk s.Class (SpanV.mk s.Start.Lo s.Start.Lo) s.Rub s.Drag s.Weight s.Steer)) rfl ts26 rfl rfl ?_
   refine rS (FA 1 rfl fo28_1 rfl) ?_
   refine ST2 (SledV.cells (SledV.mk s.Class (SpanV.mk s.Start.Hi s.Start.Hi) s.Rub s.Drag s.Weight s.Steer)) rfl ts26 rfl rfl ?_
   refine RK hK60 ?_
   refine w_seq fun _ hK61 => ?_
   refine w_draw mixed 15 (by kernel_rfl) ?_
   refine dS (FA 3 rfl fo28_2 rfl) ?_
   refine dS (FA 4 rfl fo26_1 rfl) ?_
   refine dS (L1 (Value.int .i64 s.Rub.Hi) 6 rfl tk3 rfl rfl) ?_
   refine dS (FA 3 rfl fo28_2 rfl) ?_
   refine dS (FA 4 rfl fo26_1 rfl) ?_
   refine dS (L1 (Value.int .i64 s.Rub.Hi) 6 rfl tk3 rfl rfl) ?_
   refine dS (CL (lspan_c s.Rub.Hi s.Rub.Hi) (ha_nil) rfl) ?_
   refine dS (FA 3 rfl fo28_2 rfl) ?_
   refine dS (FA 3 rfl fo26_0 rfl) ?_
   refine dS (L1 (Value.int .i64 s.Rub.Lo) 6 rfl tk3 rfl rfl) ?_
   refine dS (FA 3 rfl fo28_2 rfl) ?_
   refine dS (FA 3 rfl fo26_0 rfl) ?_
   refine dS (L1 (Value.int .i64 s.Rub.Lo) 6 rfl tk3 rfl rfl) ?_
   refine dS (CL (lspan_c s.Rub.Lo s.Rub.Lo) (ha_nil) rfl) ?_
   refine dS (FA 3 rfl fo28_2 rfl) ?_
   refine d_end ?_
   refine ST3 (SledV.cells (SledV.mk s.Class (SpanV.mk s.Start.Lo s.Start.Lo) (SpanV.mk s.Rub.Hi s.Rub.Hi) s.Drag s.Weight s.Steer)) rfl ts26 rfl rfl ?_
   refine rS (FA 3 rfl fo28_2 rfl) ?_
   refine ST2 (SledV.cells (SledV.mk s.Class (SpanV.mk s.Start.Hi s.Start.Hi) (SpanV.mk s.Rub.Lo s.Rub.Lo) s.Drag s.Weight s.Steer)) rfl ts26 rfl rfl ?_
   refine RK hK61 ?_
   refine w_seq fun _ hK62 => ?_
   refine w_draw mixed 15 (by kernel_rfl) ?_
   refine dS (FA 5 rfl fo28_3 rfl) ?_
   refine dS (FA 6 rfl fo26_1 rfl) ?_
   refine dS (L1 (Value.int .i64 s.Drag.Hi) 6 rfl tk3 rfl rfl) ?_
   refine dS (FA 5 rfl fo28_3 rfl) ?_
   refine dS (FA 6 rfl fo26_1 rfl) ?_
   refine dS (L1 (Value.int .i64 s.Drag.Hi) 6 rfl tk3 rfl rfl) ?_
   refine dS (CL (lspan_c s.Drag.Hi s.Drag.Hi) (ha_nil) rfl) ?_
   refine dS (FA 5 rfl fo28_3 rfl) ?_
   refine dS (FA 5 rfl fo26_0 rfl) ?_
   refine dS (L1 (Value.int .i64 s.Drag.Lo) 6 rfl tk3 rfl rfl) ?_
   refine dS (FA 5 rfl fo28_3 rfl) ?_
   refine dS (FA 5 rfl fo26_0 rfl) ?_
   refine dS (L1 (Value.int .i64 s.Drag.Lo) 6 rfl tk3 rfl rfl) ?_
   refine dS (CL (lspan_c s.Drag.Lo s.Drag.Lo) (ha_nil) rfl) ?_
   refine dS (FA 5 rfl fo28_3 rfl) ?_
   refine d_end ?_
   refine ST3 (SledV.cells (SledV.mk s.Class (SpanV.mk s.Start.Lo s.Start.Lo) (SpanV.mk s.Rub.Hi s.Rub.Hi) (SpanV.mk s.Drag.Hi s.Drag.Hi) s.Weight s.Steer)) rfl ts26 rfl rfl ?_
   refine rS (FA 5 rfl fo28_3 rfl) ?_
   refine ST2 (SledV.cells (SledV.mk s.Class (SpanV.mk s.Start.Hi s.Start.Hi) (SpanV.mk s.Rub.Lo s.Rub.Lo) (SpanV.mk s.Drag.Lo s.Drag.Lo) s.Weight s.Steer)) rfl ts26 rfl rfl ?_
   refine RK hK62 ?_
   refine w_seq fun _ hK63 => ?_
   refine w_draw mixed 15 (by kernel_rfl) ?_
   refine dS (FA 7 rfl fo28_4 rfl) ?_
   refine dS (FA 7 rfl fo26_0 rfl) ?_
   refine dS (L1 (Value.int .i64 s.Weight.Lo) 6 rfl tk3 rfl rfl) ?_
   refine dS (FA 7 rfl fo28_4 rfl) ?_
   refine dS (FA 7 rfl fo26_0 rfl) ?_
   refine dS (L1 (Value.int .i64 s.Weight.Lo) 6 rfl tk3 rfl rfl) ?_
   refine dS (CL (lspan_c s.Weight.Lo s.Weight.Lo) (ha_nil) rfl) ?_
   refine dS (FA 7 rfl fo28_4 rfl) ?_
   refine dS (FA 8 rfl fo26_1 rfl) ?_
   refine dS (L1 (Value.int .i64 s.Weight.Hi) 6 rfl tk3 rfl rfl) ?_
   refine dS (FA 7 rfl fo28_4 rfl) ?_
   refine dS (FA 8 rfl fo26_1 rfl) ?_
   refine dS (L1 (Value.int .i64 s.Weight.Hi) 6 rfl tk3 rfl rfl) ?_
   refine dS (CL (lspan_c s.Weight.Hi s.Weight.Hi) (ha_nil) rfl) ?_
   refine dS (FA 7 rfl fo28_4 rfl) ?_
   refine d_end ?_
   refine ST3 (SledV.cells (SledV.mk s.Class (SpanV.mk s.Start.Lo s.Start.Lo) (SpanV.mk s.Rub.Hi s.Rub.Hi) (SpanV.mk s.Drag.Hi s.Drag.Hi) (SpanV.mk s.Weight.Lo s.Weight.Lo) s.Steer)) rfl ts26 rfl rfl ?_
   refine rS (FA 7 rfl fo28_4 rfl) ?_
   refine ST2 (SledV.cells (SledV.mk s.Class (SpanV.mk s.Start.Hi s.Start.Hi) (SpanV.mk s.Rub.Lo s.Rub.Lo) (SpanV.mk s.Drag.Lo s.Drag.Lo) (SpanV.mk s.Weight.Hi s.Weight.Hi) s.Steer)) rfl ts26 rfl rfl ?_
   refine RK hK63 ?_
   refine w_seq fun _ hK64 => ?_
   refine w_draw mixed 15 (by kernel_rfl) ?_
   refine dS (FA 9 rfl fo28_5 rfl) ?_
   refine dS (FA 9 rfl fo26_0 rfl) ?_
   refine dS (L1 (Value.int .i64 s.Steer.Lo) 6 rfl tk3 rfl rfl) ?_
   refine dS (FA 9 rfl fo28_5 rfl) ?_
   refine dS (FA 9 rfl fo26_0 rfl) ?_
   refine dS (L1 (Value.int .i64 s.Steer.Lo) 6 rfl tk3 rfl rfl) ?_
   refine dS (CL (lspan_c s.Steer.Lo s.Steer.Lo) (ha_nil) rfl) ?_
   refine dS (FA 9 rfl fo28_5 rfl) ?_
   refine dS (FA 10 rfl fo26_1 rfl) ?_
   refine dS (L1 (Value.int .i64 s.Steer.Hi) 6 rfl tk3 rfl rfl) ?_
   refine dS (FA 9 rfl fo28_5 rfl) ?_
   refine dS (FA 10 rfl fo26_1 rfl) ?_
   refine dS (L1 (Value.int .i64 s.Steer.Hi) 6 rfl tk3 rfl rfl) ?_
   refine dS (CL (lspan_c s.Steer.Hi s.Steer.Hi) (ha_nil) rfl) ?_
   refine dS (FA 9 rfl fo28_5 rfl) ?_
   refine d_end ?_
   refine ST3 (SledV.cells (SledV.mk s.Class (SpanV.mk s.Start.Lo s.Start.Lo) (SpanV.mk s.Rub.Hi s.Rub.Hi) (SpanV.mk s.Drag.Hi s.Drag.Hi) (SpanV.mk s.Weight.Lo s.Weight.Lo) (SpanV.mk s.Steer.Lo s.Steer.Lo))) rfl ts26 rfl rfl ?_
   refine rS (FA 9 rfl fo28_5 rfl) ?_
   refine ST2 (SledV.cells (SledV.mk s.Class (SpanV.mk s.Start.Hi s.Start.Hi) (SpanV.mk s.Rub.Lo s.Rub.Lo) (SpanV.mk s.Drag.Lo s.Drag.Lo) (SpanV.mk s.Weight.Hi s.Weight.Hi) (SpanV.mk s.Steer.Hi s.Steer.Hi))) rfl ts26 rfl rfl ?_
   refine RK hK64 ?_
   refine w_seq fun _ hK65 => ?_
   have hb66 : (TrackV.cells (TrackV.mk (Slc.mk a12 ts.length c13))) = (TrackV.cells (TrackV.mk (Slc.mk a12 ((limT false ts).length) c13))) := by simp
   rw [hb66]
   have hb67 : (TrackV.cells (TrackV.mk (Slc.mk a17 ts.length c18))) = (TrackV.cells (TrackV.mk (Slc.mk a17 ((limT true ts).length) c18))) := by simp
   rw [hb67]
   refine w_draw4 mixed [0, 1, 2, 3] [4, 5, 6, 7] [false, false, false, false] [false, false, false, false] [(own a17 c18 77 9 ((limT true ts).map StretchV.cells)), (own a12 c13 77 9 ((limT false ts).map StretchV.cells)), (blk b7 28 (SledV.cells (SledV.mk s.Class (SpanV.mk s.Start.Hi s.Start.Hi) (SpanV.mk s.Rub.Lo s.Rub.Lo) (SpanV.mk s.Drag.Lo s.Drag.Lo) (SpanV.mk s.Weight.Hi s.Weight.Hi) (SpanV.mk s.Steer.Hi s.Steer.Hi)))), (blk b6 28 (SledV.cells (SledV.mk s.Class (SpanV.mk s.Start.Lo s.Start.Lo) (SpanV.mk s.Rub.Hi s.Rub.Hi) (SpanV.mk s.Drag.Hi s.Drag.Hi) (SpanV.mk s.Weight.Lo s.Weight.Lo) (SpanV.mk s.Steer.Lo s.Steer.Lo)))), (blk b5 24 (TrackV.cells (TrackV.mk (Slc.mk a17 ((limT true ts).length) c18)))), (blk b4 24 (TrackV.cells (TrackV.mk (Slc.mk a12 ((limT false ts).length) c13)))), (blk b3 28 (SledV.cells s)), (blk b2 24 (TrackV.cells (TrackV.mk (Slc.mk tsA ts.length tsC)))), (rd tsA ts.length 9 (ts.map StretchV.cells)).ro] [] (by kernel_rfl) (fun w hs => St.sel [0, 1, 2, 3, 4, 5, 6, 7, 8] rfl rfl hs) (fun w hs => St.sel [] rfl rfl hs) ?_
   refine eS rfl (LW 5 rfl tk24 rfl rfl) ?_
   refine eS rfl (LW 4 rfl tk24 rfl rfl) ?_
   refine eS rfl (LW 3 rfl tk28 rfl rfl) ?_
   refine eS rfl (LW 2 rfl tk28 rfl rfl) ?_
   refine d_fin rfl ?_
   refine t_cons rfl fun T68 hT68 => ?_
   refine SW5 rfl ts24 rfl ?_
   refine r_nil (hT68 _ _ (fun w hs => St.sel [0, 1, 2, 3, 4, 5, 6, 7, 8] rfl rfl hs) ?_)
   refine t_cons rfl fun T69 hT69 => ?_
   refine SW4 rfl ts24 rfl ?_
   refine r_nil (hT69 _ _ (fun w hs => St.sel [0, 1, 2, 3, 4, 5, 6, 7, 8] rfl rfl hs) ?_)
   refine t_cons rfl fun T70 hT70 => ?_
   refine SW3 rfl ts28 rfl ?_
   refine r_nil (hT70 _ _ (fun w hs => St.sel [0, 1, 2, 3, 4, 5, 6, 7, 8] rfl rfl hs) ?_)
   refine t_cons rfl fun T71 hT71 => ?_
   refine SW2 rfl ts28 rfl ?_
   refine r_nil (hT71 _ _ (fun w hs => St.sel [0, 1, 2, 3, 4, 5, 6, 7, 8] rfl rfl hs) ?_)
   refine t_fin rfl ?_
   refine KK hK65 ?_
   refine w_ret ?_
   refine hQ _ _ _ (l_nil (vs := [(Value.agg (TrackV.cells (TrackV.mk (Slc.mk a12 ((limT false ts).length) c13))).toArray), (Value.agg (TrackV.cells (TrackV.mk (Slc.mk a17 ((limT true ts).length) c18))).toArray), (Value.agg (SledV.cells (SledV.mk s.Class (SpanV.mk s.Start.Lo s.Start.Lo) (SpanV.mk s.Rub.Hi s.Rub.Hi) (SpanV.mk s.Drag.Hi s.Drag.Hi) (SpanV.mk s.Weight.Lo s.Weight.Lo) (SpanV.mk s.Steer.Lo s.Steer.Lo))).toArray), (Value.agg (SledV.cells (SledV.mk s.Class (SpanV.mk s.Start.Hi s.Start.Hi) (SpanV.mk s.Rub.Lo s.Rub.Lo) (SpanV.mk s.Drag.Lo s.Drag.Lo) (SpanV.mk s.Weight.Hi s.Weight.Hi) (SpanV.mk s.Steer.Hi s.Steer.Hi))).toArray)]) ⟨⟨_, rfl, .inl ⟨_, _, tk24, at_blk (vs := (TrackV.cells (TrackV.mk (Slc.mk a12 ((limT false ts).length) c13)))) 5 rfl rfl, rfl, rfl⟩⟩, ⟨_, rfl, .inl ⟨_, _, tk24, at_blk (vs := (TrackV.cells (TrackV.mk (Slc.mk a17 ((limT true ts).length) c18)))) 4 rfl rfl, rfl, rfl⟩⟩, ⟨_, rfl, .inl ⟨_, _, tk28, at_blk (vs := (SledV.cells (SledV.mk s.Class (SpanV.mk s.Start.Lo s.Start.Lo) (SpanV.mk s.Rub.Hi s.Rub.Hi) (SpanV.mk s.Drag.Hi s.Drag.Hi) (SpanV.mk s.Weight.Lo s.Weight.Lo) (SpanV.mk s.Steer.Lo s.Steer.Lo)))) 3 rfl rfl, rfl, rfl⟩⟩, ⟨_, rfl, .inl ⟨_, _, tk28, at_blk (vs := (SledV.cells (SledV.mk s.Class (SpanV.mk s.Start.Hi s.Start.Hi) (SpanV.mk s.Rub.Lo s.Rub.Lo) (SpanV.mk s.Drag.Lo s.Drag.Lo) (SpanV.mk s.Weight.Hi s.Weight.Hi) (SpanV.mk s.Steer.Hi s.Steer.Hi)))) 2 rfl rfl, rfl, rfl⟩⟩, trivial⟩ fun w hs => endX (a12, c13, a17, c18) [1, 0] ?_ ?_ rfl rfl rfl hs)
   · rfl
   · trivial
 replace h28 := DT h28
 refine WK hK27 ?_
 refine w_seq fun _ hK29 => ?_
 refine w_block ?_
 refine WS fun _ hK30 => ?_
 refine rS (MV rfl) ?_
 obtain ⟨x, hx⟩ : ∃ y_, ts[i]? = some y_ := ⟨ts[i]'(by omega), List.getElem?_eq_getElem _⟩
 have hxm : (ts.map StretchV.cells)[i]? = some (StretchV.cells x) := by rw [List.getElem?_map, hx]; rfl
 refine rS (IA i rfl (has_at 8 rfl) te22 (by decide) (by omega) (by omega)) ?_
 refine rS (LEN i 0 (StretchV.cells x) rfl tk77 (has_at 8 rfl) hxm rfl (by decide) rfl rfl) ?_
 refine AL rfl tz77 fun b31 => ?_
 refine rS (AG rfl) ?_
 refine SW0 rfl ts77 rfl ?_
 refine RK hK30 ?_
 refine w_seq fun _ hK32 => ?_
 refine w_draw mixed 10 (by kernel_rfl) ?_
 have hl1 := limM_length (best := false) (ts := ts) (i := i) (k := 0)
 refine dS (FA 0 rfl fo24_0 rfl) ?_
 refine dS (L1 (Value.slice a12 ts.length c13) 6 rfl tk22 rfl rfl) ?_
 refine dS (MV rfl) ?_
 obtain ⟨z, hz⟩ : ∃ y_, (limM false ts i 0)[i]? = some y_ := ⟨(limM false ts i 0)[i]'(by first | omega | (simp; omega)), List.getElem?_eq_getElem _⟩
 have hzm : ((limM false ts i 0).map StretchV.cells)[i]? = some (StretchV.cells z) := by rw [List.getElem?_map, hz]; rfl
 refine dS (IA i rfl (has_own_n (n := ts.length) 2 rfl (by first | (simp; done) | (simp; omega))) te22 (by decide) (by omega) (by omega)) ?_
 have hl2 := limM_length (best := true) (ts := ts) (i := i) (k := 0)
 refine dS (FA 0 rfl fo24_0 rfl) ?_
 refine dS (L1 (Value.slice a17 ts.length c18) 5 rfl tk22 rfl rfl) ?_
 refine dS (MV rfl) ?_
 obtain ⟨y, hy⟩ : ∃ y_, (limM true ts i 0)[i]? = some y_ := ⟨(limM true ts i 0)[i]'(by first | omega | (simp; omega)), List.getElem?_eq_getElem _⟩
 have hym : ((limM true ts i 0).map StretchV.cells)[i]? = some (StretchV.cells y) := by rw [List.getElem?_map, hy]; rfl
 refine dS (IA i rfl (has_own_n (n := ts.length) 1 rfl (by first | (simp; done) | (simp; omega))) te22 (by decide) (by omega) (by omega)) ?_
 refine dS (AG rfl) ?_
 refine dS (AG rfl) ?_
 refine d_end ?_
 refine RK hK32 ?_
 refine w_seq fun _ hK33 => ?_
 refine w_own_some 2 rfl (by simp; omega) (fun ad34 ha35 => ?_)
 refine w_own_some 1 rfl (by simp; omega) (fun ad36 ha37 => ?_)
 refine w_draw4 mixed [0, 1, 2, 3, 4, 5, 6, 7, 8, 9, 10, 11, 12, 13, 14, 15, 16, 17, 19, 20] [18, 21] [false, false, false, false, false, false, false, false, false, false, false, false, false, false, false, false, false, false, false, false] [false, false] [(blk b31 77 (StretchV.cells x)), (blk b7 28 (SledV.cells s)), (blk b6 28 (SledV.cells s)), (blk b5 24 (TrackV.cells (TrackV.mk (Slc.mk a17 ts.length c18)))), (blk b4 24 (TrackV.cells (TrackV.mk (Slc.mk a12 ts.length c13)))), (blk b3 28 (SledV.cells s)), (blk b2 24 (TrackV.cells (TrackV.mk (Slc.mk tsA ts.length tsC)))), (rd tsA ts.length 9 (ts.map StretchV.cells)).ro] [] (by kernel_rfl) (fun w hs => St.sel [0, 3, 4, 5, 6, 7, 8, 9] rfl rfl hs) (fun w hs => St.sel [] rfl rfl hs) ?_
 refine eS rfl (MV rfl) ?_
 refine eS rfl (MV rfl) ?_
 refine eS rfl (FA 1 rfl fo77_1 rfl) ?_
 refine eS rfl (FA 2 rfl fo26_1 rfl) ?_
 refine eS rfl (L1 (Value.int .i64 x.Long.Hi) 0 rfl tk3 rfl rfl) ?_
 refine eS rfl (FA 1 rfl fo77_1 rfl) ?_
 refine eS rfl (FA 2 rfl fo26_1 rfl) ?_
 refine eS rfl (L1 (Value.int .i64 x.Long.Hi) 0 rfl tk3 rfl rfl) ?_
 refine eS rfl (CL (lspan_c x.Long.Hi x.Long.Hi) (ha_nil) rfl) ?_
 refine eS rfl (FA 1 rfl fo77_1 rfl) ?_
 refine eS rfl (FA 1 rfl fo26_0 rfl) ?_
 refine eS rfl (L1 (Value.int .i64 x.Long.Lo) 0 rfl tk3 rfl rfl) ?_
 refine eS rfl (FA 1 rfl fo77_1 rfl) ?_
 refine eS rfl (FA 1 rfl fo26_0 rfl) ?_
 refine eS rfl (L1 (Value.int .i64 x.Long.Lo) 0 rfl tk3 rfl rfl) ?_
 refine eS rfl (CL (lspan_c x.Long.Lo x.Long.Lo) (ha_nil) rfl) ?_
 refine eS rfl (SX (sd_nil_pd rfl rfl ha35) rfl rfl) ?_
 refine eS rfl (FAP ((i * 9) + 1) rfl ha35 fo77_1 rfl) ?_
 refine eS rfl (SX (sd_nil_pd rfl rfl ha37) rfl rfl) ?_
 refine eS rfl (FAP ((i * 9) + 1) rfl ha37 fo77_1 rfl) ?_
 refine d_fin rfl ?_
 refine t_cons rfl fun T38 hT38 => ?_
 have hb39 : ((limM false ts i 0).set i (StretchV.mk z.Id (SpanV.mk x.Long.Hi x.Long.Hi) z.Fall z.Radius z.Side z.Wall)) = (limM false ts i 1) := by exact (limM_set hx (by rw [limM_at hx hz]; rfl))
 refine r_store_own (k := i) (o := 1) (vs := (SpanV.cells (SpanV.mk x.Long.Hi x.Long.Hi))) (es' := (List.map StretchV.cells (limM false ts i 1))) (C' := [_, _, (own a12 c13 77 9 (List.map StretchV.cells (limM false ts i 1))), _, _, _, _, _, _, _]) 2 rfl rfl rfl ts26 rfl rfl rfl rfl hzm rfl (by decide) (by exact (List.map_set (f := StretchV.cells) (l := (limM false ts i 0)) (i := i) (a := (StretchV.mk z.Id (SpanV.mk x.Long.Hi x.Long.Hi) z.Fall z.Radius z.Side z.Wall))).symm.trans (congrArg _ hb39)) rfl ?_
 refine r_nil (hT38 _ _ (fun w hs => St.sel [0, 3, 4, 5, 6, 7, 8, 9] rfl rfl hs) ?_)
 refine t_cons rfl fun T40 hT40 => ?_
 have hb41 : ((limM true ts i 0).set i (StretchV.mk y.Id (SpanV.mk x.Long.Lo x.Long.Lo) y.Fall y.Radius y.Side y.Wall)) = (limM true ts i 1) := by exact (limM_set hx (by rw [limM_at hx hy]; rfl))
 refine r_store_own (k := i) (o := 1) (vs := (SpanV.cells (SpanV.mk x.Long.Lo x.Long.Lo))) (es' := (List.map StretchV.cells (limM true ts i 1))) (C' := [_, (own a17 c18 77 9 (List.map StretchV.cells (limM true ts i 1))), _, _, _, _, _, _, _, _]) 1 rfl rfl rfl ts26 rfl rfl rfl rfl hym rfl (by decide) (by exact (List.map_set (f := StretchV.cells) (l := (limM true ts i 0)) (i := i) (a := (StretchV.mk y.Id (SpanV.mk x.Long.Lo x.Long.Lo) y.Fall y.Radius y.Side y.Wall))).symm.trans (congrArg _ hb41)) rfl ?_
 refine r_nil (hT40 _ _ (fun w hs => St.sel [0, 3, 4, 5, 6, 7, 8, 9] rfl rfl hs) ?_)
 refine t_fin rfl ?_
 refine KK hK33 ?_
 refine w_seq fun _ hK42 => ?_
 refine w_own_some 2 rfl (by simp; omega) (fun ad43 ha44 => ?_)
 refine w_own_some 1 rfl (by simp; omega) (fun ad45 ha46 => ?_)
 refine w_draw4 mixed [0, 1, 2, 3, 4, 5, 6, 7, 8, 9, 10, 11, 12, 13, 14, 15, 16, 17, 19, 20] [18, 21] [false, false, false, false, false, false, false, false, false, false, false, false, false, false, false, false, false, false, false, false] [false, false] [(blk b31 77 (StretchV.cells x)), (blk b7 28 (SledV.cells s)), (blk b6 28 (SledV.cells s)), (blk b5 24 (TrackV.cells (TrackV.mk (Slc.mk a17 ts.length c18)))), (blk b4 24 (TrackV.cells (TrackV.mk (Slc.mk a12 ts.length c13)))), (blk b3 28 (SledV.cells s)), (blk b2 24 (TrackV.cells (TrackV.mk (Slc.mk tsA ts.length tsC)))), (rd tsA ts.length 9 (ts.map StretchV.cells)).ro] [] (by kernel_rfl) (fun w hs => St.sel [0, 3, 4, 5, 6, 7, 8, 9] rfl rfl hs) (fun w hs => St.sel [] rfl rfl hs) ?_
 refine eS rfl (MV rfl) ?_
 refine eS rfl (MV rfl) ?_
 refine eS rfl (FA 3 rfl fo77_2 rfl) ?_
 refine eS rfl (FA 3 rfl fo26_0 rfl) ?_
 refine eS rfl (L1 (Value.int .i64 x.Fall.Lo) 0 rfl tk3 rfl rfl) ?_
 refine eS rfl (FA 3 rfl fo77_2 rfl) ?_
 refine eS rfl (FA 3 rfl fo26_0 rfl) ?_
 refine eS rfl (L1 (Value.int .i64 x.Fall.Lo) 0 rfl tk3 rfl rfl) ?_
 refine eS rfl (CL (lspan_c x.Fall.Lo x.Fall.Lo) (ha_nil) rfl) ?_
 refine eS rfl (FA 3 rfl fo77_2 rfl) ?_
 refine eS rfl (FA 4 rfl fo26_1 rfl) ?_
 refine eS rfl (L1 (Value.int .i64 x.Fall.Hi) 0 rfl tk3 rfl rfl) ?_
 refine eS rfl (FA 3 rfl fo77_2 rfl) ?_
 refine eS rfl (FA 4 rfl fo26_1 rfl) ?_
 refine eS rfl (L1 (Value.int .i64 x.Fall.Hi) 0 rfl tk3 rfl rfl) ?_
 refine eS rfl (CL (lspan_c x.Fall.Hi x.Fall.Hi) (ha_nil) rfl) ?_
 refine eS rfl (SX (sd_nil_pd rfl rfl ha44) rfl rfl) ?_
 refine eS rfl (FAP ((i * 9) + 3) rfl ha44 fo77_2 rfl) ?_
 refine eS rfl (SX (sd_nil_pd rfl rfl ha46) rfl rfl) ?_
 refine eS rfl (FAP ((i * 9) + 3) rfl ha46 fo77_2 rfl) ?_
 refine d_fin rfl ?_
 refine t_cons rfl fun T47 hT47 => ?_
 obtain ⟨z, hz⟩ : ∃ y_, (limM false ts i 1)[i]? = some y_ := ⟨(limM false ts i 1)[i]'(by first | omega | (simp; omega)), List.getElem?_eq_getElem _⟩
 have hzm : (List.map StretchV.cells (limM false ts i 1))[i]? = some (StretchV.cells z) := by rw [List.getElem?_map, hz]; rfl
 have hb48 : ((limM false ts i 1).set i (StretchV.mk z.Id z.Long (SpanV.mk x.Fall.Lo x.Fall.Lo) z.Radius z.Side z.Wall)) = (limM false ts i 2) := by exact (limM_set hx (by rw [limM_at hx hz]; rfl))
 refine r_store_own (k := i) (o := 3) (vs := (SpanV.cells (SpanV.mk x.Fall.Lo x.Fall.Lo))) (es' := (List.map StretchV.cells (limM false ts i 2))) (C' := [_, _, (own a12 c13 77 9 (List.map StretchV.cells (limM false ts i 2))), _, _, _, _, _, _, _]) 2 rfl rfl rfl ts26 rfl rfl rfl rfl hzm rfl (by decide) (by exact (List.map_set (f := StretchV.cells) (l := (limM false ts i 1)) (i := i) (a := (StretchV.mk z.Id z.Long (SpanV.mk x.Fall.Lo x.Fall.Lo) z.Radius z.Side z.Wall))).symm.trans (congrArg _ hb48)) rfl ?_
 refine r_nil (hT47 _ _ (fun w hs => St.sel [0, 3, 4, 5, 6, 7, 8, 9] rfl rfl hs) ?_)
 refine t_cons rfl fun T49 hT49 => ?_
 obtain ⟨y, hy⟩ : ∃ y_, (limM true ts i 1)[i]? = some y_ := ⟨(limM true ts i 1)[i]'(by first | omega | (simp; omega)), List.getElem?_eq_getElem _⟩
 have hym : (List.map StretchV.cells (limM true ts i 1))[i]? = some (StretchV.cells y) := by rw [List.getElem?_map, hy]; rfl
 have hb50 : ((limM true ts i 1).set i (StretchV.mk y.Id y.Long (SpanV.mk x.Fall.Hi x.Fall.Hi) y.Radius y.Side y.Wall)) = (limM true ts i 2) := by exact (limM_set hx (by rw [limM_at hx hy]; rfl))
 refine r_store_own (k := i) (o := 3) (vs := (SpanV.cells (SpanV.mk x.Fall.Hi x.Fall.Hi))) (es' := (List.map StretchV.cells (limM true ts i 2))) (C' := [_, (own a17 c18 77 9 (List.map StretchV.cells (limM true ts i 2))), _, _, _, _, _, _, _, _]) 1 rfl rfl rfl ts26 rfl rfl rfl rfl hym rfl (by decide) (by exact (List.map_set (f := StretchV.cells) (l := (limM true ts i 1)) (i := i) (a := (StretchV.mk y.Id y.Long (SpanV.mk x.Fall.Hi x.Fall.Hi) y.Radius y.Side y.Wall))).symm.trans (congrArg _ hb50)) rfl ?_
 refine r_nil (hT49 _ _ (fun w hs => St.sel [0, 3, 4, 5, 6, 7, 8, 9] rfl rfl hs) ?_)
 refine t_fin rfl ?_
 refine KK hK42 ?_
 refine w_own_some 2 rfl (by simp; omega) (fun ad51 ha52 => ?_)
 refine w_own_some 1 rfl (by simp; omega) (fun ad53 ha54 => ?_)
 refine w_draw4 mixed [0, 1, 2, 3, 4, 5, 6, 7, 8, 9, 10, 11, 12, 13, 14, 15, 16, 17, 19, 20] [18, 21] [false, false, false, false, false, false, false, false, false, false, false, false, false, false, false, false, false, false, false, false] [false, false] [(blk b31 77 (StretchV.cells x)), (blk b7 28 (SledV.cells s)), (blk b6 28 (SledV.cells s)), (blk b5 24 (TrackV.cells (TrackV.mk (Slc.mk a17 ts.length c18)))), (blk b4 24 (TrackV.cells (TrackV.mk (Slc.mk a12 ts.length c13)))), (blk b3 28 (SledV.cells s)), (blk b2 24 (TrackV.cells (TrackV.mk (Slc.mk tsA ts.length tsC)))), (rd tsA ts.length 9 (ts.map StretchV.cells)).ro] [] (by kernel_rfl) (fun w hs => St.sel [0, 3, 4, 5, 6, 7, 8, 9] rfl rfl hs) (fun w hs => St.sel [] rfl rfl hs) ?_
 refine eS rfl (MV rfl) ?_
 refine eS rfl (MV rfl) ?_
 refine eS rfl (FA 5 rfl fo77_3 rfl) ?_
 refine eS rfl (FA 6 rfl fo26_1 rfl) ?_
 refine eS rfl (L1 (Value.int .i64 x.Radius.Hi) 0 rfl tk3 rfl rfl) ?_
 refine eS rfl (FA 5 rfl fo77_3 rfl) ?_
 refine eS rfl (FA 6 rfl fo26_1 rfl) ?_
 refine eS rfl (L1 (Value.int .i64 x.Radius.Hi) 0 rfl tk3 rfl rfl) ?_
 refine eS rfl (CL (lspan_c x.Radius.Hi x.Radius.Hi) (ha_nil) rfl) ?_
 refine eS rfl (FA 5 rfl fo77_3 rfl) ?_
 refine eS rfl (FA 5 rfl fo26_0 rfl) ?_
 refine eS rfl (L1 (Value.int .i64 x.Radius.Lo) 0 rfl tk3 rfl rfl) ?_
 refine eS rfl (FA 5 rfl fo77_3 rfl) ?_
 refine eS rfl (FA 5 rfl fo26_0 rfl) ?_
 refine eS rfl (L1 (Value.int .i64 x.Radius.Lo) 0 rfl tk3 rfl rfl) ?_
 refine eS rfl (CL (lspan_c x.Radius.Lo x.Radius.Lo) (ha_nil) rfl) ?_
 refine eS rfl (SX (sd_nil_pd rfl rfl ha52) rfl rfl) ?_
 refine eS rfl (FAP ((i * 9) + 5) rfl ha52 fo77_3 rfl) ?_
 refine eS rfl (SX (sd_nil_pd rfl rfl ha54) rfl rfl) ?_
 refine eS rfl (FAP ((i * 9) + 5) rfl ha54 fo77_3 rfl) ?_
 refine d_fin rfl ?_
 refine t_cons rfl fun T55 hT55 => ?_
 obtain ⟨z, hz⟩ : ∃ y_, (limM false ts i 2)[i]? = some y_ := ⟨(limM false ts i 2)[i]'(by first | omega | (simp; omega)), List.getElem?_eq_getElem _⟩
 have hzm : (List.map StretchV.cells (limM false ts i 2))[i]? = some (StretchV.cells z) := by rw [List.getElem?_map, hz]; rfl
 have hb56 : ((limM false ts i 2).set i (StretchV.mk z.Id z.Long z.Fall (SpanV.mk x.Radius.Hi x.Radius.Hi) z.Side z.Wall)) = (limM false ts (i + 1) 0) := by exact (limM_set hx (by rw [limM_at hx hz]; rfl)).trans limM_next
 refine r_store_own (k := i) (o := 5) (vs := (SpanV.cells (SpanV.mk x.Radius.Hi x.Radius.Hi))) (es' := (List.map StretchV.cells (limM false ts (i + 1) 0))) (C' := [_, _, (own a12 c13 77 9 (List.map StretchV.cells (limM false ts (i + 1) 0))), _, _, _, _, _, _, _]) 2 rfl rfl rfl ts26 rfl rfl rfl rfl hzm rfl (by decide) (by exact (List.map_set (f := StretchV.cells) (l := (limM false ts i 2)) (i := i) (a := (StretchV.mk z.Id z.Long z.Fall (SpanV.mk x.Radius.Hi x.Radius.Hi) z.Side z.Wall))).symm.trans (congrArg _ hb56)) rfl ?_
 refine r_nil (hT55 _ _ (fun w hs => St.sel [0, 3, 4, 5, 6, 7, 8, 9] rfl rfl hs) ?_)
 refine t_cons rfl fun T57 hT57 => ?_
 obtain ⟨y, hy⟩ : ∃ y_, (limM true ts i 2)[i]? = some y_ := ⟨(limM true ts i 2)[i]'(by first | omega | (simp; omega)), List.getElem?_eq_getElem _⟩
 have hym : (List.map StretchV.cells (limM true ts i 2))[i]? = some (StretchV.cells y) := by rw [List.getElem?_map, hy]; rfl
 have hb58 : ((limM true ts i 2).set i (StretchV.mk y.Id y.Long y.Fall (SpanV.mk x.Radius.Lo x.Radius.Lo) y.Side y.Wall)) = (limM true ts (i + 1) 0) := by exact (limM_set hx (by rw [limM_at hx hy]; rfl)).trans limM_next
 refine r_store_own (k := i) (o := 5) (vs := (SpanV.cells (SpanV.mk x.Radius.Lo x.Radius.Lo))) (es' := (List.map StretchV.cells (limM true ts (i + 1) 0))) (C' := [_, (own a17 c18 77 9 (List.map StretchV.cells (limM true ts (i + 1) 0))), _, _, _, _, _, _, _, _]) 1 rfl rfl rfl ts26 rfl rfl rfl rfl hym rfl (by decide) (by exact (List.map_set (f := StretchV.cells) (l := (limM true ts i 2)) (i := i) (a := (StretchV.mk y.Id y.Long y.Fall (SpanV.mk x.Radius.Lo x.Radius.Lo) y.Side y.Wall))).symm.trans (congrArg _ hb58)) rfl ?_
 refine r_nil (hT57 _ _ (fun w hs => St.sel [0, 3, 4, 5, 6, 7, 8, 9] rfl rfl hs) ?_)
 refine t_fin rfl ?_
 refine k_block ?_
 refine KK hK29 ?_
 refine w_region ?_
 refine rS (BI rfl (b_add ⟨by omega, by omega⟩)) ?_
 refine rS (MV rfl) ?_
 refine r_nil ?_
 have hb59 : (Value.int .i64 (((i + 1) : Nat) : Int)) = (Value.int .i64 (((i : Nat) : Int) + 1)) := by exact congrArg (Value.int .i64) (by omega)
 refine k_then (hJ25 ⟨(i + 1), (by first | omega | (simp only []; omega))⟩ _ _ _ rfl (by first | omega | (simp; omega)) (Sub.cons rfl <| Sub.cons rfl <| Sub.cons rfl <| Sub.cons rfl <| Sub.cons rfl <| Sub.cons rfl <| Sub.cons rfl <| Sub.cons rfl <| sub_val rfl hb59 <| Sub.nil _) (fun w hs => St.sel [1, 2, 3, 4, 5, 6, 7, 8, 9] rfl rfl hs))

end Go.Proofs.Ytpbgdeojcefnmaa
