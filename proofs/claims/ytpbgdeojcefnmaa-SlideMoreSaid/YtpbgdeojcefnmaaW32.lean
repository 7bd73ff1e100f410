/-
  Walks: kreisel/kreisellaw03.wider, kreisel/kreisellaw03.SlideMore
-/
import Derived.Test.YtpbgdeojcefnmaaTab
import Derived.Test.YtpbgdeojcefnmaaShort
import Derived.Test.YtpbgdeojcefnmaaThr
import Derived.Test.YtpbgdeojcefnmaaMono
import Derived.Test.YtpbgdeojcefnmaaSafe
import Derived.Test.YtpbgdeojcefnmaaAlive
import Derived.Test.YtpbgdeojcefnmaaWithin
import Derived.Test.YtpbgdeojcefnmaaShut
import Derived.Test.YtpbgdeojcefnmaaStart
import Derived.Test.YtpbgdeojcefnmaaWalls
import Derived.Test.YtpbgdeojcefnmaaEnds
import Derived.Test.YtpbgdeojcefnmaaIn
import Derived.Test.YtpbgdeojcefnmaaW3
import Derived.Test.YtpbgdeojcefnmaaW10
import Derived.Test.YtpbgdeojcefnmaaW13
import Derived.Test.YtpbgdeojcefnmaaW14
import Derived.Test.YtpbgdeojcefnmaaW22
namespace Go.Proofs.Ytpbgdeojcefnmaa
open Go.RowKit
set_option linter.unusedVariables false

set_option maxRecDepth 100000 in
set_option maxHeartbeats 400000 in
theorem wider_c (s : SledV) (q : Int) (n : Int) (hs : SledOk s) (hw : 0 ≤ q ∧ q ≤ 255) (hn : 0 ≤ n ∧ n ≤ 400) :
    FnV Try.prog 47 [(Value.agg (SledV.cells s).toArray), (Value.int .i64 q), (Value.int .i64 n)] [] (Value.agg (SledV.cells (laxF s q n)).toArray) := by
 have z1 := hs.2.1
 have z2 := hs.2.2.1
 have z3 := hs.2.2.2.1
 have z4 := hs.2.2.2.2.1
 have z5 := hs.2.2.2.2.2
 simp only [SpanOk] at z1 z2 z3 z4 z5
 refine fnV_of go47 Try.func47 rfl rfl fun w0 Q hQ hN => ?_
 change WJ _ _ _ _ [(0, (Value.agg (SledV.cells s).toArray)), (1, (Value.int .i64 q)), (2, (Value.int .i64 n))] []
 refine WS fun _ hK1 => ?_
 refine BXA rfl fun b2 => ?_
 refine AL rfl tz28 fun b3 => ?_
 refine RK hK1 ?_
 refine WS fun _ hK4 => ?_
 refine rS (FA 1 rfl fo28_1 rfl) ?_
 refine rS (FA 3 rfl fo28_2 rfl) ?_
 refine rS (FA 5 rfl fo28_3 rfl) ?_
 refine rS (FA 7 rfl fo28_4 rfl) ?_
 refine rS (FA 9 rfl fo28_5 rfl) ?_
 refine r_bs (xs := [.tmp 9, .tmp 10, .tmp 11, .tmp 12, .tmp 13]) (cs := [(Value.pointer (some ⟨b2, 1, none⟩)), (Value.pointer (some ⟨b2, 3, none⟩)), (Value.pointer (some ⟨b2, 5, none⟩)), (Value.pointer (some ⟨b2, 7, none⟩)), (Value.pointer (some ⟨b2, 9, none⟩))]) rfl te132 tz131 rfl rfl rfl rfl (by simp [Value.cells]) rfl rfl fun b5 => ?_
 refine rS (AG rfl) ?_
 refine RK hK4 ?_
 refine WS fun _ hK6 => ?_
 refine rS (MV rfl) ?_
 refine rS (MV rfl) ?_
 refine rS (MV rfl) ?_
 refine rS (LN rfl ut132) ?_
 refine rS (BI rfl (b_rem (by omega) (by omega))) ?_
 change RJ _ _ _ _ _ ((_, (Value.int .i64 (q % 5))) :: _) _
 rcases (show (q % 5) = 0 ∨ (q % 5) = 1 ∨ (q % 5) = 2 ∨ (q % 5) = 3 ∨ (q % 5) = 4 from by omega) with h19 | h19 | h19 | h19 | h19
 rotate_left 4
 · rw [h19]
   refine rS (IAB 4 4 rfl te132 rfl (by decide) rfl) ?_
   refine rS (L1 (Value.pointer (some ⟨b2, 9, none⟩)) 0 rfl tk131 rfl rfl) ?_
   refine rS (AG rfl) ?_
   refine RK hK6 ?_
   refine w_seq fun _ hK23 => ?_
   refine WS fun _ hK24 => ?_
   refine rS (MV rfl) ?_
   refine rS (BI rfl (b_quo (by omega) (by omega) (by omega))) ?_
   refine rS (BI rfl (b_rem (by omega) (by omega))) ?_
   refine rS (BI rfl b_eql) ?_
   refine RK hK24 ?_
   refine w_if rfl (fun h25 => ?_) (fun h25 => ?_)
   · replace h25 := DT h25
     refine w_region ?_
     refine rS (MV rfl) ?_
     refine rS (SX (sd_nil_p rfl rfl) rfl rfl) ?_
     refine rS (FA 9 rfl fo26_0 rfl) ?_
     refine rS (L1 (Value.int .i64 s.Steer.Lo) 2 rfl tk3 rfl rfl) ?_
     refine rS (MV rfl) ?_
     refine rS (BI rfl (b_sub ⟨by omega, by omega⟩)) ?_
     refine rS (SX (sd_nil_p rfl rfl) rfl rfl) ?_
     refine rS (FA 9 rfl fo26_0 rfl) ?_
     refine ST2 (SledV.cells (SledV.mk s.Class s.Start s.Rub s.Drag s.Weight (SpanV.mk (s.Steer.Lo - n) s.Steer.Hi))) rfl ts3 rfl rfl ?_
     refine RK hK23 ?_
     refine WS fun _ hK25 => ?_
     refine rS (LW 2 rfl tk28 rfl rfl) ?_
     refine SW1 rfl ts28 rfl ?_
     refine RK hK25 ?_
     refine w_ret ?_
     refine hQ _ _ _ (l_nil (vs := [(Value.agg (SledV.cells (SledV.mk s.Class s.Start s.Rub s.Drag s.Weight (SpanV.mk (s.Steer.Lo - n) s.Steer.Hi))).toArray)]) ⟨⟨_, rfl, .inl ⟨_, _, tk28, at_blk (vs := (SledV.cells (SledV.mk s.Class s.Start s.Rub s.Drag s.Weight (SpanV.mk (s.Steer.Lo - n) s.Steer.Hi)))) 1 rfl rfl, rfl, rfl⟩⟩, trivial⟩ fun w hs => endV ?_ hs)
     show (Value.agg (SledV.cells (SledV.mk s.Class s.Start s.Rub s.Drag s.Weight (SpanV.mk (s.Steer.Lo - n) s.Steer.Hi))).toArray) = (Value.agg (SledV.cells (laxF s q n)).toArray)
     clear hs w hQ hN hK25 hK24 hK23 hK6 hK4 hK1
     simp only [laxF, widF, h19, h25]
     first | rfl | (simp; done)
   replace h25 := DF h25
   refine w_region ?_
   refine rS (MV rfl) ?_
   refine rS (SX (sd_nil_p rfl rfl) rfl rfl) ?_
   refine rS (FA 10 rfl fo26_1 rfl) ?_
   refine rS (L1 (Value.int .i64 s.Steer.Hi) 2 rfl tk3 rfl rfl) ?_
   refine rS (MV rfl) ?_
   refine rS (BI rfl (b_add ⟨by omega, by omega⟩)) ?_
   refine rS (SX (sd_nil_p rfl rfl) rfl rfl) ?_
   refine rS (FA 10 rfl fo26_1 rfl) ?_
   refine ST2 (SledV.cells (SledV.mk s.Class s.Start s.Rub s.Drag s.Weight (SpanV.mk s.Steer.Lo (s.Steer.Hi + n)))) rfl ts3 rfl rfl ?_
   refine RK hK23 ?_
   refine WS fun _ hK26 => ?_
   refine rS (LW 2 rfl tk28 rfl rfl) ?_
   refine SW1 rfl ts28 rfl ?_
   refine RK hK26 ?_
   refine w_ret ?_
   refine hQ _ _ _ (l_nil (vs := [(Value.agg (SledV.cells (SledV.mk s.Class s.Start s.Rub s.Drag s.Weight (SpanV.mk s.Steer.Lo (s.Steer.Hi + n)))).toArray)]) ⟨⟨_, rfl, .inl ⟨_, _, tk28, at_blk (vs := (SledV.cells (SledV.mk s.Class s.Start s.Rub s.Drag s.Weight (SpanV.mk s.Steer.Lo (s.Steer.Hi + n))))) 1 rfl rfl, rfl, rfl⟩⟩, trivial⟩ fun w hs => endV ?_ hs)
   show (Value.agg (SledV.cells (SledV.mk s.Class s.Start s.Rub s.Drag s.Weight (SpanV.mk s.Steer.Lo (s.Steer.Hi + n)))).toArray) = (Value.agg (SledV.cells (laxF s q n)).toArray)
   clear hs w hQ hN hK26 hK24 hK23 hK6 hK4 hK1
   simp only [laxF, widF, h19, h25]
   first | rfl | (simp; done)
 · rw [h19]
   refine rS (IAB 0 0 rfl te132 rfl (by decide) rfl) ?_
   refine rS (L1 (Value.pointer (some ⟨b2, 1, none⟩)) 0 rfl tk131 rfl rfl) ?_
   refine rS (AG rfl) ?_
   refine RK hK6 ?_
   refine w_seq fun _ hK7 => ?_
   refine WS fun _ hK8 => ?_
   refine rS (MV rfl) ?_
   refine rS (BI rfl (b_quo (by omega) (by omega) (by omega))) ?_
   refine rS (BI rfl (b_rem (by omega) (by omega))) ?_
   refine rS (BI rfl b_eql) ?_
   refine RK hK8 ?_
   refine w_if rfl (fun h25 => ?_) (fun h25 => ?_)
   · replace h25 := DT h25
     refine w_region ?_
     refine rS (MV rfl) ?_
     refine rS (SX (sd_nil_p rfl rfl) rfl rfl) ?_
     refine rS (FA 1 rfl fo26_0 rfl) ?_
     refine rS (L1 (Value.int .i64 s.Start.Lo) 2 rfl tk3 rfl rfl) ?_
     refine rS (MV rfl) ?_
     refine rS (BI rfl (b_sub ⟨by omega, by omega⟩)) ?_
     refine rS (SX (sd_nil_p rfl rfl) rfl rfl) ?_
     refine rS (FA 1 rfl fo26_0 rfl) ?_
     refine ST2 (SledV.cells (SledV.mk s.Class (SpanV.mk (s.Start.Lo - n) s.Start.Hi) s.Rub s.Drag s.Weight s.Steer)) rfl ts3 rfl rfl ?_
     refine RK hK7 ?_
     refine WS fun _ hK9 => ?_
     refine rS (LW 2 rfl tk28 rfl rfl) ?_
     refine SW1 rfl ts28 rfl ?_
     refine RK hK9 ?_
     refine w_ret ?_
     refine hQ _ _ _ (l_nil (vs := [(Value.agg (SledV.cells (SledV.mk s.Class (SpanV.mk (s.Start.Lo - n) s.Start.Hi) s.Rub s.Drag s.Weight s.Steer)).toArray)]) ⟨⟨_, rfl, .inl ⟨_, _, tk28, at_blk (vs := (SledV.cells (SledV.mk s.Class (SpanV.mk (s.Start.Lo - n) s.Start.Hi) s.Rub s.Drag s.Weight s.Steer))) 1 rfl rfl, rfl, rfl⟩⟩, trivial⟩ fun w hs => endV ?_ hs)
     show (Value.agg (SledV.cells (SledV.mk s.Class (SpanV.mk (s.Start.Lo - n) s.Start.Hi) s.Rub s.Drag s.Weight s.Steer)).toArray) = (Value.agg (SledV.cells (laxF s q n)).toArray)
     clear hs w hQ hN hK9 hK8 hK7 hK6 hK4 hK1
     simp only [laxF, widF, h19, h25]
     first | rfl | (simp; done)
   replace h25 := DF h25
   refine w_region ?_
   refine rS (MV rfl) ?_
   refine rS (SX (sd_nil_p rfl rfl) rfl rfl) ?_
   refine rS (FA 2 rfl fo26_1 rfl) ?_
   refine rS (L1 (Value.int .i64 s.Start.Hi) 2 rfl tk3 rfl rfl) ?_
   refine rS (MV rfl) ?_
   refine rS (BI rfl (b_add ⟨by omega, by omega⟩)) ?_
   refine rS (SX (sd_nil_p rfl rfl) rfl rfl) ?_
   refine rS (FA 2 rfl fo26_1 rfl) ?_
   refine ST2 (SledV.cells (SledV.mk s.Class (SpanV.mk s.Start.Lo (s.Start.Hi + n)) s.Rub s.Drag s.Weight s.Steer)) rfl ts3 rfl rfl ?_
   refine RK hK7 ?_
   refine WS fun _ hK10 => ?_
   refine rS (LW 2 rfl tk28 rfl rfl) ?_
   refine SW1 rfl ts28 rfl ?_
   refine RK hK10 ?_
   refine w_ret ?_
   refine hQ _ _ _ (l_nil (vs := [(Value.agg (SledV.cells (SledV.mk s.Class (SpanV.mk s.Start.Lo (s.Start.Hi + n)) s.Rub s.Drag s.Weight s.Steer)).toArray)]) ⟨⟨_, rfl, .inl ⟨_, _, tk28, at_blk (vs := (SledV.cells (SledV.mk s.Class (SpanV.mk s.Start.Lo (s.Start.Hi + n)) s.Rub s.Drag s.Weight s.Steer))) 1 rfl rfl, rfl, rfl⟩⟩, trivial⟩ fun w hs => endV ?_ hs)
   show (Value.agg (SledV.cells (SledV.mk s.Class (SpanV.mk s.Start.Lo (s.Start.Hi + n)) s.Rub s.Drag s.Weight s.Steer)).toArray) = (Value.agg (SledV.cells (laxF s q n)).toArray)
   clear hs w hQ hN hK10 hK8 hK7 hK6 hK4 hK1
   simp only [laxF, widF, h19, h25]
   first | rfl | (simp; done)
 · rw [h19]
   refine rS (IAB 1 1 rfl te132 rfl (by decide) rfl) ?_
   refine rS (L1 (Value.pointer (some ⟨b2, 3, none⟩)) 0 rfl tk131 rfl rfl) ?_
   refine rS (AG rfl) ?_
   refine RK hK6 ?_
   refine w_seq fun _ hK11 => ?_
   refine WS fun _ hK12 => ?_
   refine rS (MV rfl) ?_
   refine rS (BI rfl (b_quo (by omega) (by omega) (by omega))) ?_
   refine rS (BI rfl (b_rem (by omega) (by omega))) ?_
   refine rS (BI rfl b_eql) ?_
   refine RK hK12 ?_
   refine w_if rfl (fun h25 => ?_) (fun h25 => ?_)
   rotate_left 1
   · replace h25 := DF h25
     refine w_region ?_
     refine rS (MV rfl) ?_
     refine rS (SX (sd_nil_p rfl rfl) rfl rfl) ?_
     refine rS (FA 4 rfl fo26_1 rfl) ?_
     refine rS (L1 (Value.int .i64 s.Rub.Hi) 2 rfl tk3 rfl rfl) ?_
     refine rS (MV rfl) ?_
     refine rS (BI rfl (b_add ⟨by omega, by omega⟩)) ?_
     refine rS (SX (sd_nil_p rfl rfl) rfl rfl) ?_
     refine rS (FA 4 rfl fo26_1 rfl) ?_
     refine ST2 (SledV.cells (SledV.mk s.Class s.Start (SpanV.mk s.Rub.Lo (s.Rub.Hi + n)) s.Drag s.Weight s.Steer)) rfl ts3 rfl rfl ?_
     refine RK hK11 ?_
     refine WS fun _ hK14 => ?_
     refine rS (LW 2 rfl tk28 rfl rfl) ?_
     refine SW1 rfl ts28 rfl ?_
     refine RK hK14 ?_
     refine w_ret ?_
     refine hQ _ _ _ (l_nil (vs := [(Value.agg (SledV.cells (SledV.mk s.Class s.Start (SpanV.mk s.Rub.Lo (s.Rub.Hi + n)) s.Drag s.Weight s.Steer)).toArray)]) ⟨⟨_, rfl, .inl ⟨_, _, tk28, at_blk (vs := (SledV.cells (SledV.mk s.Class s.Start (SpanV.mk s.Rub.Lo (s.Rub.Hi + n)) s.Drag s.Weight s.Steer))) 1 rfl rfl, rfl, rfl⟩⟩, trivial⟩ fun w hs => endV ?_ hs)
     show (Value.agg (SledV.cells (SledV.mk s.Class s.Start (SpanV.mk s.Rub.Lo (s.Rub.Hi + n)) s.Drag s.Weight s.Steer)).toArray) = (Value.agg (SledV.cells (laxF s q n)).toArray)
     clear hs w hQ hN hK14 hK12 hK11 hK6 hK4 hK1
     simp only [laxF, widF, h19, h25]
     first | rfl | (simp; done)
   replace h25 := DT h25
   refine w_region ?_
   refine rS (MV rfl) ?_
   refine rS (SX (sd_nil_p rfl rfl) rfl rfl) ?_
   refine rS (FA 3 rfl fo26_0 rfl) ?_
   refine rS (L1 (Value.int .i64 s.Rub.Lo) 2 rfl tk3 rfl rfl) ?_
   refine rS (MV rfl) ?_
   refine rS (BI rfl (b_sub ⟨by omega, by omega⟩)) ?_
   refine rS (SX (sd_nil_p rfl rfl) rfl rfl) ?_
   refine rS (FA 3 rfl fo26_0 rfl) ?_
   refine ST2 (SledV.cells (SledV.mk s.Class s.Start (SpanV.mk (s.Rub.Lo - n) s.Rub.Hi) s.Drag s.Weight s.Steer)) rfl ts3 rfl rfl ?_
   refine RK hK11 ?_
   refine WS fun _ hK13 => ?_
   refine rS (LW 2 rfl tk28 rfl rfl) ?_
   refine SW1 rfl ts28 rfl ?_
   refine RK hK13 ?_
   refine w_ret ?_
   refine hQ _ _ _ (l_nil (vs := [(Value.agg (SledV.cells (SledV.mk s.Class s.Start (SpanV.mk (s.Rub.Lo - n) s.Rub.Hi) s.Drag s.Weight s.Steer)).toArray)]) ⟨⟨_, rfl, .inl ⟨_, _, tk28, at_blk (vs := (SledV.cells (SledV.mk s.Class s.Start (SpanV.mk (s.Rub.Lo - n) s.Rub.Hi) s.Drag s.Weight s.Steer))) 1 rfl rfl, rfl, rfl⟩⟩, trivial⟩ fun w hs => endV ?_ hs)
   show (Value.agg (SledV.cells (SledV.mk s.Class s.Start (SpanV.mk (s.Rub.Lo - n) s.Rub.Hi) s.Drag s.Weight s.Steer)).toArray) = (Value.agg (SledV.cells (laxF s q n)).toArray)
   clear hs w hQ hN hK13 hK12 hK11 hK6 hK4 hK1
   simp only [laxF, widF, h19, h25]
   first | rfl | (simp; done)
 · rw [h19]
   refine rS (IAB 2 2 rfl te132 rfl (by decide) rfl) ?_
   refine rS (L1 (Value.pointer (some ⟨b2, 5, none⟩)) 0 rfl tk131 rfl rfl) ?_
   refine rS (AG rfl) ?_
   refine RK hK6 ?_
   refine w_seq fun _ hK15 => ?_
   refine WS fun _ hK16 => ?_
   refine rS (MV rfl) ?_
   refine rS (BI rfl (b_quo (by omega) (by omega) (by omega))) ?_
   refine rS (BI rfl (b_rem (by omega) (by omega))) ?_
   refine rS (BI rfl b_eql) ?_
   refine RK hK16 ?_
   refine w_if rfl (fun h25 => ?_) (fun h25 => ?_)
   rotate_left 1
   · replace h25 := DF h25
     refine w_region ?_
     refine rS (MV rfl) ?_
     refine rS (SX (sd_nil_p rfl rfl) rfl rfl) ?_
     refine rS (FA 6 rfl fo26_1 rfl) ?_
     refine rS (L1 (Value.int .i64 s.Drag.Hi) 2 rfl tk3 rfl rfl) ?_
     refine rS (MV rfl) ?_
     refine rS (BI rfl (b_add ⟨by omega, by omega⟩)) ?_
     refine rS (SX (sd_nil_p rfl rfl) rfl rfl) ?_
     refine rS (FA 6 rfl fo26_1 rfl) ?_
     refine ST2 (SledV.cells (SledV.mk s.Class s.Start s.Rub (SpanV.mk s.Drag.Lo (s.Drag.Hi + n)) s.Weight s.Steer)) rfl ts3 rfl rfl ?_
     refine RK hK15 ?_
     refine WS fun _ hK18 => ?_
     refine rS (LW 2 rfl tk28 rfl rfl) ?_
     refine SW1 rfl ts28 rfl ?_
     refine RK hK18 ?_
     refine w_ret ?_
     refine hQ _ _ _ (l_nil (vs := [(Value.agg (SledV.cells (SledV.mk s.Class s.Start s.Rub (SpanV.mk s.Drag.Lo (s.Drag.Hi + n)) s.Weight s.Steer)).toArray)]) ⟨⟨_, rfl, .inl ⟨_, _, tk28, at_blk (vs := (SledV.cells (SledV.mk s.Class s.Start s.Rub (SpanV.mk s.Drag.Lo (s.Drag.Hi + n)) s.Weight s.Steer))) 1 rfl rfl, rfl, rfl⟩⟩, trivial⟩ fun w hs => endV ?_ hs)
     show (Value.agg (SledV.cells (SledV.mk s.Class s.Start s.Rub (SpanV.mk s.Drag.Lo (s.Drag.Hi + n)) s.Weight s.Steer)).toArray) = (Value.agg (SledV.cells (laxF s q n)).toArray)
     clear hs w hQ hN hK18 hK16 hK15 hK6 hK4 hK1
     simp only [laxF, widF, h19, h25]
     first | rfl | (simp; done)
   replace h25 := DT h25
   refine w_region ?_
   refine rS (MV rfl) ?_
   refine rS (SX (sd_nil_p rfl rfl) rfl rfl) ?_
   refine rS (FA 5 rfl fo26_0 rfl) ?_
   refine rS (L1 (Value.int .i64 s.Drag.Lo) 2 rfl tk3 rfl rfl) ?_
   refine rS (MV rfl) ?_
   refine rS (BI rfl (b_sub ⟨by omega, by omega⟩)) ?_
   refine rS (SX (sd_nil_p rfl rfl) rfl rfl) ?_
   refine rS (FA 5 rfl fo26_0 rfl) ?_
   refine ST2 (SledV.cells (SledV.mk s.Class s.Start s.Rub (SpanV.mk (s.Drag.Lo - n) s.Drag.Hi) s.Weight s.Steer)) rfl ts3 rfl rfl ?_
   refine RK hK15 ?_
   refine WS fun _ hK17 => ?_
   refine rS (LW 2 rfl tk28 rfl rfl) ?_
   refine SW1 rfl ts28 rfl ?_
   refine RK hK17 ?_
   refine w_ret ?_
   refine hQ _ _ _ (l_nil (vs := [(Value.agg (SledV.cells (SledV.mk s.Class s.Start s.Rub (SpanV.mk (s.Drag.Lo - n) s.Drag.Hi) s.Weight s.Steer)).toArray)]) ⟨⟨_, rfl, .inl ⟨_, _, tk28, at_blk (vs := (SledV.cells (SledV.mk s.Class s.Start s.Rub (SpanV.mk (s.Drag.Lo - n) s.Drag.Hi) s.Weight s.Steer))) 1 rfl rfl, rfl, rfl⟩⟩, trivial⟩ fun w hs => endV ?_ hs)
   show (Value.agg (SledV.cells (SledV.mk s.Class s.Start s.Rub (SpanV.mk (s.Drag.Lo - n) s.Drag.Hi) s.Weight s.Steer)).toArray) = (Value.agg (SledV.cells (laxF s q n)).toArray)
   clear hs w hQ hN hK17 hK16 hK15 hK6 hK4 hK1
   simp only [laxF, widF, h19, h25]
   first | rfl | (simp; done)
 rw [h19]
 refine rS (IAB 3 3 rfl te132 rfl (by decide) rfl) ?_
 refine rS (L1 (Value.pointer (some ⟨b2, 7, none⟩)) 0 rfl tk131 rfl rfl) ?_
 refine rS (AG rfl) ?_
 refine RK hK6 ?_
 refine w_seq fun _ hK19 => ?_
 refine WS fun _ hK20 => ?_
 refine rS (MV rfl) ?_
 refine rS (BI rfl (b_quo (by omega) (by omega) (by omega))) ?_
 refine rS (BI rfl (b_rem (by omega) (by omega))) ?_
 refine rS (BI rfl b_eql) ?_
 refine RK hK20 ?_
 refine w_if rfl (fun h25 => ?_) (fun h25 => ?_)
 rotate_left 1
 · replace h25 := DF h25
   refine w_region ?_
   refine rS (MV rfl) ?_
   refine rS (SX (sd_nil_p rfl rfl) rfl rfl) ?_
   refine rS (FA 8 rfl fo26_1 rfl) ?_
   refine rS (L1 (Value.int .i64 s.Weight.Hi) 2 rfl tk3 rfl rfl) ?_
   refine rS (MV rfl) ?_
   refine rS (BI rfl (b_add ⟨by omega, by omega⟩)) ?_
   refine rS (SX (sd_nil_p rfl rfl) rfl rfl) ?_
   refine rS (FA 8 rfl fo26_1 rfl) ?_
   refine ST2 (SledV.cells (SledV.mk s.Class s.Start s.Rub s.Drag (SpanV.mk s.Weight.Lo (s.Weight.Hi + n)) s.Steer)) rfl ts3 rfl rfl ?_
   refine RK hK19 ?_
   refine WS fun _ hK22 => ?_
   refine rS (LW 2 rfl tk28 rfl rfl) ?_
   refine SW1 rfl ts28 rfl ?_
   refine RK hK22 ?_
   refine w_ret ?_
   refine hQ _ _ _ (l_nil (vs := [(Value.agg (SledV.cells (SledV.mk s.Class s.Start s.Rub s.Drag (SpanV.mk s.Weight.Lo (s.Weight.Hi + n)) s.Steer)).toArray)]) ⟨⟨_, rfl, .inl ⟨_, _, tk28, at_blk (vs := (SledV.cells (SledV.mk s.Class s.Start s.Rub s.Drag (SpanV.mk s.Weight.Lo (s.Weight.Hi + n)) s.Steer))) 1 rfl rfl, rfl, rfl⟩⟩, trivial⟩ fun w hs => endV ?_ hs)
   show (Value.agg (SledV.cells (SledV.mk s.Class s.Start s.Rub s.Drag (SpanV.mk s.Weight.Lo (s.Weight.Hi + n)) s.Steer)).toArray) = (Value.agg (SledV.cells (laxF s q n)).toArray)
   clear hs w hQ hN hK22 hK20 hK19 hK6 hK4 hK1
   simp only [laxF, widF, h19, h25]
   first | rfl | (simp; done)
 replace h25 := DT h25
 refine w_region ?_
 refine rS (MV rfl) ?_
 refine rS (SX (sd_nil_p rfl rfl) rfl rfl) ?_
 refine rS (FA 7 rfl fo26_0 rfl) ?_
 refine rS (L1 (Value.int .i64 s.Weight.Lo) 2 rfl tk3 rfl rfl) ?_
 refine rS (MV rfl) ?_
 refine rS (BI rfl (b_sub ⟨by omega, by omega⟩)) ?_
 refine rS (SX (sd_nil_p rfl rfl) rfl rfl) ?_
 refine rS (FA 7 rfl fo26_0 rfl) ?_
 refine ST2 (SledV.cells (SledV.mk s.Class s.Start s.Rub s.Drag (SpanV.mk (s.Weight.Lo - n) s.Weight.Hi) s.Steer)) rfl ts3 rfl rfl ?_
 refine RK hK19 ?_
 refine WS fun _ hK21 => ?_
 refine rS (LW 2 rfl tk28 rfl rfl) ?_
 refine SW1 rfl ts28 rfl ?_
 refine RK hK21 ?_
 refine w_ret ?_
 refine hQ _ _ _ (l_nil (vs := [(Value.agg (SledV.cells (SledV.mk s.Class s.Start s.Rub s.Drag (SpanV.mk (s.Weight.Lo - n) s.Weight.Hi) s.Steer)).toArray)]) ⟨⟨_, rfl, .inl ⟨_, _, tk28, at_blk (vs := (SledV.cells (SledV.mk s.Class s.Start s.Rub s.Drag (SpanV.mk (s.Weight.Lo - n) s.Weight.Hi) s.Steer))) 1 rfl rfl, rfl, rfl⟩⟩, trivial⟩ fun w hs => endV ?_ hs)
 show (Value.agg (SledV.cells (SledV.mk s.Class s.Start s.Rub s.Drag (SpanV.mk (s.Weight.Lo - n) s.Weight.Hi) s.Steer)).toArray) = (Value.agg (SledV.cells (laxF s q n)).toArray)
 clear hs w hQ hN hK21 hK20 hK19 hK6 hK4 hK1
 simp only [laxF, widF, h19, h25]
 first | rfl | (simp; done)

set_option maxRecDepth 100000 in
set_option maxHeartbeats 400000 in
theorem slideMore_c (ts : List StretchV) (tsA : Option Addr) (tsC : Nat) (s : SledV) (q : Int) (by_ : Int) (hside : ∀ x ∈ ts, 0 ≤ x.Side ∧ x.Side ≤ 255) (hc : 0 ≤ s.Class ∧ s.Class ≤ 255) (hw : 0 ≤ q ∧ q ≤ 255) (hby : 0 ≤ by_ ∧ by_ ≤ 65535) :
    FnV Try.prog 8 [(Value.agg (TrackV.cells (TrackV.mk (Slc.mk tsA ts.length tsC))).toArray), (Value.agg (SledV.cells s).toArray), (Value.int .u8 q), (Value.int .u16 by_)] [(rd tsA ts.length 9 (ts.map StretchV.cells))] (Value.bool true) := by
 refine fnV_of go8 Try.func8 rfl rfl fun w0 Q hQ hN => ?_
 change WJ _ _ _ _ [(0, (Value.agg (TrackV.cells (TrackV.mk (Slc.mk tsA ts.length tsC))).toArray)), (1, (Value.agg (SledV.cells s).toArray)), (2, (Value.int .u8 q)), (3, (Value.int .u16 by_))] [(rd tsA ts.length 9 (ts.map StretchV.cells)).ro]
 refine WS fun _ hK1 => ?_
 refine BXA rfl fun b2 => ?_
 refine BXA rfl fun b3 => ?_
 refine rS (AG rfl) ?_
 refine RK hK1 ?_
 refine WS fun _ hK4 => ?_
 refine rS (CL alive_c (ha_nil) rfl) ?_
 refine rS (AG rfl) ?_
 refine RK hK4 ?_
 refine w_seq fun _ hK5 => ?_
 refine WS fun _ hK6 => ?_
 refine rS (LW 1 rfl tk24 rfl rfl) ?_
 refine rS (LW 0 rfl tk28 rfl rfl) ?_
 refine rS (CL (ready_c ts tsA tsC s hc) (ha_at 2 rfl rfl <| ha_nil) rfl) ?_
 refine rS (NT rfl) ?_
 refine rS (MV rfl) ?_
 refine r_bool (t := 37) rfl (fun hrd => ?_) (fun hrd => ?_)
 · replace hrd := XT hrd
   refine rS (OX rfl) ?_
   refine rS (OX rfl) ?_
   refine rS (PK rfl) ?_
   refine RK hK6 ?_
   refine w_if_true rfl ?_
   refine WS fun _ hK7 => ?_
   refine rS (MV rfl) ?_
   refine rS (AG rfl) ?_
   refine RK hK7 ?_
   refine w_ret ?_
   refine Q1 hQ rfl rfl rfl ?_
   first | rfl | (simp; done)
 replace hrd := XF hrd
 refine rS (MV rfl) ?_
 refine rS (NT rfl) ?_
 refine rS (PK rfl) ?_
 refine RK hK6 ?_
 refine w_if_false rfl ?_
 refine WK hK5 ?_
 refine WS fun _ hK8 => ?_
 obtain ⟨hgr, htr, hs⟩ := hrd
 have hb0 := bothE_ok htr hs
 have hst := trackOk_all htr
 have hl12 := trackOk_le htr
 have z1 := hs.2.1
 have z2 := hs.2.2.1
 have z3 := hs.2.2.2.1
 have z4 := hs.2.2.2.2.1
 have z5 := hs.2.2.2.2.2
 simp only [SpanOk] at z1 z2 z3 z4 z5
 refine rS (LW 1 rfl tk24 rfl rfl) ?_
 refine rS (LW 0 rfl tk28 rfl rfl) ?_
 refine cX (heads_c ts tsA tsC s (by first | assumption | omega | (simp; done) | (simp; omega)) hside) (ha_at 2 rfl rfl <| ha_nil) rfl fun y9 hy10 => ?_
 obtain ⟨a11, c12⟩ := y9
 change RJ _ _ _ _ _ ((_, (Value.tuple [(Value.slice a11 ((spansU s ts).length) c12), (Value.int .i64 (bothE s ts))].toArray)) :: _) ((own a11 c12 26 2 ((spansU s ts).map SpanV.cells)) :: _)
 rw [spansU_ok htr hs]
 rw [hb0]
 refine rS (MV rfl) ?_
 refine rS (EX rfl) ?_
 refine rS (EX rfl) ?_
 refine rS (AG rfl) ?_
 refine rS (AG rfl) ?_
 refine RK hK8 ?_
 refine w_seq fun _ hK13 => ?_
 refine WS fun _ hK14 => ?_
 have e0 := spansL_length (s := s) (ts := ts)
 have n0 : 0 ≤ (by_ % 400) ∧ (by_ % 400) < 400 := ⟨Int.emod_nonneg _ (by decide), Int.emod_lt_of_pos _ (by decide)⟩
 have n9 : 0 ≤ (by_ % 400) % 9 ∧ (by_ % 400) % 9 < 9 := ⟨Int.emod_nonneg _ (by decide), Int.emod_lt_of_pos _ (by decide)⟩
 have n99 : 0 ≤ (by_ % 400) % 99 ∧ (by_ % 400) % 99 < 99 := ⟨Int.emod_nonneg _ (by decide), Int.emod_lt_of_pos _ (by decide)⟩
 refine rS (MV rfl) ?_
 refine rS (SX (sd_bin (r := .bool false) rfl rfl rfl b_neq) rfl rfl) ?_
 refine rS (MV rfl) ?_
 refine rS (MV rfl) ?_
 refine rS (LN rfl ut31) ?_
 refine rS (FA 0 rfl fo24_0 rfl) ?_
 refine rS (L1 (Value.slice tsA ts.length tsC) 2 rfl tk22 rfl rfl) ?_
 refine rS (LN rfl ut22) ?_
 refine rS (BI rfl (b_add ⟨by omega, by omega⟩)) ?_
 refine rS (BI rfl b_neq) ?_
 refine rS (PK rfl) ?_
 refine RK hK14 ?_
 refine w_if rfl (fun h15 => ?_) (fun h15 => ?_)
 · replace h15 := XT h15
   exfalso; omega
 replace h15 := XF h15
 refine WK hK13 ?_
 refine WS fun _ hK16 => ?_
 refine rS (MV rfl) ?_
 refine rS (SX (sd_conv (m := by_) rfl rfl ut82 ut3 (wrap_u16_i64 (by first | assumption | omega))) rfl rfl) ?_
 refine rS (BI rfl (b_rem (by omega) (by omega))) ?_
 refine rS (AG rfl) ?_
 refine RK hK16 ?_
 refine w_seq fun _ hK17 => ?_
 refine w_drawN mixed [0, 1, 2, 3, 4, 5] [6, 7, 8, 9] [false, false, false, false, false, false] [] [(own a11 c12 26 2 ((spansL s ts).map SpanV.cells)), (blk b3 28 (SledV.cells s)), (blk b2 24 (TrackV.cells (TrackV.mk (Slc.mk tsA ts.length tsC)))), (rd tsA ts.length 9 (ts.map StretchV.cells)).ro] [] (by kernel_rfl) (fun w hs => St.sel [0, 1, 2, 3] rfl rfl hs) (fun w hs => St.sel [] rfl rfl hs) ?_
 refine eS rfl (LW 1 rfl tk28 rfl rfl) ?_
 refine eS rfl (LW 1 rfl tk28 rfl rfl) ?_
 refine eS rfl (MV rfl) ?_
 refine eS rfl (SX (sd_conv (m := q) rfl rfl ut5 ut3 (wrap_u8_i64 (by first | assumption | omega))) rfl rfl) ?_
 refine eS rfl (MV rfl) ?_
 refine eS rfl (CL (wider_c s q (by_ % 400) (by first | assumption | omega | (simp; done) | (simp; omega)) hw (by omega)) (ha_nil) rfl) ?_
 refine d_fin rfl ?_
 refine n_step [6, 7] (by kernel_rfl) (n_cons ?_ <| n_cons ?_ <| n_nil)
 · refine n_op (rem' := [7, 8, 9]) rfl (by kernel_rfl) rfl fun T18 hT18 => ?_
   refine AL rfl tz28 fun b19 => ?_
   refine r_nil (hT18 _ _ (fun w hs => St.sel [1, 2, 3, 4] rfl rfl hs) ?_)
   refine n_step [7] (by kernel_rfl) (n_cons ?_ <| n_nil)
   refine n_op (rem' := [8, 9]) rfl (by kernel_rfl) rfl fun T20 hT20 => ?_
   refine AL rfl tz28 fun b21 => ?_
   refine r_nil (hT20 _ _ (fun w hs => St.sel [2, 3, 4, 5] rfl rfl hs) ?_)
   refine n_step [8] (by kernel_rfl) (n_cons ?_ <| n_nil)
   refine n_op (rem' := [9]) rfl (by kernel_rfl) rfl fun T22 hT22 => ?_
   refine SW1 rfl ts28 rfl ?_
   refine r_nil (hT22 _ _ (fun w hs => St.sel [2, 3, 4, 5] rfl rfl hs) ?_)
   refine n_step [9] (by kernel_rfl) (n_cons ?_ <| n_nil)
   refine n_op (rem' := []) rfl (by kernel_rfl) rfl fun T23 hT23 => ?_
   refine SW0 rfl ts28 rfl ?_
   refine r_nil (hT23 _ _ (fun w hs => St.sel [2, 3, 4, 5] rfl rfl hs) ?_)
   refine n_fin ?_
   refine KK hK17 ?_
   refine w_join (ι := Unit) (fun z => [(2, (Value.int .u8 q)), (3, (Value.int .u16 by_)), (4, (Value.pointer (some ⟨b2, 0, none⟩))), (5, (Value.pointer (some ⟨b3, 0, none⟩))), (9, (Value.bool true)), (10, (Value.slice a11 ((spansL s ts).length) c12)), (12, (Value.int .i64 (by_ % 400))), (13, (Value.pointer (some ⟨b19, 0, none⟩))), (14, (Value.pointer (some ⟨b21, 0, none⟩)))]) (fun z => [(blk b21 28 (SledV.cells (laxF s q (by_ % 400)))), (blk b19 28 (SledV.cells (betF s q (by_ % 400)))), (own a11 c12 26 2 ((spansL s ts).map SpanV.cells)), (blk b3 28 (SledV.cells s)), (blk b2 24 (TrackV.cells (TrackV.mk (Slc.mk tsA ts.length tsC)))), (rd tsA ts.length 9 (ts.map StretchV.cells)).ro]) ?_ fun K24 hK24 => ?_
   · intro _
     change WJ _ _ _ _ [(2, (Value.int .u8 q)), (3, (Value.int .u16 by_)), (4, (Value.pointer (some ⟨b2, 0, none⟩))), (5, (Value.pointer (some ⟨b3, 0, none⟩))), (9, (Value.bool true)), (10, (Value.slice a11 ((spansL s ts).length) c12)), (12, (Value.int .i64 (by_ % 400))), (13, (Value.pointer (some ⟨b19, 0, none⟩))), (14, (Value.pointer (some ⟨b21, 0, none⟩)))] [(blk b21 28 (SledV.cells (laxF s q (by_ % 400)))), (blk b19 28 (SledV.cells (betF s q (by_ % 400)))), (own a11 c12 26 2 ((spansL s ts).map SpanV.cells)), (blk b3 28 (SledV.cells s)), (blk b2 24 (TrackV.cells (TrackV.mk (Slc.mk tsA ts.length tsC)))), (rd tsA ts.length 9 (ts.map StretchV.cells)).ro]
     refine w_join (ι := Unit) (fun z => [(2, (Value.int .u8 q)), (3, (Value.int .u16 by_)), (4, (Value.pointer (some ⟨b2, 0, none⟩))), (5, (Value.pointer (some ⟨b3, 0, none⟩))), (9, (Value.bool true)), (10, (Value.slice a11 ((spansL s ts).length) c12)), (12, (Value.int .i64 (by_ % 400))), (14, (Value.pointer (some ⟨b21, 0, none⟩)))]) (fun z => [(blk b21 28 (SledV.cells (laxF s q (by_ % 400)))), (own a11 c12 26 2 ((spansL s ts).map SpanV.cells)), (blk b3 28 (SledV.cells s)), (blk b2 24 (TrackV.cells (TrackV.mk (Slc.mk tsA ts.length tsC)))), (rd tsA ts.length 9 (ts.map StretchV.cells)).ro]) ?_ fun K25 hK25 => ?_
     · intro _
       change WJ _ _ _ _ [(2, (Value.int .u8 q)), (3, (Value.int .u16 by_)), (4, (Value.pointer (some ⟨b2, 0, none⟩))), (5, (Value.pointer (some ⟨b3, 0, none⟩))), (9, (Value.bool true)), (10, (Value.slice a11 ((spansL s ts).length) c12)), (12, (Value.int .i64 (by_ % 400))), (14, (Value.pointer (some ⟨b21, 0, none⟩)))] [(blk b21 28 (SledV.cells (laxF s q (by_ % 400)))), (own a11 c12 26 2 ((spansL s ts).map SpanV.cells)), (blk b3 28 (SledV.cells s)), (blk b2 24 (TrackV.cells (TrackV.mk (Slc.mk tsA ts.length tsC)))), (rd tsA ts.length 9 (ts.map StretchV.cells)).ro]
       refine WS fun _ hK26 => ?_
       refine rS (LW 3 rfl tk24 rfl rfl) ?_
       refine cX (twin_c ts tsA tsC (by first | assumption | omega | (simp; done) | (simp; omega))) (ha_at 4 rfl rfl <| ha_nil) rfl fun y27 hy28 => ?_
       obtain ⟨a29, c30⟩ := y27
       change RJ _ _ _ _ _ ((_, (Value.agg (TrackV.cells (TrackV.mk (Slc.mk a29 ts.length c30))).toArray)) :: _) ((own a29 c30 77 9 (ts.map StretchV.cells)) :: _)
       refine AL rfl tz24 fun b31 => ?_
       refine SW0 rfl ts24 rfl ?_
       refine RK hK26 ?_
       refine w_seq fun _ hK32 => ?_
       refine w_draw mixed 10 (by kernel_rfl) ?_
       have hl1 := trackOk_pos htr
       have wk0 := Int.emod_nonneg q (show (ts.length : Int) ≠ 0 by omega)
       have wk1 := Int.emod_lt_of_pos q (show 0 < (ts.length : Int) by omega)
       refine dS (FA 0 rfl fo24_0 rfl) ?_
       refine dS (L1 (Value.slice a29 ts.length c30) 0 rfl tk22 rfl rfl) ?_
       refine dS (MV rfl) ?_
       refine dS (SX (sd_conv (m := q) rfl rfl ut5 ut3 (wrap_u8_i64 (by first | assumption | omega))) rfl rfl) ?_
       refine dS (FA 0 rfl fo24_0 rfl) ?_
       refine dS (L1 (Value.slice tsA ts.length tsC) 5 rfl tk22 rfl rfl) ?_
       refine dS (LN rfl ut22) ?_
       refine dS (BI rfl (b_rem (by omega) (by omega))) ?_
       obtain ⟨x, hx⟩ : ∃ y_, ts[((q % ((ts.length : Nat) : Int))).toNat]? = some y_ := ⟨ts[((q % ((ts.length : Nat) : Int))).toNat]'(by omega), List.getElem?_eq_getElem _⟩
       have hxm : (ts.map StretchV.cells)[((q % ((ts.length : Nat) : Int))).toNat]? = some (StretchV.cells x) := by rw [List.getElem?_map, hx]; rfl
       refine dS (IA (((q % ((ts.length : Nat) : Int))).toNat) rfl (has_own_n (n := ts.length) 1 rfl (by simp)) te22 (by decide) (by omega) (by omega)) ?_
       refine dS (AG rfl) ?_
       refine d_end ?_
       refine RK hK32 ?_
       refine w_join (ι := Unit) (fun z => [(4, (Value.pointer (some ⟨b2, 0, none⟩))), (5, (Value.pointer (some ⟨b3, 0, none⟩))), (9, (Value.bool true)), (10, (Value.slice a11 ((spansL s ts).length) c12)), (14, (Value.pointer (some ⟨b21, 0, none⟩))), (18, (Value.pointer (some ⟨b31, 0, none⟩)))]) (fun z => [(blk b31 24 (TrackV.cells (TrackV.mk (Slc.mk a29 ts.length c30)))), (own a29 c30 77 9 ((wideT ts q (by_ % 400)).map StretchV.cells)), (blk b21 28 (SledV.cells (laxF s q (by_ % 400)))), (own a11 c12 26 2 ((spansL s ts).map SpanV.cells)), (blk b3 28 (SledV.cells s)), (blk b2 24 (TrackV.cells (TrackV.mk (Slc.mk tsA ts.length tsC)))), (rd tsA ts.length 9 (ts.map StretchV.cells)).ro]) ?_ fun K33 hK33 => ?_
       · intro _
         change WJ _ _ _ _ [(4, (Value.pointer (some ⟨b2, 0, none⟩))), (5, (Value.pointer (some ⟨b3, 0, none⟩))), (9, (Value.bool true)), (10, (Value.slice a11 ((spansL s ts).length) c12)), (14, (Value.pointer (some ⟨b21, 0, none⟩))), (18, (Value.pointer (some ⟨b31, 0, none⟩)))] [(blk b31 24 (TrackV.cells (TrackV.mk (Slc.mk a29 ts.length c30)))), (own a29 c30 77 9 ((wideT ts q (by_ % 400)).map StretchV.cells)), (blk b21 28 (SledV.cells (laxF s q (by_ % 400)))), (own a11 c12 26 2 ((spansL s ts).map SpanV.cells)), (blk b3 28 (SledV.cells s)), (blk b2 24 (TrackV.cells (TrackV.mk (Slc.mk tsA ts.length tsC)))), (rd tsA ts.length 9 (ts.map StretchV.cells)).ro]
         refine w_seq fun _ hK34 => ?_
         refine w_seq fun _ hK35 => ?_
         have hb36 : (TrackV.cells (TrackV.mk (Slc.mk a29 ts.length c30))) = (TrackV.cells (TrackV.mk (Slc.mk a29 ((wideT ts q (by_ % 400)).length) c30))) := by simp
         rw [hb36]
         refine w_region ?_
         refine rS (LW 5 rfl tk24 rfl rfl) ?_
         refine rS (LW 0 rfl tk24 rfl rfl) ?_
         refine r_bs (xs := [.tmp 211, .tmp 212]) (cs := ((TrackV.cells (TrackV.mk (Slc.mk tsA ts.length tsC))) ++ (TrackV.cells (TrackV.mk (Slc.mk a29 ((wideT ts q (by_ % 400)).length) c30))))) rfl te86 tz24 rfl rfl rfl rfl (by simp [Value.cells, TrackV.cells_length]) rfl rfl fun b37 => ?_
         refine rS (LN rfl ut86) ?_
         refine rS (MV rfl) ?_
         refine RK hK35 ?_
         refine w_block ?_
         refine w_rounds 3 ?_
         refine ro_succ fun R38 hR38 => ?_
         refine WS fun _ hK39 => ?_
         refine rS (SX (sd_bin (r := .bool true) rfl rfl rfl b_lss) rfl rfl) ?_
         refine RK hK39 ?_
         refine w_seq fun _ hK40 => ?_
         refine w_if_true rfl ?_
         refine WK hK40 ?_
         refine w_join (ι := Unit) (fun z => [(4, (Value.pointer (some ⟨b2, 0, none⟩))), (5, (Value.pointer (some ⟨b3, 0, none⟩))), (9, (Value.bool true)), (10, (Value.slice a11 ((spansL s ts).length) c12)), (14, (Value.pointer (some ⟨b21, 0, none⟩))), (213, (Value.slice (some ⟨b37, 0, none⟩) 2 2)), (214, (Value.int .i64 2)), (215, (Value.int .i64 0))]) (fun z => [(blk b37 24 ((TrackV.cells (TrackV.mk (Slc.mk tsA ts.length tsC))) ++ (TrackV.cells (TrackV.mk (Slc.mk a29 ((wideT ts q (by_ % 400)).length) c30))))), (own a29 c30 77 9 ((wideT ts q (by_ % 400)).map StretchV.cells)), (blk b21 28 (SledV.cells (laxF s q (by_ % 400)))), (own a11 c12 26 2 ((spansL s ts).map SpanV.cells)), (blk b3 28 (SledV.cells s)), (blk b2 24 (TrackV.cells (TrackV.mk (Slc.mk tsA ts.length tsC)))), (rd tsA ts.length 9 (ts.map StretchV.cells)).ro]) ?_ fun K41 hK41 => ?_
         · intro _
           change WJ _ _ _ _ [(4, (Value.pointer (some ⟨b2, 0, none⟩))), (5, (Value.pointer (some ⟨b3, 0, none⟩))), (9, (Value.bool true)), (10, (Value.slice a11 ((spansL s ts).length) c12)), (14, (Value.pointer (some ⟨b21, 0, none⟩))), (213, (Value.slice (some ⟨b37, 0, none⟩) 2 2)), (214, (Value.int .i64 2)), (215, (Value.int .i64 0))] [(blk b37 24 ((TrackV.cells (TrackV.mk (Slc.mk tsA ts.length tsC))) ++ (TrackV.cells (TrackV.mk (Slc.mk a29 ((wideT ts q (by_ % 400)).length) c30))))), (own a29 c30 77 9 ((wideT ts q (by_ % 400)).map StretchV.cells)), (blk b21 28 (SledV.cells (laxF s q (by_ % 400)))), (own a11 c12 26 2 ((spansL s ts).map SpanV.cells)), (blk b3 28 (SledV.cells s)), (blk b2 24 (TrackV.cells (TrackV.mk (Slc.mk tsA ts.length tsC)))), (rd tsA ts.length 9 (ts.map StretchV.cells)).ro]
           refine w_region ?_
           refine rS (SX (sd_bin (r := .int .i64 1) rfl rfl rfl (b_add ⟨by decide, by decide⟩)) rfl rfl) ?_
           refine rS (MV rfl) ?_
           refine RK hR38 ?_
           refine ro_succ fun R42 hR42 => ?_
           refine WS fun _ hK43 => ?_
           refine rS (SX (sd_bin (r := .bool true) rfl rfl rfl b_lss) rfl rfl) ?_
           refine RK hK43 ?_
           refine w_seq fun _ hK44 => ?_
           refine w_if_true rfl ?_
           refine WK hK44 ?_
           refine w_join (ι := Unit) (fun z => [(4, (Value.pointer (some ⟨b2, 0, none⟩))), (5, (Value.pointer (some ⟨b3, 0, none⟩))), (9, (Value.bool true)), (10, (Value.slice a11 ((spansL s ts).length) c12)), (14, (Value.pointer (some ⟨b21, 0, none⟩))), (213, (Value.slice (some ⟨b37, 0, none⟩) 2 2)), (214, (Value.int .i64 2)), (215, (Value.int .i64 1))]) (fun z => [(blk b37 24 ((TrackV.cells (TrackV.mk (Slc.mk tsA ts.length tsC))) ++ (TrackV.cells (TrackV.mk (Slc.mk a29 ((wideT ts q (by_ % 400)).length) c30))))), (own a29 c30 77 9 ((wideT ts q (by_ % 400)).map StretchV.cells)), (blk b21 28 (SledV.cells (laxF s q (by_ % 400)))), (own a11 c12 26 2 ((spansL s ts).map SpanV.cells)), (blk b3 28 (SledV.cells s)), (blk b2 24 (TrackV.cells (TrackV.mk (Slc.mk tsA ts.length tsC)))), (rd tsA ts.length 9 (ts.map StretchV.cells)).ro]) ?_ fun K45 hK45 => ?_
           · intro _
             change WJ _ _ _ _ [(4, (Value.pointer (some ⟨b2, 0, none⟩))), (5, (Value.pointer (some ⟨b3, 0, none⟩))), (9, (Value.bool true)), (10, (Value.slice a11 ((spansL s ts).length) c12)), (14, (Value.pointer (some ⟨b21, 0, none⟩))), (213, (Value.slice (some ⟨b37, 0, none⟩) 2 2)), (214, (Value.int .i64 2)), (215, (Value.int .i64 1))] [(blk b37 24 ((TrackV.cells (TrackV.mk (Slc.mk tsA ts.length tsC))) ++ (TrackV.cells (TrackV.mk (Slc.mk a29 ((wideT ts q (by_ % 400)).length) c30))))), (own a29 c30 77 9 ((wideT ts q (by_ % 400)).map StretchV.cells)), (blk b21 28 (SledV.cells (laxF s q (by_ % 400)))), (own a11 c12 26 2 ((spansL s ts).map SpanV.cells)), (blk b3 28 (SledV.cells s)), (blk b2 24 (TrackV.cells (TrackV.mk (Slc.mk tsA ts.length tsC)))), (rd tsA ts.length 9 (ts.map StretchV.cells)).ro]
             refine w_region ?_
             refine rS (SX (sd_bin (r := .int .i64 2) rfl rfl rfl (b_add ⟨by decide, by decide⟩)) rfl rfl) ?_
             refine rS (MV rfl) ?_
             refine RK hR42 ?_
             refine ro_succ fun R46 hR46 => ?_
             refine WS fun _ hK47 => ?_
             refine rS (SX (sd_bin (r := .bool false) rfl rfl rfl b_lss) rfl rfl) ?_
             refine RK hK47 ?_
             refine w_seq fun _ hK48 => ?_
             refine w_if_false rfl ?_
             refine w_exit ?_
             refine k_exit_then ?_
             refine k_exit_then ?_
             refine k_exit_same ?_
             refine KK hK34 ?_
             refine WS fun _ hK49 => ?_
             refine rS (MV rfl) ?_
             refine rS (AG rfl) ?_
             refine RK hK49 ?_
             refine w_ret ?_
             refine Q1 hQ rfl rfl rfl ?_
             first | rfl | (simp; done)
           refine w_block ?_
           refine WS fun _ hK50 => ?_
           refine rS (MV rfl) ?_
           refine rS (IAB 1 1 rfl te86 rfl (by decide) rfl) ?_
           refine rS (LP (TrackV.cells (TrackV.mk (Slc.mk a29 ((wideT ts q (by_ % 400)).length) c30))) 0 rfl tk24 rfl rfl rfl) ?_
           refine AL rfl tz24 fun b51 => ?_
           refine rS (AG rfl) ?_
           refine SW0 rfl ts24 rfl ?_
           refine RK hK50 ?_
           refine WS fun _ hK52 => ?_
           refine rS (LW 3 rfl tk28 rfl rfl) ?_
           refine AL rfl tz28 fun b53 => ?_
           refine SW0 rfl ts28 rfl ?_
           refine RK hK52 ?_
           refine w_seq fun _ hK54 => ?_
           refine WS fun _ hK55 => ?_
           refine rS (MV rfl) ?_
           refine rS (SX (sd_bin (r := .bool true) rfl rfl rfl b_eql) rfl rfl) ?_
           refine RK hK55 ?_
           refine w_if_true rfl ?_
           refine w_region ?_
           refine rS (LW 6 rfl tk28 rfl rfl) ?_
           refine SW0 rfl ts28 rfl ?_
           refine RK hK54 ?_
           refine w_seq fun _ hK56 => ?_
           refine WS fun _ hK57 => ?_
           refine rS (LW 1 rfl tk24 rfl rfl) ?_
           refine rS (LW 0 rfl tk28 rfl rfl) ?_
           refine rS (CL (ready_c (wideT ts q (by_ % 400)) a29 c30 s (by first | assumption | (rw [lax_class]; assumption))) (ha_cons (has_own_n (n := (wideT ts q (by_ % 400)).length) 3 rfl (by simp)) <| ha_nil) rfl) ?_
           refine rS (NT rfl) ?_
           refine RK hK57 ?_
           refine w_if rfl (fun hr => ?_) (fun hr => ?_)
           · replace hr := XT hr
             refine w_exit ?_
             refine k_exit_then ?_
             refine k_exit_same ?_
             refine k_then (k_sub (Sub.cons rfl <| Sub.cons rfl <| Sub.cons rfl <| Sub.cons rfl <| Sub.cons rfl <| Sub.cons rfl <| Sub.cons rfl <| Sub.cons rfl <| Sub.nil _) (fun w hs => St.sel [2, 3, 4, 5, 6, 7, 8] rfl rfl hs) (hK45 ()))
           replace hr := XF hr
           refine WK hK56 ?_
           refine WS fun _ hK58 => ?_
           obtain ⟨hgr2, htr2, hr2⟩ := hr
           have hb2 := bothE_ok htr2 hr2
           have hst2 := trackOk_all htr2
           refine rS (LW 1 rfl tk24 rfl rfl) ?_
           refine rS (LW 0 rfl tk28 rfl rfl) ?_
           refine cX (heads_c (wideT ts q (by_ % 400)) a29 c30 s (by first | omega | (simp; omega)) (by first | assumption | exact wideT_side hside)) (ha_cons (has_own_n (n := (wideT ts q (by_ % 400)).length) 3 rfl (by simp)) <| ha_nil) rfl fun y59 hy60 => ?_
           obtain ⟨a61, c62⟩ := y59
           change RJ _ _ _ _ _ ((_, (Value.tuple [(Value.slice a61 ((spansU s (wideT ts q (by_ % 400))).length) c62), (Value.int .i64 (bothE s (wideT ts q (by_ % 400))))].toArray)) :: _) ((own a61 c62 26 2 ((spansU s (wideT ts q (by_ % 400))).map SpanV.cells)) :: _)
           rw [spansU_ok htr2 hr2]
           rw [hb2]
           refine rS (MV rfl) ?_
           refine rS (EX rfl) ?_
           refine rS (EX rfl) ?_
           refine rS (AG rfl) ?_
           refine rS (AG rfl) ?_
           refine RK hK58 ?_
           refine w_seq fun _ hK63 => ?_
           refine WS fun _ hK64 => ?_
           have e2 := spansL_length (s := s) (ts := (wideT ts q (by_ % 400)))
           rw [wideT_length] at e2
           refine rS (MV rfl) ?_
           refine rS (SX (sd_bin (r := .bool false) rfl rfl rfl b_neq) rfl rfl) ?_
           refine rS (MV rfl) ?_
           refine rS (MV rfl) ?_
           refine rS (LN rfl ut31) ?_
           refine rS (MV rfl) ?_
           refine rS (LN rfl ut31) ?_
           refine rS (BI rfl b_neq) ?_
           refine rS (PK rfl) ?_
           refine RK hK64 ?_
           refine w_if rfl (fun h65 => ?_) (fun h65 => ?_)
           · replace h65 := XT h65
             exfalso; omega
           replace h65 := XF h65
           refine WK hK63 ?_
           refine w_seq fun _ hK66 => ?_
           refine WS fun _ hK67 => ?_
           refine rS (MV rfl) ?_
           refine rS (LN rfl ut31) ?_
           refine rS (MV rfl) ?_
           refine RK hK67 ?_
           refine w_block ?_
           have hinit : (0 ≤ ts.length + 1) := by exact Nat.zero_le _
           refine w_loop (ι := { z : Nat // (z ≤ ts.length + 1) }) (fun z => [(4, (Value.pointer (some ⟨b2, 0, none⟩))), (5, (Value.pointer (some ⟨b3, 0, none⟩))), (9, (Value.bool true)), (10, (Value.slice a11 ((spansL s ts).length) c12)), (14, (Value.pointer (some ⟨b21, 0, none⟩))), (20, (Value.int .i64 1)), (21, (Value.pointer (some ⟨b51, 0, none⟩))), (22, (Value.pointer (some ⟨b53, 0, none⟩))), (23, (Value.slice a61 ((spansL s (wideT ts q (by_ % 400))).length) c62)), (213, (Value.slice (some ⟨b37, 0, none⟩) 2 2)), (214, (Value.int .i64 2)), (215, (Value.int .i64 1)), (244, (Value.int .i64 (((spansL s ts).length : Nat) : Int))), (245, (Value.int .i64 ((z.1 : Nat) : Int)))]) (fun z => [(own a61 c62 26 2 ((spansL s (wideT ts q (by_ % 400))).map SpanV.cells)), (blk b53 28 (SledV.cells s)), (blk b51 24 (TrackV.cells (TrackV.mk (Slc.mk a29 ((wideT ts q (by_ % 400)).length) c30)))), (blk b37 24 ((TrackV.cells (TrackV.mk (Slc.mk tsA ts.length tsC))) ++ (TrackV.cells (TrackV.mk (Slc.mk a29 ((wideT ts q (by_ % 400)).length) c30))))), (own a29 c30 77 9 ((wideT ts q (by_ % 400)).map StretchV.cells)), (blk b21 28 (SledV.cells (laxF s q (by_ % 400)))), (own a11 c12 26 2 ((spansL s ts).map SpanV.cells)), (blk b3 28 (SledV.cells s)), (blk b2 24 (TrackV.cells (TrackV.mk (Slc.mk tsA ts.length tsC)))), (rd tsA ts.length 9 (ts.map StretchV.cells)).ro]) (fun z => ts.length + 1 - z.1) ⟨0, hinit⟩ (Sub.cons rfl <| Sub.cons rfl <| Sub.cons rfl <| Sub.cons rfl <| Sub.cons rfl <| Sub.cons rfl <| Sub.cons rfl <| Sub.cons rfl <| Sub.cons rfl <| Sub.cons rfl <| Sub.cons rfl <| Sub.cons rfl <| Sub.cons rfl <| Sub.cons rfl <| Sub.nil _) (fun w hs => St.sel [0, 1, 2, 3, 4, 5, 6, 7, 8, 9] rfl rfl hs) ?_
           clear hinit
           rintro ⟨i, hl43_0⟩ J68 hJ68
           change WJ _ _ _ _ [(4, (Value.pointer (some ⟨b2, 0, none⟩))), (5, (Value.pointer (some ⟨b3, 0, none⟩))), (9, (Value.bool true)), (10, (Value.slice a11 ((spansL s ts).length) c12)), (14, (Value.pointer (some ⟨b21, 0, none⟩))), (20, (Value.int .i64 1)), (21, (Value.pointer (some ⟨b51, 0, none⟩))), (22, (Value.pointer (some ⟨b53, 0, none⟩))), (23, (Value.slice a61 ((spansL s (wideT ts q (by_ % 400))).length) c62)), (213, (Value.slice (some ⟨b37, 0, none⟩) 2 2)), (214, (Value.int .i64 2)), (215, (Value.int .i64 1)), (244, (Value.int .i64 (((spansL s ts).length : Nat) : Int))), (245, (Value.int .i64 ((i : Nat) : Int)))] [(own a61 c62 26 2 ((spansL s (wideT ts q (by_ % 400))).map SpanV.cells)), (blk b53 28 (SledV.cells s)), (blk b51 24 (TrackV.cells (TrackV.mk (Slc.mk a29 ((wideT ts q (by_ % 400)).length) c30)))), (blk b37 24 ((TrackV.cells (TrackV.mk (Slc.mk tsA ts.length tsC))) ++ (TrackV.cells (TrackV.mk (Slc.mk a29 ((wideT ts q (by_ % 400)).length) c30))))), (own a29 c30 77 9 ((wideT ts q (by_ % 400)).map StretchV.cells)), (blk b21 28 (SledV.cells (laxF s q (by_ % 400)))), (own a11 c12 26 2 ((spansL s ts).map SpanV.cells)), (blk b3 28 (SledV.cells s)), (blk b2 24 (TrackV.cells (TrackV.mk (Slc.mk tsA ts.length tsC)))), (rd tsA ts.length 9 (ts.map StretchV.cells)).ro]
           refine WS fun _ hK69 => ?_
           refine rS (BI rfl b_lss) ?_
           refine RK hK69 ?_
           refine w_seq fun _ hK70 => ?_
           refine w_if rfl (fun h71 => ?_) (fun h71 => ?_)
           · replace h71 := DT h71
             refine WK hK70 ?_
             refine w_seq fun _ hK72 => ?_
             refine w_block ?_
             refine WS fun _ hK73 => ?_
             refine rS (MV rfl) ?_
             refine rS (AG rfl) ?_
             refine RK hK73 ?_
             refine w_seq fun _ hK74 => ?_
             refine w_draw mixed 24 (by kernel_rfl) ?_
             refine dS (MV rfl) ?_
             refine dS (MV rfl) ?_
             obtain ⟨y, hy⟩ : ∃ y_, (spansL s (wideT ts q (by_ % 400)))[i]? = some y_ := ⟨(spansL s (wideT ts q (by_ % 400)))[i]'(by omega), List.getElem?_eq_getElem _⟩
             have hym : ((spansL s (wideT ts q (by_ % 400))).map SpanV.cells)[i]? = some (SpanV.cells y) := by rw [List.getElem?_map, hy]; rfl
             refine dS (IA i rfl (has_own_n (n := (spansL s (wideT ts q (by_ % 400))).length) 0 rfl (by simp)) te31 (by decide) (by omega) (by omega)) ?_
             refine dS (FAR (i * 2) rfl (has_own_n (n := (spansL s (wideT ts q (by_ % 400))).length) 0 rfl (by simp)) (Nat.mul_pos (by omega) (by decide)) fo26_0 rfl) ?_
             refine dS (LE1 i 0 (Value.int .i64 y.Lo) rfl tk3 (has_own_n (n := (spansL s (wideT ts q (by_ % 400))).length) 0 rfl (by simp)) hym rfl (by decide) rfl) ?_
             refine dS (MV rfl) ?_
             refine dS (MV rfl) ?_
             obtain ⟨z, hzz⟩ : ∃ y_, (spansL s ts)[i]? = some y_ := ⟨(spansL s ts)[i]'(by omega), List.getElem?_eq_getElem _⟩
             have hzzm : ((spansL s ts).map SpanV.cells)[i]? = some (SpanV.cells z) := by rw [List.getElem?_map, hzz]; rfl
             refine dS (IA i rfl (has_own_n (n := (spansL s ts).length) 6 rfl (by simp)) te31 (by decide) (by omega) (by omega)) ?_
             refine dS (FAR (i * 2) rfl (has_own_n (n := (spansL s ts).length) 6 rfl (by simp)) (Nat.mul_pos (by omega) (by decide)) fo26_0 rfl) ?_
             refine dS (LE1 i 0 (Value.int .i64 z.Lo) rfl tk3 (has_own_n (n := (spansL s ts).length) 6 rfl (by simp)) hzzm rfl (by decide) rfl) ?_
             have yv : y = spanAt s (wideT ts q (by_ % 400)) i := by rw [spansL_get (by first | omega | (simp; omega))] at hy; exact (Option.some.inj hy).symm
             have zv : z = spanAt s ts i := by rw [spansL_get (by first | omega | (simp; omega))] at hzz; exact (Option.some.inj hzz).symm
             have hin := head_in hs hr2 hst hst2 (.refl _) (wide_in (by omega)) i
             have ey1 : y.Lo = headAt false s (wideT ts q (by_ % 400)) i := by rw [yv]; rfl
             have ey2 : y.Hi = headAt true s (wideT ts q (by_ % 400)) i := by rw [yv]; rfl
             have ez1 : z.Lo = headAt false s ts i := by rw [zv]; rfl
             have ez2 : z.Hi = headAt true s ts i := by rw [zv]; rfl
             refine dS (BI rfl b_gtr) ?_
             refine dS (MV rfl) ?_
             refine d_bool (t := 259) rfl (fun h75 => ?_) (fun h75 => ?_)
             · replace h75 := DT h75
               exfalso; omega
             replace h75 := DF h75
             refine dS (MV rfl) ?_
             refine dS (MV rfl) ?_
             refine dS (IA i rfl (has_own_n (n := (spansL s (wideT ts q (by_ % 400))).length) 0 rfl (by simp)) te31 (by decide) (by omega) (by omega)) ?_
             refine dS (FAR ((i * 2) + 1) rfl (has_own_n (n := (spansL s (wideT ts q (by_ % 400))).length) 0 rfl (by simp)) (Nat.mul_pos (by omega) (by decide)) fo26_1 rfl) ?_
             refine dS (LE1 i 1 (Value.int .i64 y.Hi) rfl tk3 (has_own_n (n := (spansL s (wideT ts q (by_ % 400))).length) 0 rfl (by simp)) hym rfl (by decide) rfl) ?_
             refine dS (MV rfl) ?_
             refine dS (MV rfl) ?_
             refine dS (IA i rfl (has_own_n (n := (spansL s ts).length) 6 rfl (by simp)) te31 (by decide) (by omega) (by omega)) ?_
             refine dS (FAR ((i * 2) + 1) rfl (has_own_n (n := (spansL s ts).length) 6 rfl (by simp)) (Nat.mul_pos (by omega) (by decide)) fo26_1 rfl) ?_
             refine dS (LE1 i 1 (Value.int .i64 z.Hi) rfl tk3 (has_own_n (n := (spansL s ts).length) 6 rfl (by simp)) hzzm rfl (by decide) rfl) ?_
             refine dS (BI rfl b_lss) ?_
             refine dS (PK rfl) ?_
             refine d_end ?_
             refine RK hK74 ?_
             refine w_if rfl (fun h76 => ?_) (fun h76 => ?_)
             · replace h76 := DT h76
               exfalso; omega
             replace h76 := DF h76
             refine w_skip ?_
             refine k_block ?_
             refine KK hK72 ?_
             refine w_region ?_
             refine rS (BI rfl (b_add ⟨by omega, by omega⟩)) ?_
             refine rS (MV rfl) ?_
             refine r_nil ?_
             have hb77 : (Value.int .i64 (((i + 1) : Nat) : Int)) = (Value.int .i64 (((i : Nat) : Int) + 1)) := by exact congrArg (Value.int .i64) (by omega)
             refine k_then (hJ68 ⟨(i + 1), (by first | omega | (simp only []; omega))⟩ _ _ _ rfl (by first | omega | (simp; omega)) (Sub.cons rfl <| Sub.cons rfl <| Sub.cons rfl <| Sub.cons rfl <| Sub.cons rfl <| Sub.cons rfl <| Sub.cons rfl <| Sub.cons rfl <| Sub.cons rfl <| Sub.cons rfl <| Sub.cons rfl <| Sub.cons rfl <| Sub.cons rfl <| sub_val rfl hb77 <| Sub.nil _) (fun w hs => St.sel [0, 1, 2, 3, 4, 5, 6, 7, 8, 9] rfl rfl hs))
           replace h71 := DF h71
           refine w_exit ?_
           refine k_exit_then ?_
           refine k_exit_then ?_
           refine k_exit_same ?_
           refine KK hK66 ?_
           refine WS fun _ hK78 => ?_
           refine rS (FA 0 rfl fo24_0 rfl) ?_
           refine rS (L1 (Value.slice tsA ts.length tsC) 8 rfl tk22 rfl rfl) ?_
           refine rS (LN rfl ut22) ?_
           refine rS (MV rfl) ?_
           refine RK hK78 ?_
           refine w_block ?_
           have hinit : (0 ≤ ts.length) := by exact Nat.zero_le _
           refine w_loop (ι := { z : Nat // (z ≤ ts.length) }) (fun z => [(4, (Value.pointer (some ⟨b2, 0, none⟩))), (5, (Value.pointer (some ⟨b3, 0, none⟩))), (9, (Value.bool true)), (10, (Value.slice a11 ((spansL s ts).length) c12)), (14, (Value.pointer (some ⟨b21, 0, none⟩))), (20, (Value.int .i64 1)), (21, (Value.pointer (some ⟨b51, 0, none⟩))), (22, (Value.pointer (some ⟨b53, 0, none⟩))), (23, (Value.slice a61 ((spansL s (wideT ts q (by_ % 400))).length) c62)), (213, (Value.slice (some ⟨b37, 0, none⟩) 2 2)), (214, (Value.int .i64 2)), (215, (Value.int .i64 1)), (274, (Value.slice tsA ts.length tsC)), (275, (Value.int .i64 ((ts.length : Nat) : Int))), (276, (Value.int .i64 ((z.1 : Nat) : Int)))]) (fun z => [(own a61 c62 26 2 ((spansL s (wideT ts q (by_ % 400))).map SpanV.cells)), (blk b53 28 (SledV.cells s)), (blk b51 24 (TrackV.cells (TrackV.mk (Slc.mk a29 ((wideT ts q (by_ % 400)).length) c30)))), (blk b37 24 ((TrackV.cells (TrackV.mk (Slc.mk tsA ts.length tsC))) ++ (TrackV.cells (TrackV.mk (Slc.mk a29 ((wideT ts q (by_ % 400)).length) c30))))), (own a29 c30 77 9 ((wideT ts q (by_ % 400)).map StretchV.cells)), (blk b21 28 (SledV.cells (laxF s q (by_ % 400)))), (own a11 c12 26 2 ((spansL s ts).map SpanV.cells)), (blk b3 28 (SledV.cells s)), (blk b2 24 (TrackV.cells (TrackV.mk (Slc.mk tsA ts.length tsC)))), (rd tsA ts.length 9 (ts.map StretchV.cells)).ro]) (fun z => ts.length - z.1) ⟨0, hinit⟩ (Sub.cons rfl <| Sub.cons rfl <| Sub.cons rfl <| Sub.cons rfl <| Sub.cons rfl <| Sub.cons rfl <| Sub.cons rfl <| Sub.cons rfl <| Sub.cons rfl <| Sub.cons rfl <| Sub.cons rfl <| Sub.cons rfl <| Sub.cons rfl <| Sub.cons rfl <| Sub.cons rfl <| Sub.nil _) (fun w hs => St.sel [0, 1, 2, 3, 4, 5, 6, 7, 8, 9] rfl rfl hs) ?_
           clear hinit
           rintro ⟨i, hl49_0⟩ J79 hJ79
           change WJ _ _ _ _ [(4, (Value.pointer (some ⟨b2, 0, none⟩))), (5, (Value.pointer (some ⟨b3, 0, none⟩))), (9, (Value.bool true)), (10, (Value.slice a11 ((spansL s ts).length) c12)), (14, (Value.pointer (some ⟨b21, 0, none⟩))), (20, (Value.int .i64 1)), (21, (Value.pointer (some ⟨b51, 0, none⟩))), (22, (Value.pointer (some ⟨b53, 0, none⟩))), (23, (Value.slice a61 ((spansL s (wideT ts q (by_ % 400))).length) c62)), (213, (Value.slice (some ⟨b37, 0, none⟩) 2 2)), (214, (Value.int .i64 2)), (215, (Value.int .i64 1)), (274, (Value.slice tsA ts.length tsC)), (275, (Value.int .i64 ((ts.length : Nat) : Int))), (276, (Value.int .i64 ((i : Nat) : Int)))] [(own a61 c62 26 2 ((spansL s (wideT ts q (by_ % 400))).map SpanV.cells)), (blk b53 28 (SledV.cells s)), (blk b51 24 (TrackV.cells (TrackV.mk (Slc.mk a29 ((wideT ts q (by_ % 400)).length) c30)))), (blk b37 24 ((TrackV.cells (TrackV.mk (Slc.mk tsA ts.length tsC))) ++ (TrackV.cells (TrackV.mk (Slc.mk a29 ((wideT ts q (by_ % 400)).length) c30))))), (own a29 c30 77 9 ((wideT ts q (by_ % 400)).map StretchV.cells)), (blk b21 28 (SledV.cells (laxF s q (by_ % 400)))), (own a11 c12 26 2 ((spansL s ts).map SpanV.cells)), (blk b3 28 (SledV.cells s)), (blk b2 24 (TrackV.cells (TrackV.mk (Slc.mk tsA ts.length tsC)))), (rd tsA ts.length 9 (ts.map StretchV.cells)).ro]
           refine WS fun _ hK80 => ?_
           refine rS (BI rfl b_lss) ?_
           refine RK hK80 ?_
           refine w_seq fun _ hK81 => ?_
           refine w_if rfl (fun h82 => ?_) (fun h82 => ?_)
           rotate_left 1
           · replace h82 := DF h82
             refine w_exit ?_
             refine k_exit_then ?_
             refine k_exit_then ?_
             refine k_exit_same ?_
             refine k_block ?_
             refine k_then (k_sub (Sub.cons rfl <| Sub.cons rfl <| Sub.cons rfl <| Sub.cons rfl <| Sub.cons rfl <| Sub.cons rfl <| Sub.cons rfl <| Sub.cons rfl <| Sub.nil _) (fun w hs => St.sel [3, 4, 5, 6, 7, 8, 9] rfl rfl hs) (hK45 ()))
           replace h82 := DT h82
           refine WK hK81 ?_
           refine w_seq fun _ hK83 => ?_
           refine w_block ?_
           refine WS fun _ hK84 => ?_
           refine rS (MV rfl) ?_
           obtain ⟨x, hx⟩ : ∃ y_, ts[i]? = some y_ := ⟨ts[i]'(by omega), List.getElem?_eq_getElem _⟩
           have hxm : (ts.map StretchV.cells)[i]? = some (StretchV.cells x) := by rw [List.getElem?_map, hx]; rfl
           refine rS (IA i rfl (has_at 9 rfl) te22 (by decide) (by omega) (by omega)) ?_
           refine rS (LEN i 0 (StretchV.cells x) rfl tk77 (has_at 9 rfl) hxm rfl (by decide) rfl rfl) ?_
           refine AL rfl tz77 fun b85 => ?_
           refine rS (AG rfl) ?_
           refine SW0 rfl ts77 rfl ?_
           refine RK hK84 ?_
           refine w_seq fun _ hK86 => ?_
           refine WS fun _ hK87 => ?_
           have hsd := hside x (List.mem_of_getElem? hx)
           refine rS (FA 7 rfl fo77_4 rfl) ?_
           refine rS (L1 (Value.int .u8 x.Side) 0 rfl tk5 rfl rfl) ?_
           refine rS (BI rfl b_eql) ?_
           refine RK hK87 ?_
           refine w_if rfl (fun hd => ?_) (fun hd => ?_)
           · replace hd := DT hd
             refine w_exit ?_
             refine k_exit_then ?_
             refine k_exit_same ?_
             refine KK hK83 ?_
             refine w_region ?_
             refine rS (BI rfl (b_add ⟨by omega, by omega⟩)) ?_
             refine rS (MV rfl) ?_
             refine r_nil ?_
             have hb88 : (Value.int .i64 (((i + 1) : Nat) : Int)) = (Value.int .i64 (((i : Nat) : Int) + 1)) := by exact congrArg (Value.int .i64) (by omega)
             refine k_then (hJ79 ⟨(i + 1), (by first | omega | (simp only []; omega))⟩ _ _ _ rfl (by first | omega | (simp; omega)) (Sub.cons rfl <| Sub.cons rfl <| Sub.cons rfl <| Sub.cons rfl <| Sub.cons rfl <| Sub.cons rfl <| Sub.cons rfl <| Sub.cons rfl <| Sub.cons rfl <| Sub.cons rfl <| Sub.cons rfl <| Sub.cons rfl <| Sub.cons rfl <| Sub.cons rfl <| sub_val rfl hb88 <| Sub.nil _) (fun w hs => St.sel [1, 2, 3, 4, 5, 6, 7, 8, 9, 10] rfl rfl hs))
           replace hd := DF hd
           refine WK hK86 ?_
           refine WS fun _ hK89 => ?_
           obtain ⟨u, hu⟩ : ∃ u, (wideT ts q (by_ % 400))[i]? = some u := ⟨_, List.getElem?_eq_getElem (by rw [wideT_length]; omega)⟩
           have hgi := hgt_in hs hr2 hst hst2 (.refl _) (wide_in (by omega)) hx hd
           have hn2 := height_nat hb2 hu (by rw [← ((wide_in (n := (by_ % 400)) (w := q) (ts := ts) (by omega)).at_ _ _ _ hx hu).side]; exact hd)
           refine rS (LW 9 rfl tk24 rfl rfl) ?_
           refine rS (LW 8 rfl tk28 rfl rfl) ?_
           refine rS (MV rfl) ?_
           refine rS (CL (height_c ts tsA tsC s ((i : Nat) : Int) (by first | assumption | omega | (simp; done) | (simp; omega)) hside) (ha_at 10 rfl rfl <| ha_nil) rfl) ?_
           rw [(height_nat hb0 hx hd).2]
           refine rS (MV rfl) ?_
           refine rS (EX rfl) ?_
           refine rS (EX rfl) ?_
           refine AL rfl tz26 fun b90 => ?_
           refine SW0 rfl ts26 rfl ?_
           refine rS (AG rfl) ?_
           refine RK hK89 ?_
           refine WS fun _ hK91 => ?_
           refine rS (LW 4 rfl tk24 rfl rfl) ?_
           refine rS (LW 3 rfl tk28 rfl rfl) ?_
           refine rS (MV rfl) ?_
           refine rS (CL (height_c (wideT ts q (by_ % 400)) a29 c30 s ((i : Nat) : Int) (by first | omega | (simp; omega)) (by first | assumption | exact wideT_side hside)) (ha_cons (has_own_n (n := (wideT ts q (by_ % 400)).length) 6 rfl (by simp)) <| ha_nil) rfl) ?_
           rw [hn2.2]
           refine rS (MV rfl) ?_
           refine rS (EX rfl) ?_
           refine rS (EX rfl) ?_
           refine AL rfl tz26 fun b92 => ?_
           refine SW0 rfl ts26 rfl ?_
           refine rS (AG rfl) ?_
           refine RK hK91 ?_
           refine w_seq fun _ hK93 => ?_
           have hb94 : (SpanV.cells (heightV s ts ((i : Nat) : Int))) = (SpanV.cells (SpanV.mk (hgt false s ts i) (hgt true s ts i))) := by rw [(height_nat hb0 hx hd).1]
           rw [hb94]
           have hb95 : (SpanV.cells (heightV s (wideT ts q (by_ % 400)) ((i : Nat) : Int))) = (SpanV.cells (SpanV.mk (hgt false s (wideT ts q (by_ % 400)) i) (hgt true s (wideT ts q (by_ % 400)) i))) := by rw [hn2.1]
           rw [hb95]
           refine w_region ?_
           refine rS (MV rfl) ?_
           refine rS (SX (sd_bin (r := .bool false) rfl rfl rfl b_neq) rfl rfl) ?_
           refine rS (MV rfl) ?_
           refine rS (MV rfl) ?_
           refine rS (SX (sd_bin (r := .bool false) rfl rfl rfl b_neq) rfl rfl) ?_
           refine rS (PK rfl) ?_
           refine rS (MV rfl) ?_
           refine rS (FA 0 rfl fo26_0 rfl) ?_
           refine rS (L1 (Value.int .i64 (hgt false s (wideT ts q (by_ % 400)) i)) 0 rfl tk3 rfl rfl) ?_
           refine rS (FA 0 rfl fo26_0 rfl) ?_
           refine rS (L1 (Value.int .i64 (hgt false s ts i)) 1 rfl tk3 rfl rfl) ?_
           refine rS (BI rfl b_gtr) ?_
           refine rS (PK rfl) ?_
           refine rS (MV rfl) ?_
           refine r_bool (t := 311) rfl (fun h96 => ?_) (fun h96 => ?_)
           · replace h96 := DT h96
             exfalso; omega
           replace h96 := DF h96
           refine rS (FA 1 rfl fo26_1 rfl) ?_
           refine rS (L1 (Value.int .i64 (hgt true s (wideT ts q (by_ % 400)) i)) 0 rfl tk3 rfl rfl) ?_
           refine rS (FA 1 rfl fo26_1 rfl) ?_
           refine rS (L1 (Value.int .i64 (hgt true s ts i)) 1 rfl tk3 rfl rfl) ?_
           refine rS (BI rfl b_lss) ?_
           refine rS (PK rfl) ?_
           refine RK hK93 ?_
           refine w_if rfl (fun h97 => ?_) (fun h97 => ?_)
           · replace h97 := DT h97
             exfalso; omega
           replace h97 := DF h97
           refine w_skip ?_
           refine k_block ?_
           refine KK hK83 ?_
           refine w_region ?_
           refine rS (BI rfl (b_add ⟨by omega, by omega⟩)) ?_
           refine rS (MV rfl) ?_
           refine r_nil ?_
           have hb98 : (Value.int .i64 (((i + 1) : Nat) : Int)) = (Value.int .i64 (((i : Nat) : Int) + 1)) := by exact congrArg (Value.int .i64) (by omega)
           refine k_then (hJ79 ⟨(i + 1), (by first | omega | (simp only []; omega))⟩ _ _ _ rfl (by first | omega | (simp; omega)) (Sub.cons rfl <| Sub.cons rfl <| Sub.cons rfl <| Sub.cons rfl <| Sub.cons rfl <| Sub.cons rfl <| Sub.cons rfl <| Sub.cons rfl <| Sub.cons rfl <| Sub.cons rfl <| Sub.cons rfl <| Sub.cons rfl <| Sub.cons rfl <| Sub.cons rfl <| sub_val rfl hb98 <| Sub.nil _) (fun w hs => St.sel [3, 4, 5, 6, 7, 8, 9, 10, 11, 12] rfl rfl hs))
         refine w_block ?_
         refine WS fun _ hK99 => ?_
         refine rS (MV rfl) ?_
         refine rS (IAB 0 0 rfl te86 rfl (by decide) rfl) ?_
         refine rS (LP (TrackV.cells (TrackV.mk (Slc.mk tsA ts.length tsC))) 0 rfl tk24 rfl rfl rfl) ?_
         refine AL rfl tz24 fun b100 => ?_
         refine rS (AG rfl) ?_
         refine SW0 rfl ts24 rfl ?_
         refine RK hK99 ?_
         refine WS fun _ hK101 => ?_
         refine rS (LW 4 rfl tk28 rfl rfl) ?_
         refine AL rfl tz28 fun b102 => ?_
         refine SW0 rfl ts28 rfl ?_
         refine RK hK101 ?_
         refine w_seq fun _ hK103 => ?_
         refine WS fun _ hK104 => ?_
         refine rS (MV rfl) ?_
         refine rS (SX (sd_bin (r := .bool false) rfl rfl rfl b_eql) rfl rfl) ?_
         refine RK hK104 ?_
         refine w_if_false rfl ?_
         refine WK hK103 ?_
         refine w_seq fun _ hK105 => ?_
         refine WS fun _ hK106 => ?_
         refine rS (LW 1 rfl tk24 rfl rfl) ?_
         refine rS (LW 0 rfl tk28 rfl rfl) ?_
         refine rS (CL (ready_c ts tsA tsC (laxF s q (by_ % 400)) (by first | assumption | (rw [lax_class]; assumption))) (ha_at 9 rfl rfl <| ha_nil) rfl) ?_
         refine rS (NT rfl) ?_
         refine RK hK106 ?_
         refine w_if rfl (fun hr => ?_) (fun hr => ?_)
         · replace hr := XT hr
           refine w_exit ?_
           refine k_exit_then ?_
           refine k_exit_same ?_
           refine k_then (k_sub (Sub.cons rfl <| Sub.cons rfl <| Sub.cons rfl <| Sub.cons rfl <| Sub.cons rfl <| Sub.cons rfl <| Sub.cons rfl <| Sub.cons rfl <| Sub.nil _) (fun w hs => St.sel [2, 4, 5, 6, 7, 8, 9] rfl rfl hs) (hK41 ()))
         replace hr := XF hr
         refine WK hK105 ?_
         refine WS fun _ hK107 => ?_
         obtain ⟨hgr2, htr2, hr2⟩ := hr
         have hb2 := bothE_ok htr2 hr2
         have hst2 := trackOk_all htr2
         refine rS (LW 1 rfl tk24 rfl rfl) ?_
         refine rS (LW 0 rfl tk28 rfl rfl) ?_
         refine cX (heads_c ts tsA tsC (laxF s q (by_ % 400)) (by first | omega | (simp; omega)) (by first | assumption | exact wideT_side hside)) (ha_at 9 rfl rfl <| ha_nil) rfl fun y108 hy109 => ?_
         obtain ⟨a110, c111⟩ := y108
         change RJ _ _ _ _ _ ((_, (Value.tuple [(Value.slice a110 ((spansU (laxF s q (by_ % 400)) ts).length) c111), (Value.int .i64 (bothE (laxF s q (by_ % 400)) ts))].toArray)) :: _) ((own a110 c111 26 2 ((spansU (laxF s q (by_ % 400)) ts).map SpanV.cells)) :: _)
         rw [spansU_ok htr2 hr2]
         rw [hb2]
         refine rS (MV rfl) ?_
         refine rS (EX rfl) ?_
         refine rS (EX rfl) ?_
         refine rS (AG rfl) ?_
         refine rS (AG rfl) ?_
         refine RK hK107 ?_
         refine w_seq fun _ hK112 => ?_
         refine WS fun _ hK113 => ?_
         have e2 := spansL_length (s := (laxF s q (by_ % 400))) (ts := ts)
         refine rS (MV rfl) ?_
         refine rS (SX (sd_bin (r := .bool false) rfl rfl rfl b_neq) rfl rfl) ?_
         refine rS (MV rfl) ?_
         refine rS (MV rfl) ?_
         refine rS (LN rfl ut31) ?_
         refine rS (MV rfl) ?_
         refine rS (LN rfl ut31) ?_
         refine rS (BI rfl b_neq) ?_
         refine rS (PK rfl) ?_
         refine RK hK113 ?_
         refine w_if rfl (fun h114 => ?_) (fun h114 => ?_)
         · replace h114 := XT h114
           exfalso; omega
         replace h114 := XF h114
         refine WK hK112 ?_
         refine w_seq fun _ hK115 => ?_
         refine WS fun _ hK116 => ?_
         refine rS (MV rfl) ?_
         refine rS (LN rfl ut31) ?_
         refine rS (MV rfl) ?_
         refine RK hK116 ?_
         refine w_block ?_
         have hinit : (0 ≤ ts.length + 1) := by exact Nat.zero_le _
         refine w_loop (ι := { z : Nat // (z ≤ ts.length + 1) }) (fun z => [(4, (Value.pointer (some ⟨b2, 0, none⟩))), (5, (Value.pointer (some ⟨b3, 0, none⟩))), (9, (Value.bool true)), (10, (Value.slice a11 ((spansL s ts).length) c12)), (14, (Value.pointer (some ⟨b21, 0, none⟩))), (20, (Value.int .i64 0)), (21, (Value.pointer (some ⟨b100, 0, none⟩))), (22, (Value.pointer (some ⟨b102, 0, none⟩))), (23, (Value.slice a110 ((spansL (laxF s q (by_ % 400)) ts).length) c111)), (213, (Value.slice (some ⟨b37, 0, none⟩) 2 2)), (214, (Value.int .i64 2)), (215, (Value.int .i64 0)), (244, (Value.int .i64 (((spansL s ts).length : Nat) : Int))), (245, (Value.int .i64 ((z.1 : Nat) : Int)))]) (fun z => [(own a110 c111 26 2 ((spansL (laxF s q (by_ % 400)) ts).map SpanV.cells)), (blk b102 28 (SledV.cells (laxF s q (by_ % 400)))), (blk b100 24 (TrackV.cells (TrackV.mk (Slc.mk tsA ts.length tsC)))), (blk b37 24 ((TrackV.cells (TrackV.mk (Slc.mk tsA ts.length tsC))) ++ (TrackV.cells (TrackV.mk (Slc.mk a29 ((wideT ts q (by_ % 400)).length) c30))))), (own a29 c30 77 9 ((wideT ts q (by_ % 400)).map StretchV.cells)), (blk b21 28 (SledV.cells (laxF s q (by_ % 400)))), (own a11 c12 26 2 ((spansL s ts).map SpanV.cells)), (blk b3 28 (SledV.cells s)), (blk b2 24 (TrackV.cells (TrackV.mk (Slc.mk tsA ts.length tsC)))), (rd tsA ts.length 9 (ts.map StretchV.cells)).ro]) (fun z => ts.length + 1 - z.1) ⟨0, hinit⟩ (Sub.cons rfl <| Sub.cons rfl <| Sub.cons rfl <| Sub.cons rfl <| Sub.cons rfl <| Sub.cons rfl <| Sub.cons rfl <| Sub.cons rfl <| Sub.cons rfl <| Sub.cons rfl <| Sub.cons rfl <| Sub.cons rfl <| Sub.cons rfl <| Sub.cons rfl <| Sub.nil _) (fun w hs => St.sel [0, 1, 2, 3, 5, 6, 7, 8, 9, 10] rfl rfl hs) ?_
         clear hinit
         rintro ⟨i, hl43_0⟩ J117 hJ117
         change WJ _ _ _ _ [(4, (Value.pointer (some ⟨b2, 0, none⟩))), (5, (Value.pointer (some ⟨b3, 0, none⟩))), (9, (Value.bool true)), (10, (Value.slice a11 ((spansL s ts).length) c12)), (14, (Value.pointer (some ⟨b21, 0, none⟩))), (20, (Value.int .i64 0)), (21, (Value.pointer (some ⟨b100, 0, none⟩))), (22, (Value.pointer (some ⟨b102, 0, none⟩))), (23, (Value.slice a110 ((spansL (laxF s q (by_ % 400)) ts).length) c111)), (213, (Value.slice (some ⟨b37, 0, none⟩) 2 2)), (214, (Value.int .i64 2)), (215, (Value.int .i64 0)), (244, (Value.int .i64 (((spansL s ts).length : Nat) : Int))), (245, (Value.int .i64 ((i : Nat) : Int)))] [(own a110 c111 26 2 ((spansL (laxF s q (by_ % 400)) ts).map SpanV.cells)), (blk b102 28 (SledV.cells (laxF s q (by_ % 400)))), (blk b100 24 (TrackV.cells (TrackV.mk (Slc.mk tsA ts.length tsC)))), (blk b37 24 ((TrackV.cells (TrackV.mk (Slc.mk tsA ts.length tsC))) ++ (TrackV.cells (TrackV.mk (Slc.mk a29 ((wideT ts q (by_ % 400)).length) c30))))), (own a29 c30 77 9 ((wideT ts q (by_ % 400)).map StretchV.cells)), (blk b21 28 (SledV.cells (laxF s q (by_ % 400)))), (own a11 c12 26 2 ((spansL s ts).map SpanV.cells)), (blk b3 28 (SledV.cells s)), (blk b2 24 (TrackV.cells (TrackV.mk (Slc.mk tsA ts.length tsC)))), (rd tsA ts.length 9 (ts.map StretchV.cells)).ro]
         refine WS fun _ hK118 => ?_
         refine rS (BI rfl b_lss) ?_
         refine RK hK118 ?_
         refine w_seq fun _ hK119 => ?_
         refine w_if rfl (fun h120 => ?_) (fun h120 => ?_)
         · replace h120 := DT h120
           refine WK hK119 ?_
           refine w_seq fun _ hK121 => ?_
           refine w_block ?_
           refine WS fun _ hK122 => ?_
           refine rS (MV rfl) ?_
           refine rS (AG rfl) ?_
           refine RK hK122 ?_
           refine w_seq fun _ hK123 => ?_
           refine w_draw mixed 24 (by kernel_rfl) ?_
           refine dS (MV rfl) ?_
           refine dS (MV rfl) ?_
           obtain ⟨y, hy⟩ : ∃ y_, (spansL (laxF s q (by_ % 400)) ts)[i]? = some y_ := ⟨(spansL (laxF s q (by_ % 400)) ts)[i]'(by omega), List.getElem?_eq_getElem _⟩
           have hym : ((spansL (laxF s q (by_ % 400)) ts).map SpanV.cells)[i]? = some (SpanV.cells y) := by rw [List.getElem?_map, hy]; rfl
           refine dS (IA i rfl (has_own_n (n := (spansL (laxF s q (by_ % 400)) ts).length) 0 rfl (by simp)) te31 (by decide) (by omega) (by omega)) ?_
           refine dS (FAR (i * 2) rfl (has_own_n (n := (spansL (laxF s q (by_ % 400)) ts).length) 0 rfl (by simp)) (Nat.mul_pos (by omega) (by decide)) fo26_0 rfl) ?_
           refine dS (LE1 i 0 (Value.int .i64 y.Lo) rfl tk3 (has_own_n (n := (spansL (laxF s q (by_ % 400)) ts).length) 0 rfl (by simp)) hym rfl (by decide) rfl) ?_
           refine dS (MV rfl) ?_
           refine dS (MV rfl) ?_
           obtain ⟨z, hzz⟩ : ∃ y_, (spansL s ts)[i]? = some y_ := ⟨(spansL s ts)[i]'(by omega), List.getElem?_eq_getElem _⟩
           have hzzm : ((spansL s ts).map SpanV.cells)[i]? = some (SpanV.cells z) := by rw [List.getElem?_map, hzz]; rfl
           refine dS (IA i rfl (has_own_n (n := (spansL s ts).length) 6 rfl (by simp)) te31 (by decide) (by omega) (by omega)) ?_
           refine dS (FAR (i * 2) rfl (has_own_n (n := (spansL s ts).length) 6 rfl (by simp)) (Nat.mul_pos (by omega) (by decide)) fo26_0 rfl) ?_
           refine dS (LE1 i 0 (Value.int .i64 z.Lo) rfl tk3 (has_own_n (n := (spansL s ts).length) 6 rfl (by simp)) hzzm rfl (by decide) rfl) ?_
           have yv : y = spanAt (laxF s q (by_ % 400)) ts i := by rw [spansL_get (by first | omega | (simp; omega))] at hy; exact (Option.some.inj hy).symm
           have zv : z = spanAt s ts i := by rw [spansL_get (by first | omega | (simp; omega))] at hzz; exact (Option.some.inj hzz).symm
           have hin := head_in hs hr2 hst hst (lax_in (by omega)) (.refl _) i
           have ey1 : y.Lo = headAt false (laxF s q (by_ % 400)) ts i := by rw [yv]; rfl
           have ey2 : y.Hi = headAt true (laxF s q (by_ % 400)) ts i := by rw [yv]; rfl
           have ez1 : z.Lo = headAt false s ts i := by rw [zv]; rfl
           have ez2 : z.Hi = headAt true s ts i := by rw [zv]; rfl
           refine dS (BI rfl b_gtr) ?_
           refine dS (MV rfl) ?_
           refine d_bool (t := 259) rfl (fun h124 => ?_) (fun h124 => ?_)
           · replace h124 := DT h124
             exfalso; omega
           replace h124 := DF h124
           refine dS (MV rfl) ?_
           refine dS (MV rfl) ?_
           refine dS (IA i rfl (has_own_n (n := (spansL (laxF s q (by_ % 400)) ts).length) 0 rfl (by simp)) te31 (by decide) (by omega) (by omega)) ?_
           refine dS (FAR ((i * 2) + 1) rfl (has_own_n (n := (spansL (laxF s q (by_ % 400)) ts).length) 0 rfl (by simp)) (Nat.mul_pos (by omega) (by decide)) fo26_1 rfl) ?_
           refine dS (LE1 i 1 (Value.int .i64 y.Hi) rfl tk3 (has_own_n (n := (spansL (laxF s q (by_ % 400)) ts).length) 0 rfl (by simp)) hym rfl (by decide) rfl) ?_
           refine dS (MV rfl) ?_
           refine dS (MV rfl) ?_
           refine dS (IA i rfl (has_own_n (n := (spansL s ts).length) 6 rfl (by simp)) te31 (by decide) (by omega) (by omega)) ?_
           refine dS (FAR ((i * 2) + 1) rfl (has_own_n (n := (spansL s ts).length) 6 rfl (by simp)) (Nat.mul_pos (by omega) (by decide)) fo26_1 rfl) ?_
           refine dS (LE1 i 1 (Value.int .i64 z.Hi) rfl tk3 (has_own_n (n := (spansL s ts).length) 6 rfl (by simp)) hzzm rfl (by decide) rfl) ?_
           refine dS (BI rfl b_lss) ?_
           refine dS (PK rfl) ?_
           refine d_end ?_
           refine RK hK123 ?_
           refine w_if rfl (fun h125 => ?_) (fun h125 => ?_)
           · replace h125 := DT h125
             exfalso; omega
           replace h125 := DF h125
           refine w_skip ?_
           refine k_block ?_
           refine KK hK121 ?_
           refine w_region ?_
           refine rS (BI rfl (b_add ⟨by omega, by omega⟩)) ?_
           refine rS (MV rfl) ?_
           refine r_nil ?_
           have hb126 : (Value.int .i64 (((i + 1) : Nat) : Int)) = (Value.int .i64 (((i : Nat) : Int) + 1)) := by exact congrArg (Value.int .i64) (by omega)
           refine k_then (hJ117 ⟨(i + 1), (by first | omega | (simp only []; omega))⟩ _ _ _ rfl (by first | omega | (simp; omega)) (Sub.cons rfl <| Sub.cons rfl <| Sub.cons rfl <| Sub.cons rfl <| Sub.cons rfl <| Sub.cons rfl <| Sub.cons rfl <| Sub.cons rfl <| Sub.cons rfl <| Sub.cons rfl <| Sub.cons rfl <| Sub.cons rfl <| Sub.cons rfl <| sub_val rfl hb126 <| Sub.nil _) (fun w hs => St.sel [0, 1, 2, 3, 4, 5, 6, 7, 8, 9] rfl rfl hs))
         replace h120 := DF h120
         refine w_exit ?_
         refine k_exit_then ?_
         refine k_exit_then ?_
         refine k_exit_same ?_
         refine KK hK115 ?_
         refine WS fun _ hK127 => ?_
         refine rS (FA 0 rfl fo24_0 rfl) ?_
         refine rS (L1 (Value.slice tsA ts.length tsC) 8 rfl tk22 rfl rfl) ?_
         refine rS (LN rfl ut22) ?_
         refine rS (MV rfl) ?_
         refine RK hK127 ?_
         refine w_block ?_
         have hinit : (0 ≤ ts.length) := by exact Nat.zero_le _
         refine w_loop (ι := { z : Nat // (z ≤ ts.length) }) (fun z => [(4, (Value.pointer (some ⟨b2, 0, none⟩))), (5, (Value.pointer (some ⟨b3, 0, none⟩))), (9, (Value.bool true)), (10, (Value.slice a11 ((spansL s ts).length) c12)), (14, (Value.pointer (some ⟨b21, 0, none⟩))), (20, (Value.int .i64 0)), (21, (Value.pointer (some ⟨b100, 0, none⟩))), (22, (Value.pointer (some ⟨b102, 0, none⟩))), (23, (Value.slice a110 ((spansL (laxF s q (by_ % 400)) ts).length) c111)), (213, (Value.slice (some ⟨b37, 0, none⟩) 2 2)), (214, (Value.int .i64 2)), (215, (Value.int .i64 0)), (274, (Value.slice tsA ts.length tsC)), (275, (Value.int .i64 ((ts.length : Nat) : Int))), (276, (Value.int .i64 ((z.1 : Nat) : Int)))]) (fun z => [(own a110 c111 26 2 ((spansL (laxF s q (by_ % 400)) ts).map SpanV.cells)), (blk b102 28 (SledV.cells (laxF s q (by_ % 400)))), (blk b100 24 (TrackV.cells (TrackV.mk (Slc.mk tsA ts.length tsC)))), (blk b37 24 ((TrackV.cells (TrackV.mk (Slc.mk tsA ts.length tsC))) ++ (TrackV.cells (TrackV.mk (Slc.mk a29 ((wideT ts q (by_ % 400)).length) c30))))), (own a29 c30 77 9 ((wideT ts q (by_ % 400)).map StretchV.cells)), (blk b21 28 (SledV.cells (laxF s q (by_ % 400)))), (own a11 c12 26 2 ((spansL s ts).map SpanV.cells)), (blk b3 28 (SledV.cells s)), (blk b2 24 (TrackV.cells (TrackV.mk (Slc.mk tsA ts.length tsC)))), (rd tsA ts.length 9 (ts.map StretchV.cells)).ro]) (fun z => ts.length - z.1) ⟨0, hinit⟩ (Sub.cons rfl <| Sub.cons rfl <| Sub.cons rfl <| Sub.cons rfl <| Sub.cons rfl <| Sub.cons rfl <| Sub.cons rfl <| Sub.cons rfl <| Sub.cons rfl <| Sub.cons rfl <| Sub.cons rfl <| Sub.cons rfl <| Sub.cons rfl <| Sub.cons rfl <| Sub.cons rfl <| Sub.nil _) (fun w hs => St.sel [0, 1, 2, 3, 4, 5, 6, 7, 8, 9] rfl rfl hs) ?_
         clear hinit
         rintro ⟨i, hl49_0⟩ J128 hJ128
         change WJ _ _ _ _ [(4, (Value.pointer (some ⟨b2, 0, none⟩))), (5, (Value.pointer (some ⟨b3, 0, none⟩))), (9, (Value.bool true)), (10, (Value.slice a11 ((spansL s ts).length) c12)), (14, (Value.pointer (some ⟨b21, 0, none⟩))), (20, (Value.int .i64 0)), (21, (Value.pointer (some ⟨b100, 0, none⟩))), (22, (Value.pointer (some ⟨b102, 0, none⟩))), (23, (Value.slice a110 ((spansL (laxF s q (by_ % 400)) ts).length) c111)), (213, (Value.slice (some ⟨b37, 0, none⟩) 2 2)), (214, (Value.int .i64 2)), (215, (Value.int .i64 0)), (274, (Value.slice tsA ts.length tsC)), (275, (Value.int .i64 ((ts.length : Nat) : Int))), (276, (Value.int .i64 ((i : Nat) : Int)))] [(own a110 c111 26 2 ((spansL (laxF s q (by_ % 400)) ts).map SpanV.cells)), (blk b102 28 (SledV.cells (laxF s q (by_ % 400)))), (blk b100 24 (TrackV.cells (TrackV.mk (Slc.mk tsA ts.length tsC)))), (blk b37 24 ((TrackV.cells (TrackV.mk (Slc.mk tsA ts.length tsC))) ++ (TrackV.cells (TrackV.mk (Slc.mk a29 ((wideT ts q (by_ % 400)).length) c30))))), (own a29 c30 77 9 ((wideT ts q (by_ % 400)).map StretchV.cells)), (blk b21 28 (SledV.cells (laxF s q (by_ % 400)))), (own a11 c12 26 2 ((spansL s ts).map SpanV.cells)), (blk b3 28 (SledV.cells s)), (blk b2 24 (TrackV.cells (TrackV.mk (Slc.mk tsA ts.length tsC)))), (rd tsA ts.length 9 (ts.map StretchV.cells)).ro]
         refine WS fun _ hK129 => ?_
         refine rS (BI rfl b_lss) ?_
         refine RK hK129 ?_
         refine w_seq fun _ hK130 => ?_
         refine w_if rfl (fun h131 => ?_) (fun h131 => ?_)
         rotate_left 1
         · replace h131 := DF h131
           refine w_exit ?_
           refine k_exit_then ?_
           refine k_exit_then ?_
           refine k_exit_same ?_
           refine k_block ?_
           refine k_then (k_sub (Sub.cons rfl <| Sub.cons rfl <| Sub.cons rfl <| Sub.cons rfl <| Sub.cons rfl <| Sub.cons rfl <| Sub.cons rfl <| Sub.cons rfl <| Sub.nil _) (fun w hs => St.sel [3, 4, 5, 6, 7, 8, 9] rfl rfl hs) (hK41 ()))
         replace h131 := DT h131
         refine WK hK130 ?_
         refine w_seq fun _ hK132 => ?_
         refine w_block ?_
         refine WS fun _ hK133 => ?_
         refine rS (MV rfl) ?_
         obtain ⟨x, hx⟩ : ∃ y_, ts[i]? = some y_ := ⟨ts[i]'(by omega), List.getElem?_eq_getElem _⟩
         have hxm : (ts.map StretchV.cells)[i]? = some (StretchV.cells x) := by rw [List.getElem?_map, hx]; rfl
         refine rS (IA i rfl (has_at 9 rfl) te22 (by decide) (by omega) (by omega)) ?_
         refine rS (LEN i 0 (StretchV.cells x) rfl tk77 (has_at 9 rfl) hxm rfl (by decide) rfl rfl) ?_
         refine AL rfl tz77 fun b134 => ?_
         refine rS (AG rfl) ?_
         refine SW0 rfl ts77 rfl ?_
         refine RK hK133 ?_
         refine w_seq fun _ hK135 => ?_
         refine WS fun _ hK136 => ?_
         have hsd := hside x (List.mem_of_getElem? hx)
         refine rS (FA 7 rfl fo77_4 rfl) ?_
         refine rS (L1 (Value.int .u8 x.Side) 0 rfl tk5 rfl rfl) ?_
         refine rS (BI rfl b_eql) ?_
         refine RK hK136 ?_
         refine w_if rfl (fun hd => ?_) (fun hd => ?_)
         · replace hd := DT hd
           refine w_exit ?_
           refine k_exit_then ?_
           refine k_exit_same ?_
           refine KK hK132 ?_
           refine w_region ?_
           refine rS (BI rfl (b_add ⟨by omega, by omega⟩)) ?_
           refine rS (MV rfl) ?_
           refine r_nil ?_
           have hb137 : (Value.int .i64 (((i + 1) : Nat) : Int)) = (Value.int .i64 (((i : Nat) : Int) + 1)) := by exact congrArg (Value.int .i64) (by omega)
           refine k_then (hJ128 ⟨(i + 1), (by first | omega | (simp only []; omega))⟩ _ _ _ rfl (by first | omega | (simp; omega)) (Sub.cons rfl <| Sub.cons rfl <| Sub.cons rfl <| Sub.cons rfl <| Sub.cons rfl <| Sub.cons rfl <| Sub.cons rfl <| Sub.cons rfl <| Sub.cons rfl <| Sub.cons rfl <| Sub.cons rfl <| Sub.cons rfl <| Sub.cons rfl <| Sub.cons rfl <| sub_val rfl hb137 <| Sub.nil _) (fun w hs => St.sel [1, 2, 3, 4, 5, 6, 7, 8, 9, 10] rfl rfl hs))
         replace hd := DF hd
         refine WK hK135 ?_
         refine WS fun _ hK138 => ?_
         have hxu : ts[i]? = some x := hx
         have hgi := hgt_in hs hr2 hst hst (lax_in (by omega)) (.refl _) hx hd
         have hn2 := height_nat hb2 hx hd
         refine rS (LW 9 rfl tk24 rfl rfl) ?_
         refine rS (LW 8 rfl tk28 rfl rfl) ?_
         refine rS (MV rfl) ?_
         refine rS (CL (height_c ts tsA tsC s ((i : Nat) : Int) (by first | assumption | omega | (simp; done) | (simp; omega)) hside) (ha_at 10 rfl rfl <| ha_nil) rfl) ?_
         rw [(height_nat hb0 hx hd).2]
         refine rS (MV rfl) ?_
         refine rS (EX rfl) ?_
         refine rS (EX rfl) ?_
         refine AL rfl tz26 fun b139 => ?_
         refine SW0 rfl ts26 rfl ?_
         refine rS (AG rfl) ?_
         refine RK hK138 ?_
         refine WS fun _ hK140 => ?_
         refine rS (LW 4 rfl tk24 rfl rfl) ?_
         refine rS (LW 3 rfl tk28 rfl rfl) ?_
         refine rS (MV rfl) ?_
         refine rS (CL (height_c ts tsA tsC (laxF s q (by_ % 400)) ((i : Nat) : Int) (by first | omega | (simp; omega)) (by first | assumption | exact wideT_side hside)) (ha_at 11 rfl rfl <| ha_nil) rfl) ?_
         rw [hn2.2]
         refine rS (MV rfl) ?_
         refine rS (EX rfl) ?_
         refine rS (EX rfl) ?_
         refine AL rfl tz26 fun b141 => ?_
         refine SW0 rfl ts26 rfl ?_
         refine rS (AG rfl) ?_
         refine RK hK140 ?_
         refine w_seq fun _ hK142 => ?_
         have hb143 : (SpanV.cells (heightV s ts ((i : Nat) : Int))) = (SpanV.cells (SpanV.mk (hgt false s ts i) (hgt true s ts i))) := by rw [(height_nat hb0 hx hd).1]
         rw [hb143]
         have hb144 : (SpanV.cells (heightV (laxF s q (by_ % 400)) ts ((i : Nat) : Int))) = (SpanV.cells (SpanV.mk (hgt false (laxF s q (by_ % 400)) ts i) (hgt true (laxF s q (by_ % 400)) ts i))) := by rw [hn2.1]
         rw [hb144]
         refine w_region ?_
         refine rS (MV rfl) ?_
         refine rS (SX (sd_bin (r := .bool false) rfl rfl rfl b_neq) rfl rfl) ?_
         refine rS (MV rfl) ?_
         refine rS (MV rfl) ?_
         refine rS (SX (sd_bin (r := .bool false) rfl rfl rfl b_neq) rfl rfl) ?_
         refine rS (PK rfl) ?_
         refine rS (MV rfl) ?_
         refine rS (FA 0 rfl fo26_0 rfl) ?_
         refine rS (L1 (Value.int .i64 (hgt false (laxF s q (by_ % 400)) ts i)) 0 rfl tk3 rfl rfl) ?_
         refine rS (FA 0 rfl fo26_0 rfl) ?_
         refine rS (L1 (Value.int .i64 (hgt false s ts i)) 1 rfl tk3 rfl rfl) ?_
         refine rS (BI rfl b_gtr) ?_
         refine rS (PK rfl) ?_
         refine rS (MV rfl) ?_
         refine r_bool (t := 311) rfl (fun h145 => ?_) (fun h145 => ?_)
         · replace h145 := DT h145
           exfalso; omega
         replace h145 := DF h145
         refine rS (FA 1 rfl fo26_1 rfl) ?_
         refine rS (L1 (Value.int .i64 (hgt true (laxF s q (by_ % 400)) ts i)) 0 rfl tk3 rfl rfl) ?_
         refine rS (FA 1 rfl fo26_1 rfl) ?_
         refine rS (L1 (Value.int .i64 (hgt true s ts i)) 1 rfl tk3 rfl rfl) ?_
         refine rS (BI rfl b_lss) ?_
         refine rS (PK rfl) ?_
         refine RK hK142 ?_
         refine w_if rfl (fun h146 => ?_) (fun h146 => ?_)
         · replace h146 := DT h146
           exfalso; omega
         replace h146 := DF h146
         refine w_skip ?_
         refine k_block ?_
         refine KK hK132 ?_
         refine w_region ?_
         refine rS (BI rfl (b_add ⟨by omega, by omega⟩)) ?_
         refine rS (MV rfl) ?_
         refine r_nil ?_
         have hb147 : (Value.int .i64 (((i + 1) : Nat) : Int)) = (Value.int .i64 (((i : Nat) : Int) + 1)) := by exact congrArg (Value.int .i64) (by omega)
         refine k_then (hJ128 ⟨(i + 1), (by first | omega | (simp only []; omega))⟩ _ _ _ rfl (by first | omega | (simp; omega)) (Sub.cons rfl <| Sub.cons rfl <| Sub.cons rfl <| Sub.cons rfl <| Sub.cons rfl <| Sub.cons rfl <| Sub.cons rfl <| Sub.cons rfl <| Sub.cons rfl <| Sub.cons rfl <| Sub.cons rfl <| Sub.cons rfl <| Sub.cons rfl <| Sub.cons rfl <| sub_val rfl hb147 <| Sub.nil _) (fun w hs => St.sel [3, 4, 5, 6, 7, 8, 9, 10, 11, 12] rfl rfl hs))
       refine WS fun _ hK148 => ?_
       have hxo := hst x (List.mem_of_getElem? hx)
       have v1 := hxo.2.1
       have v2 := hxo.2.2.1
       simp only [SpanOk] at v1 v2
       refine rS (MV rfl) ?_
       refine rS (BI rfl (b_rem (by omega) (by omega))) ?_
       refine rS (BI rfl b_eql) ?_
       refine RK hK148 ?_
       refine w_if rfl (fun h190 => ?_) (fun h190 => ?_)
       rotate_left 1
       · replace h190 := DF h190
         refine w_own_some 1 rfl (by simp; omega) (fun ad152 ha153 => ?_)
         refine w_region ?_
         refine rS (MV rfl) ?_
         refine rS (SX (sd_nil_pd rfl rfl ha153) rfl rfl) ?_
         refine rS (FAP (((((q % ((ts.length : Nat) : Int))).toNat) * 9) + 3) rfl ha153 fo77_2 rfl) ?_
         refine rS (FAP ((((((q % ((ts.length : Nat) : Int))).toNat) * 9) + 3) + 1) rfl ha153 fo26_1 rfl) ?_
         refine rS (LE1 (((q % ((ts.length : Nat) : Int))).toNat) 4 (Value.int .i64 x.Fall.Hi) rfl tk3 (has_own_n (n := ts.length) 1 rfl (by simp)) hxm rfl (by decide) rfl) ?_
         refine rS (MV rfl) ?_
         refine rS (BI rfl (b_add ⟨by omega, by omega⟩)) ?_
         refine rS (SX (sd_nil_pd rfl rfl ha153) rfl rfl) ?_
         refine rS (FAP (((((q % ((ts.length : Nat) : Int))).toNat) * 9) + 3) rfl ha153 fo77_2 rfl) ?_
         refine rS (FAP ((((((q % ((ts.length : Nat) : Int))).toNat) * 9) + 3) + 1) rfl ha153 fo26_1 rfl) ?_
         have hb154 : (ts.set (((q % ((ts.length : Nat) : Int))).toNat) (StretchV.mk x.Id x.Long (SpanV.mk x.Fall.Lo (x.Fall.Hi + (by_ % 400))) x.Radius x.Side x.Wall)) = (wideT ts q (by_ % 400)) := by exact wideT_set hx (by unfold wideX; rw [if_neg h190])
         refine r_store_own (k := ((q % ((ts.length : Nat) : Int))).toNat) (o := 4) (vs := [(Value.int .i64 (x.Fall.Hi + (by_ % 400)))]) (es' := (List.map StretchV.cells (wideT ts q (by_ % 400)))) (C' := [_, (own a29 c30 77 9 (List.map StretchV.cells (wideT ts q (by_ % 400)))), _, _, _, _, _]) 1 rfl rfl rfl ts3 rfl rfl rfl rfl hxm rfl (by decide) (by exact (List.map_set (f := StretchV.cells) (l := ts) (i := ((q % ((ts.length : Nat) : Int))).toNat) (a := (StretchV.mk x.Id x.Long (SpanV.mk x.Fall.Lo (x.Fall.Hi + (by_ % 400))) x.Radius x.Side x.Wall))).symm.trans (congrArg _ hb154)) rfl ?_
         refine r_nil ?_
         refine k_then (k_sub (Sub.cons rfl <| Sub.cons rfl <| Sub.cons rfl <| Sub.cons rfl <| Sub.cons rfl <| Sub.cons rfl <| Sub.nil _) (fun w hs => St.sel [0, 1, 2, 3, 4, 5, 6] rfl rfl hs) (hK33 ()))
       replace h190 := DT h190
       refine w_own_some 1 rfl (by simp; omega) (fun ad149 ha150 => ?_)
       refine w_region ?_
       refine rS (MV rfl) ?_
       refine rS (SX (sd_nil_pd rfl rfl ha150) rfl rfl) ?_
       refine rS (FAP (((((q % ((ts.length : Nat) : Int))).toNat) * 9) + 1) rfl ha150 fo77_1 rfl) ?_
       refine rS (FAP ((((((q % ((ts.length : Nat) : Int))).toNat) * 9) + 1) + 1) rfl ha150 fo26_1 rfl) ?_
       refine rS (LE1 (((q % ((ts.length : Nat) : Int))).toNat) 2 (Value.int .i64 x.Long.Hi) rfl tk3 (has_own_n (n := ts.length) 1 rfl (by simp)) hxm rfl (by decide) rfl) ?_
       refine rS (MV rfl) ?_
       refine rS (BI rfl (b_add ⟨by omega, by omega⟩)) ?_
       refine rS (SX (sd_nil_pd rfl rfl ha150) rfl rfl) ?_
       refine rS (FAP (((((q % ((ts.length : Nat) : Int))).toNat) * 9) + 1) rfl ha150 fo77_1 rfl) ?_
       refine rS (FAP ((((((q % ((ts.length : Nat) : Int))).toNat) * 9) + 1) + 1) rfl ha150 fo26_1 rfl) ?_
       have hb151 : (ts.set (((q % ((ts.length : Nat) : Int))).toNat) (StretchV.mk x.Id (SpanV.mk x.Long.Lo (x.Long.Hi + (by_ % 400))) x.Fall x.Radius x.Side x.Wall)) = (wideT ts q (by_ % 400)) := by exact wideT_set hx (by unfold wideX; rw [if_pos h190])
       refine r_store_own (k := ((q % ((ts.length : Nat) : Int))).toNat) (o := 2) (vs := [(Value.int .i64 (x.Long.Hi + (by_ % 400)))]) (es' := (List.map StretchV.cells (wideT ts q (by_ % 400)))) (C' := [_, (own a29 c30 77 9 (List.map StretchV.cells (wideT ts q (by_ % 400)))), _, _, _, _, _]) 1 rfl rfl rfl ts3 rfl rfl rfl rfl hxm rfl (by decide) (by exact (List.map_set (f := StretchV.cells) (l := ts) (i := ((q % ((ts.length : Nat) : Int))).toNat) (a := (StretchV.mk x.Id (SpanV.mk x.Long.Lo (x.Long.Hi + (by_ % 400))) x.Fall x.Radius x.Side x.Wall))).symm.trans (congrArg _ hb151)) rfl ?_
       refine r_nil ?_
       refine k_then (k_sub (Sub.cons rfl <| Sub.cons rfl <| Sub.cons rfl <| Sub.cons rfl <| Sub.cons rfl <| Sub.cons rfl <| Sub.nil _) (fun w hs => St.sel [0, 1, 2, 3, 4, 5, 6] rfl rfl hs) (hK33 ()))
     refine WS fun _ hK155 => ?_
     refine rS (LW 1 rfl tk28 rfl rfl) ?_
     refine rS (CL (sled_c (betF s q (by_ % 400)) (by rw [bet_class]; exact hc)) (ha_nil) rfl) ?_
     refine RK hK155 ?_
     refine w_if rfl (fun hz => ?_) (fun hz => ?_)
     rotate_left 1
     · replace hz := DF hz
       refine w_skip ?_
       refine k_then (k_sub (Sub.cons rfl <| Sub.cons rfl <| Sub.cons rfl <| Sub.cons rfl <| Sub.cons rfl <| Sub.cons rfl <| Sub.cons rfl <| Sub.cons rfl <| Sub.nil _) (fun w hs => St.sel [0, 2, 3, 4, 5] rfl rfl hs) (hK25 ()))
     replace hz := DT hz
     refine WS fun _ hK156 => ?_
     have hbz := bothE_ok htr hz
     refine rS (LW 4 rfl tk24 rfl rfl) ?_
     refine rS (LW 1 rfl tk28 rfl rfl) ?_
     refine cX (heads_c ts tsA tsC (betF s q (by_ % 400)) (by first | assumption | omega | (simp; done) | (simp; omega)) hside) (ha_at 5 rfl rfl <| ha_nil) rfl fun y157 hy158 => ?_
     obtain ⟨a159, c160⟩ := y157
     change RJ _ _ _ _ _ ((_, (Value.tuple [(Value.slice a159 ((spansU (betF s q (by_ % 400)) ts).length) c160), (Value.int .i64 (bothE (betF s q (by_ % 400)) ts))].toArray)) :: _) ((own a159 c160 26 2 ((spansU (betF s q (by_ % 400)) ts).map SpanV.cells)) :: _)
     rw [spansU_ok htr hz]
     rw [hbz]
     refine rS (MV rfl) ?_
     refine rS (EX rfl) ?_
     refine rS (EX rfl) ?_
     refine rS (AG rfl) ?_
     refine rS (AG rfl) ?_
     refine RK hK156 ?_
     refine w_seq fun _ hK161 => ?_
     refine WS fun _ hK162 => ?_
     have e1 := spansL_length (s := (betF s q (by_ % 400))) (ts := ts)
     refine rS (MV rfl) ?_
     refine rS (SX (sd_bin (r := .bool false) rfl rfl rfl b_neq) rfl rfl) ?_
     refine rS (MV rfl) ?_
     refine rS (MV rfl) ?_
     refine rS (LN rfl ut31) ?_
     refine rS (MV rfl) ?_
     refine rS (LN rfl ut31) ?_
     refine rS (BI rfl b_neq) ?_
     refine rS (PK rfl) ?_
     refine RK hK162 ?_
     refine w_if rfl (fun h163 => ?_) (fun h163 => ?_)
     · replace h163 := XT h163
       exfalso; omega
     replace h163 := XF h163
     refine WK hK161 ?_
     refine WS fun _ hK164 => ?_
     refine rS (MV rfl) ?_
     refine rS (LN rfl ut31) ?_
     refine rS (MV rfl) ?_
     refine RK hK164 ?_
     refine w_block ?_
     have hinit : (0 ≤ ts.length + 1) := by exact Nat.zero_le _
     refine w_loop (ι := { z : Nat // (z ≤ ts.length + 1) }) (fun z => [(2, (Value.int .u8 q)), (3, (Value.int .u16 by_)), (4, (Value.pointer (some ⟨b2, 0, none⟩))), (5, (Value.pointer (some ⟨b3, 0, none⟩))), (9, (Value.bool true)), (10, (Value.slice a11 ((spansL s ts).length) c12)), (12, (Value.int .i64 (by_ % 400))), (13, (Value.pointer (some ⟨b19, 0, none⟩))), (14, (Value.pointer (some ⟨b21, 0, none⟩))), (15, (Value.slice a159 ((spansL (betF s q (by_ % 400)) ts).length) c160)), (148, (Value.int .i64 (((spansL s ts).length : Nat) : Int))), (149, (Value.int .i64 ((z.1 : Nat) : Int)))]) (fun z => [(own a159 c160 26 2 ((spansL (betF s q (by_ % 400)) ts).map SpanV.cells)), (blk b21 28 (SledV.cells (laxF s q (by_ % 400)))), (blk b19 28 (SledV.cells (betF s q (by_ % 400)))), (own a11 c12 26 2 ((spansL s ts).map SpanV.cells)), (blk b3 28 (SledV.cells s)), (blk b2 24 (TrackV.cells (TrackV.mk (Slc.mk tsA ts.length tsC)))), (rd tsA ts.length 9 (ts.map StretchV.cells)).ro]) (fun z => ts.length + 1 - z.1) ⟨0, hinit⟩ (Sub.cons rfl <| Sub.cons rfl <| Sub.cons rfl <| Sub.cons rfl <| Sub.cons rfl <| Sub.cons rfl <| Sub.cons rfl <| Sub.cons rfl <| Sub.cons rfl <| Sub.cons rfl <| Sub.cons rfl <| Sub.cons rfl <| Sub.nil _) (fun w hs => St.sel [0, 1, 2, 3, 4, 5, 6] rfl rfl hs) ?_
     clear hinit
     rintro ⟨i, hl22_0⟩ J165 hJ165
     change WJ _ _ _ _ [(2, (Value.int .u8 q)), (3, (Value.int .u16 by_)), (4, (Value.pointer (some ⟨b2, 0, none⟩))), (5, (Value.pointer (some ⟨b3, 0, none⟩))), (9, (Value.bool true)), (10, (Value.slice a11 ((spansL s ts).length) c12)), (12, (Value.int .i64 (by_ % 400))), (13, (Value.pointer (some ⟨b19, 0, none⟩))), (14, (Value.pointer (some ⟨b21, 0, none⟩))), (15, (Value.slice a159 ((spansL (betF s q (by_ % 400)) ts).length) c160)), (148, (Value.int .i64 (((spansL s ts).length : Nat) : Int))), (149, (Value.int .i64 ((i : Nat) : Int)))] [(own a159 c160 26 2 ((spansL (betF s q (by_ % 400)) ts).map SpanV.cells)), (blk b21 28 (SledV.cells (laxF s q (by_ % 400)))), (blk b19 28 (SledV.cells (betF s q (by_ % 400)))), (own a11 c12 26 2 ((spansL s ts).map SpanV.cells)), (blk b3 28 (SledV.cells s)), (blk b2 24 (TrackV.cells (TrackV.mk (Slc.mk tsA ts.length tsC)))), (rd tsA ts.length 9 (ts.map StretchV.cells)).ro]
     refine WS fun _ hK166 => ?_
     refine rS (BI rfl b_lss) ?_
     refine RK hK166 ?_
     refine w_seq fun _ hK167 => ?_
     refine w_if rfl (fun h168 => ?_) (fun h168 => ?_)
     rotate_left 1
     · replace h168 := DF h168
       refine w_exit ?_
       refine k_exit_then ?_
       refine k_exit_then ?_
       refine k_exit_same ?_
       refine k_then (k_sub (Sub.cons rfl <| Sub.cons rfl <| Sub.cons rfl <| Sub.cons rfl <| Sub.cons rfl <| Sub.cons rfl <| Sub.cons rfl <| Sub.cons rfl <| Sub.nil _) (fun w hs => St.sel [1, 3, 4, 5, 6] rfl rfl hs) (hK25 ()))
     replace h168 := DT h168
     refine WK hK167 ?_
     refine w_seq fun _ hK169 => ?_
     refine w_block ?_
     refine WS fun _ hK170 => ?_
     refine rS (MV rfl) ?_
     refine rS (AG rfl) ?_
     refine RK hK170 ?_
     refine w_seq fun _ hK171 => ?_
     refine w_draw mixed 24 (by kernel_rfl) ?_
     refine dS (MV rfl) ?_
     refine dS (MV rfl) ?_
     obtain ⟨y, hy⟩ : ∃ y_, (spansL (betF s q (by_ % 400)) ts)[i]? = some y_ := ⟨(spansL (betF s q (by_ % 400)) ts)[i]'(by omega), List.getElem?_eq_getElem _⟩
     have hym : ((spansL (betF s q (by_ % 400)) ts).map SpanV.cells)[i]? = some (SpanV.cells y) := by rw [List.getElem?_map, hy]; rfl
     refine dS (IA i rfl (has_own_n (n := (spansL (betF s q (by_ % 400)) ts).length) 0 rfl (by simp)) te31 (by decide) (by omega) (by omega)) ?_
     refine dS (FAR (i * 2) rfl (has_own_n (n := (spansL (betF s q (by_ % 400)) ts).length) 0 rfl (by simp)) (Nat.mul_pos (by omega) (by decide)) fo26_0 rfl) ?_
     refine dS (LE1 i 0 (Value.int .i64 y.Lo) rfl tk3 (has_own_n (n := (spansL (betF s q (by_ % 400)) ts).length) 0 rfl (by simp)) hym rfl (by decide) rfl) ?_
     refine dS (MV rfl) ?_
     refine dS (MV rfl) ?_
     obtain ⟨z, hzz⟩ : ∃ y_, (spansL s ts)[i]? = some y_ := ⟨(spansL s ts)[i]'(by omega), List.getElem?_eq_getElem _⟩
     have hzzm : ((spansL s ts).map SpanV.cells)[i]? = some (SpanV.cells z) := by rw [List.getElem?_map, hzz]; rfl
     refine dS (IA i rfl (has_own_n (n := (spansL s ts).length) 3 rfl (by simp)) te31 (by decide) (by omega) (by omega)) ?_
     refine dS (FAR (i * 2) rfl (has_own_n (n := (spansL s ts).length) 3 rfl (by simp)) (Nat.mul_pos (by omega) (by decide)) fo26_0 rfl) ?_
     refine dS (LE1 i 0 (Value.int .i64 z.Lo) rfl tk3 (has_own_n (n := (spansL s ts).length) 3 rfl (by simp)) hzzm rfl (by decide) rfl) ?_
     have yv : y = spanAt (betF s q (by_ % 400)) ts i := by rw [spansL_get (by first | omega | (simp; omega))] at hy; exact (Option.some.inj hy).symm
     have zv : z = spanAt s ts i := by rw [spansL_get (by first | omega | (simp; omega))] at hzz; exact (Option.some.inj hzz).symm
     have hb1 := bet_head (b := false) (by omega) hs hz hst i
     have hb2 := bet_head (b := true) (by omega) hs hz hst i
     have ey1 : y.Lo = headAt false (betF s q (by_ % 400)) ts i := by rw [yv]; rfl
     have ey2 : y.Hi = headAt true (betF s q (by_ % 400)) ts i := by rw [yv]; rfl
     have ez1 : z.Lo = headAt false s ts i := by rw [zv]; rfl
     have ez2 : z.Hi = headAt true s ts i := by rw [zv]; rfl
     refine dS (BI rfl b_lss) ?_
     refine dS (MV rfl) ?_
     refine d_bool (t := 163) rfl (fun h172 => ?_) (fun h172 => ?_)
     · replace h172 := DT h172
       exfalso; omega
     replace h172 := DF h172
     refine dS (MV rfl) ?_
     refine dS (MV rfl) ?_
     refine dS (IA i rfl (has_own_n (n := (spansL (betF s q (by_ % 400)) ts).length) 0 rfl (by simp)) te31 (by decide) (by omega) (by omega)) ?_
     refine dS (FAR ((i * 2) + 1) rfl (has_own_n (n := (spansL (betF s q (by_ % 400)) ts).length) 0 rfl (by simp)) (Nat.mul_pos (by omega) (by decide)) fo26_1 rfl) ?_
     refine dS (LE1 i 1 (Value.int .i64 y.Hi) rfl tk3 (has_own_n (n := (spansL (betF s q (by_ % 400)) ts).length) 0 rfl (by simp)) hym rfl (by decide) rfl) ?_
     refine dS (MV rfl) ?_
     refine dS (MV rfl) ?_
     refine dS (IA i rfl (has_own_n (n := (spansL s ts).length) 3 rfl (by simp)) te31 (by decide) (by omega) (by omega)) ?_
     refine dS (FAR ((i * 2) + 1) rfl (has_own_n (n := (spansL s ts).length) 3 rfl (by simp)) (Nat.mul_pos (by omega) (by decide)) fo26_1 rfl) ?_
     refine dS (LE1 i 1 (Value.int .i64 z.Hi) rfl tk3 (has_own_n (n := (spansL s ts).length) 3 rfl (by simp)) hzzm rfl (by decide) rfl) ?_
     refine dS (BI rfl b_lss) ?_
     refine dS (PK rfl) ?_
     refine d_end ?_
     refine RK hK171 ?_
     refine w_if rfl (fun h173 => ?_) (fun h173 => ?_)
     · replace h173 := DT h173
       exfalso; omega
     replace h173 := DF h173
     refine w_skip ?_
     refine k_block ?_
     refine KK hK169 ?_
     refine w_region ?_
     refine rS (BI rfl (b_add ⟨by omega, by omega⟩)) ?_
     refine rS (MV rfl) ?_
     refine r_nil ?_
     have hb174 : (Value.int .i64 (((i + 1) : Nat) : Int)) = (Value.int .i64 (((i : Nat) : Int) + 1)) := by exact congrArg (Value.int .i64) (by omega)
     refine k_then (hJ165 ⟨(i + 1), (by first | omega | (simp only []; omega))⟩ _ _ _ rfl (by first | omega | (simp; omega)) (Sub.cons rfl <| Sub.cons rfl <| Sub.cons rfl <| Sub.cons rfl <| Sub.cons rfl <| Sub.cons rfl <| Sub.cons rfl <| Sub.cons rfl <| Sub.cons rfl <| Sub.cons rfl <| Sub.cons rfl <| sub_val rfl hb174 <| Sub.nil _) (fun w hs => St.sel [0, 1, 2, 3, 4, 5, 6] rfl rfl hs))
   refine WS fun _ hK175 => ?_
   refine rS (MV rfl) ?_
   refine rS (BI rfl (b_rem (by omega) (by omega))) ?_
   refine RK hK175 ?_
   refine w_block ?_
   refine WS fun _ hK176 => ?_
   refine rS (BI rfl b_eql) ?_
   refine rS (AG rfl) ?_
   refine RK hK176 ?_
   refine w_if rfl (fun h82 => ?_) (fun h82 => ?_)
   · replace h82 := DT h82
     refine w_region ?_
     refine rS (FA 7 rfl fo28_4 rfl) ?_
     refine rS (FA 7 rfl fo26_0 rfl) ?_
     refine rS (L1 (Value.int .i64 s.Weight.Lo) 3 rfl tk3 rfl rfl) ?_
     refine rS (MV rfl) ?_
     refine rS (BI rfl (b_mul ⟨by omega, by omega⟩)) ?_
     refine rS (BI rfl (b_add ⟨by omega, by omega⟩)) ?_
     refine rS (FA 7 rfl fo28_4 rfl) ?_
     refine rS (FA 8 rfl fo26_1 rfl) ?_
     refine rS (L1 (Value.int .i64 s.Weight.Hi) 3 rfl tk3 rfl rfl) ?_
     refine rS (MV rfl) ?_
     refine rS (BI rfl (b_mul ⟨by omega, by omega⟩)) ?_
     refine rS (BI rfl (b_add ⟨by omega, by omega⟩)) ?_
     refine rS (CL (lspan_c (s.Weight.Lo + (100 * (by_ % 400))) (s.Weight.Hi + (100 * (by_ % 400)))) (ha_nil) rfl) ?_
     refine rS (FA 7 rfl fo28_4 rfl) ?_
     refine ST1 (SledV.cells (SledV.mk s.Class s.Start s.Rub s.Drag (SpanV.mk (s.Weight.Lo + (100 * (by_ % 400))) (s.Weight.Hi + (100 * (by_ % 400)))) s.Steer)) rfl ts26 rfl rfl ?_
     refine r_nil ?_
     refine k_block ?_
     have hb177 : (SledV.cells (SledV.mk s.Class s.Start s.Rub s.Drag (SpanV.mk (s.Weight.Lo + (100 * (by_ % 400))) (s.Weight.Hi + (100 * (by_ % 400)))) s.Steer)) = (SledV.cells (betF s q (by_ % 400))) := by first | (rw [show (betF s q (by_ % 400)) = { s with Weight := upF (100 * (by_ % 400)) s.Weight } from by unfold betF; rw [if_pos h82]]; rfl) | (rw [show (betF s q (by_ % 400)) = { s with Rub := downF ((by_ % 400) % 9) s.Rub } from by unfold betF; rw [if_neg h82, if_pos h98]]; rfl) | (rw [show (betF s q (by_ % 400)) = { s with Drag := downF ((by_ % 400) % 99) s.Drag } from by unfold betF; rw [if_neg h82, if_neg h98, if_pos h114]]; rfl) | (rw [show (betF s q (by_ % 400)) = { s with Start := upF (by_ % 400) s.Start } from by unfold betF; rw [if_neg h82, if_neg h98, if_neg h114]]; rfl)
     rw [hb177]
     refine k_then (k_sub (Sub.cons rfl <| Sub.cons rfl <| Sub.cons rfl <| Sub.cons rfl <| Sub.cons rfl <| Sub.cons rfl <| Sub.cons rfl <| Sub.cons rfl <| Sub.cons rfl <| Sub.nil _) (fun w hs => St.sel [0, 1, 2, 3, 4, 5] rfl rfl hs) (hK24 ()))
   replace h82 := DF h82
   refine WS fun _ hK178 => ?_
   refine rS (BI rfl b_eql) ?_
   refine rS (AG rfl) ?_
   refine RK hK178 ?_
   refine w_if rfl (fun h98 => ?_) (fun h98 => ?_)
   · replace h98 := DT h98
     refine w_region ?_
     refine rS (FA 3 rfl fo28_2 rfl) ?_
     refine rS (FA 3 rfl fo26_0 rfl) ?_
     refine rS (L1 (Value.int .i64 s.Rub.Lo) 3 rfl tk3 rfl rfl) ?_
     refine rS (MV rfl) ?_
     refine rS (BI rfl (b_rem (by omega) (by omega))) ?_
     refine rS (BI rfl (b_sub ⟨by omega, by omega⟩)) ?_
     refine rS (FA 3 rfl fo28_2 rfl) ?_
     refine rS (FA 4 rfl fo26_1 rfl) ?_
     refine rS (L1 (Value.int .i64 s.Rub.Hi) 3 rfl tk3 rfl rfl) ?_
     refine rS (MV rfl) ?_
     refine rS (BI rfl (b_rem (by omega) (by omega))) ?_
     refine rS (BI rfl (b_sub ⟨by omega, by omega⟩)) ?_
     refine rS (CL (lspan_c (s.Rub.Lo - ((by_ % 400) % 9)) (s.Rub.Hi - ((by_ % 400) % 9))) (ha_nil) rfl) ?_
     refine rS (FA 3 rfl fo28_2 rfl) ?_
     refine ST1 (SledV.cells (SledV.mk s.Class s.Start (SpanV.mk (s.Rub.Lo - ((by_ % 400) % 9)) (s.Rub.Hi - ((by_ % 400) % 9))) s.Drag s.Weight s.Steer)) rfl ts26 rfl rfl ?_
     refine r_nil ?_
     refine k_block ?_
     have hb179 : (SledV.cells (SledV.mk s.Class s.Start (SpanV.mk (s.Rub.Lo - ((by_ % 400) % 9)) (s.Rub.Hi - ((by_ % 400) % 9))) s.Drag s.Weight s.Steer)) = (SledV.cells (betF s q (by_ % 400))) := by first | (rw [show (betF s q (by_ % 400)) = { s with Weight := upF (100 * (by_ % 400)) s.Weight } from by unfold betF; rw [if_pos h82]]; rfl) | (rw [show (betF s q (by_ % 400)) = { s with Rub := downF ((by_ % 400) % 9) s.Rub } from by unfold betF; rw [if_neg h82, if_pos h98]]; rfl) | (rw [show (betF s q (by_ % 400)) = { s with Drag := downF ((by_ % 400) % 99) s.Drag } from by unfold betF; rw [if_neg h82, if_neg h98, if_pos h114]]; rfl) | (rw [show (betF s q (by_ % 400)) = { s with Start := upF (by_ % 400) s.Start } from by unfold betF; rw [if_neg h82, if_neg h98, if_neg h114]]; rfl)
     rw [hb179]
     refine k_then (k_sub (Sub.cons rfl <| Sub.cons rfl <| Sub.cons rfl <| Sub.cons rfl <| Sub.cons rfl <| Sub.cons rfl <| Sub.cons rfl <| Sub.cons rfl <| Sub.cons rfl <| Sub.nil _) (fun w hs => St.sel [0, 1, 2, 3, 4, 5] rfl rfl hs) (hK24 ()))
   replace h98 := DF h98
   refine WS fun _ hK180 => ?_
   refine rS (BI rfl b_eql) ?_
   refine rS (AG rfl) ?_
   refine RK hK180 ?_
   refine w_if rfl (fun h114 => ?_) (fun h114 => ?_)
   rotate_left 1
   · replace h114 := DF h114
     refine w_region ?_
     refine rS (FA 1 rfl fo28_1 rfl) ?_
     refine rS (FA 1 rfl fo26_0 rfl) ?_
     refine rS (L1 (Value.int .i64 s.Start.Lo) 3 rfl tk3 rfl rfl) ?_
     refine rS (MV rfl) ?_
     refine rS (BI rfl (b_add ⟨by omega, by omega⟩)) ?_
     refine rS (FA 1 rfl fo28_1 rfl) ?_
     refine rS (FA 2 rfl fo26_1 rfl) ?_
     refine rS (L1 (Value.int .i64 s.Start.Hi) 3 rfl tk3 rfl rfl) ?_
     refine rS (MV rfl) ?_
     refine rS (BI rfl (b_add ⟨by omega, by omega⟩)) ?_
     refine rS (CL (lspan_c (s.Start.Lo + (by_ % 400)) (s.Start.Hi + (by_ % 400))) (ha_nil) rfl) ?_
     refine rS (FA 1 rfl fo28_1 rfl) ?_
     refine ST1 (SledV.cells (SledV.mk s.Class (SpanV.mk (s.Start.Lo + (by_ % 400)) (s.Start.Hi + (by_ % 400))) s.Rub s.Drag s.Weight s.Steer)) rfl ts26 rfl rfl ?_
     refine r_nil ?_
     refine k_block ?_
     have hb182 : (SledV.cells (SledV.mk s.Class (SpanV.mk (s.Start.Lo + (by_ % 400)) (s.Start.Hi + (by_ % 400))) s.Rub s.Drag s.Weight s.Steer)) = (SledV.cells (betF s q (by_ % 400))) := by first | (rw [show (betF s q (by_ % 400)) = { s with Weight := upF (100 * (by_ % 400)) s.Weight } from by unfold betF; rw [if_pos h82]]; rfl) | (rw [show (betF s q (by_ % 400)) = { s with Rub := downF ((by_ % 400) % 9) s.Rub } from by unfold betF; rw [if_neg h82, if_pos h98]]; rfl) | (rw [show (betF s q (by_ % 400)) = { s with Drag := downF ((by_ % 400) % 99) s.Drag } from by unfold betF; rw [if_neg h82, if_neg h98, if_pos h114]]; rfl) | (rw [show (betF s q (by_ % 400)) = { s with Start := upF (by_ % 400) s.Start } from by unfold betF; rw [if_neg h82, if_neg h98, if_neg h114]]; rfl)
     rw [hb182]
     refine k_then (k_sub (Sub.cons rfl <| Sub.cons rfl <| Sub.cons rfl <| Sub.cons rfl <| Sub.cons rfl <| Sub.cons rfl <| Sub.cons rfl <| Sub.cons rfl <| Sub.cons rfl <| Sub.nil _) (fun w hs => St.sel [0, 1, 2, 3, 4, 5] rfl rfl hs) (hK24 ()))
   replace h114 := DT h114
   refine w_region ?_
   refine rS (FA 5 rfl fo28_3 rfl) ?_
   refine rS (FA 5 rfl fo26_0 rfl) ?_
   refine rS (L1 (Value.int .i64 s.Drag.Lo) 3 rfl tk3 rfl rfl) ?_
   refine rS (MV rfl) ?_
   refine rS (BI rfl (b_rem (by omega) (by omega))) ?_
   refine rS (BI rfl (b_sub ⟨by omega, by omega⟩)) ?_
   refine rS (FA 5 rfl fo28_3 rfl) ?_
   refine rS (FA 6 rfl fo26_1 rfl) ?_
   refine rS (L1 (Value.int .i64 s.Drag.Hi) 3 rfl tk3 rfl rfl) ?_
   refine rS (MV rfl) ?_
   refine rS (BI rfl (b_rem (by omega) (by omega))) ?_
   refine rS (BI rfl (b_sub ⟨by omega, by omega⟩)) ?_
   refine rS (CL (lspan_c (s.Drag.Lo - ((by_ % 400) % 99)) (s.Drag.Hi - ((by_ % 400) % 99))) (ha_nil) rfl) ?_
   refine rS (FA 5 rfl fo28_3 rfl) ?_
   refine ST1 (SledV.cells (SledV.mk s.Class s.Start s.Rub (SpanV.mk (s.Drag.Lo - ((by_ % 400) % 99)) (s.Drag.Hi - ((by_ % 400) % 99))) s.Weight s.Steer)) rfl ts26 rfl rfl ?_
   refine r_nil ?_
   refine k_block ?_
   have hb181 : (SledV.cells (SledV.mk s.Class s.Start s.Rub (SpanV.mk (s.Drag.Lo - ((by_ % 400) % 99)) (s.Drag.Hi - ((by_ % 400) % 99))) s.Weight s.Steer)) = (SledV.cells (betF s q (by_ % 400))) := by first | (rw [show (betF s q (by_ % 400)) = { s with Weight := upF (100 * (by_ % 400)) s.Weight } from by unfold betF; rw [if_pos h82]]; rfl) | (rw [show (betF s q (by_ % 400)) = { s with Rub := downF ((by_ % 400) % 9) s.Rub } from by unfold betF; rw [if_neg h82, if_pos h98]]; rfl) | (rw [show (betF s q (by_ % 400)) = { s with Drag := downF ((by_ % 400) % 99) s.Drag } from by unfold betF; rw [if_neg h82, if_neg h98, if_pos h114]]; rfl) | (rw [show (betF s q (by_ % 400)) = { s with Start := upF (by_ % 400) s.Start } from by unfold betF; rw [if_neg h82, if_neg h98, if_neg h114]]; rfl)
   rw [hb181]
   refine k_then (k_sub (Sub.cons rfl <| Sub.cons rfl <| Sub.cons rfl <| Sub.cons rfl <| Sub.cons rfl <| Sub.cons rfl <| Sub.cons rfl <| Sub.cons rfl <| Sub.cons rfl <| Sub.nil _) (fun w hs => St.sel [0, 1, 2, 3, 4, 5] rfl rfl hs) (hK24 ()))
 refine n_op (rem' := [6, 8, 9]) rfl (by kernel_rfl) rfl fun T183 hT183 => ?_
 refine AL rfl tz28 fun b184 => ?_
 refine r_nil (hT183 _ _ (fun w hs => St.sel [1, 2, 3, 4] rfl rfl hs) ?_)
 refine n_step [6] (by kernel_rfl) (n_cons ?_ <| n_nil)
 refine n_op (rem' := [8, 9]) rfl (by kernel_rfl) rfl fun T185 hT185 => ?_
 refine AL rfl tz28 fun b186 => ?_
 refine r_nil (hT185 _ _ (fun w hs => St.sel [2, 3, 4, 5] rfl rfl hs) ?_)
 refine n_step [8] (by kernel_rfl) (n_cons ?_ <| n_nil)
 refine n_op (rem' := [9]) rfl (by kernel_rfl) rfl fun T187 hT187 => ?_
 refine SW0 rfl ts28 rfl ?_
 refine r_nil (hT187 _ _ (fun w hs => St.sel [2, 3, 4, 5] rfl rfl hs) ?_)
 refine n_step [9] (by kernel_rfl) (n_cons ?_ <| n_nil)
 refine n_op (rem' := []) rfl (by kernel_rfl) rfl fun T188 hT188 => ?_
 refine SW1 rfl ts28 rfl ?_
 refine r_nil (hT188 _ _ (fun w hs => St.sel [2, 3, 4, 5] rfl rfl hs) ?_)
 refine n_fin ?_
 refine KK hK17 ?_
 refine w_join (ι := Unit) (fun z => [(2, (Value.int .u8 q)), (3, (Value.int .u16 by_)), (4, (Value.pointer (some ⟨b2, 0, none⟩))), (5, (Value.pointer (some ⟨b3, 0, none⟩))), (9, (Value.bool true)), (10, (Value.slice a11 ((spansL s ts).length) c12)), (12, (Value.int .i64 (by_ % 400))), (13, (Value.pointer (some ⟨b186, 0, none⟩))), (14, (Value.pointer (some ⟨b184, 0, none⟩)))]) (fun z => [(blk b186 28 (SledV.cells (betF s q (by_ % 400)))), (blk b184 28 (SledV.cells (laxF s q (by_ % 400)))), (own a11 c12 26 2 ((spansL s ts).map SpanV.cells)), (blk b3 28 (SledV.cells s)), (blk b2 24 (TrackV.cells (TrackV.mk (Slc.mk tsA ts.length tsC)))), (rd tsA ts.length 9 (ts.map StretchV.cells)).ro]) ?_ fun K189 hK189 => ?_
 · intro _
   change WJ _ _ _ _ [(2, (Value.int .u8 q)), (3, (Value.int .u16 by_)), (4, (Value.pointer (some ⟨b2, 0, none⟩))), (5, (Value.pointer (some ⟨b3, 0, none⟩))), (9, (Value.bool true)), (10, (Value.slice a11 ((spansL s ts).length) c12)), (12, (Value.int .i64 (by_ % 400))), (13, (Value.pointer (some ⟨b186, 0, none⟩))), (14, (Value.pointer (some ⟨b184, 0, none⟩)))] [(blk b186 28 (SledV.cells (betF s q (by_ % 400)))), (blk b184 28 (SledV.cells (laxF s q (by_ % 400)))), (own a11 c12 26 2 ((spansL s ts).map SpanV.cells)), (blk b3 28 (SledV.cells s)), (blk b2 24 (TrackV.cells (TrackV.mk (Slc.mk tsA ts.length tsC)))), (rd tsA ts.length 9 (ts.map StretchV.cells)).ro]
   refine w_join (ι := Unit) (fun z => [(2, (Value.int .u8 q)), (3, (Value.int .u16 by_)), (4, (Value.pointer (some ⟨b2, 0, none⟩))), (5, (Value.pointer (some ⟨b3, 0, none⟩))), (9, (Value.bool true)), (10, (Value.slice a11 ((spansL s ts).length) c12)), (12, (Value.int .i64 (by_ % 400))), (14, (Value.pointer (some ⟨b184, 0, none⟩)))]) (fun z => [(blk b184 28 (SledV.cells (laxF s q (by_ % 400)))), (own a11 c12 26 2 ((spansL s ts).map SpanV.cells)), (blk b3 28 (SledV.cells s)), (blk b2 24 (TrackV.cells (TrackV.mk (Slc.mk tsA ts.length tsC)))), (rd tsA ts.length 9 (ts.map StretchV.cells)).ro]) ?_ fun K190 hK190 => ?_
   · intro _
     change WJ _ _ _ _ [(2, (Value.int .u8 q)), (3, (Value.int .u16 by_)), (4, (Value.pointer (some ⟨b2, 0, none⟩))), (5, (Value.pointer (some ⟨b3, 0, none⟩))), (9, (Value.bool true)), (10, (Value.slice a11 ((spansL s ts).length) c12)), (12, (Value.int .i64 (by_ % 400))), (14, (Value.pointer (some ⟨b184, 0, none⟩)))] [(blk b184 28 (SledV.cells (laxF s q (by_ % 400)))), (own a11 c12 26 2 ((spansL s ts).map SpanV.cells)), (blk b3 28 (SledV.cells s)), (blk b2 24 (TrackV.cells (TrackV.mk (Slc.mk tsA ts.length tsC)))), (rd tsA ts.length 9 (ts.map StretchV.cells)).ro]
     refine WS fun _ hK191 => ?_
     refine rS (LW 3 rfl tk24 rfl rfl) ?_
     refine cX (twin_c ts tsA tsC (by first | assumption | omega | (simp; done) | (simp; omega))) (ha_at 4 rfl rfl <| ha_nil) rfl fun y192 hy193 => ?_
     obtain ⟨a194, c195⟩ := y192
     change RJ _ _ _ _ _ ((_, (Value.agg (TrackV.cells (TrackV.mk (Slc.mk a194 ts.length c195))).toArray)) :: _) ((own a194 c195 77 9 (ts.map StretchV.cells)) :: _)
     refine AL rfl tz24 fun b196 => ?_
     refine SW0 rfl ts24 rfl ?_
     refine RK hK191 ?_
     refine w_seq fun _ hK197 => ?_
     refine w_draw mixed 10 (by kernel_rfl) ?_
     have hl1 := trackOk_pos htr
     have wk0 := Int.emod_nonneg q (show (ts.length : Int) ≠ 0 by omega)
     have wk1 := Int.emod_lt_of_pos q (show 0 < (ts.length : Int) by omega)
     refine dS (FA 0 rfl fo24_0 rfl) ?_
     refine dS (L1 (Value.slice a194 ts.length c195) 0 rfl tk22 rfl rfl) ?_
     refine dS (MV rfl) ?_
     refine dS (SX (sd_conv (m := q) rfl rfl ut5 ut3 (wrap_u8_i64 (by first | assumption | omega))) rfl rfl) ?_
     refine dS (FA 0 rfl fo24_0 rfl) ?_
     refine dS (L1 (Value.slice tsA ts.length tsC) 5 rfl tk22 rfl rfl) ?_
     refine dS (LN rfl ut22) ?_
     refine dS (BI rfl (b_rem (by omega) (by omega))) ?_
     obtain ⟨x, hx⟩ : ∃ y_, ts[((q % ((ts.length : Nat) : Int))).toNat]? = some y_ := ⟨ts[((q % ((ts.length : Nat) : Int))).toNat]'(by omega), List.getElem?_eq_getElem _⟩
     have hxm : (ts.map StretchV.cells)[((q % ((ts.length : Nat) : Int))).toNat]? = some (StretchV.cells x) := by rw [List.getElem?_map, hx]; rfl
     refine dS (IA (((q % ((ts.length : Nat) : Int))).toNat) rfl (has_own_n (n := ts.length) 1 rfl (by simp)) te22 (by decide) (by omega) (by omega)) ?_
     refine dS (AG rfl) ?_
     refine d_end ?_
     refine RK hK197 ?_
     refine w_join (ι := Unit) (fun z => [(4, (Value.pointer (some ⟨b2, 0, none⟩))), (5, (Value.pointer (some ⟨b3, 0, none⟩))), (9, (Value.bool true)), (10, (Value.slice a11 ((spansL s ts).length) c12)), (14, (Value.pointer (some ⟨b184, 0, none⟩))), (18, (Value.pointer (some ⟨b196, 0, none⟩)))]) (fun z => [(blk b196 24 (TrackV.cells (TrackV.mk (Slc.mk a194 ts.length c195)))), (own a194 c195 77 9 ((wideT ts q (by_ % 400)).map StretchV.cells)), (blk b184 28 (SledV.cells (laxF s q (by_ % 400)))), (own a11 c12 26 2 ((spansL s ts).map SpanV.cells)), (blk b3 28 (SledV.cells s)), (blk b2 24 (TrackV.cells (TrackV.mk (Slc.mk tsA ts.length tsC)))), (rd tsA ts.length 9 (ts.map StretchV.cells)).ro]) ?_ fun K198 hK198 => ?_
     · intro _
       change WJ _ _ _ _ [(4, (Value.pointer (some ⟨b2, 0, none⟩))), (5, (Value.pointer (some ⟨b3, 0, none⟩))), (9, (Value.bool true)), (10, (Value.slice a11 ((spansL s ts).length) c12)), (14, (Value.pointer (some ⟨b184, 0, none⟩))), (18, (Value.pointer (some ⟨b196, 0, none⟩)))] [(blk b196 24 (TrackV.cells (TrackV.mk (Slc.mk a194 ts.length c195)))), (own a194 c195 77 9 ((wideT ts q (by_ % 400)).map StretchV.cells)), (blk b184 28 (SledV.cells (laxF s q (by_ % 400)))), (own a11 c12 26 2 ((spansL s ts).map SpanV.cells)), (blk b3 28 (SledV.cells s)), (blk b2 24 (TrackV.cells (TrackV.mk (Slc.mk tsA ts.length tsC)))), (rd tsA ts.length 9 (ts.map StretchV.cells)).ro]
       refine w_seq fun _ hK199 => ?_
       refine w_seq fun _ hK200 => ?_
       have hb201 : (TrackV.cells (TrackV.mk (Slc.mk a194 ts.length c195))) = (TrackV.cells (TrackV.mk (Slc.mk a194 ((wideT ts q (by_ % 400)).length) c195))) := by simp
       rw [hb201]
       refine w_region ?_
       refine rS (LW 5 rfl tk24 rfl rfl) ?_
       refine rS (LW 0 rfl tk24 rfl rfl) ?_
       refine r_bs (xs := [.tmp 211, .tmp 212]) (cs := ((TrackV.cells (TrackV.mk (Slc.mk tsA ts.length tsC))) ++ (TrackV.cells (TrackV.mk (Slc.mk a194 ((wideT ts q (by_ % 400)).length) c195))))) rfl te86 tz24 rfl rfl rfl rfl (by simp [Value.cells, TrackV.cells_length]) rfl rfl fun b202 => ?_
       refine rS (LN rfl ut86) ?_
       refine rS (MV rfl) ?_
       refine RK hK200 ?_
       refine w_block ?_
       refine w_rounds 3 ?_
       refine ro_succ fun R203 hR203 => ?_
       refine WS fun _ hK204 => ?_
       refine rS (SX (sd_bin (r := .bool true) rfl rfl rfl b_lss) rfl rfl) ?_
       refine RK hK204 ?_
       refine w_seq fun _ hK205 => ?_
       refine w_if_true rfl ?_
       refine WK hK205 ?_
       refine w_join (ι := Unit) (fun z => [(4, (Value.pointer (some ⟨b2, 0, none⟩))), (5, (Value.pointer (some ⟨b3, 0, none⟩))), (9, (Value.bool true)), (10, (Value.slice a11 ((spansL s ts).length) c12)), (14, (Value.pointer (some ⟨b184, 0, none⟩))), (213, (Value.slice (some ⟨b202, 0, none⟩) 2 2)), (214, (Value.int .i64 2)), (215, (Value.int .i64 0))]) (fun z => [(blk b202 24 ((TrackV.cells (TrackV.mk (Slc.mk tsA ts.length tsC))) ++ (TrackV.cells (TrackV.mk (Slc.mk a194 ((wideT ts q (by_ % 400)).length) c195))))), (own a194 c195 77 9 ((wideT ts q (by_ % 400)).map StretchV.cells)), (blk b184 28 (SledV.cells (laxF s q (by_ % 400)))), (own a11 c12 26 2 ((spansL s ts).map SpanV.cells)), (blk b3 28 (SledV.cells s)), (blk b2 24 (TrackV.cells (TrackV.mk (Slc.mk tsA ts.length tsC)))), (rd tsA ts.length 9 (ts.map StretchV.cells)).ro]) ?_ fun K206 hK206 => ?_
       · intro _
         change WJ _ _ _ _ [(4, (Value.pointer (some ⟨b2, 0, none⟩))), (5, (Value.pointer (some ⟨b3, 0, none⟩))), (9, (Value.bool true)), (10, (Value.slice a11 ((spansL s ts).length) c12)), (14, (Value.pointer (some ⟨b184, 0, none⟩))), (213, (Value.slice (some ⟨b202, 0, none⟩) 2 2)), (214, (Value.int .i64 2)), (215, (Value.int .i64 0))] [(blk b202 24 ((TrackV.cells (TrackV.mk (Slc.mk tsA ts.length tsC))) ++ (TrackV.cells (TrackV.mk (Slc.mk a194 ((wideT ts q (by_ % 400)).length) c195))))), (own a194 c195 77 9 ((wideT ts q (by_ % 400)).map StretchV.cells)), (blk b184 28 (SledV.cells (laxF s q (by_ % 400)))), (own a11 c12 26 2 ((spansL s ts).map SpanV.cells)), (blk b3 28 (SledV.cells s)), (blk b2 24 (TrackV.cells (TrackV.mk (Slc.mk tsA ts.length tsC)))), (rd tsA ts.length 9 (ts.map StretchV.cells)).ro]
         refine w_region ?_
         refine rS (SX (sd_bin (r := .int .i64 1) rfl rfl rfl (b_add ⟨by decide, by decide⟩)) rfl rfl) ?_
         refine rS (MV rfl) ?_
         refine RK hR203 ?_
         refine ro_succ fun R207 hR207 => ?_
         refine WS fun _ hK208 => ?_
         refine rS (SX (sd_bin (r := .bool true) rfl rfl rfl b_lss) rfl rfl) ?_
         refine RK hK208 ?_
         refine w_seq fun _ hK209 => ?_
         refine w_if_true rfl ?_
         refine WK hK209 ?_
         refine w_join (ι := Unit) (fun z => [(4, (Value.pointer (some ⟨b2, 0, none⟩))), (5, (Value.pointer (some ⟨b3, 0, none⟩))), (9, (Value.bool true)), (10, (Value.slice a11 ((spansL s ts).length) c12)), (14, (Value.pointer (some ⟨b184, 0, none⟩))), (213, (Value.slice (some ⟨b202, 0, none⟩) 2 2)), (214, (Value.int .i64 2)), (215, (Value.int .i64 1))]) (fun z => [(blk b202 24 ((TrackV.cells (TrackV.mk (Slc.mk tsA ts.length tsC))) ++ (TrackV.cells (TrackV.mk (Slc.mk a194 ((wideT ts q (by_ % 400)).length) c195))))), (own a194 c195 77 9 ((wideT ts q (by_ % 400)).map StretchV.cells)), (blk b184 28 (SledV.cells (laxF s q (by_ % 400)))), (own a11 c12 26 2 ((spansL s ts).map SpanV.cells)), (blk b3 28 (SledV.cells s)), (blk b2 24 (TrackV.cells (TrackV.mk (Slc.mk tsA ts.length tsC)))), (rd tsA ts.length 9 (ts.map StretchV.cells)).ro]) ?_ fun K210 hK210 => ?_
         · intro _
           change WJ _ _ _ _ [(4, (Value.pointer (some ⟨b2, 0, none⟩))), (5, (Value.pointer (some ⟨b3, 0, none⟩))), (9, (Value.bool true)), (10, (Value.slice a11 ((spansL s ts).length) c12)), (14, (Value.pointer (some ⟨b184, 0, none⟩))), (213, (Value.slice (some ⟨b202, 0, none⟩) 2 2)), (214, (Value.int .i64 2)), (215, (Value.int .i64 1))] [(blk b202 24 ((TrackV.cells (TrackV.mk (Slc.mk tsA ts.length tsC))) ++ (TrackV.cells (TrackV.mk (Slc.mk a194 ((wideT ts q (by_ % 400)).length) c195))))), (own a194 c195 77 9 ((wideT ts q (by_ % 400)).map StretchV.cells)), (blk b184 28 (SledV.cells (laxF s q (by_ % 400)))), (own a11 c12 26 2 ((spansL s ts).map SpanV.cells)), (blk b3 28 (SledV.cells s)), (blk b2 24 (TrackV.cells (TrackV.mk (Slc.mk tsA ts.length tsC)))), (rd tsA ts.length 9 (ts.map StretchV.cells)).ro]
           refine w_region ?_
           refine rS (SX (sd_bin (r := .int .i64 2) rfl rfl rfl (b_add ⟨by decide, by decide⟩)) rfl rfl) ?_
           refine rS (MV rfl) ?_
           refine RK hR207 ?_
           refine ro_succ fun R211 hR211 => ?_
           refine WS fun _ hK212 => ?_
           refine rS (SX (sd_bin (r := .bool false) rfl rfl rfl b_lss) rfl rfl) ?_
           refine RK hK212 ?_
           refine w_seq fun _ hK213 => ?_
           refine w_if_false rfl ?_
           refine w_exit ?_
           refine k_exit_then ?_
           refine k_exit_then ?_
           refine k_exit_same ?_
           refine KK hK199 ?_
           refine WS fun _ hK214 => ?_
           refine rS (MV rfl) ?_
           refine rS (AG rfl) ?_
           refine RK hK214 ?_
           refine w_ret ?_
           refine Q1 hQ rfl rfl rfl ?_
           first | rfl | (simp; done)
         refine w_block ?_
         refine WS fun _ hK215 => ?_
         refine rS (MV rfl) ?_
         refine rS (IAB 1 1 rfl te86 rfl (by decide) rfl) ?_
         refine rS (LP (TrackV.cells (TrackV.mk (Slc.mk a194 ((wideT ts q (by_ % 400)).length) c195))) 0 rfl tk24 rfl rfl rfl) ?_
         refine AL rfl tz24 fun b216 => ?_
         refine rS (AG rfl) ?_
         refine SW0 rfl ts24 rfl ?_
         refine RK hK215 ?_
         refine WS fun _ hK217 => ?_
         refine rS (LW 3 rfl tk28 rfl rfl) ?_
         refine AL rfl tz28 fun b218 => ?_
         refine SW0 rfl ts28 rfl ?_
         refine RK hK217 ?_
         refine w_seq fun _ hK219 => ?_
         refine WS fun _ hK220 => ?_
         refine rS (MV rfl) ?_
         refine rS (SX (sd_bin (r := .bool true) rfl rfl rfl b_eql) rfl rfl) ?_
         refine RK hK220 ?_
         refine w_if_true rfl ?_
         refine w_region ?_
         refine rS (LW 6 rfl tk28 rfl rfl) ?_
         refine SW0 rfl ts28 rfl ?_
         refine RK hK219 ?_
         refine w_seq fun _ hK221 => ?_
         refine WS fun _ hK222 => ?_
         refine rS (LW 1 rfl tk24 rfl rfl) ?_
         refine rS (LW 0 rfl tk28 rfl rfl) ?_
         refine rS (CL (ready_c (wideT ts q (by_ % 400)) a194 c195 s (by first | assumption | (rw [lax_class]; assumption))) (ha_cons (has_own_n (n := (wideT ts q (by_ % 400)).length) 3 rfl (by simp)) <| ha_nil) rfl) ?_
         refine rS (NT rfl) ?_
         refine RK hK222 ?_
         refine w_if rfl (fun hr => ?_) (fun hr => ?_)
         · replace hr := XT hr
           refine w_exit ?_
           refine k_exit_then ?_
           refine k_exit_same ?_
           refine k_then (k_sub (Sub.cons rfl <| Sub.cons rfl <| Sub.cons rfl <| Sub.cons rfl <| Sub.cons rfl <| Sub.cons rfl <| Sub.cons rfl <| Sub.cons rfl <| Sub.nil _) (fun w hs => St.sel [2, 3, 4, 5, 6, 7, 8] rfl rfl hs) (hK210 ()))
         replace hr := XF hr
         refine WK hK221 ?_
         refine WS fun _ hK223 => ?_
         obtain ⟨hgr2, htr2, hr2⟩ := hr
         have hb2 := bothE_ok htr2 hr2
         have hst2 := trackOk_all htr2
         refine rS (LW 1 rfl tk24 rfl rfl) ?_
         refine rS (LW 0 rfl tk28 rfl rfl) ?_
         refine cX (heads_c (wideT ts q (by_ % 400)) a194 c195 s (by first | omega | (simp; omega)) (by first | assumption | exact wideT_side hside)) (ha_cons (has_own_n (n := (wideT ts q (by_ % 400)).length) 3 rfl (by simp)) <| ha_nil) rfl fun y224 hy225 => ?_
         obtain ⟨a226, c227⟩ := y224
         change RJ _ _ _ _ _ ((_, (Value.tuple [(Value.slice a226 ((spansU s (wideT ts q (by_ % 400))).length) c227), (Value.int .i64 (bothE s (wideT ts q (by_ % 400))))].toArray)) :: _) ((own a226 c227 26 2 ((spansU s (wideT ts q (by_ % 400))).map SpanV.cells)) :: _)
         rw [spansU_ok htr2 hr2]
         rw [hb2]
         refine rS (MV rfl) ?_
         refine rS (EX rfl) ?_
         refine rS (EX rfl) ?_
         refine rS (AG rfl) ?_
         refine rS (AG rfl) ?_
         refine RK hK223 ?_
         refine w_seq fun _ hK228 => ?_
         refine WS fun _ hK229 => ?_
         have e2 := spansL_length (s := s) (ts := (wideT ts q (by_ % 400)))
         rw [wideT_length] at e2
         refine rS (MV rfl) ?_
         refine rS (SX (sd_bin (r := .bool false) rfl rfl rfl b_neq) rfl rfl) ?_
         refine rS (MV rfl) ?_
         refine rS (MV rfl) ?_
         refine rS (LN rfl ut31) ?_
         refine rS (MV rfl) ?_
         refine rS (LN rfl ut31) ?_
         refine rS (BI rfl b_neq) ?_
         refine rS (PK rfl) ?_
         refine RK hK229 ?_
         refine w_if rfl (fun h230 => ?_) (fun h230 => ?_)
         · replace h230 := XT h230
           exfalso; omega
         replace h230 := XF h230
         refine WK hK228 ?_
         refine w_seq fun _ hK231 => ?_
         refine WS fun _ hK232 => ?_
         refine rS (MV rfl) ?_
         refine rS (LN rfl ut31) ?_
         refine rS (MV rfl) ?_
         refine RK hK232 ?_
         refine w_block ?_
         have hinit : (0 ≤ ts.length + 1) := by exact Nat.zero_le _
         refine w_loop (ι := { z : Nat // (z ≤ ts.length + 1) }) (fun z => [(4, (Value.pointer (some ⟨b2, 0, none⟩))), (5, (Value.pointer (some ⟨b3, 0, none⟩))), (9, (Value.bool true)), (10, (Value.slice a11 ((spansL s ts).length) c12)), (14, (Value.pointer (some ⟨b184, 0, none⟩))), (20, (Value.int .i64 1)), (21, (Value.pointer (some ⟨b216, 0, none⟩))), (22, (Value.pointer (some ⟨b218, 0, none⟩))), (23, (Value.slice a226 ((spansL s (wideT ts q (by_ % 400))).length) c227)), (213, (Value.slice (some ⟨b202, 0, none⟩) 2 2)), (214, (Value.int .i64 2)), (215, (Value.int .i64 1)), (244, (Value.int .i64 (((spansL s ts).length : Nat) : Int))), (245, (Value.int .i64 ((z.1 : Nat) : Int)))]) (fun z => [(own a226 c227 26 2 ((spansL s (wideT ts q (by_ % 400))).map SpanV.cells)), (blk b218 28 (SledV.cells s)), (blk b216 24 (TrackV.cells (TrackV.mk (Slc.mk a194 ((wideT ts q (by_ % 400)).length) c195)))), (blk b202 24 ((TrackV.cells (TrackV.mk (Slc.mk tsA ts.length tsC))) ++ (TrackV.cells (TrackV.mk (Slc.mk a194 ((wideT ts q (by_ % 400)).length) c195))))), (own a194 c195 77 9 ((wideT ts q (by_ % 400)).map StretchV.cells)), (blk b184 28 (SledV.cells (laxF s q (by_ % 400)))), (own a11 c12 26 2 ((spansL s ts).map SpanV.cells)), (blk b3 28 (SledV.cells s)), (blk b2 24 (TrackV.cells (TrackV.mk (Slc.mk tsA ts.length tsC)))), (rd tsA ts.length 9 (ts.map StretchV.cells)).ro]) (fun z => ts.length + 1 - z.1) ⟨0, hinit⟩ (Sub.cons rfl <| Sub.cons rfl <| Sub.cons rfl <| Sub.cons rfl <| Sub.cons rfl <| Sub.cons rfl <| Sub.cons rfl <| Sub.cons rfl <| Sub.cons rfl <| Sub.cons rfl <| Sub.cons rfl <| Sub.cons rfl <| Sub.cons rfl <| Sub.cons rfl <| Sub.nil _) (fun w hs => St.sel [0, 1, 2, 3, 4, 5, 6, 7, 8, 9] rfl rfl hs) ?_
         clear hinit
         rintro ⟨i, hl43_0⟩ J233 hJ233
         change WJ _ _ _ _ [(4, (Value.pointer (some ⟨b2, 0, none⟩))), (5, (Value.pointer (some ⟨b3, 0, none⟩))), (9, (Value.bool true)), (10, (Value.slice a11 ((spansL s ts).length) c12)), (14, (Value.pointer (some ⟨b184, 0, none⟩))), (20, (Value.int .i64 1)), (21, (Value.pointer (some ⟨b216, 0, none⟩))), (22, (Value.pointer (some ⟨b218, 0, none⟩))), (23, (Value.slice a226 ((spansL s (wideT ts q (by_ % 400))).length) c227)), (213, (Value.slice (some ⟨b202, 0, none⟩) 2 2)), (214, (Value.int .i64 2)), (215, (Value.int .i64 1)), (244, (Value.int .i64 (((spansL s ts).length : Nat) : Int))), (245, (Value.int .i64 ((i : Nat) : Int)))] [(own a226 c227 26 2 ((spansL s (wideT ts q (by_ % 400))).map SpanV.cells)), (blk b218 28 (SledV.cells s)), (blk b216 24 (TrackV.cells (TrackV.mk (Slc.mk a194 ((wideT ts q (by_ % 400)).length) c195)))), (blk b202 24 ((TrackV.cells (TrackV.mk (Slc.mk tsA ts.length tsC))) ++ (TrackV.cells (TrackV.mk (Slc.mk a194 ((wideT ts q (by_ % 400)).length) c195))))), (own a194 c195 77 9 ((wideT ts q (by_ % 400)).map StretchV.cells)), (blk b184 28 (SledV.cells (laxF s q (by_ % 400)))), (own a11 c12 26 2 ((spansL s ts).map SpanV.cells)), (blk b3 28 (SledV.cells s)), (blk b2 24 (TrackV.cells (TrackV.mk (Slc.mk tsA ts.length tsC)))), (rd tsA ts.length 9 (ts.map StretchV.cells)).ro]
         refine WS fun _ hK234 => ?_
         refine rS (BI rfl b_lss) ?_
         refine RK hK234 ?_
         refine w_seq fun _ hK235 => ?_
         refine w_if rfl (fun h236 => ?_) (fun h236 => ?_)
         · replace h236 := DT h236
           refine WK hK235 ?_
           refine w_seq fun _ hK237 => ?_
           refine w_block ?_
           refine WS fun _ hK238 => ?_
           refine rS (MV rfl) ?_
           refine rS (AG rfl) ?_
           refine RK hK238 ?_
           refine w_seq fun _ hK239 => ?_
           refine w_draw mixed 24 (by kernel_rfl) ?_
           refine dS (MV rfl) ?_
           refine dS (MV rfl) ?_
           obtain ⟨y, hy⟩ : ∃ y_, (spansL s (wideT ts q (by_ % 400)))[i]? = some y_ := ⟨(spansL s (wideT ts q (by_ % 400)))[i]'(by omega), List.getElem?_eq_getElem _⟩
           have hym : ((spansL s (wideT ts q (by_ % 400))).map SpanV.cells)[i]? = some (SpanV.cells y) := by rw [List.getElem?_map, hy]; rfl
           refine dS (IA i rfl (has_own_n (n := (spansL s (wideT ts q (by_ % 400))).length) 0 rfl (by simp)) te31 (by decide) (by omega) (by omega)) ?_
           refine dS (FAR (i * 2) rfl (has_own_n (n := (spansL s (wideT ts q (by_ % 400))).length) 0 rfl (by simp)) (Nat.mul_pos (by omega) (by decide)) fo26_0 rfl) ?_
           refine dS (LE1 i 0 (Value.int .i64 y.Lo) rfl tk3 (has_own_n (n := (spansL s (wideT ts q (by_ % 400))).length) 0 rfl (by simp)) hym rfl (by decide) rfl) ?_
           refine dS (MV rfl) ?_
           refine dS (MV rfl) ?_
           obtain ⟨z, hzz⟩ : ∃ y_, (spansL s ts)[i]? = some y_ := ⟨(spansL s ts)[i]'(by omega), List.getElem?_eq_getElem _⟩
           have hzzm : ((spansL s ts).map SpanV.cells)[i]? = some (SpanV.cells z) := by rw [List.getElem?_map, hzz]; rfl
           refine dS (IA i rfl (has_own_n (n := (spansL s ts).length) 6 rfl (by simp)) te31 (by decide) (by omega) (by omega)) ?_
           refine dS (FAR (i * 2) rfl (has_own_n (n := (spansL s ts).length) 6 rfl (by simp)) (Nat.mul_pos (by omega) (by decide)) fo26_0 rfl) ?_
           refine dS (LE1 i 0 (Value.int .i64 z.Lo) rfl tk3 (has_own_n (n := (spansL s ts).length) 6 rfl (by simp)) hzzm rfl (by decide) rfl) ?_
           have yv : y = spanAt s (wideT ts q (by_ % 400)) i := by rw [spansL_get (by first | omega | (simp; omega))] at hy; exact (Option.some.inj hy).symm
           have zv : z = spanAt s ts i := by rw [spansL_get (by first | omega | (simp; omega))] at hzz; exact (Option.some.inj hzz).symm
           have hin := head_in hs hr2 hst hst2 (.refl _) (wide_in (by omega)) i
           have ey1 : y.Lo = headAt false s (wideT ts q (by_ % 400)) i := by rw [yv]; rfl
           have ey2 : y.Hi = headAt true s (wideT ts q (by_ % 400)) i := by rw [yv]; rfl
           have ez1 : z.Lo = headAt false s ts i := by rw [zv]; rfl
           have ez2 : z.Hi = headAt true s ts i := by rw [zv]; rfl
           refine dS (BI rfl b_gtr) ?_
           refine dS (MV rfl) ?_
           refine d_bool (t := 259) rfl (fun h240 => ?_) (fun h240 => ?_)
           · replace h240 := DT h240
             exfalso; omega
           replace h240 := DF h240
           refine dS (MV rfl) ?_
           refine dS (MV rfl) ?_
           refine dS (IA i rfl (has_own_n (n := (spansL s (wideT ts q (by_ % 400))).length) 0 rfl (by simp)) te31 (by decide) (by omega) (by omega)) ?_
           refine dS (FAR ((i * 2) + 1) rfl (has_own_n (n := (spansL s (wideT ts q (by_ % 400))).length) 0 rfl (by simp)) (Nat.mul_pos (by omega) (by decide)) fo26_1 rfl) ?_
           refine dS (LE1 i 1 (Value.int .i64 y.Hi) rfl tk3 (has_own_n (n := (spansL s (wideT ts q (by_ % 400))).length) 0 rfl (by simp)) hym rfl (by decide) rfl) ?_
           refine dS (MV rfl) ?_
           refine dS (MV rfl) ?_
           refine dS (IA i rfl (has_own_n (n := (spansL s ts).length) 6 rfl (by simp)) te31 (by decide) (by omega) (by omega)) ?_
           refine dS (FAR ((i * 2) + 1) rfl (has_own_n (n := (spansL s ts).length) 6 rfl (by simp)) (Nat.mul_pos (by omega) (by decide)) fo26_1 rfl) ?_
           refine dS (LE1 i 1 (Value.int .i64 z.Hi) rfl tk3 (has_own_n (n := (spansL s ts).length) 6 rfl (by simp)) hzzm rfl (by decide) rfl) ?_
           refine dS (BI rfl b_lss) ?_
           refine dS (PK rfl) ?_
           refine d_end ?_
           refine RK hK239 ?_
           refine w_if rfl (fun h241 => ?_) (fun h241 => ?_)
           · replace h241 := DT h241
             exfalso; omega
           replace h241 := DF h241
           refine w_skip ?_
           refine k_block ?_
           refine KK hK237 ?_
           refine w_region ?_
           refine rS (BI rfl (b_add ⟨by omega, by omega⟩)) ?_
           refine rS (MV rfl) ?_
           refine r_nil ?_
           have hb242 : (Value.int .i64 (((i + 1) : Nat) : Int)) = (Value.int .i64 (((i : Nat) : Int) + 1)) := by exact congrArg (Value.int .i64) (by omega)
           refine k_then (hJ233 ⟨(i + 1), (by first | omega | (simp only []; omega))⟩ _ _ _ rfl (by first | omega | (simp; omega)) (Sub.cons rfl <| Sub.cons rfl <| Sub.cons rfl <| Sub.cons rfl <| Sub.cons rfl <| Sub.cons rfl <| Sub.cons rfl <| Sub.cons rfl <| Sub.cons rfl <| Sub.cons rfl <| Sub.cons rfl <| Sub.cons rfl <| Sub.cons rfl <| sub_val rfl hb242 <| Sub.nil _) (fun w hs => St.sel [0, 1, 2, 3, 4, 5, 6, 7, 8, 9] rfl rfl hs))
         replace h236 := DF h236
         refine w_exit ?_
         refine k_exit_then ?_
         refine k_exit_then ?_
         refine k_exit_same ?_
         refine KK hK231 ?_
         refine WS fun _ hK243 => ?_
         refine rS (FA 0 rfl fo24_0 rfl) ?_
         refine rS (L1 (Value.slice tsA ts.length tsC) 8 rfl tk22 rfl rfl) ?_
         refine rS (LN rfl ut22) ?_
         refine rS (MV rfl) ?_
         refine RK hK243 ?_
         refine w_block ?_
         have hinit : (0 ≤ ts.length) := by exact Nat.zero_le _
         refine w_loop (ι := { z : Nat // (z ≤ ts.length) }) (fun z => [(4, (Value.pointer (some ⟨b2, 0, none⟩))), (5, (Value.pointer (some ⟨b3, 0, none⟩))), (9, (Value.bool true)), (10, (Value.slice a11 ((spansL s ts).length) c12)), (14, (Value.pointer (some ⟨b184, 0, none⟩))), (20, (Value.int .i64 1)), (21, (Value.pointer (some ⟨b216, 0, none⟩))), (22, (Value.pointer (some ⟨b218, 0, none⟩))), (23, (Value.slice a226 ((spansL s (wideT ts q (by_ % 400))).length) c227)), (213, (Value.slice (some ⟨b202, 0, none⟩) 2 2)), (214, (Value.int .i64 2)), (215, (Value.int .i64 1)), (274, (Value.slice tsA ts.length tsC)), (275, (Value.int .i64 ((ts.length : Nat) : Int))), (276, (Value.int .i64 ((z.1 : Nat) : Int)))]) (fun z => [(own a226 c227 26 2 ((spansL s (wideT ts q (by_ % 400))).map SpanV.cells)), (blk b218 28 (SledV.cells s)), (blk b216 24 (TrackV.cells (TrackV.mk (Slc.mk a194 ((wideT ts q (by_ % 400)).length) c195)))), (blk b202 24 ((TrackV.cells (TrackV.mk (Slc.mk tsA ts.length tsC))) ++ (TrackV.cells (TrackV.mk (Slc.mk a194 ((wideT ts q (by_ % 400)).length) c195))))), (own a194 c195 77 9 ((wideT ts q (by_ % 400)).map StretchV.cells)), (blk b184 28 (SledV.cells (laxF s q (by_ % 400)))), (own a11 c12 26 2 ((spansL s ts).map SpanV.cells)), (blk b3 28 (SledV.cells s)), (blk b2 24 (TrackV.cells (TrackV.mk (Slc.mk tsA ts.length tsC)))), (rd tsA ts.length 9 (ts.map StretchV.cells)).ro]) (fun z => ts.length - z.1) ⟨0, hinit⟩ (Sub.cons rfl <| Sub.cons rfl <| Sub.cons rfl <| Sub.cons rfl <| Sub.cons rfl <| Sub.cons rfl <| Sub.cons rfl <| Sub.cons rfl <| Sub.cons rfl <| Sub.cons rfl <| Sub.cons rfl <| Sub.cons rfl <| Sub.cons rfl <| Sub.cons rfl <| Sub.cons rfl <| Sub.nil _) (fun w hs => St.sel [0, 1, 2, 3, 4, 5, 6, 7, 8, 9] rfl rfl hs) ?_
         clear hinit
         rintro ⟨i, hl49_0⟩ J244 hJ244
         change WJ _ _ _ _ [(4, (Value.pointer (some ⟨b2, 0, none⟩))), (5, (Value.pointer (some ⟨b3, 0, none⟩))), (9, (Value.bool true)), (10, (Value.slice a11 ((spansL s ts).length) c12)), (14, (Value.pointer (some ⟨b184, 0, none⟩))), (20, (Value.int .i64 1)), (21, (Value.pointer (some ⟨b216, 0, none⟩))), (22, (Value.pointer (some ⟨b218, 0, none⟩))), (23, (Value.slice a226 ((spansL s (wideT ts q (by_ % 400))).length) c227)), (213, (Value.slice (some ⟨b202, 0, none⟩) 2 2)), (214, (Value.int .i64 2)), (215, (Value.int .i64 1)), (274, (Value.slice tsA ts.length tsC)), (275, (Value.int .i64 ((ts.length : Nat) : Int))), (276, (Value.int .i64 ((i : Nat) : Int)))] [(own a226 c227 26 2 ((spansL s (wideT ts q (by_ % 400))).map SpanV.cells)), (blk b218 28 (SledV.cells s)), (blk b216 24 (TrackV.cells (TrackV.mk (Slc.mk a194 ((wideT ts q (by_ % 400)).length) c195)))), (blk b202 24 ((TrackV.cells (TrackV.mk (Slc.mk tsA ts.length tsC))) ++ (TrackV.cells (TrackV.mk (Slc.mk a194 ((wideT ts q (by_ % 400)).length) c195))))), (own a194 c195 77 9 ((wideT ts q (by_ % 400)).map StretchV.cells)), (blk b184 28 (SledV.cells (laxF s q (by_ % 400)))), (own a11 c12 26 2 ((spansL s ts).map SpanV.cells)), (blk b3 28 (SledV.cells s)), (blk b2 24 (TrackV.cells (TrackV.mk (Slc.mk tsA ts.length tsC)))), (rd tsA ts.length 9 (ts.map StretchV.cells)).ro]
         refine WS fun _ hK245 => ?_
         refine rS (BI rfl b_lss) ?_
         refine RK hK245 ?_
         refine w_seq fun _ hK246 => ?_
         refine w_if rfl (fun h247 => ?_) (fun h247 => ?_)
         rotate_left 1
         · replace h247 := DF h247
           refine w_exit ?_
           refine k_exit_then ?_
           refine k_exit_then ?_
           refine k_exit_same ?_
           refine k_block ?_
           refine k_then (k_sub (Sub.cons rfl <| Sub.cons rfl <| Sub.cons rfl <| Sub.cons rfl <| Sub.cons rfl <| Sub.cons rfl <| Sub.cons rfl <| Sub.cons rfl <| Sub.nil _) (fun w hs => St.sel [3, 4, 5, 6, 7, 8, 9] rfl rfl hs) (hK210 ()))
         replace h247 := DT h247
         refine WK hK246 ?_
         refine w_seq fun _ hK248 => ?_
         refine w_block ?_
         refine WS fun _ hK249 => ?_
         refine rS (MV rfl) ?_
         obtain ⟨x, hx⟩ : ∃ y_, ts[i]? = some y_ := ⟨ts[i]'(by omega), List.getElem?_eq_getElem _⟩
         have hxm : (ts.map StretchV.cells)[i]? = some (StretchV.cells x) := by rw [List.getElem?_map, hx]; rfl
         refine rS (IA i rfl (has_at 9 rfl) te22 (by decide) (by omega) (by omega)) ?_
         refine rS (LEN i 0 (StretchV.cells x) rfl tk77 (has_at 9 rfl) hxm rfl (by decide) rfl rfl) ?_
         refine AL rfl tz77 fun b250 => ?_
         refine rS (AG rfl) ?_
         refine SW0 rfl ts77 rfl ?_
         refine RK hK249 ?_
         refine w_seq fun _ hK251 => ?_
         refine WS fun _ hK252 => ?_
         have hsd := hside x (List.mem_of_getElem? hx)
         refine rS (FA 7 rfl fo77_4 rfl) ?_
         refine rS (L1 (Value.int .u8 x.Side) 0 rfl tk5 rfl rfl) ?_
         refine rS (BI rfl b_eql) ?_
         refine RK hK252 ?_
         refine w_if rfl (fun hd => ?_) (fun hd => ?_)
         · replace hd := DT hd
           refine w_exit ?_
           refine k_exit_then ?_
           refine k_exit_same ?_
           refine KK hK248 ?_
           refine w_region ?_
           refine rS (BI rfl (b_add ⟨by omega, by omega⟩)) ?_
           refine rS (MV rfl) ?_
           refine r_nil ?_
           have hb253 : (Value.int .i64 (((i + 1) : Nat) : Int)) = (Value.int .i64 (((i : Nat) : Int) + 1)) := by exact congrArg (Value.int .i64) (by omega)
           refine k_then (hJ244 ⟨(i + 1), (by first | omega | (simp only []; omega))⟩ _ _ _ rfl (by first | omega | (simp; omega)) (Sub.cons rfl <| Sub.cons rfl <| Sub.cons rfl <| Sub.cons rfl <| Sub.cons rfl <| Sub.cons rfl <| Sub.cons rfl <| Sub.cons rfl <| Sub.cons rfl <| Sub.cons rfl <| Sub.cons rfl <| Sub.cons rfl <| Sub.cons rfl <| Sub.cons rfl <| sub_val rfl hb253 <| Sub.nil _) (fun w hs => St.sel [1, 2, 3, 4, 5, 6, 7, 8, 9, 10] rfl rfl hs))
         replace hd := DF hd
         refine WK hK251 ?_
         refine WS fun _ hK254 => ?_
         obtain ⟨u, hu⟩ : ∃ u, (wideT ts q (by_ % 400))[i]? = some u := ⟨_, List.getElem?_eq_getElem (by rw [wideT_length]; omega)⟩
         have hgi := hgt_in hs hr2 hst hst2 (.refl _) (wide_in (by omega)) hx hd
         have hn2 := height_nat hb2 hu (by rw [← ((wide_in (n := (by_ % 400)) (w := q) (ts := ts) (by omega)).at_ _ _ _ hx hu).side]; exact hd)
         refine rS (LW 9 rfl tk24 rfl rfl) ?_
         refine rS (LW 8 rfl tk28 rfl rfl) ?_
         refine rS (MV rfl) ?_
         refine rS (CL (height_c ts tsA tsC s ((i : Nat) : Int) (by first | assumption | omega | (simp; done) | (simp; omega)) hside) (ha_at 10 rfl rfl <| ha_nil) rfl) ?_
         rw [(height_nat hb0 hx hd).2]
         refine rS (MV rfl) ?_
         refine rS (EX rfl) ?_
         refine rS (EX rfl) ?_
         refine AL rfl tz26 fun b255 => ?_
         refine SW0 rfl ts26 rfl ?_
         refine rS (AG rfl) ?_
         refine RK hK254 ?_
         refine WS fun _ hK256 => ?_
         refine rS (LW 4 rfl tk24 rfl rfl) ?_
         refine rS (LW 3 rfl tk28 rfl rfl) ?_
         refine rS (MV rfl) ?_
         refine rS (CL (height_c (wideT ts q (by_ % 400)) a194 c195 s ((i : Nat) : Int) (by first | omega | (simp; omega)) (by first | assumption | exact wideT_side hside)) (ha_cons (has_own_n (n := (wideT ts q (by_ % 400)).length) 6 rfl (by simp)) <| ha_nil) rfl) ?_
         rw [hn2.2]
         refine rS (MV rfl) ?_
         refine rS (EX rfl) ?_
         refine rS (EX rfl) ?_
         refine AL rfl tz26 fun b257 => ?_
         refine SW0 rfl ts26 rfl ?_
         refine rS (AG rfl) ?_
         refine RK hK256 ?_
         refine w_seq fun _ hK258 => ?_
         have hb259 : (SpanV.cells (heightV s ts ((i : Nat) : Int))) = (SpanV.cells (SpanV.mk (hgt false s ts i) (hgt true s ts i))) := by rw [(height_nat hb0 hx hd).1]
         rw [hb259]
         have hb260 : (SpanV.cells (heightV s (wideT ts q (by_ % 400)) ((i : Nat) : Int))) = (SpanV.cells (SpanV.mk (hgt false s (wideT ts q (by_ % 400)) i) (hgt true s (wideT ts q (by_ % 400)) i))) := by rw [hn2.1]
         rw [hb260]
         refine w_region ?_
         refine rS (MV rfl) ?_
         refine rS (SX (sd_bin (r := .bool false) rfl rfl rfl b_neq) rfl rfl) ?_
         refine rS (MV rfl) ?_
         refine rS (MV rfl) ?_
         refine rS (SX (sd_bin (r := .bool false) rfl rfl rfl b_neq) rfl rfl) ?_
         refine rS (PK rfl) ?_
         refine rS (MV rfl) ?_
         refine rS (FA 0 rfl fo26_0 rfl) ?_
         refine rS (L1 (Value.int .i64 (hgt false s (wideT ts q (by_ % 400)) i)) 0 rfl tk3 rfl rfl) ?_
         refine rS (FA 0 rfl fo26_0 rfl) ?_
         refine rS (L1 (Value.int .i64 (hgt false s ts i)) 1 rfl tk3 rfl rfl) ?_
         refine rS (BI rfl b_gtr) ?_
         refine rS (PK rfl) ?_
         refine rS (MV rfl) ?_
         refine r_bool (t := 311) rfl (fun h261 => ?_) (fun h261 => ?_)
         · replace h261 := DT h261
           exfalso; omega
         replace h261 := DF h261
         refine rS (FA 1 rfl fo26_1 rfl) ?_
         refine rS (L1 (Value.int .i64 (hgt true s (wideT ts q (by_ % 400)) i)) 0 rfl tk3 rfl rfl) ?_
         refine rS (FA 1 rfl fo26_1 rfl) ?_
         refine rS (L1 (Value.int .i64 (hgt true s ts i)) 1 rfl tk3 rfl rfl) ?_
         refine rS (BI rfl b_lss) ?_
         refine rS (PK rfl) ?_
         refine RK hK258 ?_
         refine w_if rfl (fun h262 => ?_) (fun h262 => ?_)
         · replace h262 := DT h262
           exfalso; omega
         replace h262 := DF h262
         refine w_skip ?_
         refine k_block ?_
         refine KK hK248 ?_
         refine w_region ?_
         refine rS (BI rfl (b_add ⟨by omega, by omega⟩)) ?_
         refine rS (MV rfl) ?_
         refine r_nil ?_
         have hb263 : (Value.int .i64 (((i + 1) : Nat) : Int)) = (Value.int .i64 (((i : Nat) : Int) + 1)) := by exact congrArg (Value.int .i64) (by omega)
         refine k_then (hJ244 ⟨(i + 1), (by first | omega | (simp only []; omega))⟩ _ _ _ rfl (by first | omega | (simp; omega)) (Sub.cons rfl <| Sub.cons rfl <| Sub.cons rfl <| Sub.cons rfl <| Sub.cons rfl <| Sub.cons rfl <| Sub.cons rfl <| Sub.cons rfl <| Sub.cons rfl <| Sub.cons rfl <| Sub.cons rfl <| Sub.cons rfl <| Sub.cons rfl <| Sub.cons rfl <| sub_val rfl hb263 <| Sub.nil _) (fun w hs => St.sel [3, 4, 5, 6, 7, 8, 9, 10, 11, 12] rfl rfl hs))
       refine w_block ?_
       refine WS fun _ hK264 => ?_
       refine rS (MV rfl) ?_
       refine rS (IAB 0 0 rfl te86 rfl (by decide) rfl) ?_
       refine rS (LP (TrackV.cells (TrackV.mk (Slc.mk tsA ts.length tsC))) 0 rfl tk24 rfl rfl rfl) ?_
       refine AL rfl tz24 fun b265 => ?_
       refine rS (AG rfl) ?_
       refine SW0 rfl ts24 rfl ?_
       refine RK hK264 ?_
       refine WS fun _ hK266 => ?_
       refine rS (LW 4 rfl tk28 rfl rfl) ?_
       refine AL rfl tz28 fun b267 => ?_
       refine SW0 rfl ts28 rfl ?_
       refine RK hK266 ?_
       refine w_seq fun _ hK268 => ?_
       refine WS fun _ hK269 => ?_
       refine rS (MV rfl) ?_
       refine rS (SX (sd_bin (r := .bool false) rfl rfl rfl b_eql) rfl rfl) ?_
       refine RK hK269 ?_
       refine w_if_false rfl ?_
       refine WK hK268 ?_
       refine w_seq fun _ hK270 => ?_
       refine WS fun _ hK271 => ?_
       refine rS (LW 1 rfl tk24 rfl rfl) ?_
       refine rS (LW 0 rfl tk28 rfl rfl) ?_
       refine rS (CL (ready_c ts tsA tsC (laxF s q (by_ % 400)) (by first | assumption | (rw [lax_class]; assumption))) (ha_at 9 rfl rfl <| ha_nil) rfl) ?_
       refine rS (NT rfl) ?_
       refine RK hK271 ?_
       refine w_if rfl (fun hr => ?_) (fun hr => ?_)
       · replace hr := XT hr
         refine w_exit ?_
         refine k_exit_then ?_
         refine k_exit_same ?_
         refine k_then (k_sub (Sub.cons rfl <| Sub.cons rfl <| Sub.cons rfl <| Sub.cons rfl <| Sub.cons rfl <| Sub.cons rfl <| Sub.cons rfl <| Sub.cons rfl <| Sub.nil _) (fun w hs => St.sel [2, 4, 5, 6, 7, 8, 9] rfl rfl hs) (hK206 ()))
       replace hr := XF hr
       refine WK hK270 ?_
       refine WS fun _ hK272 => ?_
       obtain ⟨hgr2, htr2, hr2⟩ := hr
       have hb2 := bothE_ok htr2 hr2
       have hst2 := trackOk_all htr2
       refine rS (LW 1 rfl tk24 rfl rfl) ?_
       refine rS (LW 0 rfl tk28 rfl rfl) ?_
       refine cX (heads_c ts tsA tsC (laxF s q (by_ % 400)) (by first | omega | (simp; omega)) (by first | assumption | exact wideT_side hside)) (ha_at 9 rfl rfl <| ha_nil) rfl fun y273 hy274 => ?_
       obtain ⟨a275, c276⟩ := y273
       change RJ _ _ _ _ _ ((_, (Value.tuple [(Value.slice a275 ((spansU (laxF s q (by_ % 400)) ts).length) c276), (Value.int .i64 (bothE (laxF s q (by_ % 400)) ts))].toArray)) :: _) ((own a275 c276 26 2 ((spansU (laxF s q (by_ % 400)) ts).map SpanV.cells)) :: _)
       rw [spansU_ok htr2 hr2]
       rw [hb2]
       refine rS (MV rfl) ?_
       refine rS (EX rfl) ?_
       refine rS (EX rfl) ?_
       refine rS (AG rfl) ?_
       refine rS (AG rfl) ?_
       refine RK hK272 ?_
       refine w_seq fun _ hK277 => ?_
       refine WS fun _ hK278 => ?_
       have e2 := spansL_length (s := (laxF s q (by_ % 400))) (ts := ts)
       refine rS (MV rfl) ?_
       refine rS (SX (sd_bin (r := .bool false) rfl rfl rfl b_neq) rfl rfl) ?_
       refine rS (MV rfl) ?_
       refine rS (MV rfl) ?_
       refine rS (LN rfl ut31) ?_
       refine rS (MV rfl) ?_
       refine rS (LN rfl ut31) ?_
       refine rS (BI rfl b_neq) ?_
       refine rS (PK rfl) ?_
       refine RK hK278 ?_
       refine w_if rfl (fun h279 => ?_) (fun h279 => ?_)
       · replace h279 := XT h279
         exfalso; omega
       replace h279 := XF h279
       refine WK hK277 ?_
       refine w_seq fun _ hK280 => ?_
       refine WS fun _ hK281 => ?_
       refine rS (MV rfl) ?_
       refine rS (LN rfl ut31) ?_
       refine rS (MV rfl) ?_
       refine RK hK281 ?_
       refine w_block ?_
       have hinit : (0 ≤ ts.length + 1) := by exact Nat.zero_le _
       refine w_loop (ι := { z : Nat // (z ≤ ts.length + 1) }) (fun z => [(4, (Value.pointer (some ⟨b2, 0, none⟩))), (5, (Value.pointer (some ⟨b3, 0, none⟩))), (9, (Value.bool true)), (10, (Value.slice a11 ((spansL s ts).length) c12)), (14, (Value.pointer (some ⟨b184, 0, none⟩))), (20, (Value.int .i64 0)), (21, (Value.pointer (some ⟨b265, 0, none⟩))), (22, (Value.pointer (some ⟨b267, 0, none⟩))), (23, (Value.slice a275 ((spansL (laxF s q (by_ % 400)) ts).length) c276)), (213, (Value.slice (some ⟨b202, 0, none⟩) 2 2)), (214, (Value.int .i64 2)), (215, (Value.int .i64 0)), (244, (Value.int .i64 (((spansL s ts).length : Nat) : Int))), (245, (Value.int .i64 ((z.1 : Nat) : Int)))]) (fun z => [(own a275 c276 26 2 ((spansL (laxF s q (by_ % 400)) ts).map SpanV.cells)), (blk b267 28 (SledV.cells (laxF s q (by_ % 400)))), (blk b265 24 (TrackV.cells (TrackV.mk (Slc.mk tsA ts.length tsC)))), (blk b202 24 ((TrackV.cells (TrackV.mk (Slc.mk tsA ts.length tsC))) ++ (TrackV.cells (TrackV.mk (Slc.mk a194 ((wideT ts q (by_ % 400)).length) c195))))), (own a194 c195 77 9 ((wideT ts q (by_ % 400)).map StretchV.cells)), (blk b184 28 (SledV.cells (laxF s q (by_ % 400)))), (own a11 c12 26 2 ((spansL s ts).map SpanV.cells)), (blk b3 28 (SledV.cells s)), (blk b2 24 (TrackV.cells (TrackV.mk (Slc.mk tsA ts.length tsC)))), (rd tsA ts.length 9 (ts.map StretchV.cells)).ro]) (fun z => ts.length + 1 - z.1) ⟨0, hinit⟩ (Sub.cons rfl <| Sub.cons rfl <| Sub.cons rfl <| Sub.cons rfl <| Sub.cons rfl <| Sub.cons rfl <| Sub.cons rfl <| Sub.cons rfl <| Sub.cons rfl <| Sub.cons rfl <| Sub.cons rfl <| Sub.cons rfl <| Sub.cons rfl <| Sub.cons rfl <| Sub.nil _) (fun w hs => St.sel [0, 1, 2, 3, 5, 6, 7, 8, 9, 10] rfl rfl hs) ?_
       clear hinit
       rintro ⟨i, hl43_0⟩ J282 hJ282
       change WJ _ _ _ _ [(4, (Value.pointer (some ⟨b2, 0, none⟩))), (5, (Value.pointer (some ⟨b3, 0, none⟩))), (9, (Value.bool true)), (10, (Value.slice a11 ((spansL s ts).length) c12)), (14, (Value.pointer (some ⟨b184, 0, none⟩))), (20, (Value.int .i64 0)), (21, (Value.pointer (some ⟨b265, 0, none⟩))), (22, (Value.pointer (some ⟨b267, 0, none⟩))), (23, (Value.slice a275 ((spansL (laxF s q (by_ % 400)) ts).length) c276)), (213, (Value.slice (some ⟨b202, 0, none⟩) 2 2)), (214, (Value.int .i64 2)), (215, (Value.int .i64 0)), (244, (Value.int .i64 (((spansL s ts).length : Nat) : Int))), (245, (Value.int .i64 ((i : Nat) : Int)))] [(own a275 c276 26 2 ((spansL (laxF s q (by_ % 400)) ts).map SpanV.cells)), (blk b267 28 (SledV.cells (laxF s q (by_ % 400)))), (blk b265 24 (TrackV.cells (TrackV.mk (Slc.mk tsA ts.length tsC)))), (blk b202 24 ((TrackV.cells (TrackV.mk (Slc.mk tsA ts.length tsC))) ++ (TrackV.cells (TrackV.mk (Slc.mk a194 ((wideT ts q (by_ % 400)).length) c195))))), (own a194 c195 77 9 ((wideT ts q (by_ % 400)).map StretchV.cells)), (blk b184 28 (SledV.cells (laxF s q (by_ % 400)))), (own a11 c12 26 2 ((spansL s ts).map SpanV.cells)), (blk b3 28 (SledV.cells s)), (blk b2 24 (TrackV.cells (TrackV.mk (Slc.mk tsA ts.length tsC)))), (rd tsA ts.length 9 (ts.map StretchV.cells)).ro]
       refine WS fun _ hK283 => ?_
       refine rS (BI rfl b_lss) ?_
       refine RK hK283 ?_
       refine w_seq fun _ hK284 => ?_
       refine w_if rfl (fun h285 => ?_) (fun h285 => ?_)
       · replace h285 := DT h285
         refine WK hK284 ?_
         refine w_seq fun _ hK286 => ?_
         refine w_block ?_
         refine WS fun _ hK287 => ?_
         refine rS (MV rfl) ?_
         refine rS (AG rfl) ?_
         refine RK hK287 ?_
         refine w_seq fun _ hK288 => ?_
         refine w_draw mixed 24 (by kernel_rfl) ?_
         refine dS (MV rfl) ?_
         refine dS (MV rfl) ?_
         obtain ⟨y, hy⟩ : ∃ y_, (spansL (laxF s q (by_ % 400)) ts)[i]? = some y_ := ⟨(spansL (laxF s q (by_ % 400)) ts)[i]'(by omega), List.getElem?_eq_getElem _⟩
         have hym : ((spansL (laxF s q (by_ % 400)) ts).map SpanV.cells)[i]? = some (SpanV.cells y) := by rw [List.getElem?_map, hy]; rfl
         refine dS (IA i rfl (has_own_n (n := (spansL (laxF s q (by_ % 400)) ts).length) 0 rfl (by simp)) te31 (by decide) (by omega) (by omega)) ?_
         refine dS (FAR (i * 2) rfl (has_own_n (n := (spansL (laxF s q (by_ % 400)) ts).length) 0 rfl (by simp)) (Nat.mul_pos (by omega) (by decide)) fo26_0 rfl) ?_
         refine dS (LE1 i 0 (Value.int .i64 y.Lo) rfl tk3 (has_own_n (n := (spansL (laxF s q (by_ % 400)) ts).length) 0 rfl (by simp)) hym rfl (by decide) rfl) ?_
         refine dS (MV rfl) ?_
         refine dS (MV rfl) ?_
         obtain ⟨z, hzz⟩ : ∃ y_, (spansL s ts)[i]? = some y_ := ⟨(spansL s ts)[i]'(by omega), List.getElem?_eq_getElem _⟩
         have hzzm : ((spansL s ts).map SpanV.cells)[i]? = some (SpanV.cells z) := by rw [List.getElem?_map, hzz]; rfl
         refine dS (IA i rfl (has_own_n (n := (spansL s ts).length) 6 rfl (by simp)) te31 (by decide) (by omega) (by omega)) ?_
         refine dS (FAR (i * 2) rfl (has_own_n (n := (spansL s ts).length) 6 rfl (by simp)) (Nat.mul_pos (by omega) (by decide)) fo26_0 rfl) ?_
         refine dS (LE1 i 0 (Value.int .i64 z.Lo) rfl tk3 (has_own_n (n := (spansL s ts).length) 6 rfl (by simp)) hzzm rfl (by decide) rfl) ?_
         have yv : y = spanAt (laxF s q (by_ % 400)) ts i := by rw [spansL_get (by first | omega | (simp; omega))] at hy; exact (Option.some.inj hy).symm
         have zv : z = spanAt s ts i := by rw [spansL_get (by first | omega | (simp; omega))] at hzz; exact (Option.some.inj hzz).symm
         have hin := head_in hs hr2 hst hst (lax_in (by omega)) (.refl _) i
         have ey1 : y.Lo = headAt false (laxF s q (by_ % 400)) ts i := by rw [yv]; rfl
         have ey2 : y.Hi = headAt true (laxF s q (by_ % 400)) ts i := by rw [yv]; rfl
         have ez1 : z.Lo = headAt false s ts i := by rw [zv]; rfl
         have ez2 : z.Hi = headAt true s ts i := by rw [zv]; rfl
         refine dS (BI rfl b_gtr) ?_
         refine dS (MV rfl) ?_
         refine d_bool (t := 259) rfl (fun h289 => ?_) (fun h289 => ?_)
         · replace h289 := DT h289
           exfalso; omega
         replace h289 := DF h289
         refine dS (MV rfl) ?_
         refine dS (MV rfl) ?_
         refine dS (IA i rfl (has_own_n (n := (spansL (laxF s q (by_ % 400)) ts).length) 0 rfl (by simp)) te31 (by decide) (by omega) (by omega)) ?_
         refine dS (FAR ((i * 2) + 1) rfl (has_own_n (n := (spansL (laxF s q (by_ % 400)) ts).length) 0 rfl (by simp)) (Nat.mul_pos (by omega) (by decide)) fo26_1 rfl) ?_
         refine dS (LE1 i 1 (Value.int .i64 y.Hi) rfl tk3 (has_own_n (n := (spansL (laxF s q (by_ % 400)) ts).length) 0 rfl (by simp)) hym rfl (by decide) rfl) ?_
         refine dS (MV rfl) ?_
         refine dS (MV rfl) ?_
         refine dS (IA i rfl (has_own_n (n := (spansL s ts).length) 6 rfl (by simp)) te31 (by decide) (by omega) (by omega)) ?_
         refine dS (FAR ((i * 2) + 1) rfl (has_own_n (n := (spansL s ts).length) 6 rfl (by simp)) (Nat.mul_pos (by omega) (by decide)) fo26_1 rfl) ?_
         refine dS (LE1 i 1 (Value.int .i64 z.Hi) rfl tk3 (has_own_n (n := (spansL s ts).length) 6 rfl (by simp)) hzzm rfl (by decide) rfl) ?_
         refine dS (BI rfl b_lss) ?_
         refine dS (PK rfl) ?_
         refine d_end ?_
         refine RK hK288 ?_
         refine w_if rfl (fun h290 => ?_) (fun h290 => ?_)
         · replace h290 := DT h290
           exfalso; omega
         replace h290 := DF h290
         refine w_skip ?_
         refine k_block ?_
         refine KK hK286 ?_
         refine w_region ?_
         refine rS (BI rfl (b_add ⟨by omega, by omega⟩)) ?_
         refine rS (MV rfl) ?_
         refine r_nil ?_
         have hb291 : (Value.int .i64 (((i + 1) : Nat) : Int)) = (Value.int .i64 (((i : Nat) : Int) + 1)) := by exact congrArg (Value.int .i64) (by omega)
         refine k_then (hJ282 ⟨(i + 1), (by first | omega | (simp only []; omega))⟩ _ _ _ rfl (by first | omega | (simp; omega)) (Sub.cons rfl <| Sub.cons rfl <| Sub.cons rfl <| Sub.cons rfl <| Sub.cons rfl <| Sub.cons rfl <| Sub.cons rfl <| Sub.cons rfl <| Sub.cons rfl <| Sub.cons rfl <| Sub.cons rfl <| Sub.cons rfl <| Sub.cons rfl <| sub_val rfl hb291 <| Sub.nil _) (fun w hs => St.sel [0, 1, 2, 3, 4, 5, 6, 7, 8, 9] rfl rfl hs))
       replace h285 := DF h285
       refine w_exit ?_
       refine k_exit_then ?_
       refine k_exit_then ?_
       refine k_exit_same ?_
       refine KK hK280 ?_
       refine WS fun _ hK292 => ?_
       refine rS (FA 0 rfl fo24_0 rfl) ?_
       refine rS (L1 (Value.slice tsA ts.length tsC) 8 rfl tk22 rfl rfl) ?_
       refine rS (LN rfl ut22) ?_
       refine rS (MV rfl) ?_
       refine RK hK292 ?_
       refine w_block ?_
       have hinit : (0 ≤ ts.length) := by exact Nat.zero_le _
       refine w_loop (ι := { z : Nat // (z ≤ ts.length) }) (fun z => [(4, (Value.pointer (some ⟨b2, 0, none⟩))), (5, (Value.pointer (some ⟨b3, 0, none⟩))), (9, (Value.bool true)), (10, (Value.slice a11 ((spansL s ts).length) c12)), (14, (Value.pointer (some ⟨b184, 0, none⟩))), (20, (Value.int .i64 0)), (21, (Value.pointer (some ⟨b265, 0, none⟩))), (22, (Value.pointer (some ⟨b267, 0, none⟩))), (23, (Value.slice a275 ((spansL (laxF s q (by_ % 400)) ts).length) c276)), (213, (Value.slice (some ⟨b202, 0, none⟩) 2 2)), (214, (Value.int .i64 2)), (215, (Value.int .i64 0)), (274, (Value.slice tsA ts.length tsC)), (275, (Value.int .i64 ((ts.length : Nat) : Int))), (276, (Value.int .i64 ((z.1 : Nat) : Int)))]) (fun z => [(own a275 c276 26 2 ((spansL (laxF s q (by_ % 400)) ts).map SpanV.cells)), (blk b267 28 (SledV.cells (laxF s q (by_ % 400)))), (blk b265 24 (TrackV.cells (TrackV.mk (Slc.mk tsA ts.length tsC)))), (blk b202 24 ((TrackV.cells (TrackV.mk (Slc.mk tsA ts.length tsC))) ++ (TrackV.cells (TrackV.mk (Slc.mk a194 ((wideT ts q (by_ % 400)).length) c195))))), (own a194 c195 77 9 ((wideT ts q (by_ % 400)).map StretchV.cells)), (blk b184 28 (SledV.cells (laxF s q (by_ % 400)))), (own a11 c12 26 2 ((spansL s ts).map SpanV.cells)), (blk b3 28 (SledV.cells s)), (blk b2 24 (TrackV.cells (TrackV.mk (Slc.mk tsA ts.length tsC)))), (rd tsA ts.length 9 (ts.map StretchV.cells)).ro]) (fun z => ts.length - z.1) ⟨0, hinit⟩ (Sub.cons rfl <| Sub.cons rfl <| Sub.cons rfl <| Sub.cons rfl <| Sub.cons rfl <| Sub.cons rfl <| Sub.cons rfl <| Sub.cons rfl <| Sub.cons rfl <| Sub.cons rfl <| Sub.cons rfl <| Sub.cons rfl <| Sub.cons rfl <| Sub.cons rfl <| Sub.cons rfl <| Sub.nil _) (fun w hs => St.sel [0, 1, 2, 3, 4, 5, 6, 7, 8, 9] rfl rfl hs) ?_
       clear hinit
       rintro ⟨i, hl49_0⟩ J293 hJ293
       change WJ _ _ _ _ [(4, (Value.pointer (some ⟨b2, 0, none⟩))), (5, (Value.pointer (some ⟨b3, 0, none⟩))), (9, (Value.bool true)), (10, (Value.slice a11 ((spansL s ts).length) c12)), (14, (Value.pointer (some ⟨b184, 0, none⟩))), (20, (Value.int .i64 0)), (21, (Value.pointer (some ⟨b265, 0, none⟩))), (22, (Value.pointer (some ⟨b267, 0, none⟩))), (23, (Value.slice a275 ((spansL (laxF s q (by_ % 400)) ts).length) c276)), (213, (Value.slice (some ⟨b202, 0, none⟩) 2 2)), (214, (Value.int .i64 2)), (215, (Value.int .i64 0)), (274, (Value.slice tsA ts.length tsC)), (275, (Value.int .i64 ((ts.length : Nat) : Int))), (276, (Value.int .i64 ((i : Nat) : Int)))] [(own a275 c276 26 2 ((spansL (laxF s q (by_ % 400)) ts).map SpanV.cells)), (blk b267 28 (SledV.cells (laxF s q (by_ % 400)))), (blk b265 24 (TrackV.cells (TrackV.mk (Slc.mk tsA ts.length tsC)))), (blk b202 24 ((TrackV.cells (TrackV.mk (Slc.mk tsA ts.length tsC))) ++ (TrackV.cells (TrackV.mk (Slc.mk a194 ((wideT ts q (by_ % 400)).length) c195))))), (own a194 c195 77 9 ((wideT ts q (by_ % 400)).map StretchV.cells)), (blk b184 28 (SledV.cells (laxF s q (by_ % 400)))), (own a11 c12 26 2 ((spansL s ts).map SpanV.cells)), (blk b3 28 (SledV.cells s)), (blk b2 24 (TrackV.cells (TrackV.mk (Slc.mk tsA ts.length tsC)))), (rd tsA ts.length 9 (ts.map StretchV.cells)).ro]
       refine WS fun _ hK294 => ?_
       refine rS (BI rfl b_lss) ?_
       refine RK hK294 ?_
       refine w_seq fun _ hK295 => ?_
       refine w_if rfl (fun h296 => ?_) (fun h296 => ?_)
       rotate_left 1
       · replace h296 := DF h296
         refine w_exit ?_
         refine k_exit_then ?_
         refine k_exit_then ?_
         refine k_exit_same ?_
         refine k_block ?_
         refine k_then (k_sub (Sub.cons rfl <| Sub.cons rfl <| Sub.cons rfl <| Sub.cons rfl <| Sub.cons rfl <| Sub.cons rfl <| Sub.cons rfl <| Sub.cons rfl <| Sub.nil _) (fun w hs => St.sel [3, 4, 5, 6, 7, 8, 9] rfl rfl hs) (hK206 ()))
       replace h296 := DT h296
       refine WK hK295 ?_
       refine w_seq fun _ hK297 => ?_
       refine w_block ?_
       refine WS fun _ hK298 => ?_
       refine rS (MV rfl) ?_
       obtain ⟨x, hx⟩ : ∃ y_, ts[i]? = some y_ := ⟨ts[i]'(by omega), List.getElem?_eq_getElem _⟩
       have hxm : (ts.map StretchV.cells)[i]? = some (StretchV.cells x) := by rw [List.getElem?_map, hx]; rfl
       refine rS (IA i rfl (has_at 9 rfl) te22 (by decide) (by omega) (by omega)) ?_
       refine rS (LEN i 0 (StretchV.cells x) rfl tk77 (has_at 9 rfl) hxm rfl (by decide) rfl rfl) ?_
       refine AL rfl tz77 fun b299 => ?_
       refine rS (AG rfl) ?_
       refine SW0 rfl ts77 rfl ?_
       refine RK hK298 ?_
       refine w_seq fun _ hK300 => ?_
       refine WS fun _ hK301 => ?_
       have hsd := hside x (List.mem_of_getElem? hx)
       refine rS (FA 7 rfl fo77_4 rfl) ?_
       refine rS (L1 (Value.int .u8 x.Side) 0 rfl tk5 rfl rfl) ?_
       refine rS (BI rfl b_eql) ?_
       refine RK hK301 ?_
       refine w_if rfl (fun hd => ?_) (fun hd => ?_)
       · replace hd := DT hd
         refine w_exit ?_
         refine k_exit_then ?_
         refine k_exit_same ?_
         refine KK hK297 ?_
         refine w_region ?_
         refine rS (BI rfl (b_add ⟨by omega, by omega⟩)) ?_
         refine rS (MV rfl) ?_
         refine r_nil ?_
         have hb302 : (Value.int .i64 (((i + 1) : Nat) : Int)) = (Value.int .i64 (((i : Nat) : Int) + 1)) := by exact congrArg (Value.int .i64) (by omega)
         refine k_then (hJ293 ⟨(i + 1), (by first | omega | (simp only []; omega))⟩ _ _ _ rfl (by first | omega | (simp; omega)) (Sub.cons rfl <| Sub.cons rfl <| Sub.cons rfl <| Sub.cons rfl <| Sub.cons rfl <| Sub.cons rfl <| Sub.cons rfl <| Sub.cons rfl <| Sub.cons rfl <| Sub.cons rfl <| Sub.cons rfl <| Sub.cons rfl <| Sub.cons rfl <| Sub.cons rfl <| sub_val rfl hb302 <| Sub.nil _) (fun w hs => St.sel [1, 2, 3, 4, 5, 6, 7, 8, 9, 10] rfl rfl hs))
       replace hd := DF hd
       refine WK hK300 ?_
       refine WS fun _ hK303 => ?_
       have hxu : ts[i]? = some x := hx
       have hgi := hgt_in hs hr2 hst hst (lax_in (by omega)) (.refl _) hx hd
       have hn2 := height_nat hb2 hx hd
       refine rS (LW 9 rfl tk24 rfl rfl) ?_
       refine rS (LW 8 rfl tk28 rfl rfl) ?_
       refine rS (MV rfl) ?_
       refine rS (CL (height_c ts tsA tsC s ((i : Nat) : Int) (by first | assumption | omega | (simp; done) | (simp; omega)) hside) (ha_at 10 rfl rfl <| ha_nil) rfl) ?_
       rw [(height_nat hb0 hx hd).2]
       refine rS (MV rfl) ?_
       refine rS (EX rfl) ?_
       refine rS (EX rfl) ?_
       refine AL rfl tz26 fun b304 => ?_
       refine SW0 rfl ts26 rfl ?_
       refine rS (AG rfl) ?_
       refine RK hK303 ?_
       refine WS fun _ hK305 => ?_
       refine rS (LW 4 rfl tk24 rfl rfl) ?_
       refine rS (LW 3 rfl tk28 rfl rfl) ?_
       refine rS (MV rfl) ?_
       refine rS (CL (height_c ts tsA tsC (laxF s q (by_ % 400)) ((i : Nat) : Int) (by first | omega | (simp; omega)) (by first | assumption | exact wideT_side hside)) (ha_at 11 rfl rfl <| ha_nil) rfl) ?_
       rw [hn2.2]
       refine rS (MV rfl) ?_
       refine rS (EX rfl) ?_
       refine rS (EX rfl) ?_
       refine AL rfl tz26 fun b306 => ?_
       refine SW0 rfl ts26 rfl ?_
       refine rS (AG rfl) ?_
       refine RK hK305 ?_
       refine w_seq fun _ hK307 => ?_
       have hb308 : (SpanV.cells (heightV s ts ((i : Nat) : Int))) = (SpanV.cells (SpanV.mk (hgt false s ts i) (hgt true s ts i))) := by rw [(height_nat hb0 hx hd).1]
       rw [hb308]
       have hb309 : (SpanV.cells (heightV (laxF s q (by_ % 400)) ts ((i : Nat) : Int))) = (SpanV.cells (SpanV.mk (hgt false (laxF s q (by_ % 400)) ts i) (hgt true (laxF s q (by_ % 400)) ts i))) := by rw [hn2.1]
       rw [hb309]
       refine w_region ?_
       refine rS (MV rfl) ?_
       refine rS (SX (sd_bin (r := .bool false) rfl rfl rfl b_neq) rfl rfl) ?_
       refine rS (MV rfl) ?_
       refine rS (MV rfl) ?_
       refine rS (SX (sd_bin (r := .bool false) rfl rfl rfl b_neq) rfl rfl) ?_
       refine rS (PK rfl) ?_
       refine rS (MV rfl) ?_
       refine rS (FA 0 rfl fo26_0 rfl) ?_
       refine rS (L1 (Value.int .i64 (hgt false (laxF s q (by_ % 400)) ts i)) 0 rfl tk3 rfl rfl) ?_
       refine rS (FA 0 rfl fo26_0 rfl) ?_
       refine rS (L1 (Value.int .i64 (hgt false s ts i)) 1 rfl tk3 rfl rfl) ?_
       refine rS (BI rfl b_gtr) ?_
       refine rS (PK rfl) ?_
       refine rS (MV rfl) ?_
       refine r_bool (t := 311) rfl (fun h310 => ?_) (fun h310 => ?_)
       · replace h310 := DT h310
         exfalso; omega
       replace h310 := DF h310
       refine rS (FA 1 rfl fo26_1 rfl) ?_
       refine rS (L1 (Value.int .i64 (hgt true (laxF s q (by_ % 400)) ts i)) 0 rfl tk3 rfl rfl) ?_
       refine rS (FA 1 rfl fo26_1 rfl) ?_
       refine rS (L1 (Value.int .i64 (hgt true s ts i)) 1 rfl tk3 rfl rfl) ?_
       refine rS (BI rfl b_lss) ?_
       refine rS (PK rfl) ?_
       refine RK hK307 ?_
       refine w_if rfl (fun h311 => ?_) (fun h311 => ?_)
       · replace h311 := DT h311
         exfalso; omega
       replace h311 := DF h311
       refine w_skip ?_
       refine k_block ?_
       refine KK hK297 ?_
       refine w_region ?_
       refine rS (BI rfl (b_add ⟨by omega, by omega⟩)) ?_
       refine rS (MV rfl) ?_
       refine r_nil ?_
       have hb312 : (Value.int .i64 (((i + 1) : Nat) : Int)) = (Value.int .i64 (((i : Nat) : Int) + 1)) := by exact congrArg (Value.int .i64) (by omega)
       refine k_then (hJ293 ⟨(i + 1), (by first | omega | (simp only []; omega))⟩ _ _ _ rfl (by first | omega | (simp; omega)) (Sub.cons rfl <| Sub.cons rfl <| Sub.cons rfl <| Sub.cons rfl <| Sub.cons rfl <| Sub.cons rfl <| Sub.cons rfl <| Sub.cons rfl <| Sub.cons rfl <| Sub.cons rfl <| Sub.cons rfl <| Sub.cons rfl <| Sub.cons rfl <| Sub.cons rfl <| sub_val rfl hb312 <| Sub.nil _) (fun w hs => St.sel [3, 4, 5, 6, 7, 8, 9, 10, 11, 12] rfl rfl hs))
     refine WS fun _ hK313 => ?_
     have hxo := hst x (List.mem_of_getElem? hx)
     have v1 := hxo.2.1
     have v2 := hxo.2.2.1
     simp only [SpanOk] at v1 v2
     refine rS (MV rfl) ?_
     refine rS (BI rfl (b_rem (by omega) (by omega))) ?_
     refine rS (BI rfl b_eql) ?_
     refine RK hK313 ?_
     refine w_if rfl (fun h190 => ?_) (fun h190 => ?_)
     rotate_left 1
     · replace h190 := DF h190
       refine w_own_some 1 rfl (by simp; omega) (fun ad317 ha318 => ?_)
       refine w_region ?_
       refine rS (MV rfl) ?_
       refine rS (SX (sd_nil_pd rfl rfl ha318) rfl rfl) ?_
       refine rS (FAP (((((q % ((ts.length : Nat) : Int))).toNat) * 9) + 3) rfl ha318 fo77_2 rfl) ?_
       refine rS (FAP ((((((q % ((ts.length : Nat) : Int))).toNat) * 9) + 3) + 1) rfl ha318 fo26_1 rfl) ?_
       refine rS (LE1 (((q % ((ts.length : Nat) : Int))).toNat) 4 (Value.int .i64 x.Fall.Hi) rfl tk3 (has_own_n (n := ts.length) 1 rfl (by simp)) hxm rfl (by decide) rfl) ?_
       refine rS (MV rfl) ?_
       refine rS (BI rfl (b_add ⟨by omega, by omega⟩)) ?_
       refine rS (SX (sd_nil_pd rfl rfl ha318) rfl rfl) ?_
       refine rS (FAP (((((q % ((ts.length : Nat) : Int))).toNat) * 9) + 3) rfl ha318 fo77_2 rfl) ?_
       refine rS (FAP ((((((q % ((ts.length : Nat) : Int))).toNat) * 9) + 3) + 1) rfl ha318 fo26_1 rfl) ?_
       have hb319 : (ts.set (((q % ((ts.length : Nat) : Int))).toNat) (StretchV.mk x.Id x.Long (SpanV.mk x.Fall.Lo (x.Fall.Hi + (by_ % 400))) x.Radius x.Side x.Wall)) = (wideT ts q (by_ % 400)) := by exact wideT_set hx (by unfold wideX; rw [if_neg h190])
       refine r_store_own (k := ((q % ((ts.length : Nat) : Int))).toNat) (o := 4) (vs := [(Value.int .i64 (x.Fall.Hi + (by_ % 400)))]) (es' := (List.map StretchV.cells (wideT ts q (by_ % 400)))) (C' := [_, (own a194 c195 77 9 (List.map StretchV.cells (wideT ts q (by_ % 400)))), _, _, _, _, _]) 1 rfl rfl rfl ts3 rfl rfl rfl rfl hxm rfl (by decide) (by exact (List.map_set (f := StretchV.cells) (l := ts) (i := ((q % ((ts.length : Nat) : Int))).toNat) (a := (StretchV.mk x.Id x.Long (SpanV.mk x.Fall.Lo (x.Fall.Hi + (by_ % 400))) x.Radius x.Side x.Wall))).symm.trans (congrArg _ hb319)) rfl ?_
       refine r_nil ?_
       refine k_then (k_sub (Sub.cons rfl <| Sub.cons rfl <| Sub.cons rfl <| Sub.cons rfl <| Sub.cons rfl <| Sub.cons rfl <| Sub.nil _) (fun w hs => St.sel [0, 1, 2, 3, 4, 5, 6] rfl rfl hs) (hK198 ()))
     replace h190 := DT h190
     refine w_own_some 1 rfl (by simp; omega) (fun ad314 ha315 => ?_)
     refine w_region ?_
     refine rS (MV rfl) ?_
     refine rS (SX (sd_nil_pd rfl rfl ha315) rfl rfl) ?_
     refine rS (FAP (((((q % ((ts.length : Nat) : Int))).toNat) * 9) + 1) rfl ha315 fo77_1 rfl) ?_
     refine rS (FAP ((((((q % ((ts.length : Nat) : Int))).toNat) * 9) + 1) + 1) rfl ha315 fo26_1 rfl) ?_
     refine rS (LE1 (((q % ((ts.length : Nat) : Int))).toNat) 2 (Value.int .i64 x.Long.Hi) rfl tk3 (has_own_n (n := ts.length) 1 rfl (by simp)) hxm rfl (by decide) rfl) ?_
     refine rS (MV rfl) ?_
     refine rS (BI rfl (b_add ⟨by omega, by omega⟩)) ?_
     refine rS (SX (sd_nil_pd rfl rfl ha315) rfl rfl) ?_
     refine rS (FAP (((((q % ((ts.length : Nat) : Int))).toNat) * 9) + 1) rfl ha315 fo77_1 rfl) ?_
     refine rS (FAP ((((((q % ((ts.length : Nat) : Int))).toNat) * 9) + 1) + 1) rfl ha315 fo26_1 rfl) ?_
     have hb316 : (ts.set (((q % ((ts.length : Nat) : Int))).toNat) (StretchV.mk x.Id (SpanV.mk x.Long.Lo (x.Long.Hi + (by_ % 400))) x.Fall x.Radius x.Side x.Wall)) = (wideT ts q (by_ % 400)) := by exact wideT_set hx (by unfold wideX; rw [if_pos h190])
     refine r_store_own (k := ((q % ((ts.length : Nat) : Int))).toNat) (o := 2) (vs := [(Value.int .i64 (x.Long.Hi + (by_ % 400)))]) (es' := (List.map StretchV.cells (wideT ts q (by_ % 400)))) (C' := [_, (own a194 c195 77 9 (List.map StretchV.cells (wideT ts q (by_ % 400)))), _, _, _, _, _]) 1 rfl rfl rfl ts3 rfl rfl rfl rfl hxm rfl (by decide) (by exact (List.map_set (f := StretchV.cells) (l := ts) (i := ((q % ((ts.length : Nat) : Int))).toNat) (a := (StretchV.mk x.Id (SpanV.mk x.Long.Lo (x.Long.Hi + (by_ % 400))) x.Fall x.Radius x.Side x.Wall))).symm.trans (congrArg _ hb316)) rfl ?_
     refine r_nil ?_
     refine k_then (k_sub (Sub.cons rfl <| Sub.cons rfl <| Sub.cons rfl <| Sub.cons rfl <| Sub.cons rfl <| Sub.cons rfl <| Sub.nil _) (fun w hs => St.sel [0, 1, 2, 3, 4, 5, 6] rfl rfl hs) (hK198 ()))
   refine WS fun _ hK320 => ?_
   refine rS (LW 0 rfl tk28 rfl rfl) ?_
   refine rS (CL (sled_c (betF s q (by_ % 400)) (by rw [bet_class]; exact hc)) (ha_nil) rfl) ?_
   refine RK hK320 ?_
   refine w_if rfl (fun hz => ?_) (fun hz => ?_)
   rotate_left 1
   · replace hz := DF hz
     refine w_skip ?_
     refine k_then (k_sub (Sub.cons rfl <| Sub.cons rfl <| Sub.cons rfl <| Sub.cons rfl <| Sub.cons rfl <| Sub.cons rfl <| Sub.cons rfl <| Sub.cons rfl <| Sub.nil _) (fun w hs => St.sel [1, 2, 3, 4, 5] rfl rfl hs) (hK190 ()))
   replace hz := DT hz
   refine WS fun _ hK321 => ?_
   have hbz := bothE_ok htr hz
   refine rS (LW 4 rfl tk24 rfl rfl) ?_
   refine rS (LW 0 rfl tk28 rfl rfl) ?_
   refine cX (heads_c ts tsA tsC (betF s q (by_ % 400)) (by first | assumption | omega | (simp; done) | (simp; omega)) hside) (ha_at 5 rfl rfl <| ha_nil) rfl fun y322 hy323 => ?_
   obtain ⟨a324, c325⟩ := y322
   change RJ _ _ _ _ _ ((_, (Value.tuple [(Value.slice a324 ((spansU (betF s q (by_ % 400)) ts).length) c325), (Value.int .i64 (bothE (betF s q (by_ % 400)) ts))].toArray)) :: _) ((own a324 c325 26 2 ((spansU (betF s q (by_ % 400)) ts).map SpanV.cells)) :: _)
   rw [spansU_ok htr hz]
   rw [hbz]
   refine rS (MV rfl) ?_
   refine rS (EX rfl) ?_
   refine rS (EX rfl) ?_
   refine rS (AG rfl) ?_
   refine rS (AG rfl) ?_
   refine RK hK321 ?_
   refine w_seq fun _ hK326 => ?_
   refine WS fun _ hK327 => ?_
   have e1 := spansL_length (s := (betF s q (by_ % 400))) (ts := ts)
   refine rS (MV rfl) ?_
   refine rS (SX (sd_bin (r := .bool false) rfl rfl rfl b_neq) rfl rfl) ?_
   refine rS (MV rfl) ?_
   refine rS (MV rfl) ?_
   refine rS (LN rfl ut31) ?_
   refine rS (MV rfl) ?_
   refine rS (LN rfl ut31) ?_
   refine rS (BI rfl b_neq) ?_
   refine rS (PK rfl) ?_
   refine RK hK327 ?_
   refine w_if rfl (fun h328 => ?_) (fun h328 => ?_)
   · replace h328 := XT h328
     exfalso; omega
   replace h328 := XF h328
   refine WK hK326 ?_
   refine WS fun _ hK329 => ?_
   refine rS (MV rfl) ?_
   refine rS (LN rfl ut31) ?_
   refine rS (MV rfl) ?_
   refine RK hK329 ?_
   refine w_block ?_
   have hinit : (0 ≤ ts.length + 1) := by exact Nat.zero_le _
   refine w_loop (ι := { z : Nat // (z ≤ ts.length + 1) }) (fun z => [(2, (Value.int .u8 q)), (3, (Value.int .u16 by_)), (4, (Value.pointer (some ⟨b2, 0, none⟩))), (5, (Value.pointer (some ⟨b3, 0, none⟩))), (9, (Value.bool true)), (10, (Value.slice a11 ((spansL s ts).length) c12)), (12, (Value.int .i64 (by_ % 400))), (13, (Value.pointer (some ⟨b186, 0, none⟩))), (14, (Value.pointer (some ⟨b184, 0, none⟩))), (15, (Value.slice a324 ((spansL (betF s q (by_ % 400)) ts).length) c325)), (148, (Value.int .i64 (((spansL s ts).length : Nat) : Int))), (149, (Value.int .i64 ((z.1 : Nat) : Int)))]) (fun z => [(own a324 c325 26 2 ((spansL (betF s q (by_ % 400)) ts).map SpanV.cells)), (blk b186 28 (SledV.cells (betF s q (by_ % 400)))), (blk b184 28 (SledV.cells (laxF s q (by_ % 400)))), (own a11 c12 26 2 ((spansL s ts).map SpanV.cells)), (blk b3 28 (SledV.cells s)), (blk b2 24 (TrackV.cells (TrackV.mk (Slc.mk tsA ts.length tsC)))), (rd tsA ts.length 9 (ts.map StretchV.cells)).ro]) (fun z => ts.length + 1 - z.1) ⟨0, hinit⟩ (Sub.cons rfl <| Sub.cons rfl <| Sub.cons rfl <| Sub.cons rfl <| Sub.cons rfl <| Sub.cons rfl <| Sub.cons rfl <| Sub.cons rfl <| Sub.cons rfl <| Sub.cons rfl <| Sub.cons rfl <| Sub.cons rfl <| Sub.nil _) (fun w hs => St.sel [0, 1, 2, 3, 4, 5, 6] rfl rfl hs) ?_
   clear hinit
   rintro ⟨i, hl22_0⟩ J330 hJ330
   change WJ _ _ _ _ [(2, (Value.int .u8 q)), (3, (Value.int .u16 by_)), (4, (Value.pointer (some ⟨b2, 0, none⟩))), (5, (Value.pointer (some ⟨b3, 0, none⟩))), (9, (Value.bool true)), (10, (Value.slice a11 ((spansL s ts).length) c12)), (12, (Value.int .i64 (by_ % 400))), (13, (Value.pointer (some ⟨b186, 0, none⟩))), (14, (Value.pointer (some ⟨b184, 0, none⟩))), (15, (Value.slice a324 ((spansL (betF s q (by_ % 400)) ts).length) c325)), (148, (Value.int .i64 (((spansL s ts).length : Nat) : Int))), (149, (Value.int .i64 ((i : Nat) : Int)))] [(own a324 c325 26 2 ((spansL (betF s q (by_ % 400)) ts).map SpanV.cells)), (blk b186 28 (SledV.cells (betF s q (by_ % 400)))), (blk b184 28 (SledV.cells (laxF s q (by_ % 400)))), (own a11 c12 26 2 ((spansL s ts).map SpanV.cells)), (blk b3 28 (SledV.cells s)), (blk b2 24 (TrackV.cells (TrackV.mk (Slc.mk tsA ts.length tsC)))), (rd tsA ts.length 9 (ts.map StretchV.cells)).ro]
   refine WS fun _ hK331 => ?_
   refine rS (BI rfl b_lss) ?_
   refine RK hK331 ?_
   refine w_seq fun _ hK332 => ?_
   refine w_if rfl (fun h333 => ?_) (fun h333 => ?_)
   rotate_left 1
   · replace h333 := DF h333
     refine w_exit ?_
     refine k_exit_then ?_
     refine k_exit_then ?_
     refine k_exit_same ?_
     refine k_then (k_sub (Sub.cons rfl <| Sub.cons rfl <| Sub.cons rfl <| Sub.cons rfl <| Sub.cons rfl <| Sub.cons rfl <| Sub.cons rfl <| Sub.cons rfl <| Sub.nil _) (fun w hs => St.sel [2, 3, 4, 5, 6] rfl rfl hs) (hK190 ()))
   replace h333 := DT h333
   refine WK hK332 ?_
   refine w_seq fun _ hK334 => ?_
   refine w_block ?_
   refine WS fun _ hK335 => ?_
   refine rS (MV rfl) ?_
   refine rS (AG rfl) ?_
   refine RK hK335 ?_
   refine w_seq fun _ hK336 => ?_
   refine w_draw mixed 24 (by kernel_rfl) ?_
   refine dS (MV rfl) ?_
   refine dS (MV rfl) ?_
   obtain ⟨y, hy⟩ : ∃ y_, (spansL (betF s q (by_ % 400)) ts)[i]? = some y_ := ⟨(spansL (betF s q (by_ % 400)) ts)[i]'(by omega), List.getElem?_eq_getElem _⟩
   have hym : ((spansL (betF s q (by_ % 400)) ts).map SpanV.cells)[i]? = some (SpanV.cells y) := by rw [List.getElem?_map, hy]; rfl
   refine dS (IA i rfl (has_own_n (n := (spansL (betF s q (by_ % 400)) ts).length) 0 rfl (by simp)) te31 (by decide) (by omega) (by omega)) ?_
   refine dS (FAR (i * 2) rfl (has_own_n (n := (spansL (betF s q (by_ % 400)) ts).length) 0 rfl (by simp)) (Nat.mul_pos (by omega) (by decide)) fo26_0 rfl) ?_
   refine dS (LE1 i 0 (Value.int .i64 y.Lo) rfl tk3 (has_own_n (n := (spansL (betF s q (by_ % 400)) ts).length) 0 rfl (by simp)) hym rfl (by decide) rfl) ?_
   refine dS (MV rfl) ?_
   refine dS (MV rfl) ?_
   obtain ⟨z, hzz⟩ : ∃ y_, (spansL s ts)[i]? = some y_ := ⟨(spansL s ts)[i]'(by omega), List.getElem?_eq_getElem _⟩
   have hzzm : ((spansL s ts).map SpanV.cells)[i]? = some (SpanV.cells z) := by rw [List.getElem?_map, hzz]; rfl
   refine dS (IA i rfl (has_own_n (n := (spansL s ts).length) 3 rfl (by simp)) te31 (by decide) (by omega) (by omega)) ?_
   refine dS (FAR (i * 2) rfl (has_own_n (n := (spansL s ts).length) 3 rfl (by simp)) (Nat.mul_pos (by omega) (by decide)) fo26_0 rfl) ?_
   refine dS (LE1 i 0 (Value.int .i64 z.Lo) rfl tk3 (has_own_n (n := (spansL s ts).length) 3 rfl (by simp)) hzzm rfl (by decide) rfl) ?_
   have yv : y = spanAt (betF s q (by_ % 400)) ts i := by rw [spansL_get (by first | omega | (simp; omega))] at hy; exact (Option.some.inj hy).symm
   have zv : z = spanAt s ts i := by rw [spansL_get (by first | omega | (simp; omega))] at hzz; exact (Option.some.inj hzz).symm
   have hb1 := bet_head (b := false) (by omega) hs hz hst i
   have hb2 := bet_head (b := true) (by omega) hs hz hst i
   have ey1 : y.Lo = headAt false (betF s q (by_ % 400)) ts i := by rw [yv]; rfl
   have ey2 : y.Hi = headAt true (betF s q (by_ % 400)) ts i := by rw [yv]; rfl
   have ez1 : z.Lo = headAt false s ts i := by rw [zv]; rfl
   have ez2 : z.Hi = headAt true s ts i := by rw [zv]; rfl
   refine dS (BI rfl b_lss) ?_
   refine dS (MV rfl) ?_
   refine d_bool (t := 163) rfl (fun h337 => ?_) (fun h337 => ?_)
   · replace h337 := DT h337
     exfalso; omega
   replace h337 := DF h337
   refine dS (MV rfl) ?_
   refine dS (MV rfl) ?_
   refine dS (IA i rfl (has_own_n (n := (spansL (betF s q (by_ % 400)) ts).length) 0 rfl (by simp)) te31 (by decide) (by omega) (by omega)) ?_
   refine dS (FAR ((i * 2) + 1) rfl (has_own_n (n := (spansL (betF s q (by_ % 400)) ts).length) 0 rfl (by simp)) (Nat.mul_pos (by omega) (by decide)) fo26_1 rfl) ?_
   refine dS (LE1 i 1 (Value.int .i64 y.Hi) rfl tk3 (has_own_n (n := (spansL (betF s q (by_ % 400)) ts).length) 0 rfl (by simp)) hym rfl (by decide) rfl) ?_
   refine dS (MV rfl) ?_
   refine dS (MV rfl) ?_
   refine dS (IA i rfl (has_own_n (n := (spansL s ts).length) 3 rfl (by simp)) te31 (by decide) (by omega) (by omega)) ?_
   refine dS (FAR ((i * 2) + 1) rfl (has_own_n (n := (spansL s ts).length) 3 rfl (by simp)) (Nat.mul_pos (by omega) (by decide)) fo26_1 rfl) ?_
   refine dS (LE1 i 1 (Value.int .i64 z.Hi) rfl tk3 (has_own_n (n := (spansL s ts).length) 3 rfl (by simp)) hzzm rfl (by decide) rfl) ?_
   refine dS (BI rfl b_lss) ?_
   refine dS (PK rfl) ?_
   refine d_end ?_
   refine RK hK336 ?_
   refine w_if rfl (fun h338 => ?_) (fun h338 => ?_)
   · replace h338 := DT h338
     exfalso; omega
   replace h338 := DF h338
   refine w_skip ?_
   refine k_block ?_
   refine KK hK334 ?_
   refine w_region ?_
   refine rS (BI rfl (b_add ⟨by omega, by omega⟩)) ?_
   refine rS (MV rfl) ?_
   refine r_nil ?_
   have hb339 : (Value.int .i64 (((i + 1) : Nat) : Int)) = (Value.int .i64 (((i : Nat) : Int) + 1)) := by exact congrArg (Value.int .i64) (by omega)
   refine k_then (hJ330 ⟨(i + 1), (by first | omega | (simp only []; omega))⟩ _ _ _ rfl (by first | omega | (simp; omega)) (Sub.cons rfl <| Sub.cons rfl <| Sub.cons rfl <| Sub.cons rfl <| Sub.cons rfl <| Sub.cons rfl <| Sub.cons rfl <| Sub.cons rfl <| Sub.cons rfl <| Sub.cons rfl <| Sub.cons rfl <| sub_val rfl hb339 <| Sub.nil _) (fun w hs => St.sel [0, 1, 2, 3, 4, 5, 6] rfl rfl hs))
 refine WS fun _ hK340 => ?_
 refine rS (MV rfl) ?_
 refine rS (BI rfl (b_rem (by omega) (by omega))) ?_
 refine RK hK340 ?_
 refine w_block ?_
 refine WS fun _ hK341 => ?_
 refine rS (BI rfl b_eql) ?_
 refine rS (AG rfl) ?_
 refine RK hK341 ?_
 refine w_if rfl (fun h82 => ?_) (fun h82 => ?_)
 · replace h82 := DT h82
   refine w_region ?_
   refine rS (FA 7 rfl fo28_4 rfl) ?_
   refine rS (FA 7 rfl fo26_0 rfl) ?_
   refine rS (L1 (Value.int .i64 s.Weight.Lo) 3 rfl tk3 rfl rfl) ?_
   refine rS (MV rfl) ?_
   refine rS (BI rfl (b_mul ⟨by omega, by omega⟩)) ?_
   refine rS (BI rfl (b_add ⟨by omega, by omega⟩)) ?_
   refine rS (FA 7 rfl fo28_4 rfl) ?_
   refine rS (FA 8 rfl fo26_1 rfl) ?_
   refine rS (L1 (Value.int .i64 s.Weight.Hi) 3 rfl tk3 rfl rfl) ?_
   refine rS (MV rfl) ?_
   refine rS (BI rfl (b_mul ⟨by omega, by omega⟩)) ?_
   refine rS (BI rfl (b_add ⟨by omega, by omega⟩)) ?_
   refine rS (CL (lspan_c (s.Weight.Lo + (100 * (by_ % 400))) (s.Weight.Hi + (100 * (by_ % 400)))) (ha_nil) rfl) ?_
   refine rS (FA 7 rfl fo28_4 rfl) ?_
   refine ST0 (SledV.cells (SledV.mk s.Class s.Start s.Rub s.Drag (SpanV.mk (s.Weight.Lo + (100 * (by_ % 400))) (s.Weight.Hi + (100 * (by_ % 400)))) s.Steer)) rfl ts26 rfl rfl ?_
   refine r_nil ?_
   refine k_block ?_
   have hb342 : (SledV.cells (SledV.mk s.Class s.Start s.Rub s.Drag (SpanV.mk (s.Weight.Lo + (100 * (by_ % 400))) (s.Weight.Hi + (100 * (by_ % 400)))) s.Steer)) = (SledV.cells (betF s q (by_ % 400))) := by first | (rw [show (betF s q (by_ % 400)) = { s with Weight := upF (100 * (by_ % 400)) s.Weight } from by unfold betF; rw [if_pos h82]]; rfl) | (rw [show (betF s q (by_ % 400)) = { s with Rub := downF ((by_ % 400) % 9) s.Rub } from by unfold betF; rw [if_neg h82, if_pos h98]]; rfl) | (rw [show (betF s q (by_ % 400)) = { s with Drag := downF ((by_ % 400) % 99) s.Drag } from by unfold betF; rw [if_neg h82, if_neg h98, if_pos h114]]; rfl) | (rw [show (betF s q (by_ % 400)) = { s with Start := upF (by_ % 400) s.Start } from by unfold betF; rw [if_neg h82, if_neg h98, if_neg h114]]; rfl)
   rw [hb342]
   refine k_then (k_sub (Sub.cons rfl <| Sub.cons rfl <| Sub.cons rfl <| Sub.cons rfl <| Sub.cons rfl <| Sub.cons rfl <| Sub.cons rfl <| Sub.cons rfl <| Sub.cons rfl <| Sub.nil _) (fun w hs => St.sel [0, 1, 2, 3, 4, 5] rfl rfl hs) (hK189 ()))
 replace h82 := DF h82
 refine WS fun _ hK343 => ?_
 refine rS (BI rfl b_eql) ?_
 refine rS (AG rfl) ?_
 refine RK hK343 ?_
 refine w_if rfl (fun h98 => ?_) (fun h98 => ?_)
 · replace h98 := DT h98
   refine w_region ?_
   refine rS (FA 3 rfl fo28_2 rfl) ?_
   refine rS (FA 3 rfl fo26_0 rfl) ?_
   refine rS (L1 (Value.int .i64 s.Rub.Lo) 3 rfl tk3 rfl rfl) ?_
   refine rS (MV rfl) ?_
   refine rS (BI rfl (b_rem (by omega) (by omega))) ?_
   refine rS (BI rfl (b_sub ⟨by omega, by omega⟩)) ?_
   refine rS (FA 3 rfl fo28_2 rfl) ?_
   refine rS (FA 4 rfl fo26_1 rfl) ?_
   refine rS (L1 (Value.int .i64 s.Rub.Hi) 3 rfl tk3 rfl rfl) ?_
   refine rS (MV rfl) ?_
   refine rS (BI rfl (b_rem (by omega) (by omega))) ?_
   refine rS (BI rfl (b_sub ⟨by omega, by omega⟩)) ?_
   refine rS (CL (lspan_c (s.Rub.Lo - ((by_ % 400) % 9)) (s.Rub.Hi - ((by_ % 400) % 9))) (ha_nil) rfl) ?_
   refine rS (FA 3 rfl fo28_2 rfl) ?_
   refine ST0 (SledV.cells (SledV.mk s.Class s.Start (SpanV.mk (s.Rub.Lo - ((by_ % 400) % 9)) (s.Rub.Hi - ((by_ % 400) % 9))) s.Drag s.Weight s.Steer)) rfl ts26 rfl rfl ?_
   refine r_nil ?_
   refine k_block ?_
   have hb344 : (SledV.cells (SledV.mk s.Class s.Start (SpanV.mk (s.Rub.Lo - ((by_ % 400) % 9)) (s.Rub.Hi - ((by_ % 400) % 9))) s.Drag s.Weight s.Steer)) = (SledV.cells (betF s q (by_ % 400))) := by first | (rw [show (betF s q (by_ % 400)) = { s with Weight := upF (100 * (by_ % 400)) s.Weight } from by unfold betF; rw [if_pos h82]]; rfl) | (rw [show (betF s q (by_ % 400)) = { s with Rub := downF ((by_ % 400) % 9) s.Rub } from by unfold betF; rw [if_neg h82, if_pos h98]]; rfl) | (rw [show (betF s q (by_ % 400)) = { s with Drag := downF ((by_ % 400) % 99) s.Drag } from by unfold betF; rw [if_neg h82, if_neg h98, if_pos h114]]; rfl) | (rw [show (betF s q (by_ % 400)) = { s with Start := upF (by_ % 400) s.Start } from by unfold betF; rw [if_neg h82, if_neg h98, if_neg h114]]; rfl)
   rw [hb344]
   refine k_then (k_sub (Sub.cons rfl <| Sub.cons rfl <| Sub.cons rfl <| Sub.cons rfl <| Sub.cons rfl <| Sub.cons rfl <| Sub.cons rfl <| Sub.cons rfl <| Sub.cons rfl <| Sub.nil _) (fun w hs => St.sel [0, 1, 2, 3, 4, 5] rfl rfl hs) (hK189 ()))
 replace h98 := DF h98
 refine WS fun _ hK345 => ?_
 refine rS (BI rfl b_eql) ?_
 refine rS (AG rfl) ?_
 refine RK hK345 ?_
 refine w_if rfl (fun h114 => ?_) (fun h114 => ?_)
 rotate_left 1
 · replace h114 := DF h114
   refine w_region ?_
   refine rS (FA 1 rfl fo28_1 rfl) ?_
   refine rS (FA 1 rfl fo26_0 rfl) ?_
   refine rS (L1 (Value.int .i64 s.Start.Lo) 3 rfl tk3 rfl rfl) ?_
   refine rS (MV rfl) ?_
   refine rS (BI rfl (b_add ⟨by omega, by omega⟩)) ?_
   refine rS (FA 1 rfl fo28_1 rfl) ?_
   refine rS (FA 2 rfl fo26_1 rfl) ?_
   refine rS (L1 (Value.int .i64 s.Start.Hi) 3 rfl tk3 rfl rfl) ?_
   refine rS (MV rfl) ?_
   refine rS (BI rfl (b_add ⟨by omega, by omega⟩)) ?_
   refine rS (CL (lspan_c (s.Start.Lo + (by_ % 400)) (s.Start.Hi + (by_ % 400))) (ha_nil) rfl) ?_
   refine rS (FA 1 rfl fo28_1 rfl) ?_
   refine ST0 (SledV.cells (SledV.mk s.Class (SpanV.mk (s.Start.Lo + (by_ % 400)) (s.Start.Hi + (by_ % 400))) s.Rub s.Drag s.Weight s.Steer)) rfl ts26 rfl rfl ?_
   refine r_nil ?_
   refine k_block ?_
   have hb347 : (SledV.cells (SledV.mk s.Class (SpanV.mk (s.Start.Lo + (by_ % 400)) (s.Start.Hi + (by_ % 400))) s.Rub s.Drag s.Weight s.Steer)) = (SledV.cells (betF s q (by_ % 400))) := by first | (rw [show (betF s q (by_ % 400)) = { s with Weight := upF (100 * (by_ % 400)) s.Weight } from by unfold betF; rw [if_pos h82]]; rfl) | (rw [show (betF s q (by_ % 400)) = { s with Rub := downF ((by_ % 400) % 9) s.Rub } from by unfold betF; rw [if_neg h82, if_pos h98]]; rfl) | (rw [show (betF s q (by_ % 400)) = { s with Drag := downF ((by_ % 400) % 99) s.Drag } from by unfold betF; rw [if_neg h82, if_neg h98, if_pos h114]]; rfl) | (rw [show (betF s q (by_ % 400)) = { s with Start := upF (by_ % 400) s.Start } from by unfold betF; rw [if_neg h82, if_neg h98, if_neg h114]]; rfl)
   rw [hb347]
   refine k_then (k_sub (Sub.cons rfl <| Sub.cons rfl <| Sub.cons rfl <| Sub.cons rfl <| Sub.cons rfl <| Sub.cons rfl <| Sub.cons rfl <| Sub.cons rfl <| Sub.cons rfl <| Sub.nil _) (fun w hs => St.sel [0, 1, 2, 3, 4, 5] rfl rfl hs) (hK189 ()))
 replace h114 := DT h114
 refine w_region ?_
 refine rS (FA 5 rfl fo28_3 rfl) ?_
 refine rS (FA 5 rfl fo26_0 rfl) ?_
 refine rS (L1 (Value.int .i64 s.Drag.Lo) 3 rfl tk3 rfl rfl) ?_
 refine rS (MV rfl) ?_
 refine rS (BI rfl (b_rem (by omega) (by omega))) ?_
 refine rS (BI rfl (b_sub ⟨by omega, by omega⟩)) ?_
 refine rS (FA 5 rfl fo28_3 rfl) ?_
 refine rS (FA 6 rfl fo26_1 rfl) ?_
 refine rS (L1 (Value.int .i64 s.Drag.Hi) 3 rfl tk3 rfl rfl) ?_
 refine rS (MV rfl) ?_
 refine rS (BI rfl (b_rem (by omega) (by omega))) ?_
 refine rS (BI rfl (b_sub ⟨by omega, by omega⟩)) ?_
 refine rS (CL (lspan_c (s.Drag.Lo - ((by_ % 400) % 99)) (s.Drag.Hi - ((by_ % 400) % 99))) (ha_nil) rfl) ?_
 refine rS (FA 5 rfl fo28_3 rfl) ?_
 refine ST0 (SledV.cells (SledV.mk s.Class s.Start s.Rub (SpanV.mk (s.Drag.Lo - ((by_ % 400) % 99)) (s.Drag.Hi - ((by_ % 400) % 99))) s.Weight s.Steer)) rfl ts26 rfl rfl ?_
 refine r_nil ?_
 refine k_block ?_
 have hb346 : (SledV.cells (SledV.mk s.Class s.Start s.Rub (SpanV.mk (s.Drag.Lo - ((by_ % 400) % 99)) (s.Drag.Hi - ((by_ % 400) % 99))) s.Weight s.Steer)) = (SledV.cells (betF s q (by_ % 400))) := by first | (rw [show (betF s q (by_ % 400)) = { s with Weight := upF (100 * (by_ % 400)) s.Weight } from by unfold betF; rw [if_pos h82]]; rfl) | (rw [show (betF s q (by_ % 400)) = { s with Rub := downF ((by_ % 400) % 9) s.Rub } from by unfold betF; rw [if_neg h82, if_pos h98]]; rfl) | (rw [show (betF s q (by_ % 400)) = { s with Drag := downF ((by_ % 400) % 99) s.Drag } from by unfold betF; rw [if_neg h82, if_neg h98, if_pos h114]]; rfl) | (rw [show (betF s q (by_ % 400)) = { s with Start := upF (by_ % 400) s.Start } from by unfold betF; rw [if_neg h82, if_neg h98, if_neg h114]]; rfl)
 rw [hb346]
 refine k_then (k_sub (Sub.cons rfl <| Sub.cons rfl <| Sub.cons rfl <| Sub.cons rfl <| Sub.cons rfl <| Sub.cons rfl <| Sub.cons rfl <| Sub.cons rfl <| Sub.cons rfl <| Sub.nil _) (fun w hs => St.sel [0, 1, 2, 3, 4, 5] rfl rfl hs) (hK189 ()))

end Go.Proofs.Ytpbgdeojcefnmaa
