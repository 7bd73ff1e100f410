/-
  Walks: kreisel/slide.first[int], kreisel/slide.Start$1, start1_j, kreisel/slide.Start, kreisel/slide.Start, kreisel/slide.Start, kreisel/slide.Start, kreisel/slide.Start, kreisel/kreiselref03.from, kreisel/kreiselref03.Start, kreisel/slide.Shut, kreisel/slide.Shut, kreisel/slide.Shut, kreisel/kreiselref03.Shut, kreisel/kreiselref03.Shut, kreisel/kreiselref03.Shut
-/
import Derived.Test.YtpbgdeojcefnmaaTab
import Derived.Test.YtpbgdeojcefnmaaShort
import Derived.Test.YtpbgdeojcefnmaaThr
import Derived.Test.YtpbgdeojcefnmaaMono
import Derived.Test.YtpbgdeojcefnmaaSafe
import Derived.Test.YtpbgdeojcefnmaaW4
import Derived.Test.YtpbgdeojcefnmaaW9
import Derived.Test.YtpbgdeojcefnmaaW18
namespace Go.Proofs.Ytpbgdeojcefnmaa
open Go.RowKit
set_option linter.unusedVariables false

set_option maxRecDepth 100000 in
set_option maxHeartbeats 400000 in
theorem first2_c (lo : Int) (hi : Int) (f : Value) (p : Int → Bool) (X : Assn) (r : Int) (J : Assn → Prop) (A0 : Assn) (hf : ∀ x0, 0 ≤ x0 ∧ x0 < hi → CloJ Try.prog f [.int .i64 x0] [X] J (.bool (p x0))) (hJ0 : J A0) (hJw : ∀ B, J B → B.wr = true) (hb : 0 ≤ lo ∧ lo ≤ r ∧ r ≤ hi ∧ hi ≤ 100000000) (hno : ∀ x, lo ≤ x → x < r → p x = false) (hyes : ∀ x, r ≤ x → x < hi → p x = true) :
    FnM Try.prog 77 [(Value.int .i64 lo), (Value.int .i64 hi), f] [X] A0 (fun (x : Assn) => (Value.int .i64 r)) (fun (x : Assn) => J x) (fun (x : Assn) => x) := by
 refine fnM_of go77 Try.func77 rfl rfl fun w0 Q hQ hN => ?_
 change WJ _ _ _ _ [(0, (Value.int .i64 lo)), (1, (Value.int .i64 hi)), (2, f)] [A0, X.ro]
 refine WS fun _ hK1 => ?_
 refine rS (AG rfl) ?_
 refine RK hK1 ?_
 refine w_seq fun _ hK2 => ?_
 refine w_block ?_
 have hinit : (lo ≤ lo ∧ lo ≤ r) ∧ (r ≤ hi ∧ hi ≤ hi) ∧ (J A0) := by exact ⟨by omega, by omega, hJ0⟩
 refine w_loop (ι := { z : Int × Int × Assn // (lo ≤ z.1 ∧ z.1 ≤ r) ∧ (r ≤ z.2.1 ∧ z.2.1 ≤ hi) ∧ (J z.2.2) }) (fun z => [(0, (Value.int .i64 z.1.1)), (1, (Value.int .i64 z.1.2.1)), (2, f)]) (fun z => [z.1.2.2, X.ro]) (fun z => (z.1.2.1 - z.1.1).toNat) ⟨(lo, hi, A0), hinit⟩ (Sub.cons rfl <| Sub.cons rfl <| Sub.cons rfl <| Sub.nil _) (fun w hs => St.sel [0, 1] rfl rfl hs) ?_
 clear hinit
 rintro ⟨⟨a, b, B⟩, ⟨hl0_0, hl0_1, hl0_2⟩⟩ J3 hJ3
 try dsimp only at hl0_0 hl0_1 hl0_2
 change WJ _ _ _ _ [(0, (Value.int .i64 a)), (1, (Value.int .i64 b)), (2, f)] [B, X.ro]
 refine w_seq fun _ hK4 => ?_
 refine WS fun _ hK5 => ?_
 refine rS (MV rfl) ?_
 refine rS (MV rfl) ?_
 refine rS (BI rfl b_lss) ?_
 refine RK hK5 ?_
 refine w_if rfl (fun h6 => ?_) (fun h6 => ?_)
 rotate_left 1
 · replace h6 := DF h6
   refine w_exit ?_
   refine k_exit_then ?_
   refine k_exit_then ?_
   refine k_exit_same ?_
   refine KK hK2 ?_
   refine WS fun _ hK11 => ?_
   refine rS (MV rfl) ?_
   refine rS (AG rfl) ?_
   refine RK hK11 ?_
   refine w_ret ?_
   refine hQ _ _ _ (l_nil (vs := [(Value.int .i64 a)]) ⟨rfl, trivial⟩ fun w hs => endM B 0 ?_ ?_ rfl (hJw _ hl0_2) hs)
   · clear hs w hQ hN hK11 hK5 hK4 hK2 hK1; exact congrArg (Value.int .i64) (by omega)
   · clear hs w hQ hN hK11 hK5 hK4 hK2 hK1; exact hl0_2
 replace h6 := DT h6
 refine WK hK4 ?_
 refine w_block ?_
 refine WS fun _ hK7 => ?_
 refine rS (MV rfl) ?_
 refine rS (MV rfl) ?_
 refine rS (MV rfl) ?_
 refine rS (BI rfl (b_sub ⟨by omega, by omega⟩)) ?_
 refine rS (BI rfl (b_quo (by omega) (by omega) (by omega))) ?_
 refine rS (BI rfl (b_add ⟨by omega, by omega⟩)) ?_
 refine rS (AG rfl) ?_
 refine RK hK7 ?_
 refine WS fun _ hK8 => ?_
 refine rS (MV rfl) ?_
 refine rS (MV rfl) ?_
 refine r_cloj 0 rfl rfl rfl (hf (a + ((b - a) / 2)) (by omega)) hl0_2 rfl (cv_cons 1 rfl rfl (cov_ro (cov_refl _)) cv_nil) rfl (fun B9 hB10 => ?_)
 change RJ _ _ _ _ _ _ [B9, X.ro]
 refine RK hK8 ?_
 refine w_if rfl (fun hp => ?_) (fun hp => ?_)
 · refine w_region ?_
   refine rS (MV rfl) ?_
   refine rS (AG rfl) ?_
   refine r_nil ?_
   refine k_block ?_
   refine k_then (hJ3 ⟨(a, (a + ((b - a) / 2)), B9), (by dsimp only; rcases Int.lt_or_le (a + (b - a) / 2) r with q | q; (have q2 := hno _ (by omega) q; first | (refine ⟨⟨by omega, by omega⟩, ⟨by omega, by omega⟩, hB10⟩) | (rw [q2] at hp; cases hp)); (have q2 := hyes _ q (by omega); first | (refine ⟨⟨by omega, by omega⟩, ⟨by omega, by omega⟩, hB10⟩) | (rw [q2] at hp; cases hp)))⟩ _ _ _ rfl (by simp only []; omega) (Sub.cons rfl <| Sub.cons rfl <| Sub.cons rfl <| Sub.nil _) (fun w hs => St.sel [0, 1] rfl rfl hs))
 refine w_region ?_
 refine rS (MV rfl) ?_
 refine rS (BI rfl (b_add ⟨by omega, by omega⟩)) ?_
 refine rS (AG rfl) ?_
 refine r_nil ?_
 refine k_block ?_
 refine k_then (hJ3 ⟨(((a + ((b - a) / 2)) + 1), b, B9), (by dsimp only; rcases Int.lt_or_le (a + (b - a) / 2) r with q | q; (have q2 := hno _ (by omega) q; first | (refine ⟨⟨by omega, by omega⟩, ⟨by omega, by omega⟩, hB10⟩) | (rw [q2] at hp; cases hp)); (have q2 := hyes _ q (by omega); first | (refine ⟨⟨by omega, by omega⟩, ⟨by omega, by omega⟩, hB10⟩) | (rw [q2] at hp; cases hp)))⟩ _ _ _ rfl (by simp only []; omega) (Sub.cons rfl <| Sub.cons rfl <| Sub.cons rfl <| Sub.nil _) (fun w hs => St.sel [0, 1] rfl rfl hs))

set_option maxRecDepth 100000 in
set_option maxHeartbeats 400000 in
theorem start1_c (h : Int) (g1 : Nat) (s : SledV) (ts : List StretchV) (tsA : Option Addr) (tsC : Nat) (hs : SledOk (fromS s h)) (hst : ∀ x ∈ ts, StretchOk x) (hlen : ts.length ≤ 12) (hside : ∀ x ∈ ts, 0 ≤ x.Side ∧ x.Side ≤ 255) :
    FnM Try.prog 80 [(Value.int .i64 h), (Value.pointer (some ⟨g1, 0, none⟩))] [(rd tsA ts.length 9 (ts.map StretchV.cells))] (blk g1 108 (RiderV.cells (RiderV.mk s (TrackV.mk (Slc.mk tsA ts.length tsC)) true))) (fun (x : Unit) => (Value.bool (startP s ts h))) (fun (x : Unit) => True) (fun (x : Unit) => (blk g1 108 (RiderV.cells (RiderV.mk (fromS s h) (TrackV.mk (Slc.mk tsA ts.length tsC)) true)))) := by
 refine fnM_of go80 Try.func80 rfl rfl fun w0 Q hQ hN => ?_
 change WJ _ _ _ _ [(0, (Value.int .i64 h)), (1, (Value.pointer (some ⟨g1, 0, none⟩)))] [(blk g1 108 (RiderV.cells (RiderV.mk s (TrackV.mk (Slc.mk tsA ts.length tsC)) true))), (rd tsA ts.length 9 (ts.map StretchV.cells)).ro]
 refine WS fun _ hK1 => ?_
 refine rS (AG rfl) ?_
 refine RK hK1 ?_
 refine WS fun _ hK2 => ?_
 refine rS (MV rfl) ?_
 refine rS (SX (sd_build (xs := [(1, .tmp 4)]) (cs := (SpanV.cells (SpanV.mk 0 h))) rfl rfl (built_of tb26 rfl)) rfl rfl) ?_
 refine rS (FA 0 rfl fo108_0 rfl) ?_
 refine rS (FA 1 rfl fo28_1 rfl) ?_
 refine ST0 (RiderV.cells (RiderV.mk (SledV.mk s.Class (SpanV.mk 0 h) s.Rub s.Drag s.Weight s.Steer) (TrackV.mk (Slc.mk tsA ts.length tsC)) true)) rfl ts26 rfl rfl ?_
 refine RK hK2 ?_
 refine WS fun _ hK3 => ?_
 refine rS (LW 0 rfl tk108 rfl rfl) ?_
 refine cX (thrown_c (SledV.mk s.Class (SpanV.mk 0 h) s.Rub s.Drag s.Weight s.Steer) ts tsA tsC true (by first | assumption | omega | (simp; done) | (simp; omega)) hst hlen hside) (ha_at 1 rfl rfl <| ha_nil) rfl fun y4 hy5 => ?_
 obtain ⟨a6, c7⟩ := y4
 change RJ _ _ _ _ _ ((_, (Value.slice a6 ((thr true (SledV.mk s.Class (SpanV.mk 0 h) s.Rub s.Drag s.Weight s.Steer) ts).length) c7)) :: _) ((own a6 c7 3 1 ((thr true (SledV.mk s.Class (SpanV.mk 0 h) s.Rub s.Drag s.Weight s.Steer) ts).map iC)) :: _)
 refine rS (LN rfl ut61) ?_
 refine rS (BI rfl b_gtr) ?_
 refine rS (AG rfl) ?_
 refine RK hK3 ?_
 refine w_ret ?_
 refine hQ _ _ _ (l_nil (vs := [(Value.bool (decide (0 < (((thr true (SledV.mk s.Class (SpanV.mk 0 h) s.Rub s.Drag s.Weight s.Steer) ts).length : Nat) : Int))))]) ⟨rfl, trivial⟩ fun w hs => endM () 1 ?_ ?_ rfl rfl hs)
 · clear hs w hQ hN hK3 hK2 hK1; exact congrArg Value.bool start_len
 · clear hs w hQ hN hK3 hK2 hK1; trivial

theorem start1_j (b : Nat) (s : SledV) (ts : List StretchV) (tsA : Option Addr) (tsC : Nat) (x : Int) (hx : 0 ≤ x ∧ x < 200001) (hs : SledOk s) (hst : ∀ x ∈ ts, StretchOk x) (hlen : ts.length ≤ 12) (hside : ∀ x ∈ ts, 0 ≤ x.Side ∧ x.Side ≤ 255) :
    CloJ Try.prog (Value.func (.func 80) [].toArray [(Value.pointer (some ⟨b, 0, none⟩))].toArray) [.int .i64 x] [(rd tsA ts.length 9 (ts.map StretchV.cells))] (fun B => ∃ z : SpanV, B = blk b 108 (RiderV.cells (RiderV.mk ({ s with Start := z } : SledV) (TrackV.mk (Slc.mk tsA ts.length tsC)) true))) (.bool (startP s ts x)) :=
  ⟨80, _, _, rfl, go80, fun w B hB hh hCp hsep => by
    obtain ⟨z, rfl⟩ := hB
    exact ((start1_c x b { s with Start := z } ts tsA tsC (show SledOk (fromS s x) from fromS_ok hs hx.1 (by omega)) hst hlen hside).run w hh hCp hsep).mono fun e w' ⟨_, he, _, hm⟩ => ⟨he, _, ⟨⟨0, x⟩, rfl⟩, hm⟩⟩

set_option maxRecDepth 100000 in
set_option maxHeartbeats 400000 in
theorem start_bad (ts : List StretchV) (tsA : Option Addr) (tsC : Nat) (s : SledV) (hlen : ts.length ≤ 1000000) (hside : ∀ x ∈ ts, 0 ≤ x.Side ∧ x.Side ≤ 255) (htr : trackOk ts = false) :
    FnV Try.prog 34 [(Value.agg (TrackV.cells (TrackV.mk (Slc.mk tsA ts.length tsC))).toArray), (Value.agg (SledV.cells s).toArray)] [(rd tsA ts.length 9 (ts.map StretchV.cells))] (Value.tuple [(Value.int .i64 (startV s ts)), (Value.int .i64 (startE s ts))].toArray) := by
 have hb0 : ¬ bothE s ts = 0 := by rw [bothE_bad htr]; decide
 refine fnV_of go34 Try.func34 rfl rfl fun w0 Q hQ hN => ?_
 change WJ _ _ _ _ [(0, (Value.agg (TrackV.cells (TrackV.mk (Slc.mk tsA ts.length tsC))).toArray)), (1, (Value.agg (SledV.cells s).toArray))] [(rd tsA ts.length 9 (ts.map StretchV.cells)).ro]
 refine WS fun _ hK1 => ?_
 refine BXA rfl fun b2 => ?_
 refine BXA rfl fun b3 => ?_
 refine rS (AG rfl) ?_
 refine rS (AG rfl) ?_
 refine RK hK1 ?_
 refine WS fun _ hK4 => ?_
 refine rS (LW 1 rfl tk24 rfl rfl) ?_
 refine rS (LW 0 rfl tk28 rfl rfl) ?_
 refine rS (CL (open_bad ts tsA tsC s hlen hside htr) (ha_at 2 rfl rfl <| ha_nil) rfl) ?_
 refine rS (MV rfl) ?_
 refine rS (EX rfl) ?_
 refine rS (EX rfl) ?_
 refine rS (EX rfl) ?_
 refine AL rfl tz108 fun b5 => ?_
 refine AL rfl tz108 fun b6 => ?_
 refine SW1 rfl ts108 rfl ?_
 refine SW0 rfl ts108 rfl ?_
 refine rS (AG rfl) ?_
 refine RK hK4 ?_
 refine w_seq fun _ hK7 => ?_
 refine WS fun _ hK8 => ?_
 refine rS (MV rfl) ?_
 refine rS (BI rfl b_neq) ?_
 refine RK hK8 ?_
 refine w_if rfl (fun he => ?_) (fun he => ?_)
 rotate_left 1
 · replace he := XF he
   exact absurd he hb0
 replace he := XT he
 refine WS fun _ hK9 => ?_
 refine rS (MV rfl) ?_
 refine rS (AG rfl) ?_
 refine rS (AG rfl) ?_
 refine RK hK9 ?_
 refine w_ret ?_
 refine Q2 hQ rfl rfl rfl rfl ?_
 rw [(start_no hb0).1, (start_no hb0).2]

set_option maxRecDepth 100000 in
set_option maxHeartbeats 400000 in
theorem start_sled (ts : List StretchV) (tsA : Option Addr) (tsC : Nat) (s : SledV) (hlen : ts.length ≤ 1000000) (hside : ∀ x ∈ ts, 0 ≤ x.Side ∧ x.Side ≤ 255) (htr : trackOk ts = true) (hns : ¬ SledOk s) :
    FnV Try.prog 34 [(Value.agg (TrackV.cells (TrackV.mk (Slc.mk tsA ts.length tsC))).toArray), (Value.agg (SledV.cells s).toArray)] [(rd tsA ts.length 9 (ts.map StretchV.cells))] (Value.tuple [(Value.int .i64 (startV s ts)), (Value.int .i64 (startE s ts))].toArray) := by
 have hb0 : ¬ bothE s ts = 0 := by rw [bothE_sled htr hns]; decide
 refine fnV_of go34 Try.func34 rfl rfl fun w0 Q hQ hN => ?_
 change WJ _ _ _ _ [(0, (Value.agg (TrackV.cells (TrackV.mk (Slc.mk tsA ts.length tsC))).toArray)), (1, (Value.agg (SledV.cells s).toArray))] [(rd tsA ts.length 9 (ts.map StretchV.cells)).ro]
 refine WS fun _ hK1 => ?_
 refine BXA rfl fun b2 => ?_
 refine BXA rfl fun b3 => ?_
 refine rS (AG rfl) ?_
 refine rS (AG rfl) ?_
 refine RK hK1 ?_
 refine WS fun _ hK4 => ?_
 refine rS (LW 1 rfl tk24 rfl rfl) ?_
 refine rS (LW 0 rfl tk28 rfl rfl) ?_
 refine rS (CL (open_ok ts tsA tsC s hlen hside htr) (ha_at 2 rfl rfl <| ha_nil) rfl) ?_
 refine rS (MV rfl) ?_
 refine rS (EX rfl) ?_
 refine rS (EX rfl) ?_
 refine rS (EX rfl) ?_
 refine AL rfl tz108 fun b5 => ?_
 refine AL rfl tz108 fun b6 => ?_
 refine SW1 rfl ts108 rfl ?_
 refine SW0 rfl ts108 rfl ?_
 refine rS (AG rfl) ?_
 refine RK hK4 ?_
 refine w_seq fun _ hK7 => ?_
 refine WS fun _ hK8 => ?_
 refine rS (MV rfl) ?_
 refine rS (BI rfl b_neq) ?_
 refine RK hK8 ?_
 refine w_if rfl (fun he => ?_) (fun he => ?_)
 rotate_left 1
 · replace he := XF he
   exact absurd he hb0
 replace he := XT he
 refine WS fun _ hK9 => ?_
 refine rS (MV rfl) ?_
 refine rS (AG rfl) ?_
 refine rS (AG rfl) ?_
 refine RK hK9 ?_
 refine w_ret ?_
 refine Q2 hQ rfl rfl rfl rfl ?_
 rw [(start_no hb0).1, (start_no hb0).2]

set_option maxRecDepth 100000 in
set_option maxHeartbeats 400000 in
theorem start_ok (ts : List StretchV) (tsA : Option Addr) (tsC : Nat) (s : SledV) (hlen : ts.length ≤ 1000000) (hside : ∀ x ∈ ts, 0 ≤ x.Side ∧ x.Side ≤ 255) (htr : trackOk ts = true) (hs : SledOk s) :
    FnV Try.prog 34 [(Value.agg (TrackV.cells (TrackV.mk (Slc.mk tsA ts.length tsC))).toArray), (Value.agg (SledV.cells s).toArray)] [(rd tsA ts.length 9 (ts.map StretchV.cells))] (Value.tuple [(Value.int .i64 (startV s ts)), (Value.int .i64 (startE s ts))].toArray) := by
 have hb0 := bothE_ok htr hs
 have hst := trackOk_all htr
 have hl12 := trackOk_le htr
 have hl1 := trackOk_pos htr
 refine fnV_of go34 Try.func34 rfl rfl fun w0 Q hQ hN => ?_
 change WJ _ _ _ _ [(0, (Value.agg (TrackV.cells (TrackV.mk (Slc.mk tsA ts.length tsC))).toArray)), (1, (Value.agg (SledV.cells s).toArray))] [(rd tsA ts.length 9 (ts.map StretchV.cells)).ro]
 refine WS fun _ hK1 => ?_
 refine BXA rfl fun b2 => ?_
 refine BXA rfl fun b3 => ?_
 refine rS (AG rfl) ?_
 refine rS (AG rfl) ?_
 refine RK hK1 ?_
 refine WS fun _ hK4 => ?_
 refine rS (LW 1 rfl tk24 rfl rfl) ?_
 refine rS (LW 0 rfl tk28 rfl rfl) ?_
 refine rS (CL (open_ok ts tsA tsC s hlen hside htr) (ha_at 2 rfl rfl <| ha_nil) rfl) ?_
 refine rS (MV rfl) ?_
 refine rS (EX rfl) ?_
 refine rS (EX rfl) ?_
 refine rS (EX rfl) ?_
 refine AL rfl tz108 fun b5 => ?_
 refine AL rfl tz108 fun b6 => ?_
 refine SW1 rfl ts108 rfl ?_
 refine SW0 rfl ts108 rfl ?_
 refine rS (AG rfl) ?_
 refine RK hK4 ?_
 refine w_seq fun _ hK7 => ?_
 refine WS fun _ hK8 => ?_
 refine rS (MV rfl) ?_
 refine rS (BI rfl b_neq) ?_
 refine RK hK8 ?_
 refine w_if rfl (fun he => ?_) (fun he => ?_)
 · replace he := XT he
   exact absurd hb0 he
 replace he := XF he
 refine WK hK7 ?_
 refine WS fun _ hK9 => ?_
 refine rS (FU rfl) ?_
 have hsb := startN_b (s := s) (ts := ts)
 refine r_callm 0 rfl rfl rfl rfl (first2_c 0 200001 (Value.func (.func 80) [].toArray [(Value.pointer (some ⟨b6, 0, none⟩))].toArray) (startP s ts) (rd tsA ts.length 9 (ts.map StretchV.cells)) (startN s ts) (fun B => ∃ z : SpanV, B = blk b6 108 (RiderV.cells (RiderV.mk ({ s with Start := z } : SledV) (TrackV.mk (Slc.mk tsA ts.length tsC)) true))) (blk b6 108 (RiderV.cells (RiderV.mk s (TrackV.mk (Slc.mk tsA ts.length tsC)) true))) (fun x hx => start1_j b6 s ts tsA tsC x hx hs hst (by omega) hside) ⟨s.Start, rfl⟩ (fun B hB => by obtain ⟨z, rfl⟩ := hB; rfl) (by omega) (fun y h0 h1 => firstN_no (p := startP s ts) (n := 200001) h0 h1) (fun y h0 h1 => firstN_yes (p := startP s ts) (n := 200001) (startP_mono hs hst) h0 h1)) rfl (cv_cons 4 rfl rfl (cov_ro (cov_refl _)) cv_nil) rfl (fun B hB => ?_)
 change RJ _ _ _ _ _ _ [B, (blk b5 108 (RiderV.cells (RiderV.mk s (TrackV.mk (Slc.mk tsA ts.length tsC)) false))), (blk b3 28 (SledV.cells s)), (blk b2 24 (TrackV.cells (TrackV.mk (Slc.mk tsA ts.length tsC)))), (rd tsA ts.length 9 (ts.map StretchV.cells)).ro]
 refine rS (AG rfl) ?_
 refine RK hK9 ?_
 refine w_seq fun _ hK10 => ?_
 refine WS fun _ hK11 => ?_
 refine rS (MV rfl) ?_
 refine rS (BI rfl b_eql) ?_
 refine RK hK11 ?_
 refine w_if rfl (fun hz0 => ?_) (fun hz0 => ?_)
 · replace hz0 := DT hz0
   refine WS fun _ hK12 => ?_
   refine rS (AG rfl) ?_
   refine rS (AG rfl) ?_
   refine RK hK12 ?_
   refine w_ret ?_
   refine Q2 hQ rfl rfl rfl rfl ?_
   first | (have e := start_none hb0 hz0; rw [e.1, e.2]) | (have e := start_some hb0 hz0; rw [e.1, e.2])
 replace hz0 := DF hz0
 refine WK hK10 ?_
 refine WS fun _ hK13 => ?_
 refine rS (MV rfl) ?_
 refine rS (BI rfl (b_sub ⟨by omega, by omega⟩)) ?_
 refine rS (AG rfl) ?_
 refine rS (AG rfl) ?_
 refine RK hK13 ?_
 refine w_ret ?_
 refine Q2 hQ rfl rfl rfl rfl ?_
 first | (have e := start_none hb0 hz0; rw [e.1, e.2]) | (have e := start_some hb0 hz0; rw [e.1, e.2])

theorem start_no_ (ts : List StretchV) (tsA : Option Addr) (tsC : Nat) (s : SledV) (hlen : ts.length ≤ 1000000) (hside : ∀ x ∈ ts, 0 ≤ x.Side ∧ x.Side ≤ 255) (hb : ¬ bothE s ts = 0) :
    FnV Try.prog 34 [(Value.agg (TrackV.cells (TrackV.mk (Slc.mk tsA ts.length tsC))).toArray), (Value.agg (SledV.cells s).toArray)] [(rd tsA ts.length 9 (ts.map StretchV.cells))] (Value.tuple [(Value.int .i64 (startV s ts)), (Value.int .i64 (startE s ts))].toArray) := by
  by_cases htr : trackOk ts = true
  · by_cases hs : SledOk s
    · exact absurd (bothE_ok htr hs) hb
    · exact start_sled ts tsA tsC s hlen hside htr hs
  · exact start_bad ts tsA tsC s hlen hside (by simpa using htr)

theorem start_c (ts : List StretchV) (tsA : Option Addr) (tsC : Nat) (s : SledV) (hlen : ts.length ≤ 1000000) (hside : ∀ x ∈ ts, 0 ≤ x.Side ∧ x.Side ≤ 255) :
    FnV Try.prog 34 [(Value.agg (TrackV.cells (TrackV.mk (Slc.mk tsA ts.length tsC))).toArray), (Value.agg (SledV.cells s).toArray)] [(rd tsA ts.length 9 (ts.map StretchV.cells))] (Value.tuple [(Value.int .i64 (startV s ts)), (Value.int .i64 (startE s ts))].toArray) := by
  by_cases hb : bothE s ts = 0
  · obtain ⟨h1, h2⟩ := bothE_zero hb
    exact start_ok ts tsA tsC s hlen hside h1 h2
  · exact start_no_ ts tsA tsC s hlen hside hb

set_option maxRecDepth 100000 in
set_option maxHeartbeats 400000 in
theorem from_c (s : SledV) (h : Int) :
    FnV Try.prog 81 [(Value.agg (SledV.cells s).toArray), (Value.int .i64 h)] [] (Value.agg (SledV.cells (fromS s h)).toArray) := by
 refine fnV_of go81 Try.func81 rfl rfl fun w0 Q hQ hN => ?_
 change WJ _ _ _ _ [(0, (Value.agg (SledV.cells s).toArray)), (1, (Value.int .i64 h))] []
 refine WS fun _ hK1 => ?_
 refine BXA rfl fun b2 => ?_
 refine AL rfl tz28 fun b3 => ?_
 refine RK hK1 ?_
 refine WS fun _ hK4 => ?_
 refine rS (MV rfl) ?_
 refine rS (SX (sd_build (xs := [(0, .const (Value.int .i64 0)), (1, .tmp 5)]) (cs := (SpanV.cells (SpanV.mk 0 h))) rfl rfl (built_of tb26 rfl)) rfl rfl) ?_
 refine rS (FA 1 rfl fo28_1 rfl) ?_
 refine ST1 (SledV.cells (SledV.mk s.Class (SpanV.mk 0 h) s.Rub s.Drag s.Weight s.Steer)) rfl ts26 rfl rfl ?_
 refine RK hK4 ?_
 refine WS fun _ hK5 => ?_
 refine rS (LW 1 rfl tk28 rfl rfl) ?_
 refine SW0 rfl ts28 rfl ?_
 refine RK hK5 ?_
 refine w_ret ?_
 refine hQ _ _ _ (l_nil (vs := [(Value.agg (SledV.cells (SledV.mk s.Class (SpanV.mk 0 h) s.Rub s.Drag s.Weight s.Steer)).toArray)]) ⟨⟨_, rfl, .inl ⟨_, _, tk28, at_blk (vs := (SledV.cells (SledV.mk s.Class (SpanV.mk 0 h) s.Rub s.Drag s.Weight s.Steer))) 0 rfl rfl, rfl, rfl⟩⟩, trivial⟩ fun w hs => endV ?_ hs)
 show (Value.agg (SledV.cells (SledV.mk s.Class (SpanV.mk 0 h) s.Rub s.Drag s.Weight s.Steer)).toArray) = (Value.agg (SledV.cells (fromS s h)).toArray)
 clear hs w hQ hN hK5 hK4 hK1
 rfl

set_option maxRecDepth 100000 in
set_option maxHeartbeats 400000 in
theorem rStart_c (ts : List StretchV) (tsA : Option Addr) (tsC : Nat) (s : SledV) (hlen : ts.length ≤ 1000000) (hside : ∀ x ∈ ts, 0 ≤ x.Side ∧ x.Side ≤ 255) (hc : 0 ≤ s.Class ∧ s.Class ≤ 255) :
    FnV Try.prog 35 [(Value.agg (TrackV.cells (TrackV.mk (Slc.mk tsA ts.length tsC))).toArray), (Value.agg (SledV.cells s).toArray)] [(rd tsA ts.length 9 (ts.map StretchV.cells))] (Value.tuple [(Value.int .i64 (startV s ts)), (Value.int .i64 (startE s ts))].toArray) := by
 refine fnV_of go35 Try.func35 rfl rfl fun w0 Q hQ hN => ?_
 change WJ _ _ _ _ [(0, (Value.agg (TrackV.cells (TrackV.mk (Slc.mk tsA ts.length tsC))).toArray)), (1, (Value.agg (SledV.cells s).toArray))] [(rd tsA ts.length 9 (ts.map StretchV.cells)).ro]
 refine WS fun _ hK1 => ?_
 refine BXA rfl fun b2 => ?_
 refine BXA rfl fun b3 => ?_
 refine rS (AG rfl) ?_
 refine rS (AG rfl) ?_
 refine RK hK1 ?_
 refine w_seq fun _ hK4 => ?_
 refine WS fun _ hK5 => ?_
 refine rS (LW 1 rfl tk24 rfl rfl) ?_
 refine rS (LW 0 rfl tk28 rfl rfl) ?_
 refine rS (CL (both_c ts tsA tsC s hlen hc) (ha_at 2 rfl rfl <| ha_nil) rfl) ?_
 refine rS (AG rfl) ?_
 refine RK hK5 ?_
 refine WS fun _ hK6 => ?_
 refine rS (MV rfl) ?_
 refine rS (BI rfl b_neq) ?_
 refine RK hK6 ?_
 refine w_if rfl (fun he => ?_) (fun he => ?_)
 · replace he := XT he
   refine WS fun _ hK7 => ?_
   refine rS (MV rfl) ?_
   refine rS (AG rfl) ?_
   refine rS (AG rfl) ?_
   refine RK hK7 ?_
   refine w_ret ?_
   refine Q2 hQ rfl rfl rfl rfl ?_
   first | (have e := start_no he; rw [e.1, e.2]) | (have e := start_none he (start_zero hs hst h0s); rw [e.1, e.2]) | (have e := start_ref he (by omega) (by omega) hl7_1 (startP_mono hs hst) (fun y h1 h2 => hl7_2 y (by omega) h2); rw [e.1, e.2])
 replace he := XF he
 refine WK hK4 ?_
 refine w_seq fun _ hK8 => ?_
 refine w_seq fun _ hK9 => ?_
 refine w_draw mixed 5 (by kernel_rfl) ?_
 obtain ⟨htr, hs⟩ := bothE_zero he
 have hst := trackOk_all htr
 have hl12 := trackOk_le htr
 have hsf0 := fromS_ok hs (Int.le_refl 0) (by omega)
 refine dS (LW 1 rfl tk24 rfl rfl) ?_
 refine dS (LW 0 rfl tk28 rfl rfl) ?_
 refine dS (CL (from_c s 0) (ha_nil) rfl) ?_
 refine dS (CL (rsafe_c ts tsA tsC (fromS s 0) (by first | assumption | omega | (simp; done) | (simp; omega)) (by first | assumption | omega | (simp; done) | (simp; omega)) (by first | assumption | omega | (simp; done) | (simp; omega)) hside) (ha_at 2 rfl rfl <| ha_nil) rfl) ?_
 refine dS (BI rfl b_neq) ?_
 refine d_end ?_
 refine RK hK9 ?_
 refine w_if rfl (fun h0s => ?_) (fun h0s => ?_)
 · replace h0s := XT h0s
   refine WS fun _ hK10 => ?_
   refine rS (AG rfl) ?_
   refine rS (AG rfl) ?_
   refine RK hK10 ?_
   refine w_ret ?_
   refine Q2 hQ rfl rfl rfl rfl ?_
   first | (have e := start_no he; rw [e.1, e.2]) | (have e := start_none he (start_zero hs hst h0s); rw [e.1, e.2]) | (have e := start_ref he (by omega) (by omega) hl7_1 (startP_mono hs hst) (fun y h1 h2 => hl7_2 y (by omega) h2); rw [e.1, e.2])
 replace h0s := XF h0s
 refine WK hK8 ?_
 refine WS fun _ hK11 => ?_
 refine rS (AG rfl) ?_
 refine rS (AG rfl) ?_
 refine RK hK11 ?_
 refine w_seq fun _ hK12 => ?_
 refine w_block ?_
 have hinit : (0 ≤ (0 : Int) ∧ (0 : Int) ≤ (200000 : Int) ∧ (200000 : Int) ≤ 200000) ∧ (startP s ts (0 : Int) = false) ∧ (∀ y, (200000 : Int) < y → y ≤ 200000 → startP s ts y = true) := by exact ⟨by omega, (start_safe hs hst (Int.le_refl 0) (by omega)).1 h0s, fun y h1 h2 => by omega⟩
 refine w_loop (ι := { z : Int × Int // (0 ≤ z.1 ∧ z.1 ≤ z.2 ∧ z.2 ≤ 200000) ∧ (startP s ts z.1 = false) ∧ (∀ y, z.2 < y → y ≤ 200000 → startP s ts y = true) }) (fun z => [(2, (Value.pointer (some ⟨b2, 0, none⟩))), (3, (Value.pointer (some ⟨b3, 0, none⟩))), (7, (Value.int .i64 z.1.1)), (8, (Value.int .i64 z.1.2))]) (fun z => [(blk b3 28 (SledV.cells s)), (blk b2 24 (TrackV.cells (TrackV.mk (Slc.mk tsA ts.length tsC)))), (rd tsA ts.length 9 (ts.map StretchV.cells)).ro]) (fun z => (z.1.2 - z.1.1).toNat) ⟨((0 : Int), (200000 : Int)), hinit⟩ (Sub.cons rfl <| Sub.cons rfl <| Sub.cons rfl <| Sub.cons rfl <| Sub.nil _) (fun w hs => St.sel [0, 1, 2] rfl rfl hs) ?_
 clear hinit
 rintro ⟨⟨lo, hi⟩, ⟨hl7_0, hl7_1, hl7_2⟩⟩ J13 hJ13
 try dsimp only at hl7_0 hl7_1 hl7_2
 change WJ _ _ _ _ [(2, (Value.pointer (some ⟨b2, 0, none⟩))), (3, (Value.pointer (some ⟨b3, 0, none⟩))), (7, (Value.int .i64 lo)), (8, (Value.int .i64 hi))] [(blk b3 28 (SledV.cells s)), (blk b2 24 (TrackV.cells (TrackV.mk (Slc.mk tsA ts.length tsC)))), (rd tsA ts.length 9 (ts.map StretchV.cells)).ro]
 refine w_seq fun _ hK14 => ?_
 refine WS fun _ hK15 => ?_
 refine rS (MV rfl) ?_
 refine rS (MV rfl) ?_
 refine rS (BI rfl b_lss) ?_
 refine RK hK15 ?_
 refine w_if rfl (fun h16 => ?_) (fun h16 => ?_)
 rotate_left 1
 · replace h16 := DF h16
   refine w_exit ?_
   refine k_exit_then ?_
   refine k_exit_then ?_
   refine k_exit_same ?_
   refine KK hK12 ?_
   refine WS fun _ hK19 => ?_
   refine rS (MV rfl) ?_
   refine rS (AG rfl) ?_
   refine rS (AG rfl) ?_
   refine RK hK19 ?_
   refine w_ret ?_
   refine Q2 hQ rfl rfl rfl rfl ?_
   first | (have e := start_no he; rw [e.1, e.2]) | (have e := start_none he (start_zero hs hst h0s); rw [e.1, e.2]) | (have e := start_ref he (by omega) (by omega) hl7_1 (startP_mono hs hst) (fun y h1 h2 => hl7_2 y (by omega) h2); rw [e.1, e.2])
 replace h16 := DT h16
 refine WK hK14 ?_
 refine w_block ?_
 refine WS fun _ hK17 => ?_
 refine rS (MV rfl) ?_
 refine rS (MV rfl) ?_
 refine rS (BI rfl (b_add ⟨by omega, by omega⟩)) ?_
 refine rS (BI rfl (b_add ⟨by omega, by omega⟩)) ?_
 refine rS (BI rfl (b_quo (by omega) (by omega) (by omega))) ?_
 refine rS (AG rfl) ?_
 refine RK hK17 ?_
 refine w_seq fun _ hK18 => ?_
 refine w_draw mixed 6 (by kernel_rfl) ?_
 have hsf := fromS_ok (h := (((lo + hi) + 1) / 2)) hs (by omega) (by omega)
 refine dS (LW 1 rfl tk24 rfl rfl) ?_
 refine dS (LW 0 rfl tk28 rfl rfl) ?_
 refine dS (MV rfl) ?_
 refine dS (CL (from_c s (((lo + hi) + 1) / 2)) (ha_nil) rfl) ?_
 refine dS (CL (rsafe_c ts tsA tsC (fromS s (((lo + hi) + 1) / 2)) (by first | assumption | omega | (simp; done) | (simp; omega)) (by first | assumption | omega | (simp; done) | (simp; omega)) (by first | assumption | omega | (simp; done) | (simp; omega)) hside) (ha_at 2 rfl rfl <| ha_nil) rfl) ?_
 refine dS (BI rfl b_eql) ?_
 refine d_end ?_
 refine RK hK18 ?_
 refine w_if rfl (fun hp => ?_) (fun hp => ?_)
 · replace hp := DT hp
   refine w_region ?_
   refine rS (MV rfl) ?_
   refine rS (AG rfl) ?_
   refine r_nil ?_
   refine k_block ?_
   refine k_then (hJ13 ⟨((((lo + hi) + 1) / 2), hi), (by first | exact ⟨by simp only []; omega, (start_safe hs hst (by omega) (by omega)).1 hp, hl7_2⟩ | exact ⟨by simp only []; omega, hl7_1, start_upto hs hst (by omega) (by omega) hp⟩)⟩ _ _ _ rfl (by simp only []; omega) (Sub.cons rfl <| Sub.cons rfl <| Sub.cons rfl <| Sub.cons rfl <| Sub.nil _) (fun w hs => St.sel [0, 1, 2] rfl rfl hs))
 replace hp := DF hp
 refine w_region ?_
 refine rS (MV rfl) ?_
 refine rS (BI rfl (b_sub ⟨by omega, by omega⟩)) ?_
 refine rS (AG rfl) ?_
 refine r_nil ?_
 refine k_block ?_
 refine k_then (hJ13 ⟨(lo, ((((lo + hi) + 1) / 2) - 1)), (by first | exact ⟨by simp only []; omega, (start_safe hs hst (by omega) (by omega)).1 hp, hl7_2⟩ | exact ⟨by simp only []; omega, hl7_1, start_upto hs hst (by omega) (by omega) hp⟩)⟩ _ _ _ rfl (by simp only []; omega) (Sub.cons rfl <| Sub.cons rfl <| Sub.cons rfl <| Sub.cons rfl <| Sub.nil _) (fun w hs => St.sel [0, 1, 2] rfl rfl hs))

set_option maxRecDepth 100000 in
set_option maxHeartbeats 400000 in
theorem shut_no (ts : List StretchV) (tsA : Option Addr) (tsC : Nat) (l : List SledV) (lA : Option Addr) (lC : Nat) (hlen : ts.length ≤ 1000000) (hside : ∀ x ∈ ts, 0 ≤ x.Side ∧ x.Side ≤ 255) (hE : ¬ shutE ts l = 0) :
    FnV Try.prog 38 [(Value.agg (TrackV.cells (TrackV.mk (Slc.mk tsA ts.length tsC))).toArray), (Value.slice lA l.length lC)] [(rd tsA ts.length 9 (ts.map StretchV.cells)), (rd lA l.length 11 (l.map SledV.cells))] (Value.tuple [(Value.slice none 0 0), (Value.int .i64 (shutE ts l))].toArray) := by
 refine fnV_of go38 Try.func38 rfl rfl fun w0 Q hQ hN => ?_
 change WJ _ _ _ _ [(0, (Value.agg (TrackV.cells (TrackV.mk (Slc.mk tsA ts.length tsC))).toArray)), (1, (Value.slice lA l.length lC))] [(rd tsA ts.length 9 (ts.map StretchV.cells)).ro, (rd lA l.length 11 (l.map SledV.cells)).ro]
 refine WS fun _ hK1 => ?_
 refine BXA rfl fun b2 => ?_
 refine rS (AG rfl) ?_
 refine rS (AG rfl) ?_
 refine RK hK1 ?_
 refine w_scope rfl ?_
 refine w_seq fun _ hK3 => ?_
 refine WS fun _ hK4 => ?_
 refine rS (LW 0 rfl tk24 rfl rfl) ?_
 refine rS (CL (tcheck_c ts tsA tsC hlen hside) (ha_at 1 rfl rfl <| ha_nil) rfl) ?_
 refine rS (AG rfl) ?_
 refine RK hK4 ?_
 refine WS fun _ hK5 => ?_
 refine rS (MV rfl) ?_
 refine rS (BI rfl b_neq) ?_
 refine RK hK5 ?_
 refine w_if rfl (fun he1 => ?_) (fun he1 => ?_)
 · replace he1 := XT he1
   refine WS fun _ hK6 => ?_
   refine rS (MV rfl) ?_
   refine rS (AG rfl) ?_
   refine rS (AG rfl) ?_
   refine RK hK6 ?_
   refine w_ret ?_
   refine Q2 hQ rfl rfl rfl rfl ?_
   first | rw [shutE_track (shut_a he1).1, (shut_a he1).2] | rw [shutE_many htr hm] | rw [shutE_sled htr hm hz (fun h => hb (bothE_ok htr h)), bothE_sled htr (fun h => hb (bothE_ok htr h))]
 replace he1 := XF he1
 refine WK hK3 ?_
 refine w_seq fun _ hK7 => ?_
 refine WS fun _ hK8 => ?_
 have htr : trackOk ts = true := shut_tr he1
 refine rS (MV rfl) ?_
 refine rS (LN rfl ut50) ?_
 refine rS (BI rfl b_gtr) ?_
 refine RK hK8 ?_
 refine w_if rfl (fun hm => ?_) (fun hm => ?_)
 · replace hm := DT hm
   refine WS fun _ hK9 => ?_
   refine rS (AG rfl) ?_
   refine rS (AG rfl) ?_
   refine RK hK9 ?_
   refine w_ret ?_
   refine Q2 hQ rfl rfl rfl rfl ?_
   first | rw [shutE_track (shut_a he1).1, (shut_a he1).2] | rw [shutE_many htr hm] | rw [shutE_sled htr hm hz (fun h => hb (bothE_ok htr h)), bothE_sled htr (fun h => hb (bothE_ok htr h))]
 replace hm := DF hm
 refine WK hK7 ?_
 refine WS fun _ hK10 => ?_
 refine rS (AG rfl) ?_
 refine RK hK10 ?_
 refine WS fun _ hK11 => ?_
 refine rS (AG rfl) ?_
 refine RK hK11 ?_
 refine w_seq fun _ hK12 => ?_
 refine w_label ?_
 refine KK hK12 ?_
 refine w_seq fun _ hK13 => ?_
 refine WS fun _ hK14 => ?_
 refine rS (MV rfl) ?_
 refine rS (LN rfl ut50) ?_
 refine rS (MV rfl) ?_
 refine RK hK14 ?_
 refine w_block ?_
 refine w_own_nil 3 1 ?_
 have hinit : (0 ≤ l.length) ∧ ((l.take 0).all (fun s => decide (SledOk s)) = true) := by exact ⟨Nat.zero_le _, rfl⟩
 refine w_loop (ι := { z : Nat × (Option Addr) × Nat // (z.1 ≤ l.length) ∧ ((l.take z.1).all (fun s => decide (SledOk s)) = true) }) (fun z => [(1, (Value.slice lA l.length lC)), (2, (Value.pointer (some ⟨b2, 0, none⟩))), (7, (Value.slice z.1.2.1 ((shutL ts l z.1.1).length) z.1.2.2)), (8, (Value.int .i64 0)), (21, (Value.int .i64 ((l.length : Nat) : Int))), (22, (Value.int .i64 ((z.1.1 : Nat) : Int)))]) (fun z => [(own z.1.2.1 z.1.2.2 3 1 ((shutL ts l z.1.1).map iC)), (blk b2 24 (TrackV.cells (TrackV.mk (Slc.mk tsA ts.length tsC)))), (rd tsA ts.length 9 (ts.map StretchV.cells)).ro, (rd lA l.length 11 (l.map SledV.cells)).ro]) (fun z => l.length - z.1.1) ⟨(0, none, 0), hinit⟩ (Sub.cons rfl <| Sub.cons rfl <| Sub.cons rfl <| Sub.cons rfl <| Sub.cons rfl <| Sub.cons rfl <| Sub.nil _) (fun w hs => St.sel [0, 1, 2, 3] rfl rfl hs) ?_
 clear hinit
 rintro ⟨⟨i, a, c⟩, ⟨hl9_0, hl9_1⟩⟩ J15 hJ15
 try dsimp only at hl9_0 hl9_1
 change WJ _ _ _ _ [(1, (Value.slice lA l.length lC)), (2, (Value.pointer (some ⟨b2, 0, none⟩))), (7, (Value.slice a ((shutL ts l i).length) c)), (8, (Value.int .i64 0)), (21, (Value.int .i64 ((l.length : Nat) : Int))), (22, (Value.int .i64 ((i : Nat) : Int)))] [(own a c 3 1 ((shutL ts l i).map iC)), (blk b2 24 (TrackV.cells (TrackV.mk (Slc.mk tsA ts.length tsC)))), (rd tsA ts.length 9 (ts.map StretchV.cells)).ro, (rd lA l.length 11 (l.map SledV.cells)).ro]
 refine WS fun _ hK16 => ?_
 refine rS (BI rfl b_lss) ?_
 refine RK hK16 ?_
 refine w_seq fun _ hK17 => ?_
 refine w_if rfl (fun h18 => ?_) (fun h18 => ?_)
 rotate_left 1
 · replace h18 := DF h18
   exact absurd (shutE_ok htr hm (all_end (by omega) hl9_1)) hE
 replace h18 := DT h18
 refine WK hK17 ?_
 refine w_seq fun _ hK19 => ?_
 refine w_block ?_
 refine WS fun _ hK20 => ?_
 have hsl := shutL_len (ts := ts) (l := l) (i := i)
 refine rS (MV rfl) ?_
 refine rS (AG rfl) ?_
 refine RK hK20 ?_
 refine w_seq fun _ hK21 => ?_
 refine w_draw mixed 11 (by kernel_rfl) ?_
 refine dS (LW 1 rfl tk24 rfl rfl) ?_
 refine dS (MV rfl) ?_
 refine dS (MV rfl) ?_
 obtain ⟨z, hz⟩ : ∃ y_, l[i]? = some y_ := ⟨l[i]'(by omega), List.getElem?_eq_getElem _⟩
 have hzm : (l.map SledV.cells)[i]? = some (SledV.cells z) := by rw [List.getElem?_map, hz]; rfl
 refine dS (IA i rfl (has_at 3 rfl) te50 (by decide) (by omega) (by omega)) ?_
 refine dS (LEN i 0 (SledV.cells z) rfl tk28 (has_at 3 rfl) hzm rfl (by decide) rfl rfl) ?_
 refine dS (CL (safe_c ts tsA tsC z hlen hside) (ha_at 2 rfl rfl <| ha_nil) rfl) ?_
 refine dS (MV rfl) ?_
 refine dS (EX rfl) ?_
 refine dS (EX rfl) ?_
 refine dS (AG rfl) ?_
 refine dS (AG rfl) ?_
 refine d_end ?_
 refine RK hK21 ?_
 refine w_seq fun _ hK22 => ?_
 refine WS fun _ hK23 => ?_
 refine rS (MV rfl) ?_
 refine rS (BI rfl b_neq) ?_
 refine RK hK23 ?_
 refine w_if rfl (fun hb => ?_) (fun hb => ?_)
 · replace hb := XT hb
   refine WS fun _ hK24 => ?_
   refine rS (MV rfl) ?_
   refine rS (AG rfl) ?_
   refine rS (AG rfl) ?_
   refine RK hK24 ?_
   refine w_exit ?_
   refine k_exit_then ?_
   refine k_exit_other rfl ?_
   refine k_exit_then ?_
   refine k_exit_then ?_
   refine k_exit_same ?_
   refine KK hK13 ?_
   refine WS fun _ hK25 => ?_
   refine rS (MV rfl) ?_
   refine rS (MV rfl) ?_
   refine rS (AG rfl) ?_
   refine rS (AG rfl) ?_
   refine RK hK25 ?_
   refine w_ret ?_
   refine Q2 hQ rfl rfl rfl rfl ?_
   first | rw [shutE_track (shut_a he1).1, (shut_a he1).2] | rw [shutE_many htr hm] | rw [shutE_sled htr hm hz (fun h => hb (bothE_ok htr h)), bothE_sled htr (fun h => hb (bothE_ok htr h))]
 replace hb := XF hb
 refine WK hK22 ?_
 refine WS fun _ hK26 => ?_
 refine rS (MV rfl) ?_
 refine rS (BI rfl b_neq) ?_
 refine RK hK26 ?_
 refine w_if rfl (fun hs2 => ?_) (fun hs2 => ?_)
 rotate_left 1
 · replace hs2 := XF hs2
   refine w_skip ?_
   refine k_block ?_
   refine KK hK19 ?_
   refine w_region ?_
   first | rw [← shutL_not hz (by rw [← safeV_ok hb]; exact hs2)] | skip
   refine rS (BI rfl (b_add ⟨by omega, by omega⟩)) ?_
   refine rS (MV rfl) ?_
   refine r_nil ?_
   have hb31 : (Value.int .i64 (((i + 1) : Nat) : Int)) = (Value.int .i64 (((i : Nat) : Int) + 1)) := by exact congrArg (Value.int .i64) (by omega)
   refine k_then (hJ15 ⟨((i + 1), a, c), ⟨by omega, all_step hz hl9_1 (decide_eq_true (bothE_zero hb).2)⟩⟩ _ _ _ rfl (by first | omega | (simp; omega)) (Sub.cons rfl <| Sub.cons rfl <| Sub.cons rfl <| Sub.cons rfl <| Sub.cons rfl <| sub_val rfl hb31 <| Sub.nil _) (fun w hs => St.sel [0, 1, 2, 3] rfl rfl hs))
 replace hs2 := XT hs2
 refine w_region ?_
 refine rS (MV rfl) ?_
 refine rS (MV rfl) ?_
 refine r_bs (xs := [.tmp 40]) (cs := [(Value.int .i64 ((i : Nat) : Int))]) rfl te61 tz3 rfl rfl rfl rfl (by simp [Value.cells]) rfl rfl fun b27 => ?_
 refine r_append (es2 := (List.map iC (shutL ts l (i + 1)))) (m' := (shutL ts l (i + 1)).length) 1 rfl rfl rfl ta61 rfl rfl (by simp) (has_rd_blk (es := List.map iC [((i : Nat) : Int)]) 0 rfl rfl (by simp [iC_length]) rfl) (one_iC _) (by first | omega | (simp; omega)) (by first | (simp only [maxLen]; omega) | (simp [maxLen]; omega)) (by rw [shutL_yes hz (by rw [← safeV_ok hb]; exact hs2)]; simp) (by simp) rfl fun a28 c29 => ?_
 change RJ _ _ _ _ _ _ [_, (own a28 c29 3 1 (List.map iC (shutL ts l (i + 1)))), _, _, _]
 refine rS (AG rfl) ?_
 refine r_nil ?_
 refine k_block ?_
 refine KK hK19 ?_
 refine w_region ?_
 first | rw [← shutL_not hz (by rw [← safeV_ok hb]; exact hs2)] | skip
 refine rS (BI rfl (b_add ⟨by omega, by omega⟩)) ?_
 refine rS (MV rfl) ?_
 refine r_nil ?_
 have hb30 : (Value.int .i64 (((i + 1) : Nat) : Int)) = (Value.int .i64 (((i : Nat) : Int) + 1)) := by exact congrArg (Value.int .i64) (by omega)
 refine k_then (hJ15 ⟨((i + 1), a28, c29), ⟨by omega, all_step hz hl9_1 (decide_eq_true (bothE_zero hb).2)⟩⟩ _ _ _ rfl (by first | omega | (simp; omega)) (Sub.cons rfl <| Sub.cons rfl <| Sub.cons rfl <| Sub.cons rfl <| Sub.cons rfl <| sub_val rfl hb30 <| Sub.nil _) (fun w hs => St.sel [1, 2, 3, 4] rfl rfl hs))

set_option maxRecDepth 100000 in
set_option maxHeartbeats 400000 in
theorem shut_ok (ts : List StretchV) (tsA : Option Addr) (tsC : Nat) (l : List SledV) (lA : Option Addr) (lC : Nat) (hlen : ts.length ≤ 1000000) (hside : ∀ x ∈ ts, 0 ≤ x.Side ∧ x.Side ≤ 255) (hE : shutE ts l = 0) :
    FnX Try.prog 38 [(Value.agg (TrackV.cells (TrackV.mk (Slc.mk tsA ts.length tsC))).toArray), (Value.slice lA l.length lC)] [(rd tsA ts.length 9 (ts.map StretchV.cells)), (rd lA l.length 11 (l.map SledV.cells))] (fun (x : (Option Addr) × Nat) => (Value.tuple [(Value.slice x.1 ((shutL ts l l.length).length) x.2), (Value.int .i64 (shutE ts l))].toArray)) (fun (x : (Option Addr) × Nat) => True) (fun (x : (Option Addr) × Nat) => [(own x.1 x.2 3 1 ((shutL ts l l.length).map iC))]) := by
 obtain ⟨htr0, hl6, hall⟩ := shutE_zero hE
 refine fnX_of go38 Try.func38 rfl rfl fun w0 Q hQ hN => ?_
 change WJ _ _ _ _ [(0, (Value.agg (TrackV.cells (TrackV.mk (Slc.mk tsA ts.length tsC))).toArray)), (1, (Value.slice lA l.length lC))] [(rd tsA ts.length 9 (ts.map StretchV.cells)).ro, (rd lA l.length 11 (l.map SledV.cells)).ro]
 refine WS fun _ hK1 => ?_
 refine BXA rfl fun b2 => ?_
 refine rS (AG rfl) ?_
 refine rS (AG rfl) ?_
 refine RK hK1 ?_
 refine w_scope rfl ?_
 refine w_seq fun _ hK3 => ?_
 refine WS fun _ hK4 => ?_
 refine rS (LW 0 rfl tk24 rfl rfl) ?_
 refine rS (CL (tcheck_c ts tsA tsC hlen hside) (ha_at 1 rfl rfl <| ha_nil) rfl) ?_
 refine rS (AG rfl) ?_
 refine RK hK4 ?_
 refine WS fun _ hK5 => ?_
 refine rS (MV rfl) ?_
 refine rS (BI rfl b_neq) ?_
 refine RK hK5 ?_
 refine w_if rfl (fun he1 => ?_) (fun he1 => ?_)
 · replace he1 := XT he1
   exact absurd (by rw [if_pos htr0]) he1
 replace he1 := XF he1
 refine WK hK3 ?_
 refine w_seq fun _ hK6 => ?_
 refine WS fun _ hK7 => ?_
 have htr : trackOk ts = true := shut_tr he1
 refine rS (MV rfl) ?_
 refine rS (LN rfl ut50) ?_
 refine rS (BI rfl b_gtr) ?_
 refine RK hK7 ?_
 refine w_if rfl (fun hm => ?_) (fun hm => ?_)
 · replace hm := DT hm
   exfalso; omega
 replace hm := DF hm
 refine WK hK6 ?_
 refine WS fun _ hK8 => ?_
 refine rS (AG rfl) ?_
 refine RK hK8 ?_
 refine WS fun _ hK9 => ?_
 refine rS (AG rfl) ?_
 refine RK hK9 ?_
 refine w_seq fun _ hK10 => ?_
 refine w_label ?_
 refine KK hK10 ?_
 refine w_seq fun _ hK11 => ?_
 refine WS fun _ hK12 => ?_
 refine rS (MV rfl) ?_
 refine rS (LN rfl ut50) ?_
 refine rS (MV rfl) ?_
 refine RK hK12 ?_
 refine w_block ?_
 refine w_own_nil 3 1 ?_
 have hinit : (0 ≤ l.length) ∧ ((l.take 0).all (fun s => decide (SledOk s)) = true) := by exact ⟨Nat.zero_le _, rfl⟩
 refine w_loop (ι := { z : Nat × (Option Addr) × Nat // (z.1 ≤ l.length) ∧ ((l.take z.1).all (fun s => decide (SledOk s)) = true) }) (fun z => [(1, (Value.slice lA l.length lC)), (2, (Value.pointer (some ⟨b2, 0, none⟩))), (7, (Value.slice z.1.2.1 ((shutL ts l z.1.1).length) z.1.2.2)), (8, (Value.int .i64 0)), (21, (Value.int .i64 ((l.length : Nat) : Int))), (22, (Value.int .i64 ((z.1.1 : Nat) : Int)))]) (fun z => [(own z.1.2.1 z.1.2.2 3 1 ((shutL ts l z.1.1).map iC)), (blk b2 24 (TrackV.cells (TrackV.mk (Slc.mk tsA ts.length tsC)))), (rd tsA ts.length 9 (ts.map StretchV.cells)).ro, (rd lA l.length 11 (l.map SledV.cells)).ro]) (fun z => l.length - z.1.1) ⟨(0, none, 0), hinit⟩ (Sub.cons rfl <| Sub.cons rfl <| Sub.cons rfl <| Sub.cons rfl <| Sub.cons rfl <| Sub.cons rfl <| Sub.nil _) (fun w hs => St.sel [0, 1, 2, 3] rfl rfl hs) ?_
 clear hinit
 rintro ⟨⟨i, a, c⟩, ⟨hl9_0, hl9_1⟩⟩ J13 hJ13
 try dsimp only at hl9_0 hl9_1
 change WJ _ _ _ _ [(1, (Value.slice lA l.length lC)), (2, (Value.pointer (some ⟨b2, 0, none⟩))), (7, (Value.slice a ((shutL ts l i).length) c)), (8, (Value.int .i64 0)), (21, (Value.int .i64 ((l.length : Nat) : Int))), (22, (Value.int .i64 ((i : Nat) : Int)))] [(own a c 3 1 ((shutL ts l i).map iC)), (blk b2 24 (TrackV.cells (TrackV.mk (Slc.mk tsA ts.length tsC)))), (rd tsA ts.length 9 (ts.map StretchV.cells)).ro, (rd lA l.length 11 (l.map SledV.cells)).ro]
 refine WS fun _ hK14 => ?_
 refine rS (BI rfl b_lss) ?_
 refine RK hK14 ?_
 refine w_seq fun _ hK15 => ?_
 refine w_if rfl (fun h16 => ?_) (fun h16 => ?_)
 rotate_left 1
 · replace h16 := DF h16
   refine w_exit ?_
   refine k_exit_then ?_
   refine k_exit_then ?_
   refine k_exit_same ?_
   refine KK hK11 ?_
   refine WS fun _ hK28 => ?_
   obtain rfl : i = l.length := by omega
   refine rS (MV rfl) ?_
   refine rS (MV rfl) ?_
   refine rS (AG rfl) ?_
   refine rS (AG rfl) ?_
   refine RK hK28 ?_
   refine w_ret ?_
   refine hQ _ _ _ (l_nil (vs := [(Value.slice a ((shutL ts l l.length).length) c), (Value.int .i64 0)]) ⟨rfl, rfl, trivial⟩ fun w hs => endX (a, c) [0] ?_ ?_ rfl rfl rfl hs)
   · rw [hE]; rfl
   · trivial
 replace h16 := DT h16
 refine WK hK15 ?_
 refine w_seq fun _ hK17 => ?_
 refine w_block ?_
 refine WS fun _ hK18 => ?_
 have hsl := shutL_len (ts := ts) (l := l) (i := i)
 refine rS (MV rfl) ?_
 refine rS (AG rfl) ?_
 refine RK hK18 ?_
 refine w_seq fun _ hK19 => ?_
 refine w_draw mixed 11 (by kernel_rfl) ?_
 refine dS (LW 1 rfl tk24 rfl rfl) ?_
 refine dS (MV rfl) ?_
 refine dS (MV rfl) ?_
 obtain ⟨z, hz⟩ : ∃ y_, l[i]? = some y_ := ⟨l[i]'(by omega), List.getElem?_eq_getElem _⟩
 have hzm : (l.map SledV.cells)[i]? = some (SledV.cells z) := by rw [List.getElem?_map, hz]; rfl
 refine dS (IA i rfl (has_at 3 rfl) te50 (by decide) (by omega) (by omega)) ?_
 refine dS (LEN i 0 (SledV.cells z) rfl tk28 (has_at 3 rfl) hzm rfl (by decide) rfl rfl) ?_
 refine dS (CL (safe_c ts tsA tsC z hlen hside) (ha_at 2 rfl rfl <| ha_nil) rfl) ?_
 refine dS (MV rfl) ?_
 refine dS (EX rfl) ?_
 refine dS (EX rfl) ?_
 refine dS (AG rfl) ?_
 refine dS (AG rfl) ?_
 refine d_end ?_
 refine RK hK19 ?_
 refine w_seq fun _ hK20 => ?_
 refine WS fun _ hK21 => ?_
 refine rS (MV rfl) ?_
 refine rS (BI rfl b_neq) ?_
 refine RK hK21 ?_
 refine w_if rfl (fun hb => ?_) (fun hb => ?_)
 · replace hb := XT hb
   exact absurd (bothE_ok htr (hall z (List.mem_of_getElem? hz))) hb
 replace hb := XF hb
 refine WK hK20 ?_
 refine WS fun _ hK22 => ?_
 refine rS (MV rfl) ?_
 refine rS (BI rfl b_neq) ?_
 refine RK hK22 ?_
 refine w_if rfl (fun hs2 => ?_) (fun hs2 => ?_)
 rotate_left 1
 · replace hs2 := XF hs2
   refine w_skip ?_
   refine k_block ?_
   refine KK hK17 ?_
   refine w_region ?_
   first | rw [← shutL_not hz (by rw [← safeV_ok hb]; exact hs2)] | skip
   refine rS (BI rfl (b_add ⟨by omega, by omega⟩)) ?_
   refine rS (MV rfl) ?_
   refine r_nil ?_
   have hb27 : (Value.int .i64 (((i + 1) : Nat) : Int)) = (Value.int .i64 (((i : Nat) : Int) + 1)) := by exact congrArg (Value.int .i64) (by omega)
   refine k_then (hJ13 ⟨((i + 1), a, c), ⟨by omega, all_step hz hl9_1 (decide_eq_true (bothE_zero hb).2)⟩⟩ _ _ _ rfl (by first | omega | (simp; omega)) (Sub.cons rfl <| Sub.cons rfl <| Sub.cons rfl <| Sub.cons rfl <| Sub.cons rfl <| sub_val rfl hb27 <| Sub.nil _) (fun w hs => St.sel [0, 1, 2, 3] rfl rfl hs))
 replace hs2 := XT hs2
 refine w_region ?_
 refine rS (MV rfl) ?_
 refine rS (MV rfl) ?_
 refine r_bs (xs := [.tmp 40]) (cs := [(Value.int .i64 ((i : Nat) : Int))]) rfl te61 tz3 rfl rfl rfl rfl (by simp [Value.cells]) rfl rfl fun b23 => ?_
 refine r_append (es2 := (List.map iC (shutL ts l (i + 1)))) (m' := (shutL ts l (i + 1)).length) 1 rfl rfl rfl ta61 rfl rfl (by simp) (has_rd_blk (es := List.map iC [((i : Nat) : Int)]) 0 rfl rfl (by simp [iC_length]) rfl) (one_iC _) (by first | omega | (simp; omega)) (by first | (simp only [maxLen]; omega) | (simp [maxLen]; omega)) (by rw [shutL_yes hz (by rw [← safeV_ok hb]; exact hs2)]; simp) (by simp) rfl fun a24 c25 => ?_
 change RJ _ _ _ _ _ _ [_, (own a24 c25 3 1 (List.map iC (shutL ts l (i + 1)))), _, _, _]
 refine rS (AG rfl) ?_
 refine r_nil ?_
 refine k_block ?_
 refine KK hK17 ?_
 refine w_region ?_
 first | rw [← shutL_not hz (by rw [← safeV_ok hb]; exact hs2)] | skip
 refine rS (BI rfl (b_add ⟨by omega, by omega⟩)) ?_
 refine rS (MV rfl) ?_
 refine r_nil ?_
 have hb26 : (Value.int .i64 (((i + 1) : Nat) : Int)) = (Value.int .i64 (((i : Nat) : Int) + 1)) := by exact congrArg (Value.int .i64) (by omega)
 refine k_then (hJ13 ⟨((i + 1), a24, c25), ⟨by omega, all_step hz hl9_1 (decide_eq_true (bothE_zero hb).2)⟩⟩ _ _ _ rfl (by first | omega | (simp; omega)) (Sub.cons rfl <| Sub.cons rfl <| Sub.cons rfl <| Sub.cons rfl <| Sub.cons rfl <| sub_val rfl hb26 <| Sub.nil _) (fun w hs => St.sel [1, 2, 3, 4] rfl rfl hs))

theorem shut_c (ts : List StretchV) (tsA : Option Addr) (tsC : Nat) (l : List SledV) (lA : Option Addr) (lC : Nat) (hlen : ts.length ≤ 1000000) (hside : ∀ x ∈ ts, 0 ≤ x.Side ∧ x.Side ≤ 255) :
    FnX Try.prog 38 [(Value.agg (TrackV.cells (TrackV.mk (Slc.mk tsA ts.length tsC))).toArray), (Value.slice lA l.length lC)] [(rd tsA ts.length 9 (ts.map StretchV.cells)), (rd lA l.length 11 (l.map SledV.cells))] (fun (x : (Option Addr) × Nat) => (Value.tuple [(Value.slice x.1 ((shutU ts l).length) x.2), (Value.int .i64 (shutE ts l))].toArray)) (fun (x : (Option Addr) × Nat) => True) (fun (x : (Option Addr) × Nat) => [(own x.1 x.2 3 1 ((shutU ts l).map iC))]) := by
  by_cases hE : shutE ts l = 0
  · rw [shutU_ok hE]
    exact shut_ok ts tsA tsC l lA lC hlen hside hE
  · rw [shutU_no hE]
    exact FnV.toX (none, 0) (shut_no ts tsA tsC l lA lC hlen hside hE) trivial own_none

set_option maxRecDepth 100000 in
set_option maxHeartbeats 400000 in
theorem rShut_no (ts : List StretchV) (tsA : Option Addr) (tsC : Nat) (l : List SledV) (lA : Option Addr) (lC : Nat) (hlen : ts.length ≤ 1000000) (hside : ∀ x ∈ ts, 0 ≤ x.Side ∧ x.Side ≤ 255) (hcl : ∀ s ∈ l, 0 ≤ s.Class ∧ s.Class ≤ 255) (hE : ¬ shutE ts l = 0) :
    FnV Try.prog 39 [(Value.agg (TrackV.cells (TrackV.mk (Slc.mk tsA ts.length tsC))).toArray), (Value.slice lA l.length lC)] [(rd tsA ts.length 9 (ts.map StretchV.cells)), (rd lA l.length 11 (l.map SledV.cells))] (Value.tuple [(Value.slice none 0 0), (Value.int .i64 (shutE ts l))].toArray) := by
 refine fnV_of go39 Try.func39 rfl rfl fun w0 Q hQ hN => ?_
 change WJ _ _ _ _ [(0, (Value.agg (TrackV.cells (TrackV.mk (Slc.mk tsA ts.length tsC))).toArray)), (1, (Value.slice lA l.length lC))] [(rd tsA ts.length 9 (ts.map StretchV.cells)).ro, (rd lA l.length 11 (l.map SledV.cells)).ro]
 refine WS fun _ hK1 => ?_
 refine BXA rfl fun b2 => ?_
 refine rS (AG rfl) ?_
 refine rS (AG rfl) ?_
 refine RK hK1 ?_
 refine w_seq fun _ hK3 => ?_
 refine WS fun _ hK4 => ?_
 refine rS (LW 0 rfl tk24 rfl rfl) ?_
 refine rS (CL (track_c ts tsA tsC hlen) (ha_at 1 rfl rfl <| ha_nil) rfl) ?_
 refine rS (NT rfl) ?_
 refine RK hK4 ?_
 refine w_if rfl (fun ht1 => ?_) (fun ht1 => ?_)
 · rw [Bool.not_eq_true'] at ht1
   refine WS fun _ hK5 => ?_
   refine rS (AG rfl) ?_
   refine rS (AG rfl) ?_
   refine RK hK5 ?_
   refine w_ret ?_
   refine Q2 hQ rfl rfl rfl rfl ?_
   first | rw [shutE_track ht1] | rw [shutE_many ht1 hm] | rw [shutE_sled ht1 hm hz hb]
 rw [Bool.not_eq_false'] at ht1
 refine WK hK3 ?_
 refine w_seq fun _ hK6 => ?_
 refine WS fun _ hK7 => ?_
 refine rS (MV rfl) ?_
 refine rS (LN rfl ut50) ?_
 refine rS (BI rfl b_gtr) ?_
 refine RK hK7 ?_
 refine w_if rfl (fun hm => ?_) (fun hm => ?_)
 · replace hm := DT hm
   refine WS fun _ hK8 => ?_
   refine rS (AG rfl) ?_
   refine rS (AG rfl) ?_
   refine RK hK8 ?_
   refine w_ret ?_
   refine Q2 hQ rfl rfl rfl rfl ?_
   first | rw [shutE_track ht1] | rw [shutE_many ht1 hm] | rw [shutE_sled ht1 hm hz hb]
 replace hm := DF hm
 refine WK hK6 ?_
 refine w_seq fun _ hK9 => ?_
 refine WS fun _ hK10 => ?_
 refine rS (AG rfl) ?_
 refine RK hK10 ?_
 refine w_block ?_
 have hinit : (0 ≤ l.length) ∧ ((l.take 0).all (fun s => decide (SledOk s)) = true) := by exact ⟨Nat.zero_le _, rfl⟩
 refine w_loop (ι := { z : Nat // (z ≤ l.length) ∧ ((l.take z).all (fun s => decide (SledOk s)) = true) }) (fun z => [(1, (Value.slice lA l.length lC)), (2, (Value.pointer (some ⟨b2, 0, none⟩))), (6, (Value.int .i64 ((z.1 : Nat) : Int)))]) (fun z => [(blk b2 24 (TrackV.cells (TrackV.mk (Slc.mk tsA ts.length tsC)))), (rd tsA ts.length 9 (ts.map StretchV.cells)).ro, (rd lA l.length 11 (l.map SledV.cells)).ro]) (fun z => l.length - z.1) ⟨0, hinit⟩ (Sub.cons rfl <| Sub.cons rfl <| Sub.cons rfl <| Sub.nil _) (fun w hs => St.sel [0, 1, 2] rfl rfl hs) ?_
 clear hinit
 rintro ⟨i, ⟨hl6_0, hl6_1⟩⟩ J11 hJ11
 change WJ _ _ _ _ [(1, (Value.slice lA l.length lC)), (2, (Value.pointer (some ⟨b2, 0, none⟩))), (6, (Value.int .i64 ((i : Nat) : Int)))] [(blk b2 24 (TrackV.cells (TrackV.mk (Slc.mk tsA ts.length tsC)))), (rd tsA ts.length 9 (ts.map StretchV.cells)).ro, (rd lA l.length 11 (l.map SledV.cells)).ro]
 refine w_seq fun _ hK12 => ?_
 refine WS fun _ hK13 => ?_
 refine rS (MV rfl) ?_
 refine rS (MV rfl) ?_
 refine rS (LN rfl ut50) ?_
 refine rS (BI rfl b_lss) ?_
 refine RK hK13 ?_
 refine w_if rfl (fun h14 => ?_) (fun h14 => ?_)
 rotate_left 1
 · replace h14 := DF h14
   exact absurd (shutE_ok ht1 hm (all_end (by omega) hl6_1)) hE
 replace h14 := DT h14
 refine WK hK12 ?_
 refine w_seq fun _ hK15 => ?_
 refine w_block ?_
 refine WS fun _ hK16 => ?_
 refine rS (MV rfl) ?_
 refine rS (MV rfl) ?_
 obtain ⟨z, hz⟩ : ∃ y_, l[i]? = some y_ := ⟨l[i]'(by omega), List.getElem?_eq_getElem _⟩
 have hzm : (l.map SledV.cells)[i]? = some (SledV.cells z) := by rw [List.getElem?_map, hz]; rfl
 refine rS (IA i rfl (has_at 2 rfl) te50 (by decide) (by omega) (by omega)) ?_
 refine rS (LEN i 0 (SledV.cells z) rfl tk28 (has_at 2 rfl) hzm rfl (by decide) rfl rfl) ?_
 have hzc := hcl z (List.mem_of_getElem? hz)
 refine rS (CL (sled_c z (by first | assumption | omega | (simp; done) | (simp; omega))) (ha_nil) rfl) ?_
 refine rS (NT rfl) ?_
 refine RK hK16 ?_
 refine w_if rfl (fun hb => ?_) (fun hb => ?_)
 · replace hb := XT hb
   refine WS fun _ hK17 => ?_
   refine rS (AG rfl) ?_
   refine rS (AG rfl) ?_
   refine RK hK17 ?_
   refine w_ret ?_
   refine Q2 hQ rfl rfl rfl rfl ?_
   first | rw [shutE_track ht1] | rw [shutE_many ht1 hm] | rw [shutE_sled ht1 hm hz hb]
 replace hb := XF hb
 refine w_skip ?_
 refine k_block ?_
 refine KK hK15 ?_
 refine w_region ?_
 refine rS (MV rfl) ?_
 refine rS (BI rfl (b_add ⟨by omega, by omega⟩)) ?_
 refine rS (AG rfl) ?_
 refine r_nil ?_
 have hb18 : (Value.int .i64 (((i + 1) : Nat) : Int)) = (Value.int .i64 (((i : Nat) : Int) + 1)) := by exact congrArg (Value.int .i64) (by omega)
 refine k_then (hJ11 ⟨(i + 1), ⟨by omega, all_step hz hl6_1 (decide_eq_true hb)⟩⟩ _ _ _ rfl (by first | omega | (simp; omega)) (Sub.cons rfl <| Sub.cons rfl <| sub_val rfl hb18 <| Sub.nil _) (fun w hs => St.sel [0, 1, 2] rfl rfl hs))

set_option maxRecDepth 100000 in
set_option maxHeartbeats 400000 in
theorem rShut_ok (ts : List StretchV) (tsA : Option Addr) (tsC : Nat) (l : List SledV) (lA : Option Addr) (lC : Nat) (hlen : ts.length ≤ 1000000) (hside : ∀ x ∈ ts, 0 ≤ x.Side ∧ x.Side ≤ 255) (hcl : ∀ s ∈ l, 0 ≤ s.Class ∧ s.Class ≤ 255) (hE : shutE ts l = 0) :
    FnX Try.prog 39 [(Value.agg (TrackV.cells (TrackV.mk (Slc.mk tsA ts.length tsC))).toArray), (Value.slice lA l.length lC)] [(rd tsA ts.length 9 (ts.map StretchV.cells)), (rd lA l.length 11 (l.map SledV.cells))] (fun (x : (Option Addr) × Nat) => (Value.tuple [(Value.slice x.1 ((shutL ts l l.length).length) x.2), (Value.int .i64 (shutE ts l))].toArray)) (fun (x : (Option Addr) × Nat) => True) (fun (x : (Option Addr) × Nat) => [(own x.1 x.2 3 1 ((shutL ts l l.length).map iC))]) := by
 obtain ⟨htr0, hl6, hall⟩ := shutE_zero hE
 have hst := trackOk_all htr0
 have hl12 := trackOk_le htr0
 refine fnX_of go39 Try.func39 rfl rfl fun w0 Q hQ hN => ?_
 change WJ _ _ _ _ [(0, (Value.agg (TrackV.cells (TrackV.mk (Slc.mk tsA ts.length tsC))).toArray)), (1, (Value.slice lA l.length lC))] [(rd tsA ts.length 9 (ts.map StretchV.cells)).ro, (rd lA l.length 11 (l.map SledV.cells)).ro]
 refine WS fun _ hK1 => ?_
 refine BXA rfl fun b2 => ?_
 refine rS (AG rfl) ?_
 refine rS (AG rfl) ?_
 refine RK hK1 ?_
 refine w_seq fun _ hK3 => ?_
 refine WS fun _ hK4 => ?_
 refine rS (LW 0 rfl tk24 rfl rfl) ?_
 refine rS (CL (track_c ts tsA tsC hlen) (ha_at 1 rfl rfl <| ha_nil) rfl) ?_
 refine rS (NT rfl) ?_
 refine RK hK4 ?_
 refine w_if rfl (fun ht1 => ?_) (fun ht1 => ?_)
 · rw [Bool.not_eq_true'] at ht1
   rw [htr0] at ht1; cases ht1
 rw [Bool.not_eq_false'] at ht1
 refine WK hK3 ?_
 refine w_seq fun _ hK5 => ?_
 refine WS fun _ hK6 => ?_
 refine rS (MV rfl) ?_
 refine rS (LN rfl ut50) ?_
 refine rS (BI rfl b_gtr) ?_
 refine RK hK6 ?_
 refine w_if rfl (fun hm => ?_) (fun hm => ?_)
 · replace hm := DT hm
   exfalso; omega
 replace hm := DF hm
 refine WK hK5 ?_
 refine w_seq fun _ hK7 => ?_
 refine WS fun _ hK8 => ?_
 refine rS (AG rfl) ?_
 refine RK hK8 ?_
 refine w_block ?_
 have hinit : (0 ≤ l.length) ∧ ((l.take 0).all (fun s => decide (SledOk s)) = true) := by exact ⟨Nat.zero_le _, rfl⟩
 refine w_loop (ι := { z : Nat // (z ≤ l.length) ∧ ((l.take z).all (fun s => decide (SledOk s)) = true) }) (fun z => [(1, (Value.slice lA l.length lC)), (2, (Value.pointer (some ⟨b2, 0, none⟩))), (6, (Value.int .i64 ((z.1 : Nat) : Int)))]) (fun z => [(blk b2 24 (TrackV.cells (TrackV.mk (Slc.mk tsA ts.length tsC)))), (rd tsA ts.length 9 (ts.map StretchV.cells)).ro, (rd lA l.length 11 (l.map SledV.cells)).ro]) (fun z => l.length - z.1) ⟨0, hinit⟩ (Sub.cons rfl <| Sub.cons rfl <| Sub.cons rfl <| Sub.nil _) (fun w hs => St.sel [0, 1, 2] rfl rfl hs) ?_
 clear hinit
 rintro ⟨i, ⟨hl6_0, hl6_1⟩⟩ J9 hJ9
 change WJ _ _ _ _ [(1, (Value.slice lA l.length lC)), (2, (Value.pointer (some ⟨b2, 0, none⟩))), (6, (Value.int .i64 ((i : Nat) : Int)))] [(blk b2 24 (TrackV.cells (TrackV.mk (Slc.mk tsA ts.length tsC)))), (rd tsA ts.length 9 (ts.map StretchV.cells)).ro, (rd lA l.length 11 (l.map SledV.cells)).ro]
 refine w_seq fun _ hK10 => ?_
 refine WS fun _ hK11 => ?_
 refine rS (MV rfl) ?_
 refine rS (MV rfl) ?_
 refine rS (LN rfl ut50) ?_
 refine rS (BI rfl b_lss) ?_
 refine RK hK11 ?_
 refine w_if rfl (fun h12 => ?_) (fun h12 => ?_)
 · replace h12 := DT h12
   refine WK hK10 ?_
   refine w_seq fun _ hK13 => ?_
   refine w_block ?_
   refine WS fun _ hK14 => ?_
   refine rS (MV rfl) ?_
   refine rS (MV rfl) ?_
   obtain ⟨z, hz⟩ : ∃ y_, l[i]? = some y_ := ⟨l[i]'(by omega), List.getElem?_eq_getElem _⟩
   have hzm : (l.map SledV.cells)[i]? = some (SledV.cells z) := by rw [List.getElem?_map, hz]; rfl
   refine rS (IA i rfl (has_at 2 rfl) te50 (by decide) (by omega) (by omega)) ?_
   refine rS (LEN i 0 (SledV.cells z) rfl tk28 (has_at 2 rfl) hzm rfl (by decide) rfl rfl) ?_
   have hzc := hcl z (List.mem_of_getElem? hz)
   refine rS (CL (sled_c z (by first | assumption | omega | (simp; done) | (simp; omega))) (ha_nil) rfl) ?_
   refine rS (NT rfl) ?_
   refine RK hK14 ?_
   refine w_if rfl (fun hb => ?_) (fun hb => ?_)
   · replace hb := XT hb
     exact absurd (hall z (List.mem_of_getElem? hz)) hb
   replace hb := XF hb
   refine w_skip ?_
   refine k_block ?_
   refine KK hK13 ?_
   refine w_region ?_
   refine rS (MV rfl) ?_
   refine rS (BI rfl (b_add ⟨by omega, by omega⟩)) ?_
   refine rS (AG rfl) ?_
   refine r_nil ?_
   have hb15 : (Value.int .i64 (((i + 1) : Nat) : Int)) = (Value.int .i64 (((i : Nat) : Int) + 1)) := by exact congrArg (Value.int .i64) (by omega)
   refine k_then (hJ9 ⟨(i + 1), ⟨by omega, all_step hz hl6_1 (decide_eq_true hb)⟩⟩ _ _ _ rfl (by first | omega | (simp; omega)) (Sub.cons rfl <| Sub.cons rfl <| sub_val rfl hb15 <| Sub.nil _) (fun w hs => St.sel [0, 1, 2] rfl rfl hs))
 replace h12 := DF h12
 refine w_exit ?_
 refine k_exit_then ?_
 refine k_exit_then ?_
 refine k_exit_same ?_
 refine KK hK7 ?_
 refine WS fun _ hK16 => ?_
 refine rS (AG rfl) ?_
 refine RK hK16 ?_
 refine w_seq fun _ hK17 => ?_
 refine WS fun _ hK18 => ?_
 refine rS (AG rfl) ?_
 refine RK hK18 ?_
 refine w_block ?_
 refine w_own_nil 3 1 ?_
 have hinit : (0 ≤ l.length) := by exact Nat.zero_le _
 refine w_loop (ι := { z : Nat × (Option Addr) × Nat // (z.1 ≤ l.length) }) (fun z => [(1, (Value.slice lA l.length lC)), (2, (Value.pointer (some ⟨b2, 0, none⟩))), (7, (Value.slice z.1.2.1 ((shutL ts l z.1.1).length) z.1.2.2)), (8, (Value.int .i64 ((z.1.1 : Nat) : Int)))]) (fun z => [(own z.1.2.1 z.1.2.2 3 1 ((shutL ts l z.1.1).map iC)), (blk b2 24 (TrackV.cells (TrackV.mk (Slc.mk tsA ts.length tsC)))), (rd tsA ts.length 9 (ts.map StretchV.cells)).ro, (rd lA l.length 11 (l.map SledV.cells)).ro]) (fun z => l.length - z.1.1) ⟨(0, none, 0), hinit⟩ (Sub.cons rfl <| Sub.cons rfl <| Sub.cons rfl <| Sub.cons rfl <| Sub.nil _) (fun w hs => St.sel [0, 1, 2, 3] rfl rfl hs) ?_
 clear hinit
 rintro ⟨⟨k, a, c⟩, hl12_0⟩ J19 hJ19
 try dsimp only at hl12_0
 change WJ _ _ _ _ [(1, (Value.slice lA l.length lC)), (2, (Value.pointer (some ⟨b2, 0, none⟩))), (7, (Value.slice a ((shutL ts l k).length) c)), (8, (Value.int .i64 ((k : Nat) : Int)))] [(own a c 3 1 ((shutL ts l k).map iC)), (blk b2 24 (TrackV.cells (TrackV.mk (Slc.mk tsA ts.length tsC)))), (rd tsA ts.length 9 (ts.map StretchV.cells)).ro, (rd lA l.length 11 (l.map SledV.cells)).ro]
 refine w_seq fun _ hK20 => ?_
 refine WS fun _ hK21 => ?_
 refine rS (MV rfl) ?_
 refine rS (MV rfl) ?_
 refine rS (LN rfl ut50) ?_
 refine rS (BI rfl b_lss) ?_
 refine RK hK21 ?_
 refine w_if rfl (fun h22 => ?_) (fun h22 => ?_)
 rotate_left 1
 · replace h22 := DF h22
   refine w_exit ?_
   refine k_exit_then ?_
   refine k_exit_then ?_
   refine k_exit_same ?_
   refine KK hK17 ?_
   refine WS fun _ hK30 => ?_
   obtain rfl : k = l.length := by omega
   refine rS (MV rfl) ?_
   refine rS (AG rfl) ?_
   refine rS (AG rfl) ?_
   refine RK hK30 ?_
   refine w_ret ?_
   refine hQ _ _ _ (l_nil (vs := [(Value.slice a ((shutL ts l l.length).length) c), (Value.int .i64 0)]) ⟨rfl, rfl, trivial⟩ fun w hs => endX (a, c) [0] ?_ ?_ rfl rfl rfl hs)
   · rw [hE]; rfl
   · trivial
 replace h22 := DT h22
 refine WK hK20 ?_
 refine w_seq fun _ hK23 => ?_
 refine w_block ?_
 refine w_seq fun _ hK24 => ?_
 refine w_draw mixed 7 (by kernel_rfl) ?_
 refine dS (LW 1 rfl tk24 rfl rfl) ?_
 have hsl := shutL_len (ts := ts) (l := l) (i := k)
 refine dS (MV rfl) ?_
 refine dS (MV rfl) ?_
 obtain ⟨z, hz⟩ : ∃ y_, l[k]? = some y_ := ⟨l[k]'(by omega), List.getElem?_eq_getElem _⟩
 have hzm : (l.map SledV.cells)[k]? = some (SledV.cells z) := by rw [List.getElem?_map, hz]; rfl
 refine dS (IA k rfl (has_at 3 rfl) te50 (by decide) (by omega) (by omega)) ?_
 refine dS (LEN k 0 (SledV.cells z) rfl tk28 (has_at 3 rfl) hzm rfl (by decide) rfl rfl) ?_
 have hzo := hall z (List.mem_of_getElem? hz)
 refine dS (CL (rsafe_c ts tsA tsC z (by first | assumption | omega | (simp; done) | (simp; omega)) (by first | assumption | omega | (simp; done) | (simp; omega)) (by first | assumption | omega | (simp; done) | (simp; omega)) hside) (ha_at 2 rfl rfl <| ha_nil) rfl) ?_
 refine dS (BI rfl b_neq) ?_
 refine d_end ?_
 refine RK hK24 ?_
 refine w_if rfl (fun hs2 => ?_) (fun hs2 => ?_)
 rotate_left 1
 · replace hs2 := XF hs2
   refine w_skip ?_
   refine k_block ?_
   refine KK hK23 ?_
   refine w_region ?_
   first | rw [← shutL_not hz hs2] | skip
   refine rS (MV rfl) ?_
   refine rS (BI rfl (b_add ⟨by omega, by omega⟩)) ?_
   refine rS (AG rfl) ?_
   refine r_nil ?_
   have hb29 : (Value.int .i64 (((k + 1) : Nat) : Int)) = (Value.int .i64 (((k : Nat) : Int) + 1)) := by exact congrArg (Value.int .i64) (by omega)
   refine k_then (hJ19 ⟨((k + 1), a, c), (by first | omega | (simp only []; omega))⟩ _ _ _ rfl (by first | omega | (simp; omega)) (Sub.cons rfl <| Sub.cons rfl <| Sub.cons rfl <| sub_val rfl hb29 <| Sub.nil _) (fun w hs => St.sel [0, 1, 2, 3] rfl rfl hs))
 replace hs2 := XT hs2
 refine w_region ?_
 refine rS (MV rfl) ?_
 refine rS (MV rfl) ?_
 refine r_bs (xs := [.tmp 41]) (cs := [(Value.int .i64 ((k : Nat) : Int))]) rfl te61 tz3 rfl rfl rfl rfl (by simp [Value.cells]) rfl rfl fun b25 => ?_
 refine r_append (es2 := (List.map iC (shutL ts l (k + 1)))) (m' := (shutL ts l (k + 1)).length) 1 rfl rfl rfl ta61 rfl rfl (by simp) (has_rd_blk (es := List.map iC [((k : Nat) : Int)]) 0 rfl rfl (by simp [iC_length]) rfl) (one_iC _) (by first | omega | (simp; omega)) (by first | (simp only [maxLen]; omega) | (simp [maxLen]; omega)) (by rw [shutL_yes hz hs2]; simp) (by simp) rfl fun a26 c27 => ?_
 change RJ _ _ _ _ _ _ [_, (own a26 c27 3 1 (List.map iC (shutL ts l (k + 1)))), _, _, _]
 refine rS (AG rfl) ?_
 refine r_nil ?_
 refine k_block ?_
 refine KK hK23 ?_
 refine w_region ?_
 first | rw [← shutL_not hz hs2] | skip
 refine rS (MV rfl) ?_
 refine rS (BI rfl (b_add ⟨by omega, by omega⟩)) ?_
 refine rS (AG rfl) ?_
 refine r_nil ?_
 have hb28 : (Value.int .i64 (((k + 1) : Nat) : Int)) = (Value.int .i64 (((k : Nat) : Int) + 1)) := by exact congrArg (Value.int .i64) (by omega)
 refine k_then (hJ19 ⟨((k + 1), a26, c27), (by first | omega | (simp only []; omega))⟩ _ _ _ rfl (by first | omega | (simp; omega)) (Sub.cons rfl <| Sub.cons rfl <| Sub.cons rfl <| sub_val rfl hb28 <| Sub.nil _) (fun w hs => St.sel [1, 2, 3, 4] rfl rfl hs))

theorem rShut_c (ts : List StretchV) (tsA : Option Addr) (tsC : Nat) (l : List SledV) (lA : Option Addr) (lC : Nat) (hlen : ts.length ≤ 1000000) (hside : ∀ x ∈ ts, 0 ≤ x.Side ∧ x.Side ≤ 255) (hcl : ∀ s ∈ l, 0 ≤ s.Class ∧ s.Class ≤ 255) :
    FnX Try.prog 39 [(Value.agg (TrackV.cells (TrackV.mk (Slc.mk tsA ts.length tsC))).toArray), (Value.slice lA l.length lC)] [(rd tsA ts.length 9 (ts.map StretchV.cells)), (rd lA l.length 11 (l.map SledV.cells))] (fun (x : (Option Addr) × Nat) => (Value.tuple [(Value.slice x.1 ((shutU ts l).length) x.2), (Value.int .i64 (shutE ts l))].toArray)) (fun (x : (Option Addr) × Nat) => True) (fun (x : (Option Addr) × Nat) => [(own x.1 x.2 3 1 ((shutU ts l).map iC))]) := by
  by_cases hE : shutE ts l = 0
  · rw [shutU_ok hE]
    exact rShut_ok ts tsA tsC l lA lC hlen hside hcl hE
  · rw [shutU_no hE]
    exact FnV.toX (none, 0) (rShut_no ts tsA tsC l lA lC hlen hside hcl hE) trivial own_none

end Go.Proofs.Ytpbgdeojcefnmaa
