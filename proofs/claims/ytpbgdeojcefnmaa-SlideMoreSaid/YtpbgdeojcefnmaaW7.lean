/-
  Walks: (kreisel/slide.rider).heads, (kreisel/slide.rider).heads$1, (kreisel/slide.rider).list
-/
import Derived.Test.YtpbgdeojcefnmaaTab
import Derived.Test.YtpbgdeojcefnmaaShort
import Derived.Test.YtpbgdeojcefnmaaW1
import Derived.Test.YtpbgdeojcefnmaaW6
namespace Go.Proofs.Ytpbgdeojcefnmaa
open Go.RowKit
set_option linter.unusedVariables false

set_option maxRecDepth 100000 in
set_option maxHeartbeats 400000 in
theorem mkheads_c (s : SledV) (best : Bool) (tsA : Option Addr) (tsN : Nat) (tsC : Nat) :
    FnX Try.prog 62 [(Value.agg (RiderV.cells (RiderV.mk s (TrackV.mk (Slc.mk tsA tsN tsC)) best)).toArray)] [] (fun (x : Nat) => (Value.func (.func 93) [].toArray [(Value.pointer (some ⟨x, 0, none⟩))].toArray)) (fun (x : Nat) => True) (fun (x : Nat) => [(blk x 108 (RiderV.cells (RiderV.mk s (TrackV.mk (Slc.mk tsA tsN tsC)) best)))]) := by
 refine fnX_of go62 Try.func62 rfl rfl fun w0 Q hQ hN => ?_
 change WJ _ _ _ _ [(0, (Value.agg (RiderV.cells (RiderV.mk s (TrackV.mk (Slc.mk tsA tsN tsC)) best)).toArray))] []
 refine WS fun _ hK1 => ?_
 refine BXA rfl fun b2 => ?_
 refine rS (AG rfl) ?_
 refine RK hK1 ?_
 refine WS fun _ hK3 => ?_
 refine rS (FU rfl) ?_
 refine rS (AG rfl) ?_
 refine RK hK3 ?_
 refine w_ret ?_
 refine hQ _ _ _ (l_nil (vs := [(Value.func (.func 93) [].toArray [(Value.pointer (some ⟨b2, 0, none⟩))].toArray)]) ⟨rfl, trivial⟩ fun w hs => endX b2 [0] ?_ ?_ rfl rfl rfl hs)
 · rfl
 · trivial

set_option maxRecDepth 100000 in
set_option maxHeartbeats 400000 in
theorem iter_c (s : SledV) (ts : List StretchV) (tsA : Option Addr) (tsC : Nat) (best : Bool) (g1 : Nat) (hs : SledOk s) (hst : ∀ x ∈ ts, StretchOk x) (hlen : ts.length ≤ 12) :
    SeqV Try.prog 93 [] [(Value.pointer (some ⟨g1, 0, none⟩))] [(rd tsA ts.length 9 (ts.map StretchV.cells)), (blk g1 108 (RiderV.cells (RiderV.mk s (TrackV.mk (Slc.mk tsA ts.length tsC)) best)))] (headV best s ts) := by
 refine seqV_of go93 Try.func93 rfl rfl fun l J Z A0 w0 Q hY hJ0 hF0 hQ hN => ?_
 change WJ _ _ _ _ [(0, (Value.func (.yield l) #[] #[])), (1, (Value.pointer (some ⟨g1, 0, none⟩)))] [A0, (rd tsA ts.length 9 (ts.map StretchV.cells)).ro, (blk g1 108 (RiderV.cells (RiderV.mk s (TrackV.mk (Slc.mk tsA ts.length tsC)) best))).ro]
 refine WS fun _ hK1 => ?_
 refine rS (CL takers_c (ha_nil) rfl) ?_
 refine AL rfl tz152 fun b2 => ?_
 refine SW0 rfl ts152 rfl ?_
 refine RK hK1 ?_
 refine WS fun _ hK3 => ?_
 refine rS (LWR 3 rfl tk108 rfl rfl) ?_
 refine rS (FA 0 rfl fo108_0 rfl) ?_
 refine rS (FA 1 rfl fo28_1 rfl) ?_
 refine rS (LPR (SpanV.cells s.Start) 3 rfl tk26 rfl rfl rfl) ?_
 refine rS (CL (one_c s best tsA ts.length tsC s.Start true) (ha_nil) rfl) ?_
 refine rS (AG rfl) ?_
 refine RK hK3 ?_
 refine w_seq fun _ hK4 => ?_
 refine WS fun _ hK5 => ?_
 refine rS (FA 11 rfl fo108_1 rfl) ?_
 refine rS (FA 11 rfl fo24_0 rfl) ?_
 refine rS (L1R (Value.slice tsA ts.length tsC) 3 rfl tk22 rfl rfl) ?_
 refine rS (LN rfl ut22) ?_
 refine rS (MV rfl) ?_
 refine RK hK5 ?_
 refine w_block ?_
 have hinit : (0 ≤ ts.length) ∧ (J 0 A0) ∧ (Fo A0 w0 A0) := by exact ⟨by omega, hJ0, hF0⟩
 refine w_loop (ι := { z : Nat × Assn // (z.1 ≤ ts.length) ∧ (J z.1 z.2) ∧ (Fo A0 w0 z.2) }) (fun z => [(0, (Value.func (.yield l) #[] #[])), (1, (Value.pointer (some ⟨g1, 0, none⟩))), (3, (Value.pointer (some ⟨b2, 0, none⟩))), (4, (Value.int .i64 (headAt best s ts z.1.1))), (19, (Value.slice tsA ts.length tsC)), (20, (Value.int .i64 ((ts.length : Nat) : Int))), (21, (Value.int .i64 (z.1.1 : Int)))]) (fun z => [(blk b2 152 ((T151V.cells (T151V.mk (Value.func (.func 111) [].toArray [].toArray))) ++ (T151V.cells (T151V.mk (Value.func (.func 112) [].toArray [].toArray))))), z.1.2, (rd tsA ts.length 9 (ts.map StretchV.cells)).ro, (blk g1 108 (RiderV.cells (RiderV.mk s (TrackV.mk (Slc.mk tsA ts.length tsC)) best))).ro]) (fun z => ts.length - z.1.1) ⟨(0, A0), hinit⟩ (Sub.cons rfl <| Sub.cons rfl <| Sub.cons rfl <| Sub.cons rfl <| Sub.cons rfl <| Sub.cons rfl <| Sub.cons rfl <| Sub.nil _) (fun w hs => St.sel [0, 1, 2, 3] rfl rfl hs) ?_
 clear hinit
 rintro ⟨⟨i, A⟩, ⟨hl3_0, hl3_1, hl3_2⟩⟩ J6 hJ6
 try dsimp only at hl3_0 hl3_1 hl3_2
 change WJ _ _ _ _ [(0, (Value.func (.yield l) #[] #[])), (1, (Value.pointer (some ⟨g1, 0, none⟩))), (3, (Value.pointer (some ⟨b2, 0, none⟩))), (4, (Value.int .i64 (headAt best s ts i))), (19, (Value.slice tsA ts.length tsC)), (20, (Value.int .i64 ((ts.length : Nat) : Int))), (21, (Value.int .i64 (i : Int)))] [(blk b2 152 ((T151V.cells (T151V.mk (Value.func (.func 111) [].toArray [].toArray))) ++ (T151V.cells (T151V.mk (Value.func (.func 112) [].toArray [].toArray))))), A, (rd tsA ts.length 9 (ts.map StretchV.cells)).ro, (blk g1 108 (RiderV.cells (RiderV.mk s (TrackV.mk (Slc.mk tsA ts.length tsC)) best))).ro]
 have hb := headAt_b (best := best) hs hst i
 refine WS fun _ hK7 => ?_
 refine rS (BI rfl b_lss) ?_
 refine RK hK7 ?_
 refine w_seq fun _ hK8 => ?_
 refine w_if rfl (fun h9 => ?_) (fun h9 => ?_)
 rotate_left 1
 · replace h9 := DF h9
   refine w_exit ?_
   refine k_exit_then ?_
   refine k_exit_then ?_
   refine k_exit_same ?_
   refine KK hK4 ?_
   refine w_region ?_
   refine rS (MV rfl) ?_
   refine rS (FA 11 rfl fo108_1 rfl) ?_
   refine rS (FA 11 rfl fo24_0 rfl) ?_
   refine rS (L1R (Value.slice tsA ts.length tsC) 3 rfl tk22 rfl rfl) ?_
   refine rS (LN rfl ut22) ?_
   refine rS (MV rfl) ?_
   refine r_yield 1 hY hl3_1 hl3_2 rfl rfl rfl (headV_end (by omega) (by omega)) rfl rfl (fun B37 hJ38 hF39 => ?_) (fun B37 hJ38 hF39 => ?_)
   rotate_left 1
   · refine r_nil ?_
     refine hN _ _ _ (l_nil (vs := []) trivial fun w hs => endSz 1 rfl hJ38 hF39 hs)
   refine r_nil ?_
   refine hN _ _ _ (l_nil (vs := []) trivial fun w hs => endS 1 rfl (by rw [headV_length]; have e : ts.length = i := (by omega); rw [e]; exact hJ38) hF39 hs)
 replace h9 := DT h9
 refine WK hK8 ?_
 refine w_seq fun _ hK10 => ?_
 refine w_block ?_
 refine WS fun _ hK11 => ?_
 refine rS (MV rfl) ?_
 obtain ⟨x, hxe⟩ : ∃ y_, ts[i]? = some y_ := ⟨ts[i]'(by omega), List.getElem?_eq_getElem _⟩
 have hxem : (ts.map StretchV.cells)[i]? = some (StretchV.cells x) := by rw [List.getElem?_map, hxe]; rfl
 refine rS (IA i rfl (has_at 2 rfl) te22 (by decide) (by omega) (by omega)) ?_
 have hxo := hst x (List.mem_of_getElem? hxe)
 have hlo := oneF_ok (best := best) (f := false) hxo.2.1
 have hfa := oneF_ok (best := best) (f := true) hxo.2.2.1
 have h5 := oneF_ok (best := best) (f := false) hs.2.2.2.1
 have h6 := oneF_ok (best := best) (f := true) hs.2.2.2.2.1
 have h7 := oneF_ok (best := best) (f := false) hs.2.2.1
 have m1 := mulb hb.1 (show headAt best s ts i ≤ 400000 by omega) h5.1 h5.2
 have m2 := mulb m1.1 m1.2 (show 0 ≤ oneF best false x.Long by omega) hlo.2
 have m3 := divb (b := 100 * oneF best true s.Weight) m2.1 m2.2 (by omega)
 have m4 := mulb h7.1 h7.2 (show 0 ≤ oneF best false x.Long by omega) hlo.2
 refine rS (LEN i 0 (StretchV.cells x) rfl tk77 (has_at 2 rfl) hxem rfl (by decide) rfl rfl) ?_
 refine AL rfl tz77 fun b12 => ?_
 refine rS (AG rfl) ?_
 refine SW0 rfl ts77 rfl ?_
 refine RK hK11 ?_
 refine w_seq fun _ hK13 => ?_
 refine WS fun _ hK14 => ?_
 refine rS (MV rfl) ?_
 refine rS (MV rfl) ?_
 refine rS (MV rfl) ?_
 refine r_yield 2 hY hl3_1 hl3_2 rfl rfl rfl (headV_get (by omega)) rfl rfl (fun B15 hJ16 hF17 => ?_) (fun B15 hJ16 hF17 => ?_)
 rotate_left 1
 · refine rS (NT rfl) ?_
   refine RK hK14 ?_
   refine w_if_true rfl ?_
   refine w_ret ?_
   refine hQ _ _ _ (l_nil (vs := []) trivial fun w hs => endSz 2 rfl hJ16 hF17 hs)
 refine rS (NT rfl) ?_
 refine RK hK14 ?_
 refine w_if_false rfl ?_
 refine WK hK13 ?_
 refine w_seq fun _ hK18 => ?_
 refine w_draw mixed 12 (by kernel_rfl) ?_
 refine dS (LWR 4 rfl tk108 rfl rfl) ?_
 refine dS (FA 1 rfl fo77_1 rfl) ?_
 refine dS (LP (SpanV.cells x.Long) 0 rfl tk26 rfl rfl rfl) ?_
 refine dS (CL (one_c s best tsA ts.length tsC x.Long false) (ha_nil) rfl) ?_
 refine dS (MV rfl) ?_
 refine dS (LWR 4 rfl tk108 rfl rfl) ?_
 refine dS (FA 3 rfl fo77_2 rfl) ?_
 refine dS (LP (SpanV.cells x.Fall) 0 rfl tk26 rfl rfl rfl) ?_
 refine dS (CL (one_c s best tsA ts.length tsC x.Fall true) (ha_nil) rfl) ?_
 refine dS (BI rfl (b_add ⟨by omega, by omega⟩)) ?_
 refine dS (AG rfl) ?_
 refine dS (AG rfl) ?_
 refine d_end ?_
 refine RK hK18 ?_
 refine w_seq fun _ hK19 => ?_
 refine WS fun _ hK20 => ?_
 refine rS (LW 1 rfl tk152 rfl rfl) ?_
 refine rS (MV rfl) ?_
 refine RK hK20 ?_
 refine w_block ?_
 refine w_rounds 3 ?_
 refine ro_succ fun R21 hR21 => ?_
 refine WS fun _ hK22 => ?_
 refine rS (SX (sd_bin (r := .bool true) rfl rfl rfl b_lss) rfl rfl) ?_
 refine RK hK22 ?_
 refine w_seq fun _ hK23 => ?_
 refine w_if_true rfl ?_
 refine WK hK23 ?_
 refine w_seq fun _ hK24 => ?_
 refine w_block ?_
 refine WS fun _ hK25 => ?_
 refine rS (SX (sd_index (vs := (T151V.cells (T151V.mk (Value.func (.func 111) [].toArray [].toArray)))) 0 rfl rfl rfl tx152 tk151 rfl (by decide) rfl) rfl rfl) ?_
 refine AL rfl tz151 fun b26 => ?_
 refine SW0 rfl ts151 rfl ?_
 refine RK hK25 ?_
 refine w_region ?_
 refine rS (MV rfl) ?_
 refine rS (FA 0 rfl fo151_0 rfl) ?_
 refine rS (L1 (Value.func (.func 111) [].toArray [].toArray) 0 rfl tk150 rfl rfl) ?_
 refine rS (LWR 5 rfl tk108 rfl rfl) ?_
 refine rS (MV rfl) ?_
 refine rS (MV rfl) ?_
 refine rS (CL (air_c s best tsA ts.length tsC (headAt best s ts i) (oneF best false x.Long) hs (by first | assumption | omega | (simp; done) | (simp; omega)) (by first | assumption | omega | (simp; done) | (simp; omega))) (ha_nil) rfl) ?_
 refine rS (BI rfl (b_sub ⟨by omega, by omega⟩)) ?_
 refine rS (AG rfl) ?_
 refine r_nil ?_
 refine k_block ?_
 refine KK hK24 ?_
 refine w_region ?_
 refine rS (SX (sd_bin (r := .int .i64 1) rfl rfl rfl (b_add ⟨by decide, by decide⟩)) rfl rfl) ?_
 refine rS (MV rfl) ?_
 refine RK hR21 ?_
 refine ro_succ fun R27 hR27 => ?_
 refine WS fun _ hK28 => ?_
 refine rS (SX (sd_bin (r := .bool true) rfl rfl rfl b_lss) rfl rfl) ?_
 refine RK hK28 ?_
 refine w_seq fun _ hK29 => ?_
 refine w_if_true rfl ?_
 refine WK hK29 ?_
 refine w_seq fun _ hK30 => ?_
 refine w_block ?_
 refine WS fun _ hK31 => ?_
 refine rS (SX (sd_index (vs := (T151V.cells (T151V.mk (Value.func (.func 112) [].toArray [].toArray)))) 1 rfl rfl rfl tx152 tk151 rfl (by decide) rfl) rfl rfl) ?_
 refine AL rfl tz151 fun b32 => ?_
 refine SW0 rfl ts151 rfl ?_
 refine RK hK31 ?_
 refine w_region ?_
 refine rS (MV rfl) ?_
 refine rS (FA 0 rfl fo151_0 rfl) ?_
 refine rS (L1 (Value.func (.func 112) [].toArray [].toArray) 0 rfl tk150 rfl rfl) ?_
 refine rS (LWR 6 rfl tk108 rfl rfl) ?_
 refine rS (MV rfl) ?_
 refine rS (MV rfl) ?_
 refine rS (CL (ice_c s best tsA ts.length tsC (headAt best s ts i) (oneF best false x.Long) hs (by first | assumption | omega | (simp; done) | (simp; omega))) (ha_nil) rfl) ?_
 refine rS (BI rfl (b_sub ⟨by omega, by omega⟩)) ?_
 refine rS (AG rfl) ?_
 refine r_nil ?_
 refine k_block ?_
 refine KK hK30 ?_
 refine w_region ?_
 refine rS (SX (sd_bin (r := .int .i64 2) rfl rfl rfl (b_add ⟨by decide, by decide⟩)) rfl rfl) ?_
 refine rS (MV rfl) ?_
 refine RK hR27 ?_
 refine ro_succ fun R33 hR33 => ?_
 refine WS fun _ hK34 => ?_
 refine rS (SX (sd_bin (r := .bool false) rfl rfl rfl b_lss) rfl rfl) ?_
 refine RK hK34 ?_
 refine w_seq fun _ hK35 => ?_
 refine w_if_false rfl ?_
 refine w_exit ?_
 refine k_exit_then ?_
 refine k_exit_then ?_
 refine k_exit_same ?_
 refine KK hK19 ?_
 refine w_region ?_
 refine rS (MV rfl) ?_
 refine rS (MX rfl) ?_
 refine rS (AG rfl) ?_
 refine r_nil ?_
 refine k_block ?_
 refine KK hK10 ?_
 refine w_region ?_
 refine rS (BI rfl (b_add ⟨by omega, by omega⟩)) ?_
 refine rS (MV rfl) ?_
 refine r_nil ?_
 have hb36 : (Value.int .i64 (headAt best s ts (i + 1))) = (Value.int .i64 (max 0 ((((headAt best s ts i) + (oneF best true x.Fall)) - (min (headAt best s ts i) ((headAt best s ts i) * oneF best false s.Drag * (oneF best false x.Long) / (100 * oneF best true s.Weight)))) - (oneF best false s.Rub * (oneF best false x.Long) / 100)))) := by rw [headAt_succ hxe]; refine congrArg (Value.int .i64) ?_; unfold stepH nextH; omega
 refine k_then (hJ6 ⟨((i + 1), B15), ⟨by omega, hJ16, hF17⟩⟩ _ _ _ rfl (by first | omega | (simp; omega)) (Sub.cons rfl <| Sub.cons rfl <| Sub.cons rfl <| sub_val rfl hb36 <| Sub.cons rfl <| Sub.cons rfl <| Sub.cons rfl <| Sub.nil _) (fun w hs => St.sel [3, 4, 5, 6] rfl rfl hs))

set_option maxRecDepth 100000 in
set_option maxHeartbeats 400000 in
theorem list_c (s : SledV) (ts : List StretchV) (tsA : Option Addr) (tsC : Nat) (best : Bool) (hs : SledOk s) (hst : ∀ x ∈ ts, StretchOk x) (hlen : ts.length ≤ 12) :
    FnX Try.prog 61 [(Value.agg (RiderV.cells (RiderV.mk s (TrackV.mk (Slc.mk tsA ts.length tsC)) best)).toArray)] [(rd tsA ts.length 9 (ts.map StretchV.cells))] (fun (x : (Option Addr) × Nat) => (Value.slice x.1 ((headsL best s ts).length) x.2)) (fun (x : (Option Addr) × Nat) => True) (fun (x : (Option Addr) × Nat) => [(own x.1 x.2 3 1 ((headsL best s ts).map iC))]) := by
 refine fnX_of go61 Try.func61 rfl rfl fun w0 Q hQ hN => ?_
 change WJ _ _ _ _ [(0, (Value.agg (RiderV.cells (RiderV.mk s (TrackV.mk (Slc.mk tsA ts.length tsC)) best)).toArray))] [(rd tsA ts.length 9 (ts.map StretchV.cells)).ro]
 refine WS fun _ hK1 => ?_
 refine BXA rfl fun b2 => ?_
 refine rS (AG rfl) ?_
 refine RK hK1 ?_
 refine WS fun _ hK3 => ?_
 refine AL rfl tz61 fun b4 => ?_
 refine RK hK3 ?_
 refine w_seq fun _ hK5 => ?_
 refine WS fun _ hK6 => ?_
 refine rS (LW 1 rfl tk108 rfl rfl) ?_
 refine cX (mkheads_c s best tsA ts.length tsC) (ha_nil) rfl fun b9 hy8 => ?_
 change RJ _ _ _ _ _ ((_, (Value.func (.func 93) [].toArray [(Value.pointer (some ⟨b9, 0, none⟩))].toArray)) :: _) ((blk b9 108 (RiderV.cells (RiderV.mk s (TrackV.mk (Slc.mk tsA ts.length tsC)) best))) :: _)
 refine RK hK6 ?_
 refine w_block ?_
 refine w_dup 3 rfl (by exact fun _ h => h) ?_
 refine w_own_nil 3 1 ?_
 refine w_range (L0 := [(3, (Value.pointer (some ⟨b4, 0, none⟩)))]) (F := [(rd tsA ts.length 9 (ts.map StretchV.cells)).ro, (blk b9 108 (RiderV.cells (RiderV.mk s (TrackV.mk (Slc.mk tsA ts.length tsC)) best)))]) (xs := (headV best s ts)) (fun k (y : (Option Addr) × Nat) => True) (fun k y => [(own y.1 y.2 3 1 (((headsL best s ts).take k).map iC)), (blk b4 61 [(Value.slice y.1 (((headsL best s ts).take k).length) y.2)]), (rd tsA ts.length 9 (ts.map StretchV.cells)).ro]) (fun _ (_ : Unit) => False) (fun _ _ => []) [0, 3, 5] [1, 2] (none, 0) rfl rfl (iter_c s ts tsA tsC best b9 (by first | assumption | omega | (simp; done)) (by first | assumption | omega | (simp; done)) (by first | assumption | omega | (simp; done))) rfl rfl rfl (by trivial) (by simp only [List.forall_mem_cons, List.not_mem_nil, false_imp_iff, implies_true, and_true]; exact ⟨⟨_, by simp, (cov_ro (cov_refl _))⟩, ⟨_, by simp, (cov_refl _)⟩⟩) (by exact headV_lens) rfl (Sub.cons rfl <| Sub.nil _) ?_ ?_ (fun _ _ _ h => h.elim) (fun _ _ h => h.elim)
 rotate_left 1
 · rintro r16 ⟨a, c⟩ hin17
   change KJ _ _ _ [(3, (Value.pointer (some ⟨b4, 0, none⟩)))] [(obj r16 (.deferred (some []))), (rd tsA ts.length 9 (ts.map StretchV.cells)).ro, (blk b9 108 (RiderV.cells (RiderV.mk s (TrackV.mk (Slc.mk tsA ts.length tsC)) best))), (own a c 3 1 (((headsL best s ts).take ((headV best s ts).length)).map iC)), (blk b4 61 [(Value.slice a (((headsL best s ts).take ((headV best s ts).length)).length) c)]), (rd tsA ts.length 9 (ts.map StretchV.cells)).ro]
   rw [heads_take_end]
   refine k_block ?_
   refine KK hK5 ?_
   refine WS fun _ hK18 => ?_
   refine rS (L1W 4 rfl tk61 rfl) ?_
   refine rS (AG rfl) ?_
   refine RK hK18 ?_
   refine w_ret ?_
   refine hQ _ _ _ (l_mark 0 rfl rfl <| l_nil (vs := [(Value.slice a ((headsL best s ts).length) c)]) ⟨rfl, trivial⟩ fun w hs => endX (a, c) [3] ?_ ?_ rfl rfl rfl hs)
   · rfl
   · trivial
 rintro k x ⟨a, c⟩ l ra rb S w1 K10 Qr11 hx hin12 hK10 hQr11 _ _
 obtain ⟨hk, rfl⟩ := headV_out hx
 change WJ _ _ _ _ [(9, (Value.int .i64 (headAt best s ts k))), (8, (Value.int .i64 (k : Int))), (3, (Value.pointer (some ⟨b4, 0, none⟩)))] [(obj l (.loop ra)), (own a c 3 1 (((headsL best s ts).take k).map iC)), (blk b4 61 [(Value.slice a (((headsL best s ts).take k).length) c)]), (rd tsA ts.length 9 (ts.map StretchV.cells)).ro]
 refine w_region ?_
 refine rS (AG rfl) ?_
 refine r_nil ?_
 refine k_then (hK10 _ _ ?_)
 refine w_block ?_
 refine w_region ?_
 refine rS (L1W 2 rfl tk61 rfl) ?_
 refine rS (MV rfl) ?_
 refine r_bs (xs := [.tmp 11]) (cs := [(Value.int .i64 (headAt best s ts k))]) rfl te61 tz3 rfl rfl rfl rfl (by simp [Value.cells]) rfl rfl fun b13 => ?_
 refine r_append (es2 := (List.map iC ((headsL best s ts).take (k + 1)))) (m' := ((headsL best s ts).take (k + 1)).length) 2 rfl rfl rfl ta61 rfl rfl (by simp) (has_rd_blk (es := List.map iC [(headAt best s ts k)]) 0 rfl rfl (by simp [iC_length]) rfl) (one_iC _) (by simp [headsL_length]; omega) (by simp [headsL_length, maxLen]; omega) (by rw [headsL_take hk]; simp) (by simp) rfl fun a14 c15 => ?_
 change RJ _ _ _ _ _ _ [_, _, (own a14 c15 3 1 (List.map iC ((headsL best s ts).take (k + 1)))), _, _]
 refine SO3 rfl ts61 rfl rfl ?_
 refine r_nil ?_
 refine k_block ?_
 exact hQr11 (a14, c15) _ _ (by trivial) (fun w hs => St.sel [1, 2, 3, 4] rfl rfl hs)

end Go.Proofs.Ytpbgdeojcefnmaa
