/-
  Walks: (kreisel/slide.rider).bank, (kreisel/slide.rider).heights, kreisel/slide.Height, kreisel/slide.Height, kreisel/slide.Height, kreisel/slide.Height, kreisel/slide.Height, kreisel/kreiselref03.curve, kreisel/kreiselref03.height, kreisel/kreiselref03.Height
-/
import Derived.Test.YtpbgdeojcefnmaaTab
import Derived.Test.YtpbgdeojcefnmaaShort
import Derived.Test.YtpbgdeojcefnmaaW1
import Derived.Test.YtpbgdeojcefnmaaW6
import Derived.Test.YtpbgdeojcefnmaaW7
import Derived.Test.YtpbgdeojcefnmaaW9
import Derived.Test.YtpbgdeojcefnmaaW12
namespace Go.Proofs.Ytpbgdeojcefnmaa
open Go.RowKit
set_option linter.unusedVariables false

set_option maxRecDepth 100000 in
set_option maxHeartbeats 400000 in
theorem bank_c (s : SledV) (ts : List StretchV) (tsA : Option Addr) (tsC : Nat) (best : Bool) (i : Int) (h : Int) (x : StretchV) (hs : SledOk s) (hst : ∀ x ∈ ts, StretchOk x) (hlen : ts.length ≤ 12) (hi : 0 ≤ i ∧ i < ts.length) (hh : 0 ≤ h ∧ h ≤ 1100000) (hx : ts[i.toNat]? = some x) :
    FnV Try.prog 79 [(Value.agg (RiderV.cells (RiderV.mk s (TrackV.mk (Slc.mk tsA ts.length tsC)) best)).toArray), (Value.int .i64 i), (Value.int .i64 h)] [(rd tsA ts.length 9 (ts.map StretchV.cells))] (Value.int .i64 (bankF best s x h)) := by
 refine fnV_of go79 Try.func79 rfl rfl fun w0 Q hQ hN => ?_
 change WJ _ _ _ _ [(0, (Value.agg (RiderV.cells (RiderV.mk s (TrackV.mk (Slc.mk tsA ts.length tsC)) best)).toArray)), (1, (Value.int .i64 i)), (2, (Value.int .i64 h))] [(rd tsA ts.length 9 (ts.map StretchV.cells)).ro]
 refine WS fun _ hK1 => ?_
 refine BXA rfl fun b2 => ?_
 refine rS (AG rfl) ?_
 refine RK hK1 ?_
 refine w_seq fun _ hK3 => ?_
 refine w_draw mixed 11 (by kernel_rfl) ?_
 refine dS (LW 0 rfl tk108 rfl rfl) ?_
 refine dS (FA 11 rfl fo108_1 rfl) ?_
 refine dS (FA 11 rfl fo24_0 rfl) ?_
 refine dS (L1 (Value.slice tsA ts.length tsC) 0 rfl tk22 rfl rfl) ?_
 refine dS (MV rfl) ?_
 obtain ⟨y, hy⟩ : ∃ y_, ts[(i).toNat]? = some y_ := ⟨ts[(i).toNat]'(by omega), List.getElem?_eq_getElem _⟩
 have hym : (ts.map StretchV.cells)[(i).toNat]? = some (StretchV.cells y) := by rw [List.getElem?_map, hy]; rfl
 refine dS (IA ((i).toNat) rfl (has_at 1 rfl) te22 (by decide) (by omega) (by omega)) ?_
 refine dS (FAR ((((i).toNat) * 9) + 5) rfl (has_at 1 rfl) (Nat.mul_pos (by omega) (by decide)) fo77_3 rfl) ?_
 have hyo := hst y (List.mem_of_getElem? hy)
 have h5 := radius_b (best := best) (f := false) hyo
 have h6 := oneF_ok (best := best) (f := true) hs.2.2.2.2.2
 refine dS (LEN ((i).toNat) 5 (SpanV.cells y.Radius) rfl tk26 (has_at 1 rfl) hym rfl (by decide) rfl rfl) ?_
 refine dS (CL (one_c s best tsA ts.length tsC y.Radius false) (ha_nil) rfl) ?_
 refine dS (BI rfl (b_mul ⟨by omega, by omega⟩)) ?_
 refine dS (AG rfl) ?_
 refine d_end ?_
 refine RK hK3 ?_
 refine w_seq fun _ hK4 => ?_
 refine WS fun _ hK5 => ?_
 refine rS (MV rfl) ?_
 refine rS (BI rfl b_eql) ?_
 refine RK hK5 ?_
 refine w_if rfl (fun he => ?_) (fun he => ?_)
 · replace he := DT he
   refine WS fun _ hK6 => ?_
   refine rS (AG rfl) ?_
   refine RK hK6 ?_
   refine w_ret ?_
   refine Q1 hQ rfl rfl rfl ?_
   obtain rfl : y = x := Option.some.inj (hy.symm.trans hx)
   first | exact congrArg (Value.int .i64) (by rw [bankF, if_pos he]) | exact congrArg (Value.int .i64) (by rw [bankF, if_neg he])
 replace he := DF he
 refine WK hK4 ?_
 refine w_seq fun _ hK7 => ?_
 refine w_draw mixed 11 (by kernel_rfl) ?_
 refine dS (MV rfl) ?_
 refine dS (BI rfl (b_mul ⟨by omega, by omega⟩)) ?_
 refine dS (MV rfl) ?_
 have m3 := divb (a := 1200 * h) (b := 10 * oneF best false y.Radius) (A := 1320000000) (by omega) (by omega) (by omega)
 refine dS (BI rfl (b_quo (by omega) (by omega) (by omega))) ?_
 refine dS (LW 0 rfl tk108 rfl rfl) ?_
 refine dS (FA 0 rfl fo108_0 rfl) ?_
 refine dS (FA 9 rfl fo28_5 rfl) ?_
 refine dS (LP (SpanV.cells s.Steer) 0 rfl tk26 rfl rfl rfl) ?_
 refine dS (CL (one_c s best tsA ts.length tsC s.Steer true) (ha_nil) rfl) ?_
 refine dS (BI rfl (b_add ⟨by omega, by omega⟩)) ?_
 refine dS (AG rfl) ?_
 refine d_end ?_
 refine RK hK7 ?_
 refine w_ret ?_
 refine Q1 hQ rfl rfl rfl ?_
 obtain rfl : y = x := Option.some.inj (hy.symm.trans hx)
 first | exact congrArg (Value.int .i64) (by rw [bankF, if_pos he]) | exact congrArg (Value.int .i64) (by rw [bankF, if_neg he])

set_option maxRecDepth 100000 in
set_option maxHeartbeats 400000 in
theorem heights_c (s : SledV) (ts : List StretchV) (tsA : Option Addr) (tsC : Nat) (best : Bool) (hs : SledOk s) (hst : ∀ x ∈ ts, StretchOk x) (hlen : ts.length ≤ 12) (hside : ∀ x ∈ ts, 0 ≤ x.Side ∧ x.Side ≤ 255) :
    FnX Try.prog 70 [(Value.agg (RiderV.cells (RiderV.mk s (TrackV.mk (Slc.mk tsA ts.length tsC)) best)).toArray)] [(rd tsA ts.length 9 (ts.map StretchV.cells))] (fun (x : Nat) => (Value.map (some x))) (fun (x : Nat) => True) (fun (x : Nat) => [(mp x (mapV iV (hgts best s ts ts.length)))]) := by
 refine fnX_of go70 Try.func70 rfl rfl fun w0 Q hQ hN => ?_
 change WJ _ _ _ _ [(0, (Value.agg (RiderV.cells (RiderV.mk s (TrackV.mk (Slc.mk tsA ts.length tsC)) best)).toArray))] [(rd tsA ts.length 9 (ts.map StretchV.cells)).ro]
 refine WS fun _ hK1 => ?_
 refine BXA rfl fun b2 => ?_
 refine rS (AG rfl) ?_
 refine RK hK1 ?_
 refine WS fun _ hK3 => ?_
 refine rS (LW 0 rfl tk108 rfl rfl) ?_
 refine cX (list_c s ts tsA tsC best hs hst hlen) (ha_at 1 rfl rfl <| ha_nil) rfl fun y4 hy5 => ?_
 obtain ⟨a6, c7⟩ := y4
 change RJ _ _ _ _ _ ((_, (Value.slice a6 ((headsL best s ts).length) c7)) :: _) ((own a6 c7 3 1 ((headsL best s ts).map iC)) :: _)
 refine rS (AG rfl) ?_
 refine RK hK3 ?_
 refine WS fun _ hK8 => ?_
 refine r_mkmap rfl rfl fun b9 => ?_
 refine rS (AG rfl) ?_
 refine RK hK8 ?_
 refine w_seq fun _ hK10 => ?_
 refine WS fun _ hK11 => ?_
 refine rS (FA 11 rfl fo108_1 rfl) ?_
 refine rS (FA 11 rfl fo24_0 rfl) ?_
 refine rS (L1 (Value.slice tsA ts.length tsC) 2 rfl tk22 rfl rfl) ?_
 refine rS (LN rfl ut22) ?_
 refine rS (MV rfl) ?_
 refine RK hK11 ?_
 refine w_block ?_
 have hinit : (0 ≤ ts.length) := by omega
 refine w_loop (ι := { z : Nat // (z ≤ ts.length) }) (fun z => [(1, (Value.pointer (some ⟨b2, 0, none⟩))), (3, (Value.slice a6 ((headsL best s ts).length) c7)), (4, (Value.map (some b9))), (14, (Value.int .i64 ((ts.length : Nat) : Int))), (15, (Value.int .i64 (z.1 : Int)))]) (fun z => [(mp b9 (mapV iV ((hall best s ts).take z.1))), (own a6 c7 3 1 ((headsL best s ts).map iC)), (blk b2 108 (RiderV.cells (RiderV.mk s (TrackV.mk (Slc.mk tsA ts.length tsC)) best))), (rd tsA ts.length 9 (ts.map StretchV.cells)).ro]) (fun z => ts.length - z.1) ⟨0, hinit⟩ (Sub.cons rfl <| Sub.cons rfl <| Sub.cons rfl <| Sub.cons rfl <| Sub.cons rfl <| Sub.nil _) (fun w hs => St.sel [0, 1, 2, 3] rfl rfl hs) ?_
 clear hinit
 rintro ⟨i, hl4_0⟩ J12 hJ12
 change WJ _ _ _ _ [(1, (Value.pointer (some ⟨b2, 0, none⟩))), (3, (Value.slice a6 ((headsL best s ts).length) c7)), (4, (Value.map (some b9))), (14, (Value.int .i64 ((ts.length : Nat) : Int))), (15, (Value.int .i64 (i : Int)))] [(mp b9 (mapV iV ((hall best s ts).take i))), (own a6 c7 3 1 ((headsL best s ts).map iC)), (blk b2 108 (RiderV.cells (RiderV.mk s (TrackV.mk (Slc.mk tsA ts.length tsC)) best))), (rd tsA ts.length 9 (ts.map StretchV.cells)).ro]
 refine WS fun _ hK13 => ?_
 refine rS (BI rfl b_lss) ?_
 refine RK hK13 ?_
 refine w_seq fun _ hK14 => ?_
 refine w_if rfl (fun h15 => ?_) (fun h15 => ?_)
 · replace h15 := DT h15
   refine WK hK14 ?_
   refine w_seq fun _ hK16 => ?_
   refine w_block ?_
   refine WS fun _ hK17 => ?_
   refine rS (MV rfl) ?_
   refine rS (AG rfl) ?_
   refine RK hK17 ?_
   refine w_draw mixed 15 (by kernel_rfl) ?_
   have hml := headsL_length (best := best) (s := s) (ts := ts)
   obtain ⟨x, hx⟩ : ∃ y, ts[i]? = some y := ⟨ts[i]'(by omega), List.getElem?_eq_getElem (by omega)⟩
   have hib := inAt_b (best := best) hs hst (i := i) (by omega)
   refine dS (MV rfl) ?_
   refine dS (MV rfl) ?_
   refine dS (LW 2 rfl tk108 rfl rfl) ?_
   refine dS (MV rfl) ?_
   refine dS (MV rfl) ?_
   refine dS (MV rfl) ?_
   obtain ⟨m, hm⟩ : ∃ y_, (headsL best s ts)[i]? = some y_ := ⟨(headsL best s ts)[i]'(by omega), List.getElem?_eq_getElem _⟩
   have hmm : ((headsL best s ts).map iC)[i]? = some (iC m) := by rw [List.getElem?_map, hm]; rfl
   refine dS (IA i rfl (has_own_n (n := (headsL best s ts).length) 1 rfl (by simp)) te61 (by decide) (by omega) (by omega)) ?_
   refine dS (LE1 i 0 (Value.int .i64 m) rfl tk3 (has_own_n (n := (headsL best s ts).length) 1 rfl (by simp)) hmm rfl (by decide) rfl) ?_
   refine dS (MV rfl) ?_
   refine dS (MV rfl) ?_
   refine dS (BI rfl (b_add ⟨by omega, by omega⟩)) ?_
   obtain ⟨n, hn⟩ : ∃ y_, (headsL best s ts)[(i + 1)]? = some y_ := ⟨(headsL best s ts)[(i + 1)]'(by omega), List.getElem?_eq_getElem _⟩
   have hnm : ((headsL best s ts).map iC)[(i + 1)]? = some (iC n) := by rw [List.getElem?_map, hn]; rfl
   refine dS (IA (i + 1) rfl (has_own_n (n := (headsL best s ts).length) 1 rfl (by simp)) te61 (by decide) (by omega) (by omega)) ?_
   refine dS (LE1 (i + 1) 0 (Value.int .i64 n) rfl tk3 (has_own_n (n := (headsL best s ts).length) 1 rfl (by simp)) hnm rfl (by decide) rfl) ?_
   refine dS (MX rfl) ?_
   have mv : m = headAt best s ts i := by rw [headsL_get (by omega)] at hm; exact (Option.some.inj hm).symm
   have nv : n = headAt best s ts (i + 1) := by rw [headsL_get (by omega)] at hn; exact (Option.some.inj hn).symm
   have hmx := inAt_nat mv nv
   rw [hmx]
   refine dS (CL (bank_c s ts tsA tsC best (i : Int) (inAt best s ts i) x hs hst hlen (by first | assumption | omega | (simp; done) | (simp; omega)) (by first | assumption | omega | (simp; done) | (simp; omega)) (by simpa using hx)) (ha_at 3 rfl rfl <| ha_nil) rfl) ?_
   refine d_end ?_
   have hb18 : (setK ((hall best s ts).take i) (i : Int) (bankF best s x (inAt best s ts i))) = ((hall best s ts).take (i + 1)) := by rw [← hgt_at (best := best) (s := s) hx]; exact hall_step (by omega)
   refine r_mapset (C' := [(mp b9 (mapV iV ((hall best s ts).take (i + 1)))), _, _, _]) 0 rfl rfl rfl rfl ut120 ut3 rfl ((mapV_setK _ _ _ _).symm.trans (congrArg _ hb18)) rfl ?_
   refine r_nil ?_
   refine k_block ?_
   refine KK hK16 ?_
   refine w_region ?_
   refine rS (BI rfl (b_add ⟨by omega, by omega⟩)) ?_
   refine rS (MV rfl) ?_
   refine r_nil ?_
   refine k_then (hJ12 ⟨(i + 1), (by first | omega | (simp only []; omega))⟩ _ _ _ rfl (by first | omega | (simp; omega)) (Sub.cons rfl <| Sub.cons rfl <| Sub.cons rfl <| Sub.cons rfl <| Sub.cons rfl <| Sub.nil _) (fun w hs => St.sel [0, 1, 2, 3] rfl rfl hs))
 replace h15 := DF h15
 refine w_exit ?_
 refine k_exit_then ?_
 refine k_exit_then ?_
 refine k_exit_same ?_
 refine KK hK10 ?_
 refine w_seq fun _ hK19 => ?_
 refine WS fun _ hK20 => ?_
 refine rS (FA 11 rfl fo108_1 rfl) ?_
 refine rS (FA 11 rfl fo24_0 rfl) ?_
 refine rS (L1 (Value.slice tsA ts.length tsC) 2 rfl tk22 rfl rfl) ?_
 refine rS (LN rfl ut22) ?_
 refine rS (MV rfl) ?_
 refine RK hK20 ?_
 refine w_block ?_
 rw [hall_end (by omega)]
 have hinit : (0 ≤ ts.length) := by omega
 refine w_loop (ι := { z : Nat // (z ≤ ts.length) }) (fun z => [(1, (Value.pointer (some ⟨b2, 0, none⟩))), (4, (Value.map (some b9))), (36, (Value.slice tsA ts.length tsC)), (37, (Value.int .i64 ((ts.length : Nat) : Int))), (38, (Value.int .i64 (z.1 : Int)))]) (fun z => [(mp b9 (mapV iV (hgts best s ts z.1))), (own a6 c7 3 1 ((headsL best s ts).map iC)), (blk b2 108 (RiderV.cells (RiderV.mk s (TrackV.mk (Slc.mk tsA ts.length tsC)) best))), (rd tsA ts.length 9 (ts.map StretchV.cells)).ro]) (fun z => ts.length - z.1) ⟨0, hinit⟩ (Sub.cons rfl <| Sub.cons rfl <| Sub.cons rfl <| Sub.cons rfl <| Sub.cons rfl <| Sub.nil _) (fun w hs => St.sel [0, 1, 2, 3] rfl rfl hs) ?_
 clear hinit
 rintro ⟨j, hl9_0⟩ J21 hJ21
 change WJ _ _ _ _ [(1, (Value.pointer (some ⟨b2, 0, none⟩))), (4, (Value.map (some b9))), (36, (Value.slice tsA ts.length tsC)), (37, (Value.int .i64 ((ts.length : Nat) : Int))), (38, (Value.int .i64 (j : Int)))] [(mp b9 (mapV iV (hgts best s ts j))), (own a6 c7 3 1 ((headsL best s ts).map iC)), (blk b2 108 (RiderV.cells (RiderV.mk s (TrackV.mk (Slc.mk tsA ts.length tsC)) best))), (rd tsA ts.length 9 (ts.map StretchV.cells)).ro]
 refine WS fun _ hK22 => ?_
 refine rS (BI rfl b_lss) ?_
 refine RK hK22 ?_
 refine w_seq fun _ hK23 => ?_
 refine w_if rfl (fun h24 => ?_) (fun h24 => ?_)
 rotate_left 1
 · replace h24 := DF h24
   refine w_exit ?_
   refine k_exit_then ?_
   refine k_exit_then ?_
   refine k_exit_same ?_
   refine KK hK19 ?_
   refine WS fun _ hK30 => ?_
   obtain rfl : j = ts.length := by omega
   refine rS (MV rfl) ?_
   refine rS (AG rfl) ?_
   refine RK hK30 ?_
   refine w_ret ?_
   refine hQ _ _ _ (l_nil (vs := [(Value.map (some b9))]) ⟨rfl, trivial⟩ fun w hs => endX b9 [0] ?_ ?_ rfl rfl rfl hs)
   · rfl
   · trivial
 replace h24 := DT h24
 refine WK hK23 ?_
 refine w_seq fun _ hK25 => ?_
 refine w_block ?_
 refine WS fun _ hK26 => ?_
 refine rS (MV rfl) ?_
 obtain ⟨y, hy⟩ : ∃ y_, ts[j]? = some y_ := ⟨ts[j]'(by omega), List.getElem?_eq_getElem _⟩
 have hym : (ts.map StretchV.cells)[j]? = some (StretchV.cells y) := by rw [List.getElem?_map, hy]; rfl
 refine rS (IA j rfl (has_at 3 rfl) te22 (by decide) (by omega) (by omega)) ?_
 refine rS (LEN j 0 (StretchV.cells y) rfl tk77 (has_at 3 rfl) hym rfl (by decide) rfl rfl) ?_
 refine AL rfl tz77 fun b27 => ?_
 refine rS (AG rfl) ?_
 refine SW0 rfl ts77 rfl ?_
 refine RK hK26 ?_
 refine WS fun _ hK28 => ?_
 refine rS (FA 7 rfl fo77_4 rfl) ?_
 have hsd := hside y (List.mem_of_getElem? hy)
 refine rS (L1 (Value.int .u8 y.Side) 0 rfl tk5 rfl rfl) ?_
 refine rS (BI rfl b_eql) ?_
 refine RK hK28 ?_
 refine w_if rfl (fun hd => ?_) (fun hd => ?_)
 rotate_left 1
 · replace hd := DF hd
   refine w_skip ?_
   refine k_block ?_
   refine KK hK25 ?_
   refine w_region ?_
   first | rw [hgts_keep hy hd] | skip
   refine rS (BI rfl (b_add ⟨by omega, by omega⟩)) ?_
   refine rS (MV rfl) ?_
   refine r_nil ?_
   refine k_then (hJ21 ⟨(j + 1), (by first | omega | (simp only []; omega))⟩ _ _ _ rfl (by first | omega | (simp; omega)) (Sub.cons rfl <| Sub.cons rfl <| Sub.cons rfl <| Sub.cons rfl <| Sub.cons rfl <| Sub.nil _) (fun w hs => St.sel [1, 2, 3, 4] rfl rfl hs))
 replace hd := DT hd
 refine w_region ?_
 refine rS (MV rfl) ?_
 refine rS (MV rfl) ?_
 have hb29 : (delK (hgts best s ts j) (j : Int)) = (hgts best s ts (j + 1)) := by exact hgts_del hy hd
 refine r_mapdel0 (C' := [_, (mp b9 (mapV iV (hgts best s ts (j + 1)))), _, _, _]) 1 rfl rfl rfl rfl ut120 ut3 rfl ((mapV_delK _ _ _).symm.trans (congrArg _ hb29)) rfl ?_
 refine r_nil ?_
 refine k_block ?_
 refine KK hK25 ?_
 refine w_region ?_
 first | rw [hgts_keep hy hd] | skip
 refine rS (BI rfl (b_add ⟨by omega, by omega⟩)) ?_
 refine rS (MV rfl) ?_
 refine r_nil ?_
 refine k_then (hJ21 ⟨(j + 1), (by first | omega | (simp only []; omega))⟩ _ _ _ rfl (by first | omega | (simp; omega)) (Sub.cons rfl <| Sub.cons rfl <| Sub.cons rfl <| Sub.cons rfl <| Sub.cons rfl <| Sub.nil _) (fun w hs => St.sel [1, 2, 3, 4] rfl rfl hs))

set_option maxRecDepth 100000 in
set_option maxHeartbeats 400000 in
theorem height_bad (ts : List StretchV) (tsA : Option Addr) (tsC : Nat) (s : SledV) (i : Int) (hlen : ts.length ≤ 1000000) (hside : ∀ x ∈ ts, 0 ≤ x.Side ∧ x.Side ≤ 255) (htr : trackOk ts = false) :
    FnV Try.prog 22 [(Value.agg (TrackV.cells (TrackV.mk (Slc.mk tsA ts.length tsC))).toArray), (Value.agg (SledV.cells s).toArray), (Value.int .i64 i)] [(rd tsA ts.length 9 (ts.map StretchV.cells))] (Value.tuple [(Value.agg (SpanV.cells (heightV s ts i)).toArray), (Value.int .i64 (heightE s ts i))].toArray) := by
 have hb0 : ¬ bothE s ts = 0 := by rw [bothE_bad htr]; decide
 refine fnV_of go22 Try.func22 rfl rfl fun w0 Q hQ hN => ?_
 change WJ _ _ _ _ [(0, (Value.agg (TrackV.cells (TrackV.mk (Slc.mk tsA ts.length tsC))).toArray)), (1, (Value.agg (SledV.cells s).toArray)), (2, (Value.int .i64 i))] [(rd tsA ts.length 9 (ts.map StretchV.cells)).ro]
 refine WS fun _ hK1 => ?_
 refine BXA rfl fun b2 => ?_
 refine BXA rfl fun b3 => ?_
 refine AL rfl tz26 fun b4 => ?_
 refine rS (AG rfl) ?_
 refine RK hK1 ?_
 refine WS fun _ hK5 => ?_
 refine rS (LW 2 rfl tk24 rfl rfl) ?_
 refine rS (LW 1 rfl tk28 rfl rfl) ?_
 refine rS (CL (open_bad ts tsA tsC s hlen hside htr) (ha_at 3 rfl rfl <| ha_nil) rfl) ?_
 refine rS (MV rfl) ?_
 refine rS (EX rfl) ?_
 refine rS (EX rfl) ?_
 refine rS (EX rfl) ?_
 refine AL rfl tz108 fun b6 => ?_
 refine AL rfl tz108 fun b7 => ?_
 refine SW1 rfl ts108 rfl ?_
 refine SW0 rfl ts108 rfl ?_
 refine rS (AG rfl) ?_
 refine RK hK5 ?_
 refine w_seq fun _ hK8 => ?_
 refine WS fun _ hK9 => ?_
 refine rS (MV rfl) ?_
 refine rS (BI rfl b_neq) ?_
 refine RK hK9 ?_
 refine w_if rfl (fun he => ?_) (fun he => ?_)
 rotate_left 1
 · replace he := XF he
   exact absurd he hb0
 replace he := XT he
 refine WS fun _ hK10 => ?_
 refine rS (SX (sd_build (xs := []) (cs := (SpanV.cells (SpanV.mk 0 0))) rfl rfl (built_of tb26 rfl)) rfl rfl) ?_
 refine rS (MV rfl) ?_
 refine SW2 rfl ts26 rfl ?_
 refine rS (AG rfl) ?_
 refine RK hK10 ?_
 refine w_ret ?_
 refine hQ _ _ _ (l_nil (vs := [(Value.agg (SpanV.cells (SpanV.mk 0 0)).toArray), (Value.int .i64 (bothE s ts))]) ⟨⟨_, rfl, .inl ⟨_, _, tk26, at_blk (vs := (SpanV.cells (SpanV.mk 0 0))) 2 rfl rfl, rfl, rfl⟩⟩, rfl, trivial⟩ fun w hs => endV ?_ hs)
 show (Value.tuple [(Value.agg (SpanV.cells (SpanV.mk 0 0)).toArray), (Value.int .i64 (bothE s ts))].toArray) = (Value.tuple [(Value.agg (SpanV.cells (heightV s ts i)).toArray), (Value.int .i64 (heightE s ts i))].toArray)
 clear hs w hQ hN hK10 hK9 hK8 hK5 hK1
 rw [(height_no (i := i) hb0).1, (height_no (i := i) hb0).2]

set_option maxRecDepth 100000 in
set_option maxHeartbeats 400000 in
theorem height_sled (ts : List StretchV) (tsA : Option Addr) (tsC : Nat) (s : SledV) (i : Int) (hlen : ts.length ≤ 1000000) (hside : ∀ x ∈ ts, 0 ≤ x.Side ∧ x.Side ≤ 255) (htr : trackOk ts = true) (hns : ¬ SledOk s) :
    FnV Try.prog 22 [(Value.agg (TrackV.cells (TrackV.mk (Slc.mk tsA ts.length tsC))).toArray), (Value.agg (SledV.cells s).toArray), (Value.int .i64 i)] [(rd tsA ts.length 9 (ts.map StretchV.cells))] (Value.tuple [(Value.agg (SpanV.cells (heightV s ts i)).toArray), (Value.int .i64 (heightE s ts i))].toArray) := by
 have hb0 : ¬ bothE s ts = 0 := by rw [bothE_sled htr hns]; decide
 refine fnV_of go22 Try.func22 rfl rfl fun w0 Q hQ hN => ?_
 change WJ _ _ _ _ [(0, (Value.agg (TrackV.cells (TrackV.mk (Slc.mk tsA ts.length tsC))).toArray)), (1, (Value.agg (SledV.cells s).toArray)), (2, (Value.int .i64 i))] [(rd tsA ts.length 9 (ts.map StretchV.cells)).ro]
 refine WS fun _ hK1 => ?_
 refine BXA rfl fun b2 => ?_
 refine BXA rfl fun b3 => ?_
 refine AL rfl tz26 fun b4 => ?_
 refine rS (AG rfl) ?_
 refine RK hK1 ?_
 refine WS fun _ hK5 => ?_
 refine rS (LW 2 rfl tk24 rfl rfl) ?_
 refine rS (LW 1 rfl tk28 rfl rfl) ?_
 refine rS (CL (open_ok ts tsA tsC s hlen hside htr) (ha_at 3 rfl rfl <| ha_nil) rfl) ?_
 refine rS (MV rfl) ?_
 refine rS (EX rfl) ?_
 refine rS (EX rfl) ?_
 refine rS (EX rfl) ?_
 refine AL rfl tz108 fun b6 => ?_
 refine AL rfl tz108 fun b7 => ?_
 refine SW1 rfl ts108 rfl ?_
 refine SW0 rfl ts108 rfl ?_
 refine rS (AG rfl) ?_
 refine RK hK5 ?_
 refine w_seq fun _ hK8 => ?_
 refine WS fun _ hK9 => ?_
 refine rS (MV rfl) ?_
 refine rS (BI rfl b_neq) ?_
 refine RK hK9 ?_
 refine w_if rfl (fun he => ?_) (fun he => ?_)
 rotate_left 1
 · replace he := XF he
   exact absurd he hb0
 replace he := XT he
 refine WS fun _ hK10 => ?_
 refine rS (SX (sd_build (xs := []) (cs := (SpanV.cells (SpanV.mk 0 0))) rfl rfl (built_of tb26 rfl)) rfl rfl) ?_
 refine rS (MV rfl) ?_
 refine SW2 rfl ts26 rfl ?_
 refine rS (AG rfl) ?_
 refine RK hK10 ?_
 refine w_ret ?_
 refine hQ _ _ _ (l_nil (vs := [(Value.agg (SpanV.cells (SpanV.mk 0 0)).toArray), (Value.int .i64 (bothE s ts))]) ⟨⟨_, rfl, .inl ⟨_, _, tk26, at_blk (vs := (SpanV.cells (SpanV.mk 0 0))) 2 rfl rfl, rfl, rfl⟩⟩, rfl, trivial⟩ fun w hs => endV ?_ hs)
 show (Value.tuple [(Value.agg (SpanV.cells (SpanV.mk 0 0)).toArray), (Value.int .i64 (bothE s ts))].toArray) = (Value.tuple [(Value.agg (SpanV.cells (heightV s ts i)).toArray), (Value.int .i64 (heightE s ts i))].toArray)
 clear hs w hQ hN hK10 hK9 hK8 hK5 hK1
 rw [(height_no (i := i) hb0).1, (height_no (i := i) hb0).2]

set_option maxRecDepth 100000 in
set_option maxHeartbeats 400000 in
theorem height_ok (ts : List StretchV) (tsA : Option Addr) (tsC : Nat) (s : SledV) (i : Int) (hlen : ts.length ≤ 1000000) (hside : ∀ x ∈ ts, 0 ≤ x.Side ∧ x.Side ≤ 255) (htr : trackOk ts = true) (hs : SledOk s) :
    FnV Try.prog 22 [(Value.agg (TrackV.cells (TrackV.mk (Slc.mk tsA ts.length tsC))).toArray), (Value.agg (SledV.cells s).toArray), (Value.int .i64 i)] [(rd tsA ts.length 9 (ts.map StretchV.cells))] (Value.tuple [(Value.agg (SpanV.cells (heightV s ts i)).toArray), (Value.int .i64 (heightE s ts i))].toArray) := by
 have hb0 := bothE_ok htr hs
 have hst := trackOk_all htr
 have hl12 := trackOk_le htr
 have hl1 := trackOk_pos htr
 refine fnV_of go22 Try.func22 rfl rfl fun w0 Q hQ hN => ?_
 change WJ _ _ _ _ [(0, (Value.agg (TrackV.cells (TrackV.mk (Slc.mk tsA ts.length tsC))).toArray)), (1, (Value.agg (SledV.cells s).toArray)), (2, (Value.int .i64 i))] [(rd tsA ts.length 9 (ts.map StretchV.cells)).ro]
 refine WS fun _ hK1 => ?_
 refine BXA rfl fun b2 => ?_
 refine BXA rfl fun b3 => ?_
 refine AL rfl tz26 fun b4 => ?_
 refine rS (AG rfl) ?_
 refine RK hK1 ?_
 refine WS fun _ hK5 => ?_
 refine rS (LW 2 rfl tk24 rfl rfl) ?_
 refine rS (LW 1 rfl tk28 rfl rfl) ?_
 refine rS (CL (open_ok ts tsA tsC s hlen hside htr) (ha_at 3 rfl rfl <| ha_nil) rfl) ?_
 refine rS (MV rfl) ?_
 refine rS (EX rfl) ?_
 refine rS (EX rfl) ?_
 refine rS (EX rfl) ?_
 refine AL rfl tz108 fun b6 => ?_
 refine AL rfl tz108 fun b7 => ?_
 refine SW1 rfl ts108 rfl ?_
 refine SW0 rfl ts108 rfl ?_
 refine rS (AG rfl) ?_
 refine RK hK5 ?_
 refine w_seq fun _ hK8 => ?_
 refine WS fun _ hK9 => ?_
 refine rS (MV rfl) ?_
 refine rS (BI rfl b_neq) ?_
 refine RK hK9 ?_
 refine w_if rfl (fun he => ?_) (fun he => ?_)
 · replace he := XT he
   exact absurd hb0 he
 replace he := XF he
 refine WK hK8 ?_
 refine WS fun _ hK10 => ?_
 refine rS (LW 1 rfl tk108 rfl rfl) ?_
 refine cX (heights_c s ts tsA tsC false hs (by first | assumption | omega | (simp; done) | (simp; omega)) (by first | assumption | omega | (simp; done) | (simp; omega)) hside) (ha_at 5 rfl rfl <| ha_nil) rfl fun b13 hy12 => ?_
 change RJ _ _ _ _ _ ((_, (Value.map (some b13))) :: _) ((mp b13 (mapV iV (hgts false s ts ts.length))) :: _)
 refine rS (MV rfl) ?_
 refine rS (SX (sd_look_v (l := (hgts false s ts ts.length)) (f := iV) (z := 0) rfl rfl rfl ut120 ut3 tv3 (by exact has_at 0 rfl)) rfl rfl) ?_
 refine rS (MV rfl) ?_
 refine rS (EX rfl) ?_
 refine rS (EX rfl) ?_
 refine rS (AG rfl) ?_
 refine rS (AG rfl) ?_
 refine RK hK10 ?_
 refine w_seq fun _ hK14 => ?_
 refine WS fun _ hK15 => ?_
 refine rS (MV rfl) ?_
 refine rS (NT rfl) ?_
 refine RK hK15 ?_
 refine w_if rfl (fun hd => ?_) (fun hd => ?_)
 · rw [Bool.not_eq_true'] at hd
   refine WS fun _ hK16 => ?_
   refine rS (SX (sd_build (xs := []) (cs := (SpanV.cells (SpanV.mk 0 0))) rfl rfl (built_of tb26 rfl)) rfl rfl) ?_
   refine SW3 rfl ts26 rfl ?_
   refine rS (AG rfl) ?_
   refine RK hK16 ?_
   refine w_ret ?_
   refine hQ _ _ _ (l_nil (vs := [(Value.agg (SpanV.cells (SpanV.mk 0 0)).toArray), (Value.int .i64 2)]) ⟨⟨_, rfl, .inl ⟨_, _, tk26, at_blk (vs := (SpanV.cells (SpanV.mk 0 0))) 3 rfl rfl, rfl, rfl⟩⟩, rfl, trivial⟩ fun w hs => endV ?_ hs)
   show (Value.tuple [(Value.agg (SpanV.cells (SpanV.mk 0 0)).toArray), (Value.int .i64 2)].toArray) = (Value.tuple [(Value.agg (SpanV.cells (heightV s ts i)).toArray), (Value.int .i64 (heightE s ts i))].toArray)
   clear hs w hQ hN hK16 hK15 hK14 hK10 hK9 hK8 hK5 hK1
   rw [hgts_is] at hd
   first | rw [(height_out (i := i) hb0 hd).1, (height_out (i := i) hb0 hd).2] | rw [(height_in (i := i) hb0 hd).1, (height_in (i := i) hb0 hd).2, hgts_get hd, hgts_get hd]
 rw [Bool.not_eq_false'] at hd
 refine WK hK14 ?_
 refine WS fun _ hK17 => ?_
 refine rS (MV rfl) ?_
 refine rS (LW 1 rfl tk108 rfl rfl) ?_
 refine cX (heights_c s ts tsA tsC true hs (by first | assumption | omega | (simp; done) | (simp; omega)) (by first | assumption | omega | (simp; done) | (simp; omega)) hside) (ha_at 6 rfl rfl <| ha_nil) rfl fun b20 hy19 => ?_
 change RJ _ _ _ _ _ ((_, (Value.map (some b20))) :: _) ((mp b20 (mapV iV (hgts true s ts ts.length))) :: _)
 refine rS (MV rfl) ?_
 refine rS (SX (sd_look1_v (l := (hgts true s ts ts.length)) (f := iV) (z := 0) rfl rfl rfl ut120 ut3 tv3 (by exact has_at 0 rfl)) rfl rfl) ?_
 refine rS (SX (sd_build (xs := [(0, .tmp 34), (1, .tmp 38)]) (cs := (SpanV.cells (SpanV.mk ((List.lookup i (hgts false s ts ts.length)).getD 0) ((List.lookup i (hgts true s ts ts.length)).getD 0)))) rfl rfl (built_of tb26 rfl)) rfl rfl) ?_
 refine SW4 rfl ts26 rfl ?_
 refine rS (AG rfl) ?_
 refine RK hK17 ?_
 refine w_ret ?_
 refine hQ _ _ _ (l_nil (vs := [(Value.agg (SpanV.cells (SpanV.mk ((List.lookup i (hgts false s ts ts.length)).getD 0) ((List.lookup i (hgts true s ts ts.length)).getD 0))).toArray), (Value.int .i64 0)]) ⟨⟨_, rfl, .inl ⟨_, _, tk26, at_blk (vs := (SpanV.cells (SpanV.mk ((List.lookup i (hgts false s ts ts.length)).getD 0) ((List.lookup i (hgts true s ts ts.length)).getD 0)))) 4 rfl rfl, rfl, rfl⟩⟩, rfl, trivial⟩ fun w hs => endV ?_ hs)
 show (Value.tuple [(Value.agg (SpanV.cells (SpanV.mk ((List.lookup i (hgts false s ts ts.length)).getD 0) ((List.lookup i (hgts true s ts ts.length)).getD 0))).toArray), (Value.int .i64 0)].toArray) = (Value.tuple [(Value.agg (SpanV.cells (heightV s ts i)).toArray), (Value.int .i64 (heightE s ts i))].toArray)
 clear hs w hQ hN hK17 hK15 hK14 hK10 hK9 hK8 hK5 hK1
 rw [hgts_is] at hd
 first | rw [(height_out (i := i) hb0 hd).1, (height_out (i := i) hb0 hd).2] | rw [(height_in (i := i) hb0 hd).1, (height_in (i := i) hb0 hd).2, hgts_get hd, hgts_get hd]

theorem height_no_ (ts : List StretchV) (tsA : Option Addr) (tsC : Nat) (s : SledV) (i : Int) (hlen : ts.length ≤ 1000000) (hside : ∀ x ∈ ts, 0 ≤ x.Side ∧ x.Side ≤ 255) (hb : ¬ bothE s ts = 0) :
    FnV Try.prog 22 [(Value.agg (TrackV.cells (TrackV.mk (Slc.mk tsA ts.length tsC))).toArray), (Value.agg (SledV.cells s).toArray), (Value.int .i64 i)] [(rd tsA ts.length 9 (ts.map StretchV.cells))] (Value.tuple [(Value.agg (SpanV.cells (heightV s ts i)).toArray), (Value.int .i64 (heightE s ts i))].toArray) := by
  by_cases htr : trackOk ts = true
  · by_cases hs : SledOk s
    · exact absurd (bothE_ok htr hs) hb
    · exact height_sled ts tsA tsC s i hlen hside htr hs
  · exact height_bad ts tsA tsC s i hlen hside (by simpa using htr)

theorem height_c (ts : List StretchV) (tsA : Option Addr) (tsC : Nat) (s : SledV) (i : Int) (hlen : ts.length ≤ 1000000) (hside : ∀ x ∈ ts, 0 ≤ x.Side ∧ x.Side ≤ 255) :
    FnV Try.prog 22 [(Value.agg (TrackV.cells (TrackV.mk (Slc.mk tsA ts.length tsC))).toArray), (Value.agg (SledV.cells s).toArray), (Value.int .i64 i)] [(rd tsA ts.length 9 (ts.map StretchV.cells))] (Value.tuple [(Value.agg (SpanV.cells (heightV s ts i)).toArray), (Value.int .i64 (heightE s ts i))].toArray) := by
  by_cases hb : bothE s ts = 0
  · obtain ⟨h1, h2⟩ := bothE_zero hb
    exact height_ok ts tsA tsC s i hlen hside h1 h2
  · exact height_no_ ts tsA tsC s i hlen hside hb

set_option maxRecDepth 100000 in
set_option maxHeartbeats 400000 in
theorem curve_c (ts : List StretchV) (tsA : Option Addr) (tsC : Nat) (i : Int) (hlen : ts.length ≤ 1000000) (hside : ∀ x ∈ ts, 0 ≤ x.Side ∧ x.Side ≤ 255) :
    FnV Try.prog 71 [(Value.agg (TrackV.cells (TrackV.mk (Slc.mk tsA ts.length tsC))).toArray), (Value.int .i64 i)] [(rd tsA ts.length 9 (ts.map StretchV.cells))] (Value.bool (curveB ts i)) := by
 refine fnV_of go71 Try.func71 rfl rfl fun w0 Q hQ hN => ?_
 change WJ _ _ _ _ [(0, (Value.agg (TrackV.cells (TrackV.mk (Slc.mk tsA ts.length tsC))).toArray)), (1, (Value.int .i64 i))] [(rd tsA ts.length 9 (ts.map StretchV.cells)).ro]
 refine WS fun _ hK1 => ?_
 refine BXA rfl fun b2 => ?_
 refine rS (AG rfl) ?_
 refine RK hK1 ?_
 refine WS fun _ hK3 => ?_
 refine rS (MV rfl) ?_
 refine rS (FA 0 rfl fo24_0 rfl) ?_
 refine rS (L1 (Value.slice tsA ts.length tsC) 0 rfl tk22 rfl rfl) ?_
 refine rS (LN rfl ut22) ?_
 refine rS (BI rfl (b_sub ⟨by omega, by omega⟩)) ?_
 refine rS (CL (within3_c i 0 (((ts.length : Nat) : Int) - 1)) (ha_nil) rfl) ?_
 refine rS (MV rfl) ?_
 refine r_bool (t := 11) rfl (fun h4 => ?_) (fun h4 => ?_)
 rotate_left 1
 · replace h4 := DF h4
   refine rS (OX rfl) ?_
   refine rS (OX rfl) ?_
   refine rS (OX rfl) ?_
   refine rS (OX rfl) ?_
   refine rS (OX rfl) ?_
   refine rS (OX rfl) ?_
   refine rS (OX rfl) ?_
   refine rS (PK rfl) ?_
   refine rS (AG rfl) ?_
   refine RK hK3 ?_
   refine w_ret ?_
   refine Q1 hQ rfl rfl rfl ?_
   first | exact congrArg Value.bool (curveB_out (by omega)).symm | exact congrArg Value.bool (curveB_at (by omega) hx).symm
 replace h4 := DT h4
 refine rS (FA 0 rfl fo24_0 rfl) ?_
 refine rS (L1 (Value.slice tsA ts.length tsC) 0 rfl tk22 rfl rfl) ?_
 refine rS (MV rfl) ?_
 obtain ⟨x, hx⟩ : ∃ y_, ts[(i).toNat]? = some y_ := ⟨ts[(i).toNat]'(by omega), List.getElem?_eq_getElem _⟩
 have hxm : (ts.map StretchV.cells)[(i).toNat]? = some (StretchV.cells x) := by rw [List.getElem?_map, hx]; rfl
 refine rS (IA ((i).toNat) rfl (has_at 1 rfl) te22 (by decide) (by omega) (by omega)) ?_
 refine rS (FAR ((((i).toNat) * 9) + 7) rfl (has_at 1 rfl) (Nat.mul_pos (by omega) (by decide)) fo77_4 rfl) ?_
 have hsd := hside x (List.mem_of_getElem? hx)
 refine rS (LE1 ((i).toNat) 7 (Value.int .u8 x.Side) rfl tk5 (has_at 1 rfl) hxm rfl (by decide) rfl) ?_
 refine rS (BI rfl b_neq) ?_
 refine rS (PK rfl) ?_
 refine rS (AG rfl) ?_
 refine RK hK3 ?_
 refine w_ret ?_
 refine Q1 hQ rfl rfl rfl ?_
 first | exact congrArg Value.bool (curveB_out (by omega)).symm | exact congrArg Value.bool (curveB_at (by omega) hx).symm

set_option maxRecDepth 100000 in
set_option maxHeartbeats 400000 in
theorem rheight_c (ts : List StretchV) (tsA : Option Addr) (tsC : Nat) (s : SledV) (i : Int) (hs : SledOk s) (hst : ∀ x ∈ ts, StretchOk x) (hlen : ts.length ≤ 12) (hcv : curveB ts i = true) :
    FnV Try.prog 72 [(Value.agg (TrackV.cells (TrackV.mk (Slc.mk tsA ts.length tsC))).toArray), (Value.agg (SledV.cells s).toArray), (Value.int .i64 i)] [(rd tsA ts.length 9 (ts.map StretchV.cells))] (Value.agg (SpanV.cells (SpanV.mk (hgt false s ts i.toNat) (hgt true s ts i.toNat))).toArray) := by
 obtain ⟨hi0, hi1, x, hx, hns⟩ := curveB_in hcv
 have hxo := hst x (List.mem_of_getElem? hx)
 have hr := radius_c hxo hns
 have hb0 := inAt_b (best := false) hs hst (i := i.toNat) (by omega)
 have hb1 := inAt_b (best := true) hs hst (i := i.toNat) (by omega)
 have q6 := hs.2.2.2.2.2
 simp only [SpanOk] at q6
 refine fnV_of go72 Try.func72 rfl rfl fun w0 Q hQ hN => ?_
 change WJ _ _ _ _ [(0, (Value.agg (TrackV.cells (TrackV.mk (Slc.mk tsA ts.length tsC))).toArray)), (1, (Value.agg (SledV.cells s).toArray)), (2, (Value.int .i64 i))] [(rd tsA ts.length 9 (ts.map StretchV.cells)).ro]
 refine WS fun _ hK1 => ?_
 refine BXA rfl fun b2 => ?_
 refine BXA rfl fun b3 => ?_
 refine AL rfl tz26 fun b4 => ?_
 refine RK hK1 ?_
 refine w_seq fun _ hK5 => ?_
 refine w_drawN mixed [0, 1, 2, 3, 4, 5, 6, 7, 8, 9] [10, 11, 12, 13] [false, false, false, false, false, false, false, false, false, false] [] [(blk b4 26 (SpanV.cells (SpanV.mk 0 0))), (blk b3 28 (SledV.cells s)), (blk b2 24 (TrackV.cells (TrackV.mk (Slc.mk tsA ts.length tsC)))), (rd tsA ts.length 9 (ts.map StretchV.cells)).ro] [] (by kernel_rfl) (fun w hs => St.sel [0, 1, 2, 3] rfl rfl hs) (fun w hs => St.sel [] rfl rfl hs) ?_
 refine eS rfl (LW 2 rfl tk24 rfl rfl) ?_
 refine eS rfl (LW 1 rfl tk28 rfl rfl) ?_
 refine eS rfl (MV rfl) ?_
 refine eS rfl (CL (inside_c ts tsA tsC s i hs hst hlen (by first | assumption | omega | (simp; done) | (simp; omega))) (ha_at 3 rfl rfl <| ha_nil) rfl) ?_
 refine eS rfl (FA 0 rfl fo24_0 rfl) ?_
 refine eS rfl (L1 (Value.slice tsA ts.length tsC) 2 rfl tk22 rfl rfl) ?_
 refine eS rfl (MV rfl) ?_
 obtain ⟨y, hy⟩ : ∃ y_, ts[(i).toNat]? = some y_ := ⟨ts[(i).toNat]'(by omega), List.getElem?_eq_getElem _⟩
 have hym : (ts.map StretchV.cells)[(i).toNat]? = some (StretchV.cells y) := by rw [List.getElem?_map, hy]; rfl
 refine eS rfl (IA ((i).toNat) rfl (has_at 3 rfl) te22 (by decide) (by omega) (by omega)) ?_
 refine eS rfl (FAR ((((i).toNat) * 9) + 5) rfl (has_at 3 rfl) (Nat.mul_pos (by omega) (by decide)) fo77_3 rfl) ?_
 obtain rfl : y = x := Option.some.inj (hy.symm.trans hx)
 refine eS rfl (LEN ((i).toNat) 5 (SpanV.cells y.Radius) rfl tk26 (has_at 3 rfl) hym rfl (by decide) rfl rfl) ?_
 refine d_fin rfl ?_
 refine n_step [10, 11] (by kernel_rfl) (n_cons ?_ <| n_cons ?_ <| n_nil)
 · refine n_op (rem' := [11, 12, 13]) rfl (by kernel_rfl) rfl fun T6 hT6 => ?_
   refine AL rfl tz26 fun b7 => ?_
   refine r_nil (hT6 _ _ (fun w hs => St.sel [1, 2, 3, 4] rfl rfl hs) ?_)
   refine n_step [11] (by kernel_rfl) (n_cons ?_ <| n_nil)
   refine n_op (rem' := [12, 13]) rfl (by kernel_rfl) rfl fun T8 hT8 => ?_
   refine AL rfl tz26 fun b9 => ?_
   refine r_nil (hT8 _ _ (fun w hs => St.sel [2, 3, 4, 5] rfl rfl hs) ?_)
   refine n_step [12] (by kernel_rfl) (n_cons ?_ <| n_nil)
   refine n_op (rem' := [13]) rfl (by kernel_rfl) rfl fun T10 hT10 => ?_
   refine SW1 rfl ts26 rfl ?_
   refine r_nil (hT10 _ _ (fun w hs => St.sel [2, 3, 4, 5] rfl rfl hs) ?_)
   refine n_step [13] (by kernel_rfl) (n_cons ?_ <| n_nil)
   refine n_op (rem' := []) rfl (by kernel_rfl) rfl fun T11 hT11 => ?_
   refine SW0 rfl ts26 rfl ?_
   refine r_nil (hT11 _ _ (fun w hs => St.sel [2, 3, 4, 5] rfl rfl hs) ?_)
   refine n_fin ?_
   refine KK hK5 ?_
   refine w_seq fun _ hK12 => ?_
   refine w_draw mixed 23 (by kernel_rfl) ?_
   refine dS (FA 0 rfl fo26_0 rfl) ?_
   refine dS (L1 (Value.int .i64 (inAt false s ts i.toNat)) 1 rfl tk3 rfl rfl) ?_
   refine dS (BI rfl (b_mul ⟨by omega, by omega⟩)) ?_
   refine dS (FA 1 rfl fo26_1 rfl) ?_
   refine dS (L1 (Value.int .i64 y.Radius.Hi) 0 rfl tk3 rfl rfl) ?_
   refine dS (BI rfl (b_mul ⟨by omega, by omega⟩)) ?_
   have m3 := divb (a := 1200 * inAt false s ts i.toNat) (b := 10 * y.Radius.Hi) (A := 480000000) (by omega) (by omega) (by omega)
   have m4 := divb (a := 1200 * inAt true s ts i.toNat) (b := 10 * y.Radius.Lo) (A := 480000000) (by omega) (by omega) (by omega)
   refine dS (BI rfl (b_quo (by omega) (by omega) (by omega))) ?_
   refine dS (FA 9 rfl fo28_5 rfl) ?_
   refine dS (FA 9 rfl fo26_0 rfl) ?_
   refine dS (L1 (Value.int .i64 s.Steer.Lo) 3 rfl tk3 rfl rfl) ?_
   refine dS (BI rfl (b_add ⟨by omega, by omega⟩)) ?_
   refine dS (FA 1 rfl fo26_1 rfl) ?_
   refine dS (L1 (Value.int .i64 (inAt true s ts i.toNat)) 1 rfl tk3 rfl rfl) ?_
   refine dS (BI rfl (b_mul ⟨by omega, by omega⟩)) ?_
   refine dS (FA 0 rfl fo26_0 rfl) ?_
   refine dS (L1 (Value.int .i64 y.Radius.Lo) 0 rfl tk3 rfl rfl) ?_
   refine dS (BI rfl (b_mul ⟨by omega, by omega⟩)) ?_
   refine dS (BI rfl (b_quo (by omega) (by omega) (by omega))) ?_
   refine dS (FA 9 rfl fo28_5 rfl) ?_
   refine dS (FA 10 rfl fo26_1 rfl) ?_
   refine dS (L1 (Value.int .i64 s.Steer.Hi) 3 rfl tk3 rfl rfl) ?_
   refine dS (BI rfl (b_add ⟨by omega, by omega⟩)) ?_
   refine dS (SX (sd_build (xs := [(0, .tmp 29), (1, .tmp 40)]) (cs := (SpanV.cells (SpanV.mk (((1200 * (inAt false s ts i.toNat)) / (10 * y.Radius.Hi)) + s.Steer.Lo) (((1200 * (inAt true s ts i.toNat)) / (10 * y.Radius.Lo)) + s.Steer.Hi)))) rfl rfl (built_of tb26 rfl)) rfl rfl) ?_
   refine d_end ?_
   refine SW2 rfl ts26 rfl ?_
   refine RK hK12 ?_
   refine w_ret ?_
   refine hQ _ _ _ (l_nil (vs := [(Value.agg (SpanV.cells (SpanV.mk (((1200 * (inAt false s ts i.toNat)) / (10 * y.Radius.Hi)) + s.Steer.Lo) (((1200 * (inAt true s ts i.toNat)) / (10 * y.Radius.Lo)) + s.Steer.Hi))).toArray)]) ⟨⟨_, rfl, .inl ⟨_, _, tk26, at_blk (vs := (SpanV.cells (SpanV.mk (((1200 * (inAt false s ts i.toNat)) / (10 * y.Radius.Hi)) + s.Steer.Lo) (((1200 * (inAt true s ts i.toNat)) / (10 * y.Radius.Lo)) + s.Steer.Hi)))) 2 rfl rfl, rfl, rfl⟩⟩, trivial⟩ fun w hs => endV ?_ hs)
   show (Value.agg (SpanV.cells (SpanV.mk (((1200 * (inAt false s ts i.toNat)) / (10 * y.Radius.Hi)) + s.Steer.Lo) (((1200 * (inAt true s ts i.toNat)) / (10 * y.Radius.Lo)) + s.Steer.Hi))).toArray) = (Value.agg (SpanV.cells (SpanV.mk (hgt false s ts i.toNat) (hgt true s ts i.toNat))).toArray)
   clear hs w hQ hN hK12 hT11 T11 hT10 T10 hT8 T8 hT6 T6 hK5 hK1
   rw [hgt_low hy (by omega), hgt_high hy (by omega)]
 refine n_op (rem' := [10, 12, 13]) rfl (by kernel_rfl) rfl fun T13 hT13 => ?_
 refine AL rfl tz26 fun b14 => ?_
 refine r_nil (hT13 _ _ (fun w hs => St.sel [1, 2, 3, 4] rfl rfl hs) ?_)
 refine n_step [10] (by kernel_rfl) (n_cons ?_ <| n_nil)
 refine n_op (rem' := [12, 13]) rfl (by kernel_rfl) rfl fun T15 hT15 => ?_
 refine AL rfl tz26 fun b16 => ?_
 refine r_nil (hT15 _ _ (fun w hs => St.sel [2, 3, 4, 5] rfl rfl hs) ?_)
 refine n_step [12] (by kernel_rfl) (n_cons ?_ <| n_nil)
 refine n_op (rem' := [13]) rfl (by kernel_rfl) rfl fun T17 hT17 => ?_
 refine SW0 rfl ts26 rfl ?_
 refine r_nil (hT17 _ _ (fun w hs => St.sel [2, 3, 4, 5] rfl rfl hs) ?_)
 refine n_step [13] (by kernel_rfl) (n_cons ?_ <| n_nil)
 refine n_op (rem' := []) rfl (by kernel_rfl) rfl fun T18 hT18 => ?_
 refine SW1 rfl ts26 rfl ?_
 refine r_nil (hT18 _ _ (fun w hs => St.sel [2, 3, 4, 5] rfl rfl hs) ?_)
 refine n_fin ?_
 refine KK hK5 ?_
 refine w_seq fun _ hK19 => ?_
 refine w_draw mixed 23 (by kernel_rfl) ?_
 refine dS (FA 0 rfl fo26_0 rfl) ?_
 refine dS (L1 (Value.int .i64 (inAt false s ts i.toNat)) 0 rfl tk3 rfl rfl) ?_
 refine dS (BI rfl (b_mul ⟨by omega, by omega⟩)) ?_
 refine dS (FA 1 rfl fo26_1 rfl) ?_
 refine dS (L1 (Value.int .i64 y.Radius.Hi) 1 rfl tk3 rfl rfl) ?_
 refine dS (BI rfl (b_mul ⟨by omega, by omega⟩)) ?_
 have m3 := divb (a := 1200 * inAt false s ts i.toNat) (b := 10 * y.Radius.Hi) (A := 480000000) (by omega) (by omega) (by omega)
 have m4 := divb (a := 1200 * inAt true s ts i.toNat) (b := 10 * y.Radius.Lo) (A := 480000000) (by omega) (by omega) (by omega)
 refine dS (BI rfl (b_quo (by omega) (by omega) (by omega))) ?_
 refine dS (FA 9 rfl fo28_5 rfl) ?_
 refine dS (FA 9 rfl fo26_0 rfl) ?_
 refine dS (L1 (Value.int .i64 s.Steer.Lo) 3 rfl tk3 rfl rfl) ?_
 refine dS (BI rfl (b_add ⟨by omega, by omega⟩)) ?_
 refine dS (FA 1 rfl fo26_1 rfl) ?_
 refine dS (L1 (Value.int .i64 (inAt true s ts i.toNat)) 0 rfl tk3 rfl rfl) ?_
 refine dS (BI rfl (b_mul ⟨by omega, by omega⟩)) ?_
 refine dS (FA 0 rfl fo26_0 rfl) ?_
 refine dS (L1 (Value.int .i64 y.Radius.Lo) 1 rfl tk3 rfl rfl) ?_
 refine dS (BI rfl (b_mul ⟨by omega, by omega⟩)) ?_
 refine dS (BI rfl (b_quo (by omega) (by omega) (by omega))) ?_
 refine dS (FA 9 rfl fo28_5 rfl) ?_
 refine dS (FA 10 rfl fo26_1 rfl) ?_
 refine dS (L1 (Value.int .i64 s.Steer.Hi) 3 rfl tk3 rfl rfl) ?_
 refine dS (BI rfl (b_add ⟨by omega, by omega⟩)) ?_
 refine dS (SX (sd_build (xs := [(0, .tmp 29), (1, .tmp 40)]) (cs := (SpanV.cells (SpanV.mk (((1200 * (inAt false s ts i.toNat)) / (10 * y.Radius.Hi)) + s.Steer.Lo) (((1200 * (inAt true s ts i.toNat)) / (10 * y.Radius.Lo)) + s.Steer.Hi)))) rfl rfl (built_of tb26 rfl)) rfl rfl) ?_
 refine d_end ?_
 refine SW2 rfl ts26 rfl ?_
 refine RK hK19 ?_
 refine w_ret ?_
 refine hQ _ _ _ (l_nil (vs := [(Value.agg (SpanV.cells (SpanV.mk (((1200 * (inAt false s ts i.toNat)) / (10 * y.Radius.Hi)) + s.Steer.Lo) (((1200 * (inAt true s ts i.toNat)) / (10 * y.Radius.Lo)) + s.Steer.Hi))).toArray)]) ⟨⟨_, rfl, .inl ⟨_, _, tk26, at_blk (vs := (SpanV.cells (SpanV.mk (((1200 * (inAt false s ts i.toNat)) / (10 * y.Radius.Hi)) + s.Steer.Lo) (((1200 * (inAt true s ts i.toNat)) / (10 * y.Radius.Lo)) + s.Steer.Hi)))) 2 rfl rfl, rfl, rfl⟩⟩, trivial⟩ fun w hs => endV ?_ hs)
 show (Value.agg (SpanV.cells (SpanV.mk (((1200 * (inAt false s ts i.toNat)) / (10 * y.Radius.Hi)) + s.Steer.Lo) (((1200 * (inAt true s ts i.toNat)) / (10 * y.Radius.Lo)) + s.Steer.Hi))).toArray) = (Value.agg (SpanV.cells (SpanV.mk (hgt false s ts i.toNat) (hgt true s ts i.toNat))).toArray)
 clear hs w hQ hN hK19 hT18 T18 hT17 T17 hT15 T15 hT13 T13 hK5 hK1
 rw [hgt_low hy (by omega), hgt_high hy (by omega)]

set_option maxRecDepth 100000 in
set_option maxHeartbeats 400000 in
theorem rHeight_c (ts : List StretchV) (tsA : Option Addr) (tsC : Nat) (s : SledV) (i : Int) (hlen : ts.length ≤ 1000000) (hside : ∀ x ∈ ts, 0 ≤ x.Side ∧ x.Side ≤ 255) (hc : 0 ≤ s.Class ∧ s.Class ≤ 255) :
    FnV Try.prog 23 [(Value.agg (TrackV.cells (TrackV.mk (Slc.mk tsA ts.length tsC))).toArray), (Value.agg (SledV.cells s).toArray), (Value.int .i64 i)] [(rd tsA ts.length 9 (ts.map StretchV.cells))] (Value.tuple [(Value.agg (SpanV.cells (heightV s ts i)).toArray), (Value.int .i64 (heightE s ts i))].toArray) := by
 refine fnV_of go23 Try.func23 rfl rfl fun w0 Q hQ hN => ?_
 change WJ _ _ _ _ [(0, (Value.agg (TrackV.cells (TrackV.mk (Slc.mk tsA ts.length tsC))).toArray)), (1, (Value.agg (SledV.cells s).toArray)), (2, (Value.int .i64 i))] [(rd tsA ts.length 9 (ts.map StretchV.cells)).ro]
 refine WS fun _ hK1 => ?_
 refine BXA rfl fun b2 => ?_
 refine BXA rfl fun b3 => ?_
 refine AL rfl tz26 fun b4 => ?_
 refine rS (AG rfl) ?_
 refine RK hK1 ?_
 refine w_seq fun _ hK5 => ?_
 refine WS fun _ hK6 => ?_
 refine rS (LW 2 rfl tk24 rfl rfl) ?_
 refine rS (LW 1 rfl tk28 rfl rfl) ?_
 refine rS (CL (both_c ts tsA tsC s hlen hc) (ha_at 3 rfl rfl <| ha_nil) rfl) ?_
 refine rS (AG rfl) ?_
 refine RK hK6 ?_
 refine WS fun _ hK7 => ?_
 refine rS (MV rfl) ?_
 refine rS (BI rfl b_neq) ?_
 refine RK hK7 ?_
 refine w_if rfl (fun he => ?_) (fun he => ?_)
 · replace he := XT he
   refine WS fun _ hK8 => ?_
   refine rS (SX (sd_build (xs := []) (cs := (SpanV.cells (SpanV.mk 0 0))) rfl rfl (built_of tb26 rfl)) rfl rfl) ?_
   refine rS (MV rfl) ?_
   refine SW0 rfl ts26 rfl ?_
   refine rS (AG rfl) ?_
   refine RK hK8 ?_
   refine w_ret ?_
   refine hQ _ _ _ (l_nil (vs := [(Value.agg (SpanV.cells (SpanV.mk 0 0)).toArray), (Value.int .i64 (bothE s ts))]) ⟨⟨_, rfl, .inl ⟨_, _, tk26, at_blk (vs := (SpanV.cells (SpanV.mk 0 0))) 0 rfl rfl, rfl, rfl⟩⟩, rfl, trivial⟩ fun w hs => endV ?_ hs)
   show (Value.tuple [(Value.agg (SpanV.cells (SpanV.mk 0 0)).toArray), (Value.int .i64 (bothE s ts))].toArray) = (Value.tuple [(Value.agg (SpanV.cells (heightV s ts i)).toArray), (Value.int .i64 (heightE s ts i))].toArray)
   clear hs w hQ hN hK8 hK7 hK6 hK5 hK1
   first | rw [(height_no (i := i) he).1, (height_no (i := i) he).2] | rw [(height_out (i := i) he hd).1, (height_out (i := i) he hd).2] | rw [(height_in (i := i) he hd).1, (height_in (i := i) he hd).2]
 replace he := XF he
 refine WK hK5 ?_
 refine w_seq fun _ hK9 => ?_
 refine WS fun _ hK10 => ?_
 obtain ⟨htr, hs⟩ := bothE_zero he
 have hst := trackOk_all htr
 have hl12 := trackOk_le htr
 refine rS (LW 2 rfl tk24 rfl rfl) ?_
 refine rS (MV rfl) ?_
 refine rS (CL (curve_c ts tsA tsC i hlen hside) (ha_at 3 rfl rfl <| ha_nil) rfl) ?_
 refine rS (NT rfl) ?_
 refine RK hK10 ?_
 refine w_if rfl (fun hd => ?_) (fun hd => ?_)
 · rw [Bool.not_eq_true'] at hd
   refine WS fun _ hK11 => ?_
   refine rS (SX (sd_build (xs := []) (cs := (SpanV.cells (SpanV.mk 0 0))) rfl rfl (built_of tb26 rfl)) rfl rfl) ?_
   refine SW0 rfl ts26 rfl ?_
   refine rS (AG rfl) ?_
   refine RK hK11 ?_
   refine w_ret ?_
   refine hQ _ _ _ (l_nil (vs := [(Value.agg (SpanV.cells (SpanV.mk 0 0)).toArray), (Value.int .i64 2)]) ⟨⟨_, rfl, .inl ⟨_, _, tk26, at_blk (vs := (SpanV.cells (SpanV.mk 0 0))) 0 rfl rfl, rfl, rfl⟩⟩, rfl, trivial⟩ fun w hs => endV ?_ hs)
   show (Value.tuple [(Value.agg (SpanV.cells (SpanV.mk 0 0)).toArray), (Value.int .i64 2)].toArray) = (Value.tuple [(Value.agg (SpanV.cells (heightV s ts i)).toArray), (Value.int .i64 (heightE s ts i))].toArray)
   clear hs w hQ hN hK11 hK10 hK9 hK7 hK6 hK5 hK1
   first | rw [(height_no (i := i) he).1, (height_no (i := i) he).2] | rw [(height_out (i := i) he hd).1, (height_out (i := i) he hd).2] | rw [(height_in (i := i) he hd).1, (height_in (i := i) he hd).2]
 rw [Bool.not_eq_false'] at hd
 refine WK hK9 ?_
 refine WS fun _ hK12 => ?_
 refine rS (LW 2 rfl tk24 rfl rfl) ?_
 refine rS (LW 1 rfl tk28 rfl rfl) ?_
 refine rS (MV rfl) ?_
 refine rS (CL (rheight_c ts tsA tsC s i (by first | assumption | omega | (simp; done) | (simp; omega)) (by first | assumption | omega | (simp; done) | (simp; omega)) (by first | assumption | omega | (simp; done) | (simp; omega)) (by first | assumption | omega | (simp; done) | (simp; omega))) (ha_at 3 rfl rfl <| ha_nil) rfl) ?_
 refine SW0 rfl ts26 rfl ?_
 refine rS (AG rfl) ?_
 refine RK hK12 ?_
 refine w_ret ?_
 refine hQ _ _ _ (l_nil (vs := [(Value.agg (SpanV.cells (SpanV.mk (hgt false s ts i.toNat) (hgt true s ts i.toNat))).toArray), (Value.int .i64 0)]) ⟨⟨_, rfl, .inl ⟨_, _, tk26, at_blk (vs := (SpanV.cells (SpanV.mk (hgt false s ts i.toNat) (hgt true s ts i.toNat)))) 0 rfl rfl, rfl, rfl⟩⟩, rfl, trivial⟩ fun w hs => endV ?_ hs)
 show (Value.tuple [(Value.agg (SpanV.cells (SpanV.mk (hgt false s ts i.toNat) (hgt true s ts i.toNat))).toArray), (Value.int .i64 0)].toArray) = (Value.tuple [(Value.agg (SpanV.cells (heightV s ts i)).toArray), (Value.int .i64 (heightE s ts i))].toArray)
 clear hs w hQ hN hK12 hK10 hK9 hK7 hK6 hK5 hK1
 first | rw [(height_no (i := i) he).1, (height_no (i := i) he).2] | rw [(height_out (i := i) he hd).1, (height_out (i := i) he hd).2] | rw [(height_in (i := i) he hd).1, (height_in (i := i) he hd).2]

end Go.Proofs.Ytpbgdeojcefnmaa
