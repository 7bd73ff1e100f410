/-
  Walks: (kreisel/slide.rider).bank, (kreisel/slide.rider).heights, kreisel/slide.Height, kreisel/slide.Height, kreisel/slide.Height, kreisel/slide.Height, kreisel/slide.Height, kreisel/kreiselref03.curve, kreisel/kreiselref03.height, kreisel/kreiselref03.Height, kreisel/kreiselref01.Twin, kreisel/kreisellaw03.SlideHeads, cmp.isNaN[int], cmp.Less[int], slices.insertionSortOrdered[int], math/bits.Len64, math/bits.Len, slices.pdqsortOrdered[int], slices.Sort[[]int,int]
-/
import Derived.Test.YtpbgdeojcefnmaaTab
import Derived.Test.YtpbgdeojcefnmaaShort
import Derived.Test.YtpbgdeojcefnmaaW4
import Derived.Test.YtpbgdeojcefnmaaW9
import Derived.Test.YtpbgdeojcefnmaaW12
namespace Go.Proofs.Ytpbgdeojcefnmaa
open Go.RowKit
set_option linter.unusedVariables false

set_option maxRecDepth 100000 in
set_option maxHeartbeats 400000 in
theorem bank_c (s : SledV) (ts : List StretchV) (tsA : Option Addr) (tsC : Nat) (best : Bool) (i : Int) (h : Int) (x : StretchV) (hs : SledOk s) (hst : ∀ x ∈ ts, StretchOk x) (hlen : ts.length ≤ 12) (hi : 0 ≤ i ∧ i < ts.length) (hh : 0 ≤ h ∧ h ≤ 1100000) (hx : ts[i.toNat]? = some x) :
    FnV Try.prog 79 [(Value.agg (RiderV.cells (RiderV.mk s (TrackV.mk (Slc.mk tsA ts.length tsC)) best)).toArray), (Value.int .i64 i), (Value.int .i64 h)] [(rd tsA ts.length 9 (ts.map StretchV.cells))] (Value.int .i64 (bankF best s x h)) := by
 refine fnV_of go79 Try.func79 rfl rfl fun w0 Q hQ hN => ?_
 change WJ _ _ _ _ [(0, (Value.agg (RiderV.cells (RiderV.mk s (TrackV.mk (Slc.mk tsA ts.length tsC)) best)).toArray)), (1, (Value.int .i64 i)), (2, (Value.int .i64 h))] [(rd tsA ts.length 9 (ts.map StretchV.cells)).ro]
 refine WS fun _ hK1 => ?_
 refine BXA rfl fun b2 => ?_
 refine rS (AG rfl) ?_
 refine RK hK1 ?_
 refine w_seq fun _ hK3 => ?_
 refine w_draw mixed 11 (by kernel_rfl) ?_
 refine dS (LW 0 rfl tk108 rfl rfl) ?_
 refine dS (FA 11 rfl fo108_1 rfl) ?_
 refine dS (FA 11 rfl fo24_0 rfl) ?_
 refine dS (L1 (Value.slice tsA ts.length tsC) 0 rfl tk22 rfl rfl) ?_
 refine dS (MV rfl) ?_
 obtain ⟨y, hy⟩ : ∃ y_, ts[(i).toNat]? = some y_ := ⟨ts[(i).toNat]'(by omega), List.getElem?_eq_getElem _⟩
 have hym : (ts.map StretchV.cells)[(i).toNat]? = some (StretchV.cells y) := by rw [List.getElem?_map, hy]; rfl
 refine dS (IA ((i).toNat) rfl (has_at 1 rfl) te22 (by decide) (by omega) (by omega)) ?_
 refine dS (FAR ((((i).toNat) * 9) + 5) rfl (has_at 1 rfl) (Nat.mul_pos (by omega) (by decide)) fo77_3 rfl) ?_
 have hyo := hst y (List.mem_of_getElem? hy)
 have h5 := radius_b (best := best) (f := false) hyo
 have h6 := oneF_ok (best := best) (f := true) hs.2.2.2.2.2
 refine dS (LEN ((i).toNat) 5 (SpanV.cells y.Radius) rfl tk26 (has_at 1 rfl) hym rfl (by decide) rfl rfl) ?_
 refine dS (CL (one_c s best tsA ts.length tsC y.Radius false) (ha_nil) rfl) ?_
 refine dS (BI rfl (b_mul ⟨by omega, by omega⟩)) ?_
 refine dS (AG rfl) ?_
 refine d_end ?_
 refine RK hK3 ?_
 refine w_seq fun _ hK4 => ?_
 refine WS fun _ hK5 => ?_
 refine rS (MV rfl) ?_
 refine rS (BI rfl b_eql) ?_
 refine RK hK5 ?_
 refine w_if rfl (fun he => ?_) (fun he => ?_)
 · replace he := DT he
   refine WS fun _ hK6 => ?_
   refine rS (AG rfl) ?_
   refine RK hK6 ?_
   refine w_ret ?_
   refine Q1 hQ rfl rfl rfl ?_
   obtain rfl : y = x := Option.some.inj (hy.symm.trans hx)
   first | exact congrArg (Value.int .i64) (by rw [bankF, if_pos he]) | exact congrArg (Value.int .i64) (by rw [bankF, if_neg he])
 replace he := DF he
 refine WK hK4 ?_
 refine w_seq fun _ hK7 => ?_
 refine w_draw mixed 11 (by kernel_rfl) ?_
 refine dS (MV rfl) ?_
 refine dS (BI rfl (b_mul ⟨by omega, by omega⟩)) ?_
 refine dS (MV rfl) ?_
 have m3 := divb (a := 1200 * h) (b := 10 * oneF best false y.Radius) (A := 1320000000) (by omega) (by omega) (by omega)
 refine dS (BI rfl (b_quo (by omega) (by omega) (by omega))) ?_
 refine dS (LW 0 rfl tk108 rfl rfl) ?_
 refine dS (FA 0 rfl fo108_0 rfl) ?_
 refine dS (FA 9 rfl fo28_5 rfl) ?_
 refine dS (LP (SpanV.cells s.Steer) 0 rfl tk26 rfl rfl rfl) ?_
 refine dS (CL (one_c s best tsA ts.length tsC s.Steer true) (ha_nil) rfl) ?_
 refine dS (BI rfl (b_add ⟨by omega, by omega⟩)) ?_
 refine dS (AG rfl) ?_
 refine d_end ?_
 refine RK hK7 ?_
 refine w_ret ?_
 refine Q1 hQ rfl rfl rfl ?_
 obtain rfl : y = x := Option.some.inj (hy.symm.trans hx)
 first | exact congrArg (Value.int .i64) (by rw [bankF, if_pos he]) | exact congrArg (Value.int .i64) (by rw [bankF, if_neg he])

set_option maxRecDepth 100000 in
set_option maxHeartbeats 400000 in
theorem heights_c (s : SledV) (ts : List StretchV) (tsA : Option Addr) (tsC : Nat) (best : Bool) (hs : SledOk s) (hst : ∀ x ∈ ts, StretchOk x) (hlen : ts.length ≤ 12) (hside : ∀ x ∈ ts, 0 ≤ x.Side ∧ x.Side ≤ 255) :
    FnX Try.prog 70 [(Value.agg (RiderV.cells (RiderV.mk s (TrackV.mk (Slc.mk tsA ts.length tsC)) best)).toArray)] [(rd tsA ts.length 9 (ts.map StretchV.cells))] (fun (x : Nat) => (Value.map (some x))) (fun (x : Nat) => True) (fun (x : Nat) => [(mp x (mapV iV (hgts best s ts ts.length)))]) := by
 refine fnX_of go70 Try.func70 rfl rfl fun w0 Q hQ hN => ?_
 change WJ _ _ _ _ [(0, (Value.agg (RiderV.cells (RiderV.mk s (TrackV.mk (Slc.mk tsA ts.length tsC)) best)).toArray))] [(rd tsA ts.length 9 (ts.map StretchV.cells)).ro]
 refine WS fun _ hK1 => ?_
 refine BXA rfl fun b2 => ?_
 refine rS (AG rfl) ?_
 refine RK hK1 ?_
 refine WS fun _ hK3 => ?_
 refine rS (LW 0 rfl tk108 rfl rfl) ?_
 refine cX (list_c s ts tsA tsC best hs hst hlen) (ha_at 1 rfl rfl <| ha_nil) rfl fun y4 hy5 => ?_
 obtain ⟨a6, c7⟩ := y4
 change RJ _ _ _ _ _ ((_, (Value.slice a6 ((headsL best s ts).length) c7)) :: _) ((own a6 c7 3 1 ((headsL best s ts).map iC)) :: _)
 refine rS (AG rfl) ?_
 refine RK hK3 ?_
 refine WS fun _ hK8 => ?_
 refine r_mkmap rfl rfl fun b9 => ?_
 refine rS (AG rfl) ?_
 refine RK hK8 ?_
 refine w_seq fun _ hK10 => ?_
 refine WS fun _ hK11 => ?_
 refine rS (FA 11 rfl fo108_1 rfl) ?_
 refine rS (FA 11 rfl fo24_0 rfl) ?_
 refine rS (L1 (Value.slice tsA ts.length tsC) 2 rfl tk22 rfl rfl) ?_
 refine rS (LN rfl ut22) ?_
 refine rS (MV rfl) ?_
 refine RK hK11 ?_
 refine w_block ?_
 have hinit : (0 ≤ ts.length) := by omega
 refine w_loop (ι := { z : Nat // (z ≤ ts.length) }) (fun z => [(1, (Value.pointer (some ⟨b2, 0, none⟩))), (3, (Value.slice a6 ((headsL best s ts).length) c7)), (4, (Value.map (some b9))), (14, (Value.int .i64 ((ts.length : Nat) : Int))), (15, (Value.int .i64 (z.1 : Int)))]) (fun z => [(mp b9 (mapV iV ((hall best s ts).take z.1))), (own a6 c7 3 1 ((headsL best s ts).map iC)), (blk b2 108 (RiderV.cells (RiderV.mk s (TrackV.mk (Slc.mk tsA ts.length tsC)) best))), (rd tsA ts.length 9 (ts.map StretchV.cells)).ro]) (fun z => ts.length - z.1) ⟨0, hinit⟩ (Sub.cons rfl <| Sub.cons rfl <| Sub.cons rfl <| Sub.cons rfl <| Sub.cons rfl <| Sub.nil _) (fun w hs => St.sel [0, 1, 2, 3] rfl rfl hs) ?_
 clear hinit
 rintro ⟨i, hl4_0⟩ J12 hJ12
 change WJ _ _ _ _ [(1, (Value.pointer (some ⟨b2, 0, none⟩))), (3, (Value.slice a6 ((headsL best s ts).length) c7)), (4, (Value.map (some b9))), (14, (Value.int .i64 ((ts.length : Nat) : Int))), (15, (Value.int .i64 (i : Int)))] [(mp b9 (mapV iV ((hall best s ts).take i))), (own a6 c7 3 1 ((headsL best s ts).map iC)), (blk b2 108 (RiderV.cells (RiderV.mk s (TrackV.mk (Slc.mk tsA ts.length tsC)) best))), (rd tsA ts.length 9 (ts.map StretchV.cells)).ro]
 refine WS fun _ hK13 => ?_
 refine rS (BI rfl b_lss) ?_
 refine RK hK13 ?_
 refine w_seq fun _ hK14 => ?_
 refine w_if rfl (fun h15 => ?_) (fun h15 => ?_)
 · replace h15 := DT h15
   refine WK hK14 ?_
   refine w_seq fun _ hK16 => ?_
   refine w_block ?_
   refine WS fun _ hK17 => ?_
   refine rS (MV rfl) ?_
   refine rS (AG rfl) ?_
   refine RK hK17 ?_
   refine w_draw mixed 15 (by kernel_rfl) ?_
   have hml := headsL_length (best := best) (s := s) (ts := ts)
   obtain ⟨x, hx⟩ : ∃ y, ts[i]? = some y := ⟨ts[i]'(by omega), List.getElem?_eq_getElem (by omega)⟩
   have hib := inAt_b (best := best) hs hst (i := i) (by omega)
   refine dS (MV rfl) ?_
   refine dS (MV rfl) ?_
   refine dS (LW 2 rfl tk108 rfl rfl) ?_
   refine dS (MV rfl) ?_
   refine dS (MV rfl) ?_
   refine dS (MV rfl) ?_
   obtain ⟨m, hm⟩ : ∃ y_, (headsL best s ts)[i]? = some y_ := ⟨(headsL best s ts)[i]'(by omega), List.getElem?_eq_getElem _⟩
   have hmm : ((headsL best s ts).map iC)[i]? = some (iC m) := by rw [List.getElem?_map, hm]; rfl
   refine dS (IA i rfl (has_own_n (n := (headsL best s ts).length) 1 rfl (by simp)) te61 (by decide) (by omega) (by omega)) ?_
   refine dS (LE1 i 0 (Value.int .i64 m) rfl tk3 (has_own_n (n := (headsL best s ts).length) 1 rfl (by simp)) hmm rfl (by decide) rfl) ?_
   refine dS (MV rfl) ?_
   refine dS (MV rfl) ?_
   refine dS (BI rfl (b_add ⟨by omega, by omega⟩)) ?_
   obtain ⟨n, hn⟩ : ∃ y_, (headsL best s ts)[(i + 1)]? = some y_ := ⟨(headsL best s ts)[(i + 1)]'(by omega), List.getElem?_eq_getElem _⟩
   have hnm : ((headsL best s ts).map iC)[(i + 1)]? = some (iC n) := by rw [List.getElem?_map, hn]; rfl
   refine dS (IA (i + 1) rfl (has_own_n (n := (headsL best s ts).length) 1 rfl (by simp)) te61 (by decide) (by omega) (by omega)) ?_
   refine dS (LE1 (i + 1) 0 (Value.int .i64 n) rfl tk3 (has_own_n (n := (headsL best s ts).length) 1 rfl (by simp)) hnm rfl (by decide) rfl) ?_
   refine dS (MX rfl) ?_
   have mv : m = headAt best s ts i := by rw [headsL_get (by omega)] at hm; exact (Option.some.inj hm).symm
   have nv : n = headAt best s ts (i + 1) := by rw [headsL_get (by omega)] at hn; exact (Option.some.inj hn).symm
   have hmx := inAt_nat mv nv
   rw [hmx]
   refine dS (CL (bank_c s ts tsA tsC best (i : Int) (inAt best s ts i) x hs hst hlen (by first | assumption | omega | (simp; done) | (simp; omega)) (by first | assumption | omega | (simp; done) | (simp; omega)) (by simpa using hx)) (ha_at 3 rfl rfl <| ha_nil) rfl) ?_
   refine d_end ?_
   have hb18 : (setK ((hall best s ts).take i) (i : Int) (bankF best s x (inAt best s ts i))) = ((hall best s ts).take (i + 1)) := by rw [← hgt_at (best := best) (s := s) hx]; exact hall_step (by omega)
   refine r_mapset (C' := [(mp b9 (mapV iV ((hall best s ts).take (i + 1)))), _, _, _]) 0 rfl rfl rfl rfl ut120 ut3 rfl ((mapV_setK _ _ _ _).symm.trans (congrArg _ hb18)) rfl ?_
   refine r_nil ?_
   refine k_block ?_
   refine KK hK16 ?_
   refine w_region ?_
   refine rS (BI rfl (b_add ⟨by omega, by omega⟩)) ?_
   refine rS (MV rfl) ?_
   refine r_nil ?_
   refine k_then (hJ12 ⟨(i + 1), (by first | omega | (simp only []; omega))⟩ _ _ _ rfl (by first | omega | (simp; omega)) (Sub.cons rfl <| Sub.cons rfl <| Sub.cons rfl <| Sub.cons rfl <| Sub.cons rfl <| Sub.nil _) (fun w hs => St.sel [0, 1, 2, 3] rfl rfl hs))
 replace h15 := DF h15
 refine w_exit ?_
 refine k_exit_then ?_
 refine k_exit_then ?_
 refine k_exit_same ?_
 refine KK hK10 ?_
 refine w_seq fun _ hK19 => ?_
 refine WS fun _ hK20 => ?_
 refine rS (FA 11 rfl fo108_1 rfl) ?_
 refine rS (FA 11 rfl fo24_0 rfl) ?_
 refine rS (L1 (Value.slice tsA ts.length tsC) 2 rfl tk22 rfl rfl) ?_
 refine rS (LN rfl ut22) ?_
 refine rS (MV rfl) ?_
 refine RK hK20 ?_
 refine w_block ?_
 rw [hall_end (by omega)]
 have hinit : (0 ≤ ts.length) := by omega
 refine w_loop (ι := { z : Nat // (z ≤ ts.length) }) (fun z => [(1, (Value.pointer (some ⟨b2, 0, none⟩))), (4, (Value.map (some b9))), (36, (Value.slice tsA ts.length tsC)), (37, (Value.int .i64 ((ts.length : Nat) : Int))), (38, (Value.int .i64 (z.1 : Int)))]) (fun z => [(mp b9 (mapV iV (hgts best s ts z.1))), (own a6 c7 3 1 ((headsL best s ts).map iC)), (blk b2 108 (RiderV.cells (RiderV.mk s (TrackV.mk (Slc.mk tsA ts.length tsC)) best))), (rd tsA ts.length 9 (ts.map StretchV.cells)).ro]) (fun z => ts.length - z.1) ⟨0, hinit⟩ (Sub.cons rfl <| Sub.cons rfl <| Sub.cons rfl <| Sub.cons rfl <| Sub.cons rfl <| Sub.nil _) (fun w hs => St.sel [0, 1, 2, 3] rfl rfl hs) ?_
 clear hinit
 rintro ⟨j, hl9_0⟩ J21 hJ21
 change WJ _ _ _ _ [(1, (Value.pointer (some ⟨b2, 0, none⟩))), (4, (Value.map (some b9))), (36, (Value.slice tsA ts.length tsC)), (37, (Value.int .i64 ((ts.length : Nat) : Int))), (38, (Value.int .i64 (j : Int)))] [(mp b9 (mapV iV (hgts best s ts j))), (own a6 c7 3 1 ((headsL best s ts).map iC)), (blk b2 108 (RiderV.cells (RiderV.mk s (TrackV.mk (Slc.mk tsA ts.length tsC)) best))), (rd tsA ts.length 9 (ts.map StretchV.cells)).ro]
 refine WS fun _ hK22 => ?_
 refine rS (BI rfl b_lss) ?_
 refine RK hK22 ?_
 refine w_seq fun _ hK23 => ?_
 refine w_if rfl (fun h24 => ?_) (fun h24 => ?_)
 rotate_left 1
 · replace h24 := DF h24
   refine w_exit ?_
   refine k_exit_then ?_
   refine k_exit_then ?_
   refine k_exit_same ?_
   refine KK hK19 ?_
   refine WS fun _ hK30 => ?_
   obtain rfl : j = ts.length := by omega
   refine rS (MV rfl) ?_
   refine rS (AG rfl) ?_
   refine RK hK30 ?_
   refine w_ret ?_
   refine hQ _ _ _ (l_nil (vs := [(Value.map (some b9))]) ⟨rfl, trivial⟩ fun w hs => endX b9 [0] ?_ ?_ rfl rfl rfl hs)
   · rfl
   · trivial
 replace h24 := DT h24
 refine WK hK23 ?_
 refine w_seq fun _ hK25 => ?_
 refine w_block ?_
 refine WS fun _ hK26 => ?_
 refine rS (MV rfl) ?_
 obtain ⟨y, hy⟩ : ∃ y_, ts[j]? = some y_ := ⟨ts[j]'(by omega), List.getElem?_eq_getElem _⟩
 have hym : (ts.map StretchV.cells)[j]? = some (StretchV.cells y) := by rw [List.getElem?_map, hy]; rfl
 refine rS (IA j rfl (has_at 3 rfl) te22 (by decide) (by omega) (by omega)) ?_
 refine rS (LEN j 0 (StretchV.cells y) rfl tk77 (has_at 3 rfl) hym rfl (by decide) rfl rfl) ?_
 refine AL rfl tz77 fun b27 => ?_
 refine rS (AG rfl) ?_
 refine SW0 rfl ts77 rfl ?_
 refine RK hK26 ?_
 refine WS fun _ hK28 => ?_
 refine rS (FA 7 rfl fo77_4 rfl) ?_
 have hsd := hside y (List.mem_of_getElem? hy)
 refine rS (L1 (Value.int .u8 y.Side) 0 rfl tk5 rfl rfl) ?_
 refine rS (BI rfl b_eql) ?_
 refine RK hK28 ?_
 refine w_if rfl (fun hd => ?_) (fun hd => ?_)
 rotate_left 1
 · replace hd := DF hd
   refine w_skip ?_
   refine k_block ?_
   refine KK hK25 ?_
   refine w_region ?_
   first | rw [hgts_keep hy hd] | skip
   refine rS (BI rfl (b_add ⟨by omega, by omega⟩)) ?_
   refine rS (MV rfl) ?_
   refine r_nil ?_
   refine k_then (hJ21 ⟨(j + 1), (by first | omega | (simp only []; omega))⟩ _ _ _ rfl (by first | omega | (simp; omega)) (Sub.cons rfl <| Sub.cons rfl <| Sub.cons rfl <| Sub.cons rfl <| Sub.cons rfl <| Sub.nil _) (fun w hs => St.sel [1, 2, 3, 4] rfl rfl hs))
 replace hd := DT hd
 refine w_region ?_
 refine rS (MV rfl) ?_
 refine rS (MV rfl) ?_
 have hb29 : (delK (hgts best s ts j) (j : Int)) = (hgts best s ts (j + 1)) := by exact hgts_del hy hd
 refine r_mapdel0 (C' := [_, (mp b9 (mapV iV (hgts best s ts (j + 1)))), _, _, _]) 1 rfl rfl rfl rfl ut120 ut3 rfl ((mapV_delK _ _ _).symm.trans (congrArg _ hb29)) rfl ?_
 refine r_nil ?_
 refine k_block ?_
 refine KK hK25 ?_
 refine w_region ?_
 first | rw [hgts_keep hy hd] | skip
 refine rS (BI rfl (b_add ⟨by omega, by omega⟩)) ?_
 refine rS (MV rfl) ?_
 refine r_nil ?_
 refine k_then (hJ21 ⟨(j + 1), (by first | omega | (simp only []; omega))⟩ _ _ _ rfl (by first | omega | (simp; omega)) (Sub.cons rfl <| Sub.cons rfl <| Sub.cons rfl <| Sub.cons rfl <| Sub.cons rfl <| Sub.nil _) (fun w hs => St.sel [1, 2, 3, 4] rfl rfl hs))

set_option maxRecDepth 100000 in
set_option maxHeartbeats 400000 in
theorem height_bad (ts : List StretchV) (tsA : Option Addr) (tsC : Nat) (s : SledV) (i : Int) (hlen : ts.length ≤ 1000000) (hside : ∀ x ∈ ts, 0 ≤ x.Side ∧ x.Side ≤ 255) (htr : trackOk ts = false) :
    FnV Try.prog 22 [(Value.agg (TrackV.cells (TrackV.mk (Slc.mk tsA ts.length tsC))).toArray), (Value.agg (SledV.cells s).toArray), (Value.int .i64 i)] [(rd tsA ts.length 9 (ts.map StretchV.cells))] (Value.tuple [(Value.agg (SpanV.cells (heightV s ts i)).toArray), (Value.int .i64 (heightE s ts i))].toArray) := by
 have hb0 : ¬ bothE s ts = 0 := by rw [bothE_bad htr]; decide
 refine fnV_of go22 Try.func22 rfl rfl fun w0 Q hQ hN => ?_
 change WJ _ _ _ _ [(0, (Value.agg (TrackV.cells (TrackV.mk (Slc.mk tsA ts.length tsC))).toArray)), (1, (Value.agg (SledV.cells s).toArray)), (2, (Value.int .i64 i))] [(rd tsA ts.length 9 (ts.map StretchV.cells)).ro]
 refine WS fun _ hK1 => ?_
 refine BXA rfl fun b2 => ?_
 refine BXA rfl fun b3 => ?_
 refine AL rfl tz26 fun b4 => ?_
 refine rS (AG rfl) ?_
 refine RK hK1 ?_
 refine WS fun _ hK5 => ?_
 refine rS (LW 2 rfl tk24 rfl rfl) ?_
 refine rS (LW 1 rfl tk28 rfl rfl) ?_
 refine rS (CL (open_bad ts tsA tsC s hlen hside htr) (ha_at 3 rfl rfl <| ha_nil) rfl) ?_
 refine rS (MV rfl) ?_
 refine rS (EX rfl) ?_
 refine rS (EX rfl) ?_
 refine rS (EX rfl) ?_
 refine AL rfl tz108 fun b6 => ?_
 refine AL rfl tz108 fun b7 => ?_
 refine SW1 rfl ts108 rfl ?_
 refine SW0 rfl ts108 rfl ?_
 refine rS (AG rfl) ?_
 refine RK hK5 ?_
 refine w_seq fun _ hK8 => ?_
 refine WS fun _ hK9 => ?_
 refine rS (MV rfl) ?_
 refine rS (BI rfl b_neq) ?_
 refine RK hK9 ?_
 refine w_if rfl (fun he => ?_) (fun he => ?_)
 rotate_left 1
 · replace he := XF he
   exact absurd he hb0
 replace he := XT he
 refine WS fun _ hK10 => ?_
 refine rS (SX (sd_build (xs := []) (cs := (SpanV.cells (SpanV.mk 0 0))) rfl rfl (built_of tb26 rfl)) rfl rfl) ?_
 refine rS (MV rfl) ?_
 refine SW2 rfl ts26 rfl ?_
 refine rS (AG rfl) ?_
 refine RK hK10 ?_
 refine w_ret ?_
 refine hQ _ _ _ (l_nil (vs := [(Value.agg (SpanV.cells (SpanV.mk 0 0)).toArray), (Value.int .i64 (bothE s ts))]) ⟨⟨_, rfl, .inl ⟨_, _, tk26, at_blk (vs := (SpanV.cells (SpanV.mk 0 0))) 2 rfl rfl, rfl, rfl⟩⟩, rfl, trivial⟩ fun w hs => endV ?_ hs)
 show (Value.tuple [(Value.agg (SpanV.cells (SpanV.mk 0 0)).toArray), (Value.int .i64 (bothE s ts))].toArray) = (Value.tuple [(Value.agg (SpanV.cells (heightV s ts i)).toArray), (Value.int .i64 (heightE s ts i))].toArray)
 clear hs w hQ hN hK10 hK9 hK8 hK5 hK1
 rw [(height_no (i := i) hb0).1, (height_no (i := i) hb0).2]

set_option maxRecDepth 100000 in
set_option maxHeartbeats 400000 in
theorem height_sled (ts : List StretchV) (tsA : Option Addr) (tsC : Nat) (s : SledV) (i : Int) (hlen : ts.length ≤ 1000000) (hside : ∀ x ∈ ts, 0 ≤ x.Side ∧ x.Side ≤ 255) (htr : trackOk ts = true) (hns : ¬ SledOk s) :
    FnV Try.prog 22 [(Value.agg (TrackV.cells (TrackV.mk (Slc.mk tsA ts.length tsC))).toArray), (Value.agg (SledV.cells s).toArray), (Value.int .i64 i)] [(rd tsA ts.length 9 (ts.map StretchV.cells))] (Value.tuple [(Value.agg (SpanV.cells (heightV s ts i)).toArray), (Value.int .i64 (heightE s ts i))].toArray) := by
 have hb0 : ¬ bothE s ts = 0 := by rw [bothE_sled htr hns]; decide
 refine fnV_of go22 Try.func22 rfl rfl fun w0 Q hQ hN => ?_
 change WJ _ _ _ _ [(0, (Value.agg (TrackV.cells (TrackV.mk (Slc.mk tsA ts.length tsC))).toArray)), (1, (Value.agg (SledV.cells s).toArray)), (2, (Value.int .i64 i))] [(rd tsA ts.length 9 (ts.map StretchV.cells)).ro]
 refine WS fun _ hK1 => ?_
 refine BXA rfl fun b2 => ?_
 refine BXA rfl fun b3 => ?_
 refine AL rfl tz26 fun b4 => ?_
 refine rS (AG rfl) ?_
 refine RK hK1 ?_
 refine WS fun _ hK5 => ?_
 refine rS (LW 2 rfl tk24 rfl rfl) ?_
 refine rS (LW 1 rfl tk28 rfl rfl) ?_
 refine rS (CL (open_ok ts tsA tsC s hlen hside htr) (ha_at 3 rfl rfl <| ha_nil) rfl) ?_
 refine rS (MV rfl) ?_
 refine rS (EX rfl) ?_
 refine rS (EX rfl) ?_
 refine rS (EX rfl) ?_
 refine AL rfl tz108 fun b6 => ?_
 refine AL rfl tz108 fun b7 => ?_
 refine SW1 rfl ts108 rfl ?_
 refine SW0 rfl ts108 rfl ?_
 refine rS (AG rfl) ?_
 refine RK hK5 ?_
 refine w_seq fun _ hK8 => ?_
 refine WS fun _ hK9 => ?_
 refine rS (MV rfl) ?_
 refine rS (BI rfl b_neq) ?_
 refine RK hK9 ?_
 refine w_if rfl (fun he => ?_) (fun he => ?_)
 rotate_left 1
 · replace he := XF he
   exact absurd he hb0
 replace he := XT he
 refine WS fun _ hK10 => ?_
 refine rS (SX (sd_build (xs := []) (cs := (SpanV.cells (SpanV.mk 0 0))) rfl rfl (built_of tb26 rfl)) rfl rfl) ?_
 refine rS (MV rfl) ?_
 refine SW2 rfl ts26 rfl ?_
 refine rS (AG rfl) ?_
 refine RK hK10 ?_
 refine w_ret ?_
 refine hQ _ _ _ (l_nil (vs := [(Value.agg (SpanV.cells (SpanV.mk 0 0)).toArray), (Value.int .i64 (bothE s ts))]) ⟨⟨_, rfl, .inl ⟨_, _, tk26, at_blk (vs := (SpanV.cells (SpanV.mk 0 0))) 2 rfl rfl, rfl, rfl⟩⟩, rfl, trivial⟩ fun w hs => endV ?_ hs)
 show (Value.tuple [(Value.agg (SpanV.cells (SpanV.mk 0 0)).toArray), (Value.int .i64 (bothE s ts))].toArray) = (Value.tuple [(Value.agg (SpanV.cells (heightV s ts i)).toArray), (Value.int .i64 (heightE s ts i))].toArray)
 clear hs w hQ hN hK10 hK9 hK8 hK5 hK1
 rw [(height_no (i := i) hb0).1, (height_no (i := i) hb0).2]

set_option maxRecDepth 100000 in
set_option maxHeartbeats 400000 in
theorem height_ok (ts : List StretchV) (tsA : Option Addr) (tsC : Nat) (s : SledV) (i : Int) (hlen : ts.length ≤ 1000000) (hside : ∀ x ∈ ts, 0 ≤ x.Side ∧ x.Side ≤ 255) (htr : trackOk ts = true) (hs : SledOk s) :
    FnV Try.prog 22 [(Value.agg (TrackV.cells (TrackV.mk (Slc.mk tsA ts.length tsC))).toArray), (Value.agg (SledV.cells s).toArray), (Value.int .i64 i)] [(rd tsA ts.length 9 (ts.map StretchV.cells))] (Value.tuple [(Value.agg (SpanV.cells (heightV s ts i)).toArray), (Value.int .i64 (heightE s ts i))].toArray) := by
 have hb0 := bothE_ok htr hs
 have hst := trackOk_all htr
 have hl12 := trackOk_le htr
 have hl1 := trackOk_pos htr
 refine fnV_of go22 Try.func22 rfl rfl fun w0 Q hQ hN => ?_
 change WJ _ _ _ _ [(0, (Value.agg (TrackV.cells (TrackV.mk (Slc.mk tsA ts.length tsC))).toArray)), (1, (Value.agg (SledV.cells s).toArray)), (2, (Value.int .i64 i))] [(rd tsA ts.length 9 (ts.map StretchV.cells)).ro]
 refine WS fun _ hK1 => ?_
 refine BXA rfl fun b2 => ?_
 refine BXA rfl fun b3 => ?_
 refine AL rfl tz26 fun b4 => ?_
 refine rS (AG rfl) ?_
 refine RK hK1 ?_
 refine WS fun _ hK5 => ?_
 refine rS (LW 2 rfl tk24 rfl rfl) ?_
 refine rS (LW 1 rfl tk28 rfl rfl) ?_
 refine rS (CL (open_ok ts tsA tsC s hlen hside htr) (ha_at 3 rfl rfl <| ha_nil) rfl) ?_
 refine rS (MV rfl) ?_
 refine rS (EX rfl) ?_
 refine rS (EX rfl) ?_
 refine rS (EX rfl) ?_
 refine AL rfl tz108 fun b6 => ?_
 refine AL rfl tz108 fun b7 => ?_
 refine SW1 rfl ts108 rfl ?_
 refine SW0 rfl ts108 rfl ?_
 refine rS (AG rfl) ?_
 refine RK hK5 ?_
 refine w_seq fun _ hK8 => ?_
 refine WS fun _ hK9 => ?_
 refine rS (MV rfl) ?_
 refine rS (BI rfl b_neq) ?_
 refine RK hK9 ?_
 refine w_if rfl (fun he => ?_) (fun he => ?_)
 · replace he := XT he
   exact absurd hb0 he
 replace he := XF he
 refine WK hK8 ?_
 refine WS fun _ hK10 => ?_
 refine rS (LW 1 rfl tk108 rfl rfl) ?_
 refine cX (heights_c s ts tsA tsC false hs (by first | assumption | omega | (simp; done) | (simp; omega)) (by first | assumption | omega | (simp; done) | (simp; omega)) hside) (ha_at 5 rfl rfl <| ha_nil) rfl fun b13 hy12 => ?_
 change RJ _ _ _ _ _ ((_, (Value.map (some b13))) :: _) ((mp b13 (mapV iV (hgts false s ts ts.length))) :: _)
 refine rS (MV rfl) ?_
 refine rS (SX (sd_look_v (l := (hgts false s ts ts.length)) (f := iV) (z := 0) rfl rfl rfl ut120 ut3 tv3 (by exact has_at 0 rfl)) rfl rfl) ?_
 refine rS (MV rfl) ?_
 refine rS (EX rfl) ?_
 refine rS (EX rfl) ?_
 refine rS (AG rfl) ?_
 refine rS (AG rfl) ?_
 refine RK hK10 ?_
 refine w_seq fun _ hK14 => ?_
 refine WS fun _ hK15 => ?_
 refine rS (MV rfl) ?_
 refine rS (NT rfl) ?_
 refine RK hK15 ?_
 refine w_if rfl (fun hd => ?_) (fun hd => ?_)
 · rw [Bool.not_eq_true'] at hd
   refine WS fun _ hK16 => ?_
   refine rS (SX (sd_build (xs := []) (cs := (SpanV.cells (SpanV.mk 0 0))) rfl rfl (built_of tb26 rfl)) rfl rfl) ?_
   refine SW3 rfl ts26 rfl ?_
   refine rS (AG rfl) ?_
   refine RK hK16 ?_
   refine w_ret ?_
   refine hQ _ _ _ (l_nil (vs := [(Value.agg (SpanV.cells (SpanV.mk 0 0)).toArray), (Value.int .i64 2)]) ⟨⟨_, rfl, .inl ⟨_, _, tk26, at_blk (vs := (SpanV.cells (SpanV.mk 0 0))) 3 rfl rfl, rfl, rfl⟩⟩, rfl, trivial⟩ fun w hs => endV ?_ hs)
   show (Value.tuple [(Value.agg (SpanV.cells (SpanV.mk 0 0)).toArray), (Value.int .i64 2)].toArray) = (Value.tuple [(Value.agg (SpanV.cells (heightV s ts i)).toArray), (Value.int .i64 (heightE s ts i))].toArray)
   clear hs w hQ hN hK16 hK15 hK14 hK10 hK9 hK8 hK5 hK1
   rw [hgts_is] at hd
   first | rw [(height_out (i := i) hb0 hd).1, (height_out (i := i) hb0 hd).2] | rw [(height_in (i := i) hb0 hd).1, (height_in (i := i) hb0 hd).2, hgts_get hd, hgts_get hd]
 rw [Bool.not_eq_false'] at hd
 refine WK hK14 ?_
 refine WS fun _ hK17 => ?_
 refine rS (MV rfl) ?_
 refine rS (LW 1 rfl tk108 rfl rfl) ?_
 refine cX (heights_c s ts tsA tsC true hs (by first | assumption | omega | (simp; done) | (simp; omega)) (by first | assumption | omega | (simp; done) | (simp; omega)) hside) (ha_at 6 rfl rfl <| ha_nil) rfl fun b20 hy19 => ?_
 change RJ _ _ _ _ _ ((_, (Value.map (some b20))) :: _) ((mp b20 (mapV iV (hgts true s ts ts.length))) :: _)
 refine rS (MV rfl) ?_
 refine rS (SX (sd_look1_v (l := (hgts true s ts ts.length)) (f := iV) (z := 0) rfl rfl rfl ut120 ut3 tv3 (by exact has_at 0 rfl)) rfl rfl) ?_
 refine rS (SX (sd_build (xs := [(0, .tmp 34), (1, .tmp 38)]) (cs := (SpanV.cells (SpanV.mk ((List.lookup i (hgts false s ts ts.length)).getD 0) ((List.lookup i (hgts true s ts ts.length)).getD 0)))) rfl rfl (built_of tb26 rfl)) rfl rfl) ?_
 refine SW4 rfl ts26 rfl ?_
 refine rS (AG rfl) ?_
 refine RK hK17 ?_
 refine w_ret ?_
 refine hQ _ _ _ (l_nil (vs := [(Value.agg (SpanV.cells (SpanV.mk ((List.lookup i (hgts false s ts ts.length)).getD 0) ((List.lookup i (hgts true s ts ts.length)).getD 0))).toArray), (Value.int .i64 0)]) ⟨⟨_, rfl, .inl ⟨_, _, tk26, at_blk (vs := (SpanV.cells (SpanV.mk ((List.lookup i (hgts false s ts ts.length)).getD 0) ((List.lookup i (hgts true s ts ts.length)).getD 0)))) 4 rfl rfl, rfl, rfl⟩⟩, rfl, trivial⟩ fun w hs => endV ?_ hs)
 show (Value.tuple [(Value.agg (SpanV.cells (SpanV.mk ((List.lookup i (hgts false s ts ts.length)).getD 0) ((List.lookup i (hgts true s ts ts.length)).getD 0))).toArray), (Value.int .i64 0)].toArray) = (Value.tuple [(Value.agg (SpanV.cells (heightV s ts i)).toArray), (Value.int .i64 (heightE s ts i))].toArray)
 clear hs w hQ hN hK17 hK15 hK14 hK10 hK9 hK8 hK5 hK1
 rw [hgts_is] at hd
 first | rw [(height_out (i := i) hb0 hd).1, (height_out (i := i) hb0 hd).2] | rw [(height_in (i := i) hb0 hd).1, (height_in (i := i) hb0 hd).2, hgts_get hd, hgts_get hd]

theorem height_no_ (ts : List StretchV) (tsA : Option Addr) (tsC : Nat) (s : SledV) (i : Int) (hlen : ts.length ≤ 1000000) (hside : ∀ x ∈ ts, 0 ≤ x.Side ∧ x.Side ≤ 255) (hb : ¬ bothE s ts = 0) :
    FnV Try.prog 22 [(Value.agg (TrackV.cells (TrackV.mk (Slc.mk tsA ts.length tsC))).toArray), (Value.agg (SledV.cells s).toArray), (Value.int .i64 i)] [(rd tsA ts.length 9 (ts.map StretchV.cells))] (Value.tuple [(Value.agg (SpanV.cells (heightV s ts i)).toArray), (Value.int .i64 (heightE s ts i))].toArray) := by
  by_cases htr : trackOk ts = true
  · by_cases hs : SledOk s
    · exact absurd (bothE_ok htr hs) hb
    · exact height_sled ts tsA tsC s i hlen hside htr hs
  · exact height_bad ts tsA tsC s i hlen hside (by simpa using htr)

theorem height_c (ts : List StretchV) (tsA : Option Addr) (tsC : Nat) (s : SledV) (i : Int) (hlen : ts.length ≤ 1000000) (hside : ∀ x ∈ ts, 0 ≤ x.Side ∧ x.Side ≤ 255) :
    FnV Try.prog 22 [(Value.agg (TrackV.cells (TrackV.mk (Slc.mk tsA ts.length tsC))).toArray), (Value.agg (SledV.cells s).toArray), (Value.int .i64 i)] [(rd tsA ts.length 9 (ts.map StretchV.cells))] (Value.tuple [(Value.agg (SpanV.cells (heightV s ts i)).toArray), (Value.int .i64 (heightE s ts i))].toArray) := by
  by_cases hb : bothE s ts = 0
  · obtain ⟨h1, h2⟩ := bothE_zero hb
    exact height_ok ts tsA tsC s i hlen hside h1 h2
  · exact height_no_ ts tsA tsC s i hlen hside hb

set_option maxRecDepth 100000 in
set_option maxHeartbeats 400000 in
theorem curve_c (ts : List StretchV) (tsA : Option Addr) (tsC : Nat) (i : Int) (hlen : ts.length ≤ 1000000) (hside : ∀ x ∈ ts, 0 ≤ x.Side ∧ x.Side ≤ 255) :
    FnV Try.prog 71 [(Value.agg (TrackV.cells (TrackV.mk (Slc.mk tsA ts.length tsC))).toArray), (Value.int .i64 i)] [(rd tsA ts.length 9 (ts.map StretchV.cells))] (Value.bool (curveB ts i)) := by
 refine fnV_of go71 Try.func71 rfl rfl fun w0 Q hQ hN => ?_
 change WJ _ _ _ _ [(0, (Value.agg (TrackV.cells (TrackV.mk (Slc.mk tsA ts.length tsC))).toArray)), (1, (Value.int .i64 i))] [(rd tsA ts.length 9 (ts.map StretchV.cells)).ro]
 refine WS fun _ hK1 => ?_
 refine BXA rfl fun b2 => ?_
 refine rS (AG rfl) ?_
 refine RK hK1 ?_
 refine WS fun _ hK3 => ?_
 refine rS (MV rfl) ?_
 refine rS (FA 0 rfl fo24_0 rfl) ?_
 refine rS (L1 (Value.slice tsA ts.length tsC) 0 rfl tk22 rfl rfl) ?_
 refine rS (LN rfl ut22) ?_
 refine rS (BI rfl (b_sub ⟨by omega, by omega⟩)) ?_
 refine rS (CL (within3_c i 0 (((ts.length : Nat) : Int) - 1)) (ha_nil) rfl) ?_
 refine rS (MV rfl) ?_
 refine r_bool (t := 11) rfl (fun h4 => ?_) (fun h4 => ?_)
 rotate_left 1
 · replace h4 := DF h4
   refine rS (OX rfl) ?_
   refine rS (OX rfl) ?_
   refine rS (OX rfl) ?_
   refine rS (OX rfl) ?_
   refine rS (OX rfl) ?_
   refine rS (OX rfl) ?_
   refine rS (OX rfl) ?_
   refine rS (PK rfl) ?_
   refine rS (AG rfl) ?_
   refine RK hK3 ?_
   refine w_ret ?_
   refine Q1 hQ rfl rfl rfl ?_
   first | exact congrArg Value.bool (curveB_out (by omega)).symm | exact congrArg Value.bool (curveB_at (by omega) hx).symm
 replace h4 := DT h4
 refine rS (FA 0 rfl fo24_0 rfl) ?_
 refine rS (L1 (Value.slice tsA ts.length tsC) 0 rfl tk22 rfl rfl) ?_
 refine rS (MV rfl) ?_
 obtain ⟨x, hx⟩ : ∃ y_, ts[(i).toNat]? = some y_ := ⟨ts[(i).toNat]'(by omega), List.getElem?_eq_getElem _⟩
 have hxm : (ts.map StretchV.cells)[(i).toNat]? = some (StretchV.cells x) := by rw [List.getElem?_map, hx]; rfl
 refine rS (IA ((i).toNat) rfl (has_at 1 rfl) te22 (by decide) (by omega) (by omega)) ?_
 refine rS (FAR ((((i).toNat) * 9) + 7) rfl (has_at 1 rfl) (Nat.mul_pos (by omega) (by decide)) fo77_4 rfl) ?_
 have hsd := hside x (List.mem_of_getElem? hx)
 refine rS (LE1 ((i).toNat) 7 (Value.int .u8 x.Side) rfl tk5 (has_at 1 rfl) hxm rfl (by decide) rfl) ?_
 refine rS (BI rfl b_neq) ?_
 refine rS (PK rfl) ?_
 refine rS (AG rfl) ?_
 refine RK hK3 ?_
 refine w_ret ?_
 refine Q1 hQ rfl rfl rfl ?_
 first | exact congrArg Value.bool (curveB_out (by omega)).symm | exact congrArg Value.bool (curveB_at (by omega) hx).symm

set_option maxRecDepth 100000 in
set_option maxHeartbeats 400000 in
theorem rheight_c (ts : List StretchV) (tsA : Option Addr) (tsC : Nat) (s : SledV) (i : Int) (hs : SledOk s) (hst : ∀ x ∈ ts, StretchOk x) (hlen : ts.length ≤ 12) (hcv : curveB ts i = true) :
    FnV Try.prog 72 [(Value.agg (TrackV.cells (TrackV.mk (Slc.mk tsA ts.length tsC))).toArray), (Value.agg (SledV.cells s).toArray), (Value.int .i64 i)] [(rd tsA ts.length 9 (ts.map StretchV.cells))] (Value.agg (SpanV.cells (SpanV.mk (hgt false s ts i.toNat) (hgt true s ts i.toNat))).toArray) := by
 obtain ⟨hi0, hi1, x, hx, hns⟩ := curveB_in hcv
 have hxo := hst x (List.mem_of_getElem? hx)
 have hr := radius_c hxo hns
 have hb0 := inAt_b (best := false) hs hst (i := i.toNat) (by omega)
 have hb1 := inAt_b (best := true) hs hst (i := i.toNat) (by omega)
 have q6 := hs.2.2.2.2.2
 simp only [SpanOk] at q6
 refine fnV_of go72 Try.func72 rfl rfl fun w0 Q hQ hN => ?_
 change WJ _ _ _ _ [(0, (Value.agg (TrackV.cells (TrackV.mk (Slc.mk tsA ts.length tsC))).toArray)), (1, (Value.agg (SledV.cells s).toArray)), (2, (Value.int .i64 i))] [(rd tsA ts.length 9 (ts.map StretchV.cells)).ro]
 refine WS fun _ hK1 => ?_
 refine BXA rfl fun b2 => ?_
 refine BXA rfl fun b3 => ?_
 refine AL rfl tz26 fun b4 => ?_
 refine RK hK1 ?_
 refine w_seq fun _ hK5 => ?_
 refine w_drawN mixed [0, 1, 2, 3, 4, 5, 6, 7, 8, 9] [10, 11, 12, 13] [false, false, false, false, false, false, false, false, false, false] [] [(blk b4 26 (SpanV.cells (SpanV.mk 0 0))), (blk b3 28 (SledV.cells s)), (blk b2 24 (TrackV.cells (TrackV.mk (Slc.mk tsA ts.length tsC)))), (rd tsA ts.length 9 (ts.map StretchV.cells)).ro] [] (by kernel_rfl) (fun w hs => St.sel [0, 1, 2, 3] rfl rfl hs) (fun w hs => St.sel [] rfl rfl hs) ?_
 refine eS rfl (LW 2 rfl tk24 rfl rfl) ?_
 refine eS rfl (LW 1 rfl tk28 rfl rfl) ?_
 refine eS rfl (MV rfl) ?_
 refine eS rfl (CL (inside_c ts tsA tsC s i hs hst hlen (by first | assumption | omega | (simp; done) | (simp; omega))) (ha_at 3 rfl rfl <| ha_nil) rfl) ?_
 refine eS rfl (FA 0 rfl fo24_0 rfl) ?_
 refine eS rfl (L1 (Value.slice tsA ts.length tsC) 2 rfl tk22 rfl rfl) ?_
 refine eS rfl (MV rfl) ?_
 obtain ⟨y, hy⟩ : ∃ y_, ts[(i).toNat]? = some y_ := ⟨ts[(i).toNat]'(by omega), List.getElem?_eq_getElem _⟩
 have hym : (ts.map StretchV.cells)[(i).toNat]? = some (StretchV.cells y) := by rw [List.getElem?_map, hy]; rfl
 refine eS rfl (IA ((i).toNat) rfl (has_at 3 rfl) te22 (by decide) (by omega) (by omega)) ?_
 refine eS rfl (FAR ((((i).toNat) * 9) + 5) rfl (has_at 3 rfl) (Nat.mul_pos (by omega) (by decide)) fo77_3 rfl) ?_
 obtain rfl : y = x := Option.some.inj (hy.symm.trans hx)
 refine eS rfl (LEN ((i).toNat) 5 (SpanV.cells y.Radius) rfl tk26 (has_at 3 rfl) hym rfl (by decide) rfl rfl) ?_
 refine d_fin rfl ?_
 refine n_step [10, 11] (by kernel_rfl) (n_cons ?_ <| n_cons ?_ <| n_nil)
 · refine n_op (rem' := [11, 12, 13]) rfl (by kernel_rfl) rfl fun T6 hT6 => ?_
   refine AL rfl tz26 fun b7 => ?_
   refine r_nil (hT6 _ _ (fun w hs => St.sel [1, 2, 3, 4] rfl rfl hs) ?_)
   refine n_step [11] (by kernel_rfl) (n_cons ?_ <| n_nil)
   refine n_op (rem' := [12, 13]) rfl (by kernel_rfl) rfl fun T8 hT8 => ?_
   refine AL rfl tz26 fun b9 => ?_
   refine r_nil (hT8 _ _ (fun w hs => St.sel [2, 3, 4, 5] rfl rfl hs) ?_)
   refine n_step [12] (by kernel_rfl) (n_cons ?_ <| n_nil)
   refine n_op (rem' := [13]) rfl (by kernel_rfl) rfl fun T10 hT10 => ?_
   refine SW1 rfl ts26 rfl ?_
   refine r_nil (hT10 _ _ (fun w hs => St.sel [2, 3, 4, 5] rfl rfl hs) ?_)
   refine n_step [13] (by kernel_rfl) (n_cons ?_ <| n_nil)
   refine n_op (rem' := []) rfl (by kernel_rfl) rfl fun T11 hT11 => ?_
   refine SW0 rfl ts26 rfl ?_
   refine r_nil (hT11 _ _ (fun w hs => St.sel [2, 3, 4, 5] rfl rfl hs) ?_)
   refine n_fin ?_
   refine KK hK5 ?_
   refine w_seq fun _ hK12 => ?_
   refine w_draw mixed 23 (by kernel_rfl) ?_
   refine dS (FA 0 rfl fo26_0 rfl) ?_
   refine dS (L1 (Value.int .i64 (inAt false s ts i.toNat)) 1 rfl tk3 rfl rfl) ?_
   refine dS (BI rfl (b_mul ⟨by omega, by omega⟩)) ?_
   refine dS (FA 1 rfl fo26_1 rfl) ?_
   refine dS (L1 (Value.int .i64 y.Radius.Hi) 0 rfl tk3 rfl rfl) ?_
   refine dS (BI rfl (b_mul ⟨by omega, by omega⟩)) ?_
   have m3 := divb (a := 1200 * inAt false s ts i.toNat) (b := 10 * y.Radius.Hi) (A := 480000000) (by omega) (by omega) (by omega)
   have m4 := divb (a := 1200 * inAt true s ts i.toNat) (b := 10 * y.Radius.Lo) (A := 480000000) (by omega) (by omega) (by omega)
   refine dS (BI rfl (b_quo (by omega) (by omega) (by omega))) ?_
   refine dS (FA 9 rfl fo28_5 rfl) ?_
   refine dS (FA 9 rfl fo26_0 rfl) ?_
   refine dS (L1 (Value.int .i64 s.Steer.Lo) 3 rfl tk3 rfl rfl) ?_
   refine dS (BI rfl (b_add ⟨by omega, by omega⟩)) ?_
   refine dS (FA 1 rfl fo26_1 rfl) ?_
   refine dS (L1 (Value.int .i64 (inAt true s ts i.toNat)) 1 rfl tk3 rfl rfl) ?_
   refine dS (BI rfl (b_mul ⟨by omega, by omega⟩)) ?_
   refine dS (FA 0 rfl fo26_0 rfl) ?_
   refine dS (L1 (Value.int .i64 y.Radius.Lo) 0 rfl tk3 rfl rfl) ?_
   refine dS (BI rfl (b_mul ⟨by omega, by omega⟩)) ?_
   refine dS (BI rfl (b_quo (by omega) (by omega) (by omega))) ?_
   refine dS (FA 9 rfl fo28_5 rfl) ?_
   refine dS (FA 10 rfl fo26_1 rfl) ?_
   refine dS (L1 (Value.int .i64 s.Steer.Hi) 3 rfl tk3 rfl rfl) ?_
   refine dS (BI rfl (b_add ⟨by omega, by omega⟩)) ?_
   refine dS (SX (sd_build (xs := [(0, .tmp 29), (1, .tmp 40)]) (cs := (SpanV.cells (SpanV.mk (((1200 * (inAt false s ts i.toNat)) / (10 * y.Radius.Hi)) + s.Steer.Lo) (((1200 * (inAt true s ts i.toNat)) / (10 * y.Radius.Lo)) + s.Steer.Hi)))) rfl rfl (built_of tb26 rfl)) rfl rfl) ?_
   refine d_end ?_
   refine SW2 rfl ts26 rfl ?_
   refine RK hK12 ?_
   refine w_ret ?_
   refine hQ _ _ _ (l_nil (vs := [(Value.agg (SpanV.cells (SpanV.mk (((1200 * (inAt false s ts i.toNat)) / (10 * y.Radius.Hi)) + s.Steer.Lo) (((1200 * (inAt true s ts i.toNat)) / (10 * y.Radius.Lo)) + s.Steer.Hi))).toArray)]) ⟨⟨_, rfl, .inl ⟨_, _, tk26, at_blk (vs := (SpanV.cells (SpanV.mk (((1200 * (inAt false s ts i.toNat)) / (10 * y.Radius.Hi)) + s.Steer.Lo) (((1200 * (inAt true s ts i.toNat)) / (10 * y.Radius.Lo)) + s.Steer.Hi)))) 2 rfl rfl, rfl, rfl⟩⟩, trivial⟩ fun w hs => endV ?_ hs)
   show (Value.agg (SpanV.cells (SpanV.mk (((1200 * (inAt false s ts i.toNat)) / (10 * y.Radius.Hi)) + s.Steer.Lo) (((1200 * (inAt true s ts i.toNat)) / (10 * y.Radius.Lo)) + s.Steer.Hi))).toArray) = (Value.agg (SpanV.cells (SpanV.mk (hgt false s ts i.toNat) (hgt true s ts i.toNat))).toArray)
   clear hs w hQ hN hK12 hT11 T11 hT10 T10 hT8 T8 hT6 T6 hK5 hK1
   rw [hgt_low hy (by omega), hgt_high hy (by omega)]
 refine n_op (rem' := [10, 12, 13]) rfl (by kernel_rfl) rfl fun T13 hT13 => ?_
 refine AL rfl tz26 fun b14 => ?_
 refine r_nil (hT13 _ _ (fun w hs => St.sel [1, 2, 3, 4] rfl rfl hs) ?_)
 refine n_step [10] (by kernel_rfl) (n_cons ?_ <| n_nil)
 refine n_op (rem' := [12, 13]) rfl (by kernel_rfl) rfl fun T15 hT15 => ?_
 refine AL rfl tz26 fun b16 => ?_
 refine r_nil (hT15 _ _ (fun w hs => St.sel [2, 3, 4, 5] rfl rfl hs) ?_)
 refine n_step [12] (by kernel_rfl) (n_cons ?_ <| n_nil)
 refine n_op (rem' := [13]) rfl (by kernel_rfl) rfl fun T17 hT17 => ?_
 refine SW0 rfl ts26 rfl ?_
 refine r_nil (hT17 _ _ (fun w hs => St.sel [2, 3, 4, 5] rfl rfl hs) ?_)
 refine n_step [13] (by kernel_rfl) (n_cons ?_ <| n_nil)
 refine n_op (rem' := []) rfl (by kernel_rfl) rfl fun T18 hT18 => ?_
 refine SW1 rfl ts26 rfl ?_
 refine r_nil (hT18 _ _ (fun w hs => St.sel [2, 3, 4, 5] rfl rfl hs) ?_)
 refine n_fin ?_
 refine KK hK5 ?_
 refine w_seq fun _ hK19 => ?_
 refine w_draw mixed 23 (by kernel_rfl) ?_
 refine dS (FA 0 rfl fo26_0 rfl) ?_
 refine dS (L1 (Value.int .i64 (inAt false s ts i.toNat)) 0 rfl tk3 rfl rfl) ?_
 refine dS (BI rfl (b_mul ⟨by omega, by omega⟩)) ?_
 refine dS (FA 1 rfl fo26_1 rfl) ?_
 refine dS (L1 (Value.int .i64 y.Radius.Hi) 1 rfl tk3 rfl rfl) ?_
 refine dS (BI rfl (b_mul ⟨by omega, by omega⟩)) ?_
 have m3 := divb (a := 1200 * inAt false s ts i.toNat) (b := 10 * y.Radius.Hi) (A := 480000000) (by omega) (by omega) (by omega)
 have m4 := divb (a := 1200 * inAt true s ts i.toNat) (b := 10 * y.Radius.Lo) (A := 480000000) (by omega) (by omega) (by omega)
 refine dS (BI rfl (b_quo (by omega) (by omega) (by omega))) ?_
 refine dS (FA 9 rfl fo28_5 rfl) ?_
 refine dS (FA 9 rfl fo26_0 rfl) ?_
 refine dS (L1 (Value.int .i64 s.Steer.Lo) 3 rfl tk3 rfl rfl) ?_
 refine dS (BI rfl (b_add ⟨by omega, by omega⟩)) ?_
 refine dS (FA 1 rfl fo26_1 rfl) ?_
 refine dS (L1 (Value.int .i64 (inAt true s ts i.toNat)) 0 rfl tk3 rfl rfl) ?_
 refine dS (BI rfl (b_mul ⟨by omega, by omega⟩)) ?_
 refine dS (FA 0 rfl fo26_0 rfl) ?_
 refine dS (L1 (Value.int .i64 y.Radius.Lo) 1 rfl tk3 rfl rfl) ?_
 refine dS (BI rfl (b_mul ⟨by omega, by omega⟩)) ?_
 refine dS (BI rfl (b_quo (by omega) (by omega) (by omega))) ?_
 refine dS (FA 9 rfl fo28_5 rfl) ?_
 refine dS (FA 10 rfl fo26_1 rfl) ?_
 refine dS (L1 (Value.int .i64 s.Steer.Hi) 3 rfl tk3 rfl rfl) ?_
 refine dS (BI rfl (b_add ⟨by omega, by omega⟩)) ?_
 refine dS (SX (sd_build (xs := [(0, .tmp 29), (1, .tmp 40)]) (cs := (SpanV.cells (SpanV.mk (((1200 * (inAt false s ts i.toNat)) / (10 * y.Radius.Hi)) + s.Steer.Lo) (((1200 * (inAt true s ts i.toNat)) / (10 * y.Radius.Lo)) + s.Steer.Hi)))) rfl rfl (built_of tb26 rfl)) rfl rfl) ?_
 refine d_end ?_
 refine SW2 rfl ts26 rfl ?_
 refine RK hK19 ?_
 refine w_ret ?_
 refine hQ _ _ _ (l_nil (vs := [(Value.agg (SpanV.cells (SpanV.mk (((1200 * (inAt false s ts i.toNat)) / (10 * y.Radius.Hi)) + s.Steer.Lo) (((1200 * (inAt true s ts i.toNat)) / (10 * y.Radius.Lo)) + s.Steer.Hi))).toArray)]) ⟨⟨_, rfl, .inl ⟨_, _, tk26, at_blk (vs := (SpanV.cells (SpanV.mk (((1200 * (inAt false s ts i.toNat)) / (10 * y.Radius.Hi)) + s.Steer.Lo) (((1200 * (inAt true s ts i.toNat)) / (10 * y.Radius.Lo)) + s.Steer.Hi)))) 2 rfl rfl, rfl, rfl⟩⟩, trivial⟩ fun w hs => endV ?_ hs)
 show (Value.agg (SpanV.cells (SpanV.mk (((1200 * (inAt false s ts i.toNat)) / (10 * y.Radius.Hi)) + s.Steer.Lo) (((1200 * (inAt true s ts i.toNat)) / (10 * y.Radius.Lo)) + s.Steer.Hi))).toArray) = (Value.agg (SpanV.cells (SpanV.mk (hgt false s ts i.toNat) (hgt true s ts i.toNat))).toArray)
 clear hs w hQ hN hK19 hT18 T18 hT17 T17 hT15 T15 hT13 T13 hK5 hK1
 rw [hgt_low hy (by omega), hgt_high hy (by omega)]

set_option maxRecDepth 100000 in
set_option maxHeartbeats 400000 in
theorem rHeight_c (ts : List StretchV) (tsA : Option Addr) (tsC : Nat) (s : SledV) (i : Int) (hlen : ts.length ≤ 1000000) (hside : ∀ x ∈ ts, 0 ≤ x.Side ∧ x.Side ≤ 255) (hc : 0 ≤ s.Class ∧ s.Class ≤ 255) :
    FnV Try.prog 23 [(Value.agg (TrackV.cells (TrackV.mk (Slc.mk tsA ts.length tsC))).toArray), (Value.agg (SledV.cells s).toArray), (Value.int .i64 i)] [(rd tsA ts.length 9 (ts.map StretchV.cells))] (Value.tuple [(Value.agg (SpanV.cells (heightV s ts i)).toArray), (Value.int .i64 (heightE s ts i))].toArray) := by
 refine fnV_of go23 Try.func23 rfl rfl fun w0 Q hQ hN => ?_
 change WJ _ _ _ _ [(0, (Value.agg (TrackV.cells (TrackV.mk (Slc.mk tsA ts.length tsC))).toArray)), (1, (Value.agg (SledV.cells s).toArray)), (2, (Value.int .i64 i))] [(rd tsA ts.length 9 (ts.map StretchV.cells)).ro]
 refine WS fun _ hK1 => ?_
 refine BXA rfl fun b2 => ?_
 refine BXA rfl fun b3 => ?_
 refine AL rfl tz26 fun b4 => ?_
 refine rS (AG rfl) ?_
 refine RK hK1 ?_
 refine w_seq fun _ hK5 => ?_
 refine WS fun _ hK6 => ?_
 refine rS (LW 2 rfl tk24 rfl rfl) ?_
 refine rS (LW 1 rfl tk28 rfl rfl) ?_
 refine rS (CL (both_c ts tsA tsC s hlen hc) (ha_at 3 rfl rfl <| ha_nil) rfl) ?_
 refine rS (AG rfl) ?_
 refine RK hK6 ?_
 refine WS fun _ hK7 => ?_
 refine rS (MV rfl) ?_
 refine rS (BI rfl b_neq) ?_
 refine RK hK7 ?_
 refine w_if rfl (fun he => ?_) (fun he => ?_)
 · replace he := XT he
   refine WS fun _ hK8 => ?_
   refine rS (SX (sd_build (xs := []) (cs := (SpanV.cells (SpanV.mk 0 0))) rfl rfl (built_of tb26 rfl)) rfl rfl) ?_
   refine rS (MV rfl) ?_
   refine SW0 rfl ts26 rfl ?_
   refine rS (AG rfl) ?_
   refine RK hK8 ?_
   refine w_ret ?_
   refine hQ _ _ _ (l_nil (vs := [(Value.agg (SpanV.cells (SpanV.mk 0 0)).toArray), (Value.int .i64 (bothE s ts))]) ⟨⟨_, rfl, .inl ⟨_, _, tk26, at_blk (vs := (SpanV.cells (SpanV.mk 0 0))) 0 rfl rfl, rfl, rfl⟩⟩, rfl, trivial⟩ fun w hs => endV ?_ hs)
   show (Value.tuple [(Value.agg (SpanV.cells (SpanV.mk 0 0)).toArray), (Value.int .i64 (bothE s ts))].toArray) = (Value.tuple [(Value.agg (SpanV.cells (heightV s ts i)).toArray), (Value.int .i64 (heightE s ts i))].toArray)
   clear hs w hQ hN hK8 hK7 hK6 hK5 hK1
   first | rw [(height_no (i := i) he).1, (height_no (i := i) he).2] | rw [(height_out (i := i) he hd).1, (height_out (i := i) he hd).2] | rw [(height_in (i := i) he hd).1, (height_in (i := i) he hd).2]
 replace he := XF he
 refine WK hK5 ?_
 refine w_seq fun _ hK9 => ?_
 refine WS fun _ hK10 => ?_
 obtain ⟨htr, hs⟩ := bothE_zero he
 have hst := trackOk_all htr
 have hl12 := trackOk_le htr
 refine rS (LW 2 rfl tk24 rfl rfl) ?_
 refine rS (MV rfl) ?_
 refine rS (CL (curve_c ts tsA tsC i hlen hside) (ha_at 3 rfl rfl <| ha_nil) rfl) ?_
 refine rS (NT rfl) ?_
 refine RK hK10 ?_
 refine w_if rfl (fun hd => ?_) (fun hd => ?_)
 · rw [Bool.not_eq_true'] at hd
   refine WS fun _ hK11 => ?_
   refine rS (SX (sd_build (xs := []) (cs := (SpanV.cells (SpanV.mk 0 0))) rfl rfl (built_of tb26 rfl)) rfl rfl) ?_
   refine SW0 rfl ts26 rfl ?_
   refine rS (AG rfl) ?_
   refine RK hK11 ?_
   refine w_ret ?_
   refine hQ _ _ _ (l_nil (vs := [(Value.agg (SpanV.cells (SpanV.mk 0 0)).toArray), (Value.int .i64 2)]) ⟨⟨_, rfl, .inl ⟨_, _, tk26, at_blk (vs := (SpanV.cells (SpanV.mk 0 0))) 0 rfl rfl, rfl, rfl⟩⟩, rfl, trivial⟩ fun w hs => endV ?_ hs)
   show (Value.tuple [(Value.agg (SpanV.cells (SpanV.mk 0 0)).toArray), (Value.int .i64 2)].toArray) = (Value.tuple [(Value.agg (SpanV.cells (heightV s ts i)).toArray), (Value.int .i64 (heightE s ts i))].toArray)
   clear hs w hQ hN hK11 hK10 hK9 hK7 hK6 hK5 hK1
   first | rw [(height_no (i := i) he).1, (height_no (i := i) he).2] | rw [(height_out (i := i) he hd).1, (height_out (i := i) he hd).2] | rw [(height_in (i := i) he hd).1, (height_in (i := i) he hd).2]
 rw [Bool.not_eq_false'] at hd
 refine WK hK9 ?_
 refine WS fun _ hK12 => ?_
 refine rS (LW 2 rfl tk24 rfl rfl) ?_
 refine rS (LW 1 rfl tk28 rfl rfl) ?_
 refine rS (MV rfl) ?_
 refine rS (CL (rheight_c ts tsA tsC s i (by first | assumption | omega | (simp; done) | (simp; omega)) (by first | assumption | omega | (simp; done) | (simp; omega)) (by first | assumption | omega | (simp; done) | (simp; omega)) (by first | assumption | omega | (simp; done) | (simp; omega))) (ha_at 3 rfl rfl <| ha_nil) rfl) ?_
 refine SW0 rfl ts26 rfl ?_
 refine rS (AG rfl) ?_
 refine RK hK12 ?_
 refine w_ret ?_
 refine hQ _ _ _ (l_nil (vs := [(Value.agg (SpanV.cells (SpanV.mk (hgt false s ts i.toNat) (hgt true s ts i.toNat))).toArray), (Value.int .i64 0)]) ⟨⟨_, rfl, .inl ⟨_, _, tk26, at_blk (vs := (SpanV.cells (SpanV.mk (hgt false s ts i.toNat) (hgt true s ts i.toNat)))) 0 rfl rfl, rfl, rfl⟩⟩, rfl, trivial⟩ fun w hs => endV ?_ hs)
 show (Value.tuple [(Value.agg (SpanV.cells (SpanV.mk (hgt false s ts i.toNat) (hgt true s ts i.toNat))).toArray), (Value.int .i64 0)].toArray) = (Value.tuple [(Value.agg (SpanV.cells (heightV s ts i)).toArray), (Value.int .i64 (heightE s ts i))].toArray)
 clear hs w hQ hN hK12 hK10 hK9 hK7 hK6 hK5 hK1
 first | rw [(height_no (i := i) he).1, (height_no (i := i) he).2] | rw [(height_out (i := i) he hd).1, (height_out (i := i) he hd).2] | rw [(height_in (i := i) he hd).1, (height_in (i := i) he hd).2]

set_option maxRecDepth 100000 in
set_option maxHeartbeats 400000 in
theorem twin_c (ts : List StretchV) (tsA : Option Addr) (tsC : Nat) (hlen : ts.length ≤ 1000000) :
    FnX Try.prog 17 [(Value.agg (TrackV.cells (TrackV.mk (Slc.mk tsA ts.length tsC))).toArray)] [(rd tsA ts.length 9 (ts.map StretchV.cells))] (fun (x : (Option Addr) × Nat) => (Value.agg (TrackV.cells (TrackV.mk (Slc.mk x.1 ts.length x.2))).toArray)) (fun (x : (Option Addr) × Nat) => True) (fun (x : (Option Addr) × Nat) => [(own x.1 x.2 77 9 (ts.map StretchV.cells))]) := by
 refine fnX_of go17 Try.func17 rfl rfl fun w0 Q hQ hN => ?_
 change WJ _ _ _ _ [(0, (Value.agg (TrackV.cells (TrackV.mk (Slc.mk tsA ts.length tsC))).toArray))] [(rd tsA ts.length 9 (ts.map StretchV.cells)).ro]
 refine WS fun _ hK1 => ?_
 refine BXA rfl fun b2 => ?_
 refine AL rfl tz24 fun b3 => ?_
 refine RK hK1 ?_
 refine WS fun _ hK4 => ?_
 refine r_bs0 rfl te22 rfl fun b5 => ?_
 refine rS (FA 0 rfl fo24_0 rfl) ?_
 refine rS (L1 (Value.slice tsA ts.length tsC) 2 rfl tk22 rfl rfl) ?_
 refine r_blk_own (es := (List.map StretchV.cells [])) (C' := [own (some ⟨b5, 0, none⟩) 0 77 9 (List.map StretchV.cells []), _, _, _]) 0 rfl (by simp) rfl (by simp [maxLen]) rfl ?_
 refine r_append (es2 := (List.map StretchV.cells ts)) (m' := ts.length) 0 rfl rfl rfl ta22 rfl rfl (by simp) (has_at 3 rfl) (one_StretchV_cells _) (by first | omega | (simp; omega)) (by first | (simp only [maxLen]; omega) | (simp [maxLen]; omega)) (by simp) (by simp) rfl fun a6 c7 => ?_
 change RJ _ _ _ _ _ _ [(own a6 c7 77 9 (List.map StretchV.cells ts)), _, _, _]
 refine rS (SX (sd_build (xs := [(0, .tmp 6)]) (cs := (TrackV.cells (TrackV.mk (Slc.mk a6 ts.length c7)))) rfl rfl (built_of tb24 rfl)) rfl rfl) ?_
 refine SW1 rfl ts24 rfl ?_
 refine RK hK4 ?_
 refine w_ret ?_
 refine hQ _ _ _ (l_nil (vs := [(Value.agg (TrackV.cells (TrackV.mk (Slc.mk a6 ts.length c7))).toArray)]) ⟨⟨_, rfl, .inl ⟨_, _, tk24, at_blk (vs := (TrackV.cells (TrackV.mk (Slc.mk a6 ts.length c7)))) 1 rfl rfl, rfl, rfl⟩⟩, trivial⟩ fun w hs => endX (a6, c7) [0] ?_ ?_ rfl rfl rfl hs)
 · rfl
 · trivial

set_option maxRecDepth 100000 in
set_option maxHeartbeats 400000 in
theorem slideHeads_c (ts : List StretchV) (tsA : Option Addr) (tsC : Nat) (s : SledV) (mark : Int) (i : Int) (hside : ∀ x ∈ ts, 0 ≤ x.Side ∧ x.Side ≤ 255) (hc : 0 ≤ s.Class ∧ s.Class ≤ 255) :
    FnV Try.prog 3 [(Value.agg (TrackV.cells (TrackV.mk (Slc.mk tsA ts.length tsC))).toArray), (Value.agg (SledV.cells s).toArray), (Value.int .i64 mark), (Value.int .i64 i)] [(rd tsA ts.length 9 (ts.map StretchV.cells))] (Value.bool true) := by
 refine fnV_of go3 Try.func3 rfl rfl fun w0 Q hQ hN => ?_
 change WJ _ _ _ _ [(0, (Value.agg (TrackV.cells (TrackV.mk (Slc.mk tsA ts.length tsC))).toArray)), (1, (Value.agg (SledV.cells s).toArray)), (2, (Value.int .i64 mark)), (3, (Value.int .i64 i))] [(rd tsA ts.length 9 (ts.map StretchV.cells)).ro]
 refine WS fun _ hK1 => ?_
 refine BXA rfl fun b2 => ?_
 refine BXA rfl fun b3 => ?_
 refine rS (AG rfl) ?_
 refine RK hK1 ?_
 refine w_seq fun _ hK4 => ?_
 refine WS fun _ hK5 => ?_
 refine rS (LW 1 rfl tk24 rfl rfl) ?_
 refine rS (CL (great_c ts tsA tsC) (ha_at 2 rfl rfl <| ha_nil) rfl) ?_
 refine RK hK5 ?_
 refine w_if rfl (fun hg => ?_) (fun hg => ?_)
 · replace hg := DT hg
   refine WS fun _ hK6 => ?_
   refine rS (AG rfl) ?_
   refine RK hK6 ?_
   refine w_ret ?_
   refine Q1 hQ rfl rfl rfl ?_
   first | rfl | simp
 replace hg := DF hg
 refine WK hK4 ?_
 refine WS fun _ hK7 => ?_
 refine rS (LW 1 rfl tk24 rfl rfl) ?_
 refine cX (twin_c ts tsA tsC (by first | assumption | omega | (simp; done) | (simp; omega))) (ha_at 2 rfl rfl <| ha_nil) rfl fun y8 hy9 => ?_
 obtain ⟨a10, c11⟩ := y8
 change RJ _ _ _ _ _ ((_, (Value.agg (TrackV.cells (TrackV.mk (Slc.mk a10 ts.length c11))).toArray)) :: _) ((own a10 c11 77 9 (ts.map StretchV.cells)) :: _)
 refine AL rfl tz24 fun b12 => ?_
 refine SW0 rfl ts24 rfl ?_
 refine RK hK7 ?_
 refine WS fun _ hK13 => ?_
 refine rS (LW 0 rfl tk24 rfl rfl) ?_
 refine rS (LW 2 rfl tk28 rfl rfl) ?_
 refine cX (heads_c ts a10 c11 s (by first | assumption | omega | (simp; done) | (simp; omega)) hside) (ha_cons (has_own_n (n := ts.length) 1 rfl (by simp)) <| ha_nil) rfl fun y14 hy15 => ?_
 obtain ⟨a16, c17⟩ := y14
 change RJ _ _ _ _ _ ((_, (Value.tuple [(Value.slice a16 ((spansU s ts).length) c17), (Value.int .i64 (bothE s ts))].toArray)) :: _) ((own a16 c17 26 2 ((spansU s ts).map SpanV.cells)) :: _)
 refine rS (MV rfl) ?_
 refine rS (EX rfl) ?_
 refine rS (EX rfl) ?_
 refine rS (AG rfl) ?_
 refine rS (AG rfl) ?_
 refine RK hK13 ?_
 refine WS fun _ hK18 => ?_
 refine rS (LW 4 rfl tk24 rfl rfl) ?_
 refine rS (LW 3 rfl tk28 rfl rfl) ?_
 refine cX (rHeads_c ts tsA tsC s (by first | assumption | omega | (simp; done) | (simp; omega)) hside hc) (ha_at 5 rfl rfl <| ha_nil) rfl fun y19 hy20 => ?_
 obtain ⟨a21, c22⟩ := y19
 change RJ _ _ _ _ _ ((_, (Value.tuple [(Value.slice a21 ((spansU s ts).length) c22), (Value.int .i64 (bothE s ts))].toArray)) :: _) ((own a21 c22 26 2 ((spansU s ts).map SpanV.cells)) :: _)
 refine rS (MV rfl) ?_
 refine rS (EX rfl) ?_
 refine rS (EX rfl) ?_
 refine rS (AG rfl) ?_
 refine rS (AG rfl) ?_
 refine RK hK18 ?_
 refine WS fun _ hK23 => ?_
 refine rS (LW 2 rfl tk24 rfl rfl) ?_
 refine rS (LW 4 rfl tk28 rfl rfl) ?_
 refine rS (MV rfl) ?_
 refine rS (CL (speed_c ts a10 c11 s mark (by first | assumption | omega | (simp; done) | (simp; omega)) hside) (ha_cons (has_own_n (n := ts.length) 3 rfl (by simp)) <| ha_nil) rfl) ?_
 refine rS (MV rfl) ?_
 refine rS (EX rfl) ?_
 refine rS (EX rfl) ?_
 refine AL rfl tz26 fun b24 => ?_
 refine SW0 rfl ts26 rfl ?_
 refine rS (AG rfl) ?_
 refine RK hK23 ?_
 refine WS fun _ hK25 => ?_
 refine rS (LW 6 rfl tk24 rfl rfl) ?_
 refine rS (LW 5 rfl tk28 rfl rfl) ?_
 refine rS (MV rfl) ?_
 refine rS (CL (rSpeed_c ts tsA tsC s mark (by first | assumption | omega | (simp; done) | (simp; omega)) hside hc) (ha_at 7 rfl rfl <| ha_nil) rfl) ?_
 refine rS (MV rfl) ?_
 refine rS (EX rfl) ?_
 refine rS (EX rfl) ?_
 refine AL rfl tz26 fun b26 => ?_
 refine SW0 rfl ts26 rfl ?_
 refine rS (AG rfl) ?_
 refine RK hK25 ?_
 refine WS fun _ hK27 => ?_
 refine rS (LW 4 rfl tk24 rfl rfl) ?_
 refine rS (LW 6 rfl tk28 rfl rfl) ?_
 refine rS (MV rfl) ?_
 refine rS (CL (height_c ts a10 c11 s i (by first | assumption | omega | (simp; done) | (simp; omega)) hside) (ha_cons (has_own_n (n := ts.length) 5 rfl (by simp)) <| ha_nil) rfl) ?_
 refine rS (MV rfl) ?_
 refine rS (EX rfl) ?_
 refine rS (EX rfl) ?_
 refine AL rfl tz26 fun b28 => ?_
 refine SW0 rfl ts26 rfl ?_
 refine rS (AG rfl) ?_
 refine RK hK27 ?_
 refine WS fun _ hK29 => ?_
 refine rS (LW 8 rfl tk24 rfl rfl) ?_
 refine rS (LW 7 rfl tk28 rfl rfl) ?_
 refine rS (MV rfl) ?_
 refine rS (CL (rHeight_c ts tsA tsC s i (by first | assumption | omega | (simp; done) | (simp; omega)) hside hc) (ha_at 9 rfl rfl <| ha_nil) rfl) ?_
 refine rS (MV rfl) ?_
 refine rS (EX rfl) ?_
 refine rS (EX rfl) ?_
 refine AL rfl tz26 fun b30 => ?_
 refine SW0 rfl ts26 rfl ?_
 refine rS (AG rfl) ?_
 refine RK hK29 ?_
 refine WS fun _ hK31 => ?_
 refine rS (LW 6 rfl tk24 rfl rfl) ?_
 refine rS (LW 8 rfl tk28 rfl rfl) ?_
 refine rS (MV rfl) ?_
 refine rS (CL (least_c ts a10 c11 s i (by first | assumption | omega | (simp; done) | (simp; omega)) hside) (ha_cons (has_own_n (n := ts.length) 7 rfl (by simp)) <| ha_nil) rfl) ?_
 refine rS (MV rfl) ?_
 refine rS (EX rfl) ?_
 refine rS (EX rfl) ?_
 refine rS (AG rfl) ?_
 refine rS (AG rfl) ?_
 refine RK hK31 ?_
 refine WS fun _ hK32 => ?_
 refine rS (LW 9 rfl tk24 rfl rfl) ?_
 refine rS (LW 8 rfl tk28 rfl rfl) ?_
 refine rS (MV rfl) ?_
 refine rS (CL (rLeast_c ts tsA tsC s i (by first | assumption | omega | (simp; done) | (simp; omega)) hside hc) (ha_at 10 rfl rfl <| ha_nil) rfl) ?_
 refine rS (MV rfl) ?_
 refine rS (EX rfl) ?_
 refine rS (EX rfl) ?_
 refine rS (AG rfl) ?_
 refine rS (AG rfl) ?_
 refine RK hK32 ?_
 refine w_seq fun _ hK33 => ?_
 refine w_draw mixed 51 (by kernel_rfl) ?_
 refine dS (LW 8 rfl tk28 rfl rfl) ?_
 refine dS (CL (scheck_c s) (ha_nil) rfl) ?_
 refine dS (LW 8 rfl tk28 rfl rfl) ?_
 refine dS (CL (check3_c s hc) (ha_nil) rfl) ?_
 refine dS (BI rfl b_eql) ?_
 refine dS (MV rfl) ?_
 refine d_bool (t := 89) rfl (fun h34 => ?_) (fun h34 => ?_)
 rotate_left 1
 · replace h34 := DF h34
   exact absurd rfl h34
 replace h34 := DT h34
 refine dS (MV rfl) ?_
 refine dS (MV rfl) ?_
 have hsu : (spansU s ts).length ≤ ts.length + 1 := by unfold spansU; split <;> simp [spansL_length]
 refine dS (CL (samespans_c (spansU s ts) a16 c17 (spansU s ts) a21 c22 (by first | assumption | omega | (simp; done) | (simp; omega)) (by first | assumption | omega | (simp; done) | (simp; omega))) (ha_cons (has_own_n (n := (spansU s ts).length) 5 rfl (by simp)) <| ha_cons (has_own_n (n := (spansU s ts).length) 4 rfl (by simp)) <| ha_nil) rfl) ?_
 refine dS (PK rfl) ?_
 refine dS (MV rfl) ?_
 refine d_bool (t := 94) rfl (fun h35 => ?_) (fun h35 => ?_)
 rotate_left 1
 · replace h35 := DF h35
   exact absurd rfl h35
 replace h35 := DT h35
 refine dS (MV rfl) ?_
 refine dS (MV rfl) ?_
 refine dS (BI rfl b_eql) ?_
 refine dS (PK rfl) ?_
 refine dS (MV rfl) ?_
 refine d_bool (t := 99) rfl (fun h36 => ?_) (fun h36 => ?_)
 rotate_left 1
 · replace h36 := DF h36
   exact absurd rfl h36
 replace h36 := DT h36
 refine dS (LW 3 rfl tk26 rfl rfl) ?_
 refine dS (LW 2 rfl tk26 rfl rfl) ?_
 refine dS (BI rfl (eqs26 _ _ (speedV s ts mark) (speedV s ts mark))) ?_
 refine dS (PK rfl) ?_
 refine dS (MV rfl) ?_
 refine d_bool (t := 104) rfl (fun h37 => ?_) (fun h37 => ?_)
 rotate_left 1
 · replace h37 := DF h37
   exact absurd rfl h37
 replace h37 := DT h37
 refine dS (MV rfl) ?_
 refine dS (MV rfl) ?_
 refine dS (BI rfl b_eql) ?_
 refine dS (PK rfl) ?_
 refine dS (MV rfl) ?_
 refine d_bool (t := 109) rfl (fun h38 => ?_) (fun h38 => ?_)
 rotate_left 1
 · replace h38 := DF h38
   exact absurd rfl h38
 replace h38 := DT h38
 refine dS (LW 1 rfl tk26 rfl rfl) ?_
 refine dS (LW 0 rfl tk26 rfl rfl) ?_
 refine dS (BI rfl (eqs26 _ _ (heightV s ts i) (heightV s ts i))) ?_
 refine dS (PK rfl) ?_
 refine dS (MV rfl) ?_
 refine d_bool (t := 114) rfl (fun h39 => ?_) (fun h39 => ?_)
 rotate_left 1
 · replace h39 := DF h39
   exact absurd rfl h39
 replace h39 := DT h39
 refine dS (MV rfl) ?_
 refine dS (MV rfl) ?_
 refine dS (BI rfl b_eql) ?_
 refine dS (PK rfl) ?_
 refine dS (MV rfl) ?_
 refine d_bool (t := 119) rfl (fun h40 => ?_) (fun h40 => ?_)
 rotate_left 1
 · replace h40 := DF h40
   exact absurd rfl h40
 replace h40 := DT h40
 refine dS (MV rfl) ?_
 refine dS (MV rfl) ?_
 refine dS (BI rfl b_eql) ?_
 refine dS (PK rfl) ?_
 refine dS (MV rfl) ?_
 refine d_bool (t := 124) rfl (fun h41 => ?_) (fun h41 => ?_)
 rotate_left 1
 · replace h41 := DF h41
   exact absurd rfl h41
 replace h41 := DT h41
 refine dS (MV rfl) ?_
 refine dS (MV rfl) ?_
 refine dS (BI rfl b_eql) ?_
 refine dS (PK rfl) ?_
 refine dS (MV rfl) ?_
 refine d_bool (t := 129) rfl (fun h42 => ?_) (fun h42 => ?_)
 rotate_left 1
 · replace h42 := DF h42
   exact absurd rfl h42
 replace h42 := DT h42
 refine dS (LW 6 rfl tk24 rfl rfl) ?_
 refine dS (LW 9 rfl tk24 rfl rfl) ?_
 refine dS (CL (same_c ts a10 c11 ts tsA tsC (by first | assumption | omega | (simp; done) | (simp; omega)) (by first | assumption | omega | (simp; done) | (simp; omega))) (ha_cons (has_own_n (n := ts.length) 7 rfl (by simp)) <| ha_at 10 rfl rfl <| ha_nil) rfl) ?_
 refine dS (PK rfl) ?_
 refine dS (AG rfl) ?_
 refine d_end ?_
 refine RK hK33 ?_
 refine w_ret ?_
 refine Q1 hQ rfl rfl rfl ?_
 first | rfl | simp

set_option maxRecDepth 100000 in
set_option maxHeartbeats 400000 in
theorem isnan_c (x : Int) :
    FnV Try.prog 138 [(Value.int .i64 x)] [] (Value.bool false) := by
 refine fnV_of go138 Try.func138 rfl rfl fun w0 Q hQ hN => ?_
 change WJ _ _ _ _ [(0, (Value.int .i64 x))] []
 refine WS fun _ hK1 => ?_
 refine rS (AG rfl) ?_
 refine RK hK1 ?_
 refine WS fun _ hK2 => ?_
 refine rS (MV rfl) ?_
 refine rS (MV rfl) ?_
 refine rS (BI rfl b_neq) ?_
 refine rS (AG rfl) ?_
 refine RK hK2 ?_
 refine w_ret ?_
 refine Q1 hQ rfl rfl rfl ?_
 simp

set_option maxRecDepth 100000 in
set_option maxHeartbeats 400000 in
theorem less_c (x : Int) (y : Int) :
    FnV Try.prog 128 [(Value.int .i64 x), (Value.int .i64 y)] [] (Value.bool (decide (x < y))) := by
 refine fnV_of go128 Try.func128 rfl rfl fun w0 Q hQ hN => ?_
 change WJ _ _ _ _ [(0, (Value.int .i64 x)), (1, (Value.int .i64 y))] []
 refine WS fun _ hK1 => ?_
 refine rS (AG rfl) ?_
 refine RK hK1 ?_
 refine WS fun _ hK2 => ?_
 refine rS (MV rfl) ?_
 refine rS (CL (isnan_c x) (ha_nil) rfl) ?_
 refine rS (MV rfl) ?_
 refine rS (OX rfl) ?_
 refine rS (OX rfl) ?_
 refine rS (OX rfl) ?_
 refine rS (PK rfl) ?_
 refine rS (MV rfl) ?_
 refine rS (MV rfl) ?_
 refine rS (MV rfl) ?_
 refine rS (BI rfl b_lss) ?_
 refine rS (PK rfl) ?_
 refine rS (AG rfl) ?_
 refine RK hK2 ?_
 refine w_ret ?_
 refine Q1 hQ rfl rfl rfl ?_
 exact congrArg Value.bool (decide_eq_decide.2 (by omega))

set_option maxRecDepth 100000 in
set_option maxHeartbeats 400000 in
theorem inssort_c (l : List Int) (lA : Option Addr) (lC : Nat) (hlen : l.length ≤ 1000000) :
    FnM Try.prog 122 [(Value.slice lA l.length lC), (Value.int .i64 0), (Value.int .i64 ((l.length : Nat) : Int))] [] (own lA lC 3 1 (l.map iC)) (fun (x : (List Int)) => (Value.tuple [].toArray)) (fun (x : (List Int)) => x.Perm l ∧ x.Pairwise (· ≤ ·)) (fun (x : (List Int)) => (own lA lC 3 1 (x.map iC))) := by
 refine fnM_of go122 Try.func122 rfl rfl fun w0 Q hQ hN => ?_
 change WJ _ _ _ _ [(0, (Value.slice lA l.length lC)), (1, (Value.int .i64 0)), (2, (Value.int .i64 ((l.length : Nat) : Int)))] [(own lA lC 3 1 (l.map iC))]
 refine WS fun _ hK1 => ?_
 refine rS (MV rfl) ?_
 refine rS (SX (sd_bin (r := .int .i64 1) rfl rfl rfl (b_add ⟨by decide, by decide⟩)) rfl rfl) ?_
 refine rS (AG rfl) ?_
 refine RK hK1 ?_
 refine w_block ?_
 have hinit : (1 ≤ 1 ∧ (1 ≤ l.length ∨ 1 = 1)) ∧ (l.length = l.length) ∧ (l.Perm l) ∧ (Srt l 1) := by exact ⟨by omega, rfl, List.Perm.refl _, srt_one⟩
 refine w_loop (ι := { z : Nat × (List Int) // (1 ≤ z.1 ∧ (z.1 ≤ l.length ∨ z.1 = 1)) ∧ (z.2.length = l.length) ∧ (z.2.Perm l) ∧ (Srt z.2 z.1) }) (fun z => [(0, (Value.slice lA l.length lC)), (1, (Value.int .i64 0)), (2, (Value.int .i64 ((l.length : Nat) : Int))), (6, (Value.int .i64 (z.1.1 : Int)))]) (fun z => [(own lA lC 3 1 (z.1.2.map iC))]) (fun z => l.length - z.1.1) ⟨(1, l), hinit⟩ (Sub.cons rfl <| Sub.cons rfl <| Sub.cons rfl <| Sub.cons rfl <| Sub.nil _) (fun w hs => St.sel [0] rfl rfl hs) ?_
 clear hinit
 rintro ⟨⟨i, m⟩, ⟨hl1_0, hl1_1, hl1_2, hl1_3⟩⟩ J2 hJ2
 try dsimp only at hl1_0 hl1_1 hl1_2 hl1_3
 change WJ _ _ _ _ [(0, (Value.slice lA l.length lC)), (1, (Value.int .i64 0)), (2, (Value.int .i64 ((l.length : Nat) : Int))), (6, (Value.int .i64 (i : Int)))] [(own lA lC 3 1 (m.map iC))]
 refine w_seq fun _ hK3 => ?_
 refine WS fun _ hK4 => ?_
 refine rS (MV rfl) ?_
 refine rS (MV rfl) ?_
 refine rS (BI rfl b_lss) ?_
 refine RK hK4 ?_
 refine w_if rfl (fun h5 => ?_) (fun h5 => ?_)
 rotate_left 1
 · replace h5 := DF h5
   refine w_exit ?_
   refine k_exit_then ?_
   refine k_exit_then ?_
   refine k_exit_same ?_
   refine hN _ _ _ (l_nil (vs := []) trivial fun w hs => endM m 0 ?_ ?_ rfl rfl hs)
   · clear hs w hQ hN hK4 hK3 hK1; rfl
   · clear hs w hQ hN hK4 hK3 hK1; exact ⟨hl1_2, srt_all hl1_3 (by omega)⟩
 replace h5 := DT h5
 refine WK hK3 ?_
 refine w_seq fun _ hK6 => ?_
 refine w_block ?_
 refine WS fun _ hK7 => ?_
 refine rS (MV rfl) ?_
 refine rS (AG rfl) ?_
 refine RK hK7 ?_
 refine w_block ?_
 have hinit : (i ≤ i) ∧ (m.length = l.length) ∧ (m.Perm l) ∧ (Ins m i i) := by exact ⟨Nat.le_refl _, hl1_1, hl1_2, ins_start hl1_3 (by omega)⟩
 refine w_loop (ι := { z : Nat × (List Int) // (z.1 ≤ i) ∧ (z.2.length = l.length) ∧ (z.2.Perm l) ∧ (Ins z.2 i z.1) }) (fun z => [(0, (Value.slice lA l.length lC)), (1, (Value.int .i64 0)), (2, (Value.int .i64 ((l.length : Nat) : Int))), (6, (Value.int .i64 (i : Int))), (7, (Value.int .i64 ((z.1.1 : Nat) : Int)))]) (fun z => [(own lA lC 3 1 (z.1.2.map iC))]) (fun z => z.1.1) ⟨(i, m), hinit⟩ (Sub.cons rfl <| Sub.cons rfl <| Sub.cons rfl <| Sub.cons rfl <| Sub.cons rfl <| Sub.nil _) (fun w hs => St.sel [0] rfl rfl hs) ?_
 clear hinit
 rintro ⟨⟨j, q⟩, ⟨hl4_0, hl4_1, hl4_2, hl4_3⟩⟩ J8 hJ8
 try dsimp only at hl4_0 hl4_1 hl4_2 hl4_3
 change WJ _ _ _ _ [(0, (Value.slice lA l.length lC)), (1, (Value.int .i64 0)), (2, (Value.int .i64 ((l.length : Nat) : Int))), (6, (Value.int .i64 (i : Int))), (7, (Value.int .i64 ((j : Nat) : Int)))] [(own lA lC 3 1 (q.map iC))]
 refine w_seq fun _ hK9 => ?_
 refine w_seq fun _ hK10 => ?_
 refine w_draw mixed 15 (by kernel_rfl) ?_
 refine dS (MV rfl) ?_
 refine dS (MV rfl) ?_
 refine dS (BI rfl b_gtr) ?_
 refine dS (MV rfl) ?_
 refine d_bool (t := 19) rfl (fun hj => ?_) (fun hj => ?_)
 rotate_left 1
 · replace hj := DF hj
   refine dS (OX rfl) ?_
   refine dS (OX rfl) ?_
   refine dS (OX rfl) ?_
   refine dS (OX rfl) ?_
   refine dS (OX rfl) ?_
   refine dS (OX rfl) ?_
   refine dS (OX rfl) ?_
   refine dS (OX rfl) ?_
   refine dS (OX rfl) ?_
   refine dS (OX rfl) ?_
   refine dS (PK rfl) ?_
   refine d_end ?_
   refine RK hK10 ?_
   refine w_if_false rfl ?_
   refine w_exit ?_
   refine k_exit_then ?_
   refine k_exit_then ?_
   refine k_exit_same ?_
   refine k_block ?_
   refine KK hK6 ?_
   refine w_region ?_
   refine rS (MV rfl) ?_
   refine rS (BI rfl (b_add ⟨by omega, by omega⟩)) ?_
   refine rS (AG rfl) ?_
   refine r_nil ?_
   refine k_then (hJ2 ⟨((i + 1), q), ⟨by omega, hl4_1, hl4_2, by first | exact ins_zero (by omega) hl4_3 | exact ins_stop hx hy (by omega) hl4_0 hless hl4_3⟩⟩ _ _ _ rfl (by simp only []; omega) (Sub.cons rfl <| Sub.cons rfl <| Sub.cons rfl <| Sub.cons rfl <| Sub.nil _) (fun w hs => St.sel [0] rfl rfl hs))
 replace hj := DT hj
 refine dS (MV rfl) ?_
 refine dS (MV rfl) ?_
 obtain ⟨x, hx⟩ : ∃ y_, q[j]? = some y_ := ⟨q[j]'(by omega), List.getElem?_eq_getElem _⟩
 have hxm : (q.map iC)[j]? = some (iC x) := by rw [List.getElem?_map, hx]; rfl
 refine dS (IA j rfl (has_own_n (n := l.length) 0 rfl (by first | (simp; done) | (simp; omega))) te61 (by decide) (by omega) (by omega)) ?_
 refine dS (LE1 j 0 (Value.int .i64 x) rfl tk3 (has_own_n (n := q.length) 0 rfl (by simp)) hxm rfl (by decide) rfl) ?_
 refine dS (MV rfl) ?_
 refine dS (MV rfl) ?_
 refine dS (BI rfl (b_sub ⟨by omega, by omega⟩)) ?_
 obtain ⟨y, hy⟩ : ∃ y_, q[(j - 1)]? = some y_ := ⟨q[(j - 1)]'(by omega), List.getElem?_eq_getElem _⟩
 have hym : (q.map iC)[(j - 1)]? = some (iC y) := by rw [List.getElem?_map, hy]; rfl
 refine dS (IA (j - 1) rfl (has_own_n (n := l.length) 0 rfl (by first | (simp; done) | (simp; omega))) te61 (by decide) (by omega) (by omega)) ?_
 refine dS (LE1 (j - 1) 0 (Value.int .i64 y) rfl tk3 (has_own_n (n := q.length) 0 rfl (by simp)) hym rfl (by decide) rfl) ?_
 refine dS (CL (less_c x y) (ha_nil) rfl) ?_
 refine dS (PK rfl) ?_
 refine d_end ?_
 refine RK hK10 ?_
 refine w_if rfl (fun hless => ?_) (fun hless => ?_)
 rotate_left 1
 · replace hless := DF hless
   refine w_exit ?_
   refine k_exit_then ?_
   refine k_exit_then ?_
   refine k_exit_same ?_
   refine k_block ?_
   refine KK hK6 ?_
   refine w_region ?_
   refine rS (MV rfl) ?_
   refine rS (BI rfl (b_add ⟨by omega, by omega⟩)) ?_
   refine rS (AG rfl) ?_
   refine r_nil ?_
   refine k_then (hJ2 ⟨((i + 1), q), ⟨by omega, hl4_1, hl4_2, by first | exact ins_zero (by omega) hl4_3 | exact ins_stop hx hy (by omega) hl4_0 hless hl4_3⟩⟩ _ _ _ rfl (by simp only []; omega) (Sub.cons rfl <| Sub.cons rfl <| Sub.cons rfl <| Sub.cons rfl <| Sub.nil _) (fun w hs => St.sel [0] rfl rfl hs))
 replace hless := DT hless
 refine WK hK9 ?_
 refine w_seq fun _ hK11 => ?_
 refine w_block ?_
 refine w_draw4 mixed [0, 1, 2, 3, 4, 5, 6, 7, 8, 9, 10, 11, 12, 13, 14] [15, 16, 17] [false, false, false, false, false, false, false, false, true, true, false, false, true, true, true] [false, false, false] [] [(own lA lC 3 1 (q.map iC))] (by kernel_rfl) (fun w hs => St.sel [] rfl rfl hs) (fun w hs => St.sel [0] rfl rfl hs) ?_
 refine eS rfl (MV rfl) ?_
 refine eS rfl (MV rfl) ?_
 refine eS rfl (MV rfl) ?_
 refine eS rfl (MV rfl) ?_
 refine eS rfl (BI rfl (b_sub ⟨by omega, by omega⟩)) ?_
 refine eS rfl (MV rfl) ?_
 refine eS rfl (MV rfl) ?_
 refine eS rfl (BI rfl (b_sub ⟨by omega, by omega⟩)) ?_
 refine fS rfl (IA (j - 1) rfl (has_own_n (n := l.length) 0 rfl (by first | (simp; done) | (simp; omega))) te61 (by decide) (by omega) (by omega)) ?_
 refine fS rfl (LE1 (j - 1) 0 (Value.int .i64 y) rfl tk3 (has_own_n (n := q.length) 0 rfl (by simp)) hym rfl (by decide) rfl) ?_
 refine eS rfl (MV rfl) ?_
 refine eS rfl (MV rfl) ?_
 refine fS rfl (IA j rfl (has_own_n (n := l.length) 0 rfl (by first | (simp; done) | (simp; omega))) te61 (by decide) (by omega) (by omega)) ?_
 refine fS rfl (LE1 j 0 (Value.int .i64 x) rfl tk3 (has_own_n (n := q.length) 0 rfl (by simp)) hxm rfl (by decide) rfl) ?_
 refine fS rfl (IA j rfl (has_own_n (n := l.length) 0 rfl (by first | (simp; done) | (simp; omega))) te61 (by decide) (by omega) (by omega)) ?_
 refine d_fin rfl ?_
 refine t_cons rfl fun T12 hT12 => ?_
 refine r_store_own (k := j) (o := 0) (vs := [(Value.int .i64 y)]) (es' := (List.map iC (q.set j y))) (C' := [(own lA lC 3 1 (List.map iC (q.set j y)))]) 0 rfl rfl rfl ts3 rfl rfl rfl rfl hxm rfl (by decide) (by exact (List.map_set (f := iC) (l := q) (i := j) (a := y)).symm) rfl ?_
 refine r_nil (hT12 _ _ (fun w hs => St.sel [] rfl rfl hs) ?_)
 refine t_cons rfl fun T13 hT13 => ?_
 obtain ⟨x14, hx15⟩ : ∃ y_, (q.set j y)[(j - 1)]? = some y_ := ⟨(q.set j y)[(j - 1)]'(by first | omega | (simp; omega)), List.getElem?_eq_getElem _⟩
 have hx15m : (List.map iC (q.set j y))[(j - 1)]? = some (iC x14) := by rw [List.getElem?_map, hx15]; rfl
 refine rS (IA (j - 1) rfl (has_own_n (n := l.length) 0 rfl (by first | (simp; done) | (simp; omega))) te61 (by decide) (by omega) (by omega)) ?_
 refine r_nil (hT13 _ _ (fun w hs => St.sel [] rfl rfl hs) ?_)
 refine t_cons rfl fun T16 hT16 => ?_
 refine r_store_own (k := (j - 1)) (o := 0) (vs := [(Value.int .i64 x)]) (es' := (List.map iC ((q.set j y).set (j - 1) x))) (C' := [(own lA lC 3 1 (List.map iC ((q.set j y).set (j - 1) x)))]) 0 rfl rfl rfl ts3 rfl rfl rfl rfl hx15m rfl (by decide) (by exact (List.map_set (f := iC) (l := (q.set j y)) (i := (j - 1)) (a := x)).symm) rfl ?_
 refine r_nil (hT16 _ _ (fun w hs => St.sel [] rfl rfl hs) ?_)
 refine t_fin rfl ?_
 refine k_block ?_
 refine KK hK11 ?_
 refine w_region ?_
 refine rS (MV rfl) ?_
 refine rS (BI rfl (b_sub ⟨by omega, by omega⟩)) ?_
 refine rS (AG rfl) ?_
 refine r_nil ?_
 have hb17 : (Value.int .i64 (((j - 1) : Nat) : Int)) = (Value.int .i64 (((j : Nat) : Int) - 1)) := by exact congrArg (Value.int .i64) (by omega)
 refine k_then (hJ8 ⟨((j - 1), ((q.set j y).set (j - 1) x)), ⟨by omega, by simp; exact hl4_1, (swap_perm hx hy).trans hl4_2, ins_step hx hy (by omega) hl4_0 hless hl4_3⟩⟩ _ _ _ rfl (by simp only []; omega) (Sub.cons rfl <| Sub.cons rfl <| Sub.cons rfl <| Sub.cons rfl <| sub_val rfl hb17 <| Sub.nil _) (fun w hs => St.sel [0] rfl rfl hs))

set_option maxRecDepth 100000 in
set_option maxHeartbeats 400000 in
theorem len64_c (x : Int) (hx : 0 ≤ x ∧ x ≤ 100) :
    FnX Try.prog 132 [(Value.int .u64 x)] [] (fun (x : Int) => (Value.int .i64 x)) (fun (x : Int) => True) (fun (x : Int) => []) := by
 refine fnX_of go132 Try.func132 rfl rfl fun w0 Q hQ hN => ?_
 change WJ _ _ _ _ [(0, (Value.int .u64 x))] []
 refine WS fun _ hK1 => ?_
 refine rS (AG rfl) ?_
 refine RK hK1 ?_
 refine w_seq fun _ hK2 => ?_
 refine WS fun _ hK3 => ?_
 refine rS (MV rfl) ?_
 refine rS (BI rfl b_geq) ?_
 refine RK hK3 ?_
 refine w_if rfl (fun h4 => ?_) (fun h4 => ?_)
 · replace h4 := DT h4
   exfalso; omega
 replace h4 := DF h4
 refine WK hK2 ?_
 refine w_seq fun _ hK5 => ?_
 refine WS fun _ hK6 => ?_
 refine rS (MV rfl) ?_
 refine rS (BI rfl b_geq) ?_
 refine RK hK6 ?_
 refine w_if rfl (fun h7 => ?_) (fun h7 => ?_)
 · replace h7 := DT h7
   exfalso; omega
 replace h7 := DF h7
 refine WK hK5 ?_
 refine w_seq fun _ hK8 => ?_
 refine WS fun _ hK9 => ?_
 refine rS (MV rfl) ?_
 refine rS (BI rfl b_geq) ?_
 refine RK hK9 ?_
 refine w_if rfl (fun h10 => ?_) (fun h10 => ?_)
 · replace h10 := DT h10
   exfalso; omega
 replace h10 := DF h10
 refine WK hK8 ?_
 refine WS fun _ hK11 => ?_
 refine rS (MV rfl) ?_
 refine rS (MV rfl) ?_
 refine rS (SX (sd_conv (m := x) rfl rfl ut194 ut5 (wrap_u64_u8 (by first | assumption | omega))) rfl rfl) ?_
 refine r_sidx (k := (x).toNat) rfl rfl rfl ut9 (by omega) (Nat.lt_of_lt_of_le (m := 200) (by omega) (of_decide_eq_true (by kernel_rfl))) rfl fun b12 hb13 => ?_
 refine rS (SX (sd_conv (m := b12) rfl rfl ut5 ut3 (wrap_u8_i64 (by first | assumption | omega))) rfl rfl) ?_
 refine rS (BI rfl (b_add ⟨by omega, by omega⟩)) ?_
 refine rS (AG rfl) ?_
 refine RK hK11 ?_
 refine w_ret ?_
 refine hQ _ _ _ (l_nil (vs := [(Value.int .i64 (0 + b12))]) ⟨rfl, trivial⟩ fun w hs => endX (0 + b12) [] ?_ ?_ rfl rfl rfl hs)
 · rfl
 · trivial

set_option maxRecDepth 100000 in
set_option maxHeartbeats 400000 in
theorem blen_c (x : Int) (hx : 0 ≤ x ∧ x ≤ 100) :
    FnX Try.prog 114 [(Value.int .u64 x)] [] (fun (x : Int) => (Value.int .i64 x)) (fun (x : Int) => True) (fun (x : Int) => []) := by
 refine fnX_of go114 Try.func114 rfl rfl fun w0 Q hQ hN => ?_
 change WJ _ _ _ _ [(0, (Value.int .u64 x))] []
 refine WS fun _ hK1 => ?_
 refine rS (AG rfl) ?_
 refine RK hK1 ?_
 refine w_seq fun _ hK2 => ?_
 refine w_if_false rfl ?_
 refine WK hK2 ?_
 refine WS fun _ hK3 => ?_
 refine rS (MV rfl) ?_
 refine cX (len64_c x hx) (ha_nil) rfl fun n6 hy5 => ?_
 change RJ _ _ _ _ _ ((_, (Value.int .i64 n6)) :: _) (_)
 refine rS (AG rfl) ?_
 refine RK hK3 ?_
 refine w_ret ?_
 refine hQ _ _ _ (l_nil (vs := [(Value.int .i64 n6)]) ⟨rfl, trivial⟩ fun w hs => endX n6 [] ?_ ?_ rfl rfl rfl hs)
 · rfl
 · trivial

set_option maxRecDepth 100000 in
set_option maxHeartbeats 400000 in
theorem pdq_c (l : List Int) (lA : Option Addr) (lC : Nat) (u : Int) (hlen : l.length ≤ 12) :
    FnM Try.prog 113 [(Value.slice lA l.length lC), (Value.int .i64 0), (Value.int .i64 ((l.length : Nat) : Int)), (Value.int .i64 u)] [] (own lA lC 3 1 (l.map iC)) (fun (x : (List Int)) => (Value.tuple [].toArray)) (fun (x : (List Int)) => x.Perm l ∧ x.Pairwise (· ≤ ·)) (fun (x : (List Int)) => (own lA lC 3 1 (x.map iC))) := by
 refine fnM_of go113 Try.func113 rfl rfl fun w0 Q hQ hN => ?_
 change WJ _ _ _ _ [(0, (Value.slice lA l.length lC)), (1, (Value.int .i64 0)), (2, (Value.int .i64 ((l.length : Nat) : Int))), (3, (Value.int .i64 u))] [(own lA lC 3 1 (l.map iC))]
 refine WS fun _ hK1 => ?_
 refine rS (AG rfl) ?_
 refine RK hK1 ?_
 refine WS fun _ hK2 => ?_
 refine rS (AG rfl) ?_
 refine RK hK2 ?_
 refine w_block ?_
 refine w_rounds 1 ?_
 refine ro_succ fun R3 hR3 => ?_
 refine w_block ?_
 refine WS fun _ hK4 => ?_
 refine rS (MV rfl) ?_
 refine rS (MV rfl) ?_
 refine rS (BI rfl (b_sub ⟨by omega, by omega⟩)) ?_
 refine rS (AG rfl) ?_
 refine RK hK4 ?_
 refine w_seq fun _ hK5 => ?_
 refine WS fun _ hK6 => ?_
 refine rS (MV rfl) ?_
 refine rS (BI rfl b_leq) ?_
 refine RK hK6 ?_
 refine w_if rfl (fun h7 => ?_) (fun h7 => ?_)
 rotate_left 1
 · replace h7 := DF h7
   exfalso; omega
 replace h7 := DT h7
 refine WS fun _ hK8 => ?_
 refine rS (MV rfl) ?_
 refine rS (MV rfl) ?_
 refine rS (MV rfl) ?_
 refine r_callm 0 rfl rfl rfl rfl (inssort_c l lA lC (by first | assumption | omega | (simp; done) | (simp; omega))) rfl cv_nil rfl (fun m9 hy11 => ?_)
 change RJ _ _ _ _ _ ((_, (Value.tuple [].toArray)) :: _) [(own lA lC 3 1 (m9.map iC))]
 refine RK hK8 ?_
 refine w_ret ?_
 refine hQ _ _ _ (l_nil (vs := []) trivial fun w hs => endM m9 0 ?_ ?_ rfl rfl hs)
 · clear hs w hQ hN hK8 hK6 hK5 hK4 hK2 hK1; rfl
 · clear hs w hQ hN hK8 hK6 hK5 hK4 hK2 hK1; assumption

set_option maxRecDepth 100000 in
set_option maxHeartbeats 400000 in
theorem sort_c (l : List Int) (lA : Option Addr) (lC : Nat) (hlen : l.length ≤ 12) :
    FnM Try.prog 98 [(Value.slice lA l.length lC)] [] (own lA lC 3 1 (l.map iC)) (fun (x : (List Int)) => (Value.tuple [].toArray)) (fun (x : (List Int)) => x.Perm l ∧ x.Pairwise (· ≤ ·)) (fun (x : (List Int)) => (own lA lC 3 1 (x.map iC))) := by
 refine fnM_of go98 Try.func98 rfl rfl fun w0 Q hQ hN => ?_
 change WJ _ _ _ _ [(0, (Value.slice lA l.length lC))] [(own lA lC 3 1 (l.map iC))]
 refine WS fun _ hK1 => ?_
 refine rS (MV rfl) ?_
 refine rS (LN rfl ut61) ?_
 refine rS (AG rfl) ?_
 refine RK hK1 ?_
 refine w_region ?_
 refine rS (MV rfl) ?_
 refine rS (MV rfl) ?_
 refine rS (MV rfl) ?_
 refine rS (SX (sd_conv (m := ((l.length : Nat) : Int)) rfl rfl ut3 ut179 (wrap_i64_u64 (by first | assumption | omega))) rfl rfl) ?_
 refine cX (blen_c ((l.length : Nat) : Int) (by first | assumption | omega | (simp; done) | (simp; omega))) (ha_nil) rfl fun n4 hy3 => ?_
 change RJ _ _ _ _ _ ((_, (Value.int .i64 n4)) :: _) (_)
 refine r_callm 0 rfl rfl rfl rfl (pdq_c l lA lC n4 hlen) rfl cv_nil rfl (fun m5 hy7 => ?_)
 change RJ _ _ _ _ _ ((_, (Value.tuple [].toArray)) :: _) [(own lA lC 3 1 (m5.map iC))]
 refine r_nil ?_
 refine hN _ _ _ (l_nil (vs := []) trivial fun w hs => endM m5 0 ?_ ?_ rfl rfl hs)
 · clear hs w hQ hN hK1; rfl
 · clear hs w hQ hN hK1; assumption

end Go.Proofs.Ytpbgdeojcefnmaa
