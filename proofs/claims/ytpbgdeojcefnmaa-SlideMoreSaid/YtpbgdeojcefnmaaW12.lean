/-
  Walks: kreisel/kreiselref03.inside, kreisel/slide.Least, kreisel/slide.Least, kreisel/slide.Least, kreisel/slide.Least, kreisel/slide.Least, kreisel/kreiselref03.Least
-/
import Derived.Test.YtpbgdeojcefnmaaTab
import Derived.Test.YtpbgdeojcefnmaaShort
import Derived.Test.YtpbgdeojcefnmaaW1
import Derived.Test.YtpbgdeojcefnmaaW5
import Derived.Test.YtpbgdeojcefnmaaW6
import Derived.Test.YtpbgdeojcefnmaaW7
import Derived.Test.YtpbgdeojcefnmaaW8
import Derived.Test.YtpbgdeojcefnmaaW9
namespace Go.Proofs.Ytpbgdeojcefnmaa
open Go.RowKit
set_option linter.unusedVariables false

set_option maxRecDepth 100000 in
set_option maxHeartbeats 400000 in
theorem inside_c (ts : List StretchV) (tsA : Option Addr) (tsC : Nat) (s : SledV) (i : Int) (hs : SledOk s) (hst : ∀ x ∈ ts, StretchOk x) (hlen : ts.length ≤ 12) (hi : 0 ≤ i ∧ i < ts.length) :
    FnV Try.prog 73 [(Value.agg (TrackV.cells (TrackV.mk (Slc.mk tsA ts.length tsC))).toArray), (Value.agg (SledV.cells s).toArray), (Value.int .i64 i)] [(rd tsA ts.length 9 (ts.map StretchV.cells))] (Value.agg (SpanV.cells (SpanV.mk (inAt false s ts i.toNat) (inAt true s ts i.toNat))).toArray) := by
 refine fnV_of go73 Try.func73 rfl rfl fun w0 Q hQ hN => ?_
 change WJ _ _ _ _ [(0, (Value.agg (TrackV.cells (TrackV.mk (Slc.mk tsA ts.length tsC))).toArray)), (1, (Value.agg (SledV.cells s).toArray)), (2, (Value.int .i64 i))] [(rd tsA ts.length 9 (ts.map StretchV.cells)).ro]
 refine WS fun _ hK1 => ?_
 refine BXA rfl fun b2 => ?_
 refine BXA rfl fun b3 => ?_
 refine AL rfl tz26 fun b4 => ?_
 refine RK hK1 ?_
 refine WS fun _ hK5 => ?_
 refine rS (LW 2 rfl tk24 rfl rfl) ?_
 refine rS (LW 1 rfl tk28 rfl rfl) ?_
 refine cX (rheads_c ts tsA tsC s hs hst hlen) (ha_at 3 rfl rfl <| ha_nil) rfl fun y6 hy7 => ?_
 obtain ⟨a8, c9⟩ := y6
 change RJ _ _ _ _ _ ((_, (Value.slice a8 ((spansL s ts).length) c9)) :: _) ((own a8 c9 26 2 ((spansL s ts).map SpanV.cells)) :: _)
 refine rS (AG rfl) ?_
 refine RK hK5 ?_
 refine w_seq fun _ hK10 => ?_
 refine w_draw mixed 25 (by kernel_rfl) ?_
 have hsl := spansL_length (s := s) (ts := ts)
 refine dS (MV rfl) ?_
 refine dS (MV rfl) ?_
 obtain ⟨y, hy⟩ : ∃ y_, (spansL s ts)[(i).toNat]? = some y_ := ⟨(spansL s ts)[(i).toNat]'(by omega), List.getElem?_eq_getElem _⟩
 have hym : ((spansL s ts).map SpanV.cells)[(i).toNat]? = some (SpanV.cells y) := by rw [List.getElem?_map, hy]; rfl
 refine dS (IA ((i).toNat) rfl (has_own_n (n := (spansL s ts).length) 0 rfl (by simp)) te31 (by decide) (by omega) (by omega)) ?_
 refine dS (FAR (((i).toNat) * 2) rfl (has_own_n (n := (spansL s ts).length) 0 rfl (by simp)) (Nat.mul_pos (by omega) (by decide)) fo26_0 rfl) ?_
 refine dS (LE1 ((i).toNat) 0 (Value.int .i64 y.Lo) rfl tk3 (has_own_n (n := (spansL s ts).length) 0 rfl (by simp)) hym rfl (by decide) rfl) ?_
 refine dS (MV rfl) ?_
 refine dS (MV rfl) ?_
 refine dS (BI rfl (b_add ⟨by omega, by omega⟩)) ?_
 obtain ⟨z, hz⟩ : ∃ y_, (spansL s ts)[((i + 1)).toNat]? = some y_ := ⟨(spansL s ts)[((i + 1)).toNat]'(by omega), List.getElem?_eq_getElem _⟩
 have hzm : ((spansL s ts).map SpanV.cells)[((i + 1)).toNat]? = some (SpanV.cells z) := by rw [List.getElem?_map, hz]; rfl
 refine dS (IA (((i + 1)).toNat) rfl (has_own_n (n := (spansL s ts).length) 0 rfl (by simp)) te31 (by decide) (by omega) (by omega)) ?_
 refine dS (FAR ((((i + 1)).toNat) * 2) rfl (has_own_n (n := (spansL s ts).length) 0 rfl (by simp)) (Nat.mul_pos (by omega) (by decide)) fo26_0 rfl) ?_
 refine dS (LE1 (((i + 1)).toNat) 0 (Value.int .i64 z.Lo) rfl tk3 (has_own_n (n := (spansL s ts).length) 0 rfl (by simp)) hzm rfl (by decide) rfl) ?_
 refine dS (MX rfl) ?_
 refine dS (MV rfl) ?_
 refine dS (MV rfl) ?_
 refine dS (IA ((i).toNat) rfl (has_own_n (n := (spansL s ts).length) 0 rfl (by simp)) te31 (by decide) (by omega) (by omega)) ?_
 refine dS (FAR ((((i).toNat) * 2) + 1) rfl (has_own_n (n := (spansL s ts).length) 0 rfl (by simp)) (Nat.mul_pos (by omega) (by decide)) fo26_1 rfl) ?_
 refine dS (LE1 ((i).toNat) 1 (Value.int .i64 y.Hi) rfl tk3 (has_own_n (n := (spansL s ts).length) 0 rfl (by simp)) hym rfl (by decide) rfl) ?_
 refine dS (MV rfl) ?_
 refine dS (MV rfl) ?_
 refine dS (BI rfl (b_add ⟨by omega, by omega⟩)) ?_
 refine dS (IA (((i + 1)).toNat) rfl (has_own_n (n := (spansL s ts).length) 0 rfl (by simp)) te31 (by decide) (by omega) (by omega)) ?_
 refine dS (FAR (((((i + 1)).toNat) * 2) + 1) rfl (has_own_n (n := (spansL s ts).length) 0 rfl (by simp)) (Nat.mul_pos (by omega) (by decide)) fo26_1 rfl) ?_
 refine dS (LE1 (((i + 1)).toNat) 1 (Value.int .i64 z.Hi) rfl tk3 (has_own_n (n := (spansL s ts).length) 0 rfl (by simp)) hzm rfl (by decide) rfl) ?_
 refine dS (MX rfl) ?_
 refine dS (SX (sd_build (xs := [(0, .tmp 22), (1, .tmp 34)]) (cs := (SpanV.cells (SpanV.mk (max y.Lo z.Lo) (max y.Hi z.Hi)))) rfl rfl (built_of tb26 rfl)) rfl rfl) ?_
 refine d_end ?_
 refine SW1 rfl ts26 rfl ?_
 refine RK hK10 ?_
 refine w_ret ?_
 refine hQ _ _ _ (l_nil (vs := [(Value.agg (SpanV.cells (SpanV.mk (max y.Lo z.Lo) (max y.Hi z.Hi))).toArray)]) ⟨⟨_, rfl, .inl ⟨_, _, tk26, at_blk (vs := (SpanV.cells (SpanV.mk (max y.Lo z.Lo) (max y.Hi z.Hi)))) 1 rfl rfl, rfl, rfl⟩⟩, trivial⟩ fun w hs => endV ?_ hs)
 show (Value.agg (SpanV.cells (SpanV.mk (max y.Lo z.Lo) (max y.Hi z.Hi))).toArray) = (Value.agg (SpanV.cells (SpanV.mk (inAt false s ts i.toNat) (inAt true s ts i.toNat))).toArray)
 clear hs w hQ hN hK10 hK5 hK1
 have yv : y = spanAt s ts i.toNat := by rw [spansL_get (by omega)] at hy; exact (Option.some.inj hy).symm
 have zv : z = spanAt s ts (i + 1).toNat := by rw [spansL_get (by omega)] at hz; exact (Option.some.inj hz).symm
 have e1 := inAt_spans (best := false) hi.1 (show y.Lo = _ by rw [yv]; rfl) (show z.Lo = _ by rw [zv]; rfl)
 have e2 := inAt_spans (best := true) hi.1 (show y.Hi = _ by rw [yv]; rfl) (show z.Hi = _ by rw [zv]; rfl)
 rw [e1, e2]

set_option maxRecDepth 100000 in
set_option maxHeartbeats 400000 in
theorem least_bad (ts : List StretchV) (tsA : Option Addr) (tsC : Nat) (s : SledV) (i : Int) (hlen : ts.length ≤ 1000000) (hside : ∀ x ∈ ts, 0 ≤ x.Side ∧ x.Side ≤ 255) (htr : trackOk ts = false) :
    FnV Try.prog 24 [(Value.agg (TrackV.cells (TrackV.mk (Slc.mk tsA ts.length tsC))).toArray), (Value.agg (SledV.cells s).toArray), (Value.int .i64 i)] [(rd tsA ts.length 9 (ts.map StretchV.cells))] (Value.tuple [(Value.int .i64 (leastV s ts i)), (Value.int .i64 (leastE s ts i))].toArray) := by
 have hb0 : ¬ bothE s ts = 0 := by rw [bothE_bad htr]; decide
 refine fnV_of go24 Try.func24 rfl rfl fun w0 Q hQ hN => ?_
 change WJ _ _ _ _ [(0, (Value.agg (TrackV.cells (TrackV.mk (Slc.mk tsA ts.length tsC))).toArray)), (1, (Value.agg (SledV.cells s).toArray)), (2, (Value.int .i64 i))] [(rd tsA ts.length 9 (ts.map StretchV.cells)).ro]
 refine WS fun _ hK1 => ?_
 refine BXA rfl fun b2 => ?_
 refine BXA rfl fun b3 => ?_
 refine rS (AG rfl) ?_
 refine rS (AG rfl) ?_
 refine RK hK1 ?_
 refine WS fun _ hK4 => ?_
 refine rS (LW 1 rfl tk24 rfl rfl) ?_
 refine rS (LW 0 rfl tk28 rfl rfl) ?_
 refine rS (CL (open_bad ts tsA tsC s hlen hside htr) (ha_at 2 rfl rfl <| ha_nil) rfl) ?_
 refine rS (MV rfl) ?_
 refine rS (EX rfl) ?_
 refine rS (EX rfl) ?_
 refine rS (EX rfl) ?_
 refine AL rfl tz108 fun b5 => ?_
 refine AL rfl tz108 fun b6 => ?_
 refine SW1 rfl ts108 rfl ?_
 refine SW0 rfl ts108 rfl ?_
 refine rS (AG rfl) ?_
 refine RK hK4 ?_
 refine w_seq fun _ hK7 => ?_
 refine WS fun _ hK8 => ?_
 refine rS (MV rfl) ?_
 refine rS (BI rfl b_neq) ?_
 refine RK hK8 ?_
 refine w_if rfl (fun he => ?_) (fun he => ?_)
 rotate_left 1
 · replace he := XF he
   exact absurd he hb0
 replace he := XT he
 refine WS fun _ hK9 => ?_
 refine rS (MV rfl) ?_
 refine rS (AG rfl) ?_
 refine rS (AG rfl) ?_
 refine RK hK9 ?_
 refine w_ret ?_
 refine Q2 hQ rfl rfl rfl rfl ?_
 rw [(least_no (i := i) hb0).1, (least_no (i := i) hb0).2]

set_option maxRecDepth 100000 in
set_option maxHeartbeats 400000 in
theorem least_sled (ts : List StretchV) (tsA : Option Addr) (tsC : Nat) (s : SledV) (i : Int) (hlen : ts.length ≤ 1000000) (hside : ∀ x ∈ ts, 0 ≤ x.Side ∧ x.Side ≤ 255) (htr : trackOk ts = true) (hns : ¬ SledOk s) :
    FnV Try.prog 24 [(Value.agg (TrackV.cells (TrackV.mk (Slc.mk tsA ts.length tsC))).toArray), (Value.agg (SledV.cells s).toArray), (Value.int .i64 i)] [(rd tsA ts.length 9 (ts.map StretchV.cells))] (Value.tuple [(Value.int .i64 (leastV s ts i)), (Value.int .i64 (leastE s ts i))].toArray) := by
 have hb0 : ¬ bothE s ts = 0 := by rw [bothE_sled htr hns]; decide
 refine fnV_of go24 Try.func24 rfl rfl fun w0 Q hQ hN => ?_
 change WJ _ _ _ _ [(0, (Value.agg (TrackV.cells (TrackV.mk (Slc.mk tsA ts.length tsC))).toArray)), (1, (Value.agg (SledV.cells s).toArray)), (2, (Value.int .i64 i))] [(rd tsA ts.length 9 (ts.map StretchV.cells)).ro]
 refine WS fun _ hK1 => ?_
 refine BXA rfl fun b2 => ?_
 refine BXA rfl fun b3 => ?_
 refine rS (AG rfl) ?_
 refine rS (AG rfl) ?_
 refine RK hK1 ?_
 refine WS fun _ hK4 => ?_
 refine rS (LW 1 rfl tk24 rfl rfl) ?_
 refine rS (LW 0 rfl tk28 rfl rfl) ?_
 refine rS (CL (open_ok ts tsA tsC s hlen hside htr) (ha_at 2 rfl rfl <| ha_nil) rfl) ?_
 refine rS (MV rfl) ?_
 refine rS (EX rfl) ?_
 refine rS (EX rfl) ?_
 refine rS (EX rfl) ?_
 refine AL rfl tz108 fun b5 => ?_
 refine AL rfl tz108 fun b6 => ?_
 refine SW1 rfl ts108 rfl ?_
 refine SW0 rfl ts108 rfl ?_
 refine rS (AG rfl) ?_
 refine RK hK4 ?_
 refine w_seq fun _ hK7 => ?_
 refine WS fun _ hK8 => ?_
 refine rS (MV rfl) ?_
 refine rS (BI rfl b_neq) ?_
 refine RK hK8 ?_
 refine w_if rfl (fun he => ?_) (fun he => ?_)
 rotate_left 1
 · replace he := XF he
   exact absurd he hb0
 replace he := XT he
 refine WS fun _ hK9 => ?_
 refine rS (MV rfl) ?_
 refine rS (AG rfl) ?_
 refine rS (AG rfl) ?_
 refine RK hK9 ?_
 refine w_ret ?_
 refine Q2 hQ rfl rfl rfl rfl ?_
 rw [(least_no (i := i) hb0).1, (least_no (i := i) hb0).2]

set_option maxRecDepth 100000 in
set_option maxHeartbeats 400000 in
theorem least_ok (ts : List StretchV) (tsA : Option Addr) (tsC : Nat) (s : SledV) (i : Int) (hlen : ts.length ≤ 1000000) (hside : ∀ x ∈ ts, 0 ≤ x.Side ∧ x.Side ≤ 255) (htr : trackOk ts = true) (hs : SledOk s) :
    FnV Try.prog 24 [(Value.agg (TrackV.cells (TrackV.mk (Slc.mk tsA ts.length tsC))).toArray), (Value.agg (SledV.cells s).toArray), (Value.int .i64 i)] [(rd tsA ts.length 9 (ts.map StretchV.cells))] (Value.tuple [(Value.int .i64 (leastV s ts i)), (Value.int .i64 (leastE s ts i))].toArray) := by
 have hb0 := bothE_ok htr hs
 have hst := trackOk_all htr
 have hl12 := trackOk_le htr
 have hl1 := trackOk_pos htr
 refine fnV_of go24 Try.func24 rfl rfl fun w0 Q hQ hN => ?_
 change WJ _ _ _ _ [(0, (Value.agg (TrackV.cells (TrackV.mk (Slc.mk tsA ts.length tsC))).toArray)), (1, (Value.agg (SledV.cells s).toArray)), (2, (Value.int .i64 i))] [(rd tsA ts.length 9 (ts.map StretchV.cells)).ro]
 refine WS fun _ hK1 => ?_
 refine BXA rfl fun b2 => ?_
 refine BXA rfl fun b3 => ?_
 refine rS (AG rfl) ?_
 refine rS (AG rfl) ?_
 refine RK hK1 ?_
 refine WS fun _ hK4 => ?_
 refine rS (LW 1 rfl tk24 rfl rfl) ?_
 refine rS (LW 0 rfl tk28 rfl rfl) ?_
 refine rS (CL (open_ok ts tsA tsC s hlen hside htr) (ha_at 2 rfl rfl <| ha_nil) rfl) ?_
 refine rS (MV rfl) ?_
 refine rS (EX rfl) ?_
 refine rS (EX rfl) ?_
 refine rS (EX rfl) ?_
 refine AL rfl tz108 fun b5 => ?_
 refine AL rfl tz108 fun b6 => ?_
 refine SW1 rfl ts108 rfl ?_
 refine SW0 rfl ts108 rfl ?_
 refine rS (AG rfl) ?_
 refine RK hK4 ?_
 refine w_seq fun _ hK7 => ?_
 refine WS fun _ hK8 => ?_
 refine rS (MV rfl) ?_
 refine rS (BI rfl b_neq) ?_
 refine RK hK8 ?_
 refine w_if rfl (fun he => ?_) (fun he => ?_)
 · replace he := XT he
   exact absurd hb0 he
 replace he := XF he
 refine WK hK7 ?_
 refine w_seq fun _ hK9 => ?_
 refine WS fun _ hK10 => ?_
 refine rS (MV rfl) ?_
 refine rS (BI rfl b_lss) ?_
 refine rS (MV rfl) ?_
 refine r_bool (t := 26) rfl (fun h11 => ?_) (fun h11 => ?_)
 · replace h11 := DT h11
   refine rS (OX rfl) ?_
   refine rS (OX rfl) ?_
   refine rS (OX rfl) ?_
   refine rS (OX rfl) ?_
   refine rS (OX rfl) ?_
   refine rS (PK rfl) ?_
   refine RK hK10 ?_
   refine w_if_true rfl ?_
   refine WS fun _ hK12 => ?_
   refine rS (AG rfl) ?_
   refine rS (AG rfl) ?_
   refine RK hK12 ?_
   refine w_ret ?_
   refine Q2 hQ rfl rfl rfl rfl ?_
   first | rw [(least_out (i := i) hb0 (by omega)).1, (least_out (i := i) hb0 (by omega)).2] | rw [(least_none (i := i) hb0 hi hv).1, (least_none (i := i) hb0 hi hv).2] | (have e := least_slide (i := i) hb0 hi (by omega) hx (ceil_yes (by omega) hq); rw [e.1, e.2]) | (have e := least_slide (i := i) hb0 hi (by omega) hx (ceil_no (by omega) (by omega)); rw [e.1, e.2])
 replace h11 := DF h11
 refine rS (MV rfl) ?_
 refine rS (FA 0 rfl fo24_0 rfl) ?_
 refine rS (L1 (Value.slice tsA ts.length tsC) 3 rfl tk22 rfl rfl) ?_
 refine rS (LN rfl ut22) ?_
 refine rS (BI rfl b_geq) ?_
 refine rS (PK rfl) ?_
 refine RK hK10 ?_
 refine w_if rfl (fun h13 => ?_) (fun h13 => ?_)
 · replace h13 := DT h13
   refine WS fun _ hK14 => ?_
   refine rS (AG rfl) ?_
   refine rS (AG rfl) ?_
   refine RK hK14 ?_
   refine w_ret ?_
   refine Q2 hQ rfl rfl rfl rfl ?_
   first | rw [(least_out (i := i) hb0 (by omega)).1, (least_out (i := i) hb0 (by omega)).2] | rw [(least_none (i := i) hb0 hi hv).1, (least_none (i := i) hb0 hi hv).2] | (have e := least_slide (i := i) hb0 hi (by omega) hx (ceil_yes (by omega) hq); rw [e.1, e.2]) | (have e := least_slide (i := i) hb0 hi (by omega) hx (ceil_no (by omega) (by omega)); rw [e.1, e.2])
 replace h13 := DF h13
 refine WK hK9 ?_
 refine WS fun _ hK15 => ?_
 refine rS (LW 0 rfl tk108 rfl rfl) ?_
 refine cX (list_c s ts tsA tsC true hs (by first | assumption | omega | (simp; done) | (simp; omega)) (by first | assumption | omega | (simp; done) | (simp; omega))) (ha_at 4 rfl rfl <| ha_nil) rfl fun y16 hy17 => ?_
 obtain ⟨a18, c19⟩ := y16
 change RJ _ _ _ _ _ ((_, (Value.slice a18 ((headsL true s ts).length) c19)) :: _) ((own a18 c19 3 1 ((headsL true s ts).map iC)) :: _)
 refine rS (AG rfl) ?_
 refine RK hK15 ?_
 refine w_seq fun _ hK20 => ?_
 refine w_draw mixed 12 (by kernel_rfl) ?_
 have hml := headsL_length (best := true) (s := s) (ts := ts)
 have hi : 0 ≤ i ∧ i < ts.length := by omega
 have hib := inAt_b (best := true) hs hst (i := i.toNat) (by omega)
 have hfb := fastF_le (h := inAt true s ts i.toNat) hib.1 (by omega)
 refine dS (MV rfl) ?_
 refine dS (MV rfl) ?_
 obtain ⟨m, hm⟩ : ∃ y_, (headsL true s ts)[(i).toNat]? = some y_ := ⟨(headsL true s ts)[(i).toNat]'(by omega), List.getElem?_eq_getElem _⟩
 have hmm : ((headsL true s ts).map iC)[(i).toNat]? = some (iC m) := by rw [List.getElem?_map, hm]; rfl
 refine dS (IA ((i).toNat) rfl (has_own_n (n := (headsL true s ts).length) 0 rfl (by simp)) te61 (by decide) (by omega) (by omega)) ?_
 refine dS (LE1 ((i).toNat) 0 (Value.int .i64 m) rfl tk3 (has_own_n (n := (headsL true s ts).length) 0 rfl (by simp)) hmm rfl (by decide) rfl) ?_
 refine dS (MV rfl) ?_
 refine dS (MV rfl) ?_
 refine dS (BI rfl (b_add ⟨by omega, by omega⟩)) ?_
 obtain ⟨n, hn⟩ : ∃ y_, (headsL true s ts)[((i + 1)).toNat]? = some y_ := ⟨(headsL true s ts)[((i + 1)).toNat]'(by omega), List.getElem?_eq_getElem _⟩
 have hnm : ((headsL true s ts).map iC)[((i + 1)).toNat]? = some (iC n) := by rw [List.getElem?_map, hn]; rfl
 refine dS (IA (((i + 1)).toNat) rfl (has_own_n (n := (headsL true s ts).length) 0 rfl (by simp)) te61 (by decide) (by omega) (by omega)) ?_
 refine dS (LE1 (((i + 1)).toNat) 0 (Value.int .i64 n) rfl tk3 (has_own_n (n := (headsL true s ts).length) 0 rfl (by simp)) hnm rfl (by decide) rfl) ?_
 refine dS (MX rfl) ?_
 have mv : m = headAt true s ts i.toNat := by rw [headsL_get (by omega)] at hm; exact (Option.some.inj hm).symm
 have nv : n = headAt true s ts (i + 1).toNat := by rw [headsL_get (by omega)] at hn; exact (Option.some.inj hn).symm
 have hmx := inAt_spans (best := true) hi.1 mv nv
 rw [hmx]
 refine dS (CL (fast_c (inAt true s ts i.toNat) (by first | assumption | omega | (simp; done) | (simp; omega))) (ha_nil) rfl) ?_
 refine dS (AG rfl) ?_
 refine d_end ?_
 refine RK hK20 ?_
 refine w_seq fun _ hK21 => ?_
 refine WS fun _ hK22 => ?_
 refine rS (MV rfl) ?_
 refine rS (BI rfl b_eql) ?_
 refine RK hK22 ?_
 refine w_if rfl (fun hv => ?_) (fun hv => ?_)
 · replace hv := DT hv
   refine WS fun _ hK23 => ?_
   refine rS (AG rfl) ?_
   refine rS (AG rfl) ?_
   refine RK hK23 ?_
   refine w_ret ?_
   refine Q2 hQ rfl rfl rfl rfl ?_
   first | rw [(least_out (i := i) hb0 (by omega)).1, (least_out (i := i) hb0 (by omega)).2] | rw [(least_none (i := i) hb0 hi hv).1, (least_none (i := i) hb0 hi hv).2] | (have e := least_slide (i := i) hb0 hi (by omega) hx (ceil_yes (by omega) hq); rw [e.1, e.2]) | (have e := least_slide (i := i) hb0 hi (by omega) hx (ceil_no (by omega) (by omega)); rw [e.1, e.2])
 replace hv := DF hv
 refine WK hK21 ?_
 refine WS fun _ hK24 => ?_
 refine rS (FA 0 rfl fo24_0 rfl) ?_
 refine rS (L1 (Value.slice tsA ts.length tsC) 4 rfl tk22 rfl rfl) ?_
 refine rS (MV rfl) ?_
 obtain ⟨x, hx⟩ : ∃ y_, ts[(i).toNat]? = some y_ := ⟨ts[(i).toNat]'(by omega), List.getElem?_eq_getElem _⟩
 have hxm : (ts.map StretchV.cells)[(i).toNat]? = some (StretchV.cells x) := by rw [List.getElem?_map, hx]; rfl
 refine rS (IA ((i).toNat) rfl (has_at 5 rfl) te22 (by decide) (by omega) (by omega)) ?_
 refine rS (FAR ((((i).toNat) * 9) + 1) rfl (has_at 5 rfl) (Nat.mul_pos (by omega) (by decide)) fo77_1 rfl) ?_
 refine rS (FAR ((((i).toNat) * 9) + 1) rfl (has_at 5 rfl) (Nat.mul_pos (by omega) (by decide)) fo26_0 rfl) ?_
 refine rS (LE1 ((i).toNat) 1 (Value.int .i64 x.Long.Lo) rfl tk3 (has_at 5 rfl) hxm rfl (by decide) rfl) ?_
 have hxo := hst x (List.mem_of_getElem? hx)
 have q2 := hxo.2.1
 simp only [SpanOk] at q2
 refine rS (BI rfl (b_mul ⟨by omega, by omega⟩)) ?_
 refine rS (AG rfl) ?_
 refine RK hK24 ?_
 refine w_seq fun _ hK25 => ?_
 refine WS fun _ hK26 => ?_
 refine rS (MV rfl) ?_
 refine rS (MV rfl) ?_
 refine rS (BI rfl (b_rem (by omega) (by omega))) ?_
 refine rS (BI rfl b_gtr) ?_
 refine RK hK26 ?_
 refine w_if rfl (fun hq => ?_) (fun hq => ?_)
 rotate_left 1
 · replace hq := DF hq
   refine WK hK25 ?_
   refine WS fun _ hK28 => ?_
   refine rS (MV rfl) ?_
   refine rS (MV rfl) ?_
   refine rS (BI rfl (b_quo (by omega) (by omega) (by omega))) ?_
   refine rS (AG rfl) ?_
   refine rS (AG rfl) ?_
   refine RK hK28 ?_
   refine w_ret ?_
   refine Q2 hQ rfl rfl rfl rfl ?_
   first | rw [(least_out (i := i) hb0 (by omega)).1, (least_out (i := i) hb0 (by omega)).2] | rw [(least_none (i := i) hb0 hi hv).1, (least_none (i := i) hb0 hi hv).2] | (have e := least_slide (i := i) hb0 hi (by omega) hx (ceil_yes (by omega) hq); rw [e.1, e.2]) | (have e := least_slide (i := i) hb0 hi (by omega) hx (ceil_no (by omega) (by omega)); rw [e.1, e.2])
 replace hq := DT hq
 refine w_region ?_
 refine rS (MV rfl) ?_
 refine rS (MV rfl) ?_
 refine rS (BI rfl (b_add ⟨by omega, by omega⟩)) ?_
 refine rS (AG rfl) ?_
 refine RK hK25 ?_
 refine WS fun _ hK27 => ?_
 refine rS (MV rfl) ?_
 refine rS (MV rfl) ?_
 refine rS (BI rfl (b_quo (by omega) (by omega) (by omega))) ?_
 refine rS (AG rfl) ?_
 refine rS (AG rfl) ?_
 refine RK hK27 ?_
 refine w_ret ?_
 refine Q2 hQ rfl rfl rfl rfl ?_
 first | rw [(least_out (i := i) hb0 (by omega)).1, (least_out (i := i) hb0 (by omega)).2] | rw [(least_none (i := i) hb0 hi hv).1, (least_none (i := i) hb0 hi hv).2] | (have e := least_slide (i := i) hb0 hi (by omega) hx (ceil_yes (by omega) hq); rw [e.1, e.2]) | (have e := least_slide (i := i) hb0 hi (by omega) hx (ceil_no (by omega) (by omega)); rw [e.1, e.2])

theorem least_no_ (ts : List StretchV) (tsA : Option Addr) (tsC : Nat) (s : SledV) (i : Int) (hlen : ts.length ≤ 1000000) (hside : ∀ x ∈ ts, 0 ≤ x.Side ∧ x.Side ≤ 255) (hb : ¬ bothE s ts = 0) :
    FnV Try.prog 24 [(Value.agg (TrackV.cells (TrackV.mk (Slc.mk tsA ts.length tsC))).toArray), (Value.agg (SledV.cells s).toArray), (Value.int .i64 i)] [(rd tsA ts.length 9 (ts.map StretchV.cells))] (Value.tuple [(Value.int .i64 (leastV s ts i)), (Value.int .i64 (leastE s ts i))].toArray) := by
  by_cases htr : trackOk ts = true
  · by_cases hs : SledOk s
    · exact absurd (bothE_ok htr hs) hb
    · exact least_sled ts tsA tsC s i hlen hside htr hs
  · exact least_bad ts tsA tsC s i hlen hside (by simpa using htr)

theorem least_c (ts : List StretchV) (tsA : Option Addr) (tsC : Nat) (s : SledV) (i : Int) (hlen : ts.length ≤ 1000000) (hside : ∀ x ∈ ts, 0 ≤ x.Side ∧ x.Side ≤ 255) :
    FnV Try.prog 24 [(Value.agg (TrackV.cells (TrackV.mk (Slc.mk tsA ts.length tsC))).toArray), (Value.agg (SledV.cells s).toArray), (Value.int .i64 i)] [(rd tsA ts.length 9 (ts.map StretchV.cells))] (Value.tuple [(Value.int .i64 (leastV s ts i)), (Value.int .i64 (leastE s ts i))].toArray) := by
  by_cases hb : bothE s ts = 0
  · obtain ⟨h1, h2⟩ := bothE_zero hb
    exact least_ok ts tsA tsC s i hlen hside h1 h2
  · exact least_no_ ts tsA tsC s i hlen hside hb

set_option maxRecDepth 100000 in
set_option maxHeartbeats 400000 in
theorem rLeast_c (ts : List StretchV) (tsA : Option Addr) (tsC : Nat) (s : SledV) (i : Int) (hlen : ts.length ≤ 1000000) (hside : ∀ x ∈ ts, 0 ≤ x.Side ∧ x.Side ≤ 255) (hc : 0 ≤ s.Class ∧ s.Class ≤ 255) :
    FnV Try.prog 25 [(Value.agg (TrackV.cells (TrackV.mk (Slc.mk tsA ts.length tsC))).toArray), (Value.agg (SledV.cells s).toArray), (Value.int .i64 i)] [(rd tsA ts.length 9 (ts.map StretchV.cells))] (Value.tuple [(Value.int .i64 (leastV s ts i)), (Value.int .i64 (leastE s ts i))].toArray) := by
 refine fnV_of go25 Try.func25 rfl rfl fun w0 Q hQ hN => ?_
 change WJ _ _ _ _ [(0, (Value.agg (TrackV.cells (TrackV.mk (Slc.mk tsA ts.length tsC))).toArray)), (1, (Value.agg (SledV.cells s).toArray)), (2, (Value.int .i64 i))] [(rd tsA ts.length 9 (ts.map StretchV.cells)).ro]
 refine WS fun _ hK1 => ?_
 refine BXA rfl fun b2 => ?_
 refine BXA rfl fun b3 => ?_
 refine rS (AG rfl) ?_
 refine rS (AG rfl) ?_
 refine RK hK1 ?_
 refine w_seq fun _ hK4 => ?_
 refine WS fun _ hK5 => ?_
 refine rS (LW 1 rfl tk24 rfl rfl) ?_
 refine rS (LW 0 rfl tk28 rfl rfl) ?_
 refine rS (CL (both_c ts tsA tsC s hlen hc) (ha_at 2 rfl rfl <| ha_nil) rfl) ?_
 refine rS (AG rfl) ?_
 refine RK hK5 ?_
 refine WS fun _ hK6 => ?_
 refine rS (MV rfl) ?_
 refine rS (BI rfl b_neq) ?_
 refine RK hK6 ?_
 refine w_if rfl (fun he => ?_) (fun he => ?_)
 · replace he := XT he
   refine WS fun _ hK7 => ?_
   refine rS (MV rfl) ?_
   refine rS (AG rfl) ?_
   refine rS (AG rfl) ?_
   refine RK hK7 ?_
   refine w_ret ?_
   refine Q2 hQ rfl rfl rfl rfl ?_
   first | rw [(least_no (i := i) he).1, (least_no (i := i) he).2] | rw [(least_out (i := i) he (by omega)).1, (least_out (i := i) he (by omega)).2] | rw [(least_none (i := i) he hi hv).1, (least_none (i := i) he hi hv).2] | rw [(least_in (i := i) he hi hv hx).1, (least_in (i := i) he hi hv hx).2]
 replace he := XF he
 refine WK hK4 ?_
 refine w_seq fun _ hK8 => ?_
 refine WS fun _ hK9 => ?_
 obtain ⟨htr, hs⟩ := bothE_zero he
 have hst := trackOk_all htr
 have hl12 := trackOk_le htr
 refine rS (MV rfl) ?_
 refine rS (FA 0 rfl fo24_0 rfl) ?_
 refine rS (L1 (Value.slice tsA ts.length tsC) 1 rfl tk22 rfl rfl) ?_
 refine rS (LN rfl ut22) ?_
 refine rS (BI rfl (b_sub ⟨by omega, by omega⟩)) ?_
 refine rS (CL (within3_c i 0 (((ts.length : Nat) : Int) - 1)) (ha_nil) rfl) ?_
 refine rS (NT rfl) ?_
 refine RK hK9 ?_
 refine w_if rfl (fun h10 => ?_) (fun h10 => ?_)
 · replace h10 := XT h10
   refine WS fun _ hK11 => ?_
   refine rS (AG rfl) ?_
   refine rS (AG rfl) ?_
   refine RK hK11 ?_
   refine w_ret ?_
   refine Q2 hQ rfl rfl rfl rfl ?_
   first | rw [(least_no (i := i) he).1, (least_no (i := i) he).2] | rw [(least_out (i := i) he (by omega)).1, (least_out (i := i) he (by omega)).2] | rw [(least_none (i := i) he hi hv).1, (least_none (i := i) he hi hv).2] | rw [(least_in (i := i) he hi hv hx).1, (least_in (i := i) he hi hv hx).2]
 replace h10 := XF h10
 refine WK hK8 ?_
 refine WS fun _ hK12 => ?_
 have hi : 0 ≤ i ∧ i < ts.length := by omega
 have hib := inAt_b (best := true) hs hst (i := i.toNat) (by omega)
 have hfb := fastF_le (h := inAt true s ts i.toNat) hib.1 (by omega)
 refine rS (LW 1 rfl tk24 rfl rfl) ?_
 refine rS (LW 0 rfl tk28 rfl rfl) ?_
 refine rS (MV rfl) ?_
 refine rS (CL (inside_c ts tsA tsC s i (by first | assumption | omega | (simp; done) | (simp; omega)) (by first | assumption | omega | (simp; done) | (simp; omega)) (by first | assumption | omega | (simp; done) | (simp; omega)) (by first | assumption | omega | (simp; done) | (simp; omega))) (ha_at 2 rfl rfl <| ha_nil) rfl) ?_
 refine rS (SX (sd_field1 (v := (Value.int .i64 (inAt true s ts i.toNat))) rfl rfl fo26_1 tf26_1 rfl) rfl rfl) ?_
 refine rS (CL (fast3_c (inAt true s ts i.toNat) (by first | assumption | omega | (simp; done) | (simp; omega))) (ha_nil) rfl) ?_
 refine rS (AG rfl) ?_
 refine RK hK12 ?_
 refine w_seq fun _ hK13 => ?_
 refine WS fun _ hK14 => ?_
 refine rS (MV rfl) ?_
 refine rS (BI rfl b_eql) ?_
 refine RK hK14 ?_
 refine w_if rfl (fun hv => ?_) (fun hv => ?_)
 · replace hv := DT hv
   refine WS fun _ hK15 => ?_
   refine rS (AG rfl) ?_
   refine rS (AG rfl) ?_
   refine RK hK15 ?_
   refine w_ret ?_
   refine Q2 hQ rfl rfl rfl rfl ?_
   first | rw [(least_no (i := i) he).1, (least_no (i := i) he).2] | rw [(least_out (i := i) he (by omega)).1, (least_out (i := i) he (by omega)).2] | rw [(least_none (i := i) he hi hv).1, (least_none (i := i) he hi hv).2] | rw [(least_in (i := i) he hi hv hx).1, (least_in (i := i) he hi hv hx).2]
 replace hv := DF hv
 refine WK hK13 ?_
 refine WS fun _ hK16 => ?_
 refine rS (FA 0 rfl fo24_0 rfl) ?_
 refine rS (L1 (Value.slice tsA ts.length tsC) 1 rfl tk22 rfl rfl) ?_
 refine rS (MV rfl) ?_
 obtain ⟨x, hx⟩ : ∃ y_, ts[(i).toNat]? = some y_ := ⟨ts[(i).toNat]'(by omega), List.getElem?_eq_getElem _⟩
 have hxm : (ts.map StretchV.cells)[(i).toNat]? = some (StretchV.cells x) := by rw [List.getElem?_map, hx]; rfl
 refine rS (IA ((i).toNat) rfl (has_at 2 rfl) te22 (by decide) (by omega) (by omega)) ?_
 refine rS (FAR ((((i).toNat) * 9) + 1) rfl (has_at 2 rfl) (Nat.mul_pos (by omega) (by decide)) fo77_1 rfl) ?_
 refine rS (FAR ((((i).toNat) * 9) + 1) rfl (has_at 2 rfl) (Nat.mul_pos (by omega) (by decide)) fo26_0 rfl) ?_
 have hxo := hst x (List.mem_of_getElem? hx)
 have q2 := hxo.2.1
 simp only [SpanOk] at q2
 refine rS (LE1 ((i).toNat) 1 (Value.int .i64 x.Long.Lo) rfl tk3 (has_at 2 rfl) hxm rfl (by decide) rfl) ?_
 refine rS (BI rfl (b_mul ⟨by omega, by omega⟩)) ?_
 refine rS (MV rfl) ?_
 refine rS (BI rfl (b_add ⟨by omega, by omega⟩)) ?_
 refine rS (BI rfl (b_sub ⟨by omega, by omega⟩)) ?_
 refine rS (MV rfl) ?_
 refine rS (BI rfl (b_quo (by omega) (by omega) (by omega))) ?_
 refine rS (AG rfl) ?_
 refine rS (AG rfl) ?_
 refine RK hK16 ?_
 refine w_ret ?_
 refine Q2 hQ rfl rfl rfl rfl ?_
 first | rw [(least_no (i := i) he).1, (least_no (i := i) he).2] | rw [(least_out (i := i) he (by omega)).1, (least_out (i := i) he (by omega)).2] | rw [(least_none (i := i) he hi hv).1, (least_none (i := i) he hi hv).2] | rw [(least_in (i := i) he hi hv hx).1, (least_in (i := i) he hi hv hx).2]

end Go.Proofs.Ytpbgdeojcefnmaa
