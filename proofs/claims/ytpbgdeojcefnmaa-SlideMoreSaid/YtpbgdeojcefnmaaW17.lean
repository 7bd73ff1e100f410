/-
  Walks: kreisel/slide.Names$1, kreisel/slide.Names, kreisel/slide.Names, kreisel/slide.Names, kreisel/slide.Names, kreisel/slide.Names, kreisel/kreiselref03.Names
-/
import Derived.Test.YtpbgdeojcefnmaaTab
import Derived.Test.YtpbgdeojcefnmaaShort
import Derived.Test.YtpbgdeojcefnmaaThr
import Derived.Test.YtpbgdeojcefnmaaMono
import Derived.Test.YtpbgdeojcefnmaaW5
import Derived.Test.YtpbgdeojcefnmaaW6
import Derived.Test.YtpbgdeojcefnmaaW9
import Derived.Test.YtpbgdeojcefnmaaW12
import Derived.Test.YtpbgdeojcefnmaaW13
import Derived.Test.YtpbgdeojcefnmaaW16
namespace Go.Proofs.Ytpbgdeojcefnmaa
open Go.RowKit
set_option linter.unusedVariables false

set_option maxRecDepth 100000 in
set_option maxHeartbeats 400000 in
theorem names1_c (h : Int) (s : SledV) (ts : List StretchV) (tsA : Option Addr) (tsC : Nat) (best : Bool) (g1 : Nat) (tl : List Int) (tlA : Option Addr) (tlC : Nat) (g2 : Nat) (g3 : Nat) (k : Int) (x : StretchV) (hs : SledOk s) (hst : ∀ x ∈ ts, StretchOk x) (hlen : ts.length ≤ 12) (hk : tl[0]? = some k) (hk1 : 0 ≤ k ∧ k < ts.length) (hx : ts[k.toNat]? = some x) (hh : 0 ≤ h ∧ h ≤ 1048576) :
    FnV Try.prog 78 [(Value.int .i64 h), (Value.pointer (some ⟨g1, 0, none⟩)), (Value.pointer (some ⟨g2, 0, none⟩)), (Value.pointer (some ⟨g3, 0, none⟩))] [(rd tsA ts.length 9 (ts.map StretchV.cells)), (blk g1 108 (RiderV.cells (RiderV.mk s (TrackV.mk (Slc.mk tsA ts.length tsC)) best))), (rd tlA tl.length 1 (tl.map iC)), (blk g2 61 [(Value.slice tlA tl.length tlC)]), (blk g3 24 (TrackV.cells (TrackV.mk (Slc.mk tsA ts.length tsC))))] (Value.bool (decide (x.Wall < bankF best s x h))) := by
 have htl := (List.getElem?_eq_some_iff.1 hk).1
 refine fnV_of go78 Try.func78 rfl rfl fun w0 Q hQ hN => ?_
 change WJ _ _ _ _ [(0, (Value.int .i64 h)), (1, (Value.pointer (some ⟨g1, 0, none⟩))), (2, (Value.pointer (some ⟨g2, 0, none⟩))), (3, (Value.pointer (some ⟨g3, 0, none⟩)))] [(rd tsA ts.length 9 (ts.map StretchV.cells)).ro, (blk g1 108 (RiderV.cells (RiderV.mk s (TrackV.mk (Slc.mk tsA ts.length tsC)) best))).ro, (rd tlA tl.length 1 (tl.map iC)).ro, (blk g2 61 [(Value.slice tlA tl.length tlC)]).ro, (blk g3 24 (TrackV.cells (TrackV.mk (Slc.mk tsA ts.length tsC)))).ro]
 refine WS fun _ hK1 => ?_
 refine rS (AG rfl) ?_
 refine RK hK1 ?_
 refine w_seq fun _ hK2 => ?_
 refine w_draw mixed 16 (by kernel_rfl) ?_
 refine dS (LWR 1 rfl tk108 rfl rfl) ?_
 refine dS (L1Q 3 rfl tk61 rfl) ?_
 obtain ⟨z, hz⟩ : ∃ y_, tl[0]? = some y_ := ⟨tl[0]'(by omega), List.getElem?_eq_getElem _⟩
 have hzm : (tl.map iC)[0]? = some (iC z) := by rw [List.getElem?_map, hz]; rfl
 refine dS (IA 0 rfl (has_at 2 rfl) te61 (by decide) rfl (by omega)) ?_
 have zk : z = k := Option.some.inj (hz.symm.trans hk)
 subst zk
 refine dS (LE1 0 0 (Value.int .i64 z) rfl tk3 (has_at 2 rfl) hzm rfl (by decide) rfl) ?_
 refine dS (MV rfl) ?_
 refine dS (CL (bank_c s ts tsA tsC best z h x hs hst hlen (by first | assumption | omega | (simp; done) | (simp; omega)) (by first | assumption | omega | (simp; done) | (simp; omega)) (by first | assumption | omega | (simp; done) | (simp; omega))) (ha_at 0 rfl rfl <| ha_nil) rfl) ?_
 refine dS (FA 0 rfl fo24_0 rfl) ?_
 refine dS (L1R (Value.slice tsA ts.length tsC) 4 rfl tk22 rfl rfl) ?_
 refine dS (L1Q 3 rfl tk61 rfl) ?_
 refine dS (IA 0 rfl (has_at 2 rfl) te61 (by decide) rfl (by omega)) ?_
 refine dS (LE1 0 0 (Value.int .i64 z) rfl tk3 (has_at 2 rfl) hzm rfl (by decide) rfl) ?_
 obtain ⟨y, hy⟩ : ∃ y_, ts[(z).toNat]? = some y_ := ⟨ts[(z).toNat]'(by omega), List.getElem?_eq_getElem _⟩
 have hym : (ts.map StretchV.cells)[(z).toNat]? = some (StretchV.cells y) := by rw [List.getElem?_map, hy]; rfl
 refine dS (IA ((z).toNat) rfl (has_at 0 rfl) te22 (by decide) (by omega) (by omega)) ?_
 refine dS (FAR ((((z).toNat) * 9) + 8) rfl (has_at 0 rfl) (Nat.mul_pos (by omega) (by decide)) fo77_5 rfl) ?_
 refine dS (LE1 ((z).toNat) 8 (Value.int .i64 y.Wall) rfl tk3 (has_at 0 rfl) hym rfl (by decide) rfl) ?_
 refine dS (BI rfl b_gtr) ?_
 refine dS (AG rfl) ?_
 refine d_end ?_
 refine RK hK2 ?_
 refine w_ret ?_
 refine Q1 hQ rfl rfl rfl ?_
 obtain rfl : y = x := Option.some.inj (hy.symm.trans hx)
 rfl

set_option maxRecDepth 100000 in
set_option maxHeartbeats 400000 in
theorem names_bad (ts : List StretchV) (tsA : Option Addr) (tsC : Nat) (s : SledV) (hlen : ts.length ≤ 1000000) (hside : ∀ x ∈ ts, 0 ≤ x.Side ∧ x.Side ≤ 255) (htr : trackOk ts = false) :
    FnV Try.prog 32 [(Value.agg (TrackV.cells (TrackV.mk (Slc.mk tsA ts.length tsC))).toArray), (Value.agg (SledV.cells s).toArray)] [(rd tsA ts.length 9 (ts.map StretchV.cells))] (Value.tuple [(Value.int .i64 (namesC s ts)), (Value.int .i64 (namesV s ts)), (Value.int .i64 (namesE s ts))].toArray) := by
 have hb0 : ¬ bothE s ts = 0 := by rw [bothE_bad htr]; decide
 refine fnV_of go32 Try.func32 rfl rfl fun w0 Q hQ hN => ?_
 change WJ _ _ _ _ [(0, (Value.agg (TrackV.cells (TrackV.mk (Slc.mk tsA ts.length tsC))).toArray)), (1, (Value.agg (SledV.cells s).toArray))] [(rd tsA ts.length 9 (ts.map StretchV.cells)).ro]
 refine WS fun _ hK1 => ?_
 refine BXA rfl fun b2 => ?_
 refine BXA rfl fun b3 => ?_
 refine rS (AG rfl) ?_
 refine rS (AG rfl) ?_
 refine rS (AG rfl) ?_
 refine RK hK1 ?_
 refine WS fun _ hK4 => ?_
 refine rS (LW 1 rfl tk24 rfl rfl) ?_
 refine rS (LW 0 rfl tk28 rfl rfl) ?_
 refine rS (CL (open_bad ts tsA tsC s hlen hside htr) (ha_at 2 rfl rfl <| ha_nil) rfl) ?_
 refine rS (MV rfl) ?_
 refine rS (EX rfl) ?_
 refine rS (EX rfl) ?_
 refine rS (EX rfl) ?_
 refine AL rfl tz108 fun b5 => ?_
 refine AL rfl tz108 fun b6 => ?_
 refine SW1 rfl ts108 rfl ?_
 refine SW0 rfl ts108 rfl ?_
 refine rS (AG rfl) ?_
 refine RK hK4 ?_
 refine w_seq fun _ hK7 => ?_
 refine WS fun _ hK8 => ?_
 refine rS (MV rfl) ?_
 refine rS (BI rfl b_neq) ?_
 refine RK hK8 ?_
 refine w_if rfl (fun he => ?_) (fun he => ?_)
 rotate_left 1
 · replace he := XF he
   exact absurd he hb0
 replace he := XT he
 refine WS fun _ hK9 => ?_
 refine rS (MV rfl) ?_
 refine rS (AG rfl) ?_
 refine rS (AG rfl) ?_
 refine rS (AG rfl) ?_
 refine RK hK9 ?_
 refine w_ret ?_
 refine Q3 hQ rfl rfl rfl rfl rfl ?_
 rw [(names_no hb0).1, (names_no hb0).2.1, (names_no hb0).2.2]

set_option maxRecDepth 100000 in
set_option maxHeartbeats 400000 in
theorem names_sled (ts : List StretchV) (tsA : Option Addr) (tsC : Nat) (s : SledV) (hlen : ts.length ≤ 1000000) (hside : ∀ x ∈ ts, 0 ≤ x.Side ∧ x.Side ≤ 255) (htr : trackOk ts = true) (hns : ¬ SledOk s) :
    FnV Try.prog 32 [(Value.agg (TrackV.cells (TrackV.mk (Slc.mk tsA ts.length tsC))).toArray), (Value.agg (SledV.cells s).toArray)] [(rd tsA ts.length 9 (ts.map StretchV.cells))] (Value.tuple [(Value.int .i64 (namesC s ts)), (Value.int .i64 (namesV s ts)), (Value.int .i64 (namesE s ts))].toArray) := by
 have hb0 : ¬ bothE s ts = 0 := by rw [bothE_sled htr hns]; decide
 refine fnV_of go32 Try.func32 rfl rfl fun w0 Q hQ hN => ?_
 change WJ _ _ _ _ [(0, (Value.agg (TrackV.cells (TrackV.mk (Slc.mk tsA ts.length tsC))).toArray)), (1, (Value.agg (SledV.cells s).toArray))] [(rd tsA ts.length 9 (ts.map StretchV.cells)).ro]
 refine WS fun _ hK1 => ?_
 refine BXA rfl fun b2 => ?_
 refine BXA rfl fun b3 => ?_
 refine rS (AG rfl) ?_
 refine rS (AG rfl) ?_
 refine rS (AG rfl) ?_
 refine RK hK1 ?_
 refine WS fun _ hK4 => ?_
 refine rS (LW 1 rfl tk24 rfl rfl) ?_
 refine rS (LW 0 rfl tk28 rfl rfl) ?_
 refine rS (CL (open_ok ts tsA tsC s hlen hside htr) (ha_at 2 rfl rfl <| ha_nil) rfl) ?_
 refine rS (MV rfl) ?_
 refine rS (EX rfl) ?_
 refine rS (EX rfl) ?_
 refine rS (EX rfl) ?_
 refine AL rfl tz108 fun b5 => ?_
 refine AL rfl tz108 fun b6 => ?_
 refine SW1 rfl ts108 rfl ?_
 refine SW0 rfl ts108 rfl ?_
 refine rS (AG rfl) ?_
 refine RK hK4 ?_
 refine w_seq fun _ hK7 => ?_
 refine WS fun _ hK8 => ?_
 refine rS (MV rfl) ?_
 refine rS (BI rfl b_neq) ?_
 refine RK hK8 ?_
 refine w_if rfl (fun he => ?_) (fun he => ?_)
 rotate_left 1
 · replace he := XF he
   exact absurd he hb0
 replace he := XT he
 refine WS fun _ hK9 => ?_
 refine rS (MV rfl) ?_
 refine rS (AG rfl) ?_
 refine rS (AG rfl) ?_
 refine rS (AG rfl) ?_
 refine RK hK9 ?_
 refine w_ret ?_
 refine Q3 hQ rfl rfl rfl rfl rfl ?_
 rw [(names_no hb0).1, (names_no hb0).2.1, (names_no hb0).2.2]

set_option maxRecDepth 100000 in
set_option maxHeartbeats 400000 in
theorem names_ok (ts : List StretchV) (tsA : Option Addr) (tsC : Nat) (s : SledV) (hlen : ts.length ≤ 1000000) (hside : ∀ x ∈ ts, 0 ≤ x.Side ∧ x.Side ≤ 255) (htr : trackOk ts = true) (hs : SledOk s) :
    FnV Try.prog 32 [(Value.agg (TrackV.cells (TrackV.mk (Slc.mk tsA ts.length tsC))).toArray), (Value.agg (SledV.cells s).toArray)] [(rd tsA ts.length 9 (ts.map StretchV.cells))] (Value.tuple [(Value.int .i64 (namesC s ts)), (Value.int .i64 (namesV s ts)), (Value.int .i64 (namesE s ts))].toArray) := by
 have hb0 := bothE_ok htr hs
 have hst := trackOk_all htr
 have hl12 := trackOk_le htr
 have hl1 := trackOk_pos htr
 have hside2 := hside
 refine fnV_of go32 Try.func32 rfl rfl fun w0 Q hQ hN => ?_
 change WJ _ _ _ _ [(0, (Value.agg (TrackV.cells (TrackV.mk (Slc.mk tsA ts.length tsC))).toArray)), (1, (Value.agg (SledV.cells s).toArray))] [(rd tsA ts.length 9 (ts.map StretchV.cells)).ro]
 refine WS fun _ hK1 => ?_
 refine BXA rfl fun b2 => ?_
 refine BXA rfl fun b3 => ?_
 refine rS (AG rfl) ?_
 refine rS (AG rfl) ?_
 refine rS (AG rfl) ?_
 refine RK hK1 ?_
 refine WS fun _ hK4 => ?_
 refine rS (LW 1 rfl tk24 rfl rfl) ?_
 refine rS (LW 0 rfl tk28 rfl rfl) ?_
 refine rS (CL (open_ok ts tsA tsC s hlen hside htr) (ha_at 2 rfl rfl <| ha_nil) rfl) ?_
 refine rS (MV rfl) ?_
 refine rS (EX rfl) ?_
 refine rS (EX rfl) ?_
 refine rS (EX rfl) ?_
 refine AL rfl tz108 fun b5 => ?_
 refine AL rfl tz108 fun b6 => ?_
 refine SW1 rfl ts108 rfl ?_
 refine SW0 rfl ts108 rfl ?_
 refine rS (AG rfl) ?_
 refine RK hK4 ?_
 refine w_seq fun _ hK7 => ?_
 refine WS fun _ hK8 => ?_
 refine rS (MV rfl) ?_
 refine rS (BI rfl b_neq) ?_
 refine RK hK8 ?_
 refine w_if rfl (fun he => ?_) (fun he => ?_)
 · replace he := XT he
   exact absurd hb0 he
 replace he := XF he
 refine WK hK7 ?_
 refine WS fun _ hK9 => ?_
 refine rS (LW 0 rfl tk108 rfl rfl) ?_
 refine cX (thrown_c s ts tsA tsC true hs (by first | assumption | omega | (simp; done) | (simp; omega)) (by first | assumption | omega | (simp; done) | (simp; omega)) hside) (ha_at 4 rfl rfl <| ha_nil) rfl fun y10 hy11 => ?_
 obtain ⟨a12, c13⟩ := y10
 change RJ _ _ _ _ _ ((_, (Value.slice a12 ((thr true s ts).length) c13)) :: _) ((own a12 c13 3 1 ((thr true s ts).map iC)) :: _)
 refine AL rfl tz61 fun b14 => ?_
 refine SO0 rfl ts61 rfl rfl ?_
 refine RK hK9 ?_
 refine w_seq fun _ hK15 => ?_
 refine WS fun _ hK16 => ?_
 refine rS (L1W 0 rfl tk61 rfl) ?_
 refine rS (LN rfl ut61) ?_
 refine rS (BI rfl b_eql) ?_
 refine RK hK16 ?_
 refine w_if rfl (fun hz0 => ?_) (fun hz0 => ?_)
 · replace hz0 := DT hz0
   refine WS fun _ hK17 => ?_
   refine rS (AG rfl) ?_
   refine rS (AG rfl) ?_
   refine rS (AG rfl) ?_
   refine RK hK17 ?_
   refine w_ret ?_
   refine Q3 hQ rfl rfl rfl rfl rfl ?_
   first | (have e := names_none (s := s) hb0 (List.eq_nil_of_length_eq_zero (by omega)); rw [e.1, e.2.1, e.2.2]) | (have e := names_some hb0 hk hx; rw [e.1, e.2.1, e.2.2])
 replace hz0 := DF hz0
 refine WK hK15 ?_
 refine WS fun _ hK18 => ?_
 obtain ⟨k, hk⟩ : ∃ k, (thr true s ts)[0]? = some k := ⟨(thr true s ts)[0]'(by omega), List.getElem?_eq_getElem _⟩
 obtain ⟨hk0, hk1, htb⟩ := thr_at hk
 obtain ⟨x, hx⟩ : ∃ x, ts[k.toNat]? = some x := ⟨ts[k.toNat]'(by omega), List.getElem?_eq_getElem _⟩
 have hnh := nameH_le hs hst (by omega) hx htb
 have hib := inAt_b (best := true) hs hst (i := k.toNat) (by omega)
 refine rS (FU rfl) ?_
 refine rS (CL (first_c 0 1048576 (Value.func (.func 78) [].toArray [(Value.pointer (some ⟨b6, 0, none⟩)), (Value.pointer (some ⟨b14, 0, none⟩)), (Value.pointer (some ⟨b2, 0, none⟩))].toArray) (fun u19 => (decide (x.Wall < bankF true s x u19))) (bun [(rd tsA ts.length 9 (ts.map StretchV.cells)), (blk b6 108 (RiderV.cells (RiderV.mk s (TrackV.mk (Slc.mk tsA ts.length tsC)) true))), (rd a12 ((thr true s ts).length) 1 ((thr true s ts).map iC)), (blk b14 61 [(Value.slice a12 ((thr true s ts).length) c13)]), (blk b2 24 (TrackV.cells (TrackV.mk (Slc.mk tsA ts.length tsC))))]) (nameH s x) (by intro u19 _; exact clo_of (fi := []) (ca := [(Value.pointer (some ⟨b6, 0, none⟩)), (Value.pointer (some ⟨b14, 0, none⟩)), (Value.pointer (some ⟨b2, 0, none⟩))]) (fnV_bun (names1_c u19 s ts tsA tsC true b6 (thr true s ts) a12 c13 b14 b2 k x (by first | assumption | omega) (by first | assumption | omega) (by first | assumption | omega) (by first | assumption | omega) (by first | assumption | omega) (by first | assumption | omega) (by first | assumption | omega)) (ha_at 0 rfl rfl <| ha_at 1 rfl rfl <| ha_at 2 rfl rfl <| ha_at 3 rfl rfl <| ha_at 4 rfl rfl <| ha_nil))) (by first | assumption | omega | (simp; done) | (simp; omega)) (by intro y _ hy; exact firstN_no (p := nameP s x) (n := 1048576) (by omega) hy) (by intro y hy hy2; exact firstN_yes (p := nameP s x) (n := 1048576) (nameP_mono (hst x (List.mem_of_getElem? hx))) hy (by omega))) (ha_cons (has_bun (ha_at 6 rfl rfl <| ha_at 2 rfl rfl <| ha_cons (has_own_n (n := (thr true s ts).length) 1 rfl (by simp)) <| ha_at 0 rfl rfl <| ha_at 5 rfl rfl <| ha_nil)) <| ha_nil) rfl) ?_
 refine rS (AG rfl) ?_
 refine RK hK18 ?_
 refine w_seq fun _ hK20 => ?_
 refine w_draw mixed 8 (by kernel_rfl) ?_
 refine dS (L1W 0 rfl tk61 rfl) ?_
 obtain ⟨kk, hkk⟩ : ∃ y_, (thr true s ts)[0]? = some y_ := ⟨(thr true s ts)[0]'(by omega), List.getElem?_eq_getElem _⟩
 have hkkm : ((thr true s ts).map iC)[0]? = some (iC kk) := by rw [List.getElem?_map, hkk]; rfl
 refine dS (IA 0 rfl (has_own_n (n := (thr true s ts).length) 1 rfl (by simp)) te61 (by decide) rfl (by omega)) ?_
 have kkk : kk = k := Option.some.inj (hkk.symm.trans hk)
 subst kkk
 refine dS (LE1 0 0 (Value.int .i64 kk) rfl tk3 (has_own_n (n := (thr true s ts).length) 1 rfl (by simp)) hkkm rfl (by decide) rfl) ?_
 refine dS (MV rfl) ?_
 refine dS (CL (slow_c (nameH s x) (by first | assumption | omega | (simp; done) | (simp; omega))) (ha_nil) rfl) ?_
 refine dS (AG rfl) ?_
 refine dS (AG rfl) ?_
 refine dS (AG rfl) ?_
 refine d_end ?_
 refine RK hK20 ?_
 refine w_ret ?_
 refine Q3 hQ rfl rfl rfl rfl rfl ?_
 first | (have e := names_none (s := s) hb0 (List.eq_nil_of_length_eq_zero (by omega)); rw [e.1, e.2.1, e.2.2]) | (have e := names_some hb0 hk hx; rw [e.1, e.2.1, e.2.2])

theorem names_no_ (ts : List StretchV) (tsA : Option Addr) (tsC : Nat) (s : SledV) (hlen : ts.length ≤ 1000000) (hside : ∀ x ∈ ts, 0 ≤ x.Side ∧ x.Side ≤ 255) (hb : ¬ bothE s ts = 0) :
    FnV Try.prog 32 [(Value.agg (TrackV.cells (TrackV.mk (Slc.mk tsA ts.length tsC))).toArray), (Value.agg (SledV.cells s).toArray)] [(rd tsA ts.length 9 (ts.map StretchV.cells))] (Value.tuple [(Value.int .i64 (namesC s ts)), (Value.int .i64 (namesV s ts)), (Value.int .i64 (namesE s ts))].toArray) := by
  by_cases htr : trackOk ts = true
  · by_cases hs : SledOk s
    · exact absurd (bothE_ok htr hs) hb
    · exact names_sled ts tsA tsC s hlen hside htr hs
  · exact names_bad ts tsA tsC s hlen hside (by simpa using htr)

theorem names_c (ts : List StretchV) (tsA : Option Addr) (tsC : Nat) (s : SledV) (hlen : ts.length ≤ 1000000) (hside : ∀ x ∈ ts, 0 ≤ x.Side ∧ x.Side ≤ 255) :
    FnV Try.prog 32 [(Value.agg (TrackV.cells (TrackV.mk (Slc.mk tsA ts.length tsC))).toArray), (Value.agg (SledV.cells s).toArray)] [(rd tsA ts.length 9 (ts.map StretchV.cells))] (Value.tuple [(Value.int .i64 (namesC s ts)), (Value.int .i64 (namesV s ts)), (Value.int .i64 (namesE s ts))].toArray) := by
  by_cases hb : bothE s ts = 0
  · obtain ⟨h1, h2⟩ := bothE_zero hb
    exact names_ok ts tsA tsC s hlen hside h1 h2
  · exact names_no_ ts tsA tsC s hlen hside hb

set_option maxRecDepth 100000 in
set_option maxHeartbeats 400000 in
theorem rNames_c (ts : List StretchV) (tsA : Option Addr) (tsC : Nat) (s : SledV) (hlen : ts.length ≤ 1000000) (hside : ∀ x ∈ ts, 0 ≤ x.Side ∧ x.Side ≤ 255) (hc : 0 ≤ s.Class ∧ s.Class ≤ 255) :
    FnV Try.prog 33 [(Value.agg (TrackV.cells (TrackV.mk (Slc.mk tsA ts.length tsC))).toArray), (Value.agg (SledV.cells s).toArray)] [(rd tsA ts.length 9 (ts.map StretchV.cells))] (Value.tuple [(Value.int .i64 (namesC s ts)), (Value.int .i64 (namesV s ts)), (Value.int .i64 (namesE s ts))].toArray) := by
 refine fnV_of go33 Try.func33 rfl rfl fun w0 Q hQ hN => ?_
 change WJ _ _ _ _ [(0, (Value.agg (TrackV.cells (TrackV.mk (Slc.mk tsA ts.length tsC))).toArray)), (1, (Value.agg (SledV.cells s).toArray))] [(rd tsA ts.length 9 (ts.map StretchV.cells)).ro]
 refine WS fun _ hK1 => ?_
 refine BXA rfl fun b2 => ?_
 refine BXA rfl fun b3 => ?_
 refine rS (AG rfl) ?_
 refine rS (AG rfl) ?_
 refine rS (AG rfl) ?_
 refine RK hK1 ?_
 refine w_seq fun _ hK4 => ?_
 refine WS fun _ hK5 => ?_
 refine rS (LW 1 rfl tk24 rfl rfl) ?_
 refine rS (LW 0 rfl tk28 rfl rfl) ?_
 refine rS (CL (both_c ts tsA tsC s hlen hc) (ha_at 2 rfl rfl <| ha_nil) rfl) ?_
 refine rS (AG rfl) ?_
 refine RK hK5 ?_
 refine WS fun _ hK6 => ?_
 refine rS (MV rfl) ?_
 refine rS (BI rfl b_neq) ?_
 refine RK hK6 ?_
 refine w_if rfl (fun he => ?_) (fun he => ?_)
 · replace he := XT he
   refine WS fun _ hK7 => ?_
   refine rS (MV rfl) ?_
   refine rS (AG rfl) ?_
   refine rS (AG rfl) ?_
   refine rS (AG rfl) ?_
   refine RK hK7 ?_
   refine w_ret ?_
   refine Q3 hQ rfl rfl rfl rfl rfl ?_
   first | (have e := names_no he; rw [e.1, e.2.1, e.2.2]) | (have e := names_ref he hl5_1 (by omega) hx htb (by omega) (by omega) hl10_1 (by have e2 : lo = hi := (by omega); rw [e2]; exact hl10_2); rw [e.1, e.2.1, e.2.2]) | (have e := names_none (s := s) he (thr_nil.2 (by have e2 : i = ts.length := (by omega); rw [← e2]; exact hl5_1)); rw [e.1, e.2.1, e.2.2])
 replace he := XF he
 refine WK hK4 ?_
 refine w_seq fun _ hK8 => ?_
 refine WS fun _ hK9 => ?_
 obtain ⟨htr, hs⟩ := bothE_zero he
 have hst := trackOk_all htr
 have hl12 := trackOk_le htr
 refine rS (AG rfl) ?_
 refine RK hK9 ?_
 refine w_block ?_
 have hinit : (0 ≤ ts.length) ∧ (noThr true s ts 0) := by exact ⟨Nat.zero_le _, noThr_zero⟩
 refine w_loop (ι := { z : Nat // (z ≤ ts.length) ∧ (noThr true s ts z) }) (fun z => [(2, (Value.pointer (some ⟨b2, 0, none⟩))), (3, (Value.pointer (some ⟨b3, 0, none⟩))), (8, (Value.int .i64 ((z.1 : Nat) : Int)))]) (fun z => [(blk b3 28 (SledV.cells s)), (blk b2 24 (TrackV.cells (TrackV.mk (Slc.mk tsA ts.length tsC)))), (rd tsA ts.length 9 (ts.map StretchV.cells)).ro]) (fun z => ts.length - z.1) ⟨0, hinit⟩ (Sub.cons rfl <| Sub.cons rfl <| Sub.cons rfl <| Sub.nil _) (fun w hs => St.sel [0, 1, 2] rfl rfl hs) ?_
 clear hinit
 rintro ⟨i, ⟨hl5_0, hl5_1⟩⟩ J10 hJ10
 change WJ _ _ _ _ [(2, (Value.pointer (some ⟨b2, 0, none⟩))), (3, (Value.pointer (some ⟨b3, 0, none⟩))), (8, (Value.int .i64 ((i : Nat) : Int)))] [(blk b3 28 (SledV.cells s)), (blk b2 24 (TrackV.cells (TrackV.mk (Slc.mk tsA ts.length tsC)))), (rd tsA ts.length 9 (ts.map StretchV.cells)).ro]
 refine w_seq fun _ hK11 => ?_
 refine WS fun _ hK12 => ?_
 refine rS (MV rfl) ?_
 refine rS (FA 0 rfl fo24_0 rfl) ?_
 refine rS (L1 (Value.slice tsA ts.length tsC) 1 rfl tk22 rfl rfl) ?_
 refine rS (LN rfl ut22) ?_
 refine rS (BI rfl b_lss) ?_
 refine RK hK12 ?_
 refine w_if rfl (fun h13 => ?_) (fun h13 => ?_)
 rotate_left 1
 · replace h13 := DF h13
   refine w_exit ?_
   refine k_exit_then ?_
   refine k_exit_then ?_
   refine k_exit_same ?_
   refine KK hK8 ?_
   refine WS fun _ hK30 => ?_
   refine rS (AG rfl) ?_
   refine rS (AG rfl) ?_
   refine rS (AG rfl) ?_
   refine RK hK30 ?_
   refine w_ret ?_
   refine Q3 hQ rfl rfl rfl rfl rfl ?_
   first | (have e := names_no he; rw [e.1, e.2.1, e.2.2]) | (have e := names_ref he hl5_1 (by omega) hx htb (by omega) (by omega) hl10_1 (by have e2 : lo = hi := (by omega); rw [e2]; exact hl10_2); rw [e.1, e.2.1, e.2.2]) | (have e := names_none (s := s) he (thr_nil.2 (by have e2 : i = ts.length := (by omega); rw [← e2]; exact hl5_1)); rw [e.1, e.2.1, e.2.2])
 replace h13 := DT h13
 refine WK hK11 ?_
 refine w_seq fun _ hK14 => ?_
 refine w_block ?_
 refine WS fun _ hK15 => ?_
 refine rS (FA 0 rfl fo24_0 rfl) ?_
 refine rS (L1 (Value.slice tsA ts.length tsC) 1 rfl tk22 rfl rfl) ?_
 refine rS (MV rfl) ?_
 obtain ⟨x, hx⟩ : ∃ y_, ts[i]? = some y_ := ⟨ts[i]'(by omega), List.getElem?_eq_getElem _⟩
 have hxm : (ts.map StretchV.cells)[i]? = some (StretchV.cells x) := by rw [List.getElem?_map, hx]; rfl
 refine rS (IA i rfl (has_at 2 rfl) te22 (by decide) (by omega) (by omega)) ?_
 refine rS (LEN i 0 (StretchV.cells x) rfl tk77 (has_at 2 rfl) hxm rfl (by decide) rfl rfl) ?_
 refine AL rfl tz77 fun b16 => ?_
 refine SW0 rfl ts77 rfl ?_
 refine RK hK15 ?_
 refine w_seq fun _ hK17 => ?_
 refine w_seq fun _ hK18 => ?_
 refine w_draw mixed 14 (by kernel_rfl) ?_
 refine dS (LW 2 rfl tk24 rfl rfl) ?_
 refine dS (MV rfl) ?_
 refine dS (CL (curve_c ts tsA tsC ((i : Nat) : Int) hlen hside) (ha_at 3 rfl rfl <| ha_nil) rfl) ?_
 refine dS (NT rfl) ?_
 refine dS (MV rfl) ?_
 refine d_bool (t := 35) rfl (fun hc => ?_) (fun hc => ?_)
 · rw [Bool.not_eq_true'] at hc
   refine dS (OX rfl) ?_
   refine dS (OX rfl) ?_
   refine dS (OX rfl) ?_
   refine dS (OX rfl) ?_
   refine dS (OX rfl) ?_
   refine dS (OX rfl) ?_
   refine dS (OX rfl) ?_
   refine dS (OX rfl) ?_
   refine dS (PK rfl) ?_
   refine d_end ?_
   refine RK hK18 ?_
   refine w_if_true rfl ?_
   refine w_exit ?_
   refine k_exit_then ?_
   refine k_exit_same ?_
   refine KK hK14 ?_
   refine w_region ?_
   refine rS (MV rfl) ?_
   refine rS (BI rfl (b_add ⟨by omega, by omega⟩)) ?_
   obtain ⟨htr, hs⟩ := bothE_zero he
   have hst := trackOk_all htr
   have hl12 := trackOk_le htr
   refine rS (AG rfl) ?_
   refine r_nil ?_
   have hb19 : (Value.int .i64 (((i + 1) : Nat) : Int)) = (Value.int .i64 (((i : Nat) : Int) + 1)) := by exact congrArg (Value.int .i64) (by omega)
   refine k_then (hJ10 ⟨(i + 1), ⟨by omega, noThr_succ hl5_1 (by first | exact thrB_straight hc | exact thrB_no hx (by omega))⟩⟩ _ _ _ rfl (by first | omega | (simp; omega)) (Sub.cons rfl <| Sub.cons rfl <| sub_val rfl hb19 <| Sub.nil _) (fun w hs => St.sel [1, 2, 3] rfl rfl hs))
 rw [Bool.not_eq_false'] at hc
 refine dS (LW 2 rfl tk24 rfl rfl) ?_
 refine dS (LW 1 rfl tk28 rfl rfl) ?_
 refine dS (MV rfl) ?_
 refine dS (CL (rheight_c ts tsA tsC s ((i : Nat) : Int) (by first | assumption | omega | (simp; done) | (simp; omega)) (by first | assumption | omega | (simp; done) | (simp; omega)) (by first | assumption | omega | (simp; done) | (simp; omega)) (by first | assumption | omega | (simp; done) | (simp; omega))) (ha_at 3 rfl rfl <| ha_nil) rfl) ?_
 refine dS (SX (sd_field1 (v := (Value.int .i64 (hgt true s ts ((i : Nat) : Int).toNat))) rfl rfl fo26_1 tf26_1 rfl) rfl rfl) ?_
 refine dS (FA 8 rfl fo77_5 rfl) ?_
 refine dS (L1 (Value.int .i64 x.Wall) 0 rfl tk3 rfl rfl) ?_
 refine dS (BI rfl b_leq) ?_
 refine dS (PK rfl) ?_
 refine d_end ?_
 refine RK hK18 ?_
 refine w_if rfl (fun hw => ?_) (fun hw => ?_)
 · replace hw := DT hw
   refine w_exit ?_
   refine k_exit_then ?_
   refine k_exit_same ?_
   refine KK hK14 ?_
   refine w_region ?_
   refine rS (MV rfl) ?_
   refine rS (BI rfl (b_add ⟨by omega, by omega⟩)) ?_
   obtain ⟨htr, hs⟩ := bothE_zero he
   have hst := trackOk_all htr
   have hl12 := trackOk_le htr
   refine rS (AG rfl) ?_
   refine r_nil ?_
   have hb20 : (Value.int .i64 (((i + 1) : Nat) : Int)) = (Value.int .i64 (((i : Nat) : Int) + 1)) := by exact congrArg (Value.int .i64) (by omega)
   refine k_then (hJ10 ⟨(i + 1), ⟨by omega, noThr_succ hl5_1 (by first | exact thrB_straight hc | exact thrB_no hx (by omega))⟩⟩ _ _ _ rfl (by first | omega | (simp; omega)) (Sub.cons rfl <| Sub.cons rfl <| sub_val rfl hb20 <| Sub.nil _) (fun w hs => St.sel [1, 2, 3] rfl rfl hs))
 replace hw := DF hw
 refine WK hK17 ?_
 refine WS fun _ hK21 => ?_
 have htb := thrB_yes (best := true) (s := s) hx hc (by omega)
 have hib := inAt_b (best := true) hs hst (i := i) (by omega)
 have hns := (thrB_out hx htb).1
 have hxo := hst x (List.mem_of_getElem? hx)
 have hrc := radius_c hxo hns
 have q6 := hs.2.2.2.2.2
 simp only [SpanOk] at q6
 refine rS (LW 2 rfl tk24 rfl rfl) ?_
 refine rS (LW 1 rfl tk28 rfl rfl) ?_
 refine rS (MV rfl) ?_
 refine rS (CL (inside_c ts tsA tsC s ((i : Nat) : Int) (by first | assumption | omega | (simp; done) | (simp; omega)) (by first | assumption | omega | (simp; done) | (simp; omega)) (by first | assumption | omega | (simp; done) | (simp; omega)) (by first | assumption | omega | (simp; done) | (simp; omega))) (ha_at 3 rfl rfl <| ha_nil) rfl) ?_
 refine rS (SX (sd_field1 (v := (Value.int .i64 (inAt true s ts ((i : Nat) : Int).toNat))) rfl rfl fo26_1 tf26_1 rfl) rfl rfl) ?_
 refine rS (AG rfl) ?_
 refine rS (AG rfl) ?_
 refine RK hK21 ?_
 refine w_seq fun _ hK22 => ?_
 refine w_block ?_
 have hinit : (0 ≤ (0 : Int) ∧ (0 : Int) ≤ (inAt true s ts ((i : Nat) : Int).toNat) ∧ (inAt true s ts ((i : Nat) : Int).toNat) ≤ 270000) ∧ (∀ y, 0 ≤ y → y < (0 : Int) → nameP s x y = false) ∧ (nameP s x (inAt true s ts ((i : Nat) : Int).toNat) = true) := by exact ⟨by simp only [Int.toNat_natCast]; omega, fun y h0 h1 => by omega, by simpa using nameP_in hx htb⟩
 refine w_loop (ι := { z : Int × Int // (0 ≤ z.1 ∧ z.1 ≤ z.2 ∧ z.2 ≤ 270000) ∧ (∀ y, 0 ≤ y → y < z.1 → nameP s x y = false) ∧ (nameP s x z.2 = true) }) (fun z => [(2, (Value.pointer (some ⟨b2, 0, none⟩))), (3, (Value.pointer (some ⟨b3, 0, none⟩))), (8, (Value.int .i64 ((i : Nat) : Int))), (9, (Value.pointer (some ⟨b16, 0, none⟩))), (10, (Value.int .i64 z.1.1)), (11, (Value.int .i64 z.1.2))]) (fun z => [(blk b16 77 (StretchV.cells x)), (blk b3 28 (SledV.cells s)), (blk b2 24 (TrackV.cells (TrackV.mk (Slc.mk tsA ts.length tsC)))), (rd tsA ts.length 9 (ts.map StretchV.cells)).ro]) (fun z => (z.1.2 - z.1.1).toNat) ⟨((0 : Int), (inAt true s ts ((i : Nat) : Int).toNat)), hinit⟩ (Sub.cons rfl <| Sub.cons rfl <| Sub.cons rfl <| Sub.cons rfl <| Sub.cons rfl <| Sub.cons rfl <| Sub.nil _) (fun w hs => St.sel [0, 1, 2, 3] rfl rfl hs) ?_
 clear hinit
 rintro ⟨⟨lo, hi⟩, ⟨hl10_0, hl10_1, hl10_2⟩⟩ J23 hJ23
 try dsimp only at hl10_0 hl10_1 hl10_2
 change WJ _ _ _ _ [(2, (Value.pointer (some ⟨b2, 0, none⟩))), (3, (Value.pointer (some ⟨b3, 0, none⟩))), (8, (Value.int .i64 ((i : Nat) : Int))), (9, (Value.pointer (some ⟨b16, 0, none⟩))), (10, (Value.int .i64 lo)), (11, (Value.int .i64 hi))] [(blk b16 77 (StretchV.cells x)), (blk b3 28 (SledV.cells s)), (blk b2 24 (TrackV.cells (TrackV.mk (Slc.mk tsA ts.length tsC)))), (rd tsA ts.length 9 (ts.map StretchV.cells)).ro]
 refine w_seq fun _ hK24 => ?_
 refine WS fun _ hK25 => ?_
 refine rS (MV rfl) ?_
 refine rS (MV rfl) ?_
 refine rS (BI rfl b_lss) ?_
 refine RK hK25 ?_
 refine w_if rfl (fun h26 => ?_) (fun h26 => ?_)
 rotate_left 1
 · replace h26 := DF h26
   refine w_exit ?_
   refine k_exit_then ?_
   refine k_exit_then ?_
   refine k_exit_same ?_
   refine KK hK22 ?_
   refine WS fun _ hK29 => ?_
   refine rS (MV rfl) ?_
   refine rS (MV rfl) ?_
   refine rS (CL (slow3_c lo (by first | assumption | omega | (simp; done) | (simp; omega))) (ha_nil) rfl) ?_
   refine rS (AG rfl) ?_
   refine rS (AG rfl) ?_
   refine rS (AG rfl) ?_
   refine RK hK29 ?_
   refine w_ret ?_
   refine Q3 hQ rfl rfl rfl rfl rfl ?_
   first | (have e := names_no he; rw [e.1, e.2.1, e.2.2]) | (have e := names_ref he hl5_1 (by omega) hx htb (by omega) (by omega) hl10_1 (by have e2 : lo = hi := (by omega); rw [e2]; exact hl10_2); rw [e.1, e.2.1, e.2.2]) | (have e := names_none (s := s) he (thr_nil.2 (by have e2 : i = ts.length := (by omega); rw [← e2]; exact hl5_1)); rw [e.1, e.2.1, e.2.2])
 replace h26 := DT h26
 refine WK hK24 ?_
 refine w_block ?_
 refine WS fun _ hK27 => ?_
 refine rS (MV rfl) ?_
 refine rS (MV rfl) ?_
 refine rS (BI rfl (b_add ⟨by omega, by omega⟩)) ?_
 refine rS (BI rfl (b_quo (by omega) (by omega) (by omega))) ?_
 refine rS (AG rfl) ?_
 refine RK hK27 ?_
 refine w_seq fun _ hK28 => ?_
 refine w_draw mixed 14 (by kernel_rfl) ?_
 refine dS (MV rfl) ?_
 have m3 := divb (a := 1200 * ((lo + hi) / 2)) (b := 10 * x.Radius.Lo) (A := 480000000) (by omega) (by omega) (by omega)
 refine dS (BI rfl (b_mul ⟨by omega, by omega⟩)) ?_
 refine dS (FA 5 rfl fo77_3 rfl) ?_
 refine dS (FA 5 rfl fo26_0 rfl) ?_
 refine dS (L1 (Value.int .i64 x.Radius.Lo) 0 rfl tk3 rfl rfl) ?_
 refine dS (BI rfl (b_mul ⟨by omega, by omega⟩)) ?_
 refine dS (BI rfl (b_quo (by omega) (by omega) (by omega))) ?_
 refine dS (FA 9 rfl fo28_5 rfl) ?_
 refine dS (FA 10 rfl fo26_1 rfl) ?_
 refine dS (L1 (Value.int .i64 s.Steer.Hi) 1 rfl tk3 rfl rfl) ?_
 refine dS (BI rfl (b_add ⟨by omega, by omega⟩)) ?_
 refine dS (FA 8 rfl fo77_5 rfl) ?_
 refine dS (L1 (Value.int .i64 x.Wall) 0 rfl tk3 rfl rfl) ?_
 refine dS (BI rfl b_gtr) ?_
 refine d_end ?_
 refine RK hK28 ?_
 refine w_if rfl (fun hp => ?_) (fun hp => ?_)
 · replace hp := DT hp
   refine w_region ?_
   refine rS (MV rfl) ?_
   refine rS (AG rfl) ?_
   refine r_nil ?_
   refine k_block ?_
   refine k_then (hJ23 ⟨(lo, ((lo + hi) / 2)), (by first | exact ⟨by simp only []; omega, hl10_1, by rw [nameP_eq (by omega)]; exact decide_eq_true hp⟩ | exact ⟨by simp only []; omega, nameP_upto hxo (by rw [nameP_eq (by omega)]; exact decide_eq_false hp), hl10_2⟩)⟩ _ _ _ rfl (by simp only []; omega) (Sub.cons rfl <| Sub.cons rfl <| Sub.cons rfl <| Sub.cons rfl <| Sub.cons rfl <| Sub.cons rfl <| Sub.nil _) (fun w hs => St.sel [0, 1, 2, 3] rfl rfl hs))
 replace hp := DF hp
 refine w_region ?_
 refine rS (MV rfl) ?_
 refine rS (BI rfl (b_add ⟨by omega, by omega⟩)) ?_
 refine rS (AG rfl) ?_
 refine r_nil ?_
 refine k_block ?_
 refine k_then (hJ23 ⟨((((lo + hi) / 2) + 1), hi), (by first | exact ⟨by simp only []; omega, hl10_1, by rw [nameP_eq (by omega)]; exact decide_eq_true hp⟩ | exact ⟨by simp only []; omega, nameP_upto hxo (by rw [nameP_eq (by omega)]; exact decide_eq_false hp), hl10_2⟩)⟩ _ _ _ rfl (by simp only []; omega) (Sub.cons rfl <| Sub.cons rfl <| Sub.cons rfl <| Sub.cons rfl <| Sub.cons rfl <| Sub.cons rfl <| Sub.nil _) (fun w hs => St.sel [0, 1, 2, 3] rfl rfl hs))

end Go.Proofs.Ytpbgdeojcefnmaa
