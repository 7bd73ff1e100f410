/-
  Walks: kreisel/kreisellaw03.SlideLeast
-/
import Derived.Test.YtpbgdeojcefnmaaTab
import Derived.Test.YtpbgdeojcefnmaaShort
import Derived.Test.YtpbgdeojcefnmaaThr
import Derived.Test.YtpbgdeojcefnmaaMono
import Derived.Test.YtpbgdeojcefnmaaSafe
import Derived.Test.YtpbgdeojcefnmaaAlive
import Derived.Test.YtpbgdeojcefnmaaWithin
import Derived.Test.YtpbgdeojcefnmaaShut
import Derived.Test.YtpbgdeojcefnmaaStart
import Derived.Test.YtpbgdeojcefnmaaWalls
import Derived.Test.YtpbgdeojcefnmaaEnds
import Derived.Test.YtpbgdeojcefnmaaThrown
import Derived.Test.YtpbgdeojcefnmaaIn
import Derived.Test.YtpbgdeojcefnmaaDrop
import Derived.Test.YtpbgdeojcefnmaaLeast
import Derived.Test.YtpbgdeojcefnmaaW12
import Derived.Test.YtpbgdeojcefnmaaW22
import Derived.Test.YtpbgdeojcefnmaaW24
import Derived.Test.YtpbgdeojcefnmaaW33
namespace Go.Proofs.Ytpbgdeojcefnmaa
open Go.RowKit
set_option linter.unusedVariables false

set_option maxRecDepth 100000 in
set_option maxHeartbeats 400000 in
theorem slideLeast_c (ts : List StretchV) (tsA : Option Addr) (tsC : Nat) (s : SledV) (q : Int) (bl : List Int) (blA : Option Addr) (blC : Nat) (hside : ∀ x ∈ ts, 0 ≤ x.Side ∧ x.Side ≤ 255) (hc : 0 ≤ s.Class ∧ s.Class ≤ 255) (hq : 0 ≤ q ∧ q ≤ 255) (hbl : ∀ z ∈ bl, 0 ≤ z ∧ z ≤ 4294967295) :
    FnV Try.prog 14 [(Value.agg (TrackV.cells (TrackV.mk (Slc.mk tsA ts.length tsC))).toArray), (Value.agg (SledV.cells s).toArray), (Value.int .u8 q), (Value.slice blA bl.length blC)] [(rd tsA ts.length 9 (ts.map StretchV.cells)), (rd blA bl.length 1 (bl.map iC_u32))] (Value.bool true) := by
 refine fnV_of go14 Try.func14 rfl rfl fun w0 Q hQ hN => ?_
 change WJ _ _ _ _ [(0, (Value.agg (TrackV.cells (TrackV.mk (Slc.mk tsA ts.length tsC))).toArray)), (1, (Value.agg (SledV.cells s).toArray)), (2, (Value.int .u8 q)), (3, (Value.slice blA bl.length blC))] [(rd tsA ts.length 9 (ts.map StretchV.cells)).ro, (rd blA bl.length 1 (bl.map iC_u32)).ro]
 refine WS fun _ hK1 => ?_
 refine BXA rfl fun b2 => ?_
 refine BXA rfl fun b3 => ?_
 refine rS (AG rfl) ?_
 refine RK hK1 ?_
 refine WS fun _ hK4 => ?_
 refine rS (CL alive_c (ha_nil) rfl) ?_
 refine rS (AG rfl) ?_
 refine RK hK4 ?_
 refine w_seq fun _ hK5 => ?_
 refine WS fun _ hK6 => ?_
 refine rS (LW 1 rfl tk24 rfl rfl) ?_
 refine rS (LW 0 rfl tk28 rfl rfl) ?_
 refine rS (CL (ready_c ts tsA tsC s hc) (ha_at 2 rfl rfl <| ha_nil) rfl) ?_
 refine rS (NT rfl) ?_
 refine rS (MV rfl) ?_
 refine r_bool (t := 31) rfl (fun hrd => ?_) (fun hrd => ?_)
 · replace hrd := XT hrd
   refine rS (OX rfl) ?_
   refine rS (OX rfl) ?_
   refine rS (PK rfl) ?_
   refine RK hK6 ?_
   refine w_if_true rfl ?_
   refine WS fun _ hK7 => ?_
   refine rS (MV rfl) ?_
   refine rS (AG rfl) ?_
   refine RK hK7 ?_
   refine w_ret ?_
   refine Q1 hQ rfl rfl rfl ?_
   first | rfl | exact congrArg Value.bool (decide_eq_true (by rw [ey, ez]; exact fastF_zero hi0.1 (hl2.resolve_left hE).2)) | exact congrArg Value.bool (decide_eq_true (by omega))
 replace hrd := XF hrd
 refine rS (MV rfl) ?_
 refine rS (NT rfl) ?_
 refine rS (PK rfl) ?_
 refine RK hK6 ?_
 refine w_if_false rfl ?_
 refine WK hK5 ?_
 refine WS fun _ hK8 => ?_
 obtain ⟨hgr, htr, hs⟩ := hrd
 have hb0 := bothE_ok htr hs
 have hst := trackOk_all htr
 have hl12 := trackOk_le htr
 have hl1 := trackOk_pos htr
 have e0 := spansL_length (s := s) (ts := ts)
 have htl := tHeads_len (bl := bl) (s := s) (ts := ts) (n := ts.length)
 have wk0 := Int.emod_nonneg q (show (ts.length : Int) ≠ 0 by omega)
 have wk1 := Int.emod_lt_of_pos q (show 0 < (ts.length : Int) by omega)
 obtain ⟨k, hk⟩ : ∃ k : Nat, q % (ts.length : Int) = (k : Int) := ⟨_, (Int.toNat_of_nonneg wk0).symm⟩
 have hkl : k < ts.length := by omega
 obtain ⟨xk, hxk⟩ : ∃ x, ts[k]? = some x := ⟨_, List.getElem?_eq_getElem hkl⟩
 have hxo := hst xk (List.mem_of_getElem? hxk)
 have v1 := hxo.2.1
 simp only [SpanOk] at v1
 have hl2 := least_two (s := s) hb0 hkl
 have hi0 := inAt_b (best := true) hs hst (i := k) (by omega)
 have hh0 := headAt_b (best := true) hs hst k
 have hh1 := headAt_b (best := true) hs hst (k + 1)
 have ht0 := tHead_b (bl := bl) hs hst (i := k) (by omega)
 have ht1 := tHead_b (bl := bl) hs hst (i := k + 1) (by omega)
 have hw0 := within (bl := bl) hs hst k
 have hw1 := within (bl := bl) hs hst (k + 1)
 have hde := dropE_in (f := ((k : Nat) : Int)) (t := (((k : Nat) : Int) + 1)) htr (by omega)
 have hdl : longF ts ((k : Nat) : Int).toNat (((k : Nat) : Int) + 1 - ((k : Nat) : Int)).toNat = xk.Long := by rw [show (((k : Nat) : Int) + 1 - ((k : Nat) : Int)).toNat = 1 by omega]; exact longF_one (by simpa using hxk)
 refine rS (MV rfl) ?_
 refine rS (SX (sd_conv (m := q) rfl rfl ut5 ut3 (wrap_u8_i64 (by first | assumption | omega))) rfl rfl) ?_
 refine rS (FA 0 rfl fo24_0 rfl) ?_
 refine rS (L1 (Value.slice tsA ts.length tsC) 1 rfl tk22 rfl rfl) ?_
 refine rS (LN rfl ut22) ?_
 refine rS (BI rfl (b_rem (by omega) (by omega))) ?_
 refine rS (AG rfl) ?_
 refine RK hK8 ?_
 refine WS fun _ hK9 => ?_
 rw [hk]
 refine rS (LW 1 rfl tk24 rfl rfl) ?_
 refine rS (LW 0 rfl tk28 rfl rfl) ?_
 refine rS (MV rfl) ?_
 refine rS (CL (least_c ts tsA tsC s ((k : Nat) : Int) (by first | assumption | omega | (simp; done) | (simp; omega)) hside) (ha_at 2 rfl rfl <| ha_nil) rfl) ?_
 refine rS (MV rfl) ?_
 refine rS (EX rfl) ?_
 refine rS (EX rfl) ?_
 refine rS (AG rfl) ?_
 refine rS (AG rfl) ?_
 refine RK hK9 ?_
 refine WS fun _ hK10 => ?_
 refine rS (LW 1 rfl tk24 rfl rfl) ?_
 refine rS (LW 0 rfl tk28 rfl rfl) ?_
 refine cX (heads_c ts tsA tsC s (by first | assumption | omega | (simp; done) | (simp; omega)) hside) (ha_at 2 rfl rfl <| ha_nil) rfl fun y11 hy12 => ?_
 obtain ⟨a13, c14⟩ := y11
 change RJ _ _ _ _ _ ((_, (Value.tuple [(Value.slice a13 ((spansU s ts).length) c14), (Value.int .i64 (bothE s ts))].toArray)) :: _) ((own a13 c14 26 2 ((spansU s ts).map SpanV.cells)) :: _)
 rw [spansU_ok htr hs]
 rw [hb0]
 refine rS (MV rfl) ?_
 refine rS (EX rfl) ?_
 refine rS (EX rfl) ?_
 refine rS (AG rfl) ?_
 refine rS (AG rfl) ?_
 refine RK hK10 ?_
 refine WS fun _ hK15 => ?_
 refine rS (LW 2 rfl tk24 rfl rfl) ?_
 refine rS (LW 1 rfl tk28 rfl rfl) ?_
 refine rS (MV rfl) ?_
 refine cX (truth_c ts tsA tsC s bl blA blC (by first | assumption | omega | (simp; done) | (simp; omega)) (by first | assumption | omega | (simp; done) | (simp; omega)) (by first | assumption | omega | (simp; done) | (simp; omega)) hbl hside) (ha_at 3 rfl rfl <| ha_at 4 rfl rfl <| ha_nil) rfl fun y16 hy17 => ?_
 obtain ⟨a18, c19, a220, c221⟩ := y16
 change RJ _ _ _ _ _ ((_, (Value.tuple [(Value.slice a18 ((tHeads bl s ts ts.length).length) c19), (Value.slice a220 ((tHgts bl s ts ts.length).length) c221)].toArray)) :: _) ((own a18 c19 3 1 ((tHeads bl s ts ts.length).map iC)) :: (own a220 c221 3 1 ((tHgts bl s ts ts.length).map iC)) :: _)
 refine rS (MV rfl) ?_
 refine rS (EX rfl) ?_
 refine rS (EX rfl) ?_
 refine rS (AG rfl) ?_
 refine rS (AG rfl) ?_
 refine RK hK15 ?_
 refine WS fun _ hK22 => ?_
 refine rS (LW 4 rfl tk24 rfl rfl) ?_
 refine rS (MV rfl) ?_
 refine rS (MV rfl) ?_
 refine rS (BI rfl (b_add ⟨by omega, by omega⟩)) ?_
 refine rS (CL (Drop_c ts tsA tsC ((k : Nat) : Int) (((k : Nat) : Int) + 1) (by first | assumption | omega | (simp; done) | (simp; omega)) hside) (ha_at 5 rfl rfl <| ha_nil) rfl) ?_
 rw [hde.2.1, hdl]
 rw [hde.1]
 refine rS (MV rfl) ?_
 refine rS (EX rfl) ?_
 refine rS (EX rfl) ?_
 refine rS (EX rfl) ?_
 refine AL rfl tz26 fun b23 => ?_
 refine AL rfl tz26 fun b24 => ?_
 refine SW1 rfl ts26 rfl ?_
 refine SW0 rfl ts26 rfl ?_
 refine rS (AG rfl) ?_
 refine RK hK22 ?_
 refine w_seq fun _ hK25 => ?_
 refine WS fun _ hK26 => ?_
 refine rS (MV rfl) ?_
 refine rS (SX (sd_bin (r := .bool false) rfl rfl rfl b_neq) rfl rfl) ?_
 refine rS (MV rfl) ?_
 refine rS (MV rfl) ?_
 refine rS (SX (sd_bin (r := .bool false) rfl rfl rfl b_neq) rfl rfl) ?_
 refine rS (PK rfl) ?_
 refine rS (MV rfl) ?_
 refine rS (MV rfl) ?_
 refine rS (LN rfl ut31) ?_
 refine rS (MV rfl) ?_
 refine rS (LN rfl ut61) ?_
 refine rS (BI rfl b_neq) ?_
 refine rS (PK rfl) ?_
 refine RK hK26 ?_
 refine w_if rfl (fun h27 => ?_) (fun h27 => ?_)
 · replace h27 := XT h27
   exfalso; omega
 replace h27 := XF h27
 refine WK hK25 ?_
 refine w_seq fun _ hK28 => ?_
 refine WS fun _ hK29 => ?_
 refine rS (MV rfl) ?_
 refine rS (BI rfl b_neq) ?_
 refine RK hK29 ?_
 refine w_if rfl (fun hE => ?_) (fun hE => ?_)
 · replace hE := XT hE
   refine w_seq fun _ hK30 => ?_
   refine w_draw mixed 21 (by kernel_rfl) ?_
   refine dS (MV rfl) ?_
   refine dS (MV rfl) ?_
   refine dS (MV rfl) ?_
   refine dS (BI rfl b_eql) ?_
   refine dS (PK rfl) ?_
   refine dS (MV rfl) ?_
   refine d_bool (t := 91) rfl (fun h91 => ?_) (fun h91 => ?_)
   rotate_left 1
   · replace h91 := DF h91
     exfalso; omega
   replace h91 := DT h91
   refine dS (MV rfl) ?_
   refine dS (MV rfl) ?_
   obtain ⟨y, hy⟩ : ∃ y_, (spansL s ts)[k]? = some y_ := ⟨(spansL s ts)[k]'(by omega), List.getElem?_eq_getElem _⟩
   have hym : ((spansL s ts).map SpanV.cells)[k]? = some (SpanV.cells y) := by rw [List.getElem?_map, hy]; rfl
   refine dS (IA k rfl (has_own_n (n := (spansL s ts).length) 4 rfl (by simp)) te31 (by decide) (by omega) (by omega)) ?_
   refine dS (FAR ((k * 2) + 1) rfl (has_own_n (n := (spansL s ts).length) 4 rfl (by simp)) (Nat.mul_pos (by omega) (by decide)) fo26_1 rfl) ?_
   refine dS (LE1 k 1 (Value.int .i64 y.Hi) rfl tk3 (has_own_n (n := (spansL s ts).length) 4 rfl (by simp)) hym rfl (by decide) rfl) ?_
   refine dS (MV rfl) ?_
   refine dS (MV rfl) ?_
   refine dS (BI rfl (b_add ⟨by omega, by omega⟩)) ?_
   obtain ⟨z, hz⟩ : ∃ y_, (spansL s ts)[(k + 1)]? = some y_ := ⟨(spansL s ts)[(k + 1)]'(by omega), List.getElem?_eq_getElem _⟩
   have hzm : ((spansL s ts).map SpanV.cells)[(k + 1)]? = some (SpanV.cells z) := by rw [List.getElem?_map, hz]; rfl
   refine dS (IA (k + 1) rfl (has_own_n (n := (spansL s ts).length) 4 rfl (by simp)) te31 (by decide) (by omega) (by omega)) ?_
   refine dS (FAR (((k + 1) * 2) + 1) rfl (has_own_n (n := (spansL s ts).length) 4 rfl (by simp)) (Nat.mul_pos (by omega) (by decide)) fo26_1 rfl) ?_
   refine dS (LE1 (k + 1) 1 (Value.int .i64 z.Hi) rfl tk3 (has_own_n (n := (spansL s ts).length) 4 rfl (by simp)) hzm rfl (by decide) rfl) ?_
   refine dS (MX rfl) ?_
   have ey : y.Hi = headAt true s ts k := by rw [spansL_get (by omega)] at hy; exact congrArg SpanV.Hi (Option.some.inj hy).symm
   have ez : z.Hi = headAt true s ts (k + 1) := by rw [spansL_get (by omega)] at hz; exact congrArg SpanV.Hi (Option.some.inj hz).symm
   refine dS (BI rfl b_eql) ?_
   refine dS (PK rfl) ?_
   refine dS (AG rfl) ?_
   refine d_end ?_
   refine RK hK30 ?_
   refine w_ret ?_
   refine Q1 hQ rfl rfl rfl ?_
   first | rfl | exact congrArg Value.bool (decide_eq_true (by rw [ey, ez]; exact fastF_zero hi0.1 (hl2.resolve_left hE).2)) | exact congrArg Value.bool (decide_eq_true (by omega))
 replace hE := XF hE
 refine WK hK28 ?_
 refine WS fun _ hK31 => ?_
 obtain ⟨g1, g2, g3, ⟨g4, g5⟩, g6, g7, g8⟩ := least_law hs hst hl12 hb0 hxk (by omega)
 have hsp0 := speed_nat (s := s) (i := k) hb0 (by omega)
 have hsp1 := speed_nat (s := s) (i := k + 1) hb0 (by omega)
 have hfm : max (fastF (headAt true s ts k)) (fastF (headAt true s ts (k + 1))) = (fastF (inAt true s ts k)) := fast_max hh0.1 hh1.1
 refine rS (LW 6 rfl tk24 rfl rfl) ?_
 refine rS (LW 5 rfl tk28 rfl rfl) ?_
 refine rS (MV rfl) ?_
 refine rS (CL (speed_c ts tsA tsC s ((k : Nat) : Int) (by first | assumption | omega | (simp; done) | (simp; omega)) hside) (ha_at 7 rfl rfl <| ha_nil) rfl) ?_
 rw [hsp0.2]
 refine rS (MV rfl) ?_
 refine rS (EX rfl) ?_
 refine rS (EX rfl) ?_
 refine AL rfl tz26 fun b32 => ?_
 refine SW0 rfl ts26 rfl ?_
 refine rS (AG rfl) ?_
 refine RK hK31 ?_
 refine WS fun _ hK33 => ?_
 refine rS (LW 7 rfl tk24 rfl rfl) ?_
 refine rS (LW 6 rfl tk28 rfl rfl) ?_
 refine rS (MV rfl) ?_
 refine rS (BI rfl (b_add ⟨by omega, by omega⟩)) ?_
 refine rS (CL (speed_c ts tsA tsC s (((k : Nat) : Int) + 1) (by first | assumption | omega | (simp; done) | (simp; omega)) hside) (ha_at 8 rfl rfl <| ha_nil) rfl) ?_
 rw [show speedE s ts (((k : Nat) : Int) + 1) = 0 from hsp1.2]
 refine rS (MV rfl) ?_
 refine rS (EX rfl) ?_
 refine rS (EX rfl) ?_
 refine AL rfl tz26 fun b34 => ?_
 refine SW0 rfl ts26 rfl ?_
 refine rS (AG rfl) ?_
 refine RK hK33 ?_
 refine w_seq fun _ hK35 => ?_
 have hb36 : (SpanV.cells (speedV s ts ((k : Nat) : Int))) = (SpanV.cells (SpanV.mk (slowF (headAt false s ts k)) (fastF (headAt true s ts k)))) := by exact congrArg SpanV.cells hsp0.1
 rw [hb36]
 have hb37 : (SpanV.cells (speedV s ts (((k : Nat) : Int) + 1))) = (SpanV.cells (SpanV.mk (slowF (headAt false s ts (k + 1))) (fastF (headAt true s ts (k + 1))))) := by exact congrArg SpanV.cells hsp1.1
 rw [hb37]
 refine w_region ?_
 refine rS (FA 1 rfl fo26_1 rfl) ?_
 refine rS (L1 (Value.int .i64 (fastF (headAt true s ts k))) 1 rfl tk3 rfl rfl) ?_
 refine rS (FA 1 rfl fo26_1 rfl) ?_
 refine rS (L1 (Value.int .i64 (fastF (headAt true s ts (k + 1)))) 0 rfl tk3 rfl rfl) ?_
 refine rS (MX rfl) ?_
 rw [hfm]
 refine rS (AG rfl) ?_
 refine RK hK35 ?_
 refine w_seq fun _ hK38 => ?_
 refine WS fun _ hK39 => ?_
 refine rS (MV rfl) ?_
 refine rS (SX (sd_bin (r := .bool false) rfl rfl rfl b_neq) rfl rfl) ?_
 refine rS (MV rfl) ?_
 refine rS (MV rfl) ?_
 refine rS (SX (sd_bin (r := .bool false) rfl rfl rfl b_neq) rfl rfl) ?_
 refine rS (PK rfl) ?_
 refine rS (MV rfl) ?_
 refine rS (MV rfl) ?_
 refine rS (BI rfl b_lss) ?_
 refine rS (PK rfl) ?_
 refine rS (MV rfl) ?_
 refine r_bool (t := 136) rfl (fun h40 => ?_) (fun h40 => ?_)
 · replace h40 := DT h40
   exfalso; omega
 replace h40 := DF h40
 refine rS (MV rfl) ?_
 refine rS (MV rfl) ?_
 refine rS (BI rfl (b_mul ⟨by omega, by omega⟩)) ?_
 refine rS (FA 0 rfl fo26_0 rfl) ?_
 refine rS (L1 (Value.int .i64 xk.Long.Lo) 3 rfl tk3 rfl rfl) ?_
 refine rS (BI rfl (b_mul ⟨by omega, by omega⟩)) ?_
 refine rS (BI rfl b_lss) ?_
 refine rS (PK rfl) ?_
 refine rS (MV rfl) ?_
 refine r_bool (t := 145) rfl (fun h41 => ?_) (fun h41 => ?_)
 · replace h41 := DT h41
   exfalso; omega
 replace h41 := DF h41
 refine rS (MV rfl) ?_
 refine rS (BI rfl (b_sub ⟨by omega, by omega⟩)) ?_
 refine rS (MV rfl) ?_
 refine rS (BI rfl (b_mul ⟨by omega, by omega⟩)) ?_
 refine rS (FA 0 rfl fo26_0 rfl) ?_
 refine rS (L1 (Value.int .i64 xk.Long.Lo) 3 rfl tk3 rfl rfl) ?_
 refine rS (BI rfl (b_mul ⟨by omega, by omega⟩)) ?_
 refine rS (BI rfl b_geq) ?_
 refine rS (PK rfl) ?_
 refine RK hK39 ?_
 refine w_if rfl (fun h42 => ?_) (fun h42 => ?_)
 · replace h42 := DT h42
   exfalso; omega
 replace h42 := DF h42
 refine WK hK38 ?_
 refine WS fun _ hK43 => ?_
 first | skip
 refine rS (AG rfl) ?_
 refine RK hK43 ?_
 refine w_seq fun _ hK44 => ?_
 refine w_block ?_
 have hinit : (0 ≤ (0 : Int) ∧ (0 : Int) ≤ fastF (max (tHead bl s ts k) (tHead bl s ts (k + 1)))) := by exact ⟨Int.le_refl _, fastF_nn (by omega)⟩
 refine w_loop (ι := { z : Int // (0 ≤ z ∧ z ≤ fastF (max (tHead bl s ts k) (tHead bl s ts (k + 1)))) }) (fun z => [(2, (Value.int .u8 q)), (3, (Value.slice blA bl.length blC)), (4, (Value.pointer (some ⟨b2, 0, none⟩))), (5, (Value.pointer (some ⟨b3, 0, none⟩))), (9, (Value.bool true)), (10, (Value.int .i64 ((k : Nat) : Int))), (11, (Value.int .i64 (leastV s ts ((k : Nat) : Int)))), (15, (Value.slice a18 ((tHeads bl s ts ts.length).length) c19)), (24, (Value.int .i64 (fastF (inAt true s ts k)))), (25, (Value.int .i64 z.1))]) (fun z => [(own a18 c19 3 1 ((tHeads bl s ts ts.length).map iC)), (own a220 c221 3 1 ((tHgts bl s ts ts.length).map iC)), (own a13 c14 26 2 ((spansL s ts).map SpanV.cells)), (blk b3 28 (SledV.cells s)), (blk b2 24 (TrackV.cells (TrackV.mk (Slc.mk tsA ts.length tsC)))), (rd tsA ts.length 9 (ts.map StretchV.cells)).ro, (rd blA bl.length 1 (bl.map iC_u32)).ro]) (fun z => (fastF (max (tHead bl s ts k) (tHead bl s ts (k + 1))) - z.1).toNat) ⟨(0 : Int), hinit⟩ (Sub.cons rfl <| Sub.cons rfl <| Sub.cons rfl <| Sub.cons rfl <| Sub.cons rfl <| Sub.cons rfl <| Sub.cons rfl <| Sub.cons rfl <| Sub.cons rfl <| Sub.cons rfl <| Sub.nil _) (fun w hs => St.sel [4, 5, 6, 7, 8, 9, 10] rfl rfl hs) ?_
 clear hinit
 rintro ⟨v, hl19_0⟩ J45 hJ45
 change WJ _ _ _ _ [(2, (Value.int .u8 q)), (3, (Value.slice blA bl.length blC)), (4, (Value.pointer (some ⟨b2, 0, none⟩))), (5, (Value.pointer (some ⟨b3, 0, none⟩))), (9, (Value.bool true)), (10, (Value.int .i64 ((k : Nat) : Int))), (11, (Value.int .i64 (leastV s ts ((k : Nat) : Int)))), (15, (Value.slice a18 ((tHeads bl s ts ts.length).length) c19)), (24, (Value.int .i64 (fastF (inAt true s ts k)))), (25, (Value.int .i64 v))] [(own a18 c19 3 1 ((tHeads bl s ts ts.length).map iC)), (own a220 c221 3 1 ((tHgts bl s ts ts.length).map iC)), (own a13 c14 26 2 ((spansL s ts).map SpanV.cells)), (blk b3 28 (SledV.cells s)), (blk b2 24 (TrackV.cells (TrackV.mk (Slc.mk tsA ts.length tsC)))), (rd tsA ts.length 9 (ts.map StretchV.cells)).ro, (rd blA bl.length 1 (bl.map iC_u32)).ro]
 have hfb := fastF_le (h := (max (tHead bl s ts k) (tHead bl s ts (k + 1)))) (by omega) (by omega)
 have m1 := mulb (a := 10 * v) (b := v) (A := 90010) (B := 9001) (by omega) (by omega) (by omega) (by omega)
 refine w_seq fun _ hK46 => ?_
 refine w_seq fun _ hK47 => ?_
 refine w_draw mixed 16 (by kernel_rfl) ?_
 refine dS (MV rfl) ?_
 refine dS (BI rfl (b_mul ⟨by omega, by omega⟩)) ?_
 refine dS (MV rfl) ?_
 refine dS (BI rfl (b_mul ⟨by omega, by omega⟩)) ?_
 refine dS (MV rfl) ?_
 refine dS (MV rfl) ?_
 obtain ⟨m, hm⟩ : ∃ y_, (tHeads bl s ts ts.length)[k]? = some y_ := ⟨(tHeads bl s ts ts.length)[k]'(by omega), List.getElem?_eq_getElem _⟩
 have hmm : ((tHeads bl s ts ts.length).map iC)[k]? = some (iC m) := by rw [List.getElem?_map, hm]; rfl
 refine dS (IA k rfl (has_own_n (n := (tHeads bl s ts ts.length).length) 0 rfl (by simp)) te61 (by decide) (by omega) (by omega)) ?_
 refine dS (LE1 k 0 (Value.int .i64 m) rfl tk3 (has_own_n (n := (tHeads bl s ts ts.length).length) 0 rfl (by simp)) hmm rfl (by decide) rfl) ?_
 refine dS (MV rfl) ?_
 refine dS (MV rfl) ?_
 refine dS (BI rfl (b_add ⟨by omega, by omega⟩)) ?_
 obtain ⟨n, hn⟩ : ∃ y_, (tHeads bl s ts ts.length)[(k + 1)]? = some y_ := ⟨(tHeads bl s ts ts.length)[(k + 1)]'(by omega), List.getElem?_eq_getElem _⟩
 have hnm : ((tHeads bl s ts ts.length).map iC)[(k + 1)]? = some (iC n) := by rw [List.getElem?_map, hn]; rfl
 refine dS (IA (k + 1) rfl (has_own_n (n := (tHeads bl s ts ts.length).length) 0 rfl (by simp)) te61 (by decide) (by omega) (by omega)) ?_
 refine dS (LE1 (k + 1) 0 (Value.int .i64 n) rfl tk3 (has_own_n (n := (tHeads bl s ts ts.length).length) 0 rfl (by simp)) hnm rfl (by decide) rfl) ?_
 have em := tHeads_is hm (by omega)
 have en := tHeads_is hn (by omega)
 rw [show (k + 1 : Nat) = k + 1 from rfl] at en
 refine dS (MX rfl) ?_
 refine dS (BI rfl (b_mul ⟨by omega, by omega⟩)) ?_
 refine dS (BI rfl b_lss) ?_
 refine d_end ?_
 refine RK hK47 ?_
 refine w_if rfl (fun h170 => ?_) (fun h170 => ?_)
 · replace h170 := DT h170
   refine WK hK46 ?_
   refine w_block ?_
   refine w_region ?_
   refine rS (MV rfl) ?_
   refine rS (BI rfl (b_add ⟨by omega, by omega⟩)) ?_
   first | skip
   refine rS (AG rfl) ?_
   refine r_nil ?_
   refine k_block ?_
   refine k_then (hJ45 ⟨(v + 1), (by have := fast_more (h := (max (tHead bl s ts k) (tHead bl s ts (k + 1)))) (v := v) (by omega) (by rw [em, en] at h170; exact h170) (by omega); omega)⟩ _ _ _ rfl (by have := fast_more (h := (max (tHead bl s ts k) (tHead bl s ts (k + 1)))) (v := v) (by omega) (by rw [em, en] at h170; exact h170) (by omega); dsimp only; omega) (Sub.cons rfl <| Sub.cons rfl <| Sub.cons rfl <| Sub.cons rfl <| Sub.cons rfl <| Sub.cons rfl <| Sub.cons rfl <| Sub.cons rfl <| Sub.cons rfl <| Sub.cons rfl <| Sub.nil _) (fun w hs => St.sel [0, 1, 2, 3, 4, 5, 6] rfl rfl hs))
 replace h170 := DF h170
 refine w_exit ?_
 refine k_exit_then ?_
 refine k_exit_then ?_
 refine k_exit_same ?_
 refine KK hK44 ?_
 refine w_seq fun _ hK48 => ?_
 refine w_draw mixed 27 (by kernel_rfl) ?_
 refine dS (MV rfl) ?_
 refine dS (MV rfl) ?_
 refine dS (MV rfl) ?_
 refine dS (MV rfl) ?_
 refine dS (BI rfl b_leq) ?_
 refine dS (PK rfl) ?_
 refine dS (MV rfl) ?_
 refine d_bool (t := 179) rfl (fun h179 => ?_) (fun h179 => ?_)
 rotate_left 1
 · replace h179 := DF h179
   exfalso; apply h179; have := fastF_mono (show 0 ≤ (max (tHead bl s ts k) (tHead bl s ts (k + 1))) by omega) (show (max (tHead bl s ts k) (tHead bl s ts (k + 1))) ≤ inAt true s ts k by unfold inAt; omega); omega
 replace h179 := DT h179
 have hv : v ≤ (fastF (inAt true s ts k)) := by have := fastF_mono (show 0 ≤ max (tHead bl s ts k) (tHead bl s ts (k + 1)) by omega) (show max (tHead bl s ts k) (tHead bl s ts (k + 1)) ≤ inAt true s ts k by unfold inAt; omega); omega
 have hls := least_slow (n := (leastV s ts ((k : Nat) : Int))) g1 hv hl19_0.1
 refine dS (MV rfl) ?_
 refine dS (BI rfl (b_sub ⟨by omega, by omega⟩)) ?_
 refine dS (MV rfl) ?_
 refine dS (BI rfl (b_mul ⟨by omega, by omega⟩)) ?_
 refine dS (FA 0 rfl fo24_0 rfl) ?_
 refine dS (L1 (Value.slice tsA ts.length tsC) 4 rfl tk22 rfl rfl) ?_
 refine dS (MV rfl) ?_
 obtain ⟨x, hx⟩ : ∃ y_, ts[k]? = some y_ := ⟨ts[k]'(by omega), List.getElem?_eq_getElem _⟩
 have hxm : (ts.map StretchV.cells)[k]? = some (StretchV.cells x) := by rw [List.getElem?_map, hx]; rfl
 refine dS (IA k rfl (has_at 5 rfl) te22 (by decide) (by omega) (by omega)) ?_
 refine dS (FAR ((k * 9) + 1) rfl (has_at 5 rfl) (Nat.mul_pos (by omega) (by decide)) fo77_1 rfl) ?_
 refine dS (LEN k 1 (SpanV.cells x.Long) rfl tk26 (has_at 5 rfl) hxm rfl (by decide) rfl rfl) ?_
 refine dS (MV rfl) ?_
 have hxx : x = xk := Option.some.inj (hx.symm.trans hxk)
 subst hxx
 refine dS (MV rfl) ?_
 refine dS (BI rfl (b_mul ⟨by omega, by omega⟩)) ?_
 refine dS (BI rfl (b_add ⟨by omega, by omega⟩)) ?_
 refine dS (CL (choose_c bl blA blC (3 + (5 * ((k : Nat) : Int))) hbl (by omega)) (ha_at 6 rfl rfl <| ha_nil) rfl) ?_
 have hso := someF_in (s := x.Long) (b := chooseF bl (3 + 5 * (k : Int))) v1.1
 refine dS (CL (some_c x.Long (chooseF bl (3 + (5 * ((k : Nat) : Int)))) (by omega) (by exact chooseF_b hbl _)) (ha_nil) rfl) ?_
 refine dS (BI rfl (b_mul ⟨by omega, by omega⟩)) ?_
 refine dS (BI rfl b_lss) ?_
 refine dS (PK rfl) ?_
 refine dS (AG rfl) ?_
 refine d_end ?_
 refine RK hK48 ?_
 refine w_ret ?_
 refine Q1 hQ rfl rfl rfl ?_
 first | rfl | exact congrArg Value.bool (decide_eq_true (by rw [ey, ez]; exact fastF_zero hi0.1 (hl2.resolve_left hE).2)) | exact congrArg Value.bool (decide_eq_true (by omega))

end Go.Proofs.Ytpbgdeojcefnmaa
