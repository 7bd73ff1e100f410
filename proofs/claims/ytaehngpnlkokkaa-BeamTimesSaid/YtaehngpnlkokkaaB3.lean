/-
  Walks: (kreisel/track.survey).stands$1, kreisel/track.pick[kreisel/api.Spot], (kreisel/track.survey).stands, kreisel/track.less, kreisel/track.At, kreisel/track.Apart, kreisel/kreiselref01.Spot, kreisel/kreiselref01.drop
-/
import Derived.Test.YtaehngpnlkokkaaTab
import Derived.Test.YtaehngpnlkokkaaShort
import Derived.Test.YtaehngpnlkokkaaSpot
import Derived.Test.YtaehngpnlkokkaaB1
import Derived.Test.YtaehngpnlkokkaaB2
namespace Go.Proofs.Ytaehngpnlkokkaa
open Go.RowKit
set_option linter.unusedVariables false

set_option maxRecDepth 100000 in
set_option maxHeartbeats 400000 in
theorem stands1_c (i : Int) (s : SpotV) (ts : List StretchV) (tsA : Option Addr) (tsC : Nat) (g1 : Nat) (hst : ∀ x ∈ ts, StretchOk x) (hlen : ts.length ≤ 12) :
    FnV Try.prog 101 [(Value.int .i64 i), (Value.agg (SpotV.cells s).toArray), (Value.pointer (some ⟨g1, 0, none⟩))] [(rd tsA ts.length 9 (ts.map StretchV.cells)), (blk g1 117 (SurveyV.cells (SurveyV.mk (TrackV.mk (Slc.mk tsA ts.length tsC)))))] (Value.bool (!(decide (SpotOk ts s)))) := by
 refine fnV_of go101 Try.func101 rfl rfl fun w0 Q hQ hN => ?_
 change WJ _ _ _ _ [(0, (Value.int .i64 i)), (1, (Value.agg (SpotV.cells s).toArray)), (2, (Value.pointer (some ⟨g1, 0, none⟩)))] [(rd tsA ts.length 9 (ts.map StretchV.cells)).ro, (blk g1 117 (SurveyV.cells (SurveyV.mk (TrackV.mk (Slc.mk tsA ts.length tsC))))).ro]
 refine WS fun _ hK1 => ?_
 refine BXA rfl fun b2 => ?_
 refine rS (AG rfl) ?_
 refine RK hK1 ?_
 refine w_seq fun _ hK3 => ?_
 refine w_drawN mixed [0, 1, 2, 3, 4, 5, 6] [7, 8, 9, 10, 11, 12, 13, 14, 15, 16, 17, 18, 19, 20, 21, 22, 23, 24, 25, 26] [false, false, false, false, false, false, false] [] [(blk b2 53 (SpotV.cells s)), (rd tsA ts.length 9 (ts.map StretchV.cells)).ro, (blk g1 117 (SurveyV.cells (SurveyV.mk (TrackV.mk (Slc.mk tsA ts.length tsC))))).ro] [] (by kernel_rfl) (fun w hs => St.sel [0, 1, 2] rfl rfl hs) (fun w hs => St.sel [] rfl rfl hs) ?_
 refine eS rfl (FA 0 rfl fo117_0 rfl) ?_
 refine eS rfl (FA 0 rfl fo24_0 rfl) ?_
 refine eS rfl (L1R (Value.slice tsA ts.length tsC) 2 rfl tk22 rfl rfl) ?_
 refine eS rfl (LN rfl ut22) ?_
 refine eS rfl (BI rfl (b_sub ⟨by omega, by omega⟩)) ?_
 refine eS rfl (FA 0 rfl fo53_0 rfl) ?_
 refine eS rfl (L1 (Value.int .i64 s.Stretch) 0 rfl tk3 rfl rfl) ?_
 refine d_fin rfl ?_
 refine n_step [7] (by kernel_rfl) (n_cons ?_ <| n_nil)
 refine n_op (rem' := [8, 9, 10, 11, 12, 13, 14, 15, 16, 17, 18, 19, 20, 21, 22, 23, 24, 25, 26]) rfl (by kernel_rfl) rfl fun T4 hT4 => ?_
 refine r_bs (xs := [.tmp 12]) (cs := [(Value.int .i64 s.Stretch)]) rfl te57 tz3 rfl rfl rfl rfl (by simp [Value.cells]) rfl rfl fun b5 => ?_
 refine r_nil (hT4 _ _ (fun w hs => St.sel [1, 2, 3] rfl rfl hs) ?_)
 refine n_pure [14, 15, 16, 17, 18, 19, 20, 21, 22, 23, 24, 25, 26, 27, 28, 29, 30, 31, 5] (by kernel_rfl) (by kernel_rfl) rfl _ rfl rfl (fun w hs => St.sel [1, 2, 3] rfl rfl hs) ?_
 refine dS (CL (FnV.eq (in_track 0 (((ts.length : Nat) : Int) - 1) ([s.Stretch]) (some ⟨b5, 0, none⟩) 1 (by first | assumption | omega | (simp; done) | (simp; omega))) inAll_one) (ha_cons (has_rd_blk 0 rfl rfl (by simp [iC_length]) rfl) <| ha_nil) rfl) ?_
 refine dS (NT rfl) ?_
 refine dS (MV rfl) ?_
 refine d_bool (t := 16) rfl (fun h16 => ?_) (fun h16 => ?_)
 · replace h16 := XT h16
   refine dS (OX rfl) ?_
   refine dS (OX rfl) ?_
   refine dS (OX rfl) ?_
   refine dS (OX rfl) ?_
   refine dS (OX rfl) ?_
   refine dS (OX rfl) ?_
   refine dS (OX rfl) ?_
   refine dS (OX rfl) ?_
   refine dS (OX rfl) ?_
   refine dS (OX rfl) ?_
   refine dS (OX rfl) ?_
   refine dS (OX rfl) ?_
   refine dS (OX rfl) ?_
   refine dS (OX rfl) ?_
   refine dS (PK rfl) ?_
   refine dS (AG rfl) ?_
   refine d_end ?_
   refine RK hK3 ?_
   refine w_ret ?_
   refine Q1 hQ rfl rfl rfl ?_
   first | (refine congrArg Value.bool ?_; rw [decide_eq_false (spot_out (by omega))]; rfl) | exact congrArg (fun b => Value.bool (!b)) (decide_eq_decide.2 (spot_yes (by omega) hx).symm)
 replace h16 := XF h16
 refine dS (FA 1 rfl fo53_1 rfl) ?_
 refine dS (LP (SpanV.cells s.Off) 1 rfl tk34 rfl rfl rfl) ?_
 refine dS (FA 0 rfl fo117_0 rfl) ?_
 refine dS (FA 0 rfl fo24_0 rfl) ?_
 refine dS (L1R (Value.slice tsA ts.length tsC) 3 rfl tk22 rfl rfl) ?_
 refine dS (FA 0 rfl fo53_0 rfl) ?_
 refine dS (L1 (Value.int .i64 s.Stretch) 1 rfl tk3 rfl rfl) ?_
 obtain ⟨x, hx⟩ : ∃ y_, ts[(s.Stretch).toNat]? = some y_ := ⟨ts[(s.Stretch).toNat]'(by omega), List.getElem?_eq_getElem _⟩
 have hxm : (ts.map StretchV.cells)[(s.Stretch).toNat]? = some (StretchV.cells x) := by rw [List.getElem?_map, hx]; rfl
 refine dS (IA ((s.Stretch).toNat) rfl (has_at 2 rfl) te22 (by decide) (by omega) (by omega)) ?_
 refine dS (FAR ((((s.Stretch).toNat) * 9) + 1) rfl (has_at 2 rfl) (Nat.mul_pos (by omega) (by decide)) fo126_1 rfl) ?_
 have hxo := (hst x (List.mem_of_getElem? hx)).2.1
 simp only [SpanOk] at hxo
 refine dS (FAR ((((s.Stretch).toNat) * 9) + 1) rfl (has_at 2 rfl) (Nat.mul_pos (by omega) (by decide)) fo34_0 rfl) ?_
 refine dS (LE1 ((s.Stretch).toNat) 1 (Value.int .i64 x.Long.Lo) rfl tk3 (has_at 2 rfl) hxm rfl (by decide) rfl) ?_
 refine dS (BI rfl (b_sub ⟨by omega, by omega⟩)) ?_
 refine dS (CL (known_c s.Off 0 (x.Long.Lo - 1)) (ha_nil) rfl) ?_
 refine dS (NT rfl) ?_
 refine dS (PK rfl) ?_
 refine dS (AG rfl) ?_
 refine d_end ?_
 refine RK hK3 ?_
 refine w_ret ?_
 refine Q1 hQ rfl rfl rfl ?_
 first | (refine congrArg Value.bool ?_; rw [decide_eq_false (spot_out (by omega))]; rfl) | exact congrArg (fun b => Value.bool (!b)) (decide_eq_decide.2 (spot_yes (by omega) hx).symm)

set_option maxRecDepth 100000 in
set_option maxHeartbeats 400000 in
theorem pickspot_c (l : List SpotV) (lA : Option Addr) (lC : Nat) (f : Value) (p : Int → SpotV → Bool) (X : Assn) (hf : ∀ x0 x1, (∃ k : Nat, x0 = (k : Int) ∧ l[k]? = some x1) → Clo Try.prog f [.int .i64 x0, .agg (SpotV.cells x1).toArray] [X] (.bool (p x0 x1))) (hlen : l.length ≤ 1000000) :
    FnX Try.prog 100 [(Value.slice lA l.length lC), f] [(rd lA l.length 3 (l.map SpotV.cells)), X] (fun (x : (Option Addr) × Nat) => (Value.slice x.1 ((pckF (fun jj yy => p (jj : Int) yy) l).length) x.2)) (fun (x : (Option Addr) × Nat) => True) (fun (x : (Option Addr) × Nat) => [(own x.1 x.2 3 1 ((pckF (fun jj yy => p (jj : Int) yy) l).map iC))]) := by
 refine fnX_of go100 Try.func100 rfl rfl fun w0 Q hQ hN => ?_
 change WJ _ _ _ _ [(0, (Value.slice lA l.length lC)), (1, f)] [(rd lA l.length 3 (l.map SpotV.cells)).ro, X.ro]
 refine WS fun _ hK1 => ?_
 refine rS (AG rfl) ?_
 refine RK hK1 ?_
 refine WS fun _ hK2 => ?_
 refine rS (AG rfl) ?_
 refine RK hK2 ?_
 refine w_seq fun _ hK3 => ?_
 refine WS fun _ hK4 => ?_
 refine rS (MV rfl) ?_
 refine rS (LN rfl ut151) ?_
 refine rS (MV rfl) ?_
 refine RK hK4 ?_
 refine w_block ?_
 refine w_own_nil 3 1 ?_
 have hinit : (0 ≤ l.length) := by exact Nat.zero_le _
 refine w_loop (ι := { z : Nat × (Option Addr) × Nat // (z.1 ≤ l.length) }) (fun z => [(0, (Value.slice lA l.length lC)), (1, f), (5, (Value.slice z.1.2.1 ((pckL (fun jj yy => p (jj : Int) yy) l z.1.1).length) z.1.2.2)), (8, (Value.slice lA l.length lC)), (9, (Value.int .i64 ((l.length : Nat) : Int))), (10, (Value.int .i64 ((z.1.1 : Nat) : Int)))]) (fun z => [(own z.1.2.1 z.1.2.2 3 1 ((pckL (fun jj yy => p (jj : Int) yy) l z.1.1).map iC)), (rd lA l.length 3 (l.map SpotV.cells)).ro, X.ro]) (fun z => l.length - z.1.1) ⟨(0, none, 0), hinit⟩ (Sub.cons rfl <| Sub.cons rfl <| Sub.cons rfl <| Sub.cons rfl <| Sub.cons rfl <| Sub.cons rfl <| Sub.nil _) (fun w hs => St.sel [0, 1, 2] rfl rfl hs) ?_
 clear hinit
 rintro ⟨⟨i, a, c⟩, hl0_0⟩ J5 hJ5
 try dsimp only at hl0_0
 change WJ _ _ _ _ [(0, (Value.slice lA l.length lC)), (1, f), (5, (Value.slice a ((pckL (fun jj yy => p (jj : Int) yy) l i).length) c)), (8, (Value.slice lA l.length lC)), (9, (Value.int .i64 ((l.length : Nat) : Int))), (10, (Value.int .i64 ((i : Nat) : Int)))] [(own a c 3 1 ((pckL (fun jj yy => p (jj : Int) yy) l i).map iC)), (rd lA l.length 3 (l.map SpotV.cells)).ro, X.ro]
 refine WS fun _ hK6 => ?_
 refine rS (BI rfl b_lss) ?_
 refine RK hK6 ?_
 refine w_seq fun _ hK7 => ?_
 refine w_if rfl (fun h8 => ?_) (fun h8 => ?_)
 rotate_left 1
 · replace h8 := DF h8
   refine w_exit ?_
   refine k_exit_then ?_
   refine k_exit_then ?_
   refine k_exit_same ?_
   refine KK hK3 ?_
   refine WS fun _ hK18 => ?_
   rw [pckF_at (p := fun (i : Nat) x => p (i : Int) x) (show i = l.length by omega)]
   refine rS (MV rfl) ?_
   refine rS (AG rfl) ?_
   refine RK hK18 ?_
   refine w_ret ?_
   refine hQ _ _ _ (l_nil (vs := [(Value.slice a ((pckF (fun jj yy => p (jj : Int) yy) l).length) c)]) ⟨rfl, trivial⟩ fun w hs => endX (a, c) [0] ?_ ?_ rfl rfl rfl hs)
   · rfl
   · trivial
 replace h8 := DT h8
 refine WK hK7 ?_
 refine w_seq fun _ hK9 => ?_
 refine w_block ?_
 refine WS fun _ hK10 => ?_
 refine rS (MV rfl) ?_
 obtain ⟨x, hx⟩ : ∃ y_, l[i]? = some y_ := ⟨l[i]'(by omega), List.getElem?_eq_getElem _⟩
 have hxm : (l.map SpotV.cells)[i]? = some (SpotV.cells x) := by rw [List.getElem?_map, hx]; rfl
 refine rS (IA i rfl (has_at 1 rfl) te151 (by decide) (by omega) (by omega)) ?_
 refine rS (LEN i 0 (SpotV.cells x) rfl tk53 (has_at 1 rfl) hxm rfl (by decide) rfl rfl) ?_
 refine AL rfl tz53 fun b11 => ?_
 refine rS (AG rfl) ?_
 refine SW0 rfl ts53 rfl ?_
 refine RK hK10 ?_
 refine WS fun _ hK12 => ?_
 refine rS (MV rfl) ?_
 refine rS (MV rfl) ?_
 refine rS (LW 0 rfl tk53 rfl rfl) ?_
 refine rS (SX (sd_clo rfl rfl rfl (hf ((i : Nat) : Int) x ⟨i, rfl, hx⟩) (ha_at 3 rfl rfl <| ha_nil)) rfl rfl) ?_
 refine RK hK12 ?_
 refine w_if rfl (fun hp => ?_) (fun hp => ?_)
 rotate_left 1
 · refine w_skip ?_
   refine k_block ?_
   refine KK hK9 ?_
   refine w_region ?_
   rw [← pckL_no (p := fun (i : Nat) x => p (i : Int) x) hx hp]
   refine rS (BI rfl (b_add ⟨by omega, by omega⟩)) ?_
   refine rS (MV rfl) ?_
   refine r_nil ?_
   have hb17 : (Value.int .i64 (((i + 1) : Nat) : Int)) = (Value.int .i64 (((i : Nat) : Int) + 1)) := by exact congrArg (Value.int .i64) (by omega)
   refine k_then (hJ5 ⟨((i + 1), a, c), (by first | omega | (simp only []; omega))⟩ _ _ _ rfl (by first | omega | (simp; omega)) (Sub.cons rfl <| Sub.cons rfl <| Sub.cons rfl <| Sub.cons rfl <| Sub.cons rfl <| sub_val rfl hb17 <| Sub.nil _) (fun w hs => St.sel [1, 2, 3] rfl rfl hs))
 refine w_region ?_
 refine rS (MV rfl) ?_
 refine rS (MV rfl) ?_
 refine r_bs (xs := [.tmp 20]) (cs := [(Value.int .i64 ((i : Nat) : Int))]) rfl te57 tz3 rfl rfl rfl rfl (by simp [Value.cells]) rfl rfl fun b13 => ?_
 refine r_append (es2 := (List.map iC (pckL (fun jj yy => p (jj : Int) yy) l (i + 1)))) (m' := (pckL (fun jj yy => p (jj : Int) yy) l (i + 1)).length) 2 rfl rfl rfl ta57 rfl rfl (by simp) (has_rd_blk (es := List.map iC [((i : Nat) : Int)]) 0 rfl rfl (by simp [iC_length]) rfl) (one_iC _) (by have := pckL_len (p := fun (i : Nat) x => p (i : Int) x) (l := l) (n := i); simp; omega) (by have := pckL_len (p := fun (i : Nat) x => p (i : Int) x) (l := l) (n := i); simp only [maxLen]; omega) (by rw [pckL_yes hx hp]; simp) (by simp) rfl fun a14 c15 => ?_
 change RJ _ _ _ _ _ _ [_, _, (own a14 c15 3 1 (List.map iC (pckL (fun jj yy => p (jj : Int) yy) l (i + 1)))), _, _]
 refine rS (AG rfl) ?_
 refine r_nil ?_
 refine k_block ?_
 refine KK hK9 ?_
 refine w_region ?_
 refine rS (BI rfl (b_add ⟨by omega, by omega⟩)) ?_
 refine rS (MV rfl) ?_
 refine r_nil ?_
 have hb16 : (Value.int .i64 (((i + 1) : Nat) : Int)) = (Value.int .i64 (((i : Nat) : Int) + 1)) := by exact congrArg (Value.int .i64) (by omega)
 refine k_then (hJ5 ⟨((i + 1), a14, c15), (by first | omega | (simp only []; omega))⟩ _ _ _ rfl (by first | omega | (simp; omega)) (Sub.cons rfl <| Sub.cons rfl <| Sub.cons rfl <| Sub.cons rfl <| Sub.cons rfl <| sub_val rfl hb16 <| Sub.nil _) (fun w hs => St.sel [2, 3, 4] rfl rfl hs))

set_option maxRecDepth 100000 in
set_option maxHeartbeats 400000 in
theorem stands_c (ts : List StretchV) (tsA : Option Addr) (tsC : Nat) (l : List SpotV) (lA : Option Addr) (lC : Nat) (hst : ∀ x ∈ ts, StretchOk x) (hlen : ts.length ≤ 12) (hl : l.length ≤ 4) :
    FnV Try.prog 68 [(Value.agg (SurveyV.cells (SurveyV.mk (TrackV.mk (Slc.mk tsA ts.length tsC)))).toArray), (Value.slice lA l.length lC)] [(rd tsA ts.length 9 (ts.map StretchV.cells)), (rd lA l.length 3 (l.map SpotV.cells))] (Value.bool (decide (∀ s ∈ l, SpotOk ts s))) := by
 refine fnV_of go68 Try.func68 rfl rfl fun w0 Q hQ hN => ?_
 change WJ _ _ _ _ [(0, (Value.agg (SurveyV.cells (SurveyV.mk (TrackV.mk (Slc.mk tsA ts.length tsC)))).toArray)), (1, (Value.slice lA l.length lC))] [(rd tsA ts.length 9 (ts.map StretchV.cells)).ro, (rd lA l.length 3 (l.map SpotV.cells)).ro]
 refine WS fun _ hK1 => ?_
 refine BXA rfl fun b2 => ?_
 refine rS (AG rfl) ?_
 refine RK hK1 ?_
 refine WS fun _ hK3 => ?_
 refine rS (MV rfl) ?_
 refine rS (FU rfl) ?_
 refine cX (pickspot_c l lA lC (Value.func (.func 101) [].toArray [(Value.pointer (some ⟨b2, 0, none⟩))].toArray) (fun u4 u5 => (!(decide (SpotOk ts u5)))) (bun [(rd tsA ts.length 9 (ts.map StretchV.cells)), (blk b2 117 (SurveyV.cells (SurveyV.mk (TrackV.mk (Slc.mk tsA ts.length tsC)))))]) (by intro u4 u5 _; exact clo_of (fi := []) (ca := [(Value.pointer (some ⟨b2, 0, none⟩))]) (fnV_bun (stands1_c u4 u5 ts tsA tsC b2 (by first | assumption | omega) (by first | assumption | omega)) (ha_at 0 rfl rfl <| ha_at 1 rfl rfl <| ha_nil))) (by first | assumption | omega | (simp; done) | (simp; omega))) (ha_at 2 rfl rfl <| ha_cons (has_bun (ha_at 1 rfl rfl <| ha_at 0 rfl rfl <| ha_nil)) <| ha_nil) rfl fun y6 hy7 => ?_
 obtain ⟨a8, c9⟩ := y6
 change RJ _ _ _ _ _ ((_, (Value.slice a8 ((pckF (fun jj yy => (fun u4 u5 => (!(decide (SpotOk ts u5)))) (jj : Int) yy) l).length) c9)) :: _) ((own a8 c9 3 1 ((pckF (fun jj yy => (fun u4 u5 => (!(decide (SpotOk ts u5)))) (jj : Int) yy) l).map iC)) :: _)
 refine rS (LN rfl ut57) ?_
 refine rS (BI rfl b_eql) ?_
 refine rS (AG rfl) ?_
 refine RK hK3 ?_
 refine w_ret ?_
 refine Q1 hQ rfl rfl rfl ?_
 exact congrArg Value.bool (decide_eq_decide.2 (by rw [show ∀ n : Nat, ((n : Int) = 0) ↔ n = 0 from fun n => by omega, pckF_none]; simp only [Bool.not_eq_false', decide_eq_true_eq]; exact ⟨fun h s hs => by obtain ⟨k, hk⟩ := List.getElem?_of_mem hs; exact h k s hk, fun h k s hk => h s (List.mem_of_getElem? hk)⟩))

set_option maxRecDepth 100000 in
set_option maxHeartbeats 400000 in
theorem less_c (z : SpanV) (hz : In12 z) :
    FnV Try.prog 71 [(Value.agg (SpanV.cells z).toArray)] [] (Value.agg (SpanV.cells (lessZ z)).toArray) := by
 unfold In12 at hz
 refine fnV_of go71 Try.func71 rfl rfl fun w0 Q hQ hN => ?_
 change WJ _ _ _ _ [(0, (Value.agg (SpanV.cells z).toArray))] []
 refine WS fun _ hK1 => ?_
 refine BXA rfl fun b2 => ?_
 refine AL rfl tz34 fun b3 => ?_
 refine RK hK1 ?_
 refine WS fun _ hK4 => ?_
 refine rS (FA 1 rfl fo34_1 rfl) ?_
 refine rS (L1 (Value.int .i64 z.Hi) 1 rfl tk3 rfl rfl) ?_
 refine rS (NG rfl ⟨by omega, by omega⟩) ?_
 refine rS (FA 0 rfl fo34_0 rfl) ?_
 refine rS (L1 (Value.int .i64 z.Lo) 1 rfl tk3 rfl rfl) ?_
 refine rS (NG rfl ⟨by omega, by omega⟩) ?_
 refine rS (SX (sd_build (xs := [(0, .tmp 5), (1, .tmp 8)]) (cs := (SpanV.cells (SpanV.mk (-z.Hi) (-z.Lo)))) rfl rfl (built_of tb34 rfl)) rfl rfl) ?_
 refine SW0 rfl ts34 rfl ?_
 refine RK hK4 ?_
 refine w_ret ?_
 refine hQ _ _ _ (l_nil (vs := [(Value.agg (SpanV.cells (SpanV.mk (-z.Hi) (-z.Lo))).toArray)]) ⟨⟨_, rfl, .inl ⟨_, _, tk34, at_blk (vs := (SpanV.cells (SpanV.mk (-z.Hi) (-z.Lo)))) 0 rfl rfl, rfl, rfl⟩⟩, trivial⟩ fun w hs => endV ?_ hs)
 show (Value.agg (SpanV.cells (SpanV.mk (-z.Hi) (-z.Lo))).toArray) = (Value.agg (SpanV.cells (lessZ z)).toArray)
 clear hs w hQ hN hK4 hK1
 rfl

set_option maxRecDepth 100000 in
set_option maxHeartbeats 400000 in
theorem At_c (ts : List StretchV) (tsA : Option Addr) (tsC : Nat) (s : SpotV) (hlen : ts.length ≤ 1000000) (hside : ∀ x ∈ ts, 0 ≤ x.Side ∧ x.Side ≤ 255) :
    FnV Try.prog 36 [(Value.agg (TrackV.cells (TrackV.mk (Slc.mk tsA ts.length tsC))).toArray), (Value.agg (SpotV.cells s).toArray)] [(rd tsA ts.length 9 (ts.map StretchV.cells))] (Value.tuple [(Value.agg (SpanV.cells (atV ts s)).toArray), (Value.int .i64 (atE ts s))].toArray) := by
 refine fnV_of go36 Try.func36 rfl rfl fun w0 Q hQ hN => ?_
 change WJ _ _ _ _ [(0, (Value.agg (TrackV.cells (TrackV.mk (Slc.mk tsA ts.length tsC))).toArray)), (1, (Value.agg (SpotV.cells s).toArray))] [(rd tsA ts.length 9 (ts.map StretchV.cells)).ro]
 refine WS fun _ hK1 => ?_
 refine BXA rfl fun b2 => ?_
 refine BXA rfl fun b3 => ?_
 refine AL rfl tz34 fun b4 => ?_
 refine rS (AG rfl) ?_
 refine RK hK1 ?_
 refine WS fun _ hK5 => ?_
 refine rS (LW 2 rfl tk24 rfl rfl) ?_
 refine rS (CL (topen_c ts tsA tsC hlen hside) (ha_at 3 rfl rfl <| ha_nil) rfl) ?_
 refine rS (MV rfl) ?_
 refine rS (EX rfl) ?_
 refine rS (EX rfl) ?_
 refine AL rfl tz117 fun b6 => ?_
 refine SW0 rfl ts117 rfl ?_
 refine rS (AG rfl) ?_
 refine RK hK5 ?_
 refine w_seq fun _ hK7 => ?_
 refine WS fun _ hK8 => ?_
 refine rS (MV rfl) ?_
 refine rS (BI rfl b_neq) ?_
 refine RK hK8 ?_
 refine w_if rfl (fun he => ?_) (fun he => ?_)
 · replace he := XT he
   refine WS fun _ hK9 => ?_
   refine rS (SX (sd_build (xs := []) (cs := (SpanV.cells (SpanV.mk 0 0))) rfl rfl (built_of tb34 rfl)) rfl rfl) ?_
   refine rS (MV rfl) ?_
   refine SW1 rfl ts34 rfl ?_
   refine rS (AG rfl) ?_
   refine RK hK9 ?_
   refine w_ret ?_
   refine hQ _ _ _ (l_nil (vs := [(Value.agg (SpanV.cells (SpanV.mk 0 0)).toArray), (Value.int .i64 (if trackOk ts = true then 0 else 10))]) ⟨⟨_, rfl, .inl ⟨_, _, tk34, at_blk (vs := (SpanV.cells (SpanV.mk 0 0))) 1 rfl rfl, rfl, rfl⟩⟩, rfl, trivial⟩ fun w hs => endV ?_ hs)
   show (Value.tuple [(Value.agg (SpanV.cells (SpanV.mk 0 0)).toArray), (Value.int .i64 (if trackOk ts = true then 0 else 10))].toArray) = (Value.tuple [(Value.agg (SpanV.cells (atV ts s)).toArray), (Value.int .i64 (atE ts s))].toArray)
   clear hs w hQ hN hK9 hK8 hK7 hK5 hK1
   first | (have e := at_bad (s := s) (tr_no he).1; rw [e.1, e.2, (tr_no he).2] <;> rfl) | (have e := at_out htr h23; rw [e.1, e.2] <;> rfl) | (have e := at_in htr h23; rw [e.1, e.2]; unfold atF; rw [show (s.Stretch - 0).toNat = s.Stretch.toNat by rw [Int.sub_zero]] <;> rfl)
 replace he := XF he
 refine WK hK7 ?_
 refine w_seq fun _ hK10 => ?_
 refine WS fun _ hK11 => ?_
 have htr := tr_yes he
 have hst := trackOk_all htr
 have hl12 := trackOk_le htr
 refine rS (LW 0 rfl tk117 rfl rfl) ?_
 refine rS (LW 2 rfl tk53 rfl rfl) ?_
 refine r_bs (xs := [.tmp 20]) (cs := (SpotV.cells s)) rfl te151 tz53 rfl rfl rfl rfl (by simp [Value.cells, SpotV.cells_length]) rfl rfl fun b12 => ?_
 refine rS (CL (FnV.eq (stands_c ts tsA tsC ([s]) (some ⟨b12, 0, none⟩) 1 (by first | assumption | omega | (simp; done) | (simp; omega)) (by first | assumption | omega | (simp; done) | (simp; omega)) (by first | assumption | omega | (simp; done) | (simp; omega))) stands_one) (ha_at 5 rfl rfl <| ha_cons (has_rd_blk 0 rfl rfl (by simp [SpotV.cells_length]) rfl) <| ha_nil) rfl) ?_
 refine rS (NT rfl) ?_
 refine RK hK11 ?_
 refine w_if rfl (fun h23 => ?_) (fun h23 => ?_)
 · replace h23 := XT h23
   refine WS fun _ hK13 => ?_
   refine rS (SX (sd_build (xs := []) (cs := (SpanV.cells (SpanV.mk 0 0))) rfl rfl (built_of tb34 rfl)) rfl rfl) ?_
   refine SW2 rfl ts34 rfl ?_
   refine rS (AG rfl) ?_
   refine RK hK13 ?_
   refine w_ret ?_
   refine hQ _ _ _ (l_nil (vs := [(Value.agg (SpanV.cells (SpanV.mk 0 0)).toArray), (Value.int .i64 12)]) ⟨⟨_, rfl, .inl ⟨_, _, tk34, at_blk (vs := (SpanV.cells (SpanV.mk 0 0))) 2 rfl rfl, rfl, rfl⟩⟩, rfl, trivial⟩ fun w hs => endV ?_ hs)
   show (Value.tuple [(Value.agg (SpanV.cells (SpanV.mk 0 0)).toArray), (Value.int .i64 12)].toArray) = (Value.tuple [(Value.agg (SpanV.cells (atV ts s)).toArray), (Value.int .i64 (atE ts s))].toArray)
   clear hs w hQ hN hK13 hK11 hK10 hK8 hK7 hK5 hK1
   first | (have e := at_bad (s := s) (tr_no he).1; rw [e.1, e.2, (tr_no he).2] <;> rfl) | (have e := at_out htr h23; rw [e.1, e.2] <;> rfl) | (have e := at_in htr h23; rw [e.1, e.2]; unfold atF; rw [show (s.Stretch - 0).toNat = s.Stretch.toNat by rw [Int.sub_zero]] <;> rfl)
 replace h23 := XF h23
 refine WK hK10 ?_
 refine WS fun _ hK14 => ?_
 have hsb := h23.1
 have hof := off_in hst h23
 refine rS (LW 1 rfl tk117 rfl rfl) ?_
 refine rS (FA 0 rfl fo53_0 rfl) ?_
 refine rS (L1 (Value.int .i64 s.Stretch) 3 rfl tk3 rfl rfl) ?_
 refine rS (CL (drop_c ts tsA tsC 0 s.Stretch (by first | assumption | omega | (simp; done) | (simp; omega)) (by first | assumption | omega | (simp; done) | (simp; omega)) (by omega)) (ha_at 5 rfl rfl <| ha_nil) rfl) ?_
 refine rS (MV rfl) ?_
 refine rS (EX rfl) ?_
 refine rS (EX rfl) ?_
 refine AL rfl tz34 fun b15 => ?_
 refine AL rfl tz34 fun b16 => ?_
 refine SW1 rfl ts34 rfl ?_
 refine SW0 rfl ts34 rfl ?_
 refine RK hK14 ?_
 refine WS fun _ hK17 => ?_
 refine rS (LW 1 rfl tk34 rfl rfl) ?_
 refine rS (FA 1 rfl fo53_1 rfl) ?_
 refine rS (LP (SpanV.cells s.Off) 5 rfl tk34 rfl rfl rfl) ?_
 refine r_bs (xs := [.tmp 34]) (cs := (SpanV.cells s.Off)) rfl te81 tz34 rfl rfl rfl rfl (by simp [Value.cells, SpanV.cells_length]) rfl rfl fun b18 => ?_
 refine rS (CL (FnV.eq (plus_c (longF ts (0 : Int).toNat (s.Stretch - 0).toNat) ([s.Off]) (some ⟨b18, 0, none⟩) 1 (by exact longF_in hst (by omega)) (by intro z hz; simp only [List.mem_singleton] at hz; subst hz; exact hof) (by simp)) plus_one) (ha_cons (has_rd_blk 0 rfl rfl (by simp [SpanV.cells_length]) rfl) <| ha_nil) rfl) ?_
 refine SW5 rfl ts34 rfl ?_
 refine rS (AG rfl) ?_
 refine RK hK17 ?_
 refine w_ret ?_
 refine hQ _ _ _ (l_nil (vs := [(Value.agg (SpanV.cells (addZ (longF ts (0 : Int).toNat (s.Stretch - 0).toNat) s.Off)).toArray), (Value.int .i64 0)]) ⟨⟨_, rfl, .inl ⟨_, _, tk34, at_blk (vs := (SpanV.cells (addZ (longF ts (0 : Int).toNat (s.Stretch - 0).toNat) s.Off))) 5 rfl rfl, rfl, rfl⟩⟩, rfl, trivial⟩ fun w hs => endV ?_ hs)
 show (Value.tuple [(Value.agg (SpanV.cells (addZ (longF ts (0 : Int).toNat (s.Stretch - 0).toNat) s.Off)).toArray), (Value.int .i64 0)].toArray) = (Value.tuple [(Value.agg (SpanV.cells (atV ts s)).toArray), (Value.int .i64 (atE ts s))].toArray)
 clear hs w hQ hN hK17 hK14 hK11 hK10 hK8 hK7 hK5 hK1
 first | (have e := at_bad (s := s) (tr_no he).1; rw [e.1, e.2, (tr_no he).2] <;> rfl) | (have e := at_out htr h23; rw [e.1, e.2] <;> rfl) | (have e := at_in htr h23; rw [e.1, e.2]; unfold atF; rw [show (s.Stretch - 0).toNat = s.Stretch.toNat by rw [Int.sub_zero]] <;> rfl)

set_option maxRecDepth 100000 in
set_option maxHeartbeats 400000 in
theorem Apart_c (ts : List StretchV) (tsA : Option Addr) (tsC : Nat) (p : SpotV) (q : SpotV) (hlen : ts.length ≤ 1000000) (hside : ∀ x ∈ ts, 0 ≤ x.Side ∧ x.Side ≤ 255) :
    FnV Try.prog 37 [(Value.agg (TrackV.cells (TrackV.mk (Slc.mk tsA ts.length tsC))).toArray), (Value.agg (SpotV.cells p).toArray), (Value.agg (SpotV.cells q).toArray)] [(rd tsA ts.length 9 (ts.map StretchV.cells))] (Value.tuple [(Value.agg (SpanV.cells (apartV ts p q)).toArray), (Value.int .i64 (apartE ts p q))].toArray) := by
 refine fnV_of go37 Try.func37 rfl rfl fun w0 Q hQ hN => ?_
 change WJ _ _ _ _ [(0, (Value.agg (TrackV.cells (TrackV.mk (Slc.mk tsA ts.length tsC))).toArray)), (1, (Value.agg (SpotV.cells p).toArray)), (2, (Value.agg (SpotV.cells q).toArray))] [(rd tsA ts.length 9 (ts.map StretchV.cells)).ro]
 refine WS fun _ hK1 => ?_
 refine BXA rfl fun b2 => ?_
 refine BXA rfl fun b3 => ?_
 refine BXA rfl fun b4 => ?_
 refine AL rfl tz34 fun b5 => ?_
 refine rS (AG rfl) ?_
 refine RK hK1 ?_
 refine WS fun _ hK6 => ?_
 refine rS (LW 3 rfl tk24 rfl rfl) ?_
 refine rS (CL (topen_c ts tsA tsC hlen hside) (ha_at 4 rfl rfl <| ha_nil) rfl) ?_
 refine rS (MV rfl) ?_
 refine rS (EX rfl) ?_
 refine rS (EX rfl) ?_
 refine AL rfl tz117 fun b7 => ?_
 refine SW0 rfl ts117 rfl ?_
 refine rS (AG rfl) ?_
 refine RK hK6 ?_
 refine w_seq fun _ hK8 => ?_
 refine WS fun _ hK9 => ?_
 refine rS (MV rfl) ?_
 refine rS (BI rfl b_neq) ?_
 refine RK hK9 ?_
 refine w_if rfl (fun he => ?_) (fun he => ?_)
 · replace he := XT he
   refine WS fun _ hK10 => ?_
   refine rS (SX (sd_build (xs := []) (cs := (SpanV.cells (SpanV.mk 0 0))) rfl rfl (built_of tb34 rfl)) rfl rfl) ?_
   refine rS (MV rfl) ?_
   refine SW1 rfl ts34 rfl ?_
   refine rS (AG rfl) ?_
   refine RK hK10 ?_
   refine w_ret ?_
   refine hQ _ _ _ (l_nil (vs := [(Value.agg (SpanV.cells (SpanV.mk 0 0)).toArray), (Value.int .i64 (if trackOk ts = true then 0 else 10))]) ⟨⟨_, rfl, .inl ⟨_, _, tk34, at_blk (vs := (SpanV.cells (SpanV.mk 0 0))) 1 rfl rfl, rfl, rfl⟩⟩, rfl, trivial⟩ fun w hs => endV ?_ hs)
   show (Value.tuple [(Value.agg (SpanV.cells (SpanV.mk 0 0)).toArray), (Value.int .i64 (if trackOk ts = true then 0 else 10))].toArray) = (Value.tuple [(Value.agg (SpanV.cells (apartV ts p q)).toArray), (Value.int .i64 (apartE ts p q))].toArray)
   clear hs w hQ hN hK10 hK9 hK8 hK6 hK1
   first | (have e := apart_bad (a := p) (b := q) (tr_no he).1; rw [e.1, e.2, (tr_no he).2] <;> rfl) | (have e := apart_out htr h26; rw [e.1, e.2] <;> rfl) | (have e := apart_in htr ⟨hp, hq⟩; rw [e.1, e.2]; unfold apartF wayB; rw [if_pos h47] <;> rfl) | (have e := apart_in htr ⟨hp, hq⟩; rw [e.1, e.2]; unfold apartF wayB; rw [if_neg h47] <;> rfl)
 replace he := XF he
 refine WK hK8 ?_
 refine w_seq fun _ hK11 => ?_
 refine WS fun _ hK12 => ?_
 have htr := tr_yes he
 have hst := trackOk_all htr
 have hl12 := trackOk_le htr
 refine rS (LW 0 rfl tk117 rfl rfl) ?_
 refine rS (LW 3 rfl tk53 rfl rfl) ?_
 refine rS (LW 2 rfl tk53 rfl rfl) ?_
 refine r_bs (xs := [.tmp 22, .tmp 23]) (cs := ((SpotV.cells p) ++ (SpotV.cells q))) rfl te151 tz53 rfl rfl rfl rfl (by simp [Value.cells, SpotV.cells_length]) rfl rfl fun b13 => ?_
 refine rS (CL (FnV.eq (stands_c ts tsA tsC ([p, q]) (some ⟨b13, 0, none⟩) 2 (by first | assumption | omega | (simp; done) | (simp; omega)) (by first | assumption | omega | (simp; done) | (simp; omega)) (by first | assumption | omega | (simp; done) | (simp; omega))) stands_two) (ha_at 6 rfl rfl <| ha_cons (has_rd_blk 0 rfl rfl (by simp [SpotV.cells_length]) rfl) <| ha_nil) rfl) ?_
 refine rS (NT rfl) ?_
 refine RK hK12 ?_
 refine w_if rfl (fun h26 => ?_) (fun h26 => ?_)
 · replace h26 := XT h26
   refine WS fun _ hK14 => ?_
   refine rS (SX (sd_build (xs := []) (cs := (SpanV.cells (SpanV.mk 0 0))) rfl rfl (built_of tb34 rfl)) rfl rfl) ?_
   refine SW2 rfl ts34 rfl ?_
   refine rS (AG rfl) ?_
   refine RK hK14 ?_
   refine w_ret ?_
   refine hQ _ _ _ (l_nil (vs := [(Value.agg (SpanV.cells (SpanV.mk 0 0)).toArray), (Value.int .i64 12)]) ⟨⟨_, rfl, .inl ⟨_, _, tk34, at_blk (vs := (SpanV.cells (SpanV.mk 0 0))) 2 rfl rfl, rfl, rfl⟩⟩, rfl, trivial⟩ fun w hs => endV ?_ hs)
   show (Value.tuple [(Value.agg (SpanV.cells (SpanV.mk 0 0)).toArray), (Value.int .i64 12)].toArray) = (Value.tuple [(Value.agg (SpanV.cells (apartV ts p q)).toArray), (Value.int .i64 (apartE ts p q))].toArray)
   clear hs w hQ hN hK14 hK12 hK11 hK9 hK8 hK6 hK1
   first | (have e := apart_bad (a := p) (b := q) (tr_no he).1; rw [e.1, e.2, (tr_no he).2] <;> rfl) | (have e := apart_out htr h26; rw [e.1, e.2] <;> rfl) | (have e := apart_in htr ⟨hp, hq⟩; rw [e.1, e.2]; unfold apartF wayB; rw [if_pos h47] <;> rfl) | (have e := apart_in htr ⟨hp, hq⟩; rw [e.1, e.2]; unfold apartF wayB; rw [if_neg h47] <;> rfl)
 replace h26 := XF h26
 refine WK hK11 ?_
 refine WS fun _ hK15 => ?_
 obtain ⟨hp, hq⟩ := h26
 have hpb := hp.1
 have hqb := hq.1
 have hpo := off_in hst hp
 have hqo := off_in hst hq
 have hlo := less_in hpo
 have hwy := longF_in hst (f := (min p.Stretch q.Stretch).toNat) (k := (max p.Stretch q.Stretch - min p.Stretch q.Stretch).toNat) (by omega)
 refine rS (LW 1 rfl tk117 rfl rfl) ?_
 refine rS (FA 0 rfl fo53_0 rfl) ?_
 refine rS (L1 (Value.int .i64 p.Stretch) 4 rfl tk3 rfl rfl) ?_
 refine rS (FA 0 rfl fo53_0 rfl) ?_
 refine rS (L1 (Value.int .i64 q.Stretch) 3 rfl tk3 rfl rfl) ?_
 refine rS (MN rfl) ?_
 refine rS (FA 0 rfl fo53_0 rfl) ?_
 refine rS (L1 (Value.int .i64 p.Stretch) 4 rfl tk3 rfl rfl) ?_
 refine rS (FA 0 rfl fo53_0 rfl) ?_
 refine rS (L1 (Value.int .i64 q.Stretch) 3 rfl tk3 rfl rfl) ?_
 refine rS (MX rfl) ?_
 refine rS (CL (drop_c ts tsA tsC (min p.Stretch q.Stretch) (max p.Stretch q.Stretch) (by first | assumption | omega | (simp; done) | (simp; omega)) (by first | assumption | omega | (simp; done) | (simp; omega)) (by omega)) (ha_at 6 rfl rfl <| ha_nil) rfl) ?_
 refine rS (MV rfl) ?_
 refine rS (EX rfl) ?_
 refine rS (EX rfl) ?_
 refine AL rfl tz34 fun b16 => ?_
 refine AL rfl tz34 fun b17 => ?_
 refine SW1 rfl ts34 rfl ?_
 refine SW0 rfl ts34 rfl ?_
 refine RK hK15 ?_
 refine w_seq fun _ hK18 => ?_
 refine WS fun _ hK19 => ?_
 refine rS (FA 0 rfl fo53_0 rfl) ?_
 refine rS (L1 (Value.int .i64 q.Stretch) 5 rfl tk3 rfl rfl) ?_
 refine rS (FA 0 rfl fo53_0 rfl) ?_
 refine rS (L1 (Value.int .i64 p.Stretch) 6 rfl tk3 rfl rfl) ?_
 refine rS (BI rfl b_lss) ?_
 refine RK hK19 ?_
 refine w_if rfl (fun h47 => ?_) (fun h47 => ?_)
 rotate_left 1
 · replace h47 := DF h47
   refine WK hK18 ?_
   refine w_seq fun _ hK25 => ?_
   refine w_draw4 mixed [0, 1, 2, 3, 4, 5, 9] [6, 7, 8] [false, false, false, false, false, false, false] [false, false, false] [(blk b17 34 (SpanV.cells (fallF ts (min p.Stretch q.Stretch).toNat ((max p.Stretch q.Stretch) - (min p.Stretch q.Stretch)).toNat))), (blk b16 34 (SpanV.cells (longF ts (min p.Stretch q.Stretch).toNat ((max p.Stretch q.Stretch) - (min p.Stretch q.Stretch)).toNat))), (blk b13 53 ((SpotV.cells p) ++ (SpotV.cells q))), (blk b7 117 (SurveyV.cells (SurveyV.mk (TrackV.mk (Slc.mk tsA ts.length tsC))))), (blk b4 53 (SpotV.cells q)), (blk b3 53 (SpotV.cells p)), (blk b2 24 (TrackV.cells (TrackV.mk (Slc.mk tsA ts.length tsC)))), (rd tsA ts.length 9 (ts.map StretchV.cells)).ro] [] (by kernel_rfl) (fun w hs => St.sel [0, 1, 2, 3, 5, 6, 7, 8] rfl rfl hs) (fun w hs => St.sel [] rfl rfl hs) ?_
   refine eS rfl (LW 1 rfl tk34 rfl rfl) ?_
   refine eS rfl (FA 1 rfl fo53_1 rfl) ?_
   refine eS rfl (LP (SpanV.cells q.Off) 4 rfl tk34 rfl rfl rfl) ?_
   refine eS rfl (FA 1 rfl fo53_1 rfl) ?_
   refine eS rfl (LP (SpanV.cells p.Off) 5 rfl tk34 rfl rfl rfl) ?_
   refine eS rfl (CL (less_c p.Off (by first | assumption | omega | (simp; done) | (simp; omega))) (ha_nil) rfl) ?_
   refine eS rfl (AG rfl) ?_
   refine d_fin rfl ?_
   refine t_cons rfl fun T26 hT26 => ?_
   refine r_bs (xs := [.tmp 52, .tmp 55]) (cs := ((SpanV.cells q.Off) ++ (SpanV.cells (lessZ p.Off)))) rfl te81 tz34 rfl rfl rfl rfl (by simp [Value.cells, SpanV.cells_length]) rfl rfl fun b27 => ?_
   refine r_nil (hT26 _ _ (fun w hs => St.sel [1, 2, 3, 4, 6, 7, 8, 9] rfl rfl hs) ?_)
   refine t_cons rfl fun T28 hT28 => ?_
   refine rS (CL (FnV.eq (plus_c (longF ts (min p.Stretch q.Stretch).toNat ((max p.Stretch q.Stretch) - (min p.Stretch q.Stretch)).toNat) ([q.Off, (lessZ p.Off)]) (some ⟨b27, 0, none⟩) 2 (by first | exact hwy | exact less_in hwy) (by intro z hz; simp only [List.mem_cons, List.not_mem_nil, or_false] at hz; rcases hz with rfl | rfl; exact hqo; exact hlo) (by simp)) plus_two) (ha_cons (has_rd_blk 0 rfl rfl (by simp [SpanV.cells_length]) rfl) <| ha_nil) rfl) ?_
   refine r_nil (hT28 _ _ (fun w hs => St.sel [1, 2, 3, 4, 6, 7, 8, 9] rfl rfl hs) ?_)
   refine t_cons rfl fun T29 hT29 => ?_
   refine SW5 rfl ts34 rfl ?_
   refine r_nil (hT29 _ _ (fun w hs => St.sel [1, 2, 3, 4, 6, 7, 8, 9] rfl rfl hs) ?_)
   refine t_fin rfl ?_
   refine KK hK25 ?_
   refine w_ret ?_
   refine hQ _ _ _ (l_nil (vs := [(Value.agg (SpanV.cells (addZ (addZ (longF ts (min p.Stretch q.Stretch).toNat ((max p.Stretch q.Stretch) - (min p.Stretch q.Stretch)).toNat) q.Off) (lessZ p.Off))).toArray), (Value.int .i64 0)]) ⟨⟨_, rfl, .inl ⟨_, _, tk34, at_blk (vs := (SpanV.cells (addZ (addZ (longF ts (min p.Stretch q.Stretch).toNat ((max p.Stretch q.Stretch) - (min p.Stretch q.Stretch)).toNat) q.Off) (lessZ p.Off)))) 5 rfl rfl, rfl, rfl⟩⟩, rfl, trivial⟩ fun w hs => endV ?_ hs)
   show (Value.tuple [(Value.agg (SpanV.cells (addZ (addZ (longF ts (min p.Stretch q.Stretch).toNat ((max p.Stretch q.Stretch) - (min p.Stretch q.Stretch)).toNat) q.Off) (lessZ p.Off))).toArray), (Value.int .i64 0)].toArray) = (Value.tuple [(Value.agg (SpanV.cells (apartV ts p q)).toArray), (Value.int .i64 (apartE ts p q))].toArray)
   clear hs w hQ hN hT29 T29 hT28 T28 hT26 T26 hK25 hK19 hK18 hK15 hK12 hK11 hK9 hK8 hK6 hK1
   first | (have e := apart_bad (a := p) (b := q) (tr_no he).1; rw [e.1, e.2, (tr_no he).2] <;> rfl) | (have e := apart_out htr h26; rw [e.1, e.2] <;> rfl) | (have e := apart_in htr ⟨hp, hq⟩; rw [e.1, e.2]; unfold apartF wayB; rw [if_pos h47] <;> rfl) | (have e := apart_in htr ⟨hp, hq⟩; rw [e.1, e.2]; unfold apartF wayB; rw [if_neg h47] <;> rfl)
 replace h47 := DT h47
 refine w_region ?_
 refine rS (LW 1 rfl tk34 rfl rfl) ?_
 refine rS (CL (less_c (longF ts (min p.Stretch q.Stretch).toNat ((max p.Stretch q.Stretch) - (min p.Stretch q.Stretch)).toNat) (by first | assumption | omega | (simp; done) | (simp; omega))) (ha_nil) rfl) ?_
 refine SW1 rfl ts34 rfl ?_
 refine RK hK18 ?_
 refine w_seq fun _ hK20 => ?_
 refine w_draw4 mixed [0, 1, 2, 3, 4, 5, 9] [6, 7, 8] [false, false, false, false, false, false, false] [false, false, false] [(blk b17 34 (SpanV.cells (fallF ts (min p.Stretch q.Stretch).toNat ((max p.Stretch q.Stretch) - (min p.Stretch q.Stretch)).toNat))), (blk b16 34 (SpanV.cells (lessZ (longF ts (min p.Stretch q.Stretch).toNat ((max p.Stretch q.Stretch) - (min p.Stretch q.Stretch)).toNat)))), (blk b13 53 ((SpotV.cells p) ++ (SpotV.cells q))), (blk b7 117 (SurveyV.cells (SurveyV.mk (TrackV.mk (Slc.mk tsA ts.length tsC))))), (blk b4 53 (SpotV.cells q)), (blk b3 53 (SpotV.cells p)), (blk b2 24 (TrackV.cells (TrackV.mk (Slc.mk tsA ts.length tsC)))), (rd tsA ts.length 9 (ts.map StretchV.cells)).ro] [] (by kernel_rfl) (fun w hs => St.sel [0, 1, 2, 3, 5, 6, 7, 8] rfl rfl hs) (fun w hs => St.sel [] rfl rfl hs) ?_
 refine eS rfl (LW 1 rfl tk34 rfl rfl) ?_
 refine eS rfl (FA 1 rfl fo53_1 rfl) ?_
 refine eS rfl (LP (SpanV.cells q.Off) 4 rfl tk34 rfl rfl rfl) ?_
 refine eS rfl (FA 1 rfl fo53_1 rfl) ?_
 refine eS rfl (LP (SpanV.cells p.Off) 5 rfl tk34 rfl rfl rfl) ?_
 refine eS rfl (CL (less_c p.Off (by first | assumption | omega | (simp; done) | (simp; omega))) (ha_nil) rfl) ?_
 refine eS rfl (AG rfl) ?_
 refine d_fin rfl ?_
 refine t_cons rfl fun T21 hT21 => ?_
 refine r_bs (xs := [.tmp 52, .tmp 55]) (cs := ((SpanV.cells q.Off) ++ (SpanV.cells (lessZ p.Off)))) rfl te81 tz34 rfl rfl rfl rfl (by simp [Value.cells, SpanV.cells_length]) rfl rfl fun b22 => ?_
 refine r_nil (hT21 _ _ (fun w hs => St.sel [1, 2, 3, 4, 6, 7, 8, 9] rfl rfl hs) ?_)
 refine t_cons rfl fun T23 hT23 => ?_
 refine rS (CL (FnV.eq (plus_c (lessZ (longF ts (min p.Stretch q.Stretch).toNat ((max p.Stretch q.Stretch) - (min p.Stretch q.Stretch)).toNat)) ([q.Off, (lessZ p.Off)]) (some ⟨b22, 0, none⟩) 2 (by first | exact hwy | exact less_in hwy) (by intro z hz; simp only [List.mem_cons, List.not_mem_nil, or_false] at hz; rcases hz with rfl | rfl; exact hqo; exact hlo) (by simp)) plus_two) (ha_cons (has_rd_blk 0 rfl rfl (by simp [SpanV.cells_length]) rfl) <| ha_nil) rfl) ?_
 refine r_nil (hT23 _ _ (fun w hs => St.sel [1, 2, 3, 4, 6, 7, 8, 9] rfl rfl hs) ?_)
 refine t_cons rfl fun T24 hT24 => ?_
 refine SW5 rfl ts34 rfl ?_
 refine r_nil (hT24 _ _ (fun w hs => St.sel [1, 2, 3, 4, 6, 7, 8, 9] rfl rfl hs) ?_)
 refine t_fin rfl ?_
 refine KK hK20 ?_
 refine w_ret ?_
 refine hQ _ _ _ (l_nil (vs := [(Value.agg (SpanV.cells (addZ (addZ (lessZ (longF ts (min p.Stretch q.Stretch).toNat ((max p.Stretch q.Stretch) - (min p.Stretch q.Stretch)).toNat)) q.Off) (lessZ p.Off))).toArray), (Value.int .i64 0)]) ⟨⟨_, rfl, .inl ⟨_, _, tk34, at_blk (vs := (SpanV.cells (addZ (addZ (lessZ (longF ts (min p.Stretch q.Stretch).toNat ((max p.Stretch q.Stretch) - (min p.Stretch q.Stretch)).toNat)) q.Off) (lessZ p.Off)))) 5 rfl rfl, rfl, rfl⟩⟩, rfl, trivial⟩ fun w hs => endV ?_ hs)
 show (Value.tuple [(Value.agg (SpanV.cells (addZ (addZ (lessZ (longF ts (min p.Stretch q.Stretch).toNat ((max p.Stretch q.Stretch) - (min p.Stretch q.Stretch)).toNat)) q.Off) (lessZ p.Off))).toArray), (Value.int .i64 0)].toArray) = (Value.tuple [(Value.agg (SpanV.cells (apartV ts p q)).toArray), (Value.int .i64 (apartE ts p q))].toArray)
 clear hs w hQ hN hT24 T24 hT23 T23 hT21 T21 hK20 hK19 hK18 hK15 hK12 hK11 hK9 hK8 hK6 hK1
 first | (have e := apart_bad (a := p) (b := q) (tr_no he).1; rw [e.1, e.2, (tr_no he).2] <;> rfl) | (have e := apart_out htr h26; rw [e.1, e.2] <;> rfl) | (have e := apart_in htr ⟨hp, hq⟩; rw [e.1, e.2]; unfold apartF wayB; rw [if_pos h47] <;> rfl) | (have e := apart_in htr ⟨hp, hq⟩; rw [e.1, e.2]; unfold apartF wayB; rw [if_neg h47] <;> rfl)

set_option maxRecDepth 100000 in
set_option maxHeartbeats 400000 in
theorem rspot_c (ts : List StretchV) (tsA : Option Addr) (tsC : Nat) (s : SpotV) (hst : ∀ x ∈ ts, StretchOk x) (hlen : ts.length ≤ 12) :
    FnV Try.prog 93 [(Value.agg (TrackV.cells (TrackV.mk (Slc.mk tsA ts.length tsC))).toArray), (Value.agg (SpotV.cells s).toArray)] [(rd tsA ts.length 9 (ts.map StretchV.cells))] (Value.bool (decide (SpotOk ts s))) := by
 refine fnV_of go93 Try.func93 rfl rfl fun w0 Q hQ hN => ?_
 change WJ _ _ _ _ [(0, (Value.agg (TrackV.cells (TrackV.mk (Slc.mk tsA ts.length tsC))).toArray)), (1, (Value.agg (SpotV.cells s).toArray))] [(rd tsA ts.length 9 (ts.map StretchV.cells)).ro]
 refine WS fun _ hK1 => ?_
 refine BXA rfl fun b2 => ?_
 refine BXA rfl fun b3 => ?_
 refine rS (AG rfl) ?_
 refine RK hK1 ?_
 refine w_seq fun _ hK4 => ?_
 refine w_draw mixed 22 (by kernel_rfl) ?_
 refine dS (FA 0 rfl fo53_0 rfl) ?_
 refine dS (L1 (Value.int .i64 s.Stretch) 0 rfl tk3 rfl rfl) ?_
 refine dS (FA 0 rfl fo24_0 rfl) ?_
 refine dS (L1 (Value.slice tsA ts.length tsC) 1 rfl tk22 rfl rfl) ?_
 refine dS (LN rfl ut22) ?_
 refine dS (BI rfl (b_sub ⟨by omega, by omega⟩)) ?_
 refine dS (CL (within_1 s.Stretch 0 (((ts.length : Nat) : Int) - 1)) (ha_nil) rfl) ?_
 refine dS (MV rfl) ?_
 refine d_bool (t := 12) rfl (fun h12 => ?_) (fun h12 => ?_)
 rotate_left 1
 · replace h12 := DF h12
   refine dS (OX rfl) ?_
   refine dS (OX rfl) ?_
   refine dS (OX rfl) ?_
   refine dS (OX rfl) ?_
   refine dS (OX rfl) ?_
   refine dS (OX rfl) ?_
   refine dS (OX rfl) ?_
   refine dS (OX rfl) ?_
   refine dS (OX rfl) ?_
   refine dS (OX rfl) ?_
   refine dS (OX rfl) ?_
   refine dS (OX rfl) ?_
   refine dS (PK rfl) ?_
   refine dS (AG rfl) ?_
   refine d_end ?_
   refine RK hK4 ?_
   refine w_ret ?_
   refine Q1 hQ rfl rfl rfl ?_
   first | (refine congrArg Value.bool ?_; rw [decide_eq_false (spot_out (by omega))]) | exact congrArg Value.bool (decide_eq_decide.2 (spot_yes (by omega) hx).symm)
 replace h12 := DT h12
 refine dS (FA 1 rfl fo53_1 rfl) ?_
 refine dS (LP (SpanV.cells s.Off) 0 rfl tk34 rfl rfl rfl) ?_
 refine dS (FA 0 rfl fo24_0 rfl) ?_
 refine dS (L1 (Value.slice tsA ts.length tsC) 1 rfl tk22 rfl rfl) ?_
 refine dS (FA 0 rfl fo53_0 rfl) ?_
 refine dS (L1 (Value.int .i64 s.Stretch) 0 rfl tk3 rfl rfl) ?_
 obtain ⟨x, hx⟩ : ∃ y_, ts[(s.Stretch).toNat]? = some y_ := ⟨ts[(s.Stretch).toNat]'(by omega), List.getElem?_eq_getElem _⟩
 have hxm : (ts.map StretchV.cells)[(s.Stretch).toNat]? = some (StretchV.cells x) := by rw [List.getElem?_map, hx]; rfl
 refine dS (IA ((s.Stretch).toNat) rfl (has_at 2 rfl) te22 (by decide) (by omega) (by omega)) ?_
 refine dS (FAR ((((s.Stretch).toNat) * 9) + 1) rfl (has_at 2 rfl) (Nat.mul_pos (by omega) (by decide)) fo126_1 rfl) ?_
 have hxo := (hst x (List.mem_of_getElem? hx)).2.1
 simp only [SpanOk] at hxo
 refine dS (FAR ((((s.Stretch).toNat) * 9) + 1) rfl (has_at 2 rfl) (Nat.mul_pos (by omega) (by decide)) fo34_0 rfl) ?_
 refine dS (LE1 ((s.Stretch).toNat) 1 (Value.int .i64 x.Long.Lo) rfl tk3 (has_at 2 rfl) hxm rfl (by decide) rfl) ?_
 refine dS (BI rfl (b_sub ⟨by omega, by omega⟩)) ?_
 refine dS (CL (span_1 s.Off 0 (x.Long.Lo - 1)) (ha_nil) rfl) ?_
 refine dS (PK rfl) ?_
 refine dS (AG rfl) ?_
 refine d_end ?_
 refine RK hK4 ?_
 refine w_ret ?_
 refine Q1 hQ rfl rfl rfl ?_
 first | (refine congrArg Value.bool ?_; rw [decide_eq_false (spot_out (by omega))]) | exact congrArg Value.bool (decide_eq_decide.2 (spot_yes (by omega) hx).symm)

set_option maxRecDepth 100000 in
set_option maxHeartbeats 400000 in
theorem rdrop_c (ts : List StretchV) (tsA : Option Addr) (tsC : Nat) (f : Int) (t : Int) (hst : ∀ x ∈ ts, StretchOk x) (hlen : ts.length ≤ 12) (hf : 0 ≤ f ∧ f ≤ t ∧ t ≤ ts.length) :
    FnV Try.prog 125 [(Value.agg (TrackV.cells (TrackV.mk (Slc.mk tsA ts.length tsC))).toArray), (Value.int .i64 f), (Value.int .i64 t)] [(rd tsA ts.length 9 (ts.map StretchV.cells))] (Value.tuple [(Value.agg (SpanV.cells (longF ts f.toNat (t - f).toNat)).toArray), (Value.agg (SpanV.cells (fallF ts f.toNat (t - f).toNat)).toArray)].toArray) := by
 refine fnV_of go125 Try.func125 rfl rfl fun w0 Q hQ hN => ?_
 change WJ _ _ _ _ [(0, (Value.agg (TrackV.cells (TrackV.mk (Slc.mk tsA ts.length tsC))).toArray)), (1, (Value.int .i64 f)), (2, (Value.int .i64 t))] [(rd tsA ts.length 9 (ts.map StretchV.cells)).ro]
 refine WS fun _ hK1 => ?_
 refine BXA rfl fun b2 => ?_
 refine AL rfl tz34 fun b3 => ?_
 refine AL rfl tz34 fun b4 => ?_
 refine RK hK1 ?_
 refine WS fun _ hK5 => ?_
 refine AL rfl tz34 fun b6 => ?_
 refine AL rfl tz34 fun b7 => ?_
 refine RK hK5 ?_
 refine w_seq fun _ hK8 => ?_
 refine WS fun _ hK9 => ?_
 refine rS (MV rfl) ?_
 refine rS (AG rfl) ?_
 refine RK hK9 ?_
 refine w_block ?_
 have hinit : (0 ≤ (t - f).toNat) := by exact Nat.zero_le _
 have hb10 : (Value.int .i64 (f + ((0 : Nat) : Int))) = (Value.int .i64 f) := by exact congrArg (Value.int .i64) (by omega)
 refine w_loop (ι := { z : Nat // (z ≤ (t - f).toNat) }) (fun z => [(1, (Value.int .i64 f)), (2, (Value.int .i64 t)), (3, (Value.pointer (some ⟨b2, 0, none⟩))), (6, (Value.pointer (some ⟨b3, 0, none⟩))), (7, (Value.pointer (some ⟨b4, 0, none⟩))), (8, (Value.pointer (some ⟨b6, 0, none⟩))), (9, (Value.pointer (some ⟨b7, 0, none⟩))), (10, (Value.int .i64 (f + ((z.1 : Nat) : Int))))]) (fun z => [(blk b7 34 (SpanV.cells (fallF ts f.toNat z.1))), (blk b6 34 (SpanV.cells (longF ts f.toNat z.1))), (blk b4 34 (SpanV.cells (SpanV.mk 0 0))), (blk b3 34 (SpanV.cells (SpanV.mk 0 0))), (blk b2 24 (TrackV.cells (TrackV.mk (Slc.mk tsA ts.length tsC)))), (rd tsA ts.length 9 (ts.map StretchV.cells)).ro]) (fun z => (t - f).toNat - z.1) ⟨0, hinit⟩ (Sub.cons rfl <| Sub.cons rfl <| Sub.cons rfl <| Sub.cons rfl <| Sub.cons rfl <| Sub.cons rfl <| Sub.cons rfl <| sub_val rfl hb10 <| Sub.nil _) (fun w hs => St.sel [0, 1, 2, 3, 4, 5] rfl rfl hs) ?_
 clear hinit
 rintro ⟨k, hl3_0⟩ J11 hJ11
 change WJ _ _ _ _ [(1, (Value.int .i64 f)), (2, (Value.int .i64 t)), (3, (Value.pointer (some ⟨b2, 0, none⟩))), (6, (Value.pointer (some ⟨b3, 0, none⟩))), (7, (Value.pointer (some ⟨b4, 0, none⟩))), (8, (Value.pointer (some ⟨b6, 0, none⟩))), (9, (Value.pointer (some ⟨b7, 0, none⟩))), (10, (Value.int .i64 (f + ((k : Nat) : Int))))] [(blk b7 34 (SpanV.cells (fallF ts f.toNat k))), (blk b6 34 (SpanV.cells (longF ts f.toNat k))), (blk b4 34 (SpanV.cells (SpanV.mk 0 0))), (blk b3 34 (SpanV.cells (SpanV.mk 0 0))), (blk b2 24 (TrackV.cells (TrackV.mk (Slc.mk tsA ts.length tsC)))), (rd tsA ts.length 9 (ts.map StretchV.cells)).ro]
 refine w_seq fun _ hK12 => ?_
 refine WS fun _ hK13 => ?_
 refine rS (MV rfl) ?_
 refine rS (MV rfl) ?_
 refine rS (BI rfl b_lss) ?_
 refine RK hK13 ?_
 refine w_if rfl (fun h14 => ?_) (fun h14 => ?_)
 rotate_left 1
 · replace h14 := DF h14
   refine w_exit ?_
   refine k_exit_then ?_
   refine k_exit_then ?_
   refine k_exit_same ?_
   refine KK hK8 ?_
   refine w_seq fun _ hK22 => ?_
   refine w_draw4 mixed [0, 1] [2, 3] [false, false] [false, false] [(blk b7 34 (SpanV.cells (fallF ts f.toNat k))), (blk b6 34 (SpanV.cells (longF ts f.toNat k))), (blk b2 24 (TrackV.cells (TrackV.mk (Slc.mk tsA ts.length tsC)))), (rd tsA ts.length 9 (ts.map StretchV.cells)).ro] [] (by kernel_rfl) (fun w hs => St.sel [0, 1, 4, 5] rfl rfl hs) (fun w hs => St.sel [] rfl rfl hs) ?_
   refine eS rfl (LW 1 rfl tk34 rfl rfl) ?_
   refine eS rfl (LW 0 rfl tk34 rfl rfl) ?_
   refine d_fin rfl ?_
   refine t_cons rfl fun T23 hT23 => ?_
   refine SW3 rfl ts34 rfl ?_
   refine r_nil (hT23 _ _ (fun w hs => St.sel [0, 1, 4, 5] rfl rfl hs) ?_)
   refine t_cons rfl fun T24 hT24 => ?_
   refine SW2 rfl ts34 rfl ?_
   refine r_nil (hT24 _ _ (fun w hs => St.sel [0, 1, 4, 5] rfl rfl hs) ?_)
   refine t_fin rfl ?_
   refine KK hK22 ?_
   refine w_ret ?_
   refine hQ _ _ _ (l_nil (vs := [(Value.agg (SpanV.cells (longF ts f.toNat k)).toArray), (Value.agg (SpanV.cells (fallF ts f.toNat k)).toArray)]) ⟨⟨_, rfl, .inl ⟨_, _, tk34, at_blk (vs := (SpanV.cells (longF ts f.toNat k))) 3 rfl rfl, rfl, rfl⟩⟩, ⟨_, rfl, .inl ⟨_, _, tk34, at_blk (vs := (SpanV.cells (fallF ts f.toNat k))) 2 rfl rfl, rfl, rfl⟩⟩, trivial⟩ fun w hs => endV ?_ hs)
   show (Value.tuple [(Value.agg (SpanV.cells (longF ts f.toNat k)).toArray), (Value.agg (SpanV.cells (fallF ts f.toNat k)).toArray)].toArray) = (Value.tuple [(Value.agg (SpanV.cells (longF ts f.toNat (t - f).toNat)).toArray), (Value.agg (SpanV.cells (fallF ts f.toNat (t - f).toNat)).toArray)].toArray)
   clear hs w hQ hN hT24 T24 hT23 T23 hK22 hK13 hK12 hK9 hK8 hK5 hK1
   obtain rfl : k = (t - f).toNat := (by omega); rfl
 replace h14 := DT h14
 refine WK hK12 ?_
 refine w_seq fun _ hK15 => ?_
 refine w_block ?_
 refine WS fun _ hK16 => ?_
 refine rS (FA 0 rfl fo24_0 rfl) ?_
 refine rS (L1 (Value.slice tsA ts.length tsC) 4 rfl tk22 rfl rfl) ?_
 refine rS (MV rfl) ?_
 obtain ⟨x, hx⟩ : ∃ y_, ts[(f.toNat + k)]? = some y_ := ⟨ts[(f.toNat + k)]'(by omega), List.getElem?_eq_getElem _⟩
 have hxm : (ts.map StretchV.cells)[(f.toNat + k)]? = some (StretchV.cells x) := by rw [List.getElem?_map, hx]; rfl
 refine rS (IA (f.toNat + k) rfl (has_at 5 rfl) te22 (by decide) (by omega) (by omega)) ?_
 refine rS (LEN (f.toNat + k) 0 (StretchV.cells x) rfl tk126 (has_at 5 rfl) hxm rfl (by decide) rfl rfl) ?_
 refine AL rfl tz126 fun b17 => ?_
 refine SW0 rfl ts126 rfl ?_
 refine RK hK16 ?_
 refine WS fun _ hK18 => ?_
 have hxo := hst x (List.mem_of_getElem? hx)
 have hlb := longF_b hst f.toNat k
 have hfb := fallF_b hst f.toNat k
 have hx1 := hxo.2.1
 have hx2 := hxo.2.2.1
 simp only [SpanOk] at hx1 hx2
 refine rS (FA 0 rfl fo34_0 rfl) ?_
 refine rS (L1 (Value.int .i64 ((longF ts f.toNat k).Lo)) 2 rfl tk3 rfl rfl) ?_
 refine rS (FA 1 rfl fo126_1 rfl) ?_
 refine rS (FA 1 rfl fo34_0 rfl) ?_
 refine rS (L1 (Value.int .i64 x.Long.Lo) 0 rfl tk3 rfl rfl) ?_
 refine rS (BI rfl (b_add ⟨by omega, by omega⟩)) ?_
 refine rS (FA 1 rfl fo34_1 rfl) ?_
 refine rS (L1 (Value.int .i64 ((longF ts f.toNat k).Hi)) 2 rfl tk3 rfl rfl) ?_
 refine rS (FA 1 rfl fo126_1 rfl) ?_
 refine rS (FA 2 rfl fo34_1 rfl) ?_
 refine rS (L1 (Value.int .i64 x.Long.Hi) 0 rfl tk3 rfl rfl) ?_
 refine rS (BI rfl (b_add ⟨by omega, by omega⟩)) ?_
 refine rS (SX (sd_build (xs := [(0, .tmp 28), (1, .tmp 34)]) (cs := (SpanV.cells (SpanV.mk (((longF ts f.toNat k).Lo) + x.Long.Lo) (((longF ts f.toNat k).Hi) + x.Long.Hi)))) rfl rfl (built_of tb34 rfl)) rfl rfl) ?_
 refine SW2 rfl ts34 rfl ?_
 refine RK hK18 ?_
 refine w_region ?_
 refine rS (FA 0 rfl fo34_0 rfl) ?_
 refine rS (L1 (Value.int .i64 ((fallF ts f.toNat k).Lo)) 1 rfl tk3 rfl rfl) ?_
 refine rS (FA 3 rfl fo126_2 rfl) ?_
 refine rS (FA 3 rfl fo34_0 rfl) ?_
 refine rS (L1 (Value.int .i64 x.Fall.Lo) 0 rfl tk3 rfl rfl) ?_
 refine rS (BI rfl (b_add ⟨by omega, by omega⟩)) ?_
 refine rS (FA 1 rfl fo34_1 rfl) ?_
 refine rS (L1 (Value.int .i64 ((fallF ts f.toNat k).Hi)) 1 rfl tk3 rfl rfl) ?_
 refine rS (FA 3 rfl fo126_2 rfl) ?_
 refine rS (FA 4 rfl fo34_1 rfl) ?_
 refine rS (L1 (Value.int .i64 x.Fall.Hi) 0 rfl tk3 rfl rfl) ?_
 refine rS (BI rfl (b_add ⟨by omega, by omega⟩)) ?_
 refine rS (SX (sd_build (xs := [(0, .tmp 41), (1, .tmp 47)]) (cs := (SpanV.cells (SpanV.mk (((fallF ts f.toNat k).Lo) + x.Fall.Lo) (((fallF ts f.toNat k).Hi) + x.Fall.Hi)))) rfl rfl (built_of tb34 rfl)) rfl rfl) ?_
 refine SW1 rfl ts34 rfl ?_
 refine r_nil ?_
 refine k_block ?_
 refine KK hK15 ?_
 have hb19 : (SpanV.cells (SpanV.mk (((longF ts f.toNat k).Lo) + x.Long.Lo) (((longF ts f.toNat k).Hi) + x.Long.Hi))) = (SpanV.cells (longF ts f.toNat (k + 1))) := by rw [longF_succ hx]; rfl
 rw [hb19]
 have hb20 : (SpanV.cells (SpanV.mk (((fallF ts f.toNat k).Lo) + x.Fall.Lo) (((fallF ts f.toNat k).Hi) + x.Fall.Hi))) = (SpanV.cells (fallF ts f.toNat (k + 1))) := by rw [fallF_succ hx]; rfl
 rw [hb20]
 refine w_region ?_
 refine rS (MV rfl) ?_
 refine rS (BI rfl (b_add ⟨by omega, by omega⟩)) ?_
 refine rS (AG rfl) ?_
 refine r_nil ?_
 have hb21 : (Value.int .i64 (f + (((k + 1) : Nat) : Int))) = (Value.int .i64 ((f + ((k : Nat) : Int)) + 1)) := by exact congrArg (Value.int .i64) (by omega)
 refine k_then (hJ11 ⟨(k + 1), (by first | omega | (simp only []; omega))⟩ _ _ _ rfl (by first | omega | (simp; omega)) (Sub.cons rfl <| Sub.cons rfl <| Sub.cons rfl <| Sub.cons rfl <| Sub.cons rfl <| Sub.cons rfl <| Sub.cons rfl <| sub_val rfl hb21 <| Sub.nil _) (fun w hs => St.sel [1, 2, 3, 4, 5, 6] rfl rfl hs))

end Go.Proofs.Ytaehngpnlkokkaa
