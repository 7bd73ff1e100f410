/-
  The statement beamSnow_said, part 4 of 6: B3, B5, B6, V2, V5, V6, S1, Wh1.
  Conditions: none.
-/
import Derived.Test.YthiigjekcdjkkaaGreatSn1
import Derived.Test.YthiigjekcdjkkaaGreatSn2
import Derived.Test.YthiigjekcdjkkaaGreatSn3
namespace Go.Proofs.YthiigjekcdjkkaaGreat
section
open Go.RowKit
set_option linter.unusedVariables false
set_option maxRecDepth 100000 in
set_option maxHeartbeats 400000 in
theorem stands1_c (i : Int) (s : SpotV) (ts : List StretchV) (tsA : Option Addr) (tsC : Nat) (g1 : Nat) (hst : ∀ x ∈ ts, StretchOk x) (hlen : ts.length ≤ 12) :
    FnV Tryz.prog 134 [(Value.int .i64 i), (Value.agg (SpotV.cells s).toArray), (Value.pointer (some ⟨g1, 0, none⟩))] [(rd tsA ts.length 9 (ts.map StretchV.cells)), (blk g1 173 (SurveyV.cells (SurveyV.mk (TrackV.mk (Slc.mk tsA ts.length tsC)))))] (Value.bool (!(decide (SpotOk ts s)))) := by
 refine fnV_of go134 Tryz.func134 rfl rfl fun w0 Q hQ hN => ?_
 try dsimp only
 refine WS fun _ hK1 => BXA rfl fun b2 => rS (AG rfl) <| RK hK1 <| w_seq fun _ hK3 => w_drawN mixed [0, 1, 2, 3, 4, 5, 6] [7, 8, 9, 10, 11, 12, 13, 14, 15, 16, 17, 18, 19, 20, 21, 22, 23, 24, 25, 26] [false, false, false, false, false, false, false] [] [(blk b2 99 (SpotV.cells s)), (rd tsA ts.length 9 (ts.map StretchV.cells)).ro, (blk g1 173 (SurveyV.cells (SurveyV.mk (TrackV.mk (Slc.mk tsA ts.length tsC))))).ro] [] (by kernel_rfl) (fun w hs => St.sel [0, 1, 2] rfl rfl hs) (fun w hs => St.sel [] rfl rfl hs) <| eS rfl (FA 0 rfl fo173_0 rfl) <| eS rfl (FA 0 rfl fo24_0 rfl) <| eS rfl (L1R (Value.slice tsA ts.length tsC) 2 rfl tk22 rfl rfl) <| eS rfl (LN rfl ut22) ?_
 refine eS rfl (BI rfl (b_sub ⟨by omega, by omega⟩)) <| eS rfl (FA 0 rfl fo99_0 rfl) <| eS rfl (L1 (Value.int .i64 s.Stretch) 0 rfl tk3 rfl rfl) <| d_fin rfl <| N1 7 <| NO rfl rfl [8,9,10,11,12,13,14,15,16,17,18,19,20,21,22,23,24,25,26] fun T4 hT4 => r_bs (xs := [.tmp 12]) (cs := [(Value.int .i64 s.Stretch)]) rfl te35 tz3 rfl rfl rfl rfl (by simp [Value.cells]) rfl rfl fun b5 => RD hT4 1 rfl <| n_pure [14, 15, 16, 17, 18, 19, 20, 21, 22, 23, 24, 25, 26, 27, 28, 29, 30, 31, 5] (by kernel_rfl) (by kernel_rfl) rfl _ rfl rfl (fun w hs => St.sel [1, 2, 3] rfl rfl hs) <| dS (CL (FnV.eq (in_track 0 (((ts.length : Nat) : Int) - 1) ([s.Stretch]) (some ⟨b5, 0, none⟩) 1 (by first | assumption | omega | (simp; done) | (simp; omega))) inAll_one) (ha_cons (has_rd_blk 0 rfl rfl (by simp [iC_length]) rfl) <| ha_nil) rfl) ?_
 refine dS (NT rfl) <| dS (MV rfl) ?_
 refine d_bool (t := 16) rfl (fun h16 => ?_) (fun h16 => ?_)
 · replace h16 := XT h16
   refine dS (OX rfl) <| dS (OX rfl) <| dS (OX rfl) <| dS (OX rfl) <| dS (OX rfl) <| dS (OX rfl) <| dS (OX rfl) <| dS (OX rfl) <| dS (OX rfl) <| dS (OX rfl) ?_
   refine dS (OX rfl) <| dS (OX rfl) <| dS (OX rfl) <| dS (OX rfl) <| dS (PK rfl) <| dS (AG rfl) <| d_end <| RK hK3 <| w_ret <| Q1 hQ rfl rfl rfl ?_
   first | (refine congrArg Value.bool ?_; rw [decide_eq_false (spot_out (by omega))]; rfl) | exact congrArg (fun b => Value.bool (!b)) (decide_eq_decide.2 (spot_yes (by omega) hx).symm)
 replace h16 := XF h16
 refine dS (FA 1 rfl fo99_1 rfl) <| dS (LP (SpanV.cells s.Off) 1 rfl tk47 rfl rfl rfl) <| dS (FA 0 rfl fo173_0 rfl) <| dS (FA 0 rfl fo24_0 rfl) <| dS (L1R (Value.slice tsA ts.length tsC) 3 rfl tk22 rfl rfl) <| dS (FA 0 rfl fo99_0 rfl) <| dS (L1 (Value.int .i64 s.Stretch) 1 rfl tk3 rfl rfl) ?_
 obtain ⟨x, hx⟩ : ∃ y_, ts[(s.Stretch).toNat]? = some y_ := ⟨ts[(s.Stretch).toNat]'(by omega), List.getElem?_eq_getElem _⟩
 have hxm : (ts.map StretchV.cells)[(s.Stretch).toNat]? = some (StretchV.cells x) := by rw [List.getElem?_map, hx]; rfl
 refine dS (IA ((s.Stretch).toNat) rfl (has_at 2 rfl) te22 (by decide) (by omega) (by omega)) <| dS (FAR ((((s.Stretch).toNat) * 9) + 1) rfl (has_at 2 rfl) (Nat.mul_pos (by omega) (by decide)) fo141_1 rfl) ?_
 have hxo := (hst x (List.mem_of_getElem? hx)).2.1
 simp only [SpanOk] at hxo
 refine dS (FAR ((((s.Stretch).toNat) * 9) + 1) rfl (has_at 2 rfl) (Nat.mul_pos (by omega) (by decide)) fo47_0 rfl) <| dS (LE1 ((s.Stretch).toNat) 1 (Value.int .i64 x.Long.Lo) rfl tk3 (has_at 2 rfl) hxm rfl (by decide) rfl) <| dS (BI rfl (b_sub ⟨by omega, by omega⟩)) <| dS (CL (known_c s.Off 0 (x.Long.Lo - 1)) (ha_nil) rfl) <| dS (NT rfl) <| dS (PK rfl) <| dS (AG rfl) <| d_end <| RK hK3 <| w_ret ?_
 refine Q1 hQ rfl rfl rfl ?_
 first | (refine congrArg Value.bool ?_; rw [decide_eq_false (spot_out (by omega))]; rfl) | exact congrArg (fun b => Value.bool (!b)) (decide_eq_decide.2 (spot_yes (by omega) hx).symm)
set_option maxRecDepth 100000 in
set_option maxHeartbeats 400000 in
theorem pickspot_c (l : List SpotV) (lA : Option Addr) (lC : Nat) (f : Value) (p : Int → SpotV → Bool) (X : Assn) (hf : ∀ x0 x1, (∃ k : Nat, x0 = (k : Int) ∧ l[k]? = some x1) → Clo Tryz.prog f [.int .i64 x0, .agg (SpotV.cells x1).toArray] [X] (.bool (p x0 x1))) (hlen : l.length ≤ 1000000) :
    FnX Tryz.prog 133 [(Value.slice lA l.length lC), f] [(rd lA l.length 3 (l.map SpotV.cells)), X] (fun (x : (Option Addr) × Nat) => (Value.slice x.1 ((pckF (fun jj yy => p (jj : Int) yy) l).length) x.2)) (fun (x : (Option Addr) × Nat) => True) (fun (x : (Option Addr) × Nat) => [(own x.1 x.2 3 1 ((pckF (fun jj yy => p (jj : Int) yy) l).map iC))]) := by
 refine fnX_of go133 Tryz.func133 rfl rfl fun w0 Q hQ hN => ?_
 try dsimp only
 refine WS fun _ hK1 => rS (AG rfl) <| RK hK1 <| WS fun _ hK2 => rS (AG rfl) <| RK hK2 <| w_seq fun _ hK3 => WS fun _ hK4 => rS (MV rfl) <| rS (LN rfl ut191) ?_
 refine rS (MV rfl) <| RK hK4 <| w_block <| w_own_nil 3 1 ?_
 have hinit : (0 ≤ l.length) := by exact Nat.zero_le _
 refine w_loop (ι := { z : Nat × (Option Addr) × Nat // (z.1 ≤ l.length) }) (fun z => [(0, (Value.slice lA l.length lC)), (1, f), (5, (Value.slice z.1.2.1 ((pckL (fun jj yy => p (jj : Int) yy) l z.1.1).length) z.1.2.2)), (8, (Value.slice lA l.length lC)), (9, (Value.int .i64 ((l.length : Nat) : Int))), (10, (Value.int .i64 ((z.1.1 : Nat) : Int)))]) (fun z => [(own z.1.2.1 z.1.2.2 3 1 ((pckL (fun jj yy => p (jj : Int) yy) l z.1.1).map iC)), (rd lA l.length 3 (l.map SpotV.cells)).ro, X.ro]) (fun z => l.length - z.1.1) ⟨(0, none, 0), hinit⟩ (Sub.cons rfl <| Sub.cons rfl <| Sub.cons rfl <| Sub.cons rfl <| Sub.cons rfl <| Sub.cons rfl <| Sub.nil _) (fun w hs => St.sel [0, 1, 2] rfl rfl hs) ?_
 clear hinit
 rintro ⟨⟨i, a, c⟩, hl0_0⟩ J5 hJ5
 try dsimp only at hl0_0
 try dsimp only
 refine WS fun _ hK6 => rS (BI rfl b_lss) <| RK hK6 <| w_seq fun _ hK7 => ?_
 refine w_if rfl (fun h8 => ?_) (fun h8 => ?_)
 rotate_left 1
 · replace h8 := DF h8
   refine w_exit <| k_exit_then <| k_exit_then <| k_exit_same <| KK hK3 <| WS fun _ hK18 => ?_
   rw [pckF_at (p := fun (i : Nat) x => p (i : Int) x) (show i = l.length by omega)]
   refine rS (MV rfl) <| rS (AG rfl) <| RK hK18 <| w_ret ?_
   refine hQ _ _ _ (l_nil (vs := [(Value.slice a ((pckF (fun jj yy => p (jj : Int) yy) l).length) c)]) ⟨rfl, trivial⟩ fun w hs => endX (a, c) [0] ?_ ?_ rfl rfl rfl hs)
   · rfl
   · trivial
 replace h8 := DT h8
 refine WK hK7 <| w_seq fun _ hK9 => w_block <| WS fun _ hK10 => rS (MV rfl) ?_
 obtain ⟨x, hx⟩ : ∃ y_, l[i]? = some y_ := ⟨l[i]'(by omega), List.getElem?_eq_getElem _⟩
 have hxm : (l.map SpotV.cells)[i]? = some (SpotV.cells x) := by rw [List.getElem?_map, hx]; rfl
 refine rS (IA i rfl (has_at 1 rfl) te191 (by decide) (by omega) (by omega)) <| rS (LEN i 0 (SpotV.cells x) rfl tk99 (has_at 1 rfl) hxm rfl (by decide) rfl rfl) <| AL rfl tz99 fun b11 => rS (AG rfl) <| SW0 rfl ts99 rfl <| RK hK10 <| WS fun _ hK12 => rS (MV rfl) <| rS (MV rfl) <| rS (LW 0 rfl tk99 rfl rfl) ?_
 refine rS (SX (sd_clo rfl rfl rfl (hf ((i : Nat) : Int) x ⟨i, rfl, hx⟩) (ha_at 3 rfl rfl <| ha_nil)) rfl rfl) <| RK hK12 ?_
 refine w_if rfl (fun hp => ?_) (fun hp => ?_)
 rotate_left 1
 · refine w_skip ?_
   refine k_block <| KK hK9 <| w_region ?_
   rw [← pckL_no (p := fun (i : Nat) x => p (i : Int) x) hx hp]
   refine rS (BI rfl (b_add ⟨by omega, by omega⟩)) <| rS (MV rfl) <| r_nil ?_
   have hb17 : (Value.int .i64 (((i + 1) : Nat) : Int)) = (Value.int .i64 (((i : Nat) : Int) + 1)) := by exact congrArg (Value.int .i64) (by omega)
   refine k_then (hJ5 ⟨((i + 1), a, c), (by first | omega | (simp only []; omega))⟩ _ _ _ rfl (by first | omega | (simp; omega)) (Sub.cons rfl <| Sub.cons rfl <| Sub.cons rfl <| Sub.cons rfl <| Sub.cons rfl <| sub_val rfl hb17 <| Sub.nil _) (fun w hs => St.sel [1, 2, 3] rfl rfl hs))
 refine w_region <| rS (MV rfl) <| rS (MV rfl) <| r_bs (xs := [.tmp 20]) (cs := [(Value.int .i64 ((i : Nat) : Int))]) rfl te35 tz3 rfl rfl rfl rfl (by simp [Value.cells]) rfl rfl fun b13 => r_append (es2 := (List.map iC (pckL (fun jj yy => p (jj : Int) yy) l (i + 1)))) (m' := (pckL (fun jj yy => p (jj : Int) yy) l (i + 1)).length) 2 rfl rfl rfl ta35 rfl rfl (by simp) (has_rd_blk (es := List.map iC [((i : Nat) : Int)]) 0 rfl rfl (by simp [iC_length]) rfl) (one_iC _) (by have := pckL_len (p := fun (i : Nat) x => p (i : Int) x) (l := l) (n := i); simp; omega) (by have := pckL_len (p := fun (i : Nat) x => p (i : Int) x) (l := l) (n := i); simp only [maxLen]; omega) (by rw [pckL_yes hx hp]; simp) (by simp) rfl fun a14 c15 => ?_
 try dsimp only
 refine rS (AG rfl) <| r_nil <| k_block <| KK hK9 <| w_region <| rS (BI rfl (b_add ⟨by omega, by omega⟩)) <| rS (MV rfl) <| r_nil ?_
 have hb16 : (Value.int .i64 (((i + 1) : Nat) : Int)) = (Value.int .i64 (((i : Nat) : Int) + 1)) := by exact congrArg (Value.int .i64) (by omega)
 refine k_then (hJ5 ⟨((i + 1), a14, c15), (by first | omega | (simp only []; omega))⟩ _ _ _ rfl (by first | omega | (simp; omega)) (Sub.cons rfl <| Sub.cons rfl <| Sub.cons rfl <| Sub.cons rfl <| Sub.cons rfl <| sub_val rfl hb16 <| Sub.nil _) (fun w hs => St.sel [2, 3, 4] rfl rfl hs))
set_option maxRecDepth 100000 in
set_option maxHeartbeats 400000 in
theorem stands_c (ts : List StretchV) (tsA : Option Addr) (tsC : Nat) (l : List SpotV) (lA : Option Addr) (lC : Nat) (hst : ∀ x ∈ ts, StretchOk x) (hlen : ts.length ≤ 12) (hl : l.length ≤ 4) :
    FnV Tryz.prog 116 [(Value.agg (SurveyV.cells (SurveyV.mk (TrackV.mk (Slc.mk tsA ts.length tsC)))).toArray), (Value.slice lA l.length lC)] [(rd tsA ts.length 9 (ts.map StretchV.cells)), (rd lA l.length 3 (l.map SpotV.cells))] (Value.bool (decide (∀ s ∈ l, SpotOk ts s))) := by
 refine fnV_of go116 Tryz.func116 rfl rfl fun w0 Q hQ hN => ?_
 try dsimp only
 refine WS fun _ hK1 => BXA rfl fun b2 => rS (AG rfl) <| RK hK1 <| WS fun _ hK3 => rS (MV rfl) <| rS (FU rfl) <| cX (pickspot_c l lA lC (Value.func (.func 134) [].toArray [(Value.pointer (some ⟨b2, 0, none⟩))].toArray) (fun u4 u5 => (!(decide (SpotOk ts u5)))) (bun [(rd tsA ts.length 9 (ts.map StretchV.cells)), (blk b2 173 (SurveyV.cells (SurveyV.mk (TrackV.mk (Slc.mk tsA ts.length tsC)))))]) (by intro u4 u5 _; exact clo_of (fi := []) (ca := [(Value.pointer (some ⟨b2, 0, none⟩))]) (fnV_bun (stands1_c u4 u5 ts tsA tsC b2 (by first | assumption | omega) (by first | assumption | omega)) (ha_at 0 rfl rfl <| ha_at 1 rfl rfl <| ha_nil))) (by first | assumption | omega | (simp; done) | (simp; omega))) (ha_at 2 rfl rfl <| ha_cons (has_bun (ha_at 1 rfl rfl <| ha_at 0 rfl rfl <| ha_nil)) <| ha_nil) rfl fun y6 hy7 => ?_
 obtain ⟨a8, c9⟩ := y6
 try dsimp only
 refine rS (LN rfl ut35) <| rS (BI rfl b_eql) <| rS (AG rfl) <| RK hK3 <| w_ret <| Q1 hQ rfl rfl rfl ?_
 exact congrArg Value.bool (decide_eq_decide.2 (by rw [show ∀ n : Nat, ((n : Int) = 0) ↔ n = 0 from fun n => by omega, pckF_none]; simp only [Bool.not_eq_false', decide_eq_true_eq]; exact ⟨fun h s hs => by obtain ⟨k, hk⟩ := List.getElem?_of_mem hs; exact h k s hk, fun h k s hk => h s (List.mem_of_getElem? hk)⟩))
set_option maxRecDepth 100000 in
set_option maxHeartbeats 400000 in
theorem less_c (z : SpanV) (hz : In12 z) :
    FnV Tryz.prog 119 [(Value.agg (SpanV.cells z).toArray)] [] (Value.agg (SpanV.cells (lessZ z)).toArray) := by
 unfold In12 at hz
 refine fnV_of go119 Tryz.func119 rfl rfl fun w0 Q hQ hN => ?_
 try dsimp only
 refine WS fun _ hK1 => BXA rfl fun b2 => AL rfl tz47 fun b3 => RK hK1 <| WS fun _ hK4 => rS (FA 1 rfl fo47_1 rfl) <| rS (L1 (Value.int .i64 z.Hi) 1 rfl tk3 rfl rfl) <| rS (NG rfl ⟨by omega, by omega⟩) <| rS (FA 0 rfl fo47_0 rfl) <| rS (L1 (Value.int .i64 z.Lo) 1 rfl tk3 rfl rfl) ?_
 refine rS (NG rfl ⟨by omega, by omega⟩) <| rS (SX (sd_build (xs := [(0, .tmp 5), (1, .tmp 8)]) (cs := (SpanV.cells (SpanV.mk (-z.Hi) (-z.Lo)))) rfl rfl (built_of tb47 rfl)) rfl rfl) <| SW0 rfl ts47 rfl <| RK hK4 <| w_ret ?_
 refine hQ _ _ _ (l_nil (vs := [(Value.agg (SpanV.cells (SpanV.mk (-z.Hi) (-z.Lo))).toArray)]) ⟨⟨_, rfl, .inl ⟨_, _, tk47, at_blk (vs := (SpanV.cells (SpanV.mk (-z.Hi) (-z.Lo)))) 0 rfl rfl, rfl, rfl⟩⟩, trivial⟩ fun w hs => endV ?_ hs)
 show (Value.agg (SpanV.cells (SpanV.mk (-z.Hi) (-z.Lo))).toArray) = (Value.agg (SpanV.cells (lessZ z)).toArray)
 clear hs w hQ hN hK4 hK1
 rfl
set_option maxRecDepth 100000 in
set_option maxHeartbeats 400000 in
theorem At_c (ts : List StretchV) (tsA : Option Addr) (tsC : Nat) (s : SpotV) (hlen : ts.length ≤ 1000000) (hside : ∀ x ∈ ts, 0 ≤ x.Side ∧ x.Side ≤ 255) :
    FnV Tryz.prog 78 [(Value.agg (TrackV.cells (TrackV.mk (Slc.mk tsA ts.length tsC))).toArray), (Value.agg (SpotV.cells s).toArray)] [(rd tsA ts.length 9 (ts.map StretchV.cells))] (Value.tuple [(Value.agg (SpanV.cells (atV ts s)).toArray), (Value.int .i64 (atE ts s))].toArray) := by
 refine fnV_of go78 Tryz.func78 rfl rfl fun w0 Q hQ hN => ?_
 try dsimp only
 refine WS fun _ hK1 => BXA rfl fun b2 => BXA rfl fun b3 => AL rfl tz47 fun b4 => rS (AG rfl) <| RK hK1 <| WS fun _ hK5 => rS (LW 2 rfl tk24 rfl rfl) <| rS (CL (topen_c ts tsA tsC hlen hside) (ha_at 3 rfl rfl <| ha_nil) rfl) <| rS (MV rfl) ?_
 refine rS (EX rfl) <| rS (EX rfl) <| AL rfl tz173 fun b6 => SW0 rfl ts173 rfl <| rS (AG rfl) <| RK hK5 <| w_seq fun _ hK7 => WS fun _ hK8 => rS (MV rfl) <| rS (BI rfl b_neq) ?_
 refine RK hK8 ?_
 refine w_if rfl (fun he => ?_) (fun he => ?_)
 · replace he := XT he
   refine WS fun _ hK9 => rS (SX (sd_build (xs := []) (cs := (SpanV.cells (SpanV.mk 0 0))) rfl rfl (built_of tb47 rfl)) rfl rfl) <| rS (MV rfl) <| SW1 rfl ts47 rfl <| rS (AG rfl) <| RK hK9 <| w_ret ?_
   refine hQ _ _ _ (l_nil (vs := [(Value.agg (SpanV.cells (SpanV.mk 0 0)).toArray), (Value.int .i64 (if trackOk ts = true then 0 else 10))]) ⟨⟨_, rfl, .inl ⟨_, _, tk47, at_blk (vs := (SpanV.cells (SpanV.mk 0 0))) 1 rfl rfl, rfl, rfl⟩⟩, rfl, trivial⟩ fun w hs => endV ?_ hs)
   show (Value.tuple [(Value.agg (SpanV.cells (SpanV.mk 0 0)).toArray), (Value.int .i64 (if trackOk ts = true then 0 else 10))].toArray) = (Value.tuple [(Value.agg (SpanV.cells (atV ts s)).toArray), (Value.int .i64 (atE ts s))].toArray)
   clear hs w hQ hN hK9 hK8 hK7 hK5 hK1
   first | (have e := at_bad (s := s) (tr_no he).1; rw [e.1, e.2, (tr_no he).2] <;> rfl) | (have e := at_out htr h23; rw [e.1, e.2] <;> rfl) | (have e := at_in htr h23; rw [e.1, e.2]; unfold atF; rw [show (s.Stretch - 0).toNat = s.Stretch.toNat by rw [Int.sub_zero]] <;> rfl)
 replace he := XF he
 refine WK hK7 <| w_seq fun _ hK10 => WS fun _ hK11 => ?_
 have htr := tr_yes he
 have hst := trackOk_all htr
 have hl12 := trackOk_le htr
 refine rS (LW 0 rfl tk173 rfl rfl) <| rS (LW 2 rfl tk99 rfl rfl) <| r_bs (xs := [.tmp 20]) (cs := (SpotV.cells s)) rfl te191 tz99 rfl rfl rfl rfl (by simp [Value.cells, SpotV.cells_length]) rfl rfl fun b12 => rS (CL (FnV.eq (stands_c ts tsA tsC ([s]) (some ⟨b12, 0, none⟩) 1 (by first | assumption | omega | (simp; done) | (simp; omega)) (by first | assumption | omega | (simp; done) | (simp; omega)) (by first | assumption | omega | (simp; done) | (simp; omega))) stands_one) (ha_at 5 rfl rfl <| ha_cons (has_rd_blk 0 rfl rfl (by simp [SpotV.cells_length]) rfl) <| ha_nil) rfl) <| rS (NT rfl) <| RK hK11 ?_
 refine w_if rfl (fun h23 => ?_) (fun h23 => ?_)
 · replace h23 := XT h23
   refine WS fun _ hK13 => rS (SX (sd_build (xs := []) (cs := (SpanV.cells (SpanV.mk 0 0))) rfl rfl (built_of tb47 rfl)) rfl rfl) <| SW2 rfl ts47 rfl <| rS (AG rfl) <| RK hK13 <| w_ret ?_
   refine hQ _ _ _ (l_nil (vs := [(Value.agg (SpanV.cells (SpanV.mk 0 0)).toArray), (Value.int .i64 12)]) ⟨⟨_, rfl, .inl ⟨_, _, tk47, at_blk (vs := (SpanV.cells (SpanV.mk 0 0))) 2 rfl rfl, rfl, rfl⟩⟩, rfl, trivial⟩ fun w hs => endV ?_ hs)
   show (Value.tuple [(Value.agg (SpanV.cells (SpanV.mk 0 0)).toArray), (Value.int .i64 12)].toArray) = (Value.tuple [(Value.agg (SpanV.cells (atV ts s)).toArray), (Value.int .i64 (atE ts s))].toArray)
   clear hs w hQ hN hK13 hK11 hK10 hK8 hK7 hK5 hK1
   first | (have e := at_bad (s := s) (tr_no he).1; rw [e.1, e.2, (tr_no he).2] <;> rfl) | (have e := at_out htr h23; rw [e.1, e.2] <;> rfl) | (have e := at_in htr h23; rw [e.1, e.2]; unfold atF; rw [show (s.Stretch - 0).toNat = s.Stretch.toNat by rw [Int.sub_zero]] <;> rfl)
 replace h23 := XF h23
 refine WK hK10 <| WS fun _ hK14 => ?_
 have hsb := h23.1
 have hof := off_in hst h23
 refine rS (LW 1 rfl tk173 rfl rfl) <| rS (FA 0 rfl fo99_0 rfl) <| rS (L1 (Value.int .i64 s.Stretch) 3 rfl tk3 rfl rfl) <| rS (CL (drop_c ts tsA tsC 0 s.Stretch (by first | assumption | omega | (simp; done) | (simp; omega)) (by first | assumption | omega | (simp; done) | (simp; omega)) (by omega)) (ha_at 5 rfl rfl <| ha_nil) rfl) <| rS (MV rfl) <| rS (EX rfl) <| rS (EX rfl) <| AL rfl tz47 fun b15 => AL rfl tz47 fun b16 => SW1 rfl ts47 rfl ?_
 refine SW0 rfl ts47 rfl <| RK hK14 <| WS fun _ hK17 => rS (LW 1 rfl tk47 rfl rfl) <| rS (FA 1 rfl fo99_1 rfl) <| rS (LP (SpanV.cells s.Off) 5 rfl tk47 rfl rfl rfl) <| r_bs (xs := [.tmp 34]) (cs := (SpanV.cells s.Off)) rfl te127 tz47 rfl rfl rfl rfl (by simp [Value.cells, SpanV.cells_length]) rfl rfl fun b18 => rS (CL (FnV.eq (plus_c (longF ts (0 : Int).toNat (s.Stretch - 0).toNat) ([s.Off]) (some ⟨b18, 0, none⟩) 1 (by exact longF_in hst (by omega)) (by intro z hz; simp only [List.mem_singleton] at hz; subst hz; exact hof) (by simp)) plus_one) (ha_cons (has_rd_blk 0 rfl rfl (by simp [SpanV.cells_length]) rfl) <| ha_nil) rfl) <| SW5 rfl ts47 rfl <| rS (AG rfl) ?_
 refine RK hK17 <| w_ret ?_
 refine hQ _ _ _ (l_nil (vs := [(Value.agg (SpanV.cells (addZ (longF ts (0 : Int).toNat (s.Stretch - 0).toNat) s.Off)).toArray), (Value.int .i64 0)]) ⟨⟨_, rfl, .inl ⟨_, _, tk47, at_blk (vs := (SpanV.cells (addZ (longF ts (0 : Int).toNat (s.Stretch - 0).toNat) s.Off))) 5 rfl rfl, rfl, rfl⟩⟩, rfl, trivial⟩ fun w hs => endV ?_ hs)
 show (Value.tuple [(Value.agg (SpanV.cells (addZ (longF ts (0 : Int).toNat (s.Stretch - 0).toNat) s.Off)).toArray), (Value.int .i64 0)].toArray) = (Value.tuple [(Value.agg (SpanV.cells (atV ts s)).toArray), (Value.int .i64 (atE ts s))].toArray)
 clear hs w hQ hN hK17 hK14 hK11 hK10 hK8 hK7 hK5 hK1
 first | (have e := at_bad (s := s) (tr_no he).1; rw [e.1, e.2, (tr_no he).2] <;> rfl) | (have e := at_out htr h23; rw [e.1, e.2] <;> rfl) | (have e := at_in htr h23; rw [e.1, e.2]; unfold atF; rw [show (s.Stretch - 0).toNat = s.Stretch.toNat by rw [Int.sub_zero]] <;> rfl)
set_option maxRecDepth 100000 in
set_option maxHeartbeats 400000 in
theorem Apart_c (ts : List StretchV) (tsA : Option Addr) (tsC : Nat) (p : SpotV) (q : SpotV) (hlen : ts.length ≤ 1000000) (hside : ∀ x ∈ ts, 0 ≤ x.Side ∧ x.Side ≤ 255) :
    FnV Tryz.prog 79 [(Value.agg (TrackV.cells (TrackV.mk (Slc.mk tsA ts.length tsC))).toArray), (Value.agg (SpotV.cells p).toArray), (Value.agg (SpotV.cells q).toArray)] [(rd tsA ts.length 9 (ts.map StretchV.cells))] (Value.tuple [(Value.agg (SpanV.cells (apartV ts p q)).toArray), (Value.int .i64 (apartE ts p q))].toArray) := by
 refine fnV_of go79 Tryz.func79 rfl rfl fun w0 Q hQ hN => ?_
 try dsimp only
 refine WS fun _ hK1 => BXA rfl fun b2 => BXA rfl fun b3 => BXA rfl fun b4 => AL rfl tz47 fun b5 => rS (AG rfl) <| RK hK1 <| WS fun _ hK6 => rS (LW 3 rfl tk24 rfl rfl) <| rS (CL (topen_c ts tsA tsC hlen hside) (ha_at 4 rfl rfl <| ha_nil) rfl) ?_
 refine rS (MV rfl) <| rS (EX rfl) <| rS (EX rfl) <| AL rfl tz173 fun b7 => SW0 rfl ts173 rfl <| rS (AG rfl) <| RK hK6 <| w_seq fun _ hK8 => WS fun _ hK9 => rS (MV rfl) ?_
 refine rS (BI rfl b_neq) <| RK hK9 ?_
 refine w_if rfl (fun he => ?_) (fun he => ?_)
 · replace he := XT he
   refine WS fun _ hK10 => rS (SX (sd_build (xs := []) (cs := (SpanV.cells (SpanV.mk 0 0))) rfl rfl (built_of tb47 rfl)) rfl rfl) <| rS (MV rfl) <| SW1 rfl ts47 rfl <| rS (AG rfl) <| RK hK10 <| w_ret ?_
   refine hQ _ _ _ (l_nil (vs := [(Value.agg (SpanV.cells (SpanV.mk 0 0)).toArray), (Value.int .i64 (if trackOk ts = true then 0 else 10))]) ⟨⟨_, rfl, .inl ⟨_, _, tk47, at_blk (vs := (SpanV.cells (SpanV.mk 0 0))) 1 rfl rfl, rfl, rfl⟩⟩, rfl, trivial⟩ fun w hs => endV ?_ hs)
   show (Value.tuple [(Value.agg (SpanV.cells (SpanV.mk 0 0)).toArray), (Value.int .i64 (if trackOk ts = true then 0 else 10))].toArray) = (Value.tuple [(Value.agg (SpanV.cells (apartV ts p q)).toArray), (Value.int .i64 (apartE ts p q))].toArray)
   clear hs w hQ hN hK10 hK9 hK8 hK6 hK1
   first | (have e := apart_bad (a := p) (b := q) (tr_no he).1; rw [e.1, e.2, (tr_no he).2] <;> rfl) | (have e := apart_out htr h26; rw [e.1, e.2] <;> rfl) | (have e := apart_in htr ⟨hp, hq⟩; rw [e.1, e.2]; unfold apartF wayB; rw [if_pos h47] <;> rfl) | (have e := apart_in htr ⟨hp, hq⟩; rw [e.1, e.2]; unfold apartF wayB; rw [if_neg h47] <;> rfl)
 replace he := XF he
 refine WK hK8 <| w_seq fun _ hK11 => WS fun _ hK12 => ?_
 have htr := tr_yes he
 have hst := trackOk_all htr
 have hl12 := trackOk_le htr
 refine rS (LW 0 rfl tk173 rfl rfl) <| rS (LW 3 rfl tk99 rfl rfl) <| rS (LW 2 rfl tk99 rfl rfl) <| r_bs (xs := [.tmp 22, .tmp 23]) (cs := ((SpotV.cells p) ++ (SpotV.cells q))) rfl te191 tz99 rfl rfl rfl rfl (by simp [Value.cells, SpotV.cells_length]) rfl rfl fun b13 => rS (CL (FnV.eq (stands_c ts tsA tsC ([p, q]) (some ⟨b13, 0, none⟩) 2 (by first | assumption | omega | (simp; done) | (simp; omega)) (by first | assumption | omega | (simp; done) | (simp; omega)) (by first | assumption | omega | (simp; done) | (simp; omega))) stands_two) (ha_at 6 rfl rfl <| ha_cons (has_rd_blk 0 rfl rfl (by simp [SpotV.cells_length]) rfl) <| ha_nil) rfl) <| rS (NT rfl) <| RK hK12 ?_
 refine w_if rfl (fun h26 => ?_) (fun h26 => ?_)
 · replace h26 := XT h26
   refine WS fun _ hK14 => rS (SX (sd_build (xs := []) (cs := (SpanV.cells (SpanV.mk 0 0))) rfl rfl (built_of tb47 rfl)) rfl rfl) <| SW2 rfl ts47 rfl <| rS (AG rfl) <| RK hK14 <| w_ret ?_
   refine hQ _ _ _ (l_nil (vs := [(Value.agg (SpanV.cells (SpanV.mk 0 0)).toArray), (Value.int .i64 12)]) ⟨⟨_, rfl, .inl ⟨_, _, tk47, at_blk (vs := (SpanV.cells (SpanV.mk 0 0))) 2 rfl rfl, rfl, rfl⟩⟩, rfl, trivial⟩ fun w hs => endV ?_ hs)
   show (Value.tuple [(Value.agg (SpanV.cells (SpanV.mk 0 0)).toArray), (Value.int .i64 12)].toArray) = (Value.tuple [(Value.agg (SpanV.cells (apartV ts p q)).toArray), (Value.int .i64 (apartE ts p q))].toArray)
   clear hs w hQ hN hK14 hK12 hK11 hK9 hK8 hK6 hK1
   first | (have e := apart_bad (a := p) (b := q) (tr_no he).1; rw [e.1, e.2, (tr_no he).2] <;> rfl) | (have e := apart_out htr h26; rw [e.1, e.2] <;> rfl) | (have e := apart_in htr ⟨hp, hq⟩; rw [e.1, e.2]; unfold apartF wayB; rw [if_pos h47] <;> rfl) | (have e := apart_in htr ⟨hp, hq⟩; rw [e.1, e.2]; unfold apartF wayB; rw [if_neg h47] <;> rfl)
 replace h26 := XF h26
 refine WK hK11 <| WS fun _ hK15 => ?_
 obtain ⟨hp, hq⟩ := h26
 have hpb := hp.1
 have hqb := hq.1
 have hpo := off_in hst hp
 have hqo := off_in hst hq
 have hlo := less_in hpo
 have hwy := longF_in hst (f := (min p.Stretch q.Stretch).toNat) (k := (max p.Stretch q.Stretch - min p.Stretch q.Stretch).toNat) (by omega)
 refine rS (LW 1 rfl tk173 rfl rfl) <| rS (FA 0 rfl fo99_0 rfl) <| rS (L1 (Value.int .i64 p.Stretch) 4 rfl tk3 rfl rfl) <| rS (FA 0 rfl fo99_0 rfl) <| rS (L1 (Value.int .i64 q.Stretch) 3 rfl tk3 rfl rfl) <| rS (MN rfl) <| rS (FA 0 rfl fo99_0 rfl) <| rS (L1 (Value.int .i64 p.Stretch) 4 rfl tk3 rfl rfl) <| rS (FA 0 rfl fo99_0 rfl) <| rS (L1 (Value.int .i64 q.Stretch) 3 rfl tk3 rfl rfl) ?_
 refine rS (MX rfl) <| rS (CL (drop_c ts tsA tsC (min p.Stretch q.Stretch) (max p.Stretch q.Stretch) (by first | assumption | omega | (simp; done) | (simp; omega)) (by first | assumption | omega | (simp; done) | (simp; omega)) (by omega)) (ha_at 6 rfl rfl <| ha_nil) rfl) <| rS (MV rfl) <| rS (EX rfl) <| rS (EX rfl) <| AL rfl tz47 fun b16 => AL rfl tz47 fun b17 => SW1 rfl ts47 rfl <| SW0 rfl ts47 rfl <| RK hK15 ?_
 refine w_seq fun _ hK18 => WS fun _ hK19 => rS (FA 0 rfl fo99_0 rfl) <| rS (L1 (Value.int .i64 q.Stretch) 5 rfl tk3 rfl rfl) <| rS (FA 0 rfl fo99_0 rfl) <| rS (L1 (Value.int .i64 p.Stretch) 6 rfl tk3 rfl rfl) <| rS (BI rfl b_lss) <| RK hK19 ?_
 refine w_if rfl (fun h47 => ?_) (fun h47 => ?_)
 rotate_left 1
 · replace h47 := DF h47
   refine WK hK18 <| w_seq fun _ hK25 => w_draw4 mixed [0, 1, 2, 3, 4, 5, 9] [6, 7, 8] [false, false, false, false, false, false, false] [false, false, false] [(blk b17 47 (SpanV.cells (fallF ts (min p.Stretch q.Stretch).toNat ((max p.Stretch q.Stretch) - (min p.Stretch q.Stretch)).toNat))), (blk b16 47 (SpanV.cells (longF ts (min p.Stretch q.Stretch).toNat ((max p.Stretch q.Stretch) - (min p.Stretch q.Stretch)).toNat))), (blk b13 99 ((SpotV.cells p) ++ (SpotV.cells q))), (blk b7 173 (SurveyV.cells (SurveyV.mk (TrackV.mk (Slc.mk tsA ts.length tsC))))), (blk b4 99 (SpotV.cells q)), (blk b3 99 (SpotV.cells p)), (blk b2 24 (TrackV.cells (TrackV.mk (Slc.mk tsA ts.length tsC)))), (rd tsA ts.length 9 (ts.map StretchV.cells)).ro] [] (by kernel_rfl) (fun w hs => St.sel [0, 1, 2, 3, 5, 6, 7, 8] rfl rfl hs) (fun w hs => St.sel [] rfl rfl hs) <| eS rfl (LW 1 rfl tk47 rfl rfl) <| eS rfl (FA 1 rfl fo99_1 rfl) <| eS rfl (LP (SpanV.cells q.Off) 4 rfl tk47 rfl rfl rfl) <| eS rfl (FA 1 rfl fo99_1 rfl) <| eS rfl (LP (SpanV.cells p.Off) 5 rfl tk47 rfl rfl rfl) <| eS rfl (CL (less_c p.Off (by first | assumption | omega | (simp; done) | (simp; omega))) (ha_nil) rfl) <| eS rfl (AG rfl) ?_
   refine d_fin rfl <| t_cons rfl fun T26 hT26 => r_bs (xs := [.tmp 52, .tmp 55]) (cs := ((SpanV.cells q.Off) ++ (SpanV.cells (lessZ p.Off)))) rfl te127 tz47 rfl rfl rfl rfl (by simp [Value.cells, SpanV.cells_length]) rfl rfl fun b27 => RN hT26 [1, 2, 3, 4, 6, 7, 8, 9] rfl rfl <| t_cons rfl fun T28 hT28 => rS (CL (FnV.eq (plus_c (longF ts (min p.Stretch q.Stretch).toNat ((max p.Stretch q.Stretch) - (min p.Stretch q.Stretch)).toNat) ([q.Off, (lessZ p.Off)]) (some ⟨b27, 0, none⟩) 2 (by first | exact hwy | exact less_in hwy) (by intro z hz; simp only [List.mem_cons, List.not_mem_nil, or_false] at hz; rcases hz with rfl | rfl; exact hqo; exact hlo) (by simp)) plus_two) (ha_cons (has_rd_blk 0 rfl rfl (by simp [SpanV.cells_length]) rfl) <| ha_nil) rfl) <| RN hT28 [1, 2, 3, 4, 6, 7, 8, 9] rfl rfl <| t_cons rfl fun T29 hT29 => SW5 rfl ts47 rfl <| RN hT29 [1, 2, 3, 4, 6, 7, 8, 9] rfl rfl ?_
   refine t_fin rfl <| KK hK25 <| w_ret ?_
   refine hQ _ _ _ (l_nil (vs := [(Value.agg (SpanV.cells (addZ (addZ (longF ts (min p.Stretch q.Stretch).toNat ((max p.Stretch q.Stretch) - (min p.Stretch q.Stretch)).toNat) q.Off) (lessZ p.Off))).toArray), (Value.int .i64 0)]) ⟨⟨_, rfl, .inl ⟨_, _, tk47, at_blk (vs := (SpanV.cells (addZ (addZ (longF ts (min p.Stretch q.Stretch).toNat ((max p.Stretch q.Stretch) - (min p.Stretch q.Stretch)).toNat) q.Off) (lessZ p.Off)))) 5 rfl rfl, rfl, rfl⟩⟩, rfl, trivial⟩ fun w hs => endV ?_ hs)
   show (Value.tuple [(Value.agg (SpanV.cells (addZ (addZ (longF ts (min p.Stretch q.Stretch).toNat ((max p.Stretch q.Stretch) - (min p.Stretch q.Stretch)).toNat) q.Off) (lessZ p.Off))).toArray), (Value.int .i64 0)].toArray) = (Value.tuple [(Value.agg (SpanV.cells (apartV ts p q)).toArray), (Value.int .i64 (apartE ts p q))].toArray)
   clear hs w hQ hN hT29 T29 hT28 T28 hT26 T26 hK25 hK19 hK18 hK15 hK12 hK11 hK9 hK8 hK6 hK1
   first | (have e := apart_bad (a := p) (b := q) (tr_no he).1; rw [e.1, e.2, (tr_no he).2] <;> rfl) | (have e := apart_out htr h26; rw [e.1, e.2] <;> rfl) | (have e := apart_in htr ⟨hp, hq⟩; rw [e.1, e.2]; unfold apartF wayB; rw [if_pos h47] <;> rfl) | (have e := apart_in htr ⟨hp, hq⟩; rw [e.1, e.2]; unfold apartF wayB; rw [if_neg h47] <;> rfl)
 replace h47 := DT h47
 refine w_region <| rS (LW 1 rfl tk47 rfl rfl) <| rS (CL (less_c (longF ts (min p.Stretch q.Stretch).toNat ((max p.Stretch q.Stretch) - (min p.Stretch q.Stretch)).toNat) (by first | assumption | omega | (simp; done) | (simp; omega))) (ha_nil) rfl) <| SW1 rfl ts47 rfl <| RK hK18 <| w_seq fun _ hK20 => w_draw4 mixed [0, 1, 2, 3, 4, 5, 9] [6, 7, 8] [false, false, false, false, false, false, false] [false, false, false] [(blk b17 47 (SpanV.cells (fallF ts (min p.Stretch q.Stretch).toNat ((max p.Stretch q.Stretch) - (min p.Stretch q.Stretch)).toNat))), (blk b16 47 (SpanV.cells (lessZ (longF ts (min p.Stretch q.Stretch).toNat ((max p.Stretch q.Stretch) - (min p.Stretch q.Stretch)).toNat)))), (blk b13 99 ((SpotV.cells p) ++ (SpotV.cells q))), (blk b7 173 (SurveyV.cells (SurveyV.mk (TrackV.mk (Slc.mk tsA ts.length tsC))))), (blk b4 99 (SpotV.cells q)), (blk b3 99 (SpotV.cells p)), (blk b2 24 (TrackV.cells (TrackV.mk (Slc.mk tsA ts.length tsC)))), (rd tsA ts.length 9 (ts.map StretchV.cells)).ro] [] (by kernel_rfl) (fun w hs => St.sel [0, 1, 2, 3, 5, 6, 7, 8] rfl rfl hs) (fun w hs => St.sel [] rfl rfl hs) <| eS rfl (LW 1 rfl tk47 rfl rfl) <| eS rfl (FA 1 rfl fo99_1 rfl) <| eS rfl (LP (SpanV.cells q.Off) 4 rfl tk47 rfl rfl rfl) ?_
 refine eS rfl (FA 1 rfl fo99_1 rfl) <| eS rfl (LP (SpanV.cells p.Off) 5 rfl tk47 rfl rfl rfl) <| eS rfl (CL (less_c p.Off (by first | assumption | omega | (simp; done) | (simp; omega))) (ha_nil) rfl) <| eS rfl (AG rfl) <| d_fin rfl <| t_cons rfl fun T21 hT21 => r_bs (xs := [.tmp 52, .tmp 55]) (cs := ((SpanV.cells q.Off) ++ (SpanV.cells (lessZ p.Off)))) rfl te127 tz47 rfl rfl rfl rfl (by simp [Value.cells, SpanV.cells_length]) rfl rfl fun b22 => RN hT21 [1, 2, 3, 4, 6, 7, 8, 9] rfl rfl <| t_cons rfl fun T23 hT23 => rS (CL (FnV.eq (plus_c (lessZ (longF ts (min p.Stretch q.Stretch).toNat ((max p.Stretch q.Stretch) - (min p.Stretch q.Stretch)).toNat)) ([q.Off, (lessZ p.Off)]) (some ⟨b22, 0, none⟩) 2 (by first | exact hwy | exact less_in hwy) (by intro z hz; simp only [List.mem_cons, List.not_mem_nil, or_false] at hz; rcases hz with rfl | rfl; exact hqo; exact hlo) (by simp)) plus_two) (ha_cons (has_rd_blk 0 rfl rfl (by simp [SpanV.cells_length]) rfl) <| ha_nil) rfl) ?_
 refine RN hT23 [1, 2, 3, 4, 6, 7, 8, 9] rfl rfl <| t_cons rfl fun T24 hT24 => SW5 rfl ts47 rfl <| RN hT24 [1, 2, 3, 4, 6, 7, 8, 9] rfl rfl <| t_fin rfl <| KK hK20 <| w_ret ?_
 refine hQ _ _ _ (l_nil (vs := [(Value.agg (SpanV.cells (addZ (addZ (lessZ (longF ts (min p.Stretch q.Stretch).toNat ((max p.Stretch q.Stretch) - (min p.Stretch q.Stretch)).toNat)) q.Off) (lessZ p.Off))).toArray), (Value.int .i64 0)]) ⟨⟨_, rfl, .inl ⟨_, _, tk47, at_blk (vs := (SpanV.cells (addZ (addZ (lessZ (longF ts (min p.Stretch q.Stretch).toNat ((max p.Stretch q.Stretch) - (min p.Stretch q.Stretch)).toNat)) q.Off) (lessZ p.Off)))) 5 rfl rfl, rfl, rfl⟩⟩, rfl, trivial⟩ fun w hs => endV ?_ hs)
 show (Value.tuple [(Value.agg (SpanV.cells (addZ (addZ (lessZ (longF ts (min p.Stretch q.Stretch).toNat ((max p.Stretch q.Stretch) - (min p.Stretch q.Stretch)).toNat)) q.Off) (lessZ p.Off))).toArray), (Value.int .i64 0)].toArray) = (Value.tuple [(Value.agg (SpanV.cells (apartV ts p q)).toArray), (Value.int .i64 (apartE ts p q))].toArray)
 clear hs w hQ hN hT24 T24 hT23 T23 hT21 T21 hK20 hK19 hK18 hK15 hK12 hK11 hK9 hK8 hK6 hK1
 first | (have e := apart_bad (a := p) (b := q) (tr_no he).1; rw [e.1, e.2, (tr_no he).2] <;> rfl) | (have e := apart_out htr h26; rw [e.1, e.2] <;> rfl) | (have e := apart_in htr ⟨hp, hq⟩; rw [e.1, e.2]; unfold apartF wayB; rw [if_pos h47] <;> rfl) | (have e := apart_in htr ⟨hp, hq⟩; rw [e.1, e.2]; unfold apartF wayB; rw [if_neg h47] <;> rfl)
set_option maxRecDepth 100000 in
set_option maxHeartbeats 400000 in
theorem rspot_c (ts : List StretchV) (tsA : Option Addr) (tsC : Nat) (s : SpotV) (hst : ∀ x ∈ ts, StretchOk x) (hlen : ts.length ≤ 12) :
    FnV Tryz.prog 91 [(Value.agg (TrackV.cells (TrackV.mk (Slc.mk tsA ts.length tsC))).toArray), (Value.agg (SpotV.cells s).toArray)] [(rd tsA ts.length 9 (ts.map StretchV.cells))] (Value.bool (decide (SpotOk ts s))) := by
 refine fnV_of go91 Tryz.func91 rfl rfl fun w0 Q hQ hN => ?_
 try dsimp only
 refine WS fun _ hK1 => BXA rfl fun b2 => BXA rfl fun b3 => rS (AG rfl) <| RK hK1 <| w_seq fun _ hK4 => w_draw mixed 22 (by kernel_rfl) <| dS (FA 0 rfl fo99_0 rfl) <| dS (L1 (Value.int .i64 s.Stretch) 0 rfl tk3 rfl rfl) <| dS (FA 0 rfl fo24_0 rfl) ?_
 refine dS (L1 (Value.slice tsA ts.length tsC) 1 rfl tk22 rfl rfl) <| dS (LN rfl ut22) <| dS (BI rfl (b_sub ⟨by omega, by omega⟩)) <| dS (CL (within_1 s.Stretch 0 (((ts.length : Nat) : Int) - 1)) (ha_nil) rfl) <| dS (MV rfl) ?_
 refine d_bool (t := 12) rfl (fun h12 => ?_) (fun h12 => ?_)
 rotate_left 1
 · replace h12 := DF h12
   refine dS (OX rfl) <| dS (OX rfl) <| dS (OX rfl) <| dS (OX rfl) <| dS (OX rfl) <| dS (OX rfl) <| dS (OX rfl) <| dS (OX rfl) <| dS (OX rfl) <| dS (OX rfl) ?_
   refine dS (OX rfl) <| dS (OX rfl) <| dS (PK rfl) <| dS (AG rfl) <| d_end <| RK hK4 <| w_ret <| Q1 hQ rfl rfl rfl ?_
   first | (refine congrArg Value.bool ?_; rw [decide_eq_false (spot_out (by omega))]) | exact congrArg Value.bool (decide_eq_decide.2 (spot_yes (by omega) hx).symm)
 replace h12 := DT h12
 refine dS (FA 1 rfl fo99_1 rfl) <| dS (LP (SpanV.cells s.Off) 0 rfl tk47 rfl rfl rfl) <| dS (FA 0 rfl fo24_0 rfl) <| dS (L1 (Value.slice tsA ts.length tsC) 1 rfl tk22 rfl rfl) <| dS (FA 0 rfl fo99_0 rfl) <| dS (L1 (Value.int .i64 s.Stretch) 0 rfl tk3 rfl rfl) ?_
 obtain ⟨x, hx⟩ : ∃ y_, ts[(s.Stretch).toNat]? = some y_ := ⟨ts[(s.Stretch).toNat]'(by omega), List.getElem?_eq_getElem _⟩
 have hxm : (ts.map StretchV.cells)[(s.Stretch).toNat]? = some (StretchV.cells x) := by rw [List.getElem?_map, hx]; rfl
 refine dS (IA ((s.Stretch).toNat) rfl (has_at 2 rfl) te22 (by decide) (by omega) (by omega)) <| dS (FAR ((((s.Stretch).toNat) * 9) + 1) rfl (has_at 2 rfl) (Nat.mul_pos (by omega) (by decide)) fo141_1 rfl) ?_
 have hxo := (hst x (List.mem_of_getElem? hx)).2.1
 simp only [SpanOk] at hxo
 refine dS (FAR ((((s.Stretch).toNat) * 9) + 1) rfl (has_at 2 rfl) (Nat.mul_pos (by omega) (by decide)) fo47_0 rfl) <| dS (LE1 ((s.Stretch).toNat) 1 (Value.int .i64 x.Long.Lo) rfl tk3 (has_at 2 rfl) hxm rfl (by decide) rfl) <| dS (BI rfl (b_sub ⟨by omega, by omega⟩)) <| dS (CL (span_1 s.Off 0 (x.Long.Lo - 1)) (ha_nil) rfl) <| dS (PK rfl) <| dS (AG rfl) <| d_end <| RK hK4 <| w_ret <| Q1 hQ rfl rfl rfl ?_
 first | (refine congrArg Value.bool ?_; rw [decide_eq_false (spot_out (by omega))]) | exact congrArg Value.bool (decide_eq_decide.2 (spot_yes (by omega) hx).symm)
set_option maxRecDepth 100000 in
set_option maxHeartbeats 400000 in
theorem rdrop_c (ts : List StretchV) (tsA : Option Addr) (tsC : Nat) (f : Int) (t : Int) (hst : ∀ x ∈ ts, StretchOk x) (hlen : ts.length ≤ 12) (hf : 0 ≤ f ∧ f ≤ t ∧ t ≤ ts.length) :
    FnV Tryz.prog 137 [(Value.agg (TrackV.cells (TrackV.mk (Slc.mk tsA ts.length tsC))).toArray), (Value.int .i64 f), (Value.int .i64 t)] [(rd tsA ts.length 9 (ts.map StretchV.cells))] (Value.tuple [(Value.agg (SpanV.cells (longF ts f.toNat (t - f).toNat)).toArray), (Value.agg (SpanV.cells (fallF ts f.toNat (t - f).toNat)).toArray)].toArray) := by
 refine fnV_of go137 Tryz.func137 rfl rfl fun w0 Q hQ hN => ?_
 try dsimp only
 refine WS fun _ hK1 => BXA rfl fun b2 => AL rfl tz47 fun b3 => AL rfl tz47 fun b4 => RK hK1 <| WS fun _ hK5 => AL rfl tz47 fun b6 => AL rfl tz47 fun b7 => RK hK5 <| w_seq fun _ hK8 => ?_
 refine WS fun _ hK9 => rS (MV rfl) <| rS (AG rfl) <| RK hK9 <| w_block ?_
 have hinit : (0 ≤ (t - f).toNat) := by exact Nat.zero_le _
 have hb10 : (Value.int .i64 (f + ((0 : Nat) : Int))) = (Value.int .i64 f) := by exact congrArg (Value.int .i64) (by omega)
 refine w_loop (ι := { z : Nat // (z ≤ (t - f).toNat) }) (fun z => [(1, (Value.int .i64 f)), (2, (Value.int .i64 t)), (3, (Value.pointer (some ⟨b2, 0, none⟩))), (6, (Value.pointer (some ⟨b3, 0, none⟩))), (7, (Value.pointer (some ⟨b4, 0, none⟩))), (8, (Value.pointer (some ⟨b6, 0, none⟩))), (9, (Value.pointer (some ⟨b7, 0, none⟩))), (10, (Value.int .i64 (f + ((z.1 : Nat) : Int))))]) (fun z => [(blk b7 47 (SpanV.cells (fallF ts f.toNat z.1))), (blk b6 47 (SpanV.cells (longF ts f.toNat z.1))), (blk b4 47 (SpanV.cells (SpanV.mk 0 0))), (blk b3 47 (SpanV.cells (SpanV.mk 0 0))), (blk b2 24 (TrackV.cells (TrackV.mk (Slc.mk tsA ts.length tsC)))), (rd tsA ts.length 9 (ts.map StretchV.cells)).ro]) (fun z => (t - f).toNat - z.1) ⟨0, hinit⟩ (Sub.cons rfl <| Sub.cons rfl <| Sub.cons rfl <| Sub.cons rfl <| Sub.cons rfl <| Sub.cons rfl <| Sub.cons rfl <| sub_val rfl hb10 <| Sub.nil _) (fun w hs => St.sel [0, 1, 2, 3, 4, 5] rfl rfl hs) ?_
 clear hinit
 rintro ⟨k, hl3_0⟩ J11 hJ11
 try dsimp only
 refine w_seq fun _ hK12 => WS fun _ hK13 => rS (MV rfl) <| rS (MV rfl) <| rS (BI rfl b_lss) <| RK hK13 ?_
 refine w_if rfl (fun h14 => ?_) (fun h14 => ?_)
 rotate_left 1
 · replace h14 := DF h14
   refine w_exit <| k_exit_then <| k_exit_then <| k_exit_same <| KK hK8 <| w_seq fun _ hK22 => w_draw4 mixed [0, 1] [2, 3] [false, false] [false, false] [(blk b7 47 (SpanV.cells (fallF ts f.toNat k))), (blk b6 47 (SpanV.cells (longF ts f.toNat k))), (blk b2 24 (TrackV.cells (TrackV.mk (Slc.mk tsA ts.length tsC)))), (rd tsA ts.length 9 (ts.map StretchV.cells)).ro] [] (by kernel_rfl) (fun w hs => St.sel [0, 1, 4, 5] rfl rfl hs) (fun w hs => St.sel [] rfl rfl hs) <| eS rfl (LW 1 rfl tk47 rfl rfl) <| eS rfl (LW 0 rfl tk47 rfl rfl) <| d_fin rfl ?_
   refine t_cons rfl fun T23 hT23 => SW3 rfl ts47 rfl <| RN hT23 [0, 1, 4, 5] rfl rfl <| t_cons rfl fun T24 hT24 => SW2 rfl ts47 rfl <| RN hT24 [0, 1, 4, 5] rfl rfl <| t_fin rfl <| KK hK22 <| w_ret ?_
   refine hQ _ _ _ (l_nil (vs := [(Value.agg (SpanV.cells (longF ts f.toNat k)).toArray), (Value.agg (SpanV.cells (fallF ts f.toNat k)).toArray)]) ⟨⟨_, rfl, .inl ⟨_, _, tk47, at_blk (vs := (SpanV.cells (longF ts f.toNat k))) 3 rfl rfl, rfl, rfl⟩⟩, ⟨_, rfl, .inl ⟨_, _, tk47, at_blk (vs := (SpanV.cells (fallF ts f.toNat k))) 2 rfl rfl, rfl, rfl⟩⟩, trivial⟩ fun w hs => endV ?_ hs)
   show (Value.tuple [(Value.agg (SpanV.cells (longF ts f.toNat k)).toArray), (Value.agg (SpanV.cells (fallF ts f.toNat k)).toArray)].toArray) = (Value.tuple [(Value.agg (SpanV.cells (longF ts f.toNat (t - f).toNat)).toArray), (Value.agg (SpanV.cells (fallF ts f.toNat (t - f).toNat)).toArray)].toArray)
   clear hs w hQ hN hT24 T24 hT23 T23 hK22 hK13 hK12 hK9 hK8 hK5 hK1
   obtain rfl : k = (t - f).toNat := (by omega); rfl
 replace h14 := DT h14
 refine WK hK12 <| w_seq fun _ hK15 => w_block <| WS fun _ hK16 => rS (FA 0 rfl fo24_0 rfl) <| rS (L1 (Value.slice tsA ts.length tsC) 4 rfl tk22 rfl rfl) <| rS (MV rfl) ?_
 obtain ⟨x, hx⟩ : ∃ y_, ts[(f.toNat + k)]? = some y_ := ⟨ts[(f.toNat + k)]'(by omega), List.getElem?_eq_getElem _⟩
 have hxm : (ts.map StretchV.cells)[(f.toNat + k)]? = some (StretchV.cells x) := by rw [List.getElem?_map, hx]; rfl
 refine rS (IA (f.toNat + k) rfl (has_at 5 rfl) te22 (by decide) (by omega) (by omega)) <| rS (LEN (f.toNat + k) 0 (StretchV.cells x) rfl tk141 (has_at 5 rfl) hxm rfl (by decide) rfl rfl) <| AL rfl tz141 fun b17 => SW0 rfl ts141 rfl <| RK hK16 <| WS fun _ hK18 => ?_
 have hxo := hst x (List.mem_of_getElem? hx)
 have hlb := longF_b hst f.toNat k
 have hfb := fallF_b hst f.toNat k
 have hx1 := hxo.2.1
 have hx2 := hxo.2.2.1
 simp only [SpanOk] at hx1 hx2
 refine rS (FA 0 rfl fo47_0 rfl) <| rS (L1 (Value.int .i64 ((longF ts f.toNat k).Lo)) 2 rfl tk3 rfl rfl) <| rS (FA 1 rfl fo141_1 rfl) <| rS (FA 1 rfl fo47_0 rfl) <| rS (L1 (Value.int .i64 x.Long.Lo) 0 rfl tk3 rfl rfl) <| rS (BI rfl (b_add ⟨by omega, by omega⟩)) <| rS (FA 1 rfl fo47_1 rfl) <| rS (L1 (Value.int .i64 ((longF ts f.toNat k).Hi)) 2 rfl tk3 rfl rfl) <| rS (FA 1 rfl fo141_1 rfl) <| rS (FA 2 rfl fo47_1 rfl) ?_
 refine rS (L1 (Value.int .i64 x.Long.Hi) 0 rfl tk3 rfl rfl) <| rS (BI rfl (b_add ⟨by omega, by omega⟩)) <| rS (SX (sd_build (xs := [(0, .tmp 28), (1, .tmp 34)]) (cs := (SpanV.cells (SpanV.mk (((longF ts f.toNat k).Lo) + x.Long.Lo) (((longF ts f.toNat k).Hi) + x.Long.Hi)))) rfl rfl (built_of tb47 rfl)) rfl rfl) <| SW2 rfl ts47 rfl <| RK hK18 <| w_region <| rS (FA 0 rfl fo47_0 rfl) <| rS (L1 (Value.int .i64 ((fallF ts f.toNat k).Lo)) 1 rfl tk3 rfl rfl) <| rS (FA 3 rfl fo141_2 rfl) <| rS (FA 3 rfl fo47_0 rfl) ?_
 refine rS (L1 (Value.int .i64 x.Fall.Lo) 0 rfl tk3 rfl rfl) <| rS (BI rfl (b_add ⟨by omega, by omega⟩)) <| rS (FA 1 rfl fo47_1 rfl) <| rS (L1 (Value.int .i64 ((fallF ts f.toNat k).Hi)) 1 rfl tk3 rfl rfl) <| rS (FA 3 rfl fo141_2 rfl) <| rS (FA 4 rfl fo47_1 rfl) <| rS (L1 (Value.int .i64 x.Fall.Hi) 0 rfl tk3 rfl rfl) <| rS (BI rfl (b_add ⟨by omega, by omega⟩)) <| rS (SX (sd_build (xs := [(0, .tmp 41), (1, .tmp 47)]) (cs := (SpanV.cells (SpanV.mk (((fallF ts f.toNat k).Lo) + x.Fall.Lo) (((fallF ts f.toNat k).Hi) + x.Fall.Hi)))) rfl rfl (built_of tb47 rfl)) rfl rfl) <| SW1 rfl ts47 rfl ?_
 refine r_nil <| k_block <| KK hK15 ?_
 have hb19 : (SpanV.cells (SpanV.mk (((longF ts f.toNat k).Lo) + x.Long.Lo) (((longF ts f.toNat k).Hi) + x.Long.Hi))) = (SpanV.cells (longF ts f.toNat (k + 1))) := by rw [longF_succ hx]; rfl
 rw [hb19]
 have hb20 : (SpanV.cells (SpanV.mk (((fallF ts f.toNat k).Lo) + x.Fall.Lo) (((fallF ts f.toNat k).Hi) + x.Fall.Hi))) = (SpanV.cells (fallF ts f.toNat (k + 1))) := by rw [fallF_succ hx]; rfl
 rw [hb20]
 refine w_region <| rS (MV rfl) <| rS (BI rfl (b_add ⟨by omega, by omega⟩)) <| rS (AG rfl) <| r_nil ?_
 have hb21 : (Value.int .i64 (f + (((k + 1) : Nat) : Int))) = (Value.int .i64 ((f + ((k : Nat) : Int)) + 1)) := by exact congrArg (Value.int .i64) (by omega)
 refine k_then (hJ11 ⟨(k + 1), (by first | omega | (simp only []; omega))⟩ _ _ _ rfl (by first | omega | (simp; omega)) (Sub.cons rfl <| Sub.cons rfl <| Sub.cons rfl <| Sub.cons rfl <| Sub.cons rfl <| Sub.cons rfl <| Sub.cons rfl <| sub_val rfl hb21 <| Sub.nil _) (fun w hs => St.sel [1, 2, 3, 4, 5, 6] rfl rfl hs))
end
section
open Go.RowKit
set_option linter.unusedVariables false
set_option maxRecDepth 100000 in
set_option maxHeartbeats 400000 in
theorem ask1_c (l : LineM) (kA : Option Addr) (kC : Nat) (az : List RA) (cA : Option Addr) (cC : Nat) (bA : Option Addr) (bC : Nat) (hin : LineIn l az) :
    FnV Tryz.prog 106 [(Value.agg (LineV.cells (LineV.mk (TrackV.mk (Slc.mk kA l.Track.length kC)) l.Fast (Slc.mk cA l.Clocks.length cC) (Slc.mk bA l.Beams.length bC) l.Finish l.Fakes l.Misses)).toArray)] [(rd kA l.Track.length 9 (l.Track.map StretchV.cells)), (rd cA l.Clocks.length 2 (List.zipWith ClockM.cells l.Clocks az)), (bun (nest ClockM.rds l.Clocks az)), (rd bA l.Beams.length 4 (l.Beams.map BeamV.cells))] (Value.bool (decide (HeadOk l))) := by
 have htk := hin.trk
 have hck := hin.cks
 have has := hin.as_
 have hbm := hin.bms
 refine fnV_of go106 Tryz.func106 rfl rfl fun w0 Q hQ hN => ?_
 try dsimp only
 refine WS fun _ hK1 => BXA rfl fun b2 => rS (AG rfl) <| RK hK1 <| WS fun _ hK3 => rS (FA 1 rfl fo28_1 rfl) <| rS (L1 (Value.int .i64 l.Fast) 0 rfl tk3 rfl rfl) <| r_bs (xs := [.tmp 4]) (cs := [(Value.int .i64 l.Fast)]) rfl te35 tz3 rfl rfl rfl rfl (by simp [Value.cells]) rfl rfl fun b4 => rS (CL (FnV.eq (in_beam 1 5000 ([l.Fast]) (some ⟨b4, 0, none⟩) 1 (by first | assumption | omega | (simp; done) | (simp; omega))) inAll_one) (ha_cons (has_rd_blk 0 rfl rfl (by simp [iC_length]) rfl) <| ha_nil) rfl) <| rS (MV rfl) ?_
 refine r_bool (t := 7) rfl (fun h5 => ?_) (fun h5 => ?_)
 rotate_left 1
 · replace h5 := DF h5
   refine rS (OX rfl) <| rS (OX rfl) <| rS (OX rfl) <| rS (OX rfl) <| rS (OX rfl) <| rS (PK rfl) <| rS (MV rfl) <| rS (OX rfl) <| rS (OX rfl) <| rS (OX rfl) ?_
   refine rS (OX rfl) <| rS (OX rfl) <| rS (PK rfl) <| rS (MV rfl) <| rS (OX rfl) <| rS (OX rfl) <| rS (OX rfl) <| rS (OX rfl) <| rS (OX rfl) <| rS (OX rfl) ?_
   refine rS (OX rfl) <| rS (OX rfl) <| rS (PK rfl) <| rS (MV rfl) <| rS (OX rfl) <| rS (OX rfl) <| rS (OX rfl) <| rS (OX rfl) <| rS (PK rfl) <| rS (MV rfl) ?_
   refine rS (OX rfl) <| rS (OX rfl) <| rS (OX rfl) <| rS (OX rfl) <| rS (PK rfl) <| rS (AG rfl) <| RK hK3 <| w_ret <| Q1 hQ rfl rfl rfl ?_
   exact congrArg Value.bool (decide_eq_false (by unfold HeadOk; omega)).symm
 replace h5 := DT h5
 refine rS (FA 2 rfl fo28_2 rfl) <| rS (L1 (Value.slice cA l.Clocks.length cC) 1 rfl tk25 rfl rfl) <| rS (LN rfl ut25) <| r_bs (xs := [.tmp 10]) (cs := [(Value.int .i64 ((l.Clocks.length : Nat) : Int))]) rfl te35 tz3 rfl rfl rfl rfl (by simp [Value.cells]) rfl rfl fun b6 => rS (CL (FnV.eq (in_beam 1 4 ([((l.Clocks.length : Nat) : Int)]) (some ⟨b6, 0, none⟩) 1 (by first | assumption | omega | (simp; done) | (simp; omega))) inAll_one) (ha_cons (has_rd_blk 0 rfl rfl (by simp [iC_length]) rfl) <| ha_nil) rfl) <| rS (PK rfl) <| rS (MV rfl) ?_
 refine r_bool (t := 14) rfl (fun h7 => ?_) (fun h7 => ?_)
 rotate_left 1
 · replace h7 := DF h7
   refine rS (OX rfl) <| rS (OX rfl) <| rS (OX rfl) <| rS (OX rfl) <| rS (OX rfl) <| rS (PK rfl) <| rS (MV rfl) <| rS (OX rfl) <| rS (OX rfl) <| rS (OX rfl) ?_
   refine rS (OX rfl) <| rS (OX rfl) <| rS (OX rfl) <| rS (OX rfl) <| rS (OX rfl) <| rS (PK rfl) <| rS (MV rfl) <| rS (OX rfl) <| rS (OX rfl) <| rS (OX rfl) ?_
   refine rS (OX rfl) <| rS (PK rfl) <| rS (MV rfl) <| rS (OX rfl) <| rS (OX rfl) <| rS (OX rfl) <| rS (OX rfl) <| rS (PK rfl) <| rS (AG rfl) <| RK hK3 ?_
   refine w_ret <| Q1 hQ rfl rfl rfl ?_
   exact congrArg Value.bool (decide_eq_false (by unfold HeadOk; omega)).symm
 replace h7 := DT h7
 refine rS (FA 3 rfl fo28_3 rfl) <| rS (L1 (Value.slice bA l.Beams.length bC) 2 rfl tk26 rfl rfl) <| rS (LN rfl ut26) <| r_bs (xs := [.tmp 17]) (cs := [(Value.int .i64 ((l.Beams.length : Nat) : Int))]) rfl te35 tz3 rfl rfl rfl rfl (by simp [Value.cells]) rfl rfl fun b8 => rS (CL (FnV.eq (in_beam 1 6 ([((l.Beams.length : Nat) : Int)]) (some ⟨b8, 0, none⟩) 1 (by first | assumption | omega | (simp; done) | (simp; omega))) inAll_one) (ha_cons (has_rd_blk 0 rfl rfl (by simp [iC_length]) rfl) <| ha_nil) rfl) <| rS (PK rfl) <| rS (MV rfl) ?_
 refine r_bool (t := 21) rfl (fun h9 => ?_) (fun h9 => ?_)
 rotate_left 1
 · replace h9 := DF h9
   refine rS (OX rfl) <| rS (OX rfl) <| rS (OX rfl) <| rS (OX rfl) <| rS (OX rfl) <| rS (OX rfl) <| rS (OX rfl) <| rS (OX rfl) <| rS (PK rfl) <| rS (MV rfl) ?_
   refine rS (OX rfl) <| rS (OX rfl) <| rS (OX rfl) <| rS (OX rfl) <| rS (PK rfl) <| rS (MV rfl) <| rS (OX rfl) <| rS (OX rfl) <| rS (OX rfl) <| rS (OX rfl) ?_
   refine rS (PK rfl) <| rS (AG rfl) <| RK hK3 <| w_ret <| Q1 hQ rfl rfl rfl ?_
   exact congrArg Value.bool (decide_eq_false (by unfold HeadOk; omega)).symm
 replace h9 := DT h9
 refine rS (FA 3 rfl fo28_3 rfl) <| rS (L1 (Value.slice bA l.Beams.length bC) 3 rfl tk26 rfl rfl) <| rS (LN rfl ut26) <| rS (BI rfl (b_sub ⟨by omega, by omega⟩)) <| rS (FA 4 rfl fo28_4 rfl) <| rS (L1 (Value.int .i64 l.Finish) 3 rfl tk3 rfl rfl) <| r_bs (xs := [.tmp 27]) (cs := [(Value.int .i64 l.Finish)]) rfl te35 tz3 rfl rfl rfl rfl (by simp [Value.cells]) rfl rfl fun b10 => rS (CL (FnV.eq (in_beam 0 (((l.Beams.length : Nat) : Int) - 1) ([l.Finish]) (some ⟨b10, 0, none⟩) 1 (by first | assumption | omega | (simp; done) | (simp; omega))) inAll_one) (ha_cons (has_rd_blk 0 rfl rfl (by simp [iC_length]) rfl) <| ha_nil) rfl) <| rS (PK rfl) <| rS (MV rfl) ?_
 refine r_bool (t := 31) rfl (fun h11 => ?_) (fun h11 => ?_)
 rotate_left 1
 · replace h11 := DF h11
   refine rS (OX rfl) <| rS (OX rfl) <| rS (OX rfl) <| rS (OX rfl) <| rS (PK rfl) <| rS (MV rfl) <| rS (OX rfl) <| rS (OX rfl) <| rS (OX rfl) <| rS (OX rfl) ?_
   refine rS (PK rfl) <| rS (AG rfl) <| RK hK3 <| w_ret <| Q1 hQ rfl rfl rfl ?_
   exact congrArg Value.bool (decide_eq_false (by unfold HeadOk; omega)).symm
 replace h11 := DT h11
 refine rS (FA 5 rfl fo28_5 rfl) <| rS (L1 (Value.int .i64 l.Fakes) 4 rfl tk3 rfl rfl) <| r_bs (xs := [.tmp 33]) (cs := [(Value.int .i64 l.Fakes)]) rfl te35 tz3 rfl rfl rfl rfl (by simp [Value.cells]) rfl rfl fun b12 => rS (CL (FnV.eq (in_beam 0 3 ([l.Fakes]) (some ⟨b12, 0, none⟩) 1 (by first | assumption | omega | (simp; done) | (simp; omega))) inAll_one) (ha_cons (has_rd_blk 0 rfl rfl (by simp [iC_length]) rfl) <| ha_nil) rfl) <| rS (PK rfl) <| rS (MV rfl) ?_
 refine r_bool (t := 37) rfl (fun h13 => ?_) (fun h13 => ?_)
 rotate_left 1
 · replace h13 := DF h13
   refine rS (OX rfl) <| rS (OX rfl) <| rS (OX rfl) <| rS (OX rfl) <| rS (PK rfl) <| rS (AG rfl) <| RK hK3 <| w_ret <| Q1 hQ rfl rfl rfl ?_
   exact congrArg Value.bool (decide_eq_false (by unfold HeadOk; omega)).symm
 replace h13 := DT h13
 refine rS (FA 6 rfl fo28_6 rfl) <| rS (L1 (Value.int .i64 l.Misses) 5 rfl tk3 rfl rfl) <| r_bs (xs := [.tmp 39]) (cs := [(Value.int .i64 l.Misses)]) rfl te35 tz3 rfl rfl rfl rfl (by simp [Value.cells]) rfl rfl fun b14 => rS (CL (FnV.eq (in_beam 0 3 ([l.Misses]) (some ⟨b14, 0, none⟩) 1 (by first | assumption | omega | (simp; done) | (simp; omega))) inAll_one) (ha_cons (has_rd_blk 0 rfl rfl (by simp [iC_length]) rfl) <| ha_nil) rfl) <| rS (PK rfl) <| rS (AG rfl) <| RK hK3 <| w_ret <| Q1 hQ rfl rfl rfl ?_
 exact congrArg Value.bool (decide_eq_decide.2 (by unfold HeadOk; omega))
set_option maxRecDepth 100000 in
set_option maxHeartbeats 400000 in
theorem ask2_c (l : LineM) (kA : Option Addr) (kC : Nat) (az : List RA) (cA : Option Addr) (cC : Nat) (bA : Option Addr) (bC : Nat) (hin : LineIn l az) :
    FnV Tryz.prog 107 [(Value.agg (LineV.cells (LineV.mk (TrackV.mk (Slc.mk kA l.Track.length kC)) l.Fast (Slc.mk cA l.Clocks.length cC) (Slc.mk bA l.Beams.length bC) l.Finish l.Fakes l.Misses)).toArray)] [(rd kA l.Track.length 9 (l.Track.map StretchV.cells)), (rd cA l.Clocks.length 2 (List.zipWith ClockM.cells l.Clocks az)), (bun (nest ClockM.rds l.Clocks az)), (rd bA l.Beams.length 4 (l.Beams.map BeamV.cells))] (Value.bool (decide (∀ c ∈ l.Clocks, ClockOk c))) := by
 have htk := hin.trk
 have hck := hin.cks
 have has := hin.as_
 have hbm := hin.bms
 refine fnV_of go107 Tryz.func107 rfl rfl fun w0 Q hQ hN => ?_
 try dsimp only
 refine WS fun _ hK1 => BXA rfl fun b2 => rS (AG rfl) <| RK hK1 <| WS fun _ hK3 => rS (FA 2 rfl fo28_2 rfl) <| rS (L1 (Value.slice cA l.Clocks.length cC) 0 rfl tk25 rfl rfl) <| rS (CL (containsck_c l.Clocks az cA cC (Value.func (.func 109) [].toArray [].toArray) (fun m => (!(decide (ClockOk m)))) (bun (nest ClockM.rds l.Clocks az)) (by intro k_ m a hm_ ha_; exact clo_of (fi := []) (ca := []) (bad_c l.Clocks az k_ m a (by exact hm_) (by exact ha_) (by exact hin.syn _ _ _ hm_ ha_))) (by first | assumption | omega | (simp; done) | (simp; omega)) (by first | assumption | omega | (simp; done) | (simp; omega))) (ha3 2 3 3 rfl rfl rfl rfl rfl rfl) rfl) <| rS (NT rfl) <| rS (AG rfl) ?_
 refine RK hK3 <| w_ret <| Q1 hQ rfl rfl rfl ?_
 exact congrArg Value.bool (by rw [Bool.eq_iff_iff, decide_eq_true_eq]; exact clocks_any)
set_option maxRecDepth 100000 in
set_option maxHeartbeats 400000 in
theorem spot_c (b : BeamV) (l : LineM) (kA : Option Addr) (kC : Nat) (az : List RA) (cA : Option Addr) (cC : Nat) (bA : Option Addr) (bC : Nat) (g1 : Nat) (hin : LineIn l az) (htr : trackOk l.Track = true) :
    FnV Tryz.prog 113 [(Value.agg (BeamV.cells b).toArray), (Value.pointer (some ⟨g1, 0, none⟩))] [(rd kA l.Track.length 9 (l.Track.map StretchV.cells)), (rd cA l.Clocks.length 2 (List.zipWith ClockM.cells l.Clocks az)), (bun (nest ClockM.rds l.Clocks az)), (rd bA l.Beams.length 4 (l.Beams.map BeamV.cells)), (blk g1 28 (LineV.cells (LineV.mk (TrackV.mk (Slc.mk kA l.Track.length kC)) l.Fast (Slc.mk cA l.Clocks.length cC) (Slc.mk bA l.Beams.length bC) l.Finish l.Fakes l.Misses)))] (Value.bool (!(decide (BeamOk l b)))) := by
 have htk := hin.trk
 have hck := hin.cks
 have has := hin.as_
 have hbm := hin.bms
 have hsd := hin.side
 refine fnV_of go113 Tryz.func113 rfl rfl fun w0 Q hQ hN => ?_
 try dsimp only
 refine WS fun _ hK1 => BXA rfl fun b2 => rS (AG rfl) <| RK hK1 <| WS fun _ hK3 => rS (FA 0 rfl fo28_0 rfl) <| rS (LPR (TrackV.cells (TrackV.mk (Slc.mk kA l.Track.length kC))) 5 rfl tk24 rfl rfl rfl) <| rS (FA 0 rfl fo101_0 rfl) <| rS (LP (SpotV.cells b.Spot) 0 rfl tk99 rfl rfl rfl) <| rS (CL (At_c l.Track kA kC b.Spot (by first | assumption | omega | (simp; done) | (simp; omega)) (by first | assumption | omega | (simp; done) | (simp; omega))) (ha_at 1 rfl rfl <| ha_nil) rfl) ?_
 refine rS (MV rfl) <| rS (EX rfl) <| rS (EX rfl) <| AL rfl tz47 fun b4 => SW0 rfl ts47 rfl <| rS (AG rfl) <| RK hK3 <| WS fun _ hK5 => rS (MV rfl) <| rS (BI rfl b_neq) ?_
 refine rS (MV rfl) ?_
 refine r_bool (t := 16) rfl (fun h16 => ?_) (fun h16 => ?_)
 · replace h16 := XT h16
   refine rS (OX rfl) <| rS (OX rfl) <| rS (OX rfl) <| rS (OX rfl) <| rS (OX rfl) <| rS (OX rfl) <| rS (OX rfl) <| rS (OX rfl) <| rS (OX rfl) <| rS (PK rfl) ?_
   refine rS (AG rfl) <| RK hK5 <| w_ret <| Q1 hQ rfl rfl rfl ?_
   first | (refine congrArg Value.bool ?_; rw [decide_eq_false (fun h : BeamOk l b => h16 ((at_zero htr).2 h.1))]; rfl) | (refine congrArg Value.bool ?_; refine congrArg Bool.not (decide_eq_decide.2 ⟨fun h => ⟨(at_zero htr).1 h16, by omega, by omega⟩, fun h => by have := h.2; omega⟩))
 replace h16 := XF h16
 refine rS (FA 2 rfl fo28_2 rfl) <| rS (L1R (Value.slice cA l.Clocks.length cC) 6 rfl tk25 rfl rfl) <| rS (LN rfl ut25) <| rS (BI rfl (b_sub ⟨by omega, by omega⟩)) <| rS (FA 3 rfl fo101_1 rfl) <| rS (L1 (Value.int .i64 b.Clock) 1 rfl tk3 rfl rfl) <| r_bs (xs := [.tmp 22]) (cs := [(Value.int .i64 b.Clock)]) rfl te35 tz3 rfl rfl rfl rfl (by simp [Value.cells]) rfl rfl fun b6 => rS (CL (FnV.eq (in_beam 0 (((l.Clocks.length : Nat) : Int) - 1) ([b.Clock]) (some ⟨b6, 0, none⟩) 1 (by first | assumption | omega | (simp; done) | (simp; omega))) inAll_one) (ha_cons (has_rd_blk 0 rfl rfl (by simp [iC_length]) rfl) <| ha_nil) rfl) <| rS (NT rfl) <| rS (PK rfl) ?_
 refine rS (AG rfl) <| RK hK5 <| w_ret <| Q1 hQ rfl rfl rfl ?_
 first | (refine congrArg Value.bool ?_; rw [decide_eq_false (fun h : BeamOk l b => h16 ((at_zero htr).2 h.1))]; rfl) | (refine congrArg Value.bool ?_; refine congrArg Bool.not (decide_eq_decide.2 ⟨fun h => ⟨(at_zero htr).1 h16, by omega, by omega⟩, fun h => by have := h.2; omega⟩))
set_option maxRecDepth 100000 in
set_option maxHeartbeats 400000 in
theorem ask3_c (l : LineM) (kA : Option Addr) (kC : Nat) (az : List RA) (cA : Option Addr) (cC : Nat) (bA : Option Addr) (bC : Nat) (hin : LineIn l az) (htr : trackOk l.Track = true) :
    FnV Tryz.prog 111 [(Value.agg (LineV.cells (LineV.mk (TrackV.mk (Slc.mk kA l.Track.length kC)) l.Fast (Slc.mk cA l.Clocks.length cC) (Slc.mk bA l.Beams.length bC) l.Finish l.Fakes l.Misses)).toArray)] [(rd kA l.Track.length 9 (l.Track.map StretchV.cells)), (rd cA l.Clocks.length 2 (List.zipWith ClockM.cells l.Clocks az)), (bun (nest ClockM.rds l.Clocks az)), (rd bA l.Beams.length 4 (l.Beams.map BeamV.cells))] (Value.bool (decide (∀ b ∈ l.Beams, BeamOk l b))) := by
 have htk := hin.trk
 have hck := hin.cks
 have has := hin.as_
 have hbm := hin.bms
 refine fnV_of go111 Tryz.func111 rfl rfl fun w0 Q hQ hN => ?_
 try dsimp only
 refine WS fun _ hK1 => BXA rfl fun b2 => rS (AG rfl) <| RK hK1 <| WS fun _ hK3 => rS (FA 3 rfl fo28_3 rfl) <| rS (L1 (Value.slice bA l.Beams.length bC) 0 rfl tk26 rfl rfl) <| rS (FU rfl) <| rS (CL (containsbm_c l.Beams bA bC (Value.func (.func 113) [].toArray [(Value.pointer (some ⟨b2, 0, none⟩))].toArray) (fun u4 => (!(decide (BeamOk l u4)))) (bun [(rd kA l.Track.length 9 (l.Track.map StretchV.cells)), (rd cA l.Clocks.length 2 (List.zipWith ClockM.cells l.Clocks az)), (bun (nest ClockM.rds l.Clocks az)), (rd bA l.Beams.length 4 (l.Beams.map BeamV.cells)), (blk b2 28 (LineV.cells (LineV.mk (TrackV.mk (Slc.mk kA l.Track.length kC)) l.Fast (Slc.mk cA l.Clocks.length cC) (Slc.mk bA l.Beams.length bC) l.Finish l.Fakes l.Misses)))]) (by intro u4 _; exact clo_of (fi := []) (ca := [(Value.pointer (some ⟨b2, 0, none⟩))]) (fnV_bun (spot_c u4 l kA kC az cA cC bA bC b2 (by first | assumption | omega) (by first | assumption | omega)) (ha_at 0 rfl rfl <| ha_at 1 rfl rfl <| ha_at 2 rfl rfl <| ha_at 3 rfl rfl <| ha_at 4 rfl rfl <| ha_nil))) (by first | assumption | omega | (simp; done) | (simp; omega))) (ha_at 4 rfl rfl <| ha_cons (has_bun (ha_at 1 rfl rfl <| ha_at 2 rfl rfl <| ha_at 3 rfl rfl <| ha_at 4 rfl rfl <| ha_at 0 rfl rfl <| ha_nil)) <| ha_nil) rfl) <| rS (NT rfl) ?_
 refine rS (AG rfl) <| RK hK3 <| w_ret <| Q1 hQ rfl rfl rfl ?_
 exact congrArg Value.bool (by rw [Bool.eq_iff_iff, decide_eq_true_eq]; exact beams_any)
set_option maxRecDepth 100000 in
set_option maxHeartbeats 400000 in
theorem way_c (l : LineM) (kA : Option Addr) (kC : Nat) (az : List RA) (cA : Option Addr) (cC : Nat) (bA : Option Addr) (bC : Nat) (n : Int) (hin : LineIn l az) (htr : trackOk l.Track = true) (hbk : ∀ b ∈ l.Beams, BeamOk l b) (hn : 0 ≤ n ∧ n < (l.Beams.length : Int)) :
    FnV Tryz.prog 59 [(Value.agg (LineV.cells (LineV.mk (TrackV.mk (Slc.mk kA l.Track.length kC)) l.Fast (Slc.mk cA l.Clocks.length cC) (Slc.mk bA l.Beams.length bC) l.Finish l.Fakes l.Misses)).toArray), (Value.int .i64 n)] [(rd kA l.Track.length 9 (l.Track.map StretchV.cells)), (rd cA l.Clocks.length 2 (List.zipWith ClockM.cells l.Clocks az)), (bun (nest ClockM.rds l.Clocks az)), (rd bA l.Beams.length 4 (l.Beams.map BeamV.cells))] (Value.int .i64 (wayF l n.toNat)) := by
 have htk := hin.trk
 have hck := hin.cks
 have has := hin.as_
 have hbm := hin.bms
 have hsd := hin.side
 refine fnV_of go59 Tryz.func59 rfl rfl fun w0 Q hQ hN => ?_
 try dsimp only
 refine WS fun _ hK1 => BXA rfl fun b2 => rS (AG rfl) <| RK hK1 <| WS fun _ hK3 => rS (FA 3 rfl fo28_3 rfl) <| rS (L1 (Value.slice bA l.Beams.length bC) 0 rfl tk26 rfl rfl) <| rS (MV rfl) ?_
 obtain ⟨x, hx⟩ : ∃ y_, l.Beams[(n).toNat]? = some y_ := ⟨l.Beams[(n).toNat]'(by omega), List.getElem?_eq_getElem _⟩
 have hxm : (l.Beams.map BeamV.cells)[(n).toNat]? = some (BeamV.cells x) := by rw [List.getElem?_map, hx]; rfl
 refine rS (IA ((n).toNat) rfl (has_at 4 rfl) te26 (by decide) (by omega) (by omega)) <| rS (FAR (((n).toNat) * 4) rfl (has_at 4 rfl) (Nat.mul_pos (by omega) (by decide)) fo101_0 rfl) <| rS (LEN ((n).toNat) 0 (SpotV.cells x.Spot) rfl tk99 (has_at 4 rfl) hxm rfl (by decide) rfl rfl) <| AL rfl tz99 fun b4 => SW0 rfl ts99 rfl <| RK hK3 <| WS fun _ hK5 => rS (FA 0 rfl fo28_0 rfl) <| rS (LP (TrackV.cells (TrackV.mk (Slc.mk kA l.Track.length kC))) 1 rfl tk24 rfl rfl rfl) <| rS (LW 0 rfl tk99 rfl rfl) ?_
 refine rS (CL (At_c l.Track kA kC x.Spot (by first | assumption | omega | (simp; done) | (simp; omega)) (by first | assumption | omega | (simp; done) | (simp; omega))) (ha_at 2 rfl rfl <| ha_nil) rfl) <| rS (MV rfl) <| rS (EX rfl) <| rS (EX rfl) <| AL rfl tz47 fun b6 => SW0 rfl ts47 rfl <| rS (AG rfl) <| RK hK5 <| w_seq fun _ hK7 => WS fun _ hK8 => ?_
 refine rS (MV rfl) <| rS (BI rfl b_gtr) <| RK hK8 ?_
 refine w_if rfl (fun h22 => ?_) (fun h22 => ?_)
 rotate_left 1
 · replace h22 := DF h22
   refine WK hK7 <| WS fun _ hK11 => rS (FA 0 rfl fo47_0 rfl) <| rS (L1 (Value.int .i64 ((atV l.Track x.Spot).Lo)) 0 rfl tk3 rfl rfl) <| rS (AG rfl) <| RK hK11 <| w_ret <| Q1 hQ rfl rfl rfl ?_
   first | (refine congrArg (Value.int .i64) ?_; rw [wayF_pos (by omega) hx (by rw [show n.toNat - 1 = (n - 1).toNat by omega]; exact hy), (apart_in htr ⟨(hbk _ (List.mem_of_getElem? hy)).1, (hbk _ (List.mem_of_getElem? hx)).1⟩).2]) | (refine congrArg (Value.int .i64) ?_; rw [show n.toNat = 0 by omega] at hx ⊢; rw [wayF_zero hx, (at_in htr (hbk _ (List.mem_of_getElem? hx)).1).2])
 replace h22 := DT h22
 refine w_draw4 mixed [0, 1, 2, 3, 4, 5, 6, 7, 8, 9, 10, 11, 12, 13] [14] [false, false, false, false, false, false, false, false, false, false, false, false, false, false] [false] [(blk b4 99 (SpotV.cells x.Spot)), (blk b2 28 (LineV.cells (LineV.mk (TrackV.mk (Slc.mk kA l.Track.length kC)) l.Fast (Slc.mk cA l.Clocks.length cC) (Slc.mk bA l.Beams.length bC) l.Finish l.Fakes l.Misses))), (rd kA l.Track.length 9 (l.Track.map StretchV.cells)).ro, (rd cA l.Clocks.length 2 (List.zipWith ClockM.cells l.Clocks az)).ro, (bun (nest ClockM.rds l.Clocks az)).ro, (rd bA l.Beams.length 4 (l.Beams.map BeamV.cells)).ro] [] (by kernel_rfl) (fun w hs => St.sel [1, 2, 3, 4, 5, 6] rfl rfl hs) (fun w hs => St.sel [] rfl rfl hs) <| eS rfl (FA 0 rfl fo28_0 rfl) <| eS rfl (LP (TrackV.cells (TrackV.mk (Slc.mk kA l.Track.length kC))) 1 rfl tk24 rfl rfl rfl) <| eS rfl (FA 3 rfl fo28_3 rfl) <| eS rfl (L1 (Value.slice bA l.Beams.length bC) 1 rfl tk26 rfl rfl) <| eS rfl (MV rfl) <| eS rfl (BI rfl (b_sub ⟨by omega, by omega⟩)) ?_
 obtain ⟨y, hy⟩ : ∃ y_, l.Beams[((n - 1)).toNat]? = some y_ := ⟨l.Beams[((n - 1)).toNat]'(by omega), List.getElem?_eq_getElem _⟩
 have hym : (l.Beams.map BeamV.cells)[((n - 1)).toNat]? = some (BeamV.cells y) := by rw [List.getElem?_map, hy]; rfl
 refine eS rfl (IA (((n - 1)).toNat) rfl (has_at 5 rfl) te26 (by decide) (by omega) (by omega)) <| eS rfl (FAR ((((n - 1)).toNat) * 4) rfl (has_at 5 rfl) (Nat.mul_pos (by omega) (by decide)) fo101_0 rfl) <| eS rfl (LEN (((n - 1)).toNat) 0 (SpotV.cells y.Spot) rfl tk99 (has_at 5 rfl) hym rfl (by decide) rfl rfl) <| eS rfl (LW 0 rfl tk99 rfl rfl) <| eS rfl (CL (Apart_c l.Track kA kC y.Spot x.Spot (by first | assumption | omega | (simp; done) | (simp; omega)) (by first | assumption | omega | (simp; done) | (simp; omega))) (ha_at 2 rfl rfl <| ha_nil) rfl) <| eS rfl (MV rfl) <| eS rfl (EX rfl) <| eS rfl (EX rfl) <| d_fin rfl <| t_cons rfl fun T9 hT9 => ?_
 refine SW0 rfl ts47 rfl <| RN hT9 [1, 2, 3, 4, 5, 6] rfl rfl <| t_fin rfl <| KK hK7 <| WS fun _ hK10 => rS (FA 0 rfl fo47_0 rfl) <| rS (L1 (Value.int .i64 ((apartV l.Track y.Spot x.Spot).Lo)) 0 rfl tk3 rfl rfl) <| rS (AG rfl) <| RK hK10 <| w_ret ?_
 refine Q1 hQ rfl rfl rfl ?_
 first | (refine congrArg (Value.int .i64) ?_; rw [wayF_pos (by omega) hx (by rw [show n.toNat - 1 = (n - 1).toNat by omega]; exact hy), (apart_in htr ⟨(hbk _ (List.mem_of_getElem? hy)).1, (hbk _ (List.mem_of_getElem? hx)).1⟩).2]) | (refine congrArg (Value.int .i64) ?_; rw [show n.toNat = 0 by omega] at hx ⊢; rw [wayF_zero hx, (at_in htr (hbk _ (List.mem_of_getElem? hx)).1).2])
set_option maxRecDepth 100000 in
set_option maxHeartbeats 400000 in
theorem ask4_c (l : LineM) (kA : Option Addr) (kC : Nat) (az : List RA) (cA : Option Addr) (cC : Nat) (bA : Option Addr) (bC : Nat) (hin : LineIn l az) (htr : trackOk l.Track = true) (hbk : ∀ b ∈ l.Beams, BeamOk l b) :
    FnV Tryz.prog 114 [(Value.agg (LineV.cells (LineV.mk (TrackV.mk (Slc.mk kA l.Track.length kC)) l.Fast (Slc.mk cA l.Clocks.length cC) (Slc.mk bA l.Beams.length bC) l.Finish l.Fakes l.Misses)).toArray)] [(rd kA l.Track.length 9 (l.Track.map StretchV.cells)), (rd cA l.Clocks.length 2 (List.zipWith ClockM.cells l.Clocks az)), (bun (nest ClockM.rds l.Clocks az)), (rd bA l.Beams.length 4 (l.Beams.map BeamV.cells))] (Value.bool (decide (∀ i, i < l.Beams.length → 1 ≤ wayF l i))) := by
 have htk := hin.trk
 have hck := hin.cks
 have has := hin.as_
 have hbm := hin.bms
 refine fnV_of go114 Tryz.func114 rfl rfl fun w0 Q hQ hN => ?_
 try dsimp only
 refine WS fun _ hK1 => BXA rfl fun b2 => rS (AG rfl) <| RK hK1 <| w_seq fun _ hK3 => WS fun _ hK4 => rS (FA 3 rfl fo28_3 rfl) <| rS (L1 (Value.slice bA l.Beams.length bC) 0 rfl tk26 rfl rfl) <| rS (LN rfl ut26) <| rS (MV rfl) ?_
 refine RK hK4 <| w_block ?_
 have hinit : (0 ≤ l.Beams.length) ∧ (∀ j, j < 0 → 1 ≤ wayF l j) := by exact ⟨Nat.zero_le _, fun j hj => absurd hj (Nat.not_lt_zero _)⟩
 refine w_loop (ι := { z : Nat // (z ≤ l.Beams.length) ∧ (∀ j, j < z → 1 ≤ wayF l j) }) (fun z => [(1, (Value.pointer (some ⟨b2, 0, none⟩))), (6, (Value.int .i64 ((l.Beams.length : Nat) : Int))), (7, (Value.int .i64 ((z.1 : Nat) : Int)))]) (fun z => [(blk b2 28 (LineV.cells (LineV.mk (TrackV.mk (Slc.mk kA l.Track.length kC)) l.Fast (Slc.mk cA l.Clocks.length cC) (Slc.mk bA l.Beams.length bC) l.Finish l.Fakes l.Misses))), (rd kA l.Track.length 9 (l.Track.map StretchV.cells)).ro, (rd cA l.Clocks.length 2 (List.zipWith ClockM.cells l.Clocks az)).ro, (bun (nest ClockM.rds l.Clocks az)).ro, (rd bA l.Beams.length 4 (l.Beams.map BeamV.cells)).ro]) (fun z => l.Beams.length - z.1) ⟨0, hinit⟩ (Sub.cons rfl <| Sub.cons rfl <| Sub.cons rfl <| Sub.nil _) (fun w hs => St.sel [0, 1, 2, 3, 4] rfl rfl hs) ?_
 clear hinit
 rintro ⟨i, ⟨hl0_0, hl0_1⟩⟩ J5 hJ5
 try dsimp only
 refine WS fun _ hK6 => rS (BI rfl b_lss) <| RK hK6 <| w_seq fun _ hK7 => ?_
 refine w_if rfl (fun h8 => ?_) (fun h8 => ?_)
 rotate_left 1
 · replace h8 := DF h8
   refine w_exit <| k_exit_then <| k_exit_then <| k_exit_same <| KK hK3 <| WS fun _ hK14 => rS (AG rfl) <| RK hK14 <| w_ret <| Q1 hQ rfl rfl rfl ?_
   first | exact congrArg Value.bool (decide_eq_false (fun h => by have := h i (by omega); simp only [Int.toNat_natCast] at h13; omega)).symm | exact congrArg Value.bool (decide_eq_true (fun j hj => hl0_1 j (by omega))).symm
 replace h8 := DT h8
 refine WK hK7 <| w_seq fun _ hK9 => w_block <| WS fun _ hK10 => rS (MV rfl) <| rS (AG rfl) <| RK hK10 <| WS fun _ hK11 => rS (LW 0 rfl tk28 rfl rfl) <| rS (MV rfl) ?_
 refine rS (CL (way_c l kA kC az cA cC bA bC ((i : Nat) : Int) hin htr hbk (by first | assumption | omega | (simp; done) | (simp; omega))) (ha_at 1 rfl rfl <| ha_at 2 rfl rfl <| ha_at 3 rfl rfl <| ha_at 4 rfl rfl <| ha_nil) rfl) <| rS (BI rfl b_lss) <| RK hK11 ?_
 refine w_if rfl (fun h13 => ?_) (fun h13 => ?_)
 · replace h13 := DT h13
   refine WS fun _ hK12 => rS (AG rfl) <| RK hK12 <| w_ret <| Q1 hQ rfl rfl rfl ?_
   first | exact congrArg Value.bool (decide_eq_false (fun h => by have := h i (by omega); simp only [Int.toNat_natCast] at h13; omega)).symm | exact congrArg Value.bool (decide_eq_true (fun j hj => hl0_1 j (by omega))).symm
 replace h13 := DF h13
 refine w_skip <| k_block <| KK hK9 <| w_region <| rS (BI rfl (b_add ⟨by omega, by omega⟩)) <| rS (MV rfl) <| r_nil ?_
 have hb13 : (Value.int .i64 (((i + 1) : Nat) : Int)) = (Value.int .i64 (((i : Nat) : Int) + 1)) := by exact congrArg (Value.int .i64) (by omega)
 refine k_then (hJ5 ⟨(i + 1), ⟨by omega, fun j hj => by rcases Nat.lt_or_ge j i with q | q; exact hl0_1 j q; (obtain rfl : j = i := by omega); simp only [Int.toNat_natCast] at h13; omega⟩⟩ _ _ _ rfl (by first | omega | (simp; omega)) (Sub.cons rfl <| Sub.cons rfl <| sub_val rfl hb13 <| Sub.nil _) (fun w hs => St.sel [0, 1, 2, 3, 4] rfl rfl hs))
end
section
open Go.RowKit
set_option linter.unusedVariables false
set_option maxRecDepth 100000 in
set_option maxHeartbeats 400000 in
theorem asks_c  :
    FnV Tryz.prog 77 [] [] (Value.agg ((T144V.cells (T144V.mk (Value.func (.func 106) [].toArray [].toArray))) ++ (T144V.cells (T144V.mk (Value.func (.func 107) [].toArray [].toArray))) ++ (T144V.cells (T144V.mk (Value.func (.func 111) [].toArray [].toArray))) ++ (T144V.cells (T144V.mk (Value.func (.func 114) [].toArray [].toArray)))).toArray) := by
 refine fnV_of go77 Tryz.func77 rfl rfl fun w0 Q hQ hN => ?_
 try dsimp only
 refine WS fun _ hK1 => AL rfl tz145 fun b2 => RK hK1 <| WS fun _ hK3 => rS (SX (sd_build (xs := [(0, .func 106)]) (cs := (T144V.cells (T144V.mk (Value.func (.func 106) [].toArray [].toArray)))) rfl rfl (built_of tb144 rfl)) rfl rfl) <| rS (SX (sd_build (xs := [(0, .func 107)]) (cs := (T144V.cells (T144V.mk (Value.func (.func 107) [].toArray [].toArray)))) rfl rfl (built_of tb144 rfl)) rfl rfl) <| rS (SX (sd_build (xs := [(0, .func 111)]) (cs := (T144V.cells (T144V.mk (Value.func (.func 111) [].toArray [].toArray)))) rfl rfl (built_of tb144 rfl)) rfl rfl) <| rS (SX (sd_build (xs := [(0, .func 114)]) (cs := (T144V.cells (T144V.mk (Value.func (.func 114) [].toArray [].toArray)))) rfl rfl (built_of tb144 rfl)) rfl rfl) <| rS (SX (sd_build (xs := [(0, .tmp 1), (1, .tmp 2), (2, .tmp 3), (3, .tmp 4)]) (cs := ((T144V.cells (T144V.mk (Value.func (.func 106) [].toArray [].toArray))) ++ (T144V.cells (T144V.mk (Value.func (.func 107) [].toArray [].toArray))) ++ (T144V.cells (T144V.mk (Value.func (.func 111) [].toArray [].toArray))) ++ (T144V.cells (T144V.mk (Value.func (.func 114) [].toArray [].toArray))))) rfl rfl (built_of tb145 rfl)) rfl rfl) <| SW0 rfl ts145 rfl ?_
 refine RK hK3 <| w_ret ?_
 refine hQ _ _ _ (l_nil (vs := [(Value.agg ((T144V.cells (T144V.mk (Value.func (.func 106) [].toArray [].toArray))) ++ (T144V.cells (T144V.mk (Value.func (.func 107) [].toArray [].toArray))) ++ (T144V.cells (T144V.mk (Value.func (.func 111) [].toArray [].toArray))) ++ (T144V.cells (T144V.mk (Value.func (.func 114) [].toArray [].toArray)))).toArray)]) ⟨⟨_, rfl, .inl ⟨_, _, tk145, at_blk (vs := ((T144V.cells (T144V.mk (Value.func (.func 106) [].toArray [].toArray))) ++ (T144V.cells (T144V.mk (Value.func (.func 107) [].toArray [].toArray))) ++ (T144V.cells (T144V.mk (Value.func (.func 111) [].toArray [].toArray))) ++ (T144V.cells (T144V.mk (Value.func (.func 114) [].toArray [].toArray))))) 0 rfl rfl, rfl, rfl⟩⟩, trivial⟩ fun w hs => endV ?_ hs)
 show (Value.agg ((T144V.cells (T144V.mk (Value.func (.func 106) [].toArray [].toArray))) ++ (T144V.cells (T144V.mk (Value.func (.func 107) [].toArray [].toArray))) ++ (T144V.cells (T144V.mk (Value.func (.func 111) [].toArray [].toArray))) ++ (T144V.cells (T144V.mk (Value.func (.func 114) [].toArray [].toArray)))).toArray) = (Value.agg ((T144V.cells (T144V.mk (Value.func (.func 106) [].toArray [].toArray))) ++ (T144V.cells (T144V.mk (Value.func (.func 107) [].toArray [].toArray))) ++ (T144V.cells (T144V.mk (Value.func (.func 111) [].toArray [].toArray))) ++ (T144V.cells (T144V.mk (Value.func (.func 114) [].toArray [].toArray)))).toArray)
 clear hs w hQ hN hK3 hK1
 rfl
set_option maxRecDepth 100000 in
set_option maxHeartbeats 400000 in
theorem lcheck_c (l : LineM) (kA : Option Addr) (kC : Nat) (az : List RA) (cA : Option Addr) (cC : Nat) (bA : Option Addr) (bC : Nat) (hin : LineIn l az) :
    FnV Tryz.prog 57 [(Value.agg (LineV.cells (LineV.mk (TrackV.mk (Slc.mk kA l.Track.length kC)) l.Fast (Slc.mk cA l.Clocks.length cC) (Slc.mk bA l.Beams.length bC) l.Finish l.Fakes l.Misses)).toArray)] [(rd kA l.Track.length 9 (l.Track.map StretchV.cells)), (rd cA l.Clocks.length 2 (List.zipWith ClockM.cells l.Clocks az)), (bun (nest ClockM.rds l.Clocks az)), (rd bA l.Beams.length 4 (l.Beams.map BeamV.cells))] (Value.int .i64 (lineE l)) := by
 have htk := hin.trk
 have hck := hin.cks
 have has := hin.as_
 have hbm := hin.bms
 have hsd := hin.side
 refine fnV_of go57 Tryz.func57 rfl rfl fun w0 Q hQ hN => ?_
 try dsimp only
 refine WS fun _ hK1 => BXA rfl fun b2 => rS (AG rfl) <| RK hK1 <| w_seq fun _ hK3 => WS fun _ hK4 => rS (FA 0 rfl fo28_0 rfl) <| rS (LP (TrackV.cells (TrackV.mk (Slc.mk kA l.Track.length kC))) 0 rfl tk24 rfl rfl rfl) <| rS (CL (tcheck_c l.Track kA kC (by first | assumption | omega | (simp; done) | (simp; omega)) (by first | assumption | omega | (simp; done) | (simp; omega))) (ha_at 1 rfl rfl <| ha_nil) rfl) <| rS (AG rfl) ?_
 refine RK hK4 <| WS fun _ hK5 => rS (MV rfl) <| rS (BI rfl b_neq) <| RK hK5 ?_
 refine w_if rfl (fun h10 => ?_) (fun h10 => ?_)
 · replace h10 := XT h10
   refine WS fun _ hK6 => rS (MV rfl) <| rS (AG rfl) <| RK hK6 <| w_ret <| Q1 hQ rfl rfl rfl ?_
   first | (refine congrArg (Value.int .i64) ?_; rw [(tr_no h10).2, lineE_bad (tr_no h10).1]) | exact congrArg (Value.int .i64) (lineE_no htr fun h => absurd h.head (by assumption)).symm | exact congrArg (Value.int .i64) (lineE_no htr fun h => absurd h.clock (by assumption)).symm | exact congrArg (Value.int .i64) (lineE_no htr fun h => absurd h.beam (by assumption)).symm | exact congrArg (Value.int .i64) (lineE_no htr fun h => absurd h.way (by assumption)).symm | exact congrArg (Value.int .i64) (lineE_ok htr (line_head (by assumption) (by assumption) (by assumption) (by assumption))).symm
 replace h10 := XF h10
 refine WK hK3 <| w_seq fun _ hK7 => WS fun _ hK8 => ?_
 have htr := tr_yes h10
 refine rS (CL asks_c (ha_nil) rfl) <| rS (MV rfl) <| RK hK8 <| w_block <| w_rounds 5 <| ro_succ fun R9 hR9 => WS fun _ hK10 => rS (SX (sd_bin (r := .bool true) rfl rfl rfl b_lss) rfl rfl) <| RK hK10 <| w_seq fun _ hK11 => ?_
 refine w_if_true rfl <| WK hK11 <| w_seq fun _ hK12 => w_block <| WS fun _ hK13 => rS (SX (sd_index (vs := (T144V.cells (T144V.mk (Value.func (.func 106) [].toArray [].toArray)))) 0 rfl rfl rfl tx145 tk144 rfl (by decide) rfl) rfl rfl) <| AL rfl tz144 fun b14 => SW0 rfl ts144 rfl <| RK hK13 <| WS fun _ hK15 => ?_
 refine rS (FA 0 rfl fo144_0 rfl) <| rS (L1 (Value.func (.func 106) [].toArray [].toArray) 0 rfl tk32 rfl rfl) <| rS (LW 1 rfl tk28 rfl rfl) <| rS (CL (ask1_c l kA kC az cA cC bA bC hin) (ha_at 2 rfl rfl <| ha_at 3 rfl rfl <| ha_at 4 rfl rfl <| ha_at 5 rfl rfl <| ha_nil) rfl) <| rS (NT rfl) <| RK hK15 ?_
 refine w_if rfl (fun h16 => ?_) (fun h16 => ?_)
 · replace h16 := XT h16
   refine WS fun _ hK17 => rS (AG rfl) <| RK hK17 <| w_ret <| Q1 hQ rfl rfl rfl ?_
   first | (refine congrArg (Value.int .i64) ?_; rw [(tr_no h10).2, lineE_bad (tr_no h10).1]) | exact congrArg (Value.int .i64) (lineE_no htr fun h => absurd h.head (by assumption)).symm | exact congrArg (Value.int .i64) (lineE_no htr fun h => absurd h.clock (by assumption)).symm | exact congrArg (Value.int .i64) (lineE_no htr fun h => absurd h.beam (by assumption)).symm | exact congrArg (Value.int .i64) (lineE_no htr fun h => absurd h.way (by assumption)).symm | exact congrArg (Value.int .i64) (lineE_ok htr (line_head (by assumption) (by assumption) (by assumption) (by assumption))).symm
 replace h16 := XF h16
 refine w_skip <| k_block <| KK hK12 <| w_region <| rS (SX (sd_bin (r := .int .i64 1) rfl rfl rfl (b_add ⟨by decide, by decide⟩)) rfl rfl) <| rS (MV rfl) <| RK hR9 <| ro_succ fun R18 hR18 => WS fun _ hK19 => rS (SX (sd_bin (r := .bool true) rfl rfl rfl b_lss) rfl rfl) ?_
 refine RK hK19 <| w_seq fun _ hK20 => w_if_true rfl <| WK hK20 <| w_seq fun _ hK21 => w_block <| WS fun _ hK22 => rS (SX (sd_index (vs := (T144V.cells (T144V.mk (Value.func (.func 107) [].toArray [].toArray)))) 1 rfl rfl rfl tx145 tk144 rfl (by decide) rfl) rfl rfl) <| AL rfl tz144 fun b23 => SW0 rfl ts144 rfl ?_
 refine RK hK22 <| WS fun _ hK24 => rS (FA 0 rfl fo144_0 rfl) <| rS (L1 (Value.func (.func 107) [].toArray [].toArray) 0 rfl tk32 rfl rfl) <| rS (LW 2 rfl tk28 rfl rfl) <| rS (CL (ask2_c l kA kC az cA cC bA bC hin) (ha_at 3 rfl rfl <| ha_at 4 rfl rfl <| ha_at 5 rfl rfl <| ha_at 6 rfl rfl <| ha_nil) rfl) <| rS (NT rfl) <| RK hK24 ?_
 refine w_if rfl (fun h25 => ?_) (fun h25 => ?_)
 · replace h25 := XT h25
   refine WS fun _ hK26 => rS (AG rfl) <| RK hK26 <| w_ret <| Q1 hQ rfl rfl rfl ?_
   first | (refine congrArg (Value.int .i64) ?_; rw [(tr_no h10).2, lineE_bad (tr_no h10).1]) | exact congrArg (Value.int .i64) (lineE_no htr fun h => absurd h.head (by assumption)).symm | exact congrArg (Value.int .i64) (lineE_no htr fun h => absurd h.clock (by assumption)).symm | exact congrArg (Value.int .i64) (lineE_no htr fun h => absurd h.beam (by assumption)).symm | exact congrArg (Value.int .i64) (lineE_no htr fun h => absurd h.way (by assumption)).symm | exact congrArg (Value.int .i64) (lineE_ok htr (line_head (by assumption) (by assumption) (by assumption) (by assumption))).symm
 replace h25 := XF h25
 refine w_skip <| k_block <| KK hK21 <| w_region <| rS (SX (sd_bin (r := .int .i64 2) rfl rfl rfl (b_add ⟨by decide, by decide⟩)) rfl rfl) <| rS (MV rfl) <| RK hR18 <| ro_succ fun R27 hR27 => WS fun _ hK28 => rS (SX (sd_bin (r := .bool true) rfl rfl rfl b_lss) rfl rfl) ?_
 refine RK hK28 <| w_seq fun _ hK29 => w_if_true rfl <| WK hK29 <| w_seq fun _ hK30 => w_block <| WS fun _ hK31 => rS (SX (sd_index (vs := (T144V.cells (T144V.mk (Value.func (.func 111) [].toArray [].toArray)))) 2 rfl rfl rfl tx145 tk144 rfl (by decide) rfl) rfl rfl) <| AL rfl tz144 fun b32 => SW0 rfl ts144 rfl ?_
 refine RK hK31 <| WS fun _ hK33 => rS (FA 0 rfl fo144_0 rfl) <| rS (L1 (Value.func (.func 111) [].toArray [].toArray) 0 rfl tk32 rfl rfl) <| rS (LW 3 rfl tk28 rfl rfl) <| rS (CL (ask3_c l kA kC az cA cC bA bC hin (by first | assumption | omega | (simp; done) | (simp; omega))) (ha_at 4 rfl rfl <| ha_at 5 rfl rfl <| ha_at 6 rfl rfl <| ha_at 7 rfl rfl <| ha_nil) rfl) <| rS (NT rfl) <| RK hK33 ?_
 refine w_if rfl (fun h34 => ?_) (fun h34 => ?_)
 · replace h34 := XT h34
   refine WS fun _ hK35 => rS (AG rfl) <| RK hK35 <| w_ret <| Q1 hQ rfl rfl rfl ?_
   first | (refine congrArg (Value.int .i64) ?_; rw [(tr_no h10).2, lineE_bad (tr_no h10).1]) | exact congrArg (Value.int .i64) (lineE_no htr fun h => absurd h.head (by assumption)).symm | exact congrArg (Value.int .i64) (lineE_no htr fun h => absurd h.clock (by assumption)).symm | exact congrArg (Value.int .i64) (lineE_no htr fun h => absurd h.beam (by assumption)).symm | exact congrArg (Value.int .i64) (lineE_no htr fun h => absurd h.way (by assumption)).symm | exact congrArg (Value.int .i64) (lineE_ok htr (line_head (by assumption) (by assumption) (by assumption) (by assumption))).symm
 replace h34 := XF h34
 refine w_skip <| k_block <| KK hK30 <| w_region <| rS (SX (sd_bin (r := .int .i64 3) rfl rfl rfl (b_add ⟨by decide, by decide⟩)) rfl rfl) <| rS (MV rfl) <| RK hR27 <| ro_succ fun R36 hR36 => WS fun _ hK37 => rS (SX (sd_bin (r := .bool true) rfl rfl rfl b_lss) rfl rfl) ?_
 refine RK hK37 <| w_seq fun _ hK38 => w_if_true rfl <| WK hK38 <| w_seq fun _ hK39 => w_block <| WS fun _ hK40 => rS (SX (sd_index (vs := (T144V.cells (T144V.mk (Value.func (.func 114) [].toArray [].toArray)))) 3 rfl rfl rfl tx145 tk144 rfl (by decide) rfl) rfl rfl) <| AL rfl tz144 fun b41 => SW0 rfl ts144 rfl ?_
 refine RK hK40 <| WS fun _ hK42 => rS (FA 0 rfl fo144_0 rfl) <| rS (L1 (Value.func (.func 114) [].toArray [].toArray) 0 rfl tk32 rfl rfl) <| rS (LW 4 rfl tk28 rfl rfl) <| rS (CL (ask4_c l kA kC az cA cC bA bC hin (by first | assumption | omega | (simp; done) | (simp; omega)) (by first | assumption | omega | (simp; done) | (simp; omega))) (ha_at 5 rfl rfl <| ha_at 6 rfl rfl <| ha_at 7 rfl rfl <| ha_at 8 rfl rfl <| ha_nil) rfl) <| rS (NT rfl) <| RK hK42 ?_
 refine w_if rfl (fun h43 => ?_) (fun h43 => ?_)
 · replace h43 := XT h43
   refine WS fun _ hK44 => rS (AG rfl) <| RK hK44 <| w_ret <| Q1 hQ rfl rfl rfl ?_
   first | (refine congrArg (Value.int .i64) ?_; rw [(tr_no h10).2, lineE_bad (tr_no h10).1]) | exact congrArg (Value.int .i64) (lineE_no htr fun h => absurd h.head (by assumption)).symm | exact congrArg (Value.int .i64) (lineE_no htr fun h => absurd h.clock (by assumption)).symm | exact congrArg (Value.int .i64) (lineE_no htr fun h => absurd h.beam (by assumption)).symm | exact congrArg (Value.int .i64) (lineE_no htr fun h => absurd h.way (by assumption)).symm | exact congrArg (Value.int .i64) (lineE_ok htr (line_head (by assumption) (by assumption) (by assumption) (by assumption))).symm
 replace h43 := XF h43
 refine w_skip <| k_block <| KK hK39 <| w_region <| rS (SX (sd_bin (r := .int .i64 4) rfl rfl rfl (b_add ⟨by decide, by decide⟩)) rfl rfl) <| rS (MV rfl) <| RK hR36 <| ro_succ fun R45 hR45 => WS fun _ hK46 => rS (SX (sd_bin (r := .bool false) rfl rfl rfl b_lss) rfl rfl) ?_
 refine RK hK46 <| w_seq fun _ hK47 => w_if_false rfl <| w_exit <| k_exit_then <| k_exit_then <| k_exit_same <| KK hK7 <| WS fun _ hK48 => rS (AG rfl) ?_
 refine RK hK48 <| w_ret <| Q1 hQ rfl rfl rfl ?_
 first | (refine congrArg (Value.int .i64) ?_; rw [(tr_no h10).2, lineE_bad (tr_no h10).1]) | exact congrArg (Value.int .i64) (lineE_no htr fun h => absurd h.head (by assumption)).symm | exact congrArg (Value.int .i64) (lineE_no htr fun h => absurd h.clock (by assumption)).symm | exact congrArg (Value.int .i64) (lineE_no htr fun h => absurd h.beam (by assumption)).symm | exact congrArg (Value.int .i64) (lineE_no htr fun h => absurd h.way (by assumption)).symm | exact congrArg (Value.int .i64) (lineE_ok htr (line_head (by assumption) (by assumption) (by assumption) (by assumption))).symm
set_option maxRecDepth 100000 in
set_option maxHeartbeats 400000 in
theorem Ahead_c (l : LineM) (kA : Option Addr) (kC : Nat) (az : List RA) (cA : Option Addr) (cC : Nat) (bA : Option Addr) (bC : Nat) (ck : Int) (at_ : Int) (hin : LineIn l az) :
    FnV Tryz.prog 56 [(Value.agg (LineV.cells (LineV.mk (TrackV.mk (Slc.mk kA l.Track.length kC)) l.Fast (Slc.mk cA l.Clocks.length cC) (Slc.mk bA l.Beams.length bC) l.Finish l.Fakes l.Misses)).toArray), (Value.int .i64 ck), (Value.int .i64 at_)] [(rd kA l.Track.length 9 (l.Track.map StretchV.cells)), (rd cA l.Clocks.length 2 (List.zipWith ClockM.cells l.Clocks az)), (bun (nest ClockM.rds l.Clocks az)), (rd bA l.Beams.length 4 (l.Beams.map BeamV.cells))] (Value.tuple [(Value.agg (SpanV.cells (aheadV l ck at_)).toArray), (Value.int .i64 (aheadE l ck at_))].toArray) := by
 have htk := hin.trk
 have hck := hin.cks
 have has := hin.as_
 have hbm := hin.bms
 refine fnV_of go56 Tryz.func56 rfl rfl fun w0 Q hQ hN => ?_
 try dsimp only
 refine WS fun _ hK1 => BXA rfl fun b2 => AL rfl tz47 fun b3 => rS (AG rfl) <| RK hK1 <| w_seq fun _ hK4 => WS fun _ hK5 => rS (LW 1 rfl tk28 rfl rfl) <| rS (CL (lcheck_c l kA kC az cA cC bA bC hin) (ha_at 2 rfl rfl <| ha_at 3 rfl rfl <| ha_at 4 rfl rfl <| ha_at 5 rfl rfl <| ha_nil) rfl) <| rS (AG rfl) ?_
 refine RK hK5 <| WS fun _ hK6 => rS (MV rfl) <| rS (BI rfl b_neq) <| RK hK6 ?_
 refine w_if rfl (fun h12 => ?_) (fun h12 => ?_)
 · replace h12 := XT h12
   refine WS fun _ hK7 => rS (SX (sd_build (xs := []) (cs := (SpanV.cells (SpanV.mk 0 0))) rfl rfl (built_of tb47 rfl)) rfl rfl) <| rS (MV rfl) <| SW0 rfl ts47 rfl <| rS (AG rfl) <| RK hK7 <| w_ret ?_
   refine hQ _ _ _ (l_nil (vs := [(Value.agg (SpanV.cells (SpanV.mk 0 0)).toArray), (Value.int .i64 (lineE l))]) ⟨⟨_, rfl, .inl ⟨_, _, tk47, at_blk (vs := (SpanV.cells (SpanV.mk 0 0))) 0 rfl rfl, rfl, rfl⟩⟩, rfl, trivial⟩ fun w hs => endV ?_ hs)
   show (Value.tuple [(Value.agg (SpanV.cells (SpanV.mk 0 0)).toArray), (Value.int .i64 (lineE l))].toArray) = (Value.tuple [(Value.agg (SpanV.cells (aheadV l ck at_)).toArray), (Value.int .i64 (aheadE l ck at_))].toArray)
   clear hs w hQ hN hK7 hK6 hK5 hK4 hK1
   first | (have e := ahead_bad (ck := ck) (at_ := at_) h12; rw [e.1, e.2] <;> rfl) | (have e := ahead_in (ck := ck) (at_ := at_) h12 (by omega) hx; rw [e.1, e.2] <;> rfl) | (have e := ahead_out (ck := ck) (at_ := at_) h12 (by omega); rw [e.1, e.2] <;> rfl)
 replace h12 := XF h12
 refine WK hK4 <| w_seq fun _ hK8 => WS fun _ hK9 => ?_
 obtain ⟨htr, hok⟩ := lineE_zero h12
 refine rS (FA 2 rfl fo28_2 rfl) <| rS (L1 (Value.slice cA l.Clocks.length cC) 1 rfl tk25 rfl rfl) <| rS (LN rfl ut25) <| rS (BI rfl (b_sub ⟨by omega, by omega⟩)) <| rS (MV rfl) <| r_bs (xs := [.tmp 19]) (cs := [(Value.int .i64 ck)]) rfl te35 tz3 rfl rfl rfl rfl (by simp [Value.cells]) rfl rfl fun b10 => rS (CL (FnV.eq (in_beam 0 (((l.Clocks.length : Nat) : Int) - 1) ([ck]) (some ⟨b10, 0, none⟩) 1 (by first | assumption | omega | (simp; done) | (simp; omega))) inAll_one) (ha_cons (has_rd_blk 0 rfl rfl (by simp [iC_length]) rfl) <| ha_nil) rfl) <| rS (NT rfl) <| rS (MV rfl) ?_
 refine r_bool (t := 23) rfl (fun h23 => ?_) (fun h23 => ?_)
 · replace h23 := XT h23
   refine rS (OX rfl) <| rS (OX rfl) <| rS (OX rfl) <| rS (OX rfl) <| rS (PK rfl) <| RK hK9 <| w_if_true rfl <| WS fun _ hK11 => rS (SX (sd_build (xs := []) (cs := (SpanV.cells (SpanV.mk 0 0))) rfl rfl (built_of tb47 rfl)) rfl rfl) <| SW1 rfl ts47 rfl ?_
   refine rS (AG rfl) <| RK hK11 <| w_ret ?_
   refine hQ _ _ _ (l_nil (vs := [(Value.agg (SpanV.cells (SpanV.mk 0 0)).toArray), (Value.int .i64 2)]) ⟨⟨_, rfl, .inl ⟨_, _, tk47, at_blk (vs := (SpanV.cells (SpanV.mk 0 0))) 1 rfl rfl, rfl, rfl⟩⟩, rfl, trivial⟩ fun w hs => endV ?_ hs)
   show (Value.tuple [(Value.agg (SpanV.cells (SpanV.mk 0 0)).toArray), (Value.int .i64 2)].toArray) = (Value.tuple [(Value.agg (SpanV.cells (aheadV l ck at_)).toArray), (Value.int .i64 (aheadE l ck at_))].toArray)
   clear hs w hQ hN hK11 hK9 hK8 hK6 hK5 hK4 hK1
   first | (have e := ahead_bad (ck := ck) (at_ := at_) h12; rw [e.1, e.2] <;> rfl) | (have e := ahead_in (ck := ck) (at_ := at_) h12 (by omega) hx; rw [e.1, e.2] <;> rfl) | (have e := ahead_out (ck := ck) (at_ := at_) h12 (by omega); rw [e.1, e.2] <;> rfl)
 replace h23 := XF h23
 refine rS (MV rfl) <| r_bs (xs := [.tmp 24]) (cs := [(Value.int .i64 at_)]) rfl te35 tz3 rfl rfl rfl rfl (by simp [Value.cells]) rfl rfl fun b12 => rS (CL (FnV.eq (in_beam 0 86400000 ([at_]) (some ⟨b12, 0, none⟩) 1 (by first | assumption | omega | (simp; done) | (simp; omega))) inAll_one) (ha_cons (has_rd_blk 0 rfl rfl (by simp [iC_length]) rfl) <| ha_nil) rfl) <| rS (NT rfl) <| rS (PK rfl) <| RK hK9 ?_
 refine w_if rfl (fun h28 => ?_) (fun h28 => ?_)
 · replace h28 := XT h28
   refine WS fun _ hK13 => rS (SX (sd_build (xs := []) (cs := (SpanV.cells (SpanV.mk 0 0))) rfl rfl (built_of tb47 rfl)) rfl rfl) <| SW2 rfl ts47 rfl <| rS (AG rfl) <| RK hK13 <| w_ret ?_
   refine hQ _ _ _ (l_nil (vs := [(Value.agg (SpanV.cells (SpanV.mk 0 0)).toArray), (Value.int .i64 2)]) ⟨⟨_, rfl, .inl ⟨_, _, tk47, at_blk (vs := (SpanV.cells (SpanV.mk 0 0))) 2 rfl rfl, rfl, rfl⟩⟩, rfl, trivial⟩ fun w hs => endV ?_ hs)
   show (Value.tuple [(Value.agg (SpanV.cells (SpanV.mk 0 0)).toArray), (Value.int .i64 2)].toArray) = (Value.tuple [(Value.agg (SpanV.cells (aheadV l ck at_)).toArray), (Value.int .i64 (aheadE l ck at_))].toArray)
   clear hs w hQ hN hK13 hK9 hK8 hK6 hK5 hK4 hK1
   first | (have e := ahead_bad (ck := ck) (at_ := at_) h12; rw [e.1, e.2] <;> rfl) | (have e := ahead_in (ck := ck) (at_ := at_) h12 (by omega) hx; rw [e.1, e.2] <;> rfl) | (have e := ahead_out (ck := ck) (at_ := at_) h12 (by omega); rw [e.1, e.2] <;> rfl)
 replace h28 := XF h28
 refine WK hK8 <| WS fun _ hK14 => rS (FA 2 rfl fo28_2 rfl) <| rS (L1 (Value.slice cA l.Clocks.length cC) 3 rfl tk25 rfl rfl) <| rS (MV rfl) ?_
 obtain ⟨x, hx⟩ : ∃ y_, l.Clocks[(ck).toNat]? = some y_ := ⟨l.Clocks[(ck).toNat]'(by omega), List.getElem?_eq_getElem _⟩
 obtain ⟨xa, hxa⟩ : ∃ y_, az[(ck).toNat]? = some y_ := ⟨az[(ck).toNat]'(by omega), List.getElem?_eq_getElem _⟩
 have hxm : (List.zipWith ClockM.cells l.Clocks az)[(ck).toNat]? = some (ClockM.cells x xa) := zip_get hx hxa
 refine rS (IA ((ck).toNat) rfl (has_at 5 rfl) te25 (by decide) (by omega) (by omega)) <| rS (LEN ((ck).toNat) 0 (ClockV.cells (ClockV.mk x.Drift (Slc.mk xa.1 x.Syncs.length xa.2))) rfl tk63 (has_at 5 rfl) hxm rfl (by decide) rfl rfl) <| rS (MV rfl) <| rS (CL (ahead_c x xa.1 xa.2 at_ (by exact hok.clock _ (List.mem_of_getElem? hx)) (by first | assumption | omega | (simp; done) | (simp; omega))) (ha_cons (show Has _ (rd xa.1 x.Syncs.length 3 (x.Syncs.map SyncV.cells)).holds from (has_inr 6 rfl (mem_nest hx hxa (by simp [ClockM.rds])))) <| ha_nil) rfl) <| SW2 rfl ts47 rfl <| rS (AG rfl) <| RK hK14 <| w_ret ?_
 refine hQ _ _ _ (l_nil (vs := [(Value.agg (SpanV.cells (aheadF x at_)).toArray), (Value.int .i64 0)]) ⟨⟨_, rfl, .inl ⟨_, _, tk47, at_blk (vs := (SpanV.cells (aheadF x at_))) 2 rfl rfl, rfl, rfl⟩⟩, rfl, trivial⟩ fun w hs => endV ?_ hs)
 show (Value.tuple [(Value.agg (SpanV.cells (aheadF x at_)).toArray), (Value.int .i64 0)].toArray) = (Value.tuple [(Value.agg (SpanV.cells (aheadV l ck at_)).toArray), (Value.int .i64 (aheadE l ck at_))].toArray)
 clear hs w hQ hN hK14 hK9 hK8 hK6 hK5 hK4 hK1
 first | (have e := ahead_bad (ck := ck) (at_ := at_) h12; rw [e.1, e.2] <;> rfl) | (have e := ahead_in (ck := ck) (at_ := at_) h12 (by omega) hx; rw [e.1, e.2] <;> rfl) | (have e := ahead_out (ck := ck) (at_ := at_) h12 (by omega); rw [e.1, e.2] <;> rfl)
set_option maxRecDepth 100000 in
set_option maxHeartbeats 400000 in
theorem bfirst_c (lo : Int) (hi : Int) (f : Value) (p : Int → Bool) (X : Assn) (r : Int) (hf : ∀ x0, 0 ≤ x0 ∧ x0 < hi → Clo Tryz.prog f [.int .i64 x0] [X] (.bool (p x0))) (hb : 0 ≤ lo ∧ lo ≤ r ∧ r ≤ hi ∧ hi ≤ 100000000) (hno : ∀ x, lo ≤ x → x < r → p x = false) (hyes : ∀ x, r ≤ x → x < hi → p x = true) :
    FnV Tryz.prog 80 [(Value.int .i64 lo), (Value.int .i64 hi), f] [X] (Value.int .i64 r) := by
 refine fnV_of go80 Tryz.func80 rfl rfl fun w0 Q hQ hN => ?_
 try dsimp only
 refine WS fun _ hK1 => rS (AG rfl) <| RK hK1 <| w_seq fun _ hK2 => w_block ?_
 have hinit : (lo ≤ lo ∧ lo ≤ r) ∧ (r ≤ hi ∧ hi ≤ hi) := by first | trivial | omega | (refine ⟨?_, ?_⟩ <;> first | trivial | omega | simp)
 refine w_loop (ι := { z : Int × Int // (lo ≤ z.1 ∧ z.1 ≤ r) ∧ (r ≤ z.2 ∧ z.2 ≤ hi) }) (fun z => [(0, (Value.int .i64 z.1.1)), (1, (Value.int .i64 z.1.2)), (2, f)]) (fun z => [X.ro]) (fun z => (z.1.2 - z.1.1).toNat) ⟨(lo, hi), hinit⟩ (Sub.cons rfl <| Sub.cons rfl <| Sub.cons rfl <| Sub.nil _) (fun w hs => St.sel [0] rfl rfl hs) ?_
 clear hinit
 rintro ⟨⟨a, b⟩, ⟨hl0_0, hl0_1⟩⟩ J3 hJ3
 try dsimp only at hl0_0 hl0_1
 try dsimp only
 refine w_seq fun _ hK4 => WS fun _ hK5 => rS (MV rfl) <| rS (MV rfl) <| rS (BI rfl b_lss) <| RK hK5 ?_
 refine w_if rfl (fun h6 => ?_) (fun h6 => ?_)
 rotate_left 1
 · replace h6 := DF h6
   refine w_exit <| k_exit_then <| k_exit_then <| k_exit_same <| KK hK2 <| WS fun _ hK9 => rS (MV rfl) <| rS (AG rfl) <| RK hK9 <| w_ret ?_
   refine Q1 hQ rfl rfl rfl ?_
   exact congrArg (Value.int .i64) (by omega)
 replace h6 := DT h6
 refine WK hK4 <| w_block <| WS fun _ hK7 => rS (MV rfl) <| rS (MV rfl) <| rS (MV rfl) <| rS (BI rfl (b_sub ⟨by omega, by omega⟩)) <| rS (BI rfl (b_quo (by omega) (by omega) (by omega))) <| rS (BI rfl (b_add ⟨by omega, by omega⟩)) <| rS (AG rfl) ?_
 refine RK hK7 <| WS fun _ hK8 => rS (MV rfl) <| rS (MV rfl) <| rS (SX (sd_clo rfl rfl rfl (hf (a + ((b - a) / 2)) (by omega)) (ha_at 0 rfl rfl <| ha_nil)) rfl rfl) <| RK hK8 ?_
 refine w_if rfl (fun hp => ?_) (fun hp => ?_)
 · refine w_region ?_
   refine rS (MV rfl) <| rS (AG rfl) <| r_nil <| k_block ?_
   refine k_then (hJ3 ⟨(a, (a + ((b - a) / 2))), (by dsimp only; rcases Int.lt_or_le (a + (b - a) / 2) r with q | q; (have q2 := hno _ (by omega) q; first | (refine ⟨⟨by omega, by omega⟩, by omega, by omega⟩) | (rw [q2] at hp; cases hp)); (have q2 := hyes _ q (by omega); first | (refine ⟨⟨by omega, by omega⟩, by omega, by omega⟩) | (rw [q2] at hp; cases hp)))⟩ _ _ _ rfl (by simp only []; omega) (Sub.cons rfl <| Sub.cons rfl <| Sub.cons rfl <| Sub.nil _) (fun w hs => St.sel [0] rfl rfl hs))
 refine w_region <| rS (MV rfl) <| rS (BI rfl (b_add ⟨by omega, by omega⟩)) <| rS (AG rfl) <| r_nil <| k_block ?_
 refine k_then (hJ3 ⟨(((a + ((b - a) / 2)) + 1), b), (by dsimp only; rcases Int.lt_or_le (a + (b - a) / 2) r with q | q; (have q2 := hno _ (by omega) q; first | (refine ⟨⟨by omega, by omega⟩, by omega, by omega⟩) | (rw [q2] at hp; cases hp)); (have q2 := hyes _ q (by omega); first | (refine ⟨⟨by omega, by omega⟩, by omega, by omega⟩) | (rw [q2] at hp; cases hp)))⟩ _ _ _ rfl (by simp only []; omega) (Sub.cons rfl <| Sub.cons rfl <| Sub.cons rfl <| Sub.nil _) (fun w hs => St.sel [0] rfl rfl hs))
set_option maxRecDepth 100000 in
set_option maxHeartbeats 400000 in
theorem whenlo_c (u : Int) (c : ClockM) (sA : Option Addr) (sC : Nat) (g1 : Nat) (s : SignalV) (g2 : Nat) (hc : ClockOk c) (hu : 0 ≤ u ∧ u ≤ 90000000) :
    FnV Tryz.prog 81 [(Value.int .i64 u), (Value.pointer (some ⟨g1, 0, none⟩)), (Value.pointer (some ⟨g2, 0, none⟩))] [(rd sA c.Syncs.length 3 (c.Syncs.map SyncV.cells)), (blk g1 63 (ClockV.cells (ClockV.mk c.Drift (Slc.mk sA c.Syncs.length sC)))), (blk g2 67 (SignalV.cells s))] (Value.bool (decide (s.Read ≤ u + (aheadF c u).Hi))) := by
 have hab := aheadF_b hc hu
 refine fnV_of go81 Tryz.func81 rfl rfl fun w0 Q hQ hN => ?_
 try dsimp only
 refine WS fun _ hK1 => rS (AG rfl) <| RK hK1 <| w_seq fun _ hK2 => w_draw mixed 10 (by kernel_rfl) <| dS (MV rfl) <| dS (LWR 1 rfl tk63 rfl rfl) <| dS (MV rfl) <| dS (CL (ahead_c c sA sC u hc hu) (ha_at 0 rfl rfl <| ha_nil) rfl) <| dS (SX (sd_field1 (v := (Value.int .i64 ((aheadF c u).Hi))) rfl rfl fo47_1 tf47_1 rfl) rfl rfl) ?_
 refine dS (BI rfl (b_add ⟨by omega, by omega⟩)) <| dS (FA 1 rfl fo67_1 rfl) <| dS (L1R (Value.int .i64 s.Read) 2 rfl tk3 rfl rfl) <| dS (BI rfl b_geq) <| dS (AG rfl) <| d_end <| RK hK2 <| w_ret ?_
 exact Q1 hQ rfl rfl rfl rfl
set_option maxRecDepth 100000 in
set_option maxHeartbeats 400000 in
theorem whenhi_c (u : Int) (c : ClockM) (sA : Option Addr) (sC : Nat) (g1 : Nat) (s : SignalV) (g2 : Nat) (hc : ClockOk c) (hu : 0 ≤ u ∧ u ≤ 90000000) :
    FnV Tryz.prog 82 [(Value.int .i64 u), (Value.pointer (some ⟨g1, 0, none⟩)), (Value.pointer (some ⟨g2, 0, none⟩))] [(rd sA c.Syncs.length 3 (c.Syncs.map SyncV.cells)), (blk g1 63 (ClockV.cells (ClockV.mk c.Drift (Slc.mk sA c.Syncs.length sC)))), (blk g2 67 (SignalV.cells s))] (Value.bool (decide (s.Read < u + (aheadF c u).Lo))) := by
 have hab := aheadF_b hc hu
 refine fnV_of go82 Tryz.func82 rfl rfl fun w0 Q hQ hN => ?_
 try dsimp only
 refine WS fun _ hK1 => rS (AG rfl) <| RK hK1 <| w_seq fun _ hK2 => w_draw mixed 10 (by kernel_rfl) <| dS (MV rfl) <| dS (LWR 1 rfl tk63 rfl rfl) <| dS (MV rfl) <| dS (CL (ahead_c c sA sC u hc hu) (ha_at 0 rfl rfl <| ha_nil) rfl) <| dS (SX (sd_field1 (v := (Value.int .i64 ((aheadF c u).Lo))) rfl rfl fo47_0 tf47_0 rfl) rfl rfl) ?_
 refine dS (BI rfl (b_add ⟨by omega, by omega⟩)) <| dS (FA 1 rfl fo67_1 rfl) <| dS (L1R (Value.int .i64 s.Read) 2 rfl tk3 rfl rfl) <| dS (BI rfl b_gtr) <| dS (AG rfl) <| d_end <| RK hK2 <| w_ret ?_
 exact Q1 hQ rfl rfl rfl rfl
set_option maxRecDepth 100000 in
set_option maxHeartbeats 400000 in
theorem when_c (l : LineM) (kA : Option Addr) (kC : Nat) (az : List RA) (cA : Option Addr) (cC : Nat) (bA : Option Addr) (bC : Nat) (s : SignalV) (hin : LineIn l az) (hok : LineOk l) (hs : (0 ≤ s.Beam ∧ s.Beam ≤ (l.Beams.length : Int) - 1) ∧ 0 ≤ s.Read ∧ s.Read ≤ 86400000) :
    FnV Tryz.prog 60 [(Value.agg (LineV.cells (LineV.mk (TrackV.mk (Slc.mk kA l.Track.length kC)) l.Fast (Slc.mk cA l.Clocks.length cC) (Slc.mk bA l.Beams.length bC) l.Finish l.Fakes l.Misses)).toArray), (Value.agg (SignalV.cells s).toArray)] [(rd kA l.Track.length 9 (l.Track.map StretchV.cells)), (rd cA l.Clocks.length 2 (List.zipWith ClockM.cells l.Clocks az)), (bun (nest ClockM.rds l.Clocks az)), (rd bA l.Beams.length 4 (l.Beams.map BeamV.cells))] (Value.agg (SpanV.cells (whenF l s)).toArray) := by
 have htk := hin.trk
 have hck := hin.cks
 have has := hin.as_
 have hbm := hin.bms
 refine fnV_of go60 Tryz.func60 rfl rfl fun w0 Q hQ hN => ?_
 try dsimp only
 refine WS fun _ hK1 => BXA rfl fun b2 => BXA rfl fun b3 => AL rfl tz47 fun b4 => RK hK1 <| w_seq fun _ hK5 => w_draw4 mixed [0, 1, 2, 3, 4, 5, 6, 7, 8, 9, 10] [11, 12] [false, false, false, false, false, false, false, false, false, false, false] [false, false] [(blk b4 47 (SpanV.cells (SpanV.mk 0 0))), (blk b3 67 (SignalV.cells s)), (blk b2 28 (LineV.cells (LineV.mk (TrackV.mk (Slc.mk kA l.Track.length kC)) l.Fast (Slc.mk cA l.Clocks.length cC) (Slc.mk bA l.Beams.length bC) l.Finish l.Fakes l.Misses))), (rd kA l.Track.length 9 (l.Track.map StretchV.cells)).ro, (rd cA l.Clocks.length 2 (List.zipWith ClockM.cells l.Clocks az)).ro, (bun (nest ClockM.rds l.Clocks az)).ro, (rd bA l.Beams.length 4 (l.Beams.map BeamV.cells)).ro] [] (by kernel_rfl) (fun w hs => St.sel [0, 1, 2, 3, 4, 5, 6] rfl rfl hs) (fun w hs => St.sel [] rfl rfl hs) <| eS rfl (FA 2 rfl fo28_2 rfl) <| eS rfl (L1 (Value.slice cA l.Clocks.length cC) 2 rfl tk25 rfl rfl) <| eS rfl (FA 3 rfl fo28_3 rfl) ?_
 refine eS rfl (L1 (Value.slice bA l.Beams.length bC) 2 rfl tk26 rfl rfl) <| eS rfl (FA 0 rfl fo67_0 rfl) <| eS rfl (L1 (Value.int .i64 s.Beam) 1 rfl tk3 rfl rfl) ?_
 obtain ⟨y, hy⟩ : ∃ y_, l.Beams[(s.Beam).toNat]? = some y_ := ⟨l.Beams[(s.Beam).toNat]'(by omega), List.getElem?_eq_getElem _⟩
 have hym : (l.Beams.map BeamV.cells)[(s.Beam).toNat]? = some (BeamV.cells y) := by rw [List.getElem?_map, hy]; rfl
 refine eS rfl (IA ((s.Beam).toNat) rfl (has_at 6 rfl) te26 (by decide) (by omega) (by omega)) <| eS rfl (FAR ((((s.Beam).toNat) * 4) + 3) rfl (has_at 6 rfl) (Nat.mul_pos (by omega) (by decide)) fo101_1 rfl) <| eS rfl (LE1 ((s.Beam).toNat) 3 (Value.int .i64 y.Clock) rfl tk3 (has_at 6 rfl) hym rfl (by decide) rfl) ?_
 have hyb := (hok.beam _ (List.mem_of_getElem? hy)).2
 obtain ⟨x, hx⟩ : ∃ y_, l.Clocks[(y.Clock).toNat]? = some y_ := ⟨l.Clocks[(y.Clock).toNat]'(by omega), List.getElem?_eq_getElem _⟩
 obtain ⟨xa, hxa⟩ : ∃ y_, az[(y.Clock).toNat]? = some y_ := ⟨az[(y.Clock).toNat]'(by omega), List.getElem?_eq_getElem _⟩
 have hxm : (List.zipWith ClockM.cells l.Clocks az)[(y.Clock).toNat]? = some (ClockM.cells x xa) := zip_get hx hxa
 refine eS rfl (IA ((y.Clock).toNat) rfl (has_at 4 rfl) te25 (by decide) (by omega) (by omega)) <| eS rfl (LEN ((y.Clock).toNat) 0 (ClockV.cells (ClockV.mk x.Drift (Slc.mk xa.1 x.Syncs.length xa.2))) rfl tk63 (has_at 4 rfl) hxm rfl (by decide) rfl rfl) <| d_fin rfl <| t_cons rfl fun T6 hT6 => AL rfl tz63 fun b7 => RN hT6 [1, 2, 3, 4, 5, 6, 7] rfl rfl <| t_cons rfl fun T8 hT8 => SW0 rfl ts63 rfl <| RN hT8 [1, 2, 3, 4, 5, 6, 7] rfl rfl <| t_fin rfl ?_
 refine KK hK5 <| WS fun _ hK9 => ?_
 have hxo := hok.clock _ (List.mem_of_getElem? hx)
 have hfl := firstN_b (p := whenLo x s.Read) (n := 86400001)
 have hfh := firstN_b (p := whenHi x s.Read) (n := 86400001)
 refine rS (FU rfl) <| rS (CL (bfirst_c 0 86400001 (Value.func (.func 81) [].toArray [(Value.pointer (some ⟨b7, 0, none⟩)), (Value.pointer (some ⟨b3, 0, none⟩))].toArray) (fun u10 => (decide (s.Read ≤ u10 + (aheadF x u10).Hi))) (bun [(rd xa.1 x.Syncs.length 3 (x.Syncs.map SyncV.cells)), (blk b7 63 (ClockV.cells (ClockV.mk x.Drift (Slc.mk xa.1 x.Syncs.length xa.2)))), (blk b3 67 (SignalV.cells s))]) (firstN (whenLo x s.Read) 86400001) (by intro u10 _; exact clo_of (fi := []) (ca := [(Value.pointer (some ⟨b7, 0, none⟩)), (Value.pointer (some ⟨b3, 0, none⟩))]) (fnV_bun (whenlo_c u10 x xa.1 xa.2 b7 s b3 (by first | assumption | omega) (by first | assumption | omega)) (ha3 0 1 2 rfl rfl rfl rfl rfl rfl))) (by first | assumption | omega | (simp; done) | (simp; omega)) (by intro z h0 hz; exact (when_mono hxo h0 (by omega)).1 hz) (by intro z hz h1; exact (when_mono hxo (by omega) h1).2.1 hz)) (ha_cons (has_bun (ha_cons (show Has _ (rd xa.1 x.Syncs.length 3 (x.Syncs.map SyncV.cells)).holds from (has_inr 6 rfl (mem_nest hx hxa (by simp [ClockM.rds])))) <| ha_at 0 rfl rfl <| ha_at 2 rfl rfl <| ha_nil)) <| ha_nil) rfl) <| rS (FU rfl) <| rS (CL (bfirst_c 0 86400001 (Value.func (.func 82) [].toArray [(Value.pointer (some ⟨b7, 0, none⟩)), (Value.pointer (some ⟨b3, 0, none⟩))].toArray) (fun u11 => (decide (s.Read < u11 + (aheadF x u11).Lo))) (bun [(rd xa.1 x.Syncs.length 3 (x.Syncs.map SyncV.cells)), (blk b7 63 (ClockV.cells (ClockV.mk x.Drift (Slc.mk xa.1 x.Syncs.length xa.2)))), (blk b3 67 (SignalV.cells s))]) (firstN (whenHi x s.Read) 86400001) (by intro u11 _; exact clo_of (fi := []) (ca := [(Value.pointer (some ⟨b7, 0, none⟩)), (Value.pointer (some ⟨b3, 0, none⟩))]) (fnV_bun (whenhi_c u11 x xa.1 xa.2 b7 s b3 (by first | assumption | omega) (by first | assumption | omega)) (ha3 0 1 2 rfl rfl rfl rfl rfl rfl))) (by first | assumption | omega | (simp; done) | (simp; omega)) (by intro z h0 hz; exact (when_mono hxo h0 (by omega)).2.2.1 hz) (by intro z hz h1; exact (when_mono hxo (by omega) h1).2.2.2 hz)) (ha_cons (has_bun (ha_cons (show Has _ (rd xa.1 x.Syncs.length 3 (x.Syncs.map SyncV.cells)).holds from (has_inr 6 rfl (mem_nest hx hxa (by simp [ClockM.rds])))) <| ha_at 0 rfl rfl <| ha_at 2 rfl rfl <| ha_nil)) <| ha_nil) rfl) <| rS (BI rfl (b_sub ⟨by omega, by omega⟩)) <| rS (SX (sd_build (xs := [(0, .tmp 18), (1, .tmp 21)]) (cs := (SpanV.cells (SpanV.mk (firstN (whenLo x s.Read) 86400001) ((firstN (whenHi x s.Read) 86400001) - 1)))) rfl rfl (built_of tb47 rfl)) rfl rfl) <| SW1 rfl ts47 rfl <| RK hK9 <| w_ret ?_
 refine hQ _ _ _ (l_nil (vs := [(Value.agg (SpanV.cells (SpanV.mk (firstN (whenLo x s.Read) 86400001) ((firstN (whenHi x s.Read) 86400001) - 1))).toArray)]) ⟨⟨_, rfl, .inl ⟨_, _, tk47, at_blk (vs := (SpanV.cells (SpanV.mk (firstN (whenLo x s.Read) 86400001) ((firstN (whenHi x s.Read) 86400001) - 1)))) 1 rfl rfl, rfl, rfl⟩⟩, trivial⟩ fun w hs => endV ?_ hs)
 show (Value.agg (SpanV.cells (SpanV.mk (firstN (whenLo x s.Read) 86400001) ((firstN (whenHi x s.Read) 86400001) - 1))).toArray) = (Value.agg (SpanV.cells (whenF l s)).toArray)
 clear hs w hQ hN hK9 hT8 T8 hT6 T6 hK5 hK1
 unfold whenF whenC; rw [clockOf_eq hy hx]
set_option maxRecDepth 100000 in
set_option maxHeartbeats 400000 in
theorem When_c (l : LineM) (kA : Option Addr) (kC : Nat) (az : List RA) (cA : Option Addr) (cC : Nat) (bA : Option Addr) (bC : Nat) (s : SignalV) (hin : LineIn l az) :
    FnV Tryz.prog 48 [(Value.agg (LineV.cells (LineV.mk (TrackV.mk (Slc.mk kA l.Track.length kC)) l.Fast (Slc.mk cA l.Clocks.length cC) (Slc.mk bA l.Beams.length bC) l.Finish l.Fakes l.Misses)).toArray), (Value.agg (SignalV.cells s).toArray)] [(rd kA l.Track.length 9 (l.Track.map StretchV.cells)), (rd cA l.Clocks.length 2 (List.zipWith ClockM.cells l.Clocks az)), (bun (nest ClockM.rds l.Clocks az)), (rd bA l.Beams.length 4 (l.Beams.map BeamV.cells))] (Value.tuple [(Value.agg (SpanV.cells (whenV l s)).toArray), (Value.int .i64 (whenE l s))].toArray) := by
 have htk := hin.trk
 have hck := hin.cks
 have has := hin.as_
 have hbm := hin.bms
 refine fnV_of go48 Tryz.func48 rfl rfl fun w0 Q hQ hN => ?_
 try dsimp only
 refine WS fun _ hK1 => BXA rfl fun b2 => BXA rfl fun b3 => AL rfl tz47 fun b4 => rS (AG rfl) <| RK hK1 <| w_seq fun _ hK5 => WS fun _ hK6 => rS (LW 2 rfl tk28 rfl rfl) <| rS (CL (lcheck_c l kA kC az cA cC bA bC hin) (ha_at 3 rfl rfl <| ha_at 4 rfl rfl <| ha_at 5 rfl rfl <| ha_at 6 rfl rfl <| ha_nil) rfl) ?_
 refine rS (AG rfl) <| RK hK6 <| WS fun _ hK7 => rS (MV rfl) <| rS (BI rfl b_neq) <| RK hK7 ?_
 refine w_if rfl (fun h11 => ?_) (fun h11 => ?_)
 · replace h11 := XT h11
   refine WS fun _ hK8 => rS (SX (sd_build (xs := []) (cs := (SpanV.cells (SpanV.mk 0 0))) rfl rfl (built_of tb47 rfl)) rfl rfl) <| rS (MV rfl) <| SW0 rfl ts47 rfl <| rS (AG rfl) <| RK hK8 <| w_ret ?_
   refine hQ _ _ _ (l_nil (vs := [(Value.agg (SpanV.cells (SpanV.mk 0 0)).toArray), (Value.int .i64 (lineE l))]) ⟨⟨_, rfl, .inl ⟨_, _, tk47, at_blk (vs := (SpanV.cells (SpanV.mk 0 0))) 0 rfl rfl, rfl, rfl⟩⟩, rfl, trivial⟩ fun w hs => endV ?_ hs)
   show (Value.tuple [(Value.agg (SpanV.cells (SpanV.mk 0 0)).toArray), (Value.int .i64 (lineE l))].toArray) = (Value.tuple [(Value.agg (SpanV.cells (whenV l s)).toArray), (Value.int .i64 (whenE l s))].toArray)
   clear hs w hQ hN hK8 hK7 hK6 hK5 hK1
   first | (have e := when_bad (s := s) h11; rw [e.1, e.2] <;> rfl) | (have e := when_none (s := s) h11 (by omega) h38; rw [e.1, e.2] <;> rfl) | (have e := when_in (s := s) h11 (by omega) h38; rw [e.1, e.2] <;> rfl) | (have e := when_out (s := s) h11 (by omega); rw [e.1, e.2] <;> rfl)
 replace h11 := XF h11
 refine WK hK5 <| w_seq fun _ hK9 => WS fun _ hK10 => rS (FA 3 rfl fo28_3 rfl) ?_
 obtain ⟨htr, hok⟩ := lineE_zero h11
 refine rS (L1 (Value.slice bA l.Beams.length bC) 2 rfl tk26 rfl rfl) <| rS (LN rfl ut26) <| rS (BI rfl (b_sub ⟨by omega, by omega⟩)) <| rS (FA 0 rfl fo67_0 rfl) <| rS (L1 (Value.int .i64 s.Beam) 1 rfl tk3 rfl rfl) <| r_bs (xs := [.tmp 19]) (cs := [(Value.int .i64 s.Beam)]) rfl te35 tz3 rfl rfl rfl rfl (by simp [Value.cells]) rfl rfl fun b11 => rS (CL (FnV.eq (in_beam 0 (((l.Beams.length : Nat) : Int) - 1) ([s.Beam]) (some ⟨b11, 0, none⟩) 1 (by first | assumption | omega | (simp; done) | (simp; omega))) inAll_one) (ha_cons (has_rd_blk 0 rfl rfl (by simp [iC_length]) rfl) <| ha_nil) rfl) <| rS (NT rfl) <| rS (MV rfl) ?_
 refine r_bool (t := 23) rfl (fun h23 => ?_) (fun h23 => ?_)
 · replace h23 := XT h23
   refine rS (OX rfl) <| rS (OX rfl) <| rS (OX rfl) <| rS (OX rfl) <| rS (OX rfl) <| rS (PK rfl) <| RK hK10 <| w_if_true rfl <| WS fun _ hK12 => rS (SX (sd_build (xs := []) (cs := (SpanV.cells (SpanV.mk 0 0))) rfl rfl (built_of tb47 rfl)) rfl rfl) ?_
   refine SW1 rfl ts47 rfl <| rS (AG rfl) <| RK hK12 <| w_ret ?_
   refine hQ _ _ _ (l_nil (vs := [(Value.agg (SpanV.cells (SpanV.mk 0 0)).toArray), (Value.int .i64 2)]) ⟨⟨_, rfl, .inl ⟨_, _, tk47, at_blk (vs := (SpanV.cells (SpanV.mk 0 0))) 1 rfl rfl, rfl, rfl⟩⟩, rfl, trivial⟩ fun w hs => endV ?_ hs)
   show (Value.tuple [(Value.agg (SpanV.cells (SpanV.mk 0 0)).toArray), (Value.int .i64 2)].toArray) = (Value.tuple [(Value.agg (SpanV.cells (whenV l s)).toArray), (Value.int .i64 (whenE l s))].toArray)
   clear hs w hQ hN hK12 hK10 hK9 hK7 hK6 hK5 hK1
   first | (have e := when_bad (s := s) h11; rw [e.1, e.2] <;> rfl) | (have e := when_none (s := s) h11 (by omega) h38; rw [e.1, e.2] <;> rfl) | (have e := when_in (s := s) h11 (by omega) h38; rw [e.1, e.2] <;> rfl) | (have e := when_out (s := s) h11 (by omega); rw [e.1, e.2] <;> rfl)
 replace h23 := XF h23
 refine rS (FA 1 rfl fo67_1 rfl) <| rS (L1 (Value.int .i64 s.Read) 2 rfl tk3 rfl rfl) <| r_bs (xs := [.tmp 25]) (cs := [(Value.int .i64 s.Read)]) rfl te35 tz3 rfl rfl rfl rfl (by simp [Value.cells]) rfl rfl fun b13 => rS (CL (FnV.eq (in_beam 0 86400000 ([s.Read]) (some ⟨b13, 0, none⟩) 1 (by first | assumption | omega | (simp; done) | (simp; omega))) inAll_one) (ha_cons (has_rd_blk 0 rfl rfl (by simp [iC_length]) rfl) <| ha_nil) rfl) <| rS (NT rfl) <| rS (PK rfl) <| RK hK10 ?_
 refine w_if rfl (fun h29 => ?_) (fun h29 => ?_)
 · replace h29 := XT h29
   refine WS fun _ hK14 => rS (SX (sd_build (xs := []) (cs := (SpanV.cells (SpanV.mk 0 0))) rfl rfl (built_of tb47 rfl)) rfl rfl) <| SW2 rfl ts47 rfl <| rS (AG rfl) <| RK hK14 <| w_ret ?_
   refine hQ _ _ _ (l_nil (vs := [(Value.agg (SpanV.cells (SpanV.mk 0 0)).toArray), (Value.int .i64 2)]) ⟨⟨_, rfl, .inl ⟨_, _, tk47, at_blk (vs := (SpanV.cells (SpanV.mk 0 0))) 2 rfl rfl, rfl, rfl⟩⟩, rfl, trivial⟩ fun w hs => endV ?_ hs)
   show (Value.tuple [(Value.agg (SpanV.cells (SpanV.mk 0 0)).toArray), (Value.int .i64 2)].toArray) = (Value.tuple [(Value.agg (SpanV.cells (whenV l s)).toArray), (Value.int .i64 (whenE l s))].toArray)
   clear hs w hQ hN hK14 hK10 hK9 hK7 hK6 hK5 hK1
   first | (have e := when_bad (s := s) h11; rw [e.1, e.2] <;> rfl) | (have e := when_none (s := s) h11 (by omega) h38; rw [e.1, e.2] <;> rfl) | (have e := when_in (s := s) h11 (by omega) h38; rw [e.1, e.2] <;> rfl) | (have e := when_out (s := s) h11 (by omega); rw [e.1, e.2] <;> rfl)
 replace h29 := XF h29
 refine WK hK9 <| WS fun _ hK15 => rS (LW 4 rfl tk28 rfl rfl) <| rS (LW 3 rfl tk67 rfl rfl) <| rS (CL (when_c l kA kC az cA cC bA bC s hin (by first | assumption | omega | (simp; done) | (simp; omega)) (by first | assumption | omega | (simp; done) | (simp; omega))) (ha_at 5 rfl rfl <| ha_at 6 rfl rfl <| ha_at 7 rfl rfl <| ha_at 8 rfl rfl <| ha_nil) rfl) <| AL rfl tz47 fun b16 => SW0 rfl ts47 rfl <| RK hK15 <| w_seq fun _ hK17 => WS fun _ hK18 => ?_
 refine rS (FA 0 rfl fo47_0 rfl) <| rS (L1 (Value.int .i64 ((whenF l s).Lo)) 0 rfl tk3 rfl rfl) <| rS (FA 1 rfl fo47_1 rfl) <| rS (L1 (Value.int .i64 ((whenF l s).Hi)) 0 rfl tk3 rfl rfl) <| rS (BI rfl b_gtr) <| RK hK18 ?_
 refine w_if rfl (fun h38 => ?_) (fun h38 => ?_)
 rotate_left 1
 · replace h38 := DF h38
   refine WK hK17 <| WS fun _ hK20 => rS (LW 0 rfl tk47 rfl rfl) <| SW3 rfl ts47 rfl <| rS (AG rfl) <| RK hK20 <| w_ret ?_
   refine hQ _ _ _ (l_nil (vs := [(Value.agg (SpanV.cells (whenF l s)).toArray), (Value.int .i64 0)]) ⟨⟨_, rfl, .inl ⟨_, _, tk47, at_blk (vs := (SpanV.cells (whenF l s))) 3 rfl rfl, rfl, rfl⟩⟩, rfl, trivial⟩ fun w hs => endV ?_ hs)
   show (Value.tuple [(Value.agg (SpanV.cells (whenF l s)).toArray), (Value.int .i64 0)].toArray) = (Value.tuple [(Value.agg (SpanV.cells (whenV l s)).toArray), (Value.int .i64 (whenE l s))].toArray)
   clear hs w hQ hN hK20 hK18 hK17 hK15 hK10 hK9 hK7 hK6 hK5 hK1
   first | (have e := when_bad (s := s) h11; rw [e.1, e.2] <;> rfl) | (have e := when_none (s := s) h11 (by omega) h38; rw [e.1, e.2] <;> rfl) | (have e := when_in (s := s) h11 (by omega) h38; rw [e.1, e.2] <;> rfl) | (have e := when_out (s := s) h11 (by omega); rw [e.1, e.2] <;> rfl)
 replace h38 := DT h38
 refine WS fun _ hK19 => rS (SX (sd_build (xs := []) (cs := (SpanV.cells (SpanV.mk 0 0))) rfl rfl (built_of tb47 rfl)) rfl rfl) <| SW3 rfl ts47 rfl <| rS (AG rfl) <| RK hK19 <| w_ret ?_
 refine hQ _ _ _ (l_nil (vs := [(Value.agg (SpanV.cells (SpanV.mk 0 0)).toArray), (Value.int .i64 6)]) ⟨⟨_, rfl, .inl ⟨_, _, tk47, at_blk (vs := (SpanV.cells (SpanV.mk 0 0))) 3 rfl rfl, rfl, rfl⟩⟩, rfl, trivial⟩ fun w hs => endV ?_ hs)
 show (Value.tuple [(Value.agg (SpanV.cells (SpanV.mk 0 0)).toArray), (Value.int .i64 6)].toArray) = (Value.tuple [(Value.agg (SpanV.cells (whenV l s)).toArray), (Value.int .i64 (whenE l s))].toArray)
 clear hs w hQ hN hK19 hK18 hK17 hK15 hK10 hK9 hK7 hK6 hK5 hK1
 first | (have e := when_bad (s := s) h11; rw [e.1, e.2] <;> rfl) | (have e := when_none (s := s) h11 (by omega) h38; rw [e.1, e.2] <;> rfl) | (have e := when_in (s := s) h11 (by omega) h38; rw [e.1, e.2] <;> rfl) | (have e := when_out (s := s) h11 (by omega); rw [e.1, e.2] <;> rfl)
end
section
open Go.RowKit
set_option linter.unusedVariables false
set_option maxRecDepth 100000 in
set_option maxHeartbeats 400000 in
theorem options1_c (ln : LineV) (ri : RideV) (e : List Int) (tms : List TM) (e_A : Option Addr) (e_C : Nat) (tb : List Nat) (t_A : Option Addr) (t_C : Nat) (fA : Option Addr) (fN : Nat) (fC : Nat) (bA : Option Addr) (bN : Nat) (bC : Nat) (gw : Nat) (b : Nat) (g1 : Nat) (g2 : Nat) (hb : b < tms.length) (htb : tb.length = tms.length) :
    SeqG Tryz.prog 87 [] [(Value.pointer (some ⟨g1, 0, none⟩)), (Value.pointer (some ⟨g2, 0, none⟩))] [(rd e_A e.length 1 (e.map iC)), (rd t_A tms.length 1 (List.zipWith mapC tms tb)), (bun (nest tmR tms tb)), (blk gw 117 (WatchV.cells (WatchV.mk ln ri (Slc.mk e_A e.length e_C) (Slc.mk t_A tms.length t_C) (Slc.mk fA fN fC) (Slc.mk bA bN bC)))), (blk g1 77 [(Value.pointer (some ⟨gw, 0, none⟩))]), (blk g2 3 [(Value.int .i64 ((b : Nat) : Int))])] ([] : List (Int × SpanV)) (fun ys x ys' => ∃ o, o ∈ opts (watchOf ln ri e tms) b ∧ x = itemV o ∧ ys' = ys ++ [o]) (fun ys => ∀ o ∈ opts (watchOf ln ri e tms) b, o ∈ ys) := by
 refine seqG_of go87 Tryz.func87 rfl rfl fun l J Z A0 w0 Q hY hJ0 hF0 hQ hN => ?_
 try dsimp only
 refine w_seq fun _ hK1 => w_seq fun _ hK2 => w_draw mixed 12 (by kernel_rfl) <| dS (MV rfl) <| dS (L1Q 5 rfl tk77 rfl) <| dS (SX (sd_nil_p rfl rfl) rfl rfl) <| dS (FA 7 rfl fo117_1 rfl) <| dS (FA 7 rfl fo31_0 rfl) <| dS (L1R (Value.int .i64 ri.Start) 4 rfl tk3 rfl rfl) <| dS (L1Q 5 rfl tk77 rfl) ?_
 refine dS (SX (sd_nil_p rfl rfl) rfl rfl) <| dS (FA 7 rfl fo117_1 rfl) <| dS (FA 8 rfl fo31_1 rfl) <| dS (L1R (Value.int .i64 ri.Now) 4 rfl tk3 rfl rfl) <| dS (SX (sd_build (xs := [(0, .tmp 11), (1, .tmp 16)]) (cs := (SpanV.cells (SpanV.mk ri.Start ri.Now))) rfl rfl (built_of tb47 rfl)) rfl rfl) <| d_end ?_
 refine r_yieldG (k := ([] : List (Int × SpanV))) (k' := (([] : List (Int × SpanV)) ++ [((-1), (SpanV.mk ri.Start ri.Now))])) 0 (by first | exact hsz | exact Nat.le_refl _) hY hJ0 hF0 rfl rfl rfl (by exact ⟨(-1, ⟨ri.Start, ri.Now⟩), List.mem_cons_self .., rfl, rfl⟩) rfl rfl (fun B3 hJ4 hF5 => ?_) (fun B3 hJ4 hF5 => ?_)
 rotate_left 1
 · refine rS (NT rfl) ?_
   refine RK hK2 <| w_if_true rfl <| w_ret ?_
   refine hQ _ _ _ (l_nil (vs := []) trivial fun w hs => endGz 0 rfl hJ4 hF5 hs)
 refine rS (NT rfl) <| RK hK2 <| w_if_false rfl <| WK hK1 <| w_seq fun _ hK6 => w_draw mixed 7 (by kernel_rfl) <| dS (L1Q 5 rfl tk77 rfl) <| dS (SX (sd_nil_p rfl rfl) rfl rfl) <| dS (FA 11 rfl fo117_3 rfl) <| dS (L1R (Value.slice t_A tms.length t_C) 4 rfl tk114 rfl rfl) ?_
 refine dS (L1Q 6 rfl tk3 rfl) ?_
 obtain ⟨x, hx⟩ : ∃ y_, tms[b]? = some y_ := ⟨tms[b]'(by omega), List.getElem?_eq_getElem _⟩
 obtain ⟨xa, hxa⟩ : ∃ y_, tb[b]? = some y_ := ⟨tb[b]'(by omega), List.getElem?_eq_getElem _⟩
 have hxm : (List.zipWith mapC tms tb)[b]? = some (mapC x xa) := zip_get hx hxa
 refine dS (IA b rfl (has_at 2 rfl) te114 (by decide) (by omega) (by omega)) <| dS (LE1 b 0 (Value.map (some xa)) rfl tk120 (has_at 2 rfl) hxm rfl (by decide) rfl) <| d_end <| gr_mrangeR (kV := iV) (m := gmapV spanU x) 3 rfl rfl ut120 rfl ⟨⟨(gmp iV xa (gmapV spanU x)), (mem_nest hx hxa (by simp [tmR])), rfl⟩, fun h => h⟩ (show Has _ (gmp iV xa (gmapV spanU x)).holds from has_inr 3 rfl (mem_nest hx hxa (by simp [tmR]))) rfl fun r7 => ?_
 try dsimp only
 refine RK hK6 <| w_block ?_
 have hinit : (∀ o ∈ x, o ∈ x ∨ o ∈ (([] : List (Int × SpanV)) ++ [((-1), (SpanV.mk ri.Start ri.Now))])) ∧ (∀ o ∈ x, o ∈ x) ∧ (J (([] : List (Int × SpanV)) ++ [((-1), (SpanV.mk ri.Start ri.Now))]) B3) ∧ (Fo A0 w0 B3) ∧ ((-1, (⟨ri.Start, ri.Now⟩ : SpanV)) ∈ (([] : List (Int × SpanV)) ++ [((-1), (SpanV.mk ri.Start ri.Now))])) := by exact ⟨fun o ho => .inl ho, fun o ho => ho, by assumption, by assumption, by simp⟩
 refine w_loop (ι := { z : TM × (List (Int × SpanV)) × Assn // (∀ o ∈ x, o ∈ z.1 ∨ o ∈ z.2.1) ∧ (∀ o ∈ z.1, o ∈ x) ∧ (J z.2.1 z.2.2) ∧ (Fo A0 w0 z.2.2) ∧ ((-1, (⟨ri.Start, ri.Now⟩ : SpanV)) ∈ z.2.1) }) (fun z => [(0, (Value.func (.yield l) #[] #[])), (1, (Value.pointer (some ⟨g1, 0, none⟩))), (2, (Value.pointer (some ⟨g2, 0, none⟩))), (27, (Value.pointer (some ⟨r7, 0, none⟩)))]) (fun z => [(gmr iV r7 xa (gmapV spanU x) (gmapV spanU z.1.1) none), z.1.2.2, (rd e_A e.length 1 (e.map iC)).ro, (rd t_A tms.length 1 (List.zipWith mapC tms tb)).ro, (bun (nest tmR tms tb)).ro, (blk g1 77 [(Value.pointer (some ⟨gw, 0, none⟩))]).ro, (blk g2 3 [(Value.int .i64 ((b : Nat) : Int))]).ro]) (fun z => z.1.1.length) ⟨(x, (([] : List (Int × SpanV)) ++ [((-1), (SpanV.mk ri.Start ri.Now))]), B3), hinit⟩ (Sub.cons rfl <| Sub.cons rfl <| Sub.cons rfl <| Sub.cons rfl <| Sub.nil _) (fun w hs => St.sel [0, 1, 2, 3, 4, 6, 7] rfl rfl hs) ?_
 clear hinit
 rintro ⟨⟨left, ys, A⟩, ⟨hl2_0, hl2_1, hl2_2, hl2_3, hl2_4⟩⟩ J8 hJ8
 try dsimp only at hl2_0 hl2_1 hl2_2 hl2_3 hl2_4
 try dsimp only
 refine WS fun _ hK9 => ?_
 refine gr_mnextR_v (gkey_int ut3).inj (f := spanU) 0 rfl rfl rfl rfl (fun h28 => ?_) (fun i z hm hn => ?_)
 · refine rS (EX rfl) ?_
   refine RK hK9 <| w_seq fun _ hK10 => w_if_false rfl <| w_exit <| k_exit_then <| k_exit_then <| k_exit_same ?_
   refine hN _ _ _ (l_nil (vs := []) trivial fun w hs => endG 1 rfl (by exact opts_done hx hl2_0 h28 hl2_4) hl2_2 hl2_3 hs)
 try dsimp only
 refine rS (EX rfl) <| RK hK9 <| w_seq fun _ hK11 => w_if_true rfl <| WK hK11 <| w_block <| WS fun _ hK12 => rS (SX (gsd_mentryR 0 rfl rfl rfl) rfl rfl) <| rS (EX rfl) <| rS (EX rfl) ?_
 refine AL rfl tz47 fun b13 => rS (AG rfl) <| SW0 rfl ts47 rfl <| RK hK12 <| WS fun _ hK14 => rS (MV rfl) <| rS (MV rfl) <| rS (LW 0 rfl tk47 rfl rfl) ?_
 refine r_yieldG (k := ys) (k' := (ys ++ [(i, z)])) 2 (by first | exact hsz | exact Nat.le_refl _) hY hl2_2 hl2_3 rfl rfl rfl (by exact ⟨(i, z), (opts_times hx).2 (.inr (hl2_1 _ hm)), rfl, rfl⟩) rfl rfl (fun B15 hJ16 hF17 => ?_) (fun B15 hJ16 hF17 => ?_)
 rotate_left 1
 · refine rS (NT rfl) ?_
   refine RK hK14 <| w_if_true rfl <| w_ret ?_
   refine hQ _ _ _ (l_nil (vs := []) trivial fun w hs => endGz 2 rfl hJ16 hF17 hs)
 refine rS (NT rfl) <| RK hK14 <| w_if_false rfl <| w_skip <| k_block <| k_imp (C' := [(blk b13 47 (SpanV.cells z)), (gmr iV r7 xa (gmapV spanU x) (gmapV spanU (gdelK left i)) none), B15, (rd e_A e.length 1 (e.map iC)).ro, (rd t_A tms.length 1 (List.zipWith mapC tms tb)).ro, (bun (nest tmR tms tb)).ro, (blk g1 77 [(Value.pointer (some ⟨gw, 0, none⟩))]).ro, (blk g2 3 [(Value.int .i64 ((b : Nat) : Int))]).ro]) 1 rfl gmr_none rfl ?_
 refine k_then (hJ8 ⟨((gdelK left i), (ys ++ [(i, z)]), B15), ⟨left_step hn hm hl2_0, left_sub hl2_1, by assumption, by assumption, by simp [hl2_4]⟩⟩ _ _ _ rfl (gdelK_lt hm) (Sub.cons rfl <| Sub.cons rfl <| Sub.cons rfl <| Sub.cons rfl <| Sub.nil _) (fun w hs => St.sel [1, 2, 3, 4, 5, 6, 7] rfl rfl hs))
set_option maxRecDepth 100000 in
set_option maxHeartbeats 400000 in
theorem options_c (gw : Nat) (b : Nat) :
    FnX Tryz.prog 68 [(Value.pointer (some ⟨gw, 0, none⟩)), (Value.int .i64 ((b : Nat) : Int))] [] (fun (x : Nat × Nat) => (Value.func (.func 87) [].toArray [(Value.pointer (some ⟨x.1, 0, none⟩)), (Value.pointer (some ⟨x.2, 0, none⟩))].toArray)) (fun (x : Nat × Nat) => True) (fun (x : Nat × Nat) => [(blk x.1 77 [(Value.pointer (some ⟨gw, 0, none⟩))]), (blk x.2 3 [(Value.int .i64 ((b : Nat) : Int))])]) := by
 refine fnX_of go68 Tryz.func68 rfl rfl fun w0 Q hQ hN => ?_
 try dsimp only
 refine WS fun _ hK1 => BX1 rfl rfl fun b2 => BX1 rfl rfl fun b3 => rS (AG rfl) <| RK hK1 <| WS fun _ hK4 => rS (FU rfl) <| rS (AG rfl) <| RK hK4 <| w_ret ?_
 refine hQ _ _ _ (l_nil (vs := [(Value.func (.func 87) [].toArray [(Value.pointer (some ⟨b2, 0, none⟩)), (Value.pointer (some ⟨b3, 0, none⟩))].toArray)]) ⟨rfl, trivial⟩ fun w hs => endX (b2, b3) [1, 0] ?_ ?_ rfl rfl rfl hs)
 · rfl
 · trivial
set_option maxRecDepth 100000 in
set_option maxHeartbeats 400000 in
theorem passes_c (gw : Nat) (b : Nat) :
    FnX Tryz.prog 40 [(Value.pointer (some ⟨gw, 0, none⟩)), (Value.int .i64 ((b : Nat) : Int))] [] (fun (x : Nat × Nat) => (Value.func (.func 67) [].toArray [(Value.pointer (some ⟨x.1, 0, none⟩)), (Value.pointer (some ⟨x.2, 0, none⟩))].toArray)) (fun (x : Nat × Nat) => True) (fun (x : Nat × Nat) => [(blk x.1 77 [(Value.pointer (some ⟨gw, 0, none⟩))]), (blk x.2 3 [(Value.int .i64 ((b : Nat) : Int))])]) := by
 refine fnX_of go40 Tryz.func40 rfl rfl fun w0 Q hQ hN => ?_
 try dsimp only
 refine WS fun _ hK1 => BX1 rfl rfl fun b2 => BX1 rfl rfl fun b3 => rS (AG rfl) <| RK hK1 <| WS fun _ hK4 => rS (FU rfl) <| rS (AG rfl) <| RK hK4 <| w_ret ?_
 refine hQ _ _ _ (l_nil (vs := [(Value.func (.func 67) [].toArray [(Value.pointer (some ⟨b2, 0, none⟩)), (Value.pointer (some ⟨b3, 0, none⟩))].toArray)]) ⟨rfl, trivial⟩ fun w hs => endX (b2, b3) [1, 0] ?_ ?_ rfl rfl rfl hs)
 · rfl
 · trivial
end
section
open Go.RowKit
set_option linter.unusedVariables false
set_option maxRecDepth 100000 in
set_option maxHeartbeats 1600000 in
theorem follow_c (ln : LineV) (ri : RideV) (e : List Int) (tms : List TM) (e_A : Option Addr) (e_C : Nat) (tb : List Nat) (t_A : Option Addr) (t_C : Nat) (gw : Nat) (hw : WOk (watchOf ln ri e tms)) (hn : ln.Beams.n = e.length) (htb : tb.length = tms.length) :
    FnM Tryz.prog 61 [(Value.pointer (some ⟨gw, 0, none⟩))] [(rd e_A e.length 1 (e.map iC)), (rd t_A tms.length 1 (List.zipWith mapC tms tb)), (bun (nest tmR tms tb))] (blk gw 117 (WatchV.cells (WatchV.mk ln ri (Slc.mk e_A e.length e_C) (Slc.mk t_A tms.length t_C) (Slc.mk none 0 0) (Slc.mk none 0 0)))) (fun (x : (List FM) × (List Nat) × (Option Addr) × Nat × (List FM) × (List Nat) × (Option Addr) × Nat) => (Value.tuple [].toArray)) (fun (x : (List FM) × (List Nat) × (Option Addr) × Nat × (List FM) × (List Nat) × (Option Addr) × Nat) => FwdOk (watchOf ln ri e tms) x.1 ∧ BackOk (watchOf ln ri e tms) x.2.2.2.2.1 ∧ x.2.1.length = x.1.length ∧ x.2.2.2.2.2.1.length = x.2.2.2.2.1.length) (fun (x : (List FM) × (List Nat) × (Option Addr) × Nat × (List FM) × (List Nat) × (Option Addr) × Nat) => (bund [(blk gw 117 (WatchV.cells (WatchV.mk ln ri (Slc.mk e_A e.length e_C) (Slc.mk t_A tms.length t_C) (Slc.mk x.2.2.1 x.1.length x.2.2.2.1) (Slc.mk x.2.2.2.2.2.2.1 x.2.2.2.2.1.length x.2.2.2.2.2.2.2)))), (own x.2.2.1 x.2.2.2.1 122 1 (List.zipWith mapC x.1 x.2.1)), (bund (nest fmR x.1 x.2.1)), (own x.2.2.2.2.2.2.1 x.2.2.2.2.2.2.2 122 1 (List.zipWith mapC x.2.2.2.2.1 x.2.2.2.2.2.1)), (bund (nest fmR x.2.2.2.2.1 x.2.2.2.2.2.1))])) := by
 have hw6 : e.length ≤ 6 := hw.n
 have hwt : tms.length = e.length := hw.times
 refine fnM_of go61 Tryz.func61 rfl rfl fun w0 Q hQ hN => ?_
 try dsimp only
 refine WS fun _ hK1 => BX1 rfl rfl fun b2 => RK hK1 <| WS fun _ hK3 => rS (L1W 0 rfl tk77 rfl) <| rS (SX (sd_nil_p rfl rfl) rfl rfl) <| rS (FA 0 rfl fo117_0 rfl) <| rS (FA 3 rfl fo28_3 rfl) <| rS (L1 (Value.slice ln.Beams.a ln.Beams.n ln.Beams.c) 1 rfl tk26 rfl rfl) <| rS (LN rfl ut26) ?_
 refine rS (AG rfl) <| RK hK3 ?_
 refine w_join (ι := { z : (Option Addr) × (Option Addr) // True }) (fun z => [(0, (Value.pointer (some ⟨gw, 0, none⟩))), (1, (Value.pointer (some ⟨b2, 0, none⟩))), (2, (Value.int .i64 ((ln.Beams.n : Nat) : Int)))]) (fun z => [(own z.1.1 (ln.Beams.n + 1) 122 1 (List.map oC (List.replicate (ln.Beams.n + 1) (none : Option Nat)))), (own z.1.2 (ln.Beams.n + 1) 122 1 (List.map oC (List.replicate (ln.Beams.n + 1) (none : Option Nat)))), (blk b2 77 [(Value.pointer (some ⟨gw, 0, none⟩))]), (blk gw 117 (WatchV.cells (WatchV.mk ln ri (Slc.mk e_A e.length e_C) (Slc.mk t_A tms.length t_C) (Slc.mk z.1.1 (ln.Beams.n + 1) (ln.Beams.n + 1)) (Slc.mk z.1.2 (ln.Beams.n + 1) (ln.Beams.n + 1))))), (rd e_A e.length 1 (e.map iC)).ro, (rd t_A tms.length 1 (List.zipWith mapC tms tb)).ro, (bun (nest tmR tms tb)).ro]) ?_ fun K4 hK4 => ?_
 · rintro ⟨⟨fA, bA⟩, _⟩
   try dsimp only
   refine w_frozen 3 rfl rfl fun wz Sz hz => ?_
   have hl0 : (List.replicate (ln.Beams.n + 1) (none : Option Nat)).length = (ln.Beams.n + 1) := List.length_replicate
   try dsimp only
   refine w_join (ι := { z : Nat // True }) (fun z => [(0, (Value.pointer (some ⟨gw, 0, none⟩))), (1, (Value.pointer (some ⟨b2, 0, none⟩))), (2, (Value.int .i64 ((ln.Beams.n : Nat) : Int)))]) (fun z => [(bund (nest fmR [[((TallyV.mk 0 0), ri.Start)]] [z.1])), (blk gw 117 (WatchV.cells (WatchV.mk ln ri (Slc.mk e_A e.length e_C) (Slc.mk t_A tms.length t_C) (Slc.mk fA (ln.Beams.n + 1) (ln.Beams.n + 1)) (Slc.mk bA (ln.Beams.n + 1) (ln.Beams.n + 1))))).ro, (own fA (ln.Beams.n + 1) 122 1 (List.map oC (fillF [z.1] (ln.Beams.n + 1)))), (own bA (ln.Beams.n + 1) 122 1 (List.map oC (List.replicate (ln.Beams.n + 1) (none : Option Nat)))), (blk b2 77 [(Value.pointer (some ⟨gw, 0, none⟩))]), (rd e_A e.length 1 (e.map iC)).ro, (rd t_A tms.length 1 (List.zipWith mapC tms tb)).ro, (bun (nest tmR tms tb)).ro]) ?_ fun K5 hK5 => ?_
   · rintro ⟨ga, _⟩
     try dsimp only
     refine w_seq fun _ hK6 => WS fun _ hK7 => rS (MV rfl) <| rS (MV rfl) <| RK hK7 <| w_block <| w_tie0 ?_
     have hinit : (0 ≤ ln.Beams.n) ∧ (([[((TallyV.mk 0 0), ri.Start)]]).length = 0 + 1) ∧ (([ga]).length = 0 + 1) ∧ (FwdTo (watchOf ln ri e tms) ([[((TallyV.mk 0 0), ri.Start)]])) := by exact ⟨Nat.zero_le _, rfl, rfl, FwdTo.first⟩
     refine w_loopD (ι := { z : Nat × (List FM) × (List Nat) × (List Nat) // (z.1 ≤ ln.Beams.n) ∧ (z.2.1.length = z.1 + 1) ∧ (z.2.2.1.length = z.1 + 1) ∧ (FwdTo (watchOf ln ri e tms) z.2.1) }) (fun z => z.1.2.2.2.map mark) (fun z => [(0, (Value.pointer (some ⟨gw, 0, none⟩))), (1, (Value.pointer (some ⟨b2, 0, none⟩))), (2, (Value.int .i64 ((ln.Beams.n : Nat) : Int))), (52, (Value.int .i64 ((ln.Beams.n : Nat) : Int))), (53, (Value.int .i64 ((z.1.1 : Nat) : Int)))]) (fun z => [(bund (z.1.2.2.2.map defd)), (bund (nest fmR z.1.2.1 z.1.2.2.1)), (blk gw 117 (WatchV.cells (WatchV.mk ln ri (Slc.mk e_A e.length e_C) (Slc.mk t_A tms.length t_C) (Slc.mk fA (ln.Beams.n + 1) (ln.Beams.n + 1)) (Slc.mk bA (ln.Beams.n + 1) (ln.Beams.n + 1))))).ro, (own fA (ln.Beams.n + 1) 122 1 (List.map oC (fillF z.1.2.2.1 (ln.Beams.n + 1)))), (own bA (ln.Beams.n + 1) 122 1 (List.map oC (List.replicate (ln.Beams.n + 1) (none : Option Nat)))), (blk b2 77 [(Value.pointer (some ⟨gw, 0, none⟩))]), (rd e_A e.length 1 (e.map iC)).ro, (rd t_A tms.length 1 (List.zipWith mapC tms tb)).ro, (bun (nest tmR tms tb)).ro]) (fun z => ln.Beams.n - z.1.1) ⟨(0, [[((TallyV.mk 0 0), ri.Start)]], [ga], ([] : List Nat)), hinit⟩ rfl (Sub.cons rfl <| Sub.cons rfl <| Sub.cons rfl <| Sub.cons rfl <| Sub.cons rfl <| Sub.nil _) (fun w hs => St.sel [0, 1, 2, 3, 4, 5, 6, 7, 8] rfl rfl hs) ?_
     clear hinit
     rintro ⟨⟨b, fs, fb, rs5⟩, ⟨hl5_0, hl5_1, hl5_2, hl5_3⟩⟩ J8 hJ8
     try dsimp only at hl5_0 hl5_1 hl5_2 hl5_3
     try dsimp only
     have hlf : (fillF fb (ln.Beams.n + 1)).length = (ln.Beams.n + 1) := fillF_len (by omega)
     refine WS fun _ hK9 => rS (BI rfl b_lss) <| RK hK9 <| w_seq fun _ hK10 => ?_
     refine w_if rfl (fun h11 => ?_) (fun h11 => ?_)
     · replace h11 := DT h11
       refine WK hK10 <| w_seq fun _ hK12 => w_block <| WS fun _ hK13 => rS (MV rfl) <| AL rfl tz3 fun b14 => SO0 rfl ts3 rfl rfl <| RK hK13 <| w_seq fun _ hK15 => w_draw4 mixed [0, 1, 2, 3, 4, 5, 7] [6, 8] [false, false, false, false, false, false, true] [true, false] [(blk b14 3 [(Value.int .i64 ((b : Nat) : Int))]), (bund (rs5.map defd)), (bund (nest fmR fs fb)), (blk gw 117 (WatchV.cells (WatchV.mk ln ri (Slc.mk e_A e.length e_C) (Slc.mk t_A tms.length t_C) (Slc.mk fA (ln.Beams.n + 1) (ln.Beams.n + 1)) (Slc.mk bA (ln.Beams.n + 1) (ln.Beams.n + 1))))).ro, (own bA (ln.Beams.n + 1) 122 1 (List.map oC (List.replicate (ln.Beams.n + 1) (none : Option Nat)))), (blk b2 77 [(Value.pointer (some ⟨gw, 0, none⟩))]), (rd e_A e.length 1 (e.map iC)).ro, (rd t_A tms.length 1 (List.zipWith mapC tms tb)).ro, (bun (nest tmR tms tb)).ro] [(blk b14 3 [(Value.int .i64 ((b : Nat) : Int))]), (bund (rs5.map defd)), (bund (nest fmR fs fb)), (blk gw 117 (WatchV.cells (WatchV.mk ln ri (Slc.mk e_A e.length e_C) (Slc.mk t_A tms.length t_C) (Slc.mk fA (ln.Beams.n + 1) (ln.Beams.n + 1)) (Slc.mk bA (ln.Beams.n + 1) (ln.Beams.n + 1))))).ro, (own fA (ln.Beams.n + 1) 122 1 (List.map oC (fillF fb (ln.Beams.n + 1)))), (own bA (ln.Beams.n + 1) 122 1 (List.map oC (List.replicate (ln.Beams.n + 1) (none : Option Nat)))), (blk b2 77 [(Value.pointer (some ⟨gw, 0, none⟩))]), (rd e_A e.length 1 (e.map iC)).ro, (rd t_A tms.length 1 (List.zipWith mapC tms tb)).ro, (bun (nest tmR tms tb)).ro] (by kernel_rfl) (fun w hs => St.sel [0, 1, 2, 3, 5, 6, 7, 8, 9] rfl rfl hs) (fun w hs => St.sel [0, 1, 2, 3, 4, 5, 6, 7, 8, 9] rfl rfl hs) ?_
       refine eS rfl (L1W 5 rfl tk77 rfl) <| eS rfl (SX (sd_nil_p rfl rfl) rfl rfl) <| eS rfl (FA 12 rfl fo117_4 rfl) <| eS rfl (L1R (Value.slice fA (ln.Beams.n + 1) (ln.Beams.n + 1)) 3 rfl tk115 rfl rfl) <| eS rfl (L1W 0 rfl tk3 rfl) <| eS rfl (BI rfl (b_add ⟨by omega, by omega⟩)) ?_
       obtain ⟨x16, hx17⟩ : ∃ y_, (fillF fb (ln.Beams.n + 1))[(b + 1)]? = some y_ := ⟨(fillF fb (ln.Beams.n + 1))[(b + 1)]'(by omega), List.getElem?_eq_getElem _⟩
       have hx17m : (List.map oC (fillF fb (ln.Beams.n + 1)))[(b + 1)]? = some (oC x16) := by rw [List.getElem?_map, hx17]; rfl
       refine fS rfl (IA (b + 1) rfl (has_own_n (n := (ln.Beams.n + 1)) 4 rfl (by first | (simp; done) | (simp; omega))) te115 (by decide) (by omega) (by omega)) <| d_fin rfl <| t5_cons rfl fun T18 hT18 => gr_mkmap (kV := tallyU) rfl rfl fun b19 => ?_
       try dsimp only
       refine r_nil (hT18 _ _ (fun w hs => St.sel [1, 2, 3, 4, 6, 7, 8, 9, 10] rfl rfl hs) (fun w hs => St.sel [1, 2, 3, 4, 5, 6, 7, 8, 9, 10] rfl rfl hs) ?_)
       refine t_cons rfl fun T20 hT20 => ?_
       have hb21 : ((fillF fb (ln.Beams.n + 1)).set (b + 1) (some b19)) = (fillF (fb ++ [b19]) (ln.Beams.n + 1)) := by exact fillF_set (by omega) (by omega)
       refine r_store_own (k := (b + 1)) (o := 0) (vs := [(Value.map (some b19))]) (es' := (List.map oC (fillF (fb ++ [b19]) (ln.Beams.n + 1)))) (C' := [_, _, _, _, _, (own fA (ln.Beams.n + 1) 122 1 (List.map oC (fillF (fb ++ [b19]) (ln.Beams.n + 1)))), _, _, _, _, _]) 5 rfl rfl rfl ts122 rfl rfl rfl rfl hx17m rfl (by decide) (by exact (List.map_set (f := oC) (l := (fillF fb (ln.Beams.n + 1))) (i := (b + 1)) (a := (some b19))).symm.trans (congrArg _ hb21)) rfl <| RN hT20 [1, 2, 3, 4, 6, 7, 8, 9, 10] rfl rfl <| t_fin rfl <| KK hK15 <| w_seq fun _ hK22 => ?_
       have hlq23 : (fillF (fb ++ [b19]) (ln.Beams.n + 1)).length = (ln.Beams.n + 1) := fillF_len (by simp; omega)
       obtain ⟨mb, hmb⟩ : ∃ y_, fs[b]? = some y_ := ⟨fs[b]'(by omega), List.getElem?_eq_getElem _⟩
       obtain ⟨ga, hga⟩ : ∃ y_, fb[b]? = some y_ := ⟨fb[b]'(by omega), List.getElem?_eq_getElem _⟩
       refine w_out 3 hmb hga rfl rfl rfl ?_
       try dsimp only
       refine w_draw mixed 7 (by kernel_rfl) <| dS (L1W 8 rfl tk77 rfl) <| dS (SX (sd_nil_p rfl rfl) rfl rfl) <| dS (FA 12 rfl fo117_4 rfl) <| dS (L1R (Value.slice fA (ln.Beams.n + 1) (ln.Beams.n + 1)) 5 rfl tk115 rfl rfl) <| dS (L1W 3 rfl tk3 rfl) ?_
       have hk24 : (List.map oC (fillF (fb ++ [b19]) (ln.Beams.n + 1)))[b]? = some (oC (some ga)) := oC_at (fillF_at (snoc_old hga))
       refine dS (IA b rfl (has_own_n (n := (ln.Beams.n + 1)) 6 rfl (by first | (simp; done) | (simp; omega))) te115 (by decide) (by omega) (by omega)) <| dS (LE1 b 0 (Value.map (some ga)) rfl tk122 (has_own_n (n := (fillF (fb ++ [b19]) (ln.Beams.n + 1)).length) 6 rfl (by simp)) hk24 rfl (by decide) rfl) <| d_end <| gr_mrange 0 rfl rfl ut122 rfl rfl fun r25 => ?_
       try dsimp only
       refine RK hK22 <| w_block ?_
       have hinit : (∀ p ∈ mb, p ∈ mb) ∧ (LoOn (watchOf ln ri e tms) b ([] : FM)) ∧ (LoLeft (watchOf ln ri e tms) b mb ([] : FM) mb) := by exact ⟨fun p hp => hp, LoOn.start, LoLeft.start⟩
       refine w_loopD (ι := { z : FM × FM × (List Nat) // (∀ p ∈ z.1, p ∈ mb) ∧ (LoOn (watchOf ln ri e tms) b z.2.1) ∧ (LoLeft (watchOf ln ri e tms) b mb z.2.1 z.1) }) (fun z => z.1.2.2.map mark) (fun z => [(0, (Value.pointer (some ⟨gw, 0, none⟩))), (1, (Value.pointer (some ⟨b2, 0, none⟩))), (2, (Value.int .i64 ((ln.Beams.n : Nat) : Int))), (3, (Value.pointer (some ⟨b14, 0, none⟩))), (52, (Value.int .i64 ((ln.Beams.n : Nat) : Int))), (53, (Value.int .i64 ((b : Nat) : Int))), (71, (Value.pointer (some ⟨r25, 0, none⟩)))]) (fun z => [(gmi tallyU r25 ga (gmapV iV mb) (gmapV iV z.1.1) none), (bund (nestO fmR fs fb b)), (gmp tallyU b19 (gmapV iV z.1.2.1)), (blk b14 3 [(Value.int .i64 ((b : Nat) : Int))]), (bund (z.1.2.2.map defd)), (blk gw 117 (WatchV.cells (WatchV.mk ln ri (Slc.mk e_A e.length e_C) (Slc.mk t_A tms.length t_C) (Slc.mk fA (ln.Beams.n + 1) (ln.Beams.n + 1)) (Slc.mk bA (ln.Beams.n + 1) (ln.Beams.n + 1))))).ro, (own fA (ln.Beams.n + 1) 122 1 (List.map oC (fillF (fb ++ [b19]) (ln.Beams.n + 1)))), (own bA (ln.Beams.n + 1) 122 1 (List.map oC (List.replicate (ln.Beams.n + 1) (none : Option Nat)))), (blk b2 77 [(Value.pointer (some ⟨gw, 0, none⟩))]), (rd e_A e.length 1 (e.map iC)).ro, (rd t_A tms.length 1 (List.zipWith mapC tms tb)).ro, (bun (nest tmR tms tb)).ro]) (fun z => z.1.1.length) ⟨(mb, ([] : FM), rs5), hinit⟩ rfl (Sub.cons rfl <| Sub.cons rfl <| Sub.cons rfl <| Sub.cons rfl <| Sub.cons rfl <| Sub.cons rfl <| Sub.cons rfl <| Sub.nil _) (fun w hs => St.sel [0, 1, 2, 3, 4, 5, 6, 7, 8, 9, 10, 11] rfl rfl hs) ?_
       clear hinit
       rintro ⟨⟨left, m, rs9⟩, ⟨hl9_0, hl9_1, hl9_2⟩⟩ J26 hJ26
       try dsimp only at hl9_0 hl9_1 hl9_2
       try dsimp only
       refine WS fun _ hK27 => ?_
       refine gr_mnext_v gk124.inj (f := iV) 0 rfl rfl rfl rfl (fun h72 => ?_) (fun t v hm hnd => ?_)
       · refine rS (EX rfl) ?_
         refine RK hK27 <| w_seq fun _ hK28 => w_if_false rfl <| w_exit <| k_exit_then <| k_exit_then <| k_exit_same <| k_block <| KK hK12 <| w_region ?_
         refine rS (BI rfl (b_add ⟨by omega, by omega⟩)) <| rS (MV rfl) <| r_nil <| k_imp (C' := [(gmp tallyU ga (gmapV iV mb)), (bund (nestO fmR fs fb b)), (gmp tallyU b19 (gmapV iV m)), (blk b14 3 [(Value.int .i64 ((b : Nat) : Int))]), (bund (rs9.map defd)), (blk gw 117 (WatchV.cells (WatchV.mk ln ri (Slc.mk e_A e.length e_C) (Slc.mk t_A tms.length t_C) (Slc.mk fA (ln.Beams.n + 1) (ln.Beams.n + 1)) (Slc.mk bA (ln.Beams.n + 1) (ln.Beams.n + 1))))).ro, (own fA (ln.Beams.n + 1) 122 1 (List.map oC (fillF (fb ++ [b19]) (ln.Beams.n + 1)))), (own bA (ln.Beams.n + 1) 122 1 (List.map oC (List.replicate (ln.Beams.n + 1) (none : Option Nat)))), (blk b2 77 [(Value.pointer (some ⟨gw, 0, none⟩))]), (rd e_A e.length 1 (e.map iC)).ro, (rd t_A tms.length 1 (List.zipWith mapC tms tb)).ro, (bun (nest tmR tms tb)).ro]) 0 rfl gmi_mp rfl <| k_nest 1 0 hmb hga rfl rfl rfl ?_
         try dsimp only
         refine k_tie (X' := nest fmR (fs ++ [m]) (fb ++ [b19])) 0 1 rfl rfl (nest_snoc (by omega) rfl) ?_
         try dsimp only
         have hb29 : (Value.int .i64 (((b + 1) : Nat) : Int)) = (Value.int .i64 (((b : Nat) : Int) + 1)) := by exact congrArg (Value.int .i64) (by omega)
         refine k_then (hJ8 ⟨((b + 1), (fs ++ [m]), (fb ++ [b19]), rs9), ⟨by omega, by simp; omega, by simp; omega, hl5_3.add hl5_1 hmb hl9_1 hl9_2 h72⟩⟩ _ _ _ rfl (by first | omega | (simp; omega)) (Sub.cons rfl <| Sub.cons rfl <| Sub.cons rfl <| Sub.cons rfl <| sub_val rfl hb29 <| Sub.nil _) (fun w hs => St.sel [2, 0, 3, 4, 5, 6, 7, 8, 9] rfl rfl hs))
       try dsimp only
       refine rS (EX rfl) <| RK hK27 <| w_seq fun _ hK30 => w_if_true rfl <| WK hK30 <| w_block <| WS fun _ hK31 => rS (SX (gsd_mentry 0 rfl rfl rfl) rfl rfl) <| rS (EX rfl) <| rS (EX rfl) ?_
       refine AL rfl tz124 fun b32 => AL rfl tz3 fun b33 => SW1 rfl ts124 rfl <| SO0 rfl ts3 rfl rfl <| RK hK31 <| WS fun _ hK34 => rS (L1W 10 rfl tk77 rfl) <| rS (L1W 5 rfl tk3 rfl) <| cX (options_c gw b) (ha_nil) rfl fun y35 hy36 => ?_
       obtain ⟨x137, x238⟩ := y35
       try dsimp only
       refine RK hK34 <| w_block <| w_dup 13 rfl (by exact fun _ h => h) <| w_dup 15 rfl (by exact fun _ h => h) <| w_dup 17 rfl (by exact fun _ h => h) <| w_dup 12 rfl (by exact fun _ h => h) ?_
       refine w_rangeG (L0 := [(0, (Value.pointer (some ⟨gw, 0, none⟩))), (1, (Value.pointer (some ⟨b2, 0, none⟩))), (2, (Value.int .i64 ((ln.Beams.n : Nat) : Int))), (3, (Value.pointer (some ⟨b14, 0, none⟩))), (4, (Value.pointer (some ⟨b32, 0, none⟩))), (5, (Value.pointer (some ⟨b33, 0, none⟩))), (52, (Value.int .i64 ((ln.Beams.n : Nat) : Int))), (53, (Value.int .i64 ((b : Nat) : Int))), (71, (Value.pointer (some ⟨r25, 0, none⟩)))]) (F := [(rd e_A e.length 1 (e.map iC)).ro, (rd t_A tms.length 1 (List.zipWith mapC tms tb)).ro, (bun (nest tmR tms tb)).ro, (blk gw 117 (WatchV.cells (WatchV.mk ln ri (Slc.mk e_A e.length e_C) (Slc.mk t_A tms.length t_C) (Slc.mk fA (ln.Beams.n + 1) (ln.Beams.n + 1)) (Slc.mk bA (ln.Beams.n + 1) (ln.Beams.n + 1))))).ro, (blk x137 77 [(Value.pointer (some ⟨gw, 0, none⟩))]), (blk x238 3 [(Value.int .i64 ((b : Nat) : Int))])])  (fun k (y : FM) => (LoInv (watchOf ln ri e tms) b mb left y (t, v) k)) (fun k y => [(blk b33 3 [(Value.int .i64 v)]), (blk b32 124 (TallyV.cells t)), (gmi tallyU r25 ga (gmapV iV mb) (gmapV iV (gdelK left t)) (some (t, (Value.int .i64 v)))), (bund (nestO fmR fs fb b)), (gmp tallyU b19 (gmapV iV y)), (blk b14 3 [(Value.int .i64 ((b : Nat) : Int))]), (bund (rs9.map defd)), (blk gw 117 (WatchV.cells (WatchV.mk ln ri (Slc.mk e_A e.length e_C) (Slc.mk t_A tms.length t_C) (Slc.mk fA (ln.Beams.n + 1) (ln.Beams.n + 1)) (Slc.mk bA (ln.Beams.n + 1) (ln.Beams.n + 1))))).ro, (own fA (ln.Beams.n + 1) 122 1 (List.map oC (fillF (fb ++ [b19]) (ln.Beams.n + 1)))), (own bA (ln.Beams.n + 1) 122 1 (List.map oC (List.replicate (ln.Beams.n + 1) (none : Option Nat)))), (blk b2 77 [(Value.pointer (some ⟨gw, 0, none⟩))]), (rd e_A e.length 1 (e.map iC)).ro, (rd t_A tms.length 1 (List.zipWith mapC tms tb)).ro, (bun (nest tmR tms tb)).ro]) (fun _ (_ : Unit) => False) (fun _ _ => []) [6, 7, 8, 9, 10, 11, 12, 13, 14, 15, 16, 17, 18, 19] [3, 2, 1, 0, 4, 5] m rfl rfl (options1_c ln ri e tms e_A e_C tb t_A t_C fA (ln.Beams.n + 1) (ln.Beams.n + 1) bA (ln.Beams.n + 1) (ln.Beams.n + 1) gw b x137 x238 (by omega) (by omega)) rfl rfl rfl (by exact LoInv.start hl9_1 hl9_2) (by simp only [List.forall_mem_cons, List.not_mem_nil, false_imp_iff, implies_true, and_true]; exact ⟨⟨_, List.mem_of_getElem? (i := 0) rfl, (cov_ro (cov_refl _))⟩, ⟨_, List.mem_of_getElem? (i := 1) rfl, (cov_ro (cov_refl _))⟩, ⟨_, List.mem_of_getElem? (i := 2) rfl, (cov_ro (cov_refl _))⟩, ⟨_, List.mem_of_getElem? (i := 3) rfl, (cov_ro (cov_refl _))⟩, ⟨_, List.mem_of_getElem? (i := 4) rfl, (cov_refl _)⟩, ⟨_, List.mem_of_getElem? (i := 5) rfl, (cov_refl _)⟩⟩) (by rintro k x k2 ⟨o, _, rfl, _⟩; rfl) rfl (Sub.cons rfl <| Sub.cons rfl <| Sub.cons rfl <| Sub.cons rfl <| Sub.cons rfl <| Sub.cons rfl <| Sub.cons rfl <| Sub.cons rfl <| Sub.cons rfl <| Sub.nil _) ?_ ?_ (fun _ _ _ h => h.elim) (fun _ _ h => h.elim)
       rotate_left 1
       · rintro r53 k m2 hfin hin54
         have hr0 := hin54
         try dsimp only
         refine k_block <| k_block <| k_tief (X := rs9.map defd) 13 0 rfl rfl ?_
         try dsimp only
         refine k_imp (C' := [(bund ((r53 :: rs9).map defd)), (rd e_A e.length 1 (e.map iC)).ro, (rd t_A tms.length 1 (List.zipWith mapC tms tb)).ro, (bun (nest tmR tms tb)).ro, (blk gw 117 (WatchV.cells (WatchV.mk ln ri (Slc.mk e_A e.length e_C) (Slc.mk t_A tms.length t_C) (Slc.mk fA (ln.Beams.n + 1) (ln.Beams.n + 1)) (Slc.mk bA (ln.Beams.n + 1) (ln.Beams.n + 1))))).ro, (blk x137 77 [(Value.pointer (some ⟨gw, 0, none⟩))]), (blk x238 3 [(Value.int .i64 ((b : Nat) : Int))]), (blk b33 3 [(Value.int .i64 v)]), (blk b32 124 (TallyV.cells t)), (gmi tallyU r25 ga (gmapV iV mb) (gmapV iV (gdelK left t)) none), (bund (nestO fmR fs fb b)), (gmp tallyU b19 (gmapV iV m2)), (blk b14 3 [(Value.int .i64 ((b : Nat) : Int))]), (blk gw 117 (WatchV.cells (WatchV.mk ln ri (Slc.mk e_A e.length e_C) (Slc.mk t_A tms.length t_C) (Slc.mk fA (ln.Beams.n + 1) (ln.Beams.n + 1)) (Slc.mk bA (ln.Beams.n + 1) (ln.Beams.n + 1))))).ro, (own fA (ln.Beams.n + 1) 122 1 (List.map oC (fillF (fb ++ [b19]) (ln.Beams.n + 1)))), (own bA (ln.Beams.n + 1) 122 1 (List.map oC (List.replicate (ln.Beams.n + 1) (none : Option Nat)))), (blk b2 77 [(Value.pointer (some ⟨gw, 0, none⟩))]), (rd e_A e.length 1 (e.map iC)).ro, (rd t_A tms.length 1 (List.zipWith mapC tms tb)).ro, (bun (nest tmR tms tb)).ro]) 9 rfl gmi_none rfl ?_
         refine k_then (hJ26 ⟨((gdelK left t), m2, (r53 :: rs9)), ⟨left_sub hl9_0, hr0.on, hr0.next hnd hm hfin⟩⟩ _ _ _ rfl (gdelK_lt hm) (Sub.cons rfl <| Sub.cons rfl <| Sub.cons rfl <| Sub.cons rfl <| Sub.cons rfl <| Sub.cons rfl <| Sub.cons rfl <| Sub.nil _) (fun w hs => St.sel [9, 10, 11, 12, 0, 4, 14, 15, 16, 1, 2, 3] rfl rfl hs))
       rintro k x k2 m2 l ra rb S w1 K39 Qr40 hsz hx hin41 hK39 hQr40 xQr40 yQr40
       obtain ⟨o, ho, rfl, rfl⟩ := hx
       have hr0 := hin41
       try dsimp only
       refine WS fun _ hK42 => rS (AG rfl) <| RK hK42 <| w_region <| AL rfl tz47 fun b43 => SW0 rfl ts47 rfl <| r_nil <| k_sub (fun _ _ h => h) (fun w hs => St.sel [1, 0, 2, 3, 4, 5, 6, 7, 8, 9, 10, 11, 12, 13, 14, 15] rfl rfl hs) ?_
       refine k_then (hK39 _ _ ?_)
       refine w_block <| w_seq fun _ hK44 => w_draw4 mixed [0, 1, 2, 3, 4, 5, 6, 7, 8, 9, 10, 11, 12, 13, 14, 15, 17] [16, 18] [false, false, false, false, false, false, false, false, false, false, false, false, false, false, false, false, false] [false, false] [(obj l (.loop rb)), (blk b43 47 (SpanV.cells o.2)), (blk b33 3 [(Value.int .i64 v)]), (blk b32 124 (TallyV.cells t)), (gmi tallyU r25 ga (gmapV iV mb) (gmapV iV (gdelK left t)) (some (t, (Value.int .i64 v)))), (bund (nestO fmR fs fb b)), (gmp tallyU b19 (gmapV iV m2)), (blk b14 3 [(Value.int .i64 ((b : Nat) : Int))]), (bund (rs9.map defd)), (blk gw 117 (WatchV.cells (WatchV.mk ln ri (Slc.mk e_A e.length e_C) (Slc.mk t_A tms.length t_C) (Slc.mk fA (ln.Beams.n + 1) (ln.Beams.n + 1)) (Slc.mk bA (ln.Beams.n + 1) (ln.Beams.n + 1))))).ro, (own fA (ln.Beams.n + 1) 122 1 (List.map oC (fillF (fb ++ [b19]) (ln.Beams.n + 1)))), (own bA (ln.Beams.n + 1) 122 1 (List.map oC (List.replicate (ln.Beams.n + 1) (none : Option Nat)))), (blk b2 77 [(Value.pointer (some ⟨gw, 0, none⟩))]), (rd e_A e.length 1 (e.map iC)).ro, (rd t_A tms.length 1 (List.zipWith mapC tms tb)).ro, (bun (nest tmR tms tb)).ro] [] (by kernel_rfl) (fun w hs => St.sel [0, 1, 2, 3, 4, 5, 6, 7, 8, 9, 10, 11, 12, 13, 14, 15] rfl rfl hs) (fun w hs => St.sel [] rfl rfl hs) <| eS rfl (L1W 2 rfl tk3 rfl) <| eS rfl (L1W 12 rfl tk77 rfl) <| eS rfl (SX (sd_nil_p rfl rfl) rfl rfl) <| eS rfl (FA 10 rfl fo117_2 rfl) <| eS rfl (L1R (Value.slice e_A e.length e_C) 9 rfl tk35 rfl rfl) <| eS rfl (L1W 7 rfl tk3 rfl) ?_
       obtain ⟨y, hy⟩ : ∃ y_, e[b]? = some y_ := ⟨e[b]'(by omega), List.getElem?_eq_getElem _⟩
       have hym : (e.map iC)[b]? = some (iC y) := by rw [List.getElem?_map, hy]; rfl
       refine eS rfl (IA b rfl (has_at 13 rfl) te35 (by decide) (by omega) (by omega)) <| eS rfl (LE1 b 0 (Value.int .i64 y) rfl tk3 (has_at 13 rfl) hym rfl (by decide) rfl) ?_
       have hlb := hw.least y (List.mem_of_getElem? hy)
       have hp := hl5_3.mem hmb (hl9_0 _ hm)
       have hfp := fwd_b hw _ _ hp
       have ho1 := oneT_b o.1
       have hob := hw.opt ho
       have hnw := hw.now
       dsimp only at hfp
       refine eS rfl (BI rfl (b_add ⟨by omega, by omega⟩)) <| eS rfl (FA 0 rfl fo47_0 rfl) <| eS rfl (L1 (Value.int .i64 o.2.Lo) 1 rfl tk3 rfl rfl) <| eS rfl (MX rfl) <| eS rfl (LW 3 rfl tk124 rfl rfl) <| eS rfl (MV rfl) <| eS rfl (CL (one_c o.1) (ha_nil) rfl) <| eS rfl (CL (tplus_c t (oneT o.1) (by first | assumption | omega | (simp; done) | (simp; omega)) (by first | assumption | omega | (simp; done) | (simp; omega))) (ha_nil) rfl) <| eS rfl (AG rfl) <| d_fin rfl ?_
       refine t_cons rfl fun T45 hT45 => AL rfl tz124 fun b46 => RN hT45 [1, 2, 3, 4, 5, 6, 7, 8, 9, 10, 11, 12, 13, 14, 15, 16] rfl rfl <| t_cons rfl fun T47 hT47 => SW0 rfl ts124 rfl <| RN hT47 [1, 2, 3, 4, 5, 6, 7, 8, 9, 10, 11, 12, 13, 14, 15, 16] rfl rfl <| t_fin rfl <| KK hK44 <| w_seq fun _ hK48 => w_draw mixed 15 (by kernel_rfl) ?_
       refine dS (L1W 13 rfl tk77 rfl) <| dS (SX (sd_nil_p rfl rfl) rfl rfl) <| dS (FA 12 rfl fo117_4 rfl) <| dS (L1R (Value.slice fA (ln.Beams.n + 1) (ln.Beams.n + 1)) 10 rfl tk115 rfl rfl) <| dS (L1W 8 rfl tk3 rfl) <| dS (BI rfl (b_add ⟨by omega, by omega⟩)) ?_
       have hk49 : (List.map oC (fillF (fb ++ [b19]) (ln.Beams.n + 1)))[(b + 1)]? = some (oC (some b19)) := oC_at (fillF_at (snoc_at (by omega)))
       refine dS (IA (b + 1) rfl (has_own_n (n := (ln.Beams.n + 1)) 11 rfl (by first | (simp; done) | (simp; omega))) te115 (by decide) (by omega) (by omega)) <| dS (LE1 (b + 1) 0 (Value.map (some b19)) rfl tk122 (has_own_n (n := (fillF (fb ++ [b19]) (ln.Beams.n + 1)).length) 11 rfl (by simp)) hk49 rfl (by decide) rfl) <| dS (LW 0 rfl tk124 rfl rfl) <| dS (SX (gsd_look_v (kV := tallyU) (x := (addT t (oneT o.1))) (l := m2) (f := iV) (z := 0) rfl rfl rfl ut122 gk124 tv3 (by exact has_at 7 rfl)) rfl rfl) <| dS (MV rfl) <| dS (EX rfl) <| dS (EX rfl) <| dS (AG rfl) <| dS (AG rfl) <| d_end ?_
       refine RK hK48 <| w_seq fun _ hK50 => w_draw mixed 19 (by kernel_rfl) <| dS (MV rfl) <| dS (FA 1 rfl fo47_1 rfl) <| dS (L1 (Value.int .i64 o.2.Hi) 2 rfl tk3 rfl rfl) <| dS (L1W 13 rfl tk77 rfl) <| dS (SX (sd_nil_p rfl rfl) rfl rfl) <| dS (FA 7 rfl fo117_1 rfl) <| dS (FA 8 rfl fo31_1 rfl) ?_
       refine dS (L1R (Value.int .i64 ri.Now) 10 rfl tk3 rfl rfl) <| dS (MN rfl) <| dS (BI rfl b_leq) <| dS (MV rfl) ?_
       refine d_bool (t := 121) rfl (fun h121 => ?_) (fun h121 => ?_)
       rotate_left 1
       · replace h121 := DF h121
         refine dS (OX rfl) <| dS (OX rfl) <| dS (OX rfl) <| dS (OX rfl) <| dS (OX rfl) <| dS (OX rfl) <| dS (OX rfl) <| dS (PK rfl) <| d_end <| RK hK50 ?_
         refine w_if_false rfl <| w_skip <| k_block ?_
         exact hQr40 m2 _ _ (by first | exact hr0.skip (fwdO_off hy h121) | exact hr0.keep (fwdO_at hy h121) (by simpa using h124) h129 | exact hr0.set hp ho (fwdO_at hy h121) (.inl (by simpa using h124)) | exact hr0.set hp ho (fwdO_at hy h121) (.inr h129)) (fun w hs => St.sel [1, 3, 4, 5, 6, 7, 8, 9, 10, 11, 12, 13, 14, 15, 16] rfl rfl hs)
       replace h121 := DT h121
       refine dS (MV rfl) <| dS (NT rfl) <| dS (MV rfl) ?_
       refine d_bool (t := 124) rfl (fun h124 => ?_) (fun h124 => ?_)
       · rw [Bool.not_eq_true'] at h124
         refine dS (OX rfl) <| dS (OX rfl) <| dS (OX rfl) <| dS (PK rfl) <| dS (PK rfl) <| d_end <| RK hK50 <| w_if_true rfl <| w_draw mixed 10 (by kernel_rfl) <| dS (L1W 13 rfl tk77 rfl) ?_
         refine dS (SX (sd_nil_p rfl rfl) rfl rfl) <| dS (FA 12 rfl fo117_4 rfl) <| dS (L1R (Value.slice fA (ln.Beams.n + 1) (ln.Beams.n + 1)) 10 rfl tk115 rfl rfl) <| dS (L1W 8 rfl tk3 rfl) <| dS (BI rfl (b_add ⟨by omega, by omega⟩)) ?_
         have hk51 : (List.map oC (fillF (fb ++ [b19]) (ln.Beams.n + 1)))[(b + 1)]? = some (oC (some b19)) := oC_at (fillF_at (snoc_at (by omega)))
         refine dS (IA (b + 1) rfl (has_own_n (n := (ln.Beams.n + 1)) 11 rfl (by first | (simp; done) | (simp; omega))) te115 (by decide) (by omega) (by omega)) <| dS (LE1 (b + 1) 0 (Value.map (some b19)) rfl tk122 (has_own_n (n := (fillF (fb ++ [b19]) (ln.Beams.n + 1)).length) 11 rfl (by simp)) hk51 rfl (by decide) rfl) <| dS (LW 0 rfl tk124 rfl rfl) <| dS (MV rfl) <| d_end <| gr_mapset (kV := tallyU) (x := (addT t (oneT o.1))) (C' := [_, _, _, _, _, _, _, (gmp tallyU b19 (gmapV iV (gsetK m2 (addT t (oneT o.1)) (max (v + y) o.2.Lo)))), _, _, _, _, _, _, _, _, _]) 7 rfl rfl rfl rfl ut122 gk124 rfl (gmapV_setK _ _ _ _).symm rfl <| r_nil <| k_block ?_
         exact hQr40 (gsetK m2 (addT t (oneT o.1)) (max (v + y) o.2.Lo)) _ _ (by first | exact hr0.skip (fwdO_off hy h121) | exact hr0.keep (fwdO_at hy h121) (by simpa using h124) h129 | exact hr0.set hp ho (fwdO_at hy h121) (.inl (by simpa using h124)) | exact hr0.set hp ho (fwdO_at hy h121) (.inr h129)) (fun w hs => St.sel [1, 3, 4, 5, 6, 7, 8, 9, 10, 11, 12, 13, 14, 15, 16] rfl rfl hs)
       rw [Bool.not_eq_false'] at h124
       refine dS (MV rfl) <| dS (MV rfl) <| dS (BI rfl b_lss) <| dS (PK rfl) <| dS (PK rfl) <| d_end <| RK hK50 ?_
       refine w_if rfl (fun h129 => ?_) (fun h129 => ?_)
       rotate_left 1
       · replace h129 := DF h129
         refine w_skip <| k_block ?_
         exact hQr40 m2 _ _ (by first | exact hr0.skip (fwdO_off hy h121) | exact hr0.keep (fwdO_at hy h121) (by simpa using h124) h129 | exact hr0.set hp ho (fwdO_at hy h121) (.inl (by simpa using h124)) | exact hr0.set hp ho (fwdO_at hy h121) (.inr h129)) (fun w hs => St.sel [1, 3, 4, 5, 6, 7, 8, 9, 10, 11, 12, 13, 14, 15, 16] rfl rfl hs)
       replace h129 := DT h129
       refine w_draw mixed 10 (by kernel_rfl) <| dS (L1W 13 rfl tk77 rfl) <| dS (SX (sd_nil_p rfl rfl) rfl rfl) <| dS (FA 12 rfl fo117_4 rfl) <| dS (L1R (Value.slice fA (ln.Beams.n + 1) (ln.Beams.n + 1)) 10 rfl tk115 rfl rfl) <| dS (L1W 8 rfl tk3 rfl) <| dS (BI rfl (b_add ⟨by omega, by omega⟩)) ?_
       have hk52 : (List.map oC (fillF (fb ++ [b19]) (ln.Beams.n + 1)))[(b + 1)]? = some (oC (some b19)) := oC_at (fillF_at (snoc_at (by omega)))
       refine dS (IA (b + 1) rfl (has_own_n (n := (ln.Beams.n + 1)) 11 rfl (by first | (simp; done) | (simp; omega))) te115 (by decide) (by omega) (by omega)) <| dS (LE1 (b + 1) 0 (Value.map (some b19)) rfl tk122 (has_own_n (n := (fillF (fb ++ [b19]) (ln.Beams.n + 1)).length) 11 rfl (by simp)) hk52 rfl (by decide) rfl) <| dS (LW 0 rfl tk124 rfl rfl) <| dS (MV rfl) <| d_end <| gr_mapset (kV := tallyU) (x := (addT t (oneT o.1))) (C' := [_, _, _, _, _, _, _, (gmp tallyU b19 (gmapV iV (gsetK m2 (addT t (oneT o.1)) (max (v + y) o.2.Lo)))), _, _, _, _, _, _, _, _, _]) 7 rfl rfl rfl rfl ut122 gk124 rfl (gmapV_setK _ _ _ _).symm rfl <| r_nil <| k_block ?_
       exact hQr40 (gsetK m2 (addT t (oneT o.1)) (max (v + y) o.2.Lo)) _ _ (by first | exact hr0.skip (fwdO_off hy h121) | exact hr0.keep (fwdO_at hy h121) (by simpa using h124) h129 | exact hr0.set hp ho (fwdO_at hy h121) (.inl (by simpa using h124)) | exact hr0.set hp ho (fwdO_at hy h121) (.inr h129)) (fun w hs => St.sel [1, 3, 4, 5, 6, 7, 8, 9, 10, 11, 12, 13, 14, 15, 16] rfl rfl hs)
     replace h11 := DF h11
     refine w_exit <| k_exit_then <| k_exit_then <| k_exit_same <| KK hK6 <| WS fun _ hK55 => rS (MV rfl) <| AL rfl tz3 fun b56 => SO0 rfl ts3 rfl rfl <| RK hK55 ?_
     refine w_block ?_
     rw [fillB_nil]
     refine w_tie0 ?_
     have hinit : (0 ≤ ln.Beams.n + 1) ∧ (([] : List FM).length = 0) ∧ (([] : List Nat).length = 0) ∧ (BackTo (watchOf ln ri e tms) (ln.Beams.n + 1 - 0) ([] : List FM)) := by exact ⟨Nat.zero_le _, rfl, rfl, BackTo.none_⟩
     refine w_loopD (ι := { z : Nat × (List FM) × (List Nat) × Nat × (List Nat) // (z.1 ≤ ln.Beams.n + 1) ∧ (z.2.1.length = z.1) ∧ (z.2.2.1.length = z.1) ∧ (BackTo (watchOf ln ri e tms) (ln.Beams.n + 1 - z.1) z.2.1) }) (fun z => z.1.2.2.2.2.map mark) (fun z => [(0, (Value.pointer (some ⟨gw, 0, none⟩))), (1, (Value.pointer (some ⟨b2, 0, none⟩))), (2, (Value.int .i64 ((ln.Beams.n : Nat) : Int))), (12, (Value.pointer (some ⟨z.1.2.2.2.1, 0, none⟩)))]) (fun z => [(bund (nest fmR z.1.2.1 z.1.2.2.1)), (blk z.1.2.2.2.1 3 [(Value.int .i64 (((ln.Beams.n : Nat) : Int) - ((z.1.1 : Nat) : Int)))]), (bund (z.1.2.2.2.2.map defd)), (bund (nest fmR fs fb)), (blk gw 117 (WatchV.cells (WatchV.mk ln ri (Slc.mk e_A e.length e_C) (Slc.mk t_A tms.length t_C) (Slc.mk fA (ln.Beams.n + 1) (ln.Beams.n + 1)) (Slc.mk bA (ln.Beams.n + 1) (ln.Beams.n + 1))))).ro, (own fA (ln.Beams.n + 1) 122 1 (List.map oC (fillF fb (ln.Beams.n + 1)))), (own bA (ln.Beams.n + 1) 122 1 (List.map oC (fillB z.1.2.2.1 (ln.Beams.n + 1)))), (blk b2 77 [(Value.pointer (some ⟨gw, 0, none⟩))]), (rd e_A e.length 1 (e.map iC)).ro, (rd t_A tms.length 1 (List.zipWith mapC tms tb)).ro, (bun (nest tmR tms tb)).ro]) (fun z => ln.Beams.n + 1 - z.1.1) ⟨(0, ([] : List FM), ([] : List Nat), b56, rs5), hinit⟩ rfl (Sub.cons rfl <| Sub.cons rfl <| Sub.cons rfl <| Sub.cons rfl <| Sub.nil _) (fun w hs => St.sel [0, 1, 2, 3, 4, 5, 6, 7, 8, 9, 10] rfl rfl hs) ?_
     clear hinit
     rintro ⟨⟨j, bs, bb, gq, rs20⟩, ⟨hl20_0, hl20_1, hl20_2, hl20_3⟩⟩ J57 hJ57
     try dsimp only at hl20_0 hl20_1 hl20_2 hl20_3
     try dsimp only
     refine w_seq fun _ hK58 => WS fun _ hK59 => rS (L1W 1 rfl tk3 rfl) <| rS (BI rfl b_geq) <| RK hK59 ?_
     refine w_if rfl (fun h143 => ?_) (fun h143 => ?_)
     rotate_left 1
     · replace h143 := DF h143
       refine w_exit <| k_exit_then <| k_exit_then <| k_exit_same ?_
       rw [show (List.map oC (fillF fb (ln.Beams.n + 1))) = (List.zipWith mapC fs fb) from by rw [fillF_all (by omega)]; exact (zip_oC (by omega)).symm]
       rw [show (List.map oC (fillB bb (ln.Beams.n + 1))) = (List.zipWith mapC bs bb) from by rw [fillB_all (by omega)]; exact (zip_oC (by omega)).symm]
       refine k_thaw (C1 := [(own fA (ln.Beams.n + 1) 122 1 (List.zipWith mapC fs fb)), (bund (nest fmR fs fb)), (own bA (ln.Beams.n + 1) 122 1 (List.zipWith mapC bs bb)), (bund (nest fmR bs bb)), (bund (rs20.map defd))]) hz [5, 3, 6, 0, 2] rfl rfl (by simp only [List.all_cons, List.all_nil, fm_wr, defd_wr, Bool.and_true]; rfl) ?_
       rw [show (blk gw 117 (WatchV.cells (WatchV.mk ln ri (Slc.mk e_A e.length e_C) (Slc.mk t_A tms.length t_C) (Slc.mk fA (ln.Beams.n + 1) (ln.Beams.n + 1)) (Slc.mk bA (ln.Beams.n + 1) (ln.Beams.n + 1))))) = (blk gw 117 (WatchV.cells (WatchV.mk ln ri (Slc.mk e_A e.length e_C) (Slc.mk t_A tms.length t_C) (Slc.mk fA fs.length (ln.Beams.n + 1)) (Slc.mk bA bs.length (ln.Beams.n + 1))))) from by rw [show fs.length = (ln.Beams.n + 1) from by omega, show bs.length = (ln.Beams.n + 1) from by omega]]
       refine k_tied [(blk gw 117 (WatchV.cells (WatchV.mk ln ri (Slc.mk e_A e.length e_C) (Slc.mk t_A tms.length t_C) (Slc.mk fA fs.length (ln.Beams.n + 1)) (Slc.mk bA bs.length (ln.Beams.n + 1))))), (own fA (ln.Beams.n + 1) 122 1 (List.zipWith mapC fs fb)), (bund (nest fmR fs fb)), (own bA (ln.Beams.n + 1) 122 1 (List.zipWith mapC bs bb)), (bund (nest fmR bs bb))] [(bund (rs20.map defd))] ?_
       refine hN _ _ _ (l_marks0 1 rfl rfl <| l_nil (vs := []) trivial fun w hs => endM (fs, fb, fA, (ln.Beams.n + 1), bs, bb, bA, (ln.Beams.n + 1)) 0 ?_ ?_ rfl (by show List.all _ _ = true; simp only [List.all_cons, List.all_nil, fm_wr, Bool.and_true]; rfl) hs)
       · clear hs w hQ hN hK59 hK58 hK55 hK10 hK9 hK7 hK6 hK3 hK1; rfl
       · clear hs w hQ hN hK59 hK58 hK55 hK10 hK9 hK7 hK6 hK3 hK1; exact ⟨hl5_3.ok (by show fs.length = e.length + 1; omega), BackTo.ok (by have := hl20_3; rwa [show ln.Beams.n + 1 - j = 0 by omega] at this) (by show bs.length = e.length + 1; omega), by dsimp only; omega, by dsimp only; omega⟩
     replace h143 := DT h143
     refine WK hK58 <| w_seq fun _ hK60 => w_block <| w_seq fun _ hK61 => ?_
     obtain ⟨b, hbj⟩ : ∃ b : Nat, b + j = ln.Beams.n := ⟨ln.Beams.n - j, by omega⟩
     rw [show ((ln.Beams.n : Nat) : Int) - ((j : Nat) : Int) = ((b : Nat) : Int) from by omega]
     have hlb0 : (fillB bb (ln.Beams.n + 1)).length = (ln.Beams.n + 1) := fillB_len (by omega)
     refine w_draw4 mixed [0, 1, 2, 3, 4, 6, 7, 8, 9, 10, 11, 14] [5, 12, 13, 15] [false, false, false, false, false, false, false, false, false, false, false, true] [true, true, true, false] [(bund (nest fmR bs bb)), (blk gq 3 [(Value.int .i64 ((b : Nat) : Int))]), (bund (rs20.map defd)), (bund (nest fmR fs fb)), (blk gw 117 (WatchV.cells (WatchV.mk ln ri (Slc.mk e_A e.length e_C) (Slc.mk t_A tms.length t_C) (Slc.mk fA (ln.Beams.n + 1) (ln.Beams.n + 1)) (Slc.mk bA (ln.Beams.n + 1) (ln.Beams.n + 1))))).ro, (own fA (ln.Beams.n + 1) 122 1 (List.map oC (fillF fb (ln.Beams.n + 1)))), (blk b2 77 [(Value.pointer (some ⟨gw, 0, none⟩))]), (rd e_A e.length 1 (e.map iC)).ro, (rd t_A tms.length 1 (List.zipWith mapC tms tb)).ro, (bun (nest tmR tms tb)).ro] [(bund (nest fmR bs bb)), (blk gq 3 [(Value.int .i64 ((b : Nat) : Int))]), (bund (rs20.map defd)), (bund (nest fmR fs fb)), (blk gw 117 (WatchV.cells (WatchV.mk ln ri (Slc.mk e_A e.length e_C) (Slc.mk t_A tms.length t_C) (Slc.mk fA (ln.Beams.n + 1) (ln.Beams.n + 1)) (Slc.mk bA (ln.Beams.n + 1) (ln.Beams.n + 1))))).ro, (own fA (ln.Beams.n + 1) 122 1 (List.map oC (fillF fb (ln.Beams.n + 1)))), (own bA (ln.Beams.n + 1) 122 1 (List.map oC (fillB bb (ln.Beams.n + 1)))), (blk b2 77 [(Value.pointer (some ⟨gw, 0, none⟩))]), (rd e_A e.length 1 (e.map iC)).ro, (rd t_A tms.length 1 (List.zipWith mapC tms tb)).ro, (bun (nest tmR tms tb)).ro] (by kernel_rfl) (fun w hs => St.sel [0, 1, 2, 3, 4, 5, 7, 8, 9, 10] rfl rfl hs) (fun w hs => St.sel [0, 1, 2, 3, 4, 5, 6, 7, 8, 9, 10] rfl rfl hs) <| eS rfl (L1W 6 rfl tk77 rfl) <| eS rfl (SX (sd_nil_p rfl rfl) rfl rfl) <| eS rfl (FA 13 rfl fo117_5 rfl) <| eS rfl (L1R (Value.slice bA (ln.Beams.n + 1) (ln.Beams.n + 1)) 4 rfl tk115 rfl rfl) <| eS rfl (L1W 1 rfl tk3 rfl) <| eS rfl (SX (sd_build (xs := []) (cs := (TallyV.cells (TallyV.mk 0 0))) rfl rfl (built_of tb124 rfl)) rfl rfl) <| eS rfl (L1W 6 rfl tk77 rfl) <| eS rfl (SX (sd_nil_p rfl rfl) rfl rfl) <| eS rfl (FA 7 rfl fo117_1 rfl) ?_
     refine eS rfl (FA 8 rfl fo31_1 rfl) <| eS rfl (L1R (Value.int .i64 ri.Now) 4 rfl tk3 rfl rfl) ?_
     obtain ⟨x62, hx63⟩ : ∃ y_, (fillB bb (ln.Beams.n + 1))[b]? = some y_ := ⟨(fillB bb (ln.Beams.n + 1))[b]'(by omega), List.getElem?_eq_getElem _⟩
     have hx63m : (List.map oC (fillB bb (ln.Beams.n + 1)))[b]? = some (oC x62) := by rw [List.getElem?_map, hx63]; rfl
     refine fS rfl (IA b rfl (has_own_n (n := (ln.Beams.n + 1)) 6 rfl (by first | (simp; done) | (simp; omega))) te115 (by decide) (by omega) (by omega)) <| d_fin rfl <| t5_cons rfl fun T64 hT64 => gr_mkmap (kV := tallyU) rfl rfl fun b65 => ?_
     try dsimp only
     refine r_nil (hT64 _ _ (fun w hs => St.sel [1, 2, 3, 4, 5, 6, 8, 9, 10, 11] rfl rfl hs) (fun w hs => St.sel [1, 2, 3, 4, 5, 6, 7, 8, 9, 10, 11] rfl rfl hs) ?_)
     refine t5_cons rfl fun T66 hT66 => ?_
     have hb67 : (gsetK ([] : List (TallyV × Int)) (TallyV.mk 0 0) ri.Now) = [((TallyV.mk 0 0), ri.Now)] := by rfl
     refine gr_mapins (kV := tallyU) (x := (TallyV.mk 0 0)) (C' := [(gmp tallyU b65 (gmapV iV ([((TallyV.mk 0 0), ri.Now)]))), _, _, _, _, _, _, _, _, _, _, _]) 0 rfl rfl rfl rfl ut122 gk124 rfl ((gmapV_setK _ _ _ _).symm.trans (congrArg _ hb67)) rfl ?_
     refine r_nil (hT66 _ _ (fun w hs => St.sel [1, 2, 3, 4, 5, 6, 8, 9, 10, 11] rfl rfl hs) (fun w hs => St.sel [1, 2, 3, 4, 5, 6, 7, 8, 9, 10, 11] rfl rfl hs) ?_)
     refine t5_cons rfl fun T68 hT68 => rS (MV rfl) ?_
     refine r_nil (hT68 _ _ (fun w hs => St.sel [1, 2, 3, 4, 5, 6, 8, 9, 10, 11] rfl rfl hs) (fun w hs => St.sel [1, 2, 3, 4, 5, 6, 7, 8, 9, 10, 11] rfl rfl hs) ?_)
     refine t_cons rfl fun T69 hT69 => ?_
     have hb70 : ((fillB bb (ln.Beams.n + 1)).set b (some b65)) = (fillB (b65 :: bb) (ln.Beams.n + 1)) := by exact fillB_set (by omega)
     refine r_store_own (k := b) (o := 0) (vs := [(Value.map (some b65))]) (es' := (List.map oC (fillB (b65 :: bb) (ln.Beams.n + 1)))) (C' := [_, _, _, _, _, _, _, (own bA (ln.Beams.n + 1) 122 1 (List.map oC (fillB (b65 :: bb) (ln.Beams.n + 1)))), _, _, _, _]) 7 rfl rfl rfl ts122 rfl rfl rfl rfl hx63m rfl (by decide) (by exact (List.map_set (f := oC) (l := (fillB bb (ln.Beams.n + 1))) (i := b) (a := (some b65))).symm.trans (congrArg _ hb70)) rfl <| RN hT69 [1, 2, 3, 4, 5, 6, 8, 9, 10, 11] rfl rfl <| t_fin rfl <| KK hK61 <| w_seq fun _ hK71 => WS fun _ hK72 => rS (L1W 2 rfl tk3 rfl) <| rS (MV rfl) <| rS (BI rfl b_eql) <| RK hK72 ?_
     refine w_if rfl (fun h162 => ?_) (fun h162 => ?_)
     · replace h162 := DT h162
       refine w_exit <| k_exit_then <| k_exit_same <| KK hK60 <| w_seq fun _ hK73 => WS fun _ hK74 => rS (L1W 2 rfl tk3 rfl) <| RK hK74 <| w_region <| AL rfl tz3 fun b75 => ?_
       refine SO0 rfl ts3 rfl rfl <| RK hK73 <| w_region <| rS (L1W 0 rfl tk3 rfl) <| rS (BI rfl (b_sub ⟨by omega, by omega⟩)) <| SO0 rfl ts3 rfl rfl <| r_nil ?_
       rw [show ((b : Nat) : Int) - 1 = ((ln.Beams.n : Nat) : Int) - (((j + 1) : Nat) : Int) from by omega]
       refine tie_front (ms := bs) (m := [((TallyV.mk 0 0), ri.Now)]) (a := b65) 2 1 rfl rfl rfl ?_
       try dsimp only
       refine k_then (hJ57 ⟨((j + 1), ([((TallyV.mk 0 0), ri.Now)] :: bs), (b65 :: bb), b75, rs20), ⟨by omega, by simp; omega, by simp; omega, by first | exact BackTo.end_ (b := b) hl20_3 (by omega) (by omega) (by show e.length ≤ b; omega) | exact BackTo.more (b := b) hl20_3 (by omega) (by omega) (by show b < e.length; omega) hmb hl25_1 hl25_2 h172⟩⟩ _ _ _ rfl (by first | omega | (simp; omega)) (Sub.cons rfl <| Sub.cons rfl <| Sub.cons rfl <| Sub.cons rfl <| Sub.nil _) (fun w hs => St.sel [0, 1, 3, 4, 5, 6, 7, 8, 9, 10, 11] rfl rfl hs))
     replace h162 := DF h162
     refine WK hK71 <| w_seq fun _ hK76 => ?_
     have hlq77 : (fillB (b65 :: bb) (ln.Beams.n + 1)).length = (ln.Beams.n + 1) := fillB_len (by simp; omega)
     obtain ⟨mb, hmb⟩ : ∃ y_, bs[0]? = some y_ := ⟨bs[0]'(by omega), List.getElem?_eq_getElem _⟩
     obtain ⟨ga, hga⟩ : ∃ y_, bb[0]? = some y_ := ⟨bb[0]'(by omega), List.getElem?_eq_getElem _⟩
     refine w_out 1 hmb hga rfl rfl rfl ?_
     try dsimp only
     refine w_draw mixed 8 (by kernel_rfl) <| dS (L1W 9 rfl tk77 rfl) <| dS (SX (sd_nil_p rfl rfl) rfl rfl) <| dS (FA 13 rfl fo117_5 rfl) <| dS (L1R (Value.slice bA (ln.Beams.n + 1) (ln.Beams.n + 1)) 6 rfl tk115 rfl rfl) <| dS (L1W 3 rfl tk3 rfl) <| dS (BI rfl (b_add ⟨by omega, by omega⟩)) ?_
     have hk78 : (List.map oC (fillB (b65 :: bb) (ln.Beams.n + 1)))[(b + 1)]? = some (oC (some ga)) := oC_at (fillB_at (i := 1) (by simpa using hga) (by simp; omega))
     refine dS (IA (b + 1) rfl (has_own_n (n := (ln.Beams.n + 1)) 8 rfl (by first | (simp; done) | (simp; omega))) te115 (by decide) (by omega) (by omega)) <| dS (LE1 (b + 1) 0 (Value.map (some ga)) rfl tk122 (has_own_n (n := (fillB (b65 :: bb) (ln.Beams.n + 1)).length) 8 rfl (by simp)) hk78 rfl (by decide) rfl) <| d_end <| gr_mrange 0 rfl rfl ut122 rfl rfl fun r79 => ?_
     try dsimp only
     refine RK hK76 <| w_block ?_
     have hinit : (∀ p ∈ mb, p ∈ mb) ∧ (HiOn (watchOf ln ri e tms) b ([((TallyV.mk 0 0), ri.Now)])) ∧ (HiLeft (watchOf ln ri e tms) b mb ([((TallyV.mk 0 0), ri.Now)]) mb) := by exact ⟨fun p hp => hp, HiOn.start (by show b < e.length; omega), HiLeft.start⟩
     refine w_loopD (ι := { z : FM × FM × (List Nat) // (∀ p ∈ z.1, p ∈ mb) ∧ (HiOn (watchOf ln ri e tms) b z.2.1) ∧ (HiLeft (watchOf ln ri e tms) b mb z.2.1 z.1) }) (fun z => z.1.2.2.map mark) (fun z => [(0, (Value.pointer (some ⟨gw, 0, none⟩))), (1, (Value.pointer (some ⟨b2, 0, none⟩))), (2, (Value.int .i64 ((ln.Beams.n : Nat) : Int))), (12, (Value.pointer (some ⟨gq, 0, none⟩))), (171, (Value.pointer (some ⟨r79, 0, none⟩)))]) (fun z => [(gmi tallyU r79 ga (gmapV iV mb) (gmapV iV z.1.1) none), (bund (nestO fmR bs bb 0)), (gmp tallyU b65 (gmapV iV z.1.2.1)), (blk gq 3 [(Value.int .i64 ((b : Nat) : Int))]), (bund (z.1.2.2.map defd)), (bund (nest fmR fs fb)), (blk gw 117 (WatchV.cells (WatchV.mk ln ri (Slc.mk e_A e.length e_C) (Slc.mk t_A tms.length t_C) (Slc.mk fA (ln.Beams.n + 1) (ln.Beams.n + 1)) (Slc.mk bA (ln.Beams.n + 1) (ln.Beams.n + 1))))).ro, (own fA (ln.Beams.n + 1) 122 1 (List.map oC (fillF fb (ln.Beams.n + 1)))), (own bA (ln.Beams.n + 1) 122 1 (List.map oC (fillB (b65 :: bb) (ln.Beams.n + 1)))), (blk b2 77 [(Value.pointer (some ⟨gw, 0, none⟩))]), (rd e_A e.length 1 (e.map iC)).ro, (rd t_A tms.length 1 (List.zipWith mapC tms tb)).ro, (bun (nest tmR tms tb)).ro]) (fun z => z.1.1.length) ⟨(mb, [((TallyV.mk 0 0), ri.Now)], rs20), hinit⟩ rfl (Sub.cons rfl <| Sub.cons rfl <| Sub.cons rfl <| Sub.cons rfl <| Sub.cons rfl <| Sub.nil _) (fun w hs => St.sel [0, 1, 2, 3, 4, 5, 6, 7, 8, 9, 10, 11, 12] rfl rfl hs) ?_
     clear hinit
     rintro ⟨⟨left, m, rs25⟩, ⟨hl25_0, hl25_1, hl25_2⟩⟩ J80 hJ80
     try dsimp only at hl25_0 hl25_1 hl25_2
     try dsimp only
     refine WS fun _ hK81 => ?_
     refine gr_mnext_v gk124.inj (f := iV) 0 rfl rfl rfl rfl (fun h172 => ?_) (fun t v hm hnd => ?_)
     · refine rS (EX rfl) ?_
       refine RK hK81 <| w_seq fun _ hK82 => w_if_false rfl <| w_exit <| k_exit_then <| k_exit_then <| k_exit_same <| k_block <| KK hK60 <| w_seq fun _ hK83 => ?_
       refine WS fun _ hK84 => rS (L1W 3 rfl tk3 rfl) <| RK hK84 <| w_region <| AL rfl tz3 fun b85 => SO0 rfl ts3 rfl rfl <| RK hK83 <| w_region <| rS (L1W 0 rfl tk3 rfl) <| rS (BI rfl (b_sub ⟨by omega, by omega⟩)) ?_
       refine SO0 rfl ts3 rfl rfl <| r_nil <| k_imp (C' := [(blk b85 3 [(Value.int .i64 (((b : Nat) : Int) - 1))]), (gmp tallyU ga (gmapV iV mb)), (bund (nestO fmR bs bb 0)), (gmp tallyU b65 (gmapV iV m)), (blk gq 3 [(Value.int .i64 ((b : Nat) : Int))]), (bund (rs25.map defd)), (bund (nest fmR fs fb)), (blk gw 117 (WatchV.cells (WatchV.mk ln ri (Slc.mk e_A e.length e_C) (Slc.mk t_A tms.length t_C) (Slc.mk fA (ln.Beams.n + 1) (ln.Beams.n + 1)) (Slc.mk bA (ln.Beams.n + 1) (ln.Beams.n + 1))))).ro, (own fA (ln.Beams.n + 1) 122 1 (List.map oC (fillF fb (ln.Beams.n + 1)))), (own bA (ln.Beams.n + 1) 122 1 (List.map oC (fillB (b65 :: bb) (ln.Beams.n + 1)))), (blk b2 77 [(Value.pointer (some ⟨gw, 0, none⟩))]), (rd e_A e.length 1 (e.map iC)).ro, (rd t_A tms.length 1 (List.zipWith mapC tms tb)).ro, (bun (nest tmR tms tb)).ro]) 1 rfl gmi_mp rfl <| k_nest 2 1 hmb hga rfl rfl rfl ?_
       try dsimp only
       rw [show ((b : Nat) : Int) - 1 = ((ln.Beams.n : Nat) : Int) - (((j + 1) : Nat) : Int) from by omega]
       refine tie_front (ms := bs) (m := m) (a := b65) 0 2 rfl rfl rfl ?_
       try dsimp only
       refine k_then (hJ57 ⟨((j + 1), (m :: bs), (b65 :: bb), b85, rs25), ⟨by omega, by simp; omega, by simp; omega, by first | exact BackTo.end_ (b := b) hl20_3 (by omega) (by omega) (by show e.length ≤ b; omega) | exact BackTo.more (b := b) hl20_3 (by omega) (by omega) (by show b < e.length; omega) hmb hl25_1 hl25_2 h172⟩⟩ _ _ _ rfl (by first | omega | (simp; omega)) (Sub.cons rfl <| Sub.cons rfl <| Sub.cons rfl <| Sub.cons rfl <| Sub.nil _) (fun w hs => St.sel [0, 1, 3, 4, 5, 6, 7, 8, 9, 10, 11] rfl rfl hs))
     try dsimp only
     refine rS (EX rfl) <| RK hK81 <| w_seq fun _ hK86 => w_if_true rfl <| WK hK86 <| w_block <| WS fun _ hK87 => rS (SX (gsd_mentry 0 rfl rfl rfl) rfl rfl) <| rS (EX rfl) <| rS (EX rfl) ?_
     refine AL rfl tz124 fun b88 => AL rfl tz3 fun b89 => SW1 rfl ts124 rfl <| SO0 rfl ts3 rfl rfl <| RK hK87 <| WS fun _ hK90 => rS (L1W 11 rfl tk77 rfl) <| rS (L1W 5 rfl tk3 rfl) <| cX (options_c gw b) (ha_nil) rfl fun y91 hy92 => ?_
     obtain ⟨x193, x294⟩ := y91
     try dsimp only
     refine RK hK90 <| w_block <| w_dup 14 rfl (by exact fun _ h => h) <| w_dup 16 rfl (by exact fun _ h => h) <| w_dup 18 rfl (by exact fun _ h => h) <| w_dup 13 rfl (by exact fun _ h => h) ?_
     refine w_rangeG (L0 := [(0, (Value.pointer (some ⟨gw, 0, none⟩))), (1, (Value.pointer (some ⟨b2, 0, none⟩))), (2, (Value.int .i64 ((ln.Beams.n : Nat) : Int))), (12, (Value.pointer (some ⟨gq, 0, none⟩))), (13, (Value.pointer (some ⟨b88, 0, none⟩))), (14, (Value.pointer (some ⟨b89, 0, none⟩))), (171, (Value.pointer (some ⟨r79, 0, none⟩)))]) (F := [(rd e_A e.length 1 (e.map iC)).ro, (rd t_A tms.length 1 (List.zipWith mapC tms tb)).ro, (bun (nest tmR tms tb)).ro, (blk gw 117 (WatchV.cells (WatchV.mk ln ri (Slc.mk e_A e.length e_C) (Slc.mk t_A tms.length t_C) (Slc.mk fA (ln.Beams.n + 1) (ln.Beams.n + 1)) (Slc.mk bA (ln.Beams.n + 1) (ln.Beams.n + 1))))).ro, (blk x193 77 [(Value.pointer (some ⟨gw, 0, none⟩))]), (blk x294 3 [(Value.int .i64 ((b : Nat) : Int))])])  (fun k (y : FM) => (HiInv (watchOf ln ri e tms) b mb left y (t, v) k)) (fun k y => [(blk b89 3 [(Value.int .i64 v)]), (blk b88 124 (TallyV.cells t)), (gmi tallyU r79 ga (gmapV iV mb) (gmapV iV (gdelK left t)) (some (t, (Value.int .i64 v)))), (bund (nestO fmR bs bb 0)), (gmp tallyU b65 (gmapV iV y)), (blk gq 3 [(Value.int .i64 ((b : Nat) : Int))]), (bund (rs25.map defd)), (bund (nest fmR fs fb)), (blk gw 117 (WatchV.cells (WatchV.mk ln ri (Slc.mk e_A e.length e_C) (Slc.mk t_A tms.length t_C) (Slc.mk fA (ln.Beams.n + 1) (ln.Beams.n + 1)) (Slc.mk bA (ln.Beams.n + 1) (ln.Beams.n + 1))))).ro, (own fA (ln.Beams.n + 1) 122 1 (List.map oC (fillF fb (ln.Beams.n + 1)))), (own bA (ln.Beams.n + 1) 122 1 (List.map oC (fillB (b65 :: bb) (ln.Beams.n + 1)))), (blk b2 77 [(Value.pointer (some ⟨gw, 0, none⟩))]), (rd e_A e.length 1 (e.map iC)).ro, (rd t_A tms.length 1 (List.zipWith mapC tms tb)).ro, (bun (nest tmR tms tb)).ro]) (fun _ (_ : Unit) => False) (fun _ _ => []) [6, 7, 8, 9, 10, 11, 12, 13, 14, 15, 16, 17, 18, 19, 20] [3, 2, 1, 0, 4, 5] m rfl rfl (options1_c ln ri e tms e_A e_C tb t_A t_C fA (ln.Beams.n + 1) (ln.Beams.n + 1) bA (ln.Beams.n + 1) (ln.Beams.n + 1) gw b x193 x294 (by omega) (by omega)) rfl rfl rfl (by exact HiInv.start hl25_1 hl25_2) (by simp only [List.forall_mem_cons, List.not_mem_nil, false_imp_iff, implies_true, and_true]; exact ⟨⟨_, List.mem_of_getElem? (i := 0) rfl, (cov_ro (cov_refl _))⟩, ⟨_, List.mem_of_getElem? (i := 1) rfl, (cov_ro (cov_refl _))⟩, ⟨_, List.mem_of_getElem? (i := 2) rfl, (cov_ro (cov_refl _))⟩, ⟨_, List.mem_of_getElem? (i := 3) rfl, (cov_ro (cov_refl _))⟩, ⟨_, List.mem_of_getElem? (i := 4) rfl, (cov_refl _)⟩, ⟨_, List.mem_of_getElem? (i := 5) rfl, (cov_refl _)⟩⟩) (by rintro k x k2 ⟨o, _, rfl, _⟩; rfl) rfl (Sub.cons rfl <| Sub.cons rfl <| Sub.cons rfl <| Sub.cons rfl <| Sub.cons rfl <| Sub.cons rfl <| Sub.cons rfl <| Sub.nil _) ?_ ?_ (fun _ _ _ h => h.elim) (fun _ _ h => h.elim)
     rotate_left 1
     · rintro r109 k m2 hfin hin110
       have hr0 := hin110
       try dsimp only
       refine k_block <| k_block <| k_tief (X := rs25.map defd) 13 0 rfl rfl ?_
       try dsimp only
       refine k_imp (C' := [(bund ((r109 :: rs25).map defd)), (rd e_A e.length 1 (e.map iC)).ro, (rd t_A tms.length 1 (List.zipWith mapC tms tb)).ro, (bun (nest tmR tms tb)).ro, (blk gw 117 (WatchV.cells (WatchV.mk ln ri (Slc.mk e_A e.length e_C) (Slc.mk t_A tms.length t_C) (Slc.mk fA (ln.Beams.n + 1) (ln.Beams.n + 1)) (Slc.mk bA (ln.Beams.n + 1) (ln.Beams.n + 1))))).ro, (blk x193 77 [(Value.pointer (some ⟨gw, 0, none⟩))]), (blk x294 3 [(Value.int .i64 ((b : Nat) : Int))]), (blk b89 3 [(Value.int .i64 v)]), (blk b88 124 (TallyV.cells t)), (gmi tallyU r79 ga (gmapV iV mb) (gmapV iV (gdelK left t)) none), (bund (nestO fmR bs bb 0)), (gmp tallyU b65 (gmapV iV m2)), (blk gq 3 [(Value.int .i64 ((b : Nat) : Int))]), (bund (nest fmR fs fb)), (blk gw 117 (WatchV.cells (WatchV.mk ln ri (Slc.mk e_A e.length e_C) (Slc.mk t_A tms.length t_C) (Slc.mk fA (ln.Beams.n + 1) (ln.Beams.n + 1)) (Slc.mk bA (ln.Beams.n + 1) (ln.Beams.n + 1))))).ro, (own fA (ln.Beams.n + 1) 122 1 (List.map oC (fillF fb (ln.Beams.n + 1)))), (own bA (ln.Beams.n + 1) 122 1 (List.map oC (fillB (b65 :: bb) (ln.Beams.n + 1)))), (blk b2 77 [(Value.pointer (some ⟨gw, 0, none⟩))]), (rd e_A e.length 1 (e.map iC)).ro, (rd t_A tms.length 1 (List.zipWith mapC tms tb)).ro, (bun (nest tmR tms tb)).ro]) 9 rfl gmi_none rfl ?_
       refine k_then (hJ80 ⟨((gdelK left t), m2, (r109 :: rs25)), ⟨left_sub hl25_0, hr0.on, hr0.next hnd hm hfin⟩⟩ _ _ _ rfl (gdelK_lt hm) (Sub.cons rfl <| Sub.cons rfl <| Sub.cons rfl <| Sub.cons rfl <| Sub.cons rfl <| Sub.nil _) (fun w hs => St.sel [9, 10, 11, 12, 0, 13, 4, 15, 16, 17, 1, 2, 3] rfl rfl hs))
     rintro k x k2 m2 l ra rb S w1 K95 Qr96 hsz hx hin97 hK95 hQr96 xQr96 yQr96
     obtain ⟨o, ho, rfl, rfl⟩ := hx
     have hr0 := hin97
     try dsimp only
     refine WS fun _ hK98 => rS (AG rfl) <| RK hK98 <| w_region <| AL rfl tz47 fun b99 => SW0 rfl ts47 rfl <| r_nil <| k_sub (fun _ _ h => h) (fun w hs => St.sel [1, 0, 2, 3, 4, 5, 6, 7, 8, 9, 10, 11, 12, 13, 14, 15, 16] rfl rfl hs) ?_
     refine k_then (hK95 _ _ ?_)
     refine w_block <| w_seq fun _ hK100 => w_draw4 mixed [0, 1, 2, 3, 4, 5, 6, 7, 8, 9, 10, 11, 12, 13, 14, 15, 17] [16, 18] [false, false, false, false, false, false, false, false, false, false, false, false, false, false, false, false, false] [false, false] [(obj l (.loop rb)), (blk b99 47 (SpanV.cells o.2)), (blk b89 3 [(Value.int .i64 v)]), (blk b88 124 (TallyV.cells t)), (gmi tallyU r79 ga (gmapV iV mb) (gmapV iV (gdelK left t)) (some (t, (Value.int .i64 v)))), (bund (nestO fmR bs bb 0)), (gmp tallyU b65 (gmapV iV m2)), (blk gq 3 [(Value.int .i64 ((b : Nat) : Int))]), (bund (rs25.map defd)), (bund (nest fmR fs fb)), (blk gw 117 (WatchV.cells (WatchV.mk ln ri (Slc.mk e_A e.length e_C) (Slc.mk t_A tms.length t_C) (Slc.mk fA (ln.Beams.n + 1) (ln.Beams.n + 1)) (Slc.mk bA (ln.Beams.n + 1) (ln.Beams.n + 1))))).ro, (own fA (ln.Beams.n + 1) 122 1 (List.map oC (fillF fb (ln.Beams.n + 1)))), (own bA (ln.Beams.n + 1) 122 1 (List.map oC (fillB (b65 :: bb) (ln.Beams.n + 1)))), (blk b2 77 [(Value.pointer (some ⟨gw, 0, none⟩))]), (rd e_A e.length 1 (e.map iC)).ro, (rd t_A tms.length 1 (List.zipWith mapC tms tb)).ro, (bun (nest tmR tms tb)).ro] [] (by kernel_rfl) (fun w hs => St.sel [0, 1, 2, 3, 4, 5, 6, 7, 8, 9, 10, 11, 12, 13, 14, 15, 16] rfl rfl hs) (fun w hs => St.sel [] rfl rfl hs) <| eS rfl (L1W 2 rfl tk3 rfl) <| eS rfl (FA 1 rfl fo47_1 rfl) <| eS rfl (L1 (Value.int .i64 o.2.Hi) 1 rfl tk3 rfl rfl) ?_
     have hp := hl20_3.mem0 (b := b) (by omega) hmb (hl25_0 _ hm)
     have hbp := back_b hw hp
     have ho1 := oneT_b o.1
     have hob := hw.opt ho
     dsimp only at hbp
     refine eS rfl (MN rfl) <| eS rfl (L1W 13 rfl tk77 rfl) <| eS rfl (SX (sd_nil_p rfl rfl) rfl rfl) <| eS rfl (FA 10 rfl fo117_2 rfl) <| eS rfl (L1R (Value.slice e_A e.length e_C) 10 rfl tk35 rfl rfl) <| eS rfl (L1W 7 rfl tk3 rfl) ?_
     obtain ⟨y, hy⟩ : ∃ y_, e[b]? = some y_ := ⟨e[b]'(by omega), List.getElem?_eq_getElem _⟩
     have hym : (e.map iC)[b]? = some (iC y) := by rw [List.getElem?_map, hy]; rfl
     refine eS rfl (IA b rfl (has_at 14 rfl) te35 (by decide) (by omega) (by omega)) <| eS rfl (LE1 b 0 (Value.int .i64 y) rfl tk3 (has_at 14 rfl) hym rfl (by decide) rfl) ?_
     have hlb := hw.least y (List.mem_of_getElem? hy)
     refine eS rfl (BI rfl (b_sub ⟨by omega, by omega⟩)) <| eS rfl (LW 3 rfl tk124 rfl rfl) <| eS rfl (MV rfl) <| eS rfl (CL (one_c o.1) (ha_nil) rfl) <| eS rfl (CL (tplus_c t (oneT o.1) (by first | assumption | omega | (simp; done) | (simp; omega)) (by first | assumption | omega | (simp; done) | (simp; omega))) (ha_nil) rfl) <| eS rfl (AG rfl) <| d_fin rfl <| t_cons rfl fun T101 hT101 => AL rfl tz124 fun b102 => RN hT101 [1, 2, 3, 4, 5, 6, 7, 8, 9, 10, 11, 12, 13, 14, 15, 16, 17] rfl rfl ?_
     refine t_cons rfl fun T103 hT103 => SW0 rfl ts124 rfl <| RN hT103 [1, 2, 3, 4, 5, 6, 7, 8, 9, 10, 11, 12, 13, 14, 15, 16, 17] rfl rfl <| t_fin rfl <| KK hK100 <| w_seq fun _ hK104 => w_draw mixed 14 (by kernel_rfl) <| dS (L1W 14 rfl tk77 rfl) <| dS (SX (sd_nil_p rfl rfl) rfl rfl) <| dS (FA 13 rfl fo117_5 rfl) ?_
     refine dS (L1R (Value.slice bA (ln.Beams.n + 1) (ln.Beams.n + 1)) 11 rfl tk115 rfl rfl) <| dS (L1W 8 rfl tk3 rfl) ?_
     have hk105 : (List.map oC (fillB (b65 :: bb) (ln.Beams.n + 1)))[b]? = some (oC (some b65)) := oC_at (fillB_at (i := 0) rfl (by simp; omega))
     refine dS (IA b rfl (has_own_n (n := (ln.Beams.n + 1)) 13 rfl (by first | (simp; done) | (simp; omega))) te115 (by decide) (by omega) (by omega)) <| dS (LE1 b 0 (Value.map (some b65)) rfl tk122 (has_own_n (n := (fillB (b65 :: bb) (ln.Beams.n + 1)).length) 13 rfl (by simp)) hk105 rfl (by decide) rfl) <| dS (LW 0 rfl tk124 rfl rfl) <| dS (SX (gsd_look_v (kV := tallyU) (x := (addT t (oneT o.1))) (l := m2) (f := iV) (z := 0) rfl rfl rfl ut122 gk124 tv3 (by exact has_at 7 rfl)) rfl rfl) <| dS (MV rfl) <| dS (EX rfl) <| dS (EX rfl) <| dS (AG rfl) <| dS (AG rfl) <| d_end ?_
     refine RK hK104 <| WS fun _ hK106 => rS (L1W 3 rfl tk3 rfl) <| rS (FA 1 rfl fo47_1 rfl) <| rS (L1 (Value.int .i64 o.2.Hi) 2 rfl tk3 rfl rfl) <| rS (MN rfl) <| rS (FA 0 rfl fo47_0 rfl) <| rS (L1 (Value.int .i64 o.2.Lo) 2 rfl tk3 rfl rfl) <| rS (BI rfl b_geq) <| rS (MV rfl) ?_
     refine r_bool (t := 217) rfl (fun h217 => ?_) (fun h217 => ?_)
     rotate_left 1
     · replace h217 := DF h217
       refine rS (OX rfl) <| rS (OX rfl) <| rS (OX rfl) <| rS (OX rfl) <| rS (OX rfl) <| rS (OX rfl) <| rS (OX rfl) <| rS (PK rfl) <| RK hK106 <| w_if_false rfl ?_
       refine w_skip <| k_block ?_
       exact hQr96 m2 _ _ (by first | exact hr0.skip (bwdO_no h217) | exact hr0.keep (bwdO_at hy h217) (by simpa using h220) h225 | exact hr0.set (by show b < e.length; omega) hp ho (bwdO_at hy h217) (.inl (by simpa using h220)) | exact hr0.set (by show b < e.length; omega) hp ho (bwdO_at hy h217) (.inr h225)) (fun w hs => St.sel [1, 3, 4, 5, 6, 7, 8, 9, 10, 11, 12, 13, 14, 15, 16, 17] rfl rfl hs)
     replace h217 := DT h217
     refine rS (MV rfl) <| rS (NT rfl) <| rS (MV rfl) ?_
     refine r_bool (t := 220) rfl (fun h220 => ?_) (fun h220 => ?_)
     · rw [Bool.not_eq_true'] at h220
       refine rS (OX rfl) <| rS (OX rfl) <| rS (OX rfl) <| rS (PK rfl) <| rS (PK rfl) <| RK hK106 <| w_if_true rfl <| w_draw mixed 9 (by kernel_rfl) <| dS (L1W 14 rfl tk77 rfl) <| dS (SX (sd_nil_p rfl rfl) rfl rfl) ?_
       refine dS (FA 13 rfl fo117_5 rfl) <| dS (L1R (Value.slice bA (ln.Beams.n + 1) (ln.Beams.n + 1)) 11 rfl tk115 rfl rfl) <| dS (L1W 8 rfl tk3 rfl) ?_
       have hk107 : (List.map oC (fillB (b65 :: bb) (ln.Beams.n + 1)))[b]? = some (oC (some b65)) := oC_at (fillB_at (i := 0) rfl (by simp; omega))
       refine dS (IA b rfl (has_own_n (n := (ln.Beams.n + 1)) 13 rfl (by first | (simp; done) | (simp; omega))) te115 (by decide) (by omega) (by omega)) <| dS (LE1 b 0 (Value.map (some b65)) rfl tk122 (has_own_n (n := (fillB (b65 :: bb) (ln.Beams.n + 1)).length) 13 rfl (by simp)) hk107 rfl (by decide) rfl) <| dS (LW 0 rfl tk124 rfl rfl) <| dS (MV rfl) <| d_end <| gr_mapset (kV := tallyU) (x := (addT t (oneT o.1))) (C' := [_, _, _, _, _, _, _, (gmp tallyU b65 (gmapV iV (gsetK m2 (addT t (oneT o.1)) ((min v o.2.Hi) - y)))), _, _, _, _, _, _, _, _, _, _]) 7 rfl rfl rfl rfl ut122 gk124 rfl (gmapV_setK _ _ _ _).symm rfl <| r_nil <| k_block ?_
       exact hQr96 (gsetK m2 (addT t (oneT o.1)) ((min v o.2.Hi) - y)) _ _ (by first | exact hr0.skip (bwdO_no h217) | exact hr0.keep (bwdO_at hy h217) (by simpa using h220) h225 | exact hr0.set (by show b < e.length; omega) hp ho (bwdO_at hy h217) (.inl (by simpa using h220)) | exact hr0.set (by show b < e.length; omega) hp ho (bwdO_at hy h217) (.inr h225)) (fun w hs => St.sel [1, 3, 4, 5, 6, 7, 8, 9, 10, 11, 12, 13, 14, 15, 16, 17] rfl rfl hs)
     rw [Bool.not_eq_false'] at h220
     refine rS (MV rfl) <| rS (MV rfl) <| rS (BI rfl b_gtr) <| rS (PK rfl) <| rS (PK rfl) <| RK hK106 ?_
     refine w_if rfl (fun h225 => ?_) (fun h225 => ?_)
     rotate_left 1
     · replace h225 := DF h225
       refine w_skip <| k_block ?_
       exact hQr96 m2 _ _ (by first | exact hr0.skip (bwdO_no h217) | exact hr0.keep (bwdO_at hy h217) (by simpa using h220) h225 | exact hr0.set (by show b < e.length; omega) hp ho (bwdO_at hy h217) (.inl (by simpa using h220)) | exact hr0.set (by show b < e.length; omega) hp ho (bwdO_at hy h217) (.inr h225)) (fun w hs => St.sel [1, 3, 4, 5, 6, 7, 8, 9, 10, 11, 12, 13, 14, 15, 16, 17] rfl rfl hs)
     replace h225 := DT h225
     refine w_draw mixed 9 (by kernel_rfl) <| dS (L1W 14 rfl tk77 rfl) <| dS (SX (sd_nil_p rfl rfl) rfl rfl) <| dS (FA 13 rfl fo117_5 rfl) <| dS (L1R (Value.slice bA (ln.Beams.n + 1) (ln.Beams.n + 1)) 11 rfl tk115 rfl rfl) <| dS (L1W 8 rfl tk3 rfl) ?_
     have hk108 : (List.map oC (fillB (b65 :: bb) (ln.Beams.n + 1)))[b]? = some (oC (some b65)) := oC_at (fillB_at (i := 0) rfl (by simp; omega))
     refine dS (IA b rfl (has_own_n (n := (ln.Beams.n + 1)) 13 rfl (by first | (simp; done) | (simp; omega))) te115 (by decide) (by omega) (by omega)) <| dS (LE1 b 0 (Value.map (some b65)) rfl tk122 (has_own_n (n := (fillB (b65 :: bb) (ln.Beams.n + 1)).length) 13 rfl (by simp)) hk108 rfl (by decide) rfl) <| dS (LW 0 rfl tk124 rfl rfl) <| dS (MV rfl) <| d_end <| gr_mapset (kV := tallyU) (x := (addT t (oneT o.1))) (C' := [_, _, _, _, _, _, _, (gmp tallyU b65 (gmapV iV (gsetK m2 (addT t (oneT o.1)) ((min v o.2.Hi) - y)))), _, _, _, _, _, _, _, _, _, _]) 7 rfl rfl rfl rfl ut122 gk124 rfl (gmapV_setK _ _ _ _).symm rfl <| r_nil <| k_block ?_
     exact hQr96 (gsetK m2 (addT t (oneT o.1)) ((min v o.2.Hi) - y)) _ _ (by first | exact hr0.skip (bwdO_no h217) | exact hr0.keep (bwdO_at hy h217) (by simpa using h220) h225 | exact hr0.set (by show b < e.length; omega) hp ho (bwdO_at hy h217) (.inl (by simpa using h220)) | exact hr0.set (by show b < e.length; omega) hp ho (bwdO_at hy h217) (.inr h225)) (fun w hs => St.sel [1, 3, 4, 5, 6, 7, 8, 9, 10, 11, 12, 13, 14, 15, 16, 17] rfl rfl hs)
   refine w_draw4 mixed [0, 1, 2, 3, 5, 6, 7, 8, 9, 10, 13] [4, 11, 12, 14] [false, false, false, false, false, false, false, false, false, false, true] [true, true, true, false] [(blk gw 117 (WatchV.cells (WatchV.mk ln ri (Slc.mk e_A e.length e_C) (Slc.mk t_A tms.length t_C) (Slc.mk fA (ln.Beams.n + 1) (ln.Beams.n + 1)) (Slc.mk bA (ln.Beams.n + 1) (ln.Beams.n + 1))))).ro, (own bA (ln.Beams.n + 1) 122 1 (List.map oC (List.replicate (ln.Beams.n + 1) (none : Option Nat)))), (blk b2 77 [(Value.pointer (some ⟨gw, 0, none⟩))]), (rd e_A e.length 1 (e.map iC)).ro, (rd t_A tms.length 1 (List.zipWith mapC tms tb)).ro, (bun (nest tmR tms tb)).ro] [(blk gw 117 (WatchV.cells (WatchV.mk ln ri (Slc.mk e_A e.length e_C) (Slc.mk t_A tms.length t_C) (Slc.mk fA (ln.Beams.n + 1) (ln.Beams.n + 1)) (Slc.mk bA (ln.Beams.n + 1) (ln.Beams.n + 1))))).ro, (own fA (ln.Beams.n + 1) 122 1 (List.map oC (List.replicate (ln.Beams.n + 1) (none : Option Nat)))), (own bA (ln.Beams.n + 1) 122 1 (List.map oC (List.replicate (ln.Beams.n + 1) (none : Option Nat)))), (blk b2 77 [(Value.pointer (some ⟨gw, 0, none⟩))]), (rd e_A e.length 1 (e.map iC)).ro, (rd t_A tms.length 1 (List.zipWith mapC tms tb)).ro, (bun (nest tmR tms tb)).ro] (by kernel_rfl) (fun w hs => St.sel [0, 2, 3, 4, 5, 6] rfl rfl hs) (fun w hs => St.sel [0, 1, 2, 3, 4, 5, 6] rfl rfl hs) <| eS rfl (L1W 2 rfl tk77 rfl) <| eS rfl (SX (sd_nil_p rfl rfl) rfl rfl) <| eS rfl (FA 12 rfl fo117_4 rfl) <| eS rfl (L1R (Value.slice fA (ln.Beams.n + 1) (ln.Beams.n + 1)) 0 rfl tk115 rfl rfl) <| eS rfl (SX (sd_build (xs := []) (cs := (TallyV.cells (TallyV.mk 0 0))) rfl rfl (built_of tb124 rfl)) rfl rfl) <| eS rfl (L1W 2 rfl tk77 rfl) <| eS rfl (SX (sd_nil_p rfl rfl) rfl rfl) <| eS rfl (FA 7 rfl fo117_1 rfl) <| eS rfl (FA 7 rfl fo31_0 rfl) ?_
   refine eS rfl (L1R (Value.int .i64 ri.Start) 0 rfl tk3 rfl rfl) ?_
   obtain ⟨x6, hx7⟩ : ∃ y_, (List.replicate (ln.Beams.n + 1) (none : Option Nat))[0]? = some y_ := ⟨(List.replicate (ln.Beams.n + 1) (none : Option Nat))[0]'(by omega), List.getElem?_eq_getElem _⟩
   have hx7m : (List.map oC (List.replicate (ln.Beams.n + 1) (none : Option Nat)))[0]? = some (oC x6) := by rw [List.getElem?_map, hx7]; rfl
   refine fS rfl (IA 0 rfl (has_own_n (n := (ln.Beams.n + 1)) 1 rfl (by first | (simp; done) | (simp; omega))) te115 (by decide) rfl (by omega)) <| d_fin rfl <| t5_cons rfl fun T8 hT8 => gr_mkmap (kV := tallyU) rfl rfl fun b9 => ?_
   try dsimp only
   refine r_nil (hT8 _ _ (fun w hs => St.sel [1, 3, 4, 5, 6, 7] rfl rfl hs) (fun w hs => St.sel [1, 2, 3, 4, 5, 6, 7] rfl rfl hs) ?_)
   refine t5_cons rfl fun T10 hT10 => ?_
   have hb11 : (gsetK ([] : List (TallyV × Int)) (TallyV.mk 0 0) ri.Start) = [((TallyV.mk 0 0), ri.Start)] := by rfl
   refine gr_mapins (kV := tallyU) (x := (TallyV.mk 0 0)) (C' := [(gmp tallyU b9 (gmapV iV ([((TallyV.mk 0 0), ri.Start)]))), _, _, _, _, _, _, _]) 0 rfl rfl rfl rfl ut122 gk124 rfl ((gmapV_setK _ _ _ _).symm.trans (congrArg _ hb11)) rfl ?_
   refine r_nil (hT10 _ _ (fun w hs => St.sel [1, 3, 4, 5, 6, 7] rfl rfl hs) (fun w hs => St.sel [1, 2, 3, 4, 5, 6, 7] rfl rfl hs) ?_)
   refine t5_cons rfl fun T12 hT12 => rS (MV rfl) ?_
   refine r_nil (hT12 _ _ (fun w hs => St.sel [1, 3, 4, 5, 6, 7] rfl rfl hs) (fun w hs => St.sel [1, 2, 3, 4, 5, 6, 7] rfl rfl hs) ?_)
   refine t_cons rfl fun T13 hT13 => ?_
   have hb14 : ((List.replicate (ln.Beams.n + 1) (none : Option Nat)).set 0 (some b9)) = (fillF [b9] (ln.Beams.n + 1)) := by rw [fillF_nil]; exact fillF_set rfl (by simp)
   refine r_store_own (k := 0) (o := 0) (vs := [(Value.map (some b9))]) (es' := (List.map oC (fillF [b9] (ln.Beams.n + 1)))) (C' := [_, _, (own fA (ln.Beams.n + 1) 122 1 (List.map oC (fillF [b9] (ln.Beams.n + 1)))), _, _, _, _, _]) 2 rfl rfl rfl ts122 rfl rfl rfl rfl hx7m rfl (by decide) (by exact (List.map_set (f := oC) (l := (List.replicate (ln.Beams.n + 1) (none : Option Nat))) (i := 0) (a := (some b9))).symm.trans (congrArg _ hb14)) rfl <| RN hT13 [1, 3, 4, 5, 6, 7] rfl rfl <| t_fin rfl <| k_tie0 <| k_tie (X := []) (X' := nest fmR [[((TallyV.mk 0 0), ri.Start)]] [b9]) 0 1 rfl rfl rfl ?_
   try dsimp only
   refine k_then (k_sub (Sub.cons rfl <| Sub.cons rfl <| Sub.cons rfl <| Sub.nil _) (fun w hs => St.sel [0, 1, 2, 3, 4, 5, 6, 7] rfl rfl hs) (hK5 ⟨b9, trivial⟩))
 refine w_drawN mixed [0, 1, 2, 3, 5, 6, 8, 9, 11, 12] [4, 7, 10, 13] [false, false, false, false, false, false, false, false, false, false] [] [(blk b2 77 [(Value.pointer (some ⟨gw, 0, none⟩))]), (rd e_A e.length 1 (e.map iC)).ro, (rd t_A tms.length 1 (List.zipWith mapC tms tb)).ro, (bun (nest tmR tms tb)).ro] [] (by kernel_rfl) (fun w hs => St.sel [0, 2, 3, 4] rfl rfl hs) (fun w hs => St.sel [] rfl rfl hs) <| eS rfl (L1W 0 rfl tk77 rfl) <| eS rfl (L1W 0 rfl tk77 rfl) <| eS rfl (MV rfl) <| eS rfl (BI rfl (b_add ⟨by omega, by omega⟩)) <| eS rfl (MV rfl) <| eS rfl (BI rfl (b_add ⟨by omega, by omega⟩)) <| eS rfl (SX (sd_nil_p rfl rfl) rfl rfl) <| eS rfl (FA 12 rfl fo117_4 rfl) <| eS rfl (SX (sd_nil_p rfl rfl) rfl rfl) ?_
 refine eS rfl (FA 13 rfl fo117_5 rfl) <| d_fin rfl ?_
 refine n_step [4, 7] (by kernel_rfl) (n_cons ?_ <| n_cons ?_ <| n_nil)
 rotate_left 1
 · refine NO rfl rfl [4,10,13] fun T5 hT5 => ?_
   refine r_mks (n := (ln.Beams.n + 1)) (es := (List.map oC (List.replicate (ln.Beams.n + 1) (none : Option Nat)))) rfl rfl rfl ta115 (by omega) (by omega) (by simp only [maxLen]; omega) (by rw [List.map_replicate]; rfl) rfl fun b6 => ?_
   try dsimp only
   refine RN hT5 [1, 3, 4, 5] rfl rfl <| N1 4 <| NO rfl rfl [10,13] fun T7 hT7 => r_mks (n := (ln.Beams.n + 1)) (es := (List.map oC (List.replicate (ln.Beams.n + 1) (none : Option Nat)))) rfl rfl rfl ta115 (by omega) (by omega) (by simp only [maxLen]; omega) (by rw [List.map_replicate]; rfl) rfl fun b8 => ?_
   try dsimp only
   refine RN hT7 [2, 4, 5, 6] rfl rfl <| N1 10 <| NO rfl rfl [13] fun T9 hT9 => ST3 (WatchV.cells (WatchV.mk ln ri (Slc.mk e_A e.length e_C) (Slc.mk t_A tms.length t_C) (Slc.mk (some ⟨b8, 0, none⟩) (ln.Beams.n + 1) (ln.Beams.n + 1)) (Slc.mk none 0 0))) rfl ts115 rfl rfl <| RN hT9 [2, 4, 5, 6] rfl rfl <| N1 13 <| NO rfl rfl [] fun T10 hT10 => ST3 (WatchV.cells (WatchV.mk ln ri (Slc.mk e_A e.length e_C) (Slc.mk t_A tms.length t_C) (Slc.mk (some ⟨b8, 0, none⟩) (ln.Beams.n + 1) (ln.Beams.n + 1)) (Slc.mk (some ⟨b6, 0, none⟩) (ln.Beams.n + 1) (ln.Beams.n + 1)))) rfl ts115 rfl rfl <| RN hT10 [2, 4, 5, 6] rfl rfl <| n_fin ?_
   refine k_then (k_sub (Sub.cons rfl <| Sub.cons rfl <| Sub.cons rfl <| Sub.nil _) (fun w hs => St.sel [0, 1, 2, 3, 4, 5, 6] rfl rfl hs) (hK4 ⟨((some ⟨b8, 0, none⟩), (some ⟨b6, 0, none⟩)), trivial⟩))
 refine NO rfl rfl [7,10,13] fun T5 hT5 => r_mks (n := (ln.Beams.n + 1)) (es := (List.map oC (List.replicate (ln.Beams.n + 1) (none : Option Nat)))) rfl rfl rfl ta115 (by omega) (by omega) (by simp only [maxLen]; omega) (by rw [List.map_replicate]; rfl) rfl fun b6 => ?_
 try dsimp only
 refine RN hT5 [1, 3, 4, 5] rfl rfl ?_
 refine n_step [7, 10] (by kernel_rfl) (n_cons ?_ <| n_cons ?_ <| n_nil)
 rotate_left 1
 · refine NO rfl rfl [7,13] fun T7 hT7 => ?_
   refine ST2 (WatchV.cells (WatchV.mk ln ri (Slc.mk e_A e.length e_C) (Slc.mk t_A tms.length t_C) (Slc.mk (some ⟨b6, 0, none⟩) (ln.Beams.n + 1) (ln.Beams.n + 1)) (Slc.mk none 0 0))) rfl ts115 rfl rfl <| RN hT7 [1, 3, 4, 5] rfl rfl <| N1 7 <| NO rfl rfl [13] fun T8 hT8 => r_mks (n := (ln.Beams.n + 1)) (es := (List.map oC (List.replicate (ln.Beams.n + 1) (none : Option Nat)))) rfl rfl rfl ta115 (by omega) (by omega) (by simp only [maxLen]; omega) (by rw [List.map_replicate]; rfl) rfl fun b9 => ?_
   try dsimp only
   refine RN hT8 [2, 4, 5, 6] rfl rfl <| N1 13 <| NO rfl rfl [] fun T10 hT10 => ST3 (WatchV.cells (WatchV.mk ln ri (Slc.mk e_A e.length e_C) (Slc.mk t_A tms.length t_C) (Slc.mk (some ⟨b6, 0, none⟩) (ln.Beams.n + 1) (ln.Beams.n + 1)) (Slc.mk (some ⟨b9, 0, none⟩) (ln.Beams.n + 1) (ln.Beams.n + 1)))) rfl ts115 rfl rfl <| RN hT10 [2, 4, 5, 6] rfl rfl <| n_fin ?_
   refine k_then (k_sub (Sub.cons rfl <| Sub.cons rfl <| Sub.cons rfl <| Sub.nil _) (fun w hs => St.sel [1, 0, 2, 3, 4, 5, 6] rfl rfl hs) (hK4 ⟨((some ⟨b6, 0, none⟩), (some ⟨b9, 0, none⟩)), trivial⟩))
 refine NO rfl rfl [10,13] fun T7 hT7 => r_mks (n := (ln.Beams.n + 1)) (es := (List.map oC (List.replicate (ln.Beams.n + 1) (none : Option Nat)))) rfl rfl rfl ta115 (by omega) (by omega) (by simp only [maxLen]; omega) (by rw [List.map_replicate]; rfl) rfl fun b8 => ?_
 try dsimp only
 refine RN hT7 [2, 4, 5, 6] rfl rfl <| N1 10 <| NO rfl rfl [13] fun T9 hT9 => ST3 (WatchV.cells (WatchV.mk ln ri (Slc.mk e_A e.length e_C) (Slc.mk t_A tms.length t_C) (Slc.mk (some ⟨b6, 0, none⟩) (ln.Beams.n + 1) (ln.Beams.n + 1)) (Slc.mk none 0 0))) rfl ts115 rfl rfl <| RN hT9 [2, 4, 5, 6] rfl rfl <| N1 13 <| NO rfl rfl [] fun T10 hT10 => ST3 (WatchV.cells (WatchV.mk ln ri (Slc.mk e_A e.length e_C) (Slc.mk t_A tms.length t_C) (Slc.mk (some ⟨b6, 0, none⟩) (ln.Beams.n + 1) (ln.Beams.n + 1)) (Slc.mk (some ⟨b8, 0, none⟩) (ln.Beams.n + 1) (ln.Beams.n + 1)))) rfl ts115 rfl rfl <| RN hT10 [2, 4, 5, 6] rfl rfl <| n_fin ?_
 refine k_then (k_sub (Sub.cons rfl <| Sub.cons rfl <| Sub.cons rfl <| Sub.nil _) (fun w hs => St.sel [1, 0, 2, 3, 4, 5, 6] rfl rfl hs) (hK4 ⟨((some ⟨b6, 0, none⟩), (some ⟨b8, 0, none⟩)), trivial⟩))
end
section
open Go.RowKit
set_option linter.unusedVariables false
set_option maxRecDepth 100000 in
set_option maxHeartbeats 400000 in
theorem passed1f_c (l : LineM) (kA : Option Addr) (kC : Nat) (az : List RA) (cA : Option Addr) (cC : Nat) (bA : Option Addr) (bC : Nat) (g1 : Nat) (bm : Int) (g2 : Nat) (hin : LineIn l az) :
    FnV Tryz.prog 38 [(Value.pointer (some ⟨g1, 0, none⟩)), (Value.pointer (some ⟨g2, 0, none⟩))] [(rd kA l.Track.length 9 (l.Track.map StretchV.cells)), (rd cA l.Clocks.length 2 (List.zipWith ClockM.cells l.Clocks az)), (bun (nest ClockM.rds l.Clocks az)), (rd bA l.Beams.length 4 (l.Beams.map BeamV.cells)), (blk g1 28 (LineV.cells (LineV.mk (TrackV.mk (Slc.mk kA l.Track.length kC)) l.Fast (Slc.mk cA l.Clocks.length cC) (Slc.mk bA l.Beams.length bC) l.Finish l.Fakes l.Misses))), (blk g2 3 [(Value.int .i64 bm)])] (Value.int .i64 (beamE l bm)) := by
 have htk := hin.trk
 have hck := hin.cks
 have has := hin.as_
 have hbm := hin.bms
 refine fnV_of go38 Tryz.func38 rfl rfl fun w0 Q hQ hN => ?_
 try dsimp only
 refine WS fun _ hK1 => rS (AG rfl) <| RK hK1 <| w_seq fun _ hK2 => WS fun _ hK3 => rS (FA 3 rfl fo28_3 rfl) <| rS (L1R (Value.slice bA l.Beams.length bC) 4 rfl tk26 rfl rfl) <| rS (LN rfl ut26) <| rS (BI rfl (b_sub ⟨by omega, by omega⟩)) <| rS (L1Q 5 rfl tk3 rfl) ?_
 refine r_bs (xs := [.tmp 7]) (cs := [(Value.int .i64 bm)]) rfl te35 tz3 rfl rfl rfl rfl (by simp [Value.cells]) rfl rfl fun b4 => rS (CL (FnV.eq (in_beam 0 (((l.Beams.length : Nat) : Int) - 1) ([bm]) (some ⟨b4, 0, none⟩) 1 (by first | assumption | omega | (simp; done) | (simp; omega))) inAll_one) (ha_cons (has_rd_blk 0 rfl rfl (by simp [iC_length]) rfl) <| ha_nil) rfl) <| rS (NT rfl) <| RK hK3 ?_
 refine w_if rfl (fun h10 => ?_) (fun h10 => ?_)
 · replace h10 := XT h10
   refine WS fun _ hK5 => rS (AG rfl) <| RK hK5 <| w_ret <| Q1 hQ rfl rfl rfl ?_
   first | exact congrArg (Value.int .i64) (if_pos (by omega)).symm | exact congrArg (Value.int .i64) (if_neg (by omega)).symm
 replace h10 := XF h10
 refine WK hK2 <| WS fun _ hK6 => rS (AG rfl) <| RK hK6 <| w_ret <| Q1 hQ rfl rfl rfl ?_
 first | exact congrArg (Value.int .i64) (if_pos (by omega)).symm | exact congrArg (Value.int .i64) (if_neg (by omega)).symm
set_option maxRecDepth 100000 in
set_option maxHeartbeats 400000 in
theorem open0_c (l : LineM) (kA : Option Addr) (kC : Nat) (az : List RA) (cA : Option Addr) (cC : Nat) (bA : Option Addr) (bC : Nat) (r : RideM) (sgA : Option Addr) (sgC : Nat) (hin : LineIn l az) (hsl : r.Signals.length ≤ 1000000) :
    FnX Tryz.prog 33 [(Value.agg (LineV.cells (LineV.mk (TrackV.mk (Slc.mk kA l.Track.length kC)) l.Fast (Slc.mk cA l.Clocks.length cC) (Slc.mk bA l.Beams.length bC) l.Finish l.Fakes l.Misses)).toArray), (Value.agg (RideV.cells (RideV.mk r.Start r.Now (Slc.mk sgA r.Signals.length sgC))).toArray), (Value.slice none 0 0)] [(rd kA l.Track.length 9 (l.Track.map StretchV.cells)), (rd cA l.Clocks.length 2 (List.zipWith ClockM.cells l.Clocks az)), (bun (nest ClockM.rds l.Clocks az)), (rd bA l.Beams.length 4 (l.Beams.map BeamV.cells)), (rd sgA r.Signals.length 2 (r.Signals.map SignalV.cells))] (fun (x : Bool × Int × Nat × (Option Addr) × Nat × (Option Addr) × Nat × (List Nat) × (List FM) × (List Nat) × (Option Addr) × Nat × (List FM) × (List Nat) × (Option Addr) × Nat) => bif x.1 then (Value.tuple [(Value.pointer (some ⟨x.2.2.1, 0, none⟩)), (Value.int .i64 0)].toArray) else (Value.tuple [(Value.pointer none), (Value.int .i64 x.2.1)].toArray)) (fun (x : Bool × Int × Nat × (Option Addr) × Nat × (Option Addr) × Nat × (List Nat) × (List FM) × (List Nat) × (Option Addr) × Nat × (List FM) × (List Nat) × (Option Addr) × Nat) => (x.1 = true → (openE l r 0 = 0 ∧ FwdOk (watchL l r) x.2.2.2.2.2.2.2.2.1 ∧ BackOk (watchL l r) x.2.2.2.2.2.2.2.2.2.2.2.2.1 ∧ x.2.2.2.2.2.2.2.2.2.1.length = x.2.2.2.2.2.2.2.2.1.length ∧ x.2.2.2.2.2.2.2.2.2.2.2.2.2.1.length = x.2.2.2.2.2.2.2.2.2.2.2.2.1.length ∧ x.2.2.2.2.2.2.2.1.length = (timesT l r.Signals r.Signals.length).length)) ∧ (x.1 = false → (x.2.1 = openE l r 0 ∧ ¬ openE l r 0 = 0))) (fun (x : Bool × Int × Nat × (Option Addr) × Nat × (Option Addr) × Nat × (List Nat) × (List FM) × (List Nat) × (Option Addr) × Nat × (List FM) × (List Nat) × (Option Addr) × Nat) => bif x.1 then [(blk x.2.2.1 117 (WatchV.cells (WatchV.mk (LineV.mk (TrackV.mk (Slc.mk kA l.Track.length kC)) l.Fast (Slc.mk cA l.Clocks.length cC) (Slc.mk bA l.Beams.length bC) l.Finish l.Fakes l.Misses) (RideV.mk r.Start r.Now (Slc.mk sgA r.Signals.length sgC)) (Slc.mk x.2.2.2.1 ((leasts l l.Beams.length).length) x.2.2.2.2.1) (Slc.mk x.2.2.2.2.2.1 ((timesT l r.Signals r.Signals.length).length) x.2.2.2.2.2.2.1) (Slc.mk x.2.2.2.2.2.2.2.2.2.2.1 x.2.2.2.2.2.2.2.2.1.length x.2.2.2.2.2.2.2.2.2.2.2.1) (Slc.mk x.2.2.2.2.2.2.2.2.2.2.2.2.2.2.1 x.2.2.2.2.2.2.2.2.2.2.2.2.1.length x.2.2.2.2.2.2.2.2.2.2.2.2.2.2.2)))), (own x.2.2.2.1 x.2.2.2.2.1 3 1 ((leasts l l.Beams.length).map iC)), (own x.2.2.2.2.2.1 x.2.2.2.2.2.2.1 120 1 (List.zipWith mapC (timesT l r.Signals r.Signals.length) x.2.2.2.2.2.2.2.1)), (bund (nest tmR (timesT l r.Signals r.Signals.length) x.2.2.2.2.2.2.2.1)), (own x.2.2.2.2.2.2.2.2.2.2.1 x.2.2.2.2.2.2.2.2.2.2.2.1 122 1 (List.zipWith mapC x.2.2.2.2.2.2.2.2.1 x.2.2.2.2.2.2.2.2.2.1)), (bund (nest fmR x.2.2.2.2.2.2.2.2.1 x.2.2.2.2.2.2.2.2.2.1)), (own x.2.2.2.2.2.2.2.2.2.2.2.2.2.2.1 x.2.2.2.2.2.2.2.2.2.2.2.2.2.2.2 122 1 (List.zipWith mapC x.2.2.2.2.2.2.2.2.2.2.2.2.1 x.2.2.2.2.2.2.2.2.2.2.2.2.2.1)), (bund (nest fmR x.2.2.2.2.2.2.2.2.2.2.2.2.1 x.2.2.2.2.2.2.2.2.2.2.2.2.2.1))] else []) := by
 have htk := hin.trk
 have hck := hin.cks
 have has := hin.as_
 have hbm := hin.bms
 have hsd := hin.side
 refine fnX_of go33 Tryz.func33 rfl rfl fun w0 Q hQ hN => ?_
 try dsimp only
 refine WS fun _ hK1 => BXA rfl fun b2 => BXA rfl fun b3 => rS (AG rfl) <| rS (AG rfl) <| RK hK1 <| w_seq fun _ hK4 => WS fun _ hK5 => rS (LW 1 rfl tk28 rfl rfl) <| rS (CL (lcheck_c l kA kC az cA cC bA bC hin) (ha_at 2 rfl rfl <| ha_at 3 rfl rfl <| ha_at 4 rfl rfl <| ha_at 5 rfl rfl <| ha_nil) rfl) ?_
 refine rS (AG rfl) <| RK hK5 <| WS fun _ hK6 => rS (MV rfl) <| rS (BI rfl b_neq) <| RK hK6 ?_
 refine w_if rfl (fun h21 => ?_) (fun h21 => ?_)
 · replace h21 := XT h21
   refine WS fun _ hK7 => rS (MV rfl) <| rS (AG rfl) <| rS (AG rfl) <| RK hK7 <| w_ret ?_
   refine hQ _ _ _ (l_nil (vs := [(Value.pointer none), (Value.int .i64 (lineE l))]) ⟨rfl, rfl, trivial⟩ fun w hs => endX (false, (lineE l), 0, none, 0, none, 0, [], [], [], none, 0, [], [], none, 0) [] ?_ ?_ rfl rfl (by first | rfl | (show List.all _ _ = true; simp only [cond_true, List.all_cons, List.all_nil, fm_wr, tm_wr, Bool.and_true]; rfl)) hs)
   · rfl
   · refine ⟨fun q => Bool.noConfusion (show false = true from q), fun _ => ?_⟩; first | (have e := open_line_e (r := r) (me := 0) h21; exact ⟨e.symm, fun q => h21 (e.symm.trans q)⟩) | (have e := open_ride_e (me := 0) h10 (fun q : RideOk l r => by have q1 := q.time; have q2 := q.len; omega); exact ⟨e.symm, fun q => absurd (e.symm.trans q) (by decide)⟩) | (have e := open_ride_e (me := 0) h10 (ride_no hx (by unfold SigOk SigIn; omega)); exact ⟨e.symm, fun q => absurd (e.symm.trans q) (by decide)⟩) | (have e := open_bad_e (me := 0) h10 hro (by first | rfl | exact h156) (show numsF (watchL l r) = [] from List.eq_nil_of_length_eq_zero (Int.natCast_eq_zero.1 h164)); exact ⟨e.symm, fun q => absurd (e.symm.trans q) (by decide)⟩)
 replace h21 := XF h21
 refine WK hK4 <| w_seq fun _ hK8 => WS fun _ hK9 => ?_
 have h10 : lineE l = 0 := h21
 obtain ⟨htr, hok⟩ := lineE_zero h10
 have hhd := hok.head
 unfold HeadOk at hhd
 refine rS (FA 0 rfl fo31_0 rfl) <| rS (L1 (Value.int .i64 r.Start) 0 rfl tk3 rfl rfl) <| r_bs (xs := [.tmp 24]) (cs := [(Value.int .i64 r.Start)]) rfl te35 tz3 rfl rfl rfl rfl (by simp [Value.cells]) rfl rfl fun b10 => rS (CL (FnV.eq (in_beam 0 86400000 ([r.Start]) (some ⟨b10, 0, none⟩) 1 (by first | assumption | omega | (simp; done) | (simp; omega))) inAll_one) (ha_cons (has_rd_blk 0 rfl rfl (by simp [iC_length]) rfl) <| ha_nil) rfl) <| rS (NT rfl) <| rS (MV rfl) ?_
 refine r_bool (t := 28) rfl (fun h28 => ?_) (fun h28 => ?_)
 · replace h28 := XT h28
   refine rS (OX rfl) <| rS (OX rfl) <| rS (OX rfl) <| rS (OX rfl) <| rS (OX rfl) <| rS (OX rfl) <| rS (OX rfl) <| rS (PK rfl) <| rS (MV rfl) <| rS (OX rfl) ?_
   refine rS (OX rfl) <| rS (OX rfl) <| rS (OX rfl) <| rS (PK rfl) <| RK hK9 <| w_if_true rfl <| WS fun _ hK11 => rS (AG rfl) <| rS (AG rfl) <| RK hK11 ?_
   refine w_ret ?_
   refine hQ _ _ _ (l_nil (vs := [(Value.pointer none), (Value.int .i64 51)]) ⟨rfl, rfl, trivial⟩ fun w hs => endX (false, 51, 0, none, 0, none, 0, [], [], [], none, 0, [], [], none, 0) [] ?_ ?_ rfl rfl (by first | rfl | (show List.all _ _ = true; simp only [cond_true, List.all_cons, List.all_nil, fm_wr, tm_wr, Bool.and_true]; rfl)) hs)
   · rfl
   · refine ⟨fun q => Bool.noConfusion (show false = true from q), fun _ => ?_⟩; first | (have e := open_line_e (r := r) (me := 0) h21; exact ⟨e.symm, fun q => h21 (e.symm.trans q)⟩) | (have e := open_ride_e (me := 0) h10 (fun q : RideOk l r => by have q1 := q.time; have q2 := q.len; omega); exact ⟨e.symm, fun q => absurd (e.symm.trans q) (by decide)⟩) | (have e := open_ride_e (me := 0) h10 (ride_no hx (by unfold SigOk SigIn; omega)); exact ⟨e.symm, fun q => absurd (e.symm.trans q) (by decide)⟩) | (have e := open_bad_e (me := 0) h10 hro (by first | rfl | exact h156) (show numsF (watchL l r) = [] from List.eq_nil_of_length_eq_zero (Int.natCast_eq_zero.1 h164)); exact ⟨e.symm, fun q => absurd (e.symm.trans q) (by decide)⟩)
 replace h28 := XF h28
 refine rS (FA 0 rfl fo31_0 rfl) <| rS (L1 (Value.int .i64 r.Start) 1 rfl tk3 rfl rfl) <| rS (FA 1 rfl fo31_1 rfl) <| rS (L1 (Value.int .i64 r.Now) 1 rfl tk3 rfl rfl) <| r_bs (xs := [.tmp 32]) (cs := [(Value.int .i64 r.Now)]) rfl te35 tz3 rfl rfl rfl rfl (by simp [Value.cells]) rfl rfl fun b12 => rS (CL (FnV.eq (in_beam r.Start 86400000 ([r.Now]) (some ⟨b12, 0, none⟩) 1 (by first | assumption | omega | (simp; done) | (simp; omega))) inAll_one) (ha_cons (has_rd_blk 0 rfl rfl (by simp [iC_length]) rfl) <| ha_nil) rfl) <| rS (NT rfl) <| rS (PK rfl) <| rS (MV rfl) ?_
 refine r_bool (t := 37) rfl (fun h37 => ?_) (fun h37 => ?_)
 · replace h37 := XT h37
   refine rS (OX rfl) <| rS (OX rfl) <| rS (OX rfl) <| rS (OX rfl) <| rS (PK rfl) <| RK hK9 <| w_if_true rfl <| WS fun _ hK13 => rS (AG rfl) <| rS (AG rfl) ?_
   refine RK hK13 <| w_ret ?_
   refine hQ _ _ _ (l_nil (vs := [(Value.pointer none), (Value.int .i64 51)]) ⟨rfl, rfl, trivial⟩ fun w hs => endX (false, 51, 0, none, 0, none, 0, [], [], [], none, 0, [], [], none, 0) [] ?_ ?_ rfl rfl (by first | rfl | (show List.all _ _ = true; simp only [cond_true, List.all_cons, List.all_nil, fm_wr, tm_wr, Bool.and_true]; rfl)) hs)
   · rfl
   · refine ⟨fun q => Bool.noConfusion (show false = true from q), fun _ => ?_⟩; first | (have e := open_line_e (r := r) (me := 0) h21; exact ⟨e.symm, fun q => h21 (e.symm.trans q)⟩) | (have e := open_ride_e (me := 0) h10 (fun q : RideOk l r => by have q1 := q.time; have q2 := q.len; omega); exact ⟨e.symm, fun q => absurd (e.symm.trans q) (by decide)⟩) | (have e := open_ride_e (me := 0) h10 (ride_no hx (by unfold SigOk SigIn; omega)); exact ⟨e.symm, fun q => absurd (e.symm.trans q) (by decide)⟩) | (have e := open_bad_e (me := 0) h10 hro (by first | rfl | exact h156) (show numsF (watchL l r) = [] from List.eq_nil_of_length_eq_zero (Int.natCast_eq_zero.1 h164)); exact ⟨e.symm, fun q => absurd (e.symm.trans q) (by decide)⟩)
 replace h37 := XF h37
 refine rS (FA 2 rfl fo31_2 rfl) <| rS (L1 (Value.slice sgA r.Signals.length sgC) 2 rfl tk29 rfl rfl) <| rS (LN rfl ut29) <| rS (BI rfl b_gtr) <| rS (PK rfl) <| RK hK9 ?_
 refine w_if rfl (fun h42 => ?_) (fun h42 => ?_)
 · replace h42 := DT h42
   refine WS fun _ hK14 => rS (AG rfl) <| rS (AG rfl) <| RK hK14 <| w_ret ?_
   refine hQ _ _ _ (l_nil (vs := [(Value.pointer none), (Value.int .i64 51)]) ⟨rfl, rfl, trivial⟩ fun w hs => endX (false, 51, 0, none, 0, none, 0, [], [], [], none, 0, [], [], none, 0) [] ?_ ?_ rfl rfl (by first | rfl | (show List.all _ _ = true; simp only [cond_true, List.all_cons, List.all_nil, fm_wr, tm_wr, Bool.and_true]; rfl)) hs)
   · rfl
   · refine ⟨fun q => Bool.noConfusion (show false = true from q), fun _ => ?_⟩; first | (have e := open_line_e (r := r) (me := 0) h21; exact ⟨e.symm, fun q => h21 (e.symm.trans q)⟩) | (have e := open_ride_e (me := 0) h10 (fun q : RideOk l r => by have q1 := q.time; have q2 := q.len; omega); exact ⟨e.symm, fun q => absurd (e.symm.trans q) (by decide)⟩) | (have e := open_ride_e (me := 0) h10 (ride_no hx (by unfold SigOk SigIn; omega)); exact ⟨e.symm, fun q => absurd (e.symm.trans q) (by decide)⟩) | (have e := open_bad_e (me := 0) h10 hro (by first | rfl | exact h156) (show numsF (watchL l r) = [] from List.eq_nil_of_length_eq_zero (Int.natCast_eq_zero.1 h164)); exact ⟨e.symm, fun q => absurd (e.symm.trans q) (by decide)⟩)
 replace h42 := DF h42
 refine WK hK8 <| WS fun _ hK15 => rS (SX (sd_build (xs := [(0, .const (Value.int .i64 (-1)))]) (cs := (SignalV.cells (SignalV.mk (-1) 0))) rfl rfl (built_of tb67 rfl)) rfl rfl) <| AL rfl tz67 fun b16 => SW0 rfl ts67 rfl <| RK hK15 <| w_seq fun _ hK17 => w_draw4 mixed [0, 1, 2, 3, 4] [5, 6, 7, 8] [false, false, false, false, false] [false, false, false, false] [(blk b16 67 (SignalV.cells (SignalV.mk (-1) 0))), (blk b12 3 [(Value.int .i64 r.Now)]), (blk b10 3 [(Value.int .i64 r.Start)]), (blk b3 31 (RideV.cells (RideV.mk r.Start r.Now (Slc.mk sgA r.Signals.length sgC)))), (blk b2 28 (LineV.cells (LineV.mk (TrackV.mk (Slc.mk kA l.Track.length kC)) l.Fast (Slc.mk cA l.Clocks.length cC) (Slc.mk bA l.Beams.length bC) l.Finish l.Fakes l.Misses))), (rd kA l.Track.length 9 (l.Track.map StretchV.cells)).ro, (rd cA l.Clocks.length 2 (List.zipWith ClockM.cells l.Clocks az)).ro, (bun (nest ClockM.rds l.Clocks az)).ro, (rd bA l.Beams.length 4 (l.Beams.map BeamV.cells)).ro, (rd sgA r.Signals.length 2 (r.Signals.map SignalV.cells)).ro] [] (by kernel_rfl) (fun w hs => St.sel [0, 1, 2, 3, 4, 5, 6, 7, 8, 9] rfl rfl hs) (fun w hs => St.sel [] rfl rfl hs) <| eS rfl (LW 4 rfl tk28 rfl rfl) <| eS rfl (LW 3 rfl tk31 rfl rfl) ?_
 refine eS rfl (FA 3 rfl fo28_3 rfl) <| eS rfl (L1 (Value.slice bA l.Beams.length bC) 4 rfl tk26 rfl rfl) <| eS rfl (LN rfl ut26) <| d_fin rfl <| t_cons rfl fun T18 hT18 => r_mks (n := l.Beams.length) (es := (List.map oC (List.replicate l.Beams.length (none : Option Nat)))) rfl rfl rfl ta114 (by omega) (by omega) (by simp only [maxLen]; omega) (by rw [List.map_replicate]; rfl) rfl fun b19 => ?_
 try dsimp only
 refine RN hT18 [1, 2, 3, 4, 5, 6, 7, 8, 9, 10] rfl rfl <| t_cons rfl fun T20 hT20 => rS (SX (sd_build (xs := [(0, .tmp 44), (1, .tmp 45), (3, .tmp 49)]) (cs := (WatchV.cells (WatchV.mk (LineV.mk (TrackV.mk (Slc.mk kA l.Track.length kC)) l.Fast (Slc.mk cA l.Clocks.length cC) (Slc.mk bA l.Beams.length bC) l.Finish l.Fakes l.Misses) (RideV.mk r.Start r.Now (Slc.mk sgA r.Signals.length sgC)) (Slc.mk none 0 0) (Slc.mk (some ⟨b19, 0, none⟩) l.Beams.length l.Beams.length) (Slc.mk none 0 0) (Slc.mk none 0 0)))) rfl rfl (built_of tb117 rfl)) rfl rfl) <| RN hT20 [1, 2, 3, 4, 5, 6, 7, 8, 9, 10] rfl rfl <| t_cons rfl fun T21 hT21 => BXA rfl fun b22 => RN hT21 [2, 3, 4, 5, 6, 7, 8, 9, 10, 11] rfl rfl <| t_cons rfl fun T23 hT23 => rS (AG rfl) <| RN hT23 [2, 3, 4, 5, 6, 7, 8, 9, 10, 11] rfl rfl ?_
 refine t_fin rfl <| KK hK17 <| w_seq fun _ hK24 => WS fun _ hK25 => rS (FA 3 rfl fo28_3 rfl) <| rS (L1 (Value.slice bA l.Beams.length bC) 6 rfl tk26 rfl rfl) <| rS (LN rfl ut26) <| rS (MV rfl) <| RK hK25 <| w_block ?_
 rw [fillF_nil]
 refine w_own_nil 3 1 <| w_tie0 ?_
 have hinit : (0 ≤ l.Beams.length) ∧ (([] : List Nat).length = 0) := by exact ⟨Nat.zero_le _, rfl⟩
 refine w_loop (ι := { z : Nat × (Option Addr) × Nat × (List Nat) // (z.1 ≤ l.Beams.length) ∧ (z.2.2.2.length = z.1) }) (fun z => [(2, (Value.slice none 0 0)), (3, (Value.pointer (some ⟨b2, 0, none⟩))), (4, (Value.pointer (some ⟨b3, 0, none⟩))), (6, (Value.pointer none)), (7, (Value.int .i64 0)), (9, (Value.pointer (some ⟨b16, 0, none⟩))), (10, (Value.pointer (some ⟨b22, 0, none⟩))), (54, (Value.int .i64 ((l.Beams.length : Nat) : Int))), (55, (Value.int .i64 ((z.1.1 : Nat) : Int)))]) (fun z => [(bund (nest tmR (List.replicate z.1.1 ([] : TM)) z.1.2.2.2)), (own z.1.2.1 z.1.2.2.1 3 1 ((leasts l z.1.1).map iC)), (blk b22 117 (WatchV.cells (WatchV.mk (LineV.mk (TrackV.mk (Slc.mk kA l.Track.length kC)) l.Fast (Slc.mk cA l.Clocks.length cC) (Slc.mk bA l.Beams.length bC) l.Finish l.Fakes l.Misses) (RideV.mk r.Start r.Now (Slc.mk sgA r.Signals.length sgC)) (Slc.mk z.1.2.1 ((leasts l z.1.1).length) z.1.2.2.1) (Slc.mk (some ⟨b19, 0, none⟩) l.Beams.length l.Beams.length) (Slc.mk none 0 0) (Slc.mk none 0 0)))), (own (some ⟨b19, 0, none⟩) l.Beams.length 120 1 (List.map oC (fillF z.1.2.2.2 l.Beams.length))), (blk b16 67 (SignalV.cells (SignalV.mk (-1) 0))), (blk b3 31 (RideV.cells (RideV.mk r.Start r.Now (Slc.mk sgA r.Signals.length sgC)))), (blk b2 28 (LineV.cells (LineV.mk (TrackV.mk (Slc.mk kA l.Track.length kC)) l.Fast (Slc.mk cA l.Clocks.length cC) (Slc.mk bA l.Beams.length bC) l.Finish l.Fakes l.Misses))), (rd kA l.Track.length 9 (l.Track.map StretchV.cells)).ro, (rd cA l.Clocks.length 2 (List.zipWith ClockM.cells l.Clocks az)).ro, (bun (nest ClockM.rds l.Clocks az)).ro, (rd bA l.Beams.length 4 (l.Beams.map BeamV.cells)).ro, (rd sgA r.Signals.length 2 (r.Signals.map SignalV.cells)).ro]) (fun z => l.Beams.length - z.1.1) ⟨(0, none, 0, ([] : List Nat)), hinit⟩ (Sub.cons rfl <| Sub.cons rfl <| Sub.cons rfl <| Sub.cons rfl <| Sub.cons rfl <| Sub.cons rfl <| Sub.cons rfl <| Sub.cons rfl <| Sub.cons rfl <| Sub.nil _) (fun w hs => St.sel [0, 1, 2, 3, 4, 7, 8, 9, 10, 11, 12, 13] rfl rfl hs) ?_
 clear hinit
 rintro ⟨⟨b, a, c, fb⟩, ⟨hl9_0, hl9_1⟩⟩ J26 hJ26
 try dsimp only at hl9_0 hl9_1
 try dsimp only
 have hlf : (fillF fb l.Beams.length).length = l.Beams.length := fillF_len (by omega)
 refine WS fun _ hK27 => rS (BI rfl b_lss) <| RK hK27 <| w_seq fun _ hK28 => ?_
 refine w_if rfl (fun h29 => ?_) (fun h29 => ?_)
 · replace h29 := DT h29
   refine WK hK28 <| w_seq fun _ hK30 => w_block <| WS fun _ hK31 => rS (MV rfl) <| rS (AG rfl) <| RK hK31 <| w_seq fun _ hK32 => w_draw4 mixed [0, 1, 2, 3, 4, 5, 6, 7, 8, 9, 10, 11, 14, 15] [12, 13, 16] [false, false, false, false, true, false, false, false, false, false, false, false, false, false] [true, false, false] [(bund (nest tmR (List.replicate b ([] : TM)) fb)), (own (some ⟨b19, 0, none⟩) l.Beams.length 120 1 (List.map oC (fillF fb l.Beams.length))), (blk b16 67 (SignalV.cells (SignalV.mk (-1) 0))), (blk b3 31 (RideV.cells (RideV.mk r.Start r.Now (Slc.mk sgA r.Signals.length sgC)))), (blk b2 28 (LineV.cells (LineV.mk (TrackV.mk (Slc.mk kA l.Track.length kC)) l.Fast (Slc.mk cA l.Clocks.length cC) (Slc.mk bA l.Beams.length bC) l.Finish l.Fakes l.Misses))), (rd kA l.Track.length 9 (l.Track.map StretchV.cells)).ro, (rd cA l.Clocks.length 2 (List.zipWith ClockM.cells l.Clocks az)).ro, (bun (nest ClockM.rds l.Clocks az)).ro, (rd bA l.Beams.length 4 (l.Beams.map BeamV.cells)).ro, (rd sgA r.Signals.length 2 (r.Signals.map SignalV.cells)).ro] [(bund (nest tmR (List.replicate b ([] : TM)) fb)), (own a c 3 1 ((leasts l b).map iC)), (blk b22 117 (WatchV.cells (WatchV.mk (LineV.mk (TrackV.mk (Slc.mk kA l.Track.length kC)) l.Fast (Slc.mk cA l.Clocks.length cC) (Slc.mk bA l.Beams.length bC) l.Finish l.Fakes l.Misses) (RideV.mk r.Start r.Now (Slc.mk sgA r.Signals.length sgC)) (Slc.mk a ((leasts l b).length) c) (Slc.mk (some ⟨b19, 0, none⟩) l.Beams.length l.Beams.length) (Slc.mk none 0 0) (Slc.mk none 0 0)))), (own (some ⟨b19, 0, none⟩) l.Beams.length 120 1 (List.map oC (fillF fb l.Beams.length))), (blk b16 67 (SignalV.cells (SignalV.mk (-1) 0))), (blk b3 31 (RideV.cells (RideV.mk r.Start r.Now (Slc.mk sgA r.Signals.length sgC)))), (blk b2 28 (LineV.cells (LineV.mk (TrackV.mk (Slc.mk kA l.Track.length kC)) l.Fast (Slc.mk cA l.Clocks.length cC) (Slc.mk bA l.Beams.length bC) l.Finish l.Fakes l.Misses))), (rd kA l.Track.length 9 (l.Track.map StretchV.cells)).ro, (rd cA l.Clocks.length 2 (List.zipWith ClockM.cells l.Clocks az)).ro, (bun (nest ClockM.rds l.Clocks az)).ro, (rd bA l.Beams.length 4 (l.Beams.map BeamV.cells)).ro, (rd sgA r.Signals.length 2 (r.Signals.map SignalV.cells)).ro] (by kernel_rfl) (fun w hs => St.sel [0, 3, 4, 5, 6, 7, 8, 9, 10, 11] rfl rfl hs) (fun w hs => St.sel [0, 1, 2, 3, 4, 5, 6, 7, 8, 9, 10, 11] rfl rfl hs) <| eS rfl (MV rfl) ?_
   refine eS rfl (MV rfl) <| eS rfl (SX (sd_nil_p rfl rfl) rfl rfl) <| eS rfl (FA 10 rfl fo117_2 rfl) <| fS rfl (L1 (Value.slice a ((leasts l b).length) c) 2 rfl tk35 rfl rfl) <| eS rfl (LW 4 rfl tk28 rfl rfl) <| eS rfl (MV rfl) <| eS rfl (CL (way_c l kA kC az cA cC bA bC ((b : Nat) : Int) hin (by first | assumption | omega | (simp; done) | (simp; omega)) (by exact hok.beam) (by first | assumption | omega | (simp; done) | (simp; omega))) (ha_at 5 rfl rfl <| ha_at 6 rfl rfl <| ha_at 7 rfl rfl <| ha_at 8 rfl rfl <| ha_nil) rfl) ?_
   have hwb := way_b htr hok.beam b
   have hwy := hok.way b (by omega)
   simp only [Int.toNat_natCast]
   refine eS rfl (BI rfl (b_mul ⟨by omega, by omega⟩)) <| eS rfl (FA 1 rfl fo28_1 rfl) <| eS rfl (L1 (Value.int .i64 l.Fast) 4 rfl tk3 rfl rfl) <| eS rfl (CL (upd_c (1000 * (wayF l ((b : Nat) : Int).toNat)) l.Fast (by first | assumption | omega | (simp; done) | (simp; omega)) (by first | assumption | omega | (simp; done) | (simp; omega))) (ha_nil) rfl) <| eS rfl (SX (sd_nil_p rfl rfl) rfl rfl) <| eS rfl (FA 10 rfl fo117_2 rfl) <| d_fin rfl <| t5_cons rfl fun T33 hT33 => r_bs (xs := [.tmp 69]) (cs := [(Value.int .i64 (upD (1000 * (wayF l ((b : Nat) : Int).toNat)) l.Fast))]) rfl te35 tz3 rfl rfl rfl rfl (by simp [Value.cells]) rfl rfl fun b34 => ?_
   refine r_nil (hT33 _ _ (fun w hs => St.sel [1, 4, 5, 6, 7, 8, 9, 10, 11, 12] rfl rfl hs) (fun w hs => St.sel [1, 2, 3, 4, 5, 6, 7, 8, 9, 10, 11, 12] rfl rfl hs) ?_)
   refine t_cons rfl fun T35 hT35 => r_append (es2 := (List.map iC (leasts l (b + 1)))) (m' := (leasts l (b + 1)).length) 2 rfl rfl rfl ta35 rfl rfl (by simp [leasts_len]) (has_rd_blk (es := List.map iC [(upD (1000 * (wayF l ((b : Nat) : Int).toNat)) l.Fast)]) 0 rfl rfl (by simp [iC_length]) rfl) (one_iC _) (by have := leasts_len (l := l) (n := b); first | omega | (simp; omega)) (by simp only [maxLen, leasts_len]; omega) (by rw [leasts_succ]; simp [leastF]) (by simp [leasts_len]) rfl fun a36 c37 => ?_
   try dsimp only
   refine RN hT35 [1, 4, 5, 6, 7, 8, 9, 10, 11, 12] rfl rfl <| t_cons rfl fun T38 hT38 => ST3 (WatchV.cells (WatchV.mk (LineV.mk (TrackV.mk (Slc.mk kA l.Track.length kC)) l.Fast (Slc.mk cA l.Clocks.length cC) (Slc.mk bA l.Beams.length bC) l.Finish l.Fakes l.Misses) (RideV.mk r.Start r.Now (Slc.mk sgA r.Signals.length sgC)) (Slc.mk a36 ((leasts l (b + 1)).length) c37) (Slc.mk (some ⟨b19, 0, none⟩) l.Beams.length l.Beams.length) (Slc.mk none 0 0) (Slc.mk none 0 0))) rfl ts35 rfl rfl <| RN hT38 [1, 4, 5, 6, 7, 8, 9, 10, 11, 12] rfl rfl <| t_fin rfl <| KK hK32 <| w_region <| rS (MV rfl) <| rS (SX (sd_nil_p rfl rfl) rfl rfl) <| rS (FA 11 rfl fo117_3 rfl) ?_
   refine rS (L1 (Value.slice (some ⟨b19, 0, none⟩) l.Beams.length l.Beams.length) 3 rfl tk114 rfl rfl) <| rS (MV rfl) <| gr_mkmap (kV := iV) rfl rfl fun b39 => ?_
   try dsimp only
   obtain ⟨x40, hx41⟩ : ∃ y_, (fillF fb l.Beams.length)[b]? = some y_ := ⟨(fillF fb l.Beams.length)[b]'(by omega), List.getElem?_eq_getElem _⟩
   have hx41m : (List.map oC (fillF fb l.Beams.length))[b]? = some (oC x40) := by rw [List.getElem?_map, hx41]; rfl
   refine rS (IA b rfl (has_own_n (n := l.Beams.length) 5 rfl (by first | (simp; done) | (simp; omega))) te114 (by decide) (by omega) (by omega)) ?_
   have hb42 : ((fillF fb l.Beams.length).set b (some b39)) = (fillF (fb ++ [b39]) l.Beams.length) := by exact fillF_set (by omega) (by omega)
   refine r_store_own (k := b) (o := 0) (vs := [(Value.map (some b39))]) (es' := (List.map oC (fillF (fb ++ [b39]) l.Beams.length))) (C' := [_, _, _, _, _, (own (some ⟨b19, 0, none⟩) l.Beams.length 120 1 (List.map oC (fillF (fb ++ [b39]) l.Beams.length))), _, _, _, _, _, _, _, _]) 5 rfl rfl rfl ts120 rfl rfl rfl rfl hx41m rfl (by decide) (by exact (List.map_set (f := oC) (l := (fillF fb l.Beams.length)) (i := b) (a := (some b39))).symm.trans (congrArg _ hb42)) rfl <| r_nil <| k_block <| KK hK30 <| w_region <| rS (BI rfl (b_add ⟨by omega, by omega⟩)) <| rS (MV rfl) <| r_nil <| k_tie (X' := nest tmR (List.replicate (b + 1) ([] : TM)) (fb ++ [b39])) 2 0 rfl rfl (tm_snoc hl9_1) ?_
   try dsimp only
   have hb43 : (Value.int .i64 (((b + 1) : Nat) : Int)) = (Value.int .i64 (((b : Nat) : Int) + 1)) := by exact congrArg (Value.int .i64) (by omega)
   refine k_then (hJ26 ⟨((b + 1), a36, c37, (fb ++ [b39])), ⟨by omega, by simp; omega⟩⟩ _ _ _ rfl (by first | omega | (simp; omega)) (Sub.cons rfl <| Sub.cons rfl <| Sub.cons rfl <| Sub.cons rfl <| Sub.cons rfl <| Sub.cons rfl <| Sub.cons rfl <| Sub.cons rfl <| sub_val rfl hb43 <| Sub.nil _) (fun w hs => St.sel [0, 2, 3, 4, 5, 6, 7, 8, 9, 10, 11, 12] rfl rfl hs))
 replace h29 := DF h29
 refine w_exit <| k_exit_then <| k_exit_then <| k_exit_same <| KK hK24 <| w_seq fun _ hK44 => WS fun _ hK45 => rS (FA 2 rfl fo31_2 rfl) <| rS (L1 (Value.slice sgA r.Signals.length sgC) 5 rfl tk29 rfl rfl) <| rS (LN rfl ut29) ?_
 refine rS (MV rfl) <| RK hK45 <| w_block ?_
 rw [show (List.replicate b ([] : TM)) = timesT l r.Signals 0 from by rw [times_zero, show b = l.Beams.length by omega]]
 rw [show leasts l b = leasts l l.Beams.length from by rw [show b = l.Beams.length by omega]]
 have hinit : (0 ≤ r.Signals.length) ∧ (SigsTo l r.Signals 0) := by exact ⟨Nat.zero_le _, sigs_zero⟩
 refine w_loop (ι := { z : Nat // (z ≤ r.Signals.length) ∧ (SigsTo l r.Signals z) }) (fun z => [(2, (Value.slice none 0 0)), (3, (Value.pointer (some ⟨b2, 0, none⟩))), (4, (Value.pointer (some ⟨b3, 0, none⟩))), (6, (Value.pointer none)), (7, (Value.int .i64 0)), (9, (Value.pointer (some ⟨b16, 0, none⟩))), (10, (Value.pointer (some ⟨b22, 0, none⟩))), (83, (Value.slice sgA r.Signals.length sgC)), (84, (Value.int .i64 ((r.Signals.length : Nat) : Int))), (85, (Value.int .i64 ((z.1 : Nat) : Int)))]) (fun z => [(bund (nest tmR (timesT l r.Signals z.1) fb)), (own a c 3 1 ((leasts l l.Beams.length).map iC)), (blk b22 117 (WatchV.cells (WatchV.mk (LineV.mk (TrackV.mk (Slc.mk kA l.Track.length kC)) l.Fast (Slc.mk cA l.Clocks.length cC) (Slc.mk bA l.Beams.length bC) l.Finish l.Fakes l.Misses) (RideV.mk r.Start r.Now (Slc.mk sgA r.Signals.length sgC)) (Slc.mk a ((leasts l l.Beams.length).length) c) (Slc.mk (some ⟨b19, 0, none⟩) l.Beams.length l.Beams.length) (Slc.mk none 0 0) (Slc.mk none 0 0)))), (own (some ⟨b19, 0, none⟩) l.Beams.length 120 1 (List.map oC (fillF fb l.Beams.length))), (blk b16 67 (SignalV.cells (prevS r.Signals z.1))), (blk b3 31 (RideV.cells (RideV.mk r.Start r.Now (Slc.mk sgA r.Signals.length sgC)))), (blk b2 28 (LineV.cells (LineV.mk (TrackV.mk (Slc.mk kA l.Track.length kC)) l.Fast (Slc.mk cA l.Clocks.length cC) (Slc.mk bA l.Beams.length bC) l.Finish l.Fakes l.Misses))), (rd kA l.Track.length 9 (l.Track.map StretchV.cells)).ro, (rd cA l.Clocks.length 2 (List.zipWith ClockM.cells l.Clocks az)).ro, (bun (nest ClockM.rds l.Clocks az)).ro, (rd bA l.Beams.length 4 (l.Beams.map BeamV.cells)).ro, (rd sgA r.Signals.length 2 (r.Signals.map SignalV.cells)).ro]) (fun z => r.Signals.length - z.1) ⟨0, hinit⟩ (Sub.cons rfl <| Sub.cons rfl <| Sub.cons rfl <| Sub.cons rfl <| Sub.cons rfl <| Sub.cons rfl <| Sub.cons rfl <| Sub.cons rfl <| Sub.cons rfl <| Sub.cons rfl <| Sub.nil _) (fun w hs => St.sel [0, 1, 2, 3, 4, 5, 6, 7, 8, 9, 10, 11] rfl rfl hs) ?_
 clear hinit
 rintro ⟨i, ⟨hl15_0, hl15_1⟩⟩ J46 hJ46
 try dsimp only
 have htlen : (timesT l r.Signals i).length = l.Beams.length := timesT_len
 have hlf : (fillF fb l.Beams.length).length = l.Beams.length := fillF_len (by omega)
 refine WS fun _ hK47 => rS (BI rfl b_lss) <| RK hK47 <| w_seq fun _ hK48 => ?_
 refine w_if rfl (fun h49 => ?_) (fun h49 => ?_)
 rotate_left 1
 · replace h49 := DF h49
   refine w_exit <| k_exit_then <| k_exit_then <| k_exit_same <| KK hK44 <| w_seq fun _ hK79 => w_seq fun _ hK80 => ?_
   have hro : RideOk l r := ride_all (by omega) (by omega) hl15_1 (by omega)
   refine w_region <| rS (MV rfl) <| rS (LN rfl ut112) <| rS (MV rfl) <| RK hK80 <| w_block <| w_rounds 1 <| ro_succ fun R81 hR81 => WS fun _ hK82 => rS (SX (sd_bin (r := .bool false) rfl rfl rfl b_lss) rfl rfl) ?_
   refine RK hK82 <| w_seq fun _ hK83 => w_if_false rfl <| w_exit <| k_exit_then <| k_exit_then <| k_exit_same <| KK hK79 <| w_seq fun _ hK84 => ?_
   rw [show timesT l r.Signals i = timesT l r.Signals r.Signals.length from by rw [show i = r.Signals.length by omega]]
   have htl : (timesT l r.Signals r.Signals.length).length = l.Beams.length := timesT_len
   rw [show (List.map oC (fillF fb l.Beams.length)) = (List.zipWith mapC (timesT l r.Signals r.Signals.length) fb) from zipF (by omega) htl]
   rw [show (blk b22 117 (WatchV.cells (WatchV.mk (LineV.mk (TrackV.mk (Slc.mk kA l.Track.length kC)) l.Fast (Slc.mk cA l.Clocks.length cC) (Slc.mk bA l.Beams.length bC) l.Finish l.Fakes l.Misses) (RideV.mk r.Start r.Now (Slc.mk sgA r.Signals.length sgC)) (Slc.mk a ((leasts l l.Beams.length).length) c) (Slc.mk (some ⟨b19, 0, none⟩) l.Beams.length l.Beams.length) (Slc.mk none 0 0) (Slc.mk none 0 0)))) = (blk b22 117 (WatchV.cells (WatchV.mk (LineV.mk (TrackV.mk (Slc.mk kA l.Track.length kC)) l.Fast (Slc.mk cA l.Clocks.length cC) (Slc.mk bA l.Beams.length bC) l.Finish l.Fakes l.Misses) (RideV.mk r.Start r.Now (Slc.mk sgA r.Signals.length sgC)) (Slc.mk a ((leasts l l.Beams.length).length) c) (Slc.mk (some ⟨b19, 0, none⟩) ((timesT l r.Signals r.Signals.length).length) l.Beams.length) (Slc.mk none 0 0) (Slc.mk none 0 0)))) from by rw [htl]]
   have hwo := watch_ok htr hok hro
   have hlel : (leasts l l.Beams.length).length = l.Beams.length := leasts_len
   refine w_region <| rS (MV rfl) ?_
   refine r_callm 2 rfl rfl rfl rfl (follow_c (LineV.mk (TrackV.mk (Slc.mk kA l.Track.length kC)) l.Fast (Slc.mk cA l.Clocks.length cC) (Slc.mk bA l.Beams.length bC) l.Finish l.Fakes l.Misses) (RideV.mk r.Start r.Now (Slc.mk sgA r.Signals.length sgC)) (leasts l l.Beams.length) (timesT l r.Signals r.Signals.length) a c fb (some ⟨b19, 0, none⟩) l.Beams.length b22 (by exact hwo) (by exact leasts_len.symm) (by rw [htl]; omega)) rfl (cv_cons 1 rfl rfl (cov_own_n (by simp)) (cv_cons 3 rfl rfl (cov_own_n (by rw [List.length_zipWith]; omega)) (cv_cons 0 rfl rfl cov_bund cv_nil))) rfl (fun y93 hfo => ?_)
   obtain ⟨fs85, fb86, fA87, fC88, bs89, bb90, bA91, bC92⟩ := y93
   refine r_untie (X := [(blk b22 117 (WatchV.cells (WatchV.mk (LineV.mk (TrackV.mk (Slc.mk kA l.Track.length kC)) l.Fast (Slc.mk cA l.Clocks.length cC) (Slc.mk bA l.Beams.length bC) l.Finish l.Fakes l.Misses) (RideV.mk r.Start r.Now (Slc.mk sgA r.Signals.length sgC)) (Slc.mk a ((leasts l l.Beams.length).length) c) (Slc.mk (some ⟨b19, 0, none⟩) ((timesT l r.Signals r.Signals.length).length) l.Beams.length) (Slc.mk fA87 fs85.length fC88) (Slc.mk bA91 bs89.length bC92)))), (own fA87 fC88 122 1 (List.zipWith mapC fs85 fb86)), (bund (nest fmR fs85 fb86)), (own bA91 bC92 122 1 (List.zipWith mapC bs89 bb90)), (bund (nest fmR bs89 bb90))]) 2 rfl rfl ?_
   try dsimp only
   obtain ⟨hq1, hq2, hq3, hq4⟩ := hfo
   dsimp only at hq1 hq2 hq3 hq4
   refine RK hK84 <| w_seq fun _ hK94 => WS fun _ hK95 => rS (MV rfl) <| cX (numbers_c (LineV.mk (TrackV.mk (Slc.mk kA l.Track.length kC)) l.Fast (Slc.mk cA l.Clocks.length cC) (Slc.mk bA l.Beams.length bC) l.Finish l.Fakes l.Misses) (RideV.mk r.Start r.Now (Slc.mk sgA r.Signals.length sgC)) (leasts l l.Beams.length) (timesT l r.Signals r.Signals.length) a c fb (some ⟨b19, 0, none⟩) l.Beams.length fs85 bs89 fb86 fA87 fC88 bb90 bA91 bC92 b22 (by exact hwo) (by first | assumption | omega | (simp; done) | (simp; omega)) (by exact leasts_len.symm) (by exact hq1) (by first | assumption | omega | (simp; done) | (simp; omega))) (ha_cons (has_own_n (n := (leasts l l.Beams.length).length) 6 rfl (by simp)) <| ha_cons (has_own_n (n := (timesT l r.Signals r.Signals.length).length) 7 rfl (by rw [List.length_zipWith]; omega)) <| ha_cons (bun_bund 5 rfl bun_same) <| ha_cons (has_own_n (n := fs85.length) 1 rfl (by rw [List.length_zipWith]; omega)) <| ha_cons (bun_bund 2 rfl bun_same) <| ha_cons (has_own_n (n := bs89.length) 3 rfl (by rw [List.length_zipWith]; omega)) <| ha_cons (bun_bund 4 rfl bun_same) <| ha_at 0 rfl rfl <| ha_nil) rfl fun y96 hy97 => ?_
   obtain ⟨a98, c99⟩ := y96
   try dsimp only
   refine rS (LN rfl ut35) <| rS (BI rfl b_eql) <| RK hK95 ?_
   refine w_if rfl (fun h164 => ?_) (fun h164 => ?_)
   rotate_left 1
   · replace h164 := DF h164
     refine WK hK94 <| WS fun _ hK101 => rS (MV rfl) <| rS (AG rfl) <| rS (AG rfl) <| RK hK101 <| w_ret ?_
     refine hQ _ _ _ (l_nil (vs := [(Value.pointer (some ⟨b22, 0, none⟩)), (Value.int .i64 0)]) ⟨rfl, rfl, trivial⟩ fun w hs => endX (true, 0, b22, a, c, (some ⟨b19, 0, none⟩), l.Beams.length, fb, fs85, fb86, fA87, fC88, bs89, bb90, bA91, bC92) [1, 7, 8, 6, 2, 3, 4, 5] ?_ ?_ rfl rfl (by first | rfl | (show List.all _ _ = true; simp only [cond_true, List.all_cons, List.all_nil, fm_wr, tm_wr, Bool.and_true]; rfl)) hs)
     · rfl
     · exact ⟨fun _ => ⟨open_ok_e h10 hro (by first | rfl | exact h156) (fun q => h164 (congrArg (fun z : List Int => ((z.length : Nat) : Int)) q)), hq1, hq2, hq3, hq4, by dsimp only; omega⟩, fun q => Bool.noConfusion (show true = false from q)⟩
   replace h164 := DT h164
   refine WS fun _ hK100 => rS (AG rfl) <| rS (AG rfl) <| RK hK100 <| w_ret ?_
   refine hQ _ _ _ (l_nil (vs := [(Value.pointer none), (Value.int .i64 8)]) ⟨rfl, rfl, trivial⟩ fun w hs => endX (false, 8, 0, none, 0, none, 0, [], [], [], none, 0, [], [], none, 0) [] ?_ ?_ rfl rfl (by first | rfl | (show List.all _ _ = true; simp only [cond_true, List.all_cons, List.all_nil, fm_wr, tm_wr, Bool.and_true]; rfl)) hs)
   · rfl
   · refine ⟨fun q => Bool.noConfusion (show false = true from q), fun _ => ?_⟩; first | (have e := open_line_e (r := r) (me := 0) h21; exact ⟨e.symm, fun q => h21 (e.symm.trans q)⟩) | (have e := open_ride_e (me := 0) h10 (fun q : RideOk l r => by have q1 := q.time; have q2 := q.len; omega); exact ⟨e.symm, fun q => absurd (e.symm.trans q) (by decide)⟩) | (have e := open_ride_e (me := 0) h10 (ride_no hx (by unfold SigOk SigIn; omega)); exact ⟨e.symm, fun q => absurd (e.symm.trans q) (by decide)⟩) | (have e := open_bad_e (me := 0) h10 hro (by first | rfl | exact h156) (show numsF (watchL l r) = [] from List.eq_nil_of_length_eq_zero (Int.natCast_eq_zero.1 h164)); exact ⟨e.symm, fun q => absurd (e.symm.trans q) (by decide)⟩)
 replace h49 := DT h49
 refine WK hK48 <| w_seq fun _ hK50 => w_block <| WS fun _ hK51 => rS (MV rfl) ?_
 obtain ⟨x, hx⟩ : ∃ y_, r.Signals[i]? = some y_ := ⟨r.Signals[i]'(by omega), List.getElem?_eq_getElem _⟩
 have hxm : (r.Signals.map SignalV.cells)[i]? = some (SignalV.cells x) := by rw [List.getElem?_map, hx]; rfl
 refine rS (IA i rfl (has_at 11 rfl) te29 (by decide) (by omega) (by omega)) <| rS (LEN i 0 (SignalV.cells x) rfl tk67 (has_at 11 rfl) hxm rfl (by decide) rfl rfl) <| AL rfl tz67 fun b52 => rS (AG rfl) <| SW0 rfl ts67 rfl <| RK hK51 <| w_seq fun _ hK53 => WS fun _ hK54 => rS (FA 3 rfl fo28_3 rfl) <| rS (L1 (Value.slice bA l.Beams.length bC) 7 rfl tk26 rfl rfl) ?_
 refine rS (LN rfl ut26) <| rS (BI rfl (b_sub ⟨by omega, by omega⟩)) <| rS (FA 0 rfl fo67_0 rfl) <| rS (L1 (Value.int .i64 x.Beam) 0 rfl tk3 rfl rfl) <| r_bs (xs := [.tmp 95]) (cs := [(Value.int .i64 x.Beam)]) rfl te35 tz3 rfl rfl rfl rfl (by simp [Value.cells]) rfl rfl fun b55 => rS (CL (FnV.eq (in_beam 0 (((l.Beams.length : Nat) : Int) - 1) ([x.Beam]) (some ⟨b55, 0, none⟩) 1 (by first | assumption | omega | (simp; done) | (simp; omega))) inAll_one) (ha_cons (has_rd_blk 0 rfl rfl (by simp [iC_length]) rfl) <| ha_nil) rfl) <| rS (NT rfl) <| rS (MV rfl) ?_
 refine r_bool (t := 99) rfl (fun h99 => ?_) (fun h99 => ?_)
 · replace h99 := XT h99
   refine rS (OX rfl) <| rS (OX rfl) <| rS (OX rfl) <| rS (OX rfl) <| rS (OX rfl) <| rS (PK rfl) <| rS (MV rfl) <| rS (OX rfl) <| rS (OX rfl) <| rS (OX rfl) ?_
   refine rS (OX rfl) <| rS (OX rfl) <| rS (PK rfl) <| rS (MV rfl) <| rS (OX rfl) <| rS (OX rfl) <| rS (OX rfl) <| rS (OX rfl) <| rS (OX rfl) <| rS (OX rfl) ?_
   refine rS (OX rfl) <| rS (OX rfl) <| rS (OX rfl) <| rS (OX rfl) <| rS (OX rfl) <| rS (OX rfl) <| rS (PK rfl) <| RK hK54 <| w_if_true rfl <| WS fun _ hK56 => ?_
   refine rS (AG rfl) <| rS (AG rfl) <| RK hK56 <| w_ret ?_
   refine hQ _ _ _ (l_nil (vs := [(Value.pointer none), (Value.int .i64 51)]) ⟨rfl, rfl, trivial⟩ fun w hs => endX (false, 51, 0, none, 0, none, 0, [], [], [], none, 0, [], [], none, 0) [] ?_ ?_ rfl rfl (by first | rfl | (show List.all _ _ = true; simp only [cond_true, List.all_cons, List.all_nil, fm_wr, tm_wr, Bool.and_true]; rfl)) hs)
   · rfl
   · refine ⟨fun q => Bool.noConfusion (show false = true from q), fun _ => ?_⟩; first | (have e := open_line_e (r := r) (me := 0) h21; exact ⟨e.symm, fun q => h21 (e.symm.trans q)⟩) | (have e := open_ride_e (me := 0) h10 (fun q : RideOk l r => by have q1 := q.time; have q2 := q.len; omega); exact ⟨e.symm, fun q => absurd (e.symm.trans q) (by decide)⟩) | (have e := open_ride_e (me := 0) h10 (ride_no hx (by unfold SigOk SigIn; omega)); exact ⟨e.symm, fun q => absurd (e.symm.trans q) (by decide)⟩) | (have e := open_bad_e (me := 0) h10 hro (by first | rfl | exact h156) (show numsF (watchL l r) = [] from List.eq_nil_of_length_eq_zero (Int.natCast_eq_zero.1 h164)); exact ⟨e.symm, fun q => absurd (e.symm.trans q) (by decide)⟩)
 replace h99 := XF h99
 refine rS (FA 1 rfl fo67_1 rfl) <| rS (L1 (Value.int .i64 x.Read) 1 rfl tk3 rfl rfl) <| r_bs (xs := [.tmp 101]) (cs := [(Value.int .i64 x.Read)]) rfl te35 tz3 rfl rfl rfl rfl (by simp [Value.cells]) rfl rfl fun b57 => rS (CL (FnV.eq (in_beam 0 86400000 ([x.Read]) (some ⟨b57, 0, none⟩) 1 (by first | assumption | omega | (simp; done) | (simp; omega))) inAll_one) (ha_cons (has_rd_blk 0 rfl rfl (by simp [iC_length]) rfl) <| ha_nil) rfl) <| rS (NT rfl) <| rS (PK rfl) <| rS (MV rfl) ?_
 refine r_bool (t := 106) rfl (fun h106 => ?_) (fun h106 => ?_)
 · replace h106 := XT h106
   refine rS (OX rfl) <| rS (OX rfl) <| rS (OX rfl) <| rS (OX rfl) <| rS (OX rfl) <| rS (PK rfl) <| rS (MV rfl) <| rS (OX rfl) <| rS (OX rfl) <| rS (OX rfl) ?_
   refine rS (OX rfl) <| rS (OX rfl) <| rS (OX rfl) <| rS (OX rfl) <| rS (OX rfl) <| rS (OX rfl) <| rS (OX rfl) <| rS (OX rfl) <| rS (OX rfl) <| rS (PK rfl) ?_
   refine RK hK54 <| w_if_true rfl <| WS fun _ hK58 => rS (AG rfl) <| rS (AG rfl) <| RK hK58 <| w_ret ?_
   refine hQ _ _ _ (l_nil (vs := [(Value.pointer none), (Value.int .i64 51)]) ⟨rfl, rfl, trivial⟩ fun w hs => endX (false, 51, 0, none, 0, none, 0, [], [], [], none, 0, [], [], none, 0) [] ?_ ?_ rfl rfl (by first | rfl | (show List.all _ _ = true; simp only [cond_true, List.all_cons, List.all_nil, fm_wr, tm_wr, Bool.and_true]; rfl)) hs)
   · rfl
   · refine ⟨fun q => Bool.noConfusion (show false = true from q), fun _ => ?_⟩; first | (have e := open_line_e (r := r) (me := 0) h21; exact ⟨e.symm, fun q => h21 (e.symm.trans q)⟩) | (have e := open_ride_e (me := 0) h10 (fun q : RideOk l r => by have q1 := q.time; have q2 := q.len; omega); exact ⟨e.symm, fun q => absurd (e.symm.trans q) (by decide)⟩) | (have e := open_ride_e (me := 0) h10 (ride_no hx (by unfold SigOk SigIn; omega)); exact ⟨e.symm, fun q => absurd (e.symm.trans q) (by decide)⟩) | (have e := open_bad_e (me := 0) h10 hro (by first | rfl | exact h156) (show numsF (watchL l r) = [] from List.eq_nil_of_length_eq_zero (Int.natCast_eq_zero.1 h164)); exact ⟨e.symm, fun q => absurd (e.symm.trans q) (by decide)⟩)
 replace h106 := XF h106
 refine rS (FA 0 rfl fo67_0 rfl) <| rS (L1 (Value.int .i64 x.Beam) 2 rfl tk3 rfl rfl) <| rS (FA 0 rfl fo67_0 rfl) <| rS (L1 (Value.int .i64 ((prevS r.Signals i).Beam)) 7 rfl tk3 rfl rfl) <| rS (BI rfl b_lss) <| rS (PK rfl) <| rS (MV rfl) ?_
 refine r_bool (t := 113) rfl (fun h113 => ?_) (fun h113 => ?_)
 · replace h113 := DT h113
   refine rS (OX rfl) <| rS (OX rfl) <| rS (OX rfl) <| rS (OX rfl) <| rS (OX rfl) <| rS (OX rfl) <| rS (OX rfl) <| rS (OX rfl) <| rS (OX rfl) <| rS (OX rfl) ?_
   refine rS (OX rfl) <| rS (OX rfl) <| rS (PK rfl) <| RK hK54 <| w_if_true rfl <| WS fun _ hK59 => rS (AG rfl) <| rS (AG rfl) <| RK hK59 <| w_ret ?_
   refine hQ _ _ _ (l_nil (vs := [(Value.pointer none), (Value.int .i64 51)]) ⟨rfl, rfl, trivial⟩ fun w hs => endX (false, 51, 0, none, 0, none, 0, [], [], [], none, 0, [], [], none, 0) [] ?_ ?_ rfl rfl (by first | rfl | (show List.all _ _ = true; simp only [cond_true, List.all_cons, List.all_nil, fm_wr, tm_wr, Bool.and_true]; rfl)) hs)
   · rfl
   · refine ⟨fun q => Bool.noConfusion (show false = true from q), fun _ => ?_⟩; first | (have e := open_line_e (r := r) (me := 0) h21; exact ⟨e.symm, fun q => h21 (e.symm.trans q)⟩) | (have e := open_ride_e (me := 0) h10 (fun q : RideOk l r => by have q1 := q.time; have q2 := q.len; omega); exact ⟨e.symm, fun q => absurd (e.symm.trans q) (by decide)⟩) | (have e := open_ride_e (me := 0) h10 (ride_no hx (by unfold SigOk SigIn; omega)); exact ⟨e.symm, fun q => absurd (e.symm.trans q) (by decide)⟩) | (have e := open_bad_e (me := 0) h10 hro (by first | rfl | exact h156) (show numsF (watchL l r) = [] from List.eq_nil_of_length_eq_zero (Int.natCast_eq_zero.1 h164)); exact ⟨e.symm, fun q => absurd (e.symm.trans q) (by decide)⟩)
 replace h113 := DF h113
 refine rS (FA 0 rfl fo67_0 rfl) <| rS (L1 (Value.int .i64 x.Beam) 2 rfl tk3 rfl rfl) <| rS (FA 0 rfl fo67_0 rfl) <| rS (L1 (Value.int .i64 ((prevS r.Signals i).Beam)) 7 rfl tk3 rfl rfl) <| rS (BI rfl b_eql) <| rS (MV rfl) ?_
 refine r_bool (t := 119) rfl (fun h119 => ?_) (fun h119 => ?_)
 rotate_left 1
 · replace h119 := DF h119
   refine rS (OX rfl) <| rS (OX rfl) <| rS (OX rfl) <| rS (OX rfl) <| rS (OX rfl) <| rS (PK rfl) <| rS (PK rfl) <| RK hK54 <| w_if_false rfl <| WK hK53 ?_
   refine w_seq fun _ hK70 => WS fun _ hK71 => rS (LW 9 rfl tk28 rfl rfl) <| rS (LW 2 rfl tk67 rfl rfl) <| rS (CL (when_c l kA kC az cA cC bA bC x hin (by first | assumption | omega | (simp; done) | (simp; omega)) (by first | assumption | omega | (simp; done) | (simp; omega))) (ha_at 10 rfl rfl <| ha_at 11 rfl rfl <| ha_at 12 rfl rfl <| ha_at 13 rfl rfl <| ha_nil) rfl) <| AL rfl tz47 fun b72 => SW0 rfl ts47 rfl <| RK hK71 <| WS fun _ hK73 => rS (FA 0 rfl fo47_0 rfl) ?_
   refine rS (L1 (Value.int .i64 ((whenF l x).Lo)) 0 rfl tk3 rfl rfl) <| rS (FA 1 rfl fo47_1 rfl) <| rS (L1 (Value.int .i64 ((whenF l x).Hi)) 0 rfl tk3 rfl rfl) <| rS (BI rfl b_leq) <| RK hK73 ?_
   refine w_if rfl (fun h134 => ?_) (fun h134 => ?_)
   rotate_left 1
   · replace h134 := DF h134
     refine WK hK70 <| w_region <| rS (LW 3 rfl tk67 rfl rfl) <| SW8 rfl ts67 rfl <| r_nil <| k_block <| KK hK50 ?_
     have hb77 : (SignalV.cells x) = (SignalV.cells (prevS r.Signals (i + 1))) := by rw [prevS_succ hx]
     rw [hb77]
     refine w_region <| rS (BI rfl (b_add ⟨by omega, by omega⟩)) <| rS (MV rfl) <| r_nil ?_
     rw [show (timesT l r.Signals i) = (timesT l r.Signals (i + 1)) from (times_skip hx h134).symm]
     have hb78 : (Value.int .i64 (((i + 1) : Nat) : Int)) = (Value.int .i64 (((i : Nat) : Int) + 1)) := by exact congrArg (Value.int .i64) (by omega)
     refine k_then (hJ46 ⟨(i + 1), ⟨by omega, sigs_succ hl15_1 hx (by unfold SigOk SigIn; omega)⟩⟩ _ _ _ rfl (by first | omega | (simp; omega)) (Sub.cons rfl <| Sub.cons rfl <| Sub.cons rfl <| Sub.cons rfl <| Sub.cons rfl <| Sub.cons rfl <| Sub.cons rfl <| Sub.cons rfl <| Sub.cons rfl <| sub_val rfl hb78 <| Sub.nil _) (fun w hs => St.sel [4, 5, 6, 7, 8, 9, 10, 11, 12, 13, 14, 15] rfl rfl hs))
   replace h134 := DT h134
   obtain ⟨mb, hmb⟩ : ∃ y_, (timesT l r.Signals i)[(x.Beam).toNat]? = some y_ := ⟨(timesT l r.Signals i)[(x.Beam).toNat]'(by omega), List.getElem?_eq_getElem _⟩
   obtain ⟨ga, hga⟩ : ∃ y_, fb[(x.Beam).toNat]? = some y_ := ⟨fb[(x.Beam).toNat]'(by omega), List.getElem?_eq_getElem _⟩
   refine w_out 4 hmb hga rfl rfl rfl ?_
   try dsimp only
   refine w_draw mixed 10 (by kernel_rfl) <| dS (MV rfl) <| dS (SX (sd_nil_p rfl rfl) rfl rfl) <| dS (FA 11 rfl fo117_3 rfl) <| dS (L1 (Value.slice (some ⟨b19, 0, none⟩) l.Beams.length l.Beams.length) 7 rfl tk114 rfl rfl) <| dS (FA 0 rfl fo67_0 rfl) <| dS (L1 (Value.int .i64 x.Beam) 5 rfl tk3 rfl rfl) ?_
   have hk74 : (List.map oC (fillF fb l.Beams.length))[(x.Beam).toNat]? = some (oC (some ga)) := oC_at (fillF_at hga)
   refine dS (IA ((x.Beam).toNat) rfl (has_own_n (n := l.Beams.length) 8 rfl (by first | (simp; done) | (simp; omega))) te114 (by decide) (by omega) (by omega)) <| dS (LE1 ((x.Beam).toNat) 0 (Value.map (some ga)) rfl tk120 (has_own_n (n := (fillF fb l.Beams.length).length) 8 rfl (by simp)) hk74 rfl (by decide) rfl) <| dS (MV rfl) <| dS (LW 2 rfl tk47 rfl rfl) <| d_end <| gr_mapset (kV := iV) (x := ((i : Nat) : Int)) (C' := [(gmp iV ga (gmapV spanU (gsetK mb ((i : Nat) : Int) (whenF l x)))), _, _, _, _, _, _, _, _, _, _, _, _, _, _, _, _]) 0 rfl rfl rfl rfl ut120 (gkey_int ut3) rfl (gmapV_setK _ _ _ _).symm rfl <| RK hK70 <| w_region <| rS (LW 5 rfl tk67 rfl rfl) <| SW9 rfl ts67 rfl ?_
   refine r_nil <| k_block <| KK hK50 ?_
   have hb75 : (SignalV.cells x) = (SignalV.cells (prevS r.Signals (i + 1))) := by rw [prevS_succ hx]
   rw [hb75]
   refine w_region <| rS (BI rfl (b_add ⟨by omega, by omega⟩)) <| rS (MV rfl) <| r_nil <| k_back (f := tmR) (ms := (timesT l r.Signals i)) (m := (gsetK mb ((i : Nat) : Int) (whenF l x))) 1 0 (by rw [timesT_len]; omega) hga rfl rfl rfl ?_
   rw [times_put hx (by omega) h134 hmb]
   have hb76 : (Value.int .i64 (((i + 1) : Nat) : Int)) = (Value.int .i64 (((i : Nat) : Int) + 1)) := by exact congrArg (Value.int .i64) (by omega)
   refine k_then (hJ46 ⟨(i + 1), ⟨by omega, sigs_succ hl15_1 hx (by unfold SigOk SigIn; omega)⟩⟩ _ _ _ rfl (by first | omega | (simp; omega)) (Sub.cons rfl <| Sub.cons rfl <| Sub.cons rfl <| Sub.cons rfl <| Sub.cons rfl <| Sub.cons rfl <| Sub.cons rfl <| Sub.cons rfl <| Sub.cons rfl <| sub_val rfl hb76 <| Sub.nil _) (fun w hs => St.sel [0, 5, 6, 7, 8, 9, 10, 11, 12, 13, 14, 15] rfl rfl hs))
 replace h119 := DT h119
 refine rS (FA 1 rfl fo67_1 rfl) <| rS (L1 (Value.int .i64 x.Read) 2 rfl tk3 rfl rfl) <| rS (FA 1 rfl fo67_1 rfl) <| rS (L1 (Value.int .i64 ((prevS r.Signals i).Read)) 7 rfl tk3 rfl rfl) <| rS (BI rfl b_leq) <| rS (PK rfl) <| rS (PK rfl) <| RK hK54 ?_
 refine w_if rfl (fun h126 => ?_) (fun h126 => ?_)
 · replace h126 := DT h126
   refine WS fun _ hK60 => rS (AG rfl) <| rS (AG rfl) <| RK hK60 <| w_ret ?_
   refine hQ _ _ _ (l_nil (vs := [(Value.pointer none), (Value.int .i64 51)]) ⟨rfl, rfl, trivial⟩ fun w hs => endX (false, 51, 0, none, 0, none, 0, [], [], [], none, 0, [], [], none, 0) [] ?_ ?_ rfl rfl (by first | rfl | (show List.all _ _ = true; simp only [cond_true, List.all_cons, List.all_nil, fm_wr, tm_wr, Bool.and_true]; rfl)) hs)
   · rfl
   · refine ⟨fun q => Bool.noConfusion (show false = true from q), fun _ => ?_⟩; first | (have e := open_line_e (r := r) (me := 0) h21; exact ⟨e.symm, fun q => h21 (e.symm.trans q)⟩) | (have e := open_ride_e (me := 0) h10 (fun q : RideOk l r => by have q1 := q.time; have q2 := q.len; omega); exact ⟨e.symm, fun q => absurd (e.symm.trans q) (by decide)⟩) | (have e := open_ride_e (me := 0) h10 (ride_no hx (by unfold SigOk SigIn; omega)); exact ⟨e.symm, fun q => absurd (e.symm.trans q) (by decide)⟩) | (have e := open_bad_e (me := 0) h10 hro (by first | rfl | exact h156) (show numsF (watchL l r) = [] from List.eq_nil_of_length_eq_zero (Int.natCast_eq_zero.1 h164)); exact ⟨e.symm, fun q => absurd (e.symm.trans q) (by decide)⟩)
 replace h126 := DF h126
 refine WK hK53 <| w_seq fun _ hK61 => WS fun _ hK62 => rS (LW 9 rfl tk28 rfl rfl) <| rS (LW 2 rfl tk67 rfl rfl) <| rS (CL (when_c l kA kC az cA cC bA bC x hin (by first | assumption | omega | (simp; done) | (simp; omega)) (by first | assumption | omega | (simp; done) | (simp; omega))) (ha_at 10 rfl rfl <| ha_at 11 rfl rfl <| ha_at 12 rfl rfl <| ha_at 13 rfl rfl <| ha_nil) rfl) <| AL rfl tz47 fun b63 => SW0 rfl ts47 rfl <| RK hK62 <| WS fun _ hK64 => ?_
 refine rS (FA 0 rfl fo47_0 rfl) <| rS (L1 (Value.int .i64 ((whenF l x).Lo)) 0 rfl tk3 rfl rfl) <| rS (FA 1 rfl fo47_1 rfl) <| rS (L1 (Value.int .i64 ((whenF l x).Hi)) 0 rfl tk3 rfl rfl) <| rS (BI rfl b_leq) <| RK hK64 ?_
 refine w_if rfl (fun h134 => ?_) (fun h134 => ?_)
 rotate_left 1
 · replace h134 := DF h134
   refine WK hK61 <| w_region <| rS (LW 3 rfl tk67 rfl rfl) <| SW8 rfl ts67 rfl <| r_nil <| k_block <| KK hK50 ?_
   have hb68 : (SignalV.cells x) = (SignalV.cells (prevS r.Signals (i + 1))) := by rw [prevS_succ hx]
   rw [hb68]
   refine w_region <| rS (BI rfl (b_add ⟨by omega, by omega⟩)) <| rS (MV rfl) <| r_nil ?_
   rw [show (timesT l r.Signals i) = (timesT l r.Signals (i + 1)) from (times_skip hx h134).symm]
   have hb69 : (Value.int .i64 (((i + 1) : Nat) : Int)) = (Value.int .i64 (((i : Nat) : Int) + 1)) := by exact congrArg (Value.int .i64) (by omega)
   refine k_then (hJ46 ⟨(i + 1), ⟨by omega, sigs_succ hl15_1 hx (by unfold SigOk SigIn; omega)⟩⟩ _ _ _ rfl (by first | omega | (simp; omega)) (Sub.cons rfl <| Sub.cons rfl <| Sub.cons rfl <| Sub.cons rfl <| Sub.cons rfl <| Sub.cons rfl <| Sub.cons rfl <| Sub.cons rfl <| Sub.cons rfl <| sub_val rfl hb69 <| Sub.nil _) (fun w hs => St.sel [4, 5, 6, 7, 8, 9, 10, 11, 12, 13, 14, 15] rfl rfl hs))
 replace h134 := DT h134
 obtain ⟨mb, hmb⟩ : ∃ y_, (timesT l r.Signals i)[(x.Beam).toNat]? = some y_ := ⟨(timesT l r.Signals i)[(x.Beam).toNat]'(by omega), List.getElem?_eq_getElem _⟩
 obtain ⟨ga, hga⟩ : ∃ y_, fb[(x.Beam).toNat]? = some y_ := ⟨fb[(x.Beam).toNat]'(by omega), List.getElem?_eq_getElem _⟩
 refine w_out 4 hmb hga rfl rfl rfl ?_
 try dsimp only
 refine w_draw mixed 10 (by kernel_rfl) <| dS (MV rfl) <| dS (SX (sd_nil_p rfl rfl) rfl rfl) <| dS (FA 11 rfl fo117_3 rfl) <| dS (L1 (Value.slice (some ⟨b19, 0, none⟩) l.Beams.length l.Beams.length) 7 rfl tk114 rfl rfl) <| dS (FA 0 rfl fo67_0 rfl) <| dS (L1 (Value.int .i64 x.Beam) 5 rfl tk3 rfl rfl) ?_
 have hk65 : (List.map oC (fillF fb l.Beams.length))[(x.Beam).toNat]? = some (oC (some ga)) := oC_at (fillF_at hga)
 refine dS (IA ((x.Beam).toNat) rfl (has_own_n (n := l.Beams.length) 8 rfl (by first | (simp; done) | (simp; omega))) te114 (by decide) (by omega) (by omega)) <| dS (LE1 ((x.Beam).toNat) 0 (Value.map (some ga)) rfl tk120 (has_own_n (n := (fillF fb l.Beams.length).length) 8 rfl (by simp)) hk65 rfl (by decide) rfl) <| dS (MV rfl) <| dS (LW 2 rfl tk47 rfl rfl) <| d_end <| gr_mapset (kV := iV) (x := ((i : Nat) : Int)) (C' := [(gmp iV ga (gmapV spanU (gsetK mb ((i : Nat) : Int) (whenF l x)))), _, _, _, _, _, _, _, _, _, _, _, _, _, _, _, _]) 0 rfl rfl rfl rfl ut120 (gkey_int ut3) rfl (gmapV_setK _ _ _ _).symm rfl <| RK hK61 <| w_region <| rS (LW 5 rfl tk67 rfl rfl) <| SW9 rfl ts67 rfl ?_
 refine r_nil <| k_block <| KK hK50 ?_
 have hb66 : (SignalV.cells x) = (SignalV.cells (prevS r.Signals (i + 1))) := by rw [prevS_succ hx]
 rw [hb66]
 refine w_region <| rS (BI rfl (b_add ⟨by omega, by omega⟩)) <| rS (MV rfl) <| r_nil <| k_back (f := tmR) (ms := (timesT l r.Signals i)) (m := (gsetK mb ((i : Nat) : Int) (whenF l x))) 1 0 (by rw [timesT_len]; omega) hga rfl rfl rfl ?_
 rw [times_put hx (by omega) h134 hmb]
 have hb67 : (Value.int .i64 (((i + 1) : Nat) : Int)) = (Value.int .i64 (((i : Nat) : Int) + 1)) := by exact congrArg (Value.int .i64) (by omega)
 refine k_then (hJ46 ⟨(i + 1), ⟨by omega, sigs_succ hl15_1 hx (by unfold SigOk SigIn; omega)⟩⟩ _ _ _ rfl (by first | omega | (simp; omega)) (Sub.cons rfl <| Sub.cons rfl <| Sub.cons rfl <| Sub.cons rfl <| Sub.cons rfl <| Sub.cons rfl <| Sub.cons rfl <| Sub.cons rfl <| Sub.cons rfl <| sub_val rfl hb67 <| Sub.nil _) (fun w hs => St.sel [0, 5, 6, 7, 8, 9, 10, 11, 12, 13, 14, 15] rfl rfl hs))
end
section
open Go.RowKit
set_option linter.unusedVariables false
set_option maxRecDepth 100000 in
set_option maxHeartbeats 400000 in
theorem min_c (l : List Int) (lA : Option Addr) (lC : Nat) (hne : 1 ≤ l.length) (hlen : l.length ≤ 1000000) :
    FnV Tryz.prog 36 [(Value.slice lA l.length lC)] [(rd lA l.length 1 (l.map iC))] (Value.int .i64 (minL l)) := by
 refine fnV_of go36 Tryz.func36 rfl rfl fun w0 Q hQ hN => ?_
 try dsimp only
 refine WS fun _ hK1 => rS (AG rfl) <| RK hK1 <| w_seq fun _ hK2 => WS fun _ hK3 => rS (MV rfl) <| rS (LN rfl ut35) <| rS (BI rfl b_lss) <| RK hK3 ?_
 refine w_if rfl (fun h4 => ?_) (fun h4 => ?_)
 · replace h4 := DT h4
   exfalso; omega
 replace h4 := DF h4
 refine WK hK2 <| WS fun _ hK5 => rS (MV rfl) ?_
 obtain ⟨x0, hx0⟩ : ∃ y_, l[0]? = some y_ := ⟨l[0]'(by omega), List.getElem?_eq_getElem _⟩
 have hx0m : (l.map iC)[0]? = some (iC x0) := by rw [List.getElem?_map, hx0]; rfl
 refine rS (IA 0 rfl (has_at 0 rfl) te35 (by decide) rfl (by omega)) <| rS (LE1 0 0 (Value.int .i64 x0) rfl tk3 (has_at 0 rfl) hx0m rfl (by decide) rfl) <| rS (AG rfl) <| RK hK5 <| w_seq fun _ hK6 => WS fun _ hK7 => rS (AG rfl) <| RK hK7 <| w_block ?_
 have hinit : (1 ≤ 1 ∧ 1 ≤ l.length) := by omega
 have hb8 : (Value.int .i64 (minL (l.take 1))) = (Value.int .i64 x0) := by rw [take_min1 hx0]
 refine w_loop (ι := { z : Nat // (1 ≤ z ∧ z ≤ l.length) }) (fun z => [(0, (Value.slice lA l.length lC)), (3, (Value.int .i64 (minL (l.take z.1)))), (4, (Value.int .i64 ((z.1 : Nat) : Int)))]) (fun z => [(rd lA l.length 1 (l.map iC)).ro]) (fun z => l.length - z.1) ⟨1, hinit⟩ (Sub.cons rfl <| sub_val rfl hb8 <| Sub.cons rfl <| Sub.nil _) (fun w hs => St.sel [0] rfl rfl hs) ?_
 clear hinit
 rintro ⟨i, hl5_0⟩ J9 hJ9
 try dsimp only
 refine w_seq fun _ hK10 => WS fun _ hK11 => rS (MV rfl) <| rS (MV rfl) <| rS (LN rfl ut35) <| rS (BI rfl b_lss) <| RK hK11 ?_
 refine w_if rfl (fun h12 => ?_) (fun h12 => ?_)
 rotate_left 1
 · replace h12 := DF h12
   refine w_exit <| k_exit_then <| k_exit_then <| k_exit_same <| KK hK6 <| WS fun _ hK16 => rS (MV rfl) <| rS (AG rfl) <| RK hK16 <| w_ret ?_
   refine Q1 hQ rfl rfl rfl ?_
   rw [List.take_of_length_le (by omega)]
 replace h12 := DT h12
 refine WK hK10 <| w_seq fun _ hK13 => w_block <| w_region <| rS (MV rfl) <| rS (MV rfl) <| rS (MV rfl) ?_
 obtain ⟨x0, hx0⟩ : ∃ y_, l[i]? = some y_ := ⟨l[i]'(by omega), List.getElem?_eq_getElem _⟩
 have hx0m : (l.map iC)[i]? = some (iC x0) := by rw [List.getElem?_map, hx0]; rfl
 refine rS (IA i rfl (has_at 0 rfl) te35 (by decide) (by omega) (by omega)) <| rS (LE1 i 0 (Value.int .i64 x0) rfl tk3 (has_at 0 rfl) hx0m rfl (by decide) rfl) <| rS (MN rfl) <| rS (AG rfl) <| r_nil <| k_block <| KK hK13 <| w_region <| rS (MV rfl) <| rS (BI rfl (b_add ⟨by omega, by omega⟩)) ?_
 refine rS (AG rfl) <| r_nil ?_
 have hb14 : (Value.int .i64 (minL (l.take (i + 1)))) = (Value.int .i64 (min (minL (l.take i)) x0)) := by rw [take_min hx0 (by omega)]
 have hb15 : (Value.int .i64 (((i + 1) : Nat) : Int)) = (Value.int .i64 (((i : Nat) : Int) + 1)) := by exact congrArg (Value.int .i64) (by omega)
 refine k_then (hJ9 ⟨(i + 1), (by first | omega | (simp only []; omega))⟩ _ _ _ rfl (by first | omega | (simp; omega)) (Sub.cons rfl <| sub_val rfl hb14 <| sub_val rfl hb15 <| Sub.nil _) (fun w hs => St.sel [0] rfl rfl hs))
set_option maxRecDepth 100000 in
set_option maxHeartbeats 400000 in
theorem max_c (l : List Int) (lA : Option Addr) (lC : Nat) (hne : 1 ≤ l.length) (hlen : l.length ≤ 1000000) :
    FnV Tryz.prog 37 [(Value.slice lA l.length lC)] [(rd lA l.length 1 (l.map iC))] (Value.int .i64 (maxL l)) := by
 refine fnV_of go37 Tryz.func37 rfl rfl fun w0 Q hQ hN => ?_
 try dsimp only
 refine WS fun _ hK1 => rS (AG rfl) <| RK hK1 <| w_seq fun _ hK2 => WS fun _ hK3 => rS (MV rfl) <| rS (LN rfl ut35) <| rS (BI rfl b_lss) <| RK hK3 ?_
 refine w_if rfl (fun h4 => ?_) (fun h4 => ?_)
 · replace h4 := DT h4
   exfalso; omega
 replace h4 := DF h4
 refine WK hK2 <| WS fun _ hK5 => rS (MV rfl) ?_
 obtain ⟨x0, hx0⟩ : ∃ y_, l[0]? = some y_ := ⟨l[0]'(by omega), List.getElem?_eq_getElem _⟩
 have hx0m : (l.map iC)[0]? = some (iC x0) := by rw [List.getElem?_map, hx0]; rfl
 refine rS (IA 0 rfl (has_at 0 rfl) te35 (by decide) rfl (by omega)) <| rS (LE1 0 0 (Value.int .i64 x0) rfl tk3 (has_at 0 rfl) hx0m rfl (by decide) rfl) <| rS (AG rfl) <| RK hK5 <| w_seq fun _ hK6 => WS fun _ hK7 => rS (AG rfl) <| RK hK7 <| w_block ?_
 have hinit : (1 ≤ 1 ∧ 1 ≤ l.length) := by omega
 have hb8 : (Value.int .i64 (maxL (l.take 1))) = (Value.int .i64 x0) := by rw [take_max1 hx0]
 refine w_loop (ι := { z : Nat // (1 ≤ z ∧ z ≤ l.length) }) (fun z => [(0, (Value.slice lA l.length lC)), (3, (Value.int .i64 (maxL (l.take z.1)))), (4, (Value.int .i64 ((z.1 : Nat) : Int)))]) (fun z => [(rd lA l.length 1 (l.map iC)).ro]) (fun z => l.length - z.1) ⟨1, hinit⟩ (Sub.cons rfl <| sub_val rfl hb8 <| Sub.cons rfl <| Sub.nil _) (fun w hs => St.sel [0] rfl rfl hs) ?_
 clear hinit
 rintro ⟨i, hl5_0⟩ J9 hJ9
 try dsimp only
 refine w_seq fun _ hK10 => WS fun _ hK11 => rS (MV rfl) <| rS (MV rfl) <| rS (LN rfl ut35) <| rS (BI rfl b_lss) <| RK hK11 ?_
 refine w_if rfl (fun h12 => ?_) (fun h12 => ?_)
 rotate_left 1
 · replace h12 := DF h12
   refine w_exit <| k_exit_then <| k_exit_then <| k_exit_same <| KK hK6 <| WS fun _ hK16 => rS (MV rfl) <| rS (AG rfl) <| RK hK16 <| w_ret ?_
   refine Q1 hQ rfl rfl rfl ?_
   rw [List.take_of_length_le (by omega)]
 replace h12 := DT h12
 refine WK hK10 <| w_seq fun _ hK13 => w_block <| w_region <| rS (MV rfl) <| rS (MV rfl) <| rS (MV rfl) ?_
 obtain ⟨x0, hx0⟩ : ∃ y_, l[i]? = some y_ := ⟨l[i]'(by omega), List.getElem?_eq_getElem _⟩
 have hx0m : (l.map iC)[i]? = some (iC x0) := by rw [List.getElem?_map, hx0]; rfl
 refine rS (IA i rfl (has_at 0 rfl) te35 (by decide) (by omega) (by omega)) <| rS (LE1 i 0 (Value.int .i64 x0) rfl tk3 (has_at 0 rfl) hx0m rfl (by decide) rfl) <| rS (MX rfl) <| rS (AG rfl) <| r_nil <| k_block <| KK hK13 <| w_region <| rS (MV rfl) <| rS (BI rfl (b_add ⟨by omega, by omega⟩)) ?_
 refine rS (AG rfl) <| r_nil ?_
 have hb14 : (Value.int .i64 (maxL (l.take (i + 1)))) = (Value.int .i64 (max (maxL (l.take i)) x0)) := by rw [take_max hx0 (by omega)]
 have hb15 : (Value.int .i64 (((i + 1) : Nat) : Int)) = (Value.int .i64 (((i : Nat) : Int) + 1)) := by exact congrArg (Value.int .i64) (by omega)
 refine k_then (hJ9 ⟨(i + 1), (by first | omega | (simp only []; omega))⟩ _ _ _ rfl (by first | omega | (simp; omega)) (Sub.cons rfl <| sub_val rfl hb14 <| sub_val rfl hb15 <| Sub.nil _) (fun w hs => St.sel [0] rfl rfl hs))
end
section
open Go.RowKit
set_option linter.unusedVariables false
set_option maxRecDepth 100000 in
set_option maxHeartbeats 400000 in
theorem Where_c (l : LineM) (kA : Option Addr) (kC : Nat) (az : List RA) (cA : Option Addr) (cC : Nat) (bA : Option Addr) (bC : Nat) (r : RideM) (sgA : Option Addr) (sgC : Nat) (hin : LineIn l az) (hsl : r.Signals.length ≤ 1000000) :
    FnX Tryz.prog 10 [(Value.agg (LineV.cells (LineV.mk (TrackV.mk (Slc.mk kA l.Track.length kC)) l.Fast (Slc.mk cA l.Clocks.length cC) (Slc.mk bA l.Beams.length bC) l.Finish l.Fakes l.Misses)).toArray), (Value.agg (RideV.cells (RideV.mk r.Start r.Now (Slc.mk sgA r.Signals.length sgC))).toArray)] [(rd kA l.Track.length 9 (l.Track.map StretchV.cells)), (rd cA l.Clocks.length 2 (List.zipWith ClockM.cells l.Clocks az)), (bun (nest ClockM.rds l.Clocks az)), (rd bA l.Beams.length 4 (l.Beams.map BeamV.cells)), (rd sgA r.Signals.length 2 (r.Signals.map SignalV.cells))] (fun (x : (Option Addr) × Nat) => (Value.tuple [(Value.slice x.1 ((whereV l r).length) x.2), (Value.int .i64 (openE l r 0))].toArray)) (fun (x : (Option Addr) × Nat) => True) (fun (x : (Option Addr) × Nat) => [(own x.1 x.2 3 1 ((whereV l r).map iC))]) := by
 have htk := hin.trk
 have hck := hin.cks
 have has := hin.as_
 have hbm := hin.bms
 have hsd := hin.side
 refine fnX_of go10 Tryz.func10 rfl rfl fun w0 Q hQ hN => ?_
 try dsimp only
 refine WS fun _ hK1 => BXA rfl fun b2 => BXA rfl fun b3 => rS (AG rfl) <| rS (AG rfl) <| RK hK1 <| WS fun _ hK4 => rS (LW 1 rfl tk28 rfl rfl) <| rS (LW 0 rfl tk31 rfl rfl) <| cX (open0_c l kA kC az cA cC bA bC r sgA sgC hin hsl) (ha_at 2 rfl rfl <| ha_at 3 rfl rfl <| ha_at 4 rfl rfl <| ha_at 5 rfl rfl <| ha_at 6 rfl rfl <| ha_nil) rfl fun y5 hy6 => ?_
 obtain ⟨ok22, ec7, gw8, eA9, eC10, tA11, tC12, tb13, fs14, fb15, fA16, fC17, bs18, bb19, qA20, qC21⟩ := y5
 cases ok22
 · obtain ⟨hec, he⟩ := hy6.2 rfl
   try dsimp only at hec he
   subst hec
   try dsimp only [cond_true, cond_false, List.cons_append, List.nil_append]
   refine rS (MV rfl) <| rS (EX rfl) <| rS (EX rfl) <| rS (AG rfl) <| rS (AG rfl) <| RK hK4 <| w_seq fun _ hK23 => WS fun _ hK24 => rS (MV rfl) <| rS (BI rfl b_neq) ?_
   refine RK hK24 ?_
   refine w_if rfl (fun h15 => ?_) (fun h15 => ?_)
   rotate_left 1
   · replace h15 := XF h15
     exact absurd h15 he
   replace h15 := XT h15
   refine WS fun _ hK25 => r_own_nil 3 1 ?_
   rw [show (own none 0 3 1 ([] : List (List Value))) = own none 0 3 1 ((whereV l r).map iC) from by rw [whereV_no he]; rfl]
   refine rS (MV rfl) <| rS (AG rfl) <| rS (AG rfl) <| RK hK25 <| w_ret ?_
   refine hQ _ _ _ (l_nil (vs := [(Value.slice none 0 0), (Value.int .i64 (openE l r 0))]) ⟨rfl, rfl, trivial⟩ fun w hs => endX (none, 0) [0] ?_ ?_ rfl rfl rfl hs)
   · first | rfl | (rw [he]; rfl) | (rw [whereV_no he]; rfl)
   · trivial
 obtain ⟨he, hfw, hbw, hfl, hbl, htl⟩ := hy6.1 rfl
 try dsimp only [cond_true, cond_false, List.cons_append, List.nil_append]
 dsimp only at hfw hbw hfl hbl htl
 obtain ⟨h10, hro, hme, hnn⟩ := openE_zero he
 obtain ⟨htr, hok⟩ := lineE_zero h10
 have hhd := hok.head
 unfold HeadOk at hhd
 have hwo := watch_ok htr hok hro
 have hrt := hro.time
 have hrl := hro.len
 have hlel : (leasts l l.Beams.length).length = l.Beams.length := leasts_len
 have htll : (timesT l r.Signals r.Signals.length).length = l.Beams.length := timesT_len
 have hfn : fs14.length = l.Beams.length + 1 := by have := hfw.len; rw [show (watchL l r).n = l.Beams.length from leasts_len] at this; exact this
 have hbn : bs18.length = l.Beams.length + 1 := by have := hbw.len; rw [show (watchL l r).n = l.Beams.length from leasts_len] at this; exact this
 refine rS (MV rfl) <| rS (EX rfl) <| rS (EX rfl) <| rS (AG rfl) <| rS (AG rfl) <| RK hK4 <| w_seq fun _ hK26 => WS fun _ hK27 => rS (MV rfl) <| rS (SX (sd_bin (r := .bool false) rfl rfl rfl b_neq) rfl rfl) ?_
 refine RK hK27 <| w_if_false rfl <| WK hK26 <| WS fun _ hK28 => rS (MV rfl) <| cX (numbers_c (LineV.mk (TrackV.mk (Slc.mk kA l.Track.length kC)) l.Fast (Slc.mk cA l.Clocks.length cC) (Slc.mk bA l.Beams.length bC) l.Finish l.Fakes l.Misses) (RideV.mk r.Start r.Now (Slc.mk sgA r.Signals.length sgC)) (leasts l l.Beams.length) (timesT l r.Signals r.Signals.length) eA9 eC10 tb13 tA11 tC12 fs14 bs18 fb15 fA16 fC17 bb19 qA20 qC21 gw8 (by exact hwo) (by first | assumption | omega | (simp; done) | (simp; omega)) (by exact leasts_len.symm) (by exact hfw) (by first | assumption | omega | (simp; done) | (simp; omega))) (ha_cons (has_own_n (n := (leasts l l.Beams.length).length) 1 rfl (by simp)) <| ha_cons (has_own_n (n := (timesT l r.Signals r.Signals.length).length) 2 rfl (by rw [List.length_zipWith]; omega)) <| ha_cons (bun_bund 3 rfl bun_same) <| ha_cons (has_own_n (n := fs14.length) 4 rfl (by rw [List.length_zipWith]; omega)) <| ha_cons (bun_bund 5 rfl bun_same) <| ha_cons (has_own_n (n := bs18.length) 6 rfl (by rw [List.length_zipWith]; omega)) <| ha_cons (bun_bund 7 rfl bun_same) <| ha_at 0 rfl rfl <| ha_nil) rfl fun y29 hy30 => ?_
 obtain ⟨a31, c32⟩ := y29
 try dsimp only
 rw [show (numsF (watchOf (LineV.mk (TrackV.mk (Slc.mk kA l.Track.length kC)) l.Fast (Slc.mk cA l.Clocks.length cC) (Slc.mk bA l.Beams.length bC) l.Finish l.Fakes l.Misses) (RideV.mk r.Start r.Now (Slc.mk sgA r.Signals.length sgC)) (leasts l l.Beams.length) (timesT l r.Signals r.Signals.length))) = whereV l r from (whereV_ok he).symm]
 refine rS (AG rfl) <| rS (AG rfl) <| RK hK28 <| w_ret ?_
 refine hQ _ _ _ (l_nil (vs := [(Value.slice a31 ((whereV l r).length) c32), (Value.int .i64 0)]) ⟨rfl, rfl, trivial⟩ fun w hs => endX (a31, c32) [0] ?_ ?_ rfl rfl rfl hs)
 · first | rfl | (rw [he]; rfl) | (rw [whereV_no he]; rfl)
 · trivial
set_option maxRecDepth 100000 in
set_option maxHeartbeats 400000 in
theorem Clear_c (l : LineM) (kA : Option Addr) (kC : Nat) (az : List RA) (cA : Option Addr) (cC : Nat) (bA : Option Addr) (bC : Nat) (r : RideM) (sgA : Option Addr) (sgC : Nat) (hin : LineIn l az) (hsl : r.Signals.length ≤ 1000000) :
    FnV Tryz.prog 12 [(Value.agg (LineV.cells (LineV.mk (TrackV.mk (Slc.mk kA l.Track.length kC)) l.Fast (Slc.mk cA l.Clocks.length cC) (Slc.mk bA l.Beams.length bC) l.Finish l.Fakes l.Misses)).toArray), (Value.agg (RideV.cells (RideV.mk r.Start r.Now (Slc.mk sgA r.Signals.length sgC))).toArray)] [(rd kA l.Track.length 9 (l.Track.map StretchV.cells)), (rd cA l.Clocks.length 2 (List.zipWith ClockM.cells l.Clocks az)), (bun (nest ClockM.rds l.Clocks az)), (rd bA l.Beams.length 4 (l.Beams.map BeamV.cells)), (rd sgA r.Signals.length 2 (r.Signals.map SignalV.cells))] (Value.tuple [(Value.int .u8 (clearV l r)), (Value.int .i64 (openE l r 0))].toArray) := by
 have htk := hin.trk
 have hck := hin.cks
 have has := hin.as_
 have hbm := hin.bms
 have hsd := hin.side
 refine fnV_of go12 Tryz.func12 rfl rfl fun w0 Q hQ hN => ?_
 try dsimp only
 refine WS fun _ hK1 => BXA rfl fun b2 => BXA rfl fun b3 => rS (AG rfl) <| rS (AG rfl) <| RK hK1 <| WS fun _ hK4 => rS (LW 1 rfl tk28 rfl rfl) <| rS (LW 0 rfl tk31 rfl rfl) <| cX (Where_c l kA kC az cA cC bA bC r sgA sgC hin hsl) (ha_at 2 rfl rfl <| ha_at 3 rfl rfl <| ha_at 4 rfl rfl <| ha_at 5 rfl rfl <| ha_at 6 rfl rfl <| ha_nil) rfl fun y5 hy6 => ?_
 obtain ⟨a7, c8⟩ := y5
 try dsimp only
 refine rS (MV rfl) <| rS (EX rfl) <| rS (EX rfl) <| rS (AG rfl) <| rS (AG rfl) <| RK hK4 <| w_seq fun _ hK9 => w_block <| WS fun _ hK10 => rS (MV rfl) ?_
 refine rS (BI rfl b_neq) <| rS (AG rfl) <| RK hK10 ?_
 refine w_if rfl (fun h14 => ?_) (fun h14 => ?_)
 · replace h14 := XT h14
   refine WS fun _ hK11 => rS (MV rfl) <| rS (AG rfl) <| rS (AG rfl) <| RK hK11 <| w_ret <| Q2 hQ rfl rfl rfl rfl ?_
   first | (rw [show clearV l r = 0 from if_neg h14]; done) | (rw [h14, show clearV l r = 2 from by unfold clearV; rw [if_pos h14, if_pos h18]]; done) | (rw [h14, show clearV l r = 0 from by unfold clearV; rw [if_pos h14, if_neg h18, if_pos h24]]; done) | (rw [h14, show clearV l r = 1 from by unfold clearV; rw [if_pos h14, if_neg h18, if_neg h24]]; done)
 replace h14 := XF h14
 refine w_seq fun _ hK12 => w_draw mixed 6 (by kernel_rfl) <| dS (MV rfl) <| dS (CL (min_c (whereV l r) a7 c8 (by exact whereV_pos h14) (by have := whereV_len (l := l) (r := r); omega)) (ha_cons (has_own_n (n := (whereV l r).length) 0 rfl (by simp)) <| ha_nil) rfl) <| dS (FA 4 rfl fo28_4 rfl) <| dS (L1 (Value.int .i64 l.Finish) 2 rfl tk3 rfl rfl) <| dS (BI rfl b_gtr) <| dS (AG rfl) <| d_end <| RK hK12 ?_
 refine w_if rfl (fun h18 => ?_) (fun h18 => ?_)
 · replace h18 := DT h18
   refine WS fun _ hK13 => rS (AG rfl) <| rS (AG rfl) <| RK hK13 <| w_ret <| Q2 hQ rfl rfl rfl rfl ?_
   first | (rw [show clearV l r = 0 from if_neg h14]; done) | (rw [h14, show clearV l r = 2 from by unfold clearV; rw [if_pos h14, if_pos h18]]; done) | (rw [h14, show clearV l r = 0 from by unfold clearV; rw [if_pos h14, if_neg h18, if_pos h24]]; done) | (rw [h14, show clearV l r = 1 from by unfold clearV; rw [if_pos h14, if_neg h18, if_neg h24]]; done)
 replace h18 := DF h18
 refine w_seq fun _ hK14 => w_draw mixed 6 (by kernel_rfl) <| dS (MV rfl) <| dS (CL (max_c (whereV l r) a7 c8 (by exact whereV_pos h14) (by have := whereV_len (l := l) (r := r); omega)) (ha_cons (has_own_n (n := (whereV l r).length) 0 rfl (by simp)) <| ha_nil) rfl) <| dS (FA 4 rfl fo28_4 rfl) <| dS (L1 (Value.int .i64 l.Finish) 2 rfl tk3 rfl rfl) <| dS (BI rfl b_leq) <| dS (AG rfl) <| d_end <| RK hK14 ?_
 refine w_if rfl (fun h24 => ?_) (fun h24 => ?_)
 · replace h24 := DT h24
   refine WS fun _ hK15 => rS (AG rfl) <| rS (AG rfl) <| RK hK15 <| w_ret <| Q2 hQ rfl rfl rfl rfl ?_
   first | (rw [show clearV l r = 0 from if_neg h14]; done) | (rw [h14, show clearV l r = 2 from by unfold clearV; rw [if_pos h14, if_pos h18]]; done) | (rw [h14, show clearV l r = 0 from by unfold clearV; rw [if_pos h14, if_neg h18, if_pos h24]]; done) | (rw [h14, show clearV l r = 1 from by unfold clearV; rw [if_pos h14, if_neg h18, if_neg h24]]; done)
 replace h24 := DF h24
 refine w_skip <| k_block <| KK hK9 <| WS fun _ hK16 => rS (AG rfl) <| rS (AG rfl) <| RK hK16 <| w_ret <| Q2 hQ rfl rfl rfl rfl ?_
 first | (rw [show clearV l r = 0 from if_neg h14]; done) | (rw [h14, show clearV l r = 2 from by unfold clearV; rw [if_pos h14, if_pos h18]]; done) | (rw [h14, show clearV l r = 0 from by unfold clearV; rw [if_pos h14, if_neg h18, if_pos h24]]; done) | (rw [h14, show clearV l r = 1 from by unfold clearV; rw [if_pos h14, if_neg h18, if_neg h24]]; done)
end
end Go.Proofs.YthiigjekcdjkkaaGreat
