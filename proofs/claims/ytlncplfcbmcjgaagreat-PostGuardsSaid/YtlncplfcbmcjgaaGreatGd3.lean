/-
  The statement postGuards_said, part 3 of 5: Answers, B2, B3, P1, P2, P3, P5, P6, RangeG, MapR, MarkD, MapD, P7, S2, P8, M1, M2.
  Conditions: none.
-/
import Derived.Test.YtlncplfcbmcjgaaGreatGd1
import Derived.Test.YtlncplfcbmcjgaaGreatGd2
namespace Go.Proofs.YtlncplfcbmcjgaaGreat
section
set_option linter.unusedVariables false
def allS : Nat → Prop := fun _ => True
noncomputable def lacksV (d : GuardM) (l : List Int) : List Int := if mannedE d l = 0 then lacksL d (notIn l) else []
theorem lacksV_ok {d : GuardM} {l : List Int} (h : mannedE d l = 0) : lacksV d l = lacksL d (notIn l) := if_pos h
theorem lacksV_no {d : GuardM} {l : List Int} (h : ¬ mannedE d l = 0) : lacksV d l = [] := if_neg h
noncomputable def weakE (d : GuardM) : Int := if guardE d = 0 then (if lacksL d allS = [] then 0 else 6) else guardE d
noncomputable def weakV (d : GuardM) : List Int := if weakE d = 0 then weakL d allS else []
theorem weak_bad {d : GuardM} (h : ¬ guardE d = 0) : weakE d = guardE d ∧ weakV d = [] := by
  have e : weakE d = guardE d := if_neg h
  exact ⟨e, if_neg (by rw [e]; exact h)⟩
theorem weak_none {d : GuardM} (h : guardE d = 0) (h2 : ¬ lacksL d allS = []) : weakE d = 6 ∧ weakV d = [] := by
  have e : weakE d = 6 := by unfold weakE; rw [if_pos h, if_neg h2]
  exact ⟨e, if_neg (by rw [e]; omega)⟩
theorem weak_in {d : GuardM} (h : guardE d = 0) (h2 : lacksL d allS = []) : weakE d = 0 ∧ weakV d = weakL d allS := by
  have e : weakE d = 0 := by unfold weakE; rw [if_pos h, if_pos h2]
  exact ⟨e, if_pos e⟩
noncomputable def spareV (d : GuardM) : List Int := if guardE d = 0 then idxL d.Posts.length fun i => StrongP d (less1 allS i) else []
theorem spareV_ok {d : GuardM} (h : guardE d = 0) : spareV d = idxL d.Posts.length fun i => StrongP d (less1 allS i) := if_pos h
theorem spareV_no {d : GuardM} (h : ¬ guardE d = 0) : spareV d = [] := if_neg h
theorem spare_iff {d : GuardM} (hn : d.Posts.length ≤ 8) {j : Nat} (hj : j < d.Posts.length) : StrongP d (bitS (setAll d.Posts.length [((j : Nat) : Int)])) ↔ StrongP d (less1 allS j) :=
  strong_congr fun k hk => by
    rw [setAll_bit hn (by intro x hx; simp only [List.mem_singleton] at hx; omega) hk]
    unfold less1 allS
    simp; omega
end
section
open Go.RowKit
set_option linter.unusedVariables false
set_option maxRecDepth 100000 in
set_option maxHeartbeats 400000 in
theorem plus_c (a : SpanV) (l : List SpanV) (lA : Option Addr) (lC : Nat) (ha : In12 a) (hl : ∀ z ∈ l, In12 z) (hlen : l.length ≤ 4) :
    FnV Tryz.prog 79 [(Value.agg (SpanV.cells a).toArray), (Value.slice lA l.length lC)] [(rd lA l.length 2 (l.map SpanV.cells))] (Value.agg (SpanV.cells (plusF a l)).toArray) := by
 refine fnV_of go79 Tryz.func79 rfl rfl fun w0 Q hQ hN => ?_
 try dsimp only
 refine WS fun _ hK1 => BXA rfl fun b2 => AL rfl tz28 fun b3 => RK hK1 <| w_seq fun _ hK4 => WS fun _ hK5 => rS (MV rfl) <| rS (LN rfl ut146) <| rS (MV rfl) <| RK hK5 ?_
 refine w_block ?_
 have hinit : (0 ≤ l.length) := by exact Nat.zero_le _
 refine w_loop (ι := { z : Nat // (z ≤ l.length) }) (fun z => [(2, (Value.pointer (some ⟨b2, 0, none⟩))), (4, (Value.pointer (some ⟨b3, 0, none⟩))), (7, (Value.slice lA l.length lC)), (8, (Value.int .i64 ((l.length : Nat) : Int))), (9, (Value.int .i64 (z.1 : Int)))]) (fun z => [(blk b3 28 (SpanV.cells (SpanV.mk 0 0))), (blk b2 28 (SpanV.cells (plusF a (l.take z.1)))), (rd lA l.length 2 (l.map SpanV.cells)).ro]) (fun z => l.length - z.1) ⟨0, hinit⟩ (Sub.cons rfl <| Sub.cons rfl <| Sub.cons rfl <| Sub.cons rfl <| Sub.cons rfl <| Sub.nil _) (fun w hs => St.sel [0, 1, 2] rfl rfl hs) ?_
 clear hinit
 rintro ⟨i, hl2_0⟩ J6 hJ6
 try dsimp only
 refine WS fun _ hK7 => rS (BI rfl b_lss) <| RK hK7 <| w_seq fun _ hK8 => ?_
 refine w_if rfl (fun h9 => ?_) (fun h9 => ?_)
 rotate_left 1
 · replace h9 := DF h9
   refine w_exit <| k_exit_then <| k_exit_then <| k_exit_same <| KK hK4 <| w_seq fun _ hK15 => ?_
   have hb16 : (SpanV.cells (plusF a (l.take i))) = (SpanV.cells (plusF a l)) := by rw [plus_all (by omega)]
   rw [hb16]
   refine w_region <| rS (LW 1 rfl tk28 rfl rfl) <| SW0 rfl ts28 rfl <| RK hK15 <| w_ret ?_
   refine hQ _ _ _ (l_nil (vs := [(Value.agg (SpanV.cells (plusF a l)).toArray)]) ⟨⟨_, rfl, .inl ⟨_, _, tk28, at_blk (vs := (SpanV.cells (plusF a l))) 0 rfl rfl, rfl, rfl⟩⟩, trivial⟩ fun w hs => endV ?_ hs)
   show (Value.agg (SpanV.cells (plusF a l)).toArray) = (Value.agg (SpanV.cells (plusF a l)).toArray)
   clear hs w hQ hN hK15 hK8 hK7 hK5 hK4 hK1
   rfl
 replace h9 := DT h9
 refine WK hK8 <| w_seq fun _ hK10 => w_block <| WS fun _ hK11 => ?_
 obtain ⟨x, hx⟩ : ∃ y_, l[i]? = some y_ := ⟨l[i]'(by omega), List.getElem?_eq_getElem _⟩
 have hxm : (l.map SpanV.cells)[i]? = some (SpanV.cells x) := by rw [List.getElem?_map, hx]; rfl
 refine rS (IA i rfl (has_at 2 rfl) te146 (by decide) (by omega) (by omega)) <| rS (LEN i 0 (SpanV.cells x) rfl tk28 (has_at 2 rfl) hxm rfl (by decide) rfl rfl) <| AL rfl tz28 fun b12 => SW0 rfl ts28 rfl <| RK hK11 <| w_region ?_
 have hb := plus_b ha hl i
 have hz := hl x (List.mem_of_getElem? hx)
 unfold In12 at hz
 refine rS (FA 0 rfl fo28_0 rfl) <| rS (L1 (Value.int .i64 ((plusF a (l.take i)).Lo)) 2 rfl tk3 rfl rfl) <| rS (FA 0 rfl fo28_0 rfl) <| rS (L1 (Value.int .i64 x.Lo) 0 rfl tk3 rfl rfl) <| rS (BI rfl (b_add ⟨by omega, by omega⟩)) <| rS (FA 1 rfl fo28_1 rfl) <| rS (L1 (Value.int .i64 ((plusF a (l.take i)).Hi)) 2 rfl tk3 rfl rfl) <| rS (FA 1 rfl fo28_1 rfl) <| rS (L1 (Value.int .i64 x.Hi) 0 rfl tk3 rfl rfl) <| rS (BI rfl (b_add ⟨by omega, by omega⟩)) ?_
 refine rS (SX (sd_build (xs := [(0, .tmp 17), (1, .tmp 22)]) (cs := (SpanV.cells (SpanV.mk (((plusF a (l.take i)).Lo) + x.Lo) (((plusF a (l.take i)).Hi) + x.Hi)))) rfl rfl (built_of tb28 rfl)) rfl rfl) <| SW2 rfl ts28 rfl <| r_nil <| k_block <| KK hK10 ?_
 have hb13 : (SpanV.cells (SpanV.mk (((plusF a (l.take i)).Lo) + x.Lo) (((plusF a (l.take i)).Hi) + x.Hi))) = (SpanV.cells (plusF a (l.take (i + 1)))) := by rw [plus_take hx]; rfl
 rw [hb13]
 refine w_region <| rS (BI rfl (b_add ⟨by omega, by omega⟩)) <| rS (MV rfl) <| r_nil ?_
 have hb14 : (Value.int .i64 ((i + 1) : Int)) = (Value.int .i64 ((i : Int) + 1)) := by exact congrArg (Value.int .i64) (by omega)
 refine k_then (hJ6 ⟨(i + 1), (by first | omega | (simp only []; omega))⟩ _ _ _ rfl (by first | omega | (simp; omega)) (Sub.cons rfl <| Sub.cons rfl <| Sub.cons rfl <| Sub.cons rfl <| sub_val rfl hb14 <| Sub.nil _) (fun w hs => St.sel [1, 2, 3] rfl rfl hs))
set_option maxRecDepth 100000 in
set_option maxHeartbeats 400000 in
theorem topen_c (ts : List StretchV) (tsA : Option Addr) (tsC : Nat) (hlen : ts.length ≤ 1000000) (hside : ∀ x ∈ ts, 0 ≤ x.Side ∧ x.Side ≤ 255) :
    FnV Tryz.prog 76 [(Value.agg (TrackV.cells (TrackV.mk (Slc.mk tsA ts.length tsC))).toArray)] [(rd tsA ts.length 9 (ts.map StretchV.cells))] (Value.tuple [(Value.agg (SurveyV.cells (SurveyV.mk (TrackV.mk (Slc.mk tsA ts.length tsC)))).toArray), (Value.int .i64 (if trackOk ts = true then 0 else 10))].toArray) := by
 refine fnV_of go76 Tryz.func76 rfl rfl fun w0 Q hQ hN => ?_
 try dsimp only
 refine WS fun _ hK1 => BXA rfl fun b2 => AL rfl tz116 fun b3 => rS (AG rfl) <| RK hK1 <| w_seq fun _ hK4 => w_draw mixed 4 (by kernel_rfl) <| dS (LW 1 rfl tk24 rfl rfl) <| dS (SX (sd_build (xs := [(0, .tmp 4)]) (cs := (SurveyV.cells (SurveyV.mk (TrackV.mk (Slc.mk tsA ts.length tsC))))) rfl rfl (built_of tb116 rfl)) rfl rfl) <| dS (LW 1 rfl tk24 rfl rfl) ?_
 refine dS (CL (tcheck_c ts tsA tsC hlen hside) (ha_at 2 rfl rfl <| ha_nil) rfl) <| d_end <| SW0 rfl ts116 rfl <| rS (AG rfl) <| RK hK4 <| w_ret ?_
 refine hQ _ _ _ (l_nil (vs := [(Value.agg (SurveyV.cells (SurveyV.mk (TrackV.mk (Slc.mk tsA ts.length tsC)))).toArray), (Value.int .i64 (if trackOk ts = true then 0 else 10))]) ⟨⟨_, rfl, .inl ⟨_, _, tk116, at_blk (vs := (SurveyV.cells (SurveyV.mk (TrackV.mk (Slc.mk tsA ts.length tsC))))) 0 rfl rfl, rfl, rfl⟩⟩, rfl, trivial⟩ fun w hs => endV ?_ hs)
 show (Value.tuple [(Value.agg (SurveyV.cells (SurveyV.mk (TrackV.mk (Slc.mk tsA ts.length tsC)))).toArray), (Value.int .i64 (if trackOk ts = true then 0 else 10))].toArray) = (Value.tuple [(Value.agg (SurveyV.cells (SurveyV.mk (TrackV.mk (Slc.mk tsA ts.length tsC)))).toArray), (Value.int .i64 (if trackOk ts = true then 0 else 10))].toArray)
 clear hs w hQ hN hK4 hK1
 rfl
set_option maxRecDepth 100000 in
set_option maxHeartbeats 400000 in
theorem marks_c (f : Int) (tsA : Option Addr) (tsN : Nat) (tsC : Nat) :
    FnX Tryz.prog 102 [(Value.agg (SurveyV.cells (SurveyV.mk (TrackV.mk (Slc.mk tsA tsN tsC)))).toArray), (Value.int .i64 f)] [] (fun (x : Nat × Nat) => (Value.func (.func 109) [].toArray [(Value.pointer (some ⟨x.1, 0, none⟩)), (Value.pointer (some ⟨x.2, 0, none⟩))].toArray)) (fun (x : Nat × Nat) => True) (fun (x : Nat × Nat) => [(blk x.1 3 [(Value.int .i64 f)]), (blk x.2 116 (SurveyV.cells (SurveyV.mk (TrackV.mk (Slc.mk tsA tsN tsC)))))]) := by
 refine fnX_of go102 Tryz.func102 rfl rfl fun w0 Q hQ hN => ?_
 try dsimp only
 refine WS fun _ hK1 => BXA rfl fun b2 => BX1 rfl rfl fun b3 => rS (AG rfl) <| RK hK1 <| WS fun _ hK4 => rS (FU rfl) <| rS (AG rfl) <| RK hK4 <| w_ret ?_
 refine hQ _ _ _ (l_nil (vs := [(Value.func (.func 109) [].toArray [(Value.pointer (some ⟨b3, 0, none⟩)), (Value.pointer (some ⟨b2, 0, none⟩))].toArray)]) ⟨rfl, trivial⟩ fun w hs => endX (b3, b2) [0, 1] ?_ ?_ rfl rfl rfl hs)
 · rfl
 · trivial
set_option maxRecDepth 100000 in
set_option maxHeartbeats 400000 in
theorem marksit_c (ts : List StretchV) (tsA : Option Addr) (tsC : Nat) (f : Int) (g1 : Nat) (g2 : Nat) (hst : ∀ x ∈ ts, StretchOk x) (hlen : ts.length ≤ 12) (hf : 0 ≤ f ∧ f ≤ ts.length) :
    SeqV Tryz.prog 109 [] [(Value.pointer (some ⟨g1, 0, none⟩)), (Value.pointer (some ⟨g2, 0, none⟩))] [(rd tsA ts.length 9 (ts.map StretchV.cells)), (blk g1 3 [(Value.int .i64 f)]), (blk g2 116 (SurveyV.cells (SurveyV.mk (TrackV.mk (Slc.mk tsA ts.length tsC)))))] (markV ts f.toNat) := by
 refine seqV_of go109 Tryz.func109 rfl rfl fun l J Z A0 w0 Q hY hJ0 hF0 hQ hN => ?_
 try dsimp only
 refine WS fun _ hK1 => AL rfl tz28 fun b2 => AL rfl tz28 fun b3 => RK hK1 <| WS fun _ hK4 => rS (L1Q 4 rfl tk3 rfl) <| rS (AG rfl) <| RK hK4 <| w_block ?_
 have hinit : (0 ≤ ts.length - f.toNat) ∧ (J 0 A0) ∧ (Fo A0 w0 A0) := by exact ⟨Nat.zero_le _, hJ0, hF0⟩
 have hb5 : (Value.int .i64 (f + ((0 : Nat) : Int))) = (Value.int .i64 f) := by exact congrArg (Value.int .i64) (by omega)
 refine w_loop (ι := { z : Nat × Assn // (z.1 ≤ ts.length - f.toNat) ∧ (J z.1 z.2) ∧ (Fo A0 w0 z.2) }) (fun z => [(0, (Value.func (.yield l) #[] #[])), (1, (Value.pointer (some ⟨g1, 0, none⟩))), (2, (Value.pointer (some ⟨g2, 0, none⟩))), (4, (Value.pointer (some ⟨b2, 0, none⟩))), (5, (Value.pointer (some ⟨b3, 0, none⟩))), (6, (Value.int .i64 (f + ((z.1.1 : Nat) : Int))))]) (fun z => [(blk b3 28 (SpanV.cells (fallF ts f.toNat z.1.1))), (blk b2 28 (SpanV.cells (longF ts f.toNat z.1.1))), z.1.2, (rd tsA ts.length 9 (ts.map StretchV.cells)).ro, (blk g1 3 [(Value.int .i64 f)]).ro, (blk g2 116 (SurveyV.cells (SurveyV.mk (TrackV.mk (Slc.mk tsA ts.length tsC))))).ro]) (fun z => ts.length - f.toNat - z.1.1) ⟨(0, A0), hinit⟩ (Sub.cons rfl <| Sub.cons rfl <| Sub.cons rfl <| Sub.cons rfl <| Sub.cons rfl <| sub_val rfl hb5 <| Sub.nil _) (fun w hs => St.sel [0, 1, 2, 3, 4, 5] rfl rfl hs) ?_
 clear hinit
 rintro ⟨⟨k, A⟩, ⟨hl2_0, hl2_1, hl2_2⟩⟩ J6 hJ6
 try dsimp only at hl2_0 hl2_1 hl2_2
 try dsimp only
 refine w_seq fun _ hK7 => WS fun _ hK8 => rS (MV rfl) <| rS (LW 1 rfl tk28 rfl rfl) <| rS (LW 0 rfl tk28 rfl rfl) ?_
 refine r_yield 2 hY hl2_1 hl2_2 rfl rfl rfl (markV_get (by omega)) rfl rfl (fun B9 hJ10 hF11 => ?_) (fun B9 hJ10 hF11 => ?_)
 rotate_left 1
 · refine rS (MV rfl) ?_
   refine rS (OX rfl) <| rS (OX rfl) <| rS (OX rfl) <| rS (OX rfl) <| rS (OX rfl) <| rS (OX rfl) <| rS (PK rfl) <| RK hK8 <| w_if_false rfl <| w_exit ?_
   refine k_exit_then <| k_exit_then <| k_exit_same ?_
   refine hN _ _ _ (l_nil (vs := []) trivial fun w hs => endSz 2 rfl hJ10 hF11 hs)
 refine rS (MV rfl) <| rS (MV rfl) <| rS (FA 0 rfl fo116_0 rfl) <| rS (FA 0 rfl fo24_0 rfl) <| rS (L1R (Value.slice tsA ts.length tsC) 5 rfl tk22 rfl rfl) <| rS (LN rfl ut22) <| rS (BI rfl b_lss) <| rS (PK rfl) <| RK hK8 ?_
 refine w_if rfl (fun h12 => ?_) (fun h12 => ?_)
 rotate_left 1
 · replace h12 := DF h12
   refine w_exit <| k_exit_then <| k_exit_then <| k_exit_same ?_
   refine hN _ _ _ (l_nil (vs := []) trivial fun w hs => endS 2 rfl (by rw [markV_length]; have e : ts.length - f.toNat + 1 = k + 1 := (by omega); rw [e]; exact hJ10) hF11 hs)
 replace h12 := DT h12
 refine WK hK7 <| w_seq fun _ hK13 => w_block <| w_drawN mixed [0, 1, 2, 3, 4, 5, 6, 7, 10, 11, 12, 13, 14, 15, 16, 17] [8, 9, 18, 19, 20, 21] [true, false, false, false, false, false, false, false, true, false, false, false, false, false, false, false] [8, 9, 18] [B9, (rd tsA ts.length 9 (ts.map StretchV.cells)).ro, (blk g1 3 [(Value.int .i64 f)]).ro, (blk g2 116 (SurveyV.cells (SurveyV.mk (TrackV.mk (Slc.mk tsA ts.length tsC))))).ro] [(blk b3 28 (SpanV.cells (fallF ts f.toNat k))), (blk b2 28 (SpanV.cells (longF ts f.toNat k))), B9, (rd tsA ts.length 9 (ts.map StretchV.cells)).ro, (blk g1 3 [(Value.int .i64 f)]).ro, (blk g2 116 (SurveyV.cells (SurveyV.mk (TrackV.mk (Slc.mk tsA ts.length tsC))))).ro] (by kernel_rfl) (fun w hs => St.sel [2, 3, 4, 5] rfl rfl hs) (fun w hs => St.sel [0, 1, 2, 3, 4, 5] rfl rfl hs) <| fS rfl (LW 1 rfl tk28 rfl rfl) <| eS rfl (FA 0 rfl fo116_0 rfl) <| eS rfl (FA 0 rfl fo24_0 rfl) <| eS rfl (L1R (Value.slice tsA ts.length tsC) 3 rfl tk22 rfl rfl) <| eS rfl (MV rfl) ?_
 obtain ⟨x, hx⟩ : ∃ y_, ts[(f.toNat + k)]? = some y_ := ⟨ts[(f.toNat + k)]'(by omega), List.getElem?_eq_getElem _⟩
 have hxm : (ts.map StretchV.cells)[(f.toNat + k)]? = some (StretchV.cells x) := by rw [List.getElem?_map, hx]; rfl
 refine eS rfl (IA (f.toNat + k) rfl (has_at 1 rfl) te22 (by decide) (by omega) (by omega)) ?_
 have hxo := hst x (List.mem_of_getElem? hx)
 refine eS rfl (FAR (((f.toNat + k) * 9) + 1) rfl (has_at 1 rfl) (Nat.mul_pos (by omega) (by decide)) fo83_1 rfl) <| eS rfl (LEN (f.toNat + k) 1 (SpanV.cells x.Long) rfl tk28 (has_at 1 rfl) hxm rfl (by decide) rfl rfl) <| fS rfl (LW 0 rfl tk28 rfl rfl) <| eS rfl (FA 0 rfl fo116_0 rfl) <| eS rfl (FA 0 rfl fo24_0 rfl) <| eS rfl (L1R (Value.slice tsA ts.length tsC) 3 rfl tk22 rfl rfl) <| eS rfl (MV rfl) <| eS rfl (IA (f.toNat + k) rfl (has_at 1 rfl) te22 (by decide) (by omega) (by omega)) <| eS rfl (FAR (((f.toNat + k) * 9) + 3) rfl (has_at 1 rfl) (Nat.mul_pos (by omega) (by decide)) fo83_2 rfl) <| eS rfl (LEN (f.toNat + k) 3 (SpanV.cells x.Fall) rfl tk28 (has_at 1 rfl) hxm rfl (by decide) rfl rfl) ?_
 refine d_fin rfl ?_
 refine n_step [8, 18] (by kernel_rfl) (n_cons ?_ <| n_cons ?_ <| n_nil)
 rotate_left 1
 · refine n_op5 (rem' := [8, 9, 19, 20, 21]) rfl (by kernel_rfl) fun T14 hT14 => ?_
   refine r_bs (xs := [.tmp 39]) (cs := (SpanV.cells x.Fall)) rfl te146 tz28 rfl rfl rfl rfl (by simp [Value.cells, SpanV.cells_length]) rfl rfl fun b15 => ?_
   refine r_nil (hT14 _ _ (fun w hs => St.sel [3, 4, 5, 6] rfl rfl hs) (fun w hs => St.sel [1, 2, 3, 4, 5, 6] rfl rfl hs) ?_)
   refine N1 8 <| n_op5 (rem' := [9, 19, 20, 21]) rfl (by kernel_rfl) fun T16 hT16 => r_bs (xs := [.tmp 29]) (cs := (SpanV.cells x.Long)) rfl te146 tz28 rfl rfl rfl rfl (by simp [Value.cells, SpanV.cells_length]) rfl rfl fun b17 => ?_
   refine r_nil (hT16 _ _ (fun w hs => St.sel [4, 5, 6, 7] rfl rfl hs) (fun w hs => St.sel [2, 3, 4, 5, 6, 7] rfl rfl hs) ?_)
   refine N1 9 <| n_op5 (rem' := [19, 20, 21]) rfl (by kernel_rfl) fun T18 hT18 => rS (CL (FnV.eq (plus_c (longF ts f.toNat k) ([x.Long]) (some ⟨b17, 0, none⟩) 1 (by exact longF_in hst (by omega)) (by intro z hz; simp only [List.mem_singleton] at hz; subst hz; exact long_in12 hxo) (by simp)) plus_one) (ha_cons (has_rd_blk 0 rfl rfl (by simp [SpanV.cells_length]) rfl) <| ha_nil) rfl) ?_
   refine r_nil (hT18 _ _ (fun w hs => St.sel [4, 5, 6, 7] rfl rfl hs) (fun w hs => St.sel [2, 3, 4, 5, 6, 7] rfl rfl hs) ?_)
   refine N1 19 <| NO rfl rfl [20,21] fun T19 hT19 => rS (CL (FnV.eq (plus_c (fallF ts f.toNat k) ([x.Fall]) (some ⟨b15, 0, none⟩) 1 (by exact fallF_in hst (by omega)) (by intro z hz; simp only [List.mem_singleton] at hz; subst hz; exact fall_in12 hxo) (by simp)) plus_one) (ha_cons (has_rd_blk 1 rfl rfl (by simp [SpanV.cells_length]) rfl) <| ha_nil) rfl) <| RD hT19 4 rfl <| N1 20 <| NO rfl rfl [21] fun T20 hT20 => SW3 rfl ts28 rfl <| RD hT20 4 rfl <| N1 21 <| NO rfl rfl [] fun T21 hT21 => ?_
   refine SW2 rfl ts28 rfl <| RD hT21 4 rfl <| n_fin <| k_block <| KK hK13 ?_
   have hb22 : (SpanV.cells (addZ (longF ts f.toNat k) x.Long)) = (SpanV.cells (longF ts f.toNat (k + 1))) := by rw [longF_succ hx]
   rw [hb22]
   have hb23 : (SpanV.cells (addZ (fallF ts f.toNat k) x.Fall)) = (SpanV.cells (fallF ts f.toNat (k + 1))) := by rw [fallF_succ hx]
   rw [hb23]
   refine w_region <| rS (MV rfl) <| rS (BI rfl (b_add ⟨by omega, by omega⟩)) <| rS (AG rfl) <| r_nil ?_
   have hb24 : (Value.int .i64 (f + (((k + 1) : Nat) : Int))) = (Value.int .i64 ((f + ((k : Nat) : Int)) + 1)) := by exact congrArg (Value.int .i64) (by omega)
   refine k_then (hJ6 ⟨((k + 1), B9), ⟨by omega, hJ10, hF11⟩⟩ _ _ _ rfl (by first | omega | (simp; omega)) (Sub.cons rfl <| Sub.cons rfl <| Sub.cons rfl <| Sub.cons rfl <| Sub.cons rfl <| sub_val rfl hb24 <| Sub.nil _) (fun w hs => St.sel [2, 3, 4, 5, 6, 7] rfl rfl hs))
 refine n_op5 (rem' := [9, 18, 19, 20, 21]) rfl (by kernel_rfl) fun T14 hT14 => r_bs (xs := [.tmp 29]) (cs := (SpanV.cells x.Long)) rfl te146 tz28 rfl rfl rfl rfl (by simp [Value.cells, SpanV.cells_length]) rfl rfl fun b15 => ?_
 refine r_nil (hT14 _ _ (fun w hs => St.sel [3, 4, 5, 6] rfl rfl hs) (fun w hs => St.sel [1, 2, 3, 4, 5, 6] rfl rfl hs) ?_)
 refine n_step [9, 18] (by kernel_rfl) (n_cons ?_ <| n_cons ?_ <| n_nil)
 rotate_left 1
 · refine n_op5 (rem' := [9, 19, 20, 21]) rfl (by kernel_rfl) fun T16 hT16 => ?_
   refine r_bs (xs := [.tmp 39]) (cs := (SpanV.cells x.Fall)) rfl te146 tz28 rfl rfl rfl rfl (by simp [Value.cells, SpanV.cells_length]) rfl rfl fun b17 => ?_
   refine r_nil (hT16 _ _ (fun w hs => St.sel [4, 5, 6, 7] rfl rfl hs) (fun w hs => St.sel [2, 3, 4, 5, 6, 7] rfl rfl hs) ?_)
   refine N1 9 <| n_op5 (rem' := [19, 20, 21]) rfl (by kernel_rfl) fun T18 hT18 => rS (CL (FnV.eq (plus_c (longF ts f.toNat k) ([x.Long]) (some ⟨b15, 0, none⟩) 1 (by exact longF_in hst (by omega)) (by intro z hz; simp only [List.mem_singleton] at hz; subst hz; exact long_in12 hxo) (by simp)) plus_one) (ha_cons (has_rd_blk 1 rfl rfl (by simp [SpanV.cells_length]) rfl) <| ha_nil) rfl) ?_
   refine r_nil (hT18 _ _ (fun w hs => St.sel [4, 5, 6, 7] rfl rfl hs) (fun w hs => St.sel [2, 3, 4, 5, 6, 7] rfl rfl hs) ?_)
   refine N1 19 <| NO rfl rfl [20,21] fun T19 hT19 => rS (CL (FnV.eq (plus_c (fallF ts f.toNat k) ([x.Fall]) (some ⟨b17, 0, none⟩) 1 (by exact fallF_in hst (by omega)) (by intro z hz; simp only [List.mem_singleton] at hz; subst hz; exact fall_in12 hxo) (by simp)) plus_one) (ha_cons (has_rd_blk 0 rfl rfl (by simp [SpanV.cells_length]) rfl) <| ha_nil) rfl) <| RD hT19 4 rfl <| N1 20 <| NO rfl rfl [21] fun T20 hT20 => SW3 rfl ts28 rfl <| RD hT20 4 rfl <| N1 21 <| NO rfl rfl [] fun T21 hT21 => ?_
   refine SW2 rfl ts28 rfl <| RD hT21 4 rfl <| n_fin <| k_block <| KK hK13 ?_
   have hb22 : (SpanV.cells (addZ (longF ts f.toNat k) x.Long)) = (SpanV.cells (longF ts f.toNat (k + 1))) := by rw [longF_succ hx]
   rw [hb22]
   have hb23 : (SpanV.cells (addZ (fallF ts f.toNat k) x.Fall)) = (SpanV.cells (fallF ts f.toNat (k + 1))) := by rw [fallF_succ hx]
   rw [hb23]
   refine w_region <| rS (MV rfl) <| rS (BI rfl (b_add ⟨by omega, by omega⟩)) <| rS (AG rfl) <| r_nil ?_
   have hb24 : (Value.int .i64 (f + (((k + 1) : Nat) : Int))) = (Value.int .i64 ((f + ((k : Nat) : Int)) + 1)) := by exact congrArg (Value.int .i64) (by omega)
   refine k_then (hJ6 ⟨((k + 1), B9), ⟨by omega, hJ10, hF11⟩⟩ _ _ _ rfl (by first | omega | (simp; omega)) (Sub.cons rfl <| Sub.cons rfl <| Sub.cons rfl <| Sub.cons rfl <| Sub.cons rfl <| sub_val rfl hb24 <| Sub.nil _) (fun w hs => St.sel [2, 3, 4, 5, 6, 7] rfl rfl hs))
 refine n_op5 (rem' := [18, 19, 20, 21]) rfl (by kernel_rfl) fun T16 hT16 => rS (CL (FnV.eq (plus_c (longF ts f.toNat k) ([x.Long]) (some ⟨b15, 0, none⟩) 1 (by exact longF_in hst (by omega)) (by intro z hz; simp only [List.mem_singleton] at hz; subst hz; exact long_in12 hxo) (by simp)) plus_one) (ha_cons (has_rd_blk 0 rfl rfl (by simp [SpanV.cells_length]) rfl) <| ha_nil) rfl) ?_
 refine r_nil (hT16 _ _ (fun w hs => St.sel [3, 4, 5, 6] rfl rfl hs) (fun w hs => St.sel [1, 2, 3, 4, 5, 6] rfl rfl hs) ?_)
 refine N1 18 <| n_op5 (rem' := [19, 20, 21]) rfl (by kernel_rfl) fun T17 hT17 => r_bs (xs := [.tmp 39]) (cs := (SpanV.cells x.Fall)) rfl te146 tz28 rfl rfl rfl rfl (by simp [Value.cells, SpanV.cells_length]) rfl rfl fun b18 => ?_
 refine r_nil (hT17 _ _ (fun w hs => St.sel [4, 5, 6, 7] rfl rfl hs) (fun w hs => St.sel [2, 3, 4, 5, 6, 7] rfl rfl hs) ?_)
 refine N1 19 <| NO rfl rfl [20,21] fun T19 hT19 => rS (CL (FnV.eq (plus_c (fallF ts f.toNat k) ([x.Fall]) (some ⟨b18, 0, none⟩) 1 (by exact fallF_in hst (by omega)) (by intro z hz; simp only [List.mem_singleton] at hz; subst hz; exact fall_in12 hxo) (by simp)) plus_one) (ha_cons (has_rd_blk 0 rfl rfl (by simp [SpanV.cells_length]) rfl) <| ha_nil) rfl) <| RD hT19 4 rfl <| N1 20 <| NO rfl rfl [21] fun T20 hT20 => SW3 rfl ts28 rfl <| RD hT20 4 rfl <| N1 21 <| NO rfl rfl [] fun T21 hT21 => ?_
 refine SW2 rfl ts28 rfl <| RD hT21 4 rfl <| n_fin <| k_block <| KK hK13 ?_
 have hb22 : (SpanV.cells (addZ (longF ts f.toNat k) x.Long)) = (SpanV.cells (longF ts f.toNat (k + 1))) := by rw [longF_succ hx]
 rw [hb22]
 have hb23 : (SpanV.cells (addZ (fallF ts f.toNat k) x.Fall)) = (SpanV.cells (fallF ts f.toNat (k + 1))) := by rw [fallF_succ hx]
 rw [hb23]
 refine w_region <| rS (MV rfl) <| rS (BI rfl (b_add ⟨by omega, by omega⟩)) <| rS (AG rfl) <| r_nil ?_
 have hb24 : (Value.int .i64 (f + (((k + 1) : Nat) : Int))) = (Value.int .i64 ((f + ((k : Nat) : Int)) + 1)) := by exact congrArg (Value.int .i64) (by omega)
 refine k_then (hJ6 ⟨((k + 1), B9), ⟨by omega, hJ10, hF11⟩⟩ _ _ _ rfl (by first | omega | (simp; omega)) (Sub.cons rfl <| Sub.cons rfl <| Sub.cons rfl <| Sub.cons rfl <| Sub.cons rfl <| sub_val rfl hb24 <| Sub.nil _) (fun w hs => St.sel [2, 3, 4, 5, 6, 7] rfl rfl hs))
set_option maxRecDepth 100000 in
set_option maxHeartbeats 400000 in
theorem drop_c (ts : List StretchV) (tsA : Option Addr) (tsC : Nat) (f : Int) (t : Int) (hst : ∀ x ∈ ts, StretchOk x) (hlen : ts.length ≤ 12) (hf : 0 ≤ f ∧ f ≤ t ∧ t ≤ ts.length) :
    FnV Tryz.prog 78 [(Value.agg (SurveyV.cells (SurveyV.mk (TrackV.mk (Slc.mk tsA ts.length tsC)))).toArray), (Value.int .i64 f), (Value.int .i64 t)] [(rd tsA ts.length 9 (ts.map StretchV.cells))] (Value.tuple [(Value.agg (SpanV.cells (longF ts f.toNat (t - f).toNat)).toArray), (Value.agg (SpanV.cells (fallF ts f.toNat (t - f).toNat)).toArray)].toArray) := by
 refine fnV_of go78 Tryz.func78 rfl rfl fun w0 Q hQ hN => ?_
 try dsimp only
 refine WS fun _ hK1 => BXA rfl fun b2 => BX1 rfl rfl fun b3 => BX1 rfl rfl fun b4 => AL rfl tz28 fun b5 => AL rfl tz28 fun b6 => RK hK1 <| w_seq fun _ hK7 => WS fun _ hK8 => rS (LW 4 rfl tk116 rfl rfl) ?_
 refine rS (L1W 3 rfl tk3 rfl) <| cX (marks_c f tsA ts.length tsC) (ha_nil) rfl fun y9 hy10 => ?_
 obtain ⟨b111, b212⟩ := y9
 try dsimp only
 refine RK hK8 <| w_block <| w_dup 7 rfl (by exact fun _ h => h) ?_
 refine w_range (L0 := [(3, (Value.pointer (some ⟨b2, 0, none⟩))), (4, (Value.pointer (some ⟨b3, 0, none⟩))), (5, (Value.pointer (some ⟨b4, 0, none⟩))), (6, (Value.pointer (some ⟨b5, 0, none⟩))), (7, (Value.pointer (some ⟨b6, 0, none⟩)))]) (F := [(rd tsA ts.length 9 (ts.map StretchV.cells)).ro, (blk b111 3 [(Value.int .i64 f)]), (blk b212 116 (SurveyV.cells (SurveyV.mk (TrackV.mk (Slc.mk tsA ts.length tsC)))))]) (xs := (markV ts f.toNat)) (fun k (y : SpanV × SpanV × Int) => (k ≤ (t - f).toNat) ∧ (y.2.2 = f + ((k : Nat) : Int))) (fun k y => [(blk b6 28 (SpanV.cells y.2.1)), (blk b5 28 (SpanV.cells y.1)), (blk b4 3 [(Value.int .i64 t)]), (blk b3 3 [(Value.int .i64 y.2.2)]), (blk b2 116 (SurveyV.cells (SurveyV.mk (TrackV.mk (Slc.mk tsA ts.length tsC))))), (rd tsA ts.length 9 (ts.map StretchV.cells)).ro]) (fun c (z : Unit) => (c = .exit 0)) (fun _ z => [(blk b6 28 (SpanV.cells (fallF ts f.toNat (t - f).toNat))), (blk b5 28 (SpanV.cells (longF ts f.toNat (t - f).toNat))), (blk b4 3 [(Value.int .i64 t)]), (blk b3 3 [(Value.int .i64 t)]), (blk b2 116 (SurveyV.cells (SurveyV.mk (TrackV.mk (Slc.mk tsA ts.length tsC))))), (rd tsA ts.length 9 (ts.map StretchV.cells)).ro]) [3, 4, 5, 6, 7, 8] [0, 1, 2] (zeroZ, zeroZ, f) rfl rfl (marksit_c ts tsA tsC f b111 b212 (by first | assumption | omega | (simp; done)) (by first | assumption | omega | (simp; done)) (by omega)) rfl rfl rfl (by exact ⟨Nat.zero_le _, by simp⟩) (by simp only [List.forall_mem_cons, List.not_mem_nil, false_imp_iff, implies_true, and_true]; exact ⟨⟨_, by simp, (cov_ro (cov_refl _))⟩, ⟨_, by simp, (cov_refl _)⟩, ⟨_, by simp, (cov_refl _)⟩⟩) (by exact markV_lens) rfl (Sub.cons rfl <| Sub.cons rfl <| Sub.cons rfl <| Sub.cons rfl <| Sub.cons rfl <| Sub.nil _) ?_ ?_ ?_ ?_
 rotate_left 1
 · rintro r25 ⟨z1, z2, m⟩ hin26
   obtain ⟨hr0, hr1⟩ := hin26
   try dsimp only at hr0 hr1
   try dsimp only
   exfalso; rw [markV_length] at hr0; omega
 · rintro r27 id _ hx28
   have hc := hx28
   cases hc
   try dsimp only
   refine k_exit_same <| KK hK7 <| w_seq fun _ hK29 => w_draw4 mixed [0, 1] [2, 3] [false, false] [false, false] [(obj r27 (.deferred (some []))), (rd tsA ts.length 9 (ts.map StretchV.cells)).ro, (blk b111 3 [(Value.int .i64 f)]), (blk b212 116 (SurveyV.cells (SurveyV.mk (TrackV.mk (Slc.mk tsA ts.length tsC))))), (blk b6 28 (SpanV.cells (fallF ts f.toNat (t - f).toNat))), (blk b5 28 (SpanV.cells (longF ts f.toNat (t - f).toNat))), (blk b4 3 [(Value.int .i64 t)]), (blk b3 3 [(Value.int .i64 t)]), (blk b2 116 (SurveyV.cells (SurveyV.mk (TrackV.mk (Slc.mk tsA ts.length tsC))))), (rd tsA ts.length 9 (ts.map StretchV.cells)).ro] [] (by kernel_rfl) (fun w hs => St.sel [0, 1, 2, 3, 4, 5, 6, 7, 8, 9] rfl rfl hs) (fun w hs => St.sel [] rfl rfl hs) <| eS rfl (LW 5 rfl tk28 rfl rfl) <| eS rfl (LW 4 rfl tk28 rfl rfl) <| d_fin rfl <| t_cons rfl fun T30 hT30 => SW5 rfl ts28 rfl <| RN hT30 [0, 1, 2, 3, 4, 5, 6, 7, 8, 9] rfl rfl ?_
   refine t_cons rfl fun T31 hT31 => SW4 rfl ts28 rfl <| RN hT31 [0, 1, 2, 3, 4, 5, 6, 7, 8, 9] rfl rfl <| t_fin rfl <| KK hK29 <| w_ret ?_
   refine hQ _ _ _ (l_mark 0 rfl rfl <| l_nil (vs := [(Value.agg (SpanV.cells (longF ts f.toNat (t - f).toNat)).toArray), (Value.agg (SpanV.cells (fallF ts f.toNat (t - f).toNat)).toArray)]) ⟨⟨_, rfl, .inl ⟨_, _, tk28, at_blk (vs := (SpanV.cells (longF ts f.toNat (t - f).toNat))) 5 rfl rfl, rfl, rfl⟩⟩, ⟨_, rfl, .inl ⟨_, _, tk28, at_blk (vs := (SpanV.cells (fallF ts f.toNat (t - f).toNat))) 4 rfl rfl, rfl, rfl⟩⟩, trivial⟩ fun w hs => endV ?_ hs)
   show (Value.tuple [(Value.agg (SpanV.cells (longF ts f.toNat (t - f).toNat)).toArray), (Value.agg (SpanV.cells (fallF ts f.toNat (t - f).toNat)).toArray)].toArray) = (Value.tuple [(Value.agg (SpanV.cells (longF ts f.toNat (t - f).toNat)).toArray), (Value.agg (SpanV.cells (fallF ts f.toNat (t - f).toNat)).toArray)].toArray)
   clear hs w hQ hN hT31 T31 hT30 T30 hK29 hK8 hK7 hK1
   rfl
 · rintro r32 _ hx33
   cases hx33
 rintro k x ⟨z1, z2, m⟩ l ra rb S w1 K13 Qr14 hx hin15 hK13 hQr14 xQr14 yQr14
 obtain ⟨hk, rfl⟩ := markV_out hx
 obtain ⟨hr0, hr1⟩ := hin15
 try dsimp only at hr0 hr1
 try dsimp only
 refine WS fun _ hK16 => AL rfl tz28 fun b17 => SW0 rfl ts28 rfl <| RK hK16 <| w_region <| AL rfl tz28 fun b18 => SW0 rfl ts28 rfl <| r_nil <| k_sub (fun _ _ h => h) (fun w hs => St.sel [2, 0, 1, 3, 4, 5, 6, 7, 8] rfl rfl hs) ?_
 refine k_then (hK13 _ _ ?_)
 refine w_block <| w_seq fun _ hK19 => w_seq fun _ hK20 => w_draw4 mixed [0, 1] [2, 3] [false, false] [false, false] [(obj l (.loop rb)), (blk b18 28 (SpanV.cells (fallF ts f.toNat k))), (blk b17 28 (SpanV.cells (longF ts f.toNat k))), (blk b4 3 [(Value.int .i64 t)]), (blk b3 3 [(Value.int .i64 m)]), (blk b2 116 (SurveyV.cells (SurveyV.mk (TrackV.mk (Slc.mk tsA ts.length tsC))))), (rd tsA ts.length 9 (ts.map StretchV.cells)).ro] [] (by kernel_rfl) (fun w hs => St.sel [0, 1, 2, 5, 6, 7, 8] rfl rfl hs) (fun w hs => St.sel [] rfl rfl hs) <| eS rfl (LW 2 rfl tk28 rfl rfl) <| eS rfl (LW 1 rfl tk28 rfl rfl) <| d_fin rfl <| t_cons rfl fun T21 hT21 => SW4 rfl ts28 rfl <| RN hT21 [0, 1, 2, 5, 6, 7, 8] rfl rfl ?_
 refine t_cons rfl fun T22 hT22 => SW3 rfl ts28 rfl <| RN hT22 [0, 1, 2, 5, 6, 7, 8] rfl rfl <| t_fin rfl <| KK hK20 <| WS fun _ hK23 => rS (L1W 6 rfl tk3 rfl) <| rS (L1W 5 rfl tk3 rfl) <| rS (BI rfl b_eql) <| RK hK23 ?_
 refine w_if rfl (fun h24 => ?_) (fun h24 => ?_)
 · replace h24 := DT h24
   refine w_exit <| k_exit_then <| k_exit_other rfl ?_
   rw [show m = t from by omega]
   obtain rfl : k = (t - f).toNat := by omega
   exact xQr14 _ () _ _ (by exact rfl) (fun w hs => St.sel [0, 3, 4, 5, 6, 7, 8] rfl rfl hs)
 replace h24 := DF h24
 refine WK hK19 <| w_region <| rS (L1W 6 rfl tk3 rfl) <| rS (BI rfl (b_add ⟨by omega, by omega⟩)) <| SO6 rfl ts3 rfl rfl <| r_nil <| k_block ?_
 exact hQr14 ((longF ts f.toNat k), (fallF ts f.toNat k), (m + 1)) _ _ (by refine ⟨by omega, ?_⟩; dsimp only; omega) (fun w hs => St.sel [0, 3, 4, 5, 6, 7, 8] rfl rfl hs)
set_option maxRecDepth 100000 in
set_option maxHeartbeats 400000 in
theorem Drop_c (ts : List StretchV) (tsA : Option Addr) (tsC : Nat) (f : Int) (t : Int) (hlen : ts.length ≤ 1000000) (hside : ∀ x ∈ ts, 0 ≤ x.Side ∧ x.Side ≤ 255) :
    FnV Tryz.prog 83 [(Value.agg (TrackV.cells (TrackV.mk (Slc.mk tsA ts.length tsC))).toArray), (Value.int .i64 f), (Value.int .i64 t)] [(rd tsA ts.length 9 (ts.map StretchV.cells))] (Value.tuple [(Value.agg (SpanV.cells (dropL ts f t)).toArray), (Value.agg (SpanV.cells (dropH ts f t)).toArray), (Value.int .i64 (dropE ts f t))].toArray) := by
 refine fnV_of go83 Tryz.func83 rfl rfl fun w0 Q hQ hN => ?_
 try dsimp only
 refine WS fun _ hK1 => BXA rfl fun b2 => AL rfl tz28 fun b3 => AL rfl tz28 fun b4 => rS (AG rfl) <| RK hK1 <| WS fun _ hK5 => rS (LW 2 rfl tk24 rfl rfl) <| rS (CL (topen_c ts tsA tsC hlen hside) (ha_at 3 rfl rfl <| ha_nil) rfl) <| rS (MV rfl) ?_
 refine rS (EX rfl) <| rS (EX rfl) <| AL rfl tz116 fun b6 => SW0 rfl ts116 rfl <| rS (AG rfl) <| RK hK5 <| w_seq fun _ hK7 => WS fun _ hK8 => rS (MV rfl) <| rS (BI rfl b_neq) ?_
 refine RK hK8 ?_
 refine w_if rfl (fun he => ?_) (fun he => ?_)
 · replace he := XT he
   refine WS fun _ hK9 => rS (SX (sd_build (xs := []) (cs := (SpanV.cells (SpanV.mk 0 0))) rfl rfl (built_of tb28 rfl)) rfl rfl) <| rS (SX (sd_build (xs := []) (cs := (SpanV.cells (SpanV.mk 0 0))) rfl rfl (built_of tb28 rfl)) rfl rfl) <| rS (MV rfl) <| SW2 rfl ts28 rfl <| SW1 rfl ts28 rfl <| rS (AG rfl) <| RK hK9 <| w_ret ?_
   refine hQ _ _ _ (l_nil (vs := [(Value.agg (SpanV.cells (SpanV.mk 0 0)).toArray), (Value.agg (SpanV.cells (SpanV.mk 0 0)).toArray), (Value.int .i64 (if trackOk ts = true then 0 else 10))]) ⟨⟨_, rfl, .inl ⟨_, _, tk28, at_blk (vs := (SpanV.cells (SpanV.mk 0 0))) 2 rfl rfl, rfl, rfl⟩⟩, ⟨_, rfl, .inl ⟨_, _, tk28, at_blk (vs := (SpanV.cells (SpanV.mk 0 0))) 1 rfl rfl, rfl, rfl⟩⟩, rfl, trivial⟩ fun w hs => endV ?_ hs)
   show (Value.tuple [(Value.agg (SpanV.cells (SpanV.mk 0 0)).toArray), (Value.agg (SpanV.cells (SpanV.mk 0 0)).toArray), (Value.int .i64 (if trackOk ts = true then 0 else 10))].toArray) = (Value.tuple [(Value.agg (SpanV.cells (dropL ts f t)).toArray), (Value.agg (SpanV.cells (dropH ts f t)).toArray), (Value.int .i64 (dropE ts f t))].toArray)
   clear hs w hQ hN hK9 hK8 hK7 hK5 hK1
   first | (have e := dropE_bad (f := f) (t := t) (tr_no he).1; rw [e.1, e.2.1, e.2.2, (tr_no he).2]; rfl) | (have e := dropE_out (f := f) (t := t) htr (by omega); rw [e.1, e.2.1, e.2.2]; rfl) | (have e := dropE_in (f := f) (t := t) htr (by omega); rw [e.1, e.2.1, e.2.2])
 replace he := XF he
 refine WK hK7 <| w_seq fun _ hK10 => WS fun _ hK11 => ?_
 have htr := tr_yes he
 have hst := trackOk_all htr
 have hl12 := trackOk_le htr
 refine rS (FA 0 rfl fo24_0 rfl) <| rS (L1 (Value.slice tsA ts.length tsC) 3 rfl tk22 rfl rfl) <| rS (LN rfl ut22) <| rS (MV rfl) <| rS (MV rfl) <| r_bs (xs := [.tmp 23, .tmp 24]) (cs := [(Value.int .i64 f), (Value.int .i64 t)]) rfl te33 tz3 rfl rfl rfl rfl (by simp [Value.cells]) rfl rfl fun b12 => rS (CL (FnV.eq (in_track 0 ((ts.length : Nat) : Int) ([f, t]) (some ⟨b12, 0, none⟩) 2 (by first | assumption | omega | (simp; done) | (simp; omega))) inAll_two) (ha_cons (has_rd_blk 0 rfl rfl (by simp [iC_length]) rfl) <| ha_nil) rfl) <| rS (NT rfl) <| rS (MV rfl) ?_
 refine r_bool (t := 28) rfl (fun h28 => ?_) (fun h28 => ?_)
 · replace h28 := XT h28
   refine rS (OX rfl) <| rS (OX rfl) <| rS (OX rfl) <| rS (PK rfl) <| RK hK11 <| w_if_true rfl <| WS fun _ hK13 => rS (SX (sd_build (xs := []) (cs := (SpanV.cells (SpanV.mk 0 0))) rfl rfl (built_of tb28 rfl)) rfl rfl) <| rS (SX (sd_build (xs := []) (cs := (SpanV.cells (SpanV.mk 0 0))) rfl rfl (built_of tb28 rfl)) rfl rfl) <| SW3 rfl ts28 rfl ?_
   refine SW2 rfl ts28 rfl <| rS (AG rfl) <| RK hK13 <| w_ret ?_
   refine hQ _ _ _ (l_nil (vs := [(Value.agg (SpanV.cells (SpanV.mk 0 0)).toArray), (Value.agg (SpanV.cells (SpanV.mk 0 0)).toArray), (Value.int .i64 2)]) ⟨⟨_, rfl, .inl ⟨_, _, tk28, at_blk (vs := (SpanV.cells (SpanV.mk 0 0))) 3 rfl rfl, rfl, rfl⟩⟩, ⟨_, rfl, .inl ⟨_, _, tk28, at_blk (vs := (SpanV.cells (SpanV.mk 0 0))) 2 rfl rfl, rfl, rfl⟩⟩, rfl, trivial⟩ fun w hs => endV ?_ hs)
   show (Value.tuple [(Value.agg (SpanV.cells (SpanV.mk 0 0)).toArray), (Value.agg (SpanV.cells (SpanV.mk 0 0)).toArray), (Value.int .i64 2)].toArray) = (Value.tuple [(Value.agg (SpanV.cells (dropL ts f t)).toArray), (Value.agg (SpanV.cells (dropH ts f t)).toArray), (Value.int .i64 (dropE ts f t))].toArray)
   clear hs w hQ hN hK13 hK11 hK10 hK8 hK7 hK5 hK1
   first | (have e := dropE_bad (f := f) (t := t) (tr_no he).1; rw [e.1, e.2.1, e.2.2, (tr_no he).2]; rfl) | (have e := dropE_out (f := f) (t := t) htr (by omega); rw [e.1, e.2.1, e.2.2]; rfl) | (have e := dropE_in (f := f) (t := t) htr (by omega); rw [e.1, e.2.1, e.2.2])
 replace h28 := XF h28
 refine rS (MV rfl) <| rS (MV rfl) <| rS (BI rfl b_gtr) <| rS (PK rfl) <| RK hK11 ?_
 refine w_if rfl (fun h32 => ?_) (fun h32 => ?_)
 · replace h32 := DT h32
   refine WS fun _ hK14 => rS (SX (sd_build (xs := []) (cs := (SpanV.cells (SpanV.mk 0 0))) rfl rfl (built_of tb28 rfl)) rfl rfl) <| rS (SX (sd_build (xs := []) (cs := (SpanV.cells (SpanV.mk 0 0))) rfl rfl (built_of tb28 rfl)) rfl rfl) <| SW3 rfl ts28 rfl <| SW2 rfl ts28 rfl <| rS (AG rfl) <| RK hK14 <| w_ret ?_
   refine hQ _ _ _ (l_nil (vs := [(Value.agg (SpanV.cells (SpanV.mk 0 0)).toArray), (Value.agg (SpanV.cells (SpanV.mk 0 0)).toArray), (Value.int .i64 2)]) ⟨⟨_, rfl, .inl ⟨_, _, tk28, at_blk (vs := (SpanV.cells (SpanV.mk 0 0))) 3 rfl rfl, rfl, rfl⟩⟩, ⟨_, rfl, .inl ⟨_, _, tk28, at_blk (vs := (SpanV.cells (SpanV.mk 0 0))) 2 rfl rfl, rfl, rfl⟩⟩, rfl, trivial⟩ fun w hs => endV ?_ hs)
   show (Value.tuple [(Value.agg (SpanV.cells (SpanV.mk 0 0)).toArray), (Value.agg (SpanV.cells (SpanV.mk 0 0)).toArray), (Value.int .i64 2)].toArray) = (Value.tuple [(Value.agg (SpanV.cells (dropL ts f t)).toArray), (Value.agg (SpanV.cells (dropH ts f t)).toArray), (Value.int .i64 (dropE ts f t))].toArray)
   clear hs w hQ hN hK14 hK11 hK10 hK8 hK7 hK5 hK1
   first | (have e := dropE_bad (f := f) (t := t) (tr_no he).1; rw [e.1, e.2.1, e.2.2, (tr_no he).2]; rfl) | (have e := dropE_out (f := f) (t := t) htr (by omega); rw [e.1, e.2.1, e.2.2]; rfl) | (have e := dropE_in (f := f) (t := t) htr (by omega); rw [e.1, e.2.1, e.2.2])
 replace h32 := DF h32
 refine WK hK10 <| WS fun _ hK15 => rS (LW 1 rfl tk116 rfl rfl) <| rS (MV rfl) <| rS (MV rfl) <| rS (CL (drop_c ts tsA tsC f t (by first | assumption | omega | (simp; done) | (simp; omega)) (by first | assumption | omega | (simp; done) | (simp; omega)) (by first | assumption | omega | (simp; done) | (simp; omega))) (ha_at 5 rfl rfl <| ha_nil) rfl) <| rS (MV rfl) <| rS (EX rfl) <| rS (EX rfl) <| SW3 rfl ts28 rfl ?_
 refine SW2 rfl ts28 rfl <| RK hK15 <| w_seq fun _ hK16 => w_draw4 mixed [0, 1, 4] [2, 3] [false, false, false] [false, false] [(blk b12 3 [(Value.int .i64 f), (Value.int .i64 t)]), (blk b6 116 (SurveyV.cells (SurveyV.mk (TrackV.mk (Slc.mk tsA ts.length tsC))))), (blk b4 28 (SpanV.cells (fallF ts f.toNat (t - f).toNat))), (blk b3 28 (SpanV.cells (longF ts f.toNat (t - f).toNat))), (blk b2 24 (TrackV.cells (TrackV.mk (Slc.mk tsA ts.length tsC)))), (rd tsA ts.length 9 (ts.map StretchV.cells)).ro] [] (by kernel_rfl) (fun w hs => St.sel [0, 1, 2, 3, 4, 5] rfl rfl hs) (fun w hs => St.sel [] rfl rfl hs) <| eS rfl (LW 3 rfl tk28 rfl rfl) <| eS rfl (LW 2 rfl tk28 rfl rfl) <| eS rfl (AG rfl) <| d_fin rfl <| t_cons rfl fun T17 hT17 => SW3 rfl ts28 rfl ?_
 refine RN hT17 [0, 1, 2, 3, 4, 5] rfl rfl <| t_cons rfl fun T18 hT18 => SW2 rfl ts28 rfl <| RN hT18 [0, 1, 2, 3, 4, 5] rfl rfl <| t_fin rfl <| KK hK16 <| w_ret ?_
 refine hQ _ _ _ (l_nil (vs := [(Value.agg (SpanV.cells (longF ts f.toNat (t - f).toNat)).toArray), (Value.agg (SpanV.cells (fallF ts f.toNat (t - f).toNat)).toArray), (Value.int .i64 0)]) ⟨⟨_, rfl, .inl ⟨_, _, tk28, at_blk (vs := (SpanV.cells (longF ts f.toNat (t - f).toNat))) 3 rfl rfl, rfl, rfl⟩⟩, ⟨_, rfl, .inl ⟨_, _, tk28, at_blk (vs := (SpanV.cells (fallF ts f.toNat (t - f).toNat))) 2 rfl rfl, rfl, rfl⟩⟩, rfl, trivial⟩ fun w hs => endV ?_ hs)
 show (Value.tuple [(Value.agg (SpanV.cells (longF ts f.toNat (t - f).toNat)).toArray), (Value.agg (SpanV.cells (fallF ts f.toNat (t - f).toNat)).toArray), (Value.int .i64 0)].toArray) = (Value.tuple [(Value.agg (SpanV.cells (dropL ts f t)).toArray), (Value.agg (SpanV.cells (dropH ts f t)).toArray), (Value.int .i64 (dropE ts f t))].toArray)
 clear hs w hQ hN hT18 T18 hT17 T17 hK16 hK15 hK11 hK10 hK8 hK7 hK5 hK1
 first | (have e := dropE_bad (f := f) (t := t) (tr_no he).1; rw [e.1, e.2.1, e.2.2, (tr_no he).2]; rfl) | (have e := dropE_out (f := f) (t := t) htr (by omega); rw [e.1, e.2.1, e.2.2]; rfl) | (have e := dropE_in (f := f) (t := t) htr (by omega); rw [e.1, e.2.1, e.2.2])
end
section
open Go.RowKit
set_option linter.unusedVariables false
set_option maxRecDepth 100000 in
set_option maxHeartbeats 400000 in
theorem stands1_c (i : Int) (s : SpotV) (ts : List StretchV) (tsA : Option Addr) (tsC : Nat) (g1 : Nat) (hst : ∀ x ∈ ts, StretchOk x) (hlen : ts.length ≤ 12) :
    FnV Tryz.prog 101 [(Value.int .i64 i), (Value.agg (SpotV.cells s).toArray), (Value.pointer (some ⟨g1, 0, none⟩))] [(rd tsA ts.length 9 (ts.map StretchV.cells)), (blk g1 116 (SurveyV.cells (SurveyV.mk (TrackV.mk (Slc.mk tsA ts.length tsC)))))] (Value.bool (!(decide (SpotOk ts s)))) := by
 refine fnV_of go101 Tryz.func101 rfl rfl fun w0 Q hQ hN => ?_
 try dsimp only
 refine WS fun _ hK1 => BXA rfl fun b2 => rS (AG rfl) <| RK hK1 <| w_seq fun _ hK3 => w_drawN mixed [0, 1, 2, 3, 4, 5, 6] [7, 8, 9, 10, 11, 12, 13, 14, 15, 16, 17, 18, 19, 20, 21, 22, 23, 24, 25, 26] [false, false, false, false, false, false, false] [] [(blk b2 30 (SpotV.cells s)), (rd tsA ts.length 9 (ts.map StretchV.cells)).ro, (blk g1 116 (SurveyV.cells (SurveyV.mk (TrackV.mk (Slc.mk tsA ts.length tsC))))).ro] [] (by kernel_rfl) (fun w hs => St.sel [0, 1, 2] rfl rfl hs) (fun w hs => St.sel [] rfl rfl hs) <| eS rfl (FA 0 rfl fo116_0 rfl) <| eS rfl (FA 0 rfl fo24_0 rfl) <| eS rfl (L1R (Value.slice tsA ts.length tsC) 2 rfl tk22 rfl rfl) <| eS rfl (LN rfl ut22) ?_
 refine eS rfl (BI rfl (b_sub ⟨by omega, by omega⟩)) <| eS rfl (FA 0 rfl fo30_0 rfl) <| eS rfl (L1 (Value.int .i64 s.Stretch) 0 rfl tk3 rfl rfl) <| d_fin rfl <| N1 7 <| NO rfl rfl [8,9,10,11,12,13,14,15,16,17,18,19,20,21,22,23,24,25,26] fun T4 hT4 => r_bs (xs := [.tmp 12]) (cs := [(Value.int .i64 s.Stretch)]) rfl te33 tz3 rfl rfl rfl rfl (by simp [Value.cells]) rfl rfl fun b5 => RD hT4 1 rfl <| n_pure [14, 15, 16, 17, 18, 19, 20, 21, 22, 23, 24, 25, 26, 27, 28, 29, 30, 31, 5] (by kernel_rfl) (by kernel_rfl) rfl _ rfl rfl (fun w hs => St.sel [1, 2, 3] rfl rfl hs) <| dS (CL (FnV.eq (in_track 0 (((ts.length : Nat) : Int) - 1) ([s.Stretch]) (some ⟨b5, 0, none⟩) 1 (by first | assumption | omega | (simp; done) | (simp; omega))) inAll_one) (ha_cons (has_rd_blk 0 rfl rfl (by simp [iC_length]) rfl) <| ha_nil) rfl) ?_
 refine dS (NT rfl) <| dS (MV rfl) ?_
 refine d_bool (t := 16) rfl (fun h16 => ?_) (fun h16 => ?_)
 · replace h16 := XT h16
   refine dS (OX rfl) <| dS (OX rfl) <| dS (OX rfl) <| dS (OX rfl) <| dS (OX rfl) <| dS (OX rfl) <| dS (OX rfl) <| dS (OX rfl) <| dS (OX rfl) <| dS (OX rfl) ?_
   refine dS (OX rfl) <| dS (OX rfl) <| dS (OX rfl) <| dS (OX rfl) <| dS (PK rfl) <| dS (AG rfl) <| d_end <| RK hK3 <| w_ret <| Q1 hQ rfl rfl rfl ?_
   first | (refine congrArg Value.bool ?_; rw [decide_eq_false (spot_out (by omega))]; rfl) | exact congrArg (fun b => Value.bool (!b)) (decide_eq_decide.2 (spot_yes (by omega) hx).symm)
 replace h16 := XF h16
 refine dS (FA 1 rfl fo30_1 rfl) <| dS (LP (SpanV.cells s.Off) 1 rfl tk28 rfl rfl rfl) <| dS (FA 0 rfl fo116_0 rfl) <| dS (FA 0 rfl fo24_0 rfl) <| dS (L1R (Value.slice tsA ts.length tsC) 3 rfl tk22 rfl rfl) <| dS (FA 0 rfl fo30_0 rfl) <| dS (L1 (Value.int .i64 s.Stretch) 1 rfl tk3 rfl rfl) ?_
 obtain ⟨x, hx⟩ : ∃ y_, ts[(s.Stretch).toNat]? = some y_ := ⟨ts[(s.Stretch).toNat]'(by omega), List.getElem?_eq_getElem _⟩
 have hxm : (ts.map StretchV.cells)[(s.Stretch).toNat]? = some (StretchV.cells x) := by rw [List.getElem?_map, hx]; rfl
 refine dS (IA ((s.Stretch).toNat) rfl (has_at 2 rfl) te22 (by decide) (by omega) (by omega)) <| dS (FAR ((((s.Stretch).toNat) * 9) + 1) rfl (has_at 2 rfl) (Nat.mul_pos (by omega) (by decide)) fo83_1 rfl) ?_
 have hxo := (hst x (List.mem_of_getElem? hx)).2.1
 simp only [SpanOk] at hxo
 refine dS (FAR ((((s.Stretch).toNat) * 9) + 1) rfl (has_at 2 rfl) (Nat.mul_pos (by omega) (by decide)) fo28_0 rfl) <| dS (LE1 ((s.Stretch).toNat) 1 (Value.int .i64 x.Long.Lo) rfl tk3 (has_at 2 rfl) hxm rfl (by decide) rfl) <| dS (BI rfl (b_sub ⟨by omega, by omega⟩)) <| dS (CL (known_c s.Off 0 (x.Long.Lo - 1)) (ha_nil) rfl) <| dS (NT rfl) <| dS (PK rfl) <| dS (AG rfl) <| d_end <| RK hK3 <| w_ret ?_
 refine Q1 hQ rfl rfl rfl ?_
 first | (refine congrArg Value.bool ?_; rw [decide_eq_false (spot_out (by omega))]; rfl) | exact congrArg (fun b => Value.bool (!b)) (decide_eq_decide.2 (spot_yes (by omega) hx).symm)
set_option maxRecDepth 100000 in
set_option maxHeartbeats 400000 in
theorem pickspot_c (l : List SpotV) (lA : Option Addr) (lC : Nat) (f : Value) (p : Int → SpotV → Bool) (X : Assn) (hf : ∀ x0 x1, (∃ k : Nat, x0 = (k : Int) ∧ l[k]? = some x1) → Clo Tryz.prog f [.int .i64 x0, .agg (SpotV.cells x1).toArray] [X] (.bool (p x0 x1))) (hlen : l.length ≤ 1000000) :
    FnX Tryz.prog 100 [(Value.slice lA l.length lC), f] [(rd lA l.length 3 (l.map SpotV.cells)), X] (fun (x : (Option Addr) × Nat) => (Value.slice x.1 ((pckF (fun jj yy => p (jj : Int) yy) l).length) x.2)) (fun (x : (Option Addr) × Nat) => True) (fun (x : (Option Addr) × Nat) => [(own x.1 x.2 3 1 ((pckF (fun jj yy => p (jj : Int) yy) l).map iC))]) := by
 refine fnX_of go100 Tryz.func100 rfl rfl fun w0 Q hQ hN => ?_
 try dsimp only
 refine WS fun _ hK1 => rS (AG rfl) <| RK hK1 <| WS fun _ hK2 => rS (AG rfl) <| RK hK2 <| w_seq fun _ hK3 => WS fun _ hK4 => rS (MV rfl) <| rS (LN rfl ut86) ?_
 refine rS (MV rfl) <| RK hK4 <| w_block <| w_own_nil 3 1 ?_
 have hinit : (0 ≤ l.length) := by exact Nat.zero_le _
 refine w_loop (ι := { z : Nat × (Option Addr) × Nat // (z.1 ≤ l.length) }) (fun z => [(0, (Value.slice lA l.length lC)), (1, f), (5, (Value.slice z.1.2.1 ((pckL (fun jj yy => p (jj : Int) yy) l z.1.1).length) z.1.2.2)), (8, (Value.slice lA l.length lC)), (9, (Value.int .i64 ((l.length : Nat) : Int))), (10, (Value.int .i64 ((z.1.1 : Nat) : Int)))]) (fun z => [(own z.1.2.1 z.1.2.2 3 1 ((pckL (fun jj yy => p (jj : Int) yy) l z.1.1).map iC)), (rd lA l.length 3 (l.map SpotV.cells)).ro, X.ro]) (fun z => l.length - z.1.1) ⟨(0, none, 0), hinit⟩ (Sub.cons rfl <| Sub.cons rfl <| Sub.cons rfl <| Sub.cons rfl <| Sub.cons rfl <| Sub.cons rfl <| Sub.nil _) (fun w hs => St.sel [0, 1, 2] rfl rfl hs) ?_
 clear hinit
 rintro ⟨⟨i, a, c⟩, hl0_0⟩ J5 hJ5
 try dsimp only at hl0_0
 try dsimp only
 refine WS fun _ hK6 => rS (BI rfl b_lss) <| RK hK6 <| w_seq fun _ hK7 => ?_
 refine w_if rfl (fun h8 => ?_) (fun h8 => ?_)
 rotate_left 1
 · replace h8 := DF h8
   refine w_exit <| k_exit_then <| k_exit_then <| k_exit_same <| KK hK3 <| WS fun _ hK18 => ?_
   rw [pckF_at (p := fun (i : Nat) x => p (i : Int) x) (show i = l.length by omega)]
   refine rS (MV rfl) <| rS (AG rfl) <| RK hK18 <| w_ret ?_
   refine hQ _ _ _ (l_nil (vs := [(Value.slice a ((pckF (fun jj yy => p (jj : Int) yy) l).length) c)]) ⟨rfl, trivial⟩ fun w hs => endX (a, c) [0] ?_ ?_ rfl rfl rfl hs)
   · rfl
   · trivial
 replace h8 := DT h8
 refine WK hK7 <| w_seq fun _ hK9 => w_block <| WS fun _ hK10 => rS (MV rfl) ?_
 obtain ⟨x, hx⟩ : ∃ y_, l[i]? = some y_ := ⟨l[i]'(by omega), List.getElem?_eq_getElem _⟩
 have hxm : (l.map SpotV.cells)[i]? = some (SpotV.cells x) := by rw [List.getElem?_map, hx]; rfl
 refine rS (IA i rfl (has_at 1 rfl) te86 (by decide) (by omega) (by omega)) <| rS (LEN i 0 (SpotV.cells x) rfl tk30 (has_at 1 rfl) hxm rfl (by decide) rfl rfl) <| AL rfl tz30 fun b11 => rS (AG rfl) <| SW0 rfl ts30 rfl <| RK hK10 <| WS fun _ hK12 => rS (MV rfl) <| rS (MV rfl) <| rS (LW 0 rfl tk30 rfl rfl) ?_
 refine rS (SX (sd_clo rfl rfl rfl (hf ((i : Nat) : Int) x ⟨i, rfl, hx⟩) (ha_at 3 rfl rfl <| ha_nil)) rfl rfl) <| RK hK12 ?_
 refine w_if rfl (fun hp => ?_) (fun hp => ?_)
 rotate_left 1
 · refine w_skip ?_
   refine k_block <| KK hK9 <| w_region ?_
   rw [← pckL_no (p := fun (i : Nat) x => p (i : Int) x) hx hp]
   refine rS (BI rfl (b_add ⟨by omega, by omega⟩)) <| rS (MV rfl) <| r_nil ?_
   have hb17 : (Value.int .i64 (((i + 1) : Nat) : Int)) = (Value.int .i64 (((i : Nat) : Int) + 1)) := by exact congrArg (Value.int .i64) (by omega)
   refine k_then (hJ5 ⟨((i + 1), a, c), (by first | omega | (simp only []; omega))⟩ _ _ _ rfl (by first | omega | (simp; omega)) (Sub.cons rfl <| Sub.cons rfl <| Sub.cons rfl <| Sub.cons rfl <| Sub.cons rfl <| sub_val rfl hb17 <| Sub.nil _) (fun w hs => St.sel [1, 2, 3] rfl rfl hs))
 refine w_region <| rS (MV rfl) <| rS (MV rfl) <| r_bs (xs := [.tmp 20]) (cs := [(Value.int .i64 ((i : Nat) : Int))]) rfl te33 tz3 rfl rfl rfl rfl (by simp [Value.cells]) rfl rfl fun b13 => r_append (es2 := (List.map iC (pckL (fun jj yy => p (jj : Int) yy) l (i + 1)))) (m' := (pckL (fun jj yy => p (jj : Int) yy) l (i + 1)).length) 2 rfl rfl rfl ta33 rfl rfl (by simp) (has_rd_blk (es := List.map iC [((i : Nat) : Int)]) 0 rfl rfl (by simp [iC_length]) rfl) (one_iC _) (by have := pckL_len (p := fun (i : Nat) x => p (i : Int) x) (l := l) (n := i); simp; omega) (by have := pckL_len (p := fun (i : Nat) x => p (i : Int) x) (l := l) (n := i); simp only [maxLen]; omega) (by rw [pckL_yes hx hp]; simp) (by simp) rfl fun a14 c15 => ?_
 try dsimp only
 refine rS (AG rfl) <| r_nil <| k_block <| KK hK9 <| w_region <| rS (BI rfl (b_add ⟨by omega, by omega⟩)) <| rS (MV rfl) <| r_nil ?_
 have hb16 : (Value.int .i64 (((i + 1) : Nat) : Int)) = (Value.int .i64 (((i : Nat) : Int) + 1)) := by exact congrArg (Value.int .i64) (by omega)
 refine k_then (hJ5 ⟨((i + 1), a14, c15), (by first | omega | (simp only []; omega))⟩ _ _ _ rfl (by first | omega | (simp; omega)) (Sub.cons rfl <| Sub.cons rfl <| Sub.cons rfl <| Sub.cons rfl <| Sub.cons rfl <| sub_val rfl hb16 <| Sub.nil _) (fun w hs => St.sel [2, 3, 4] rfl rfl hs))
set_option maxRecDepth 100000 in
set_option maxHeartbeats 400000 in
theorem stands_c (ts : List StretchV) (tsA : Option Addr) (tsC : Nat) (l : List SpotV) (lA : Option Addr) (lC : Nat) (hst : ∀ x ∈ ts, StretchOk x) (hlen : ts.length ≤ 12) (hl : l.length ≤ 4) :
    FnV Tryz.prog 77 [(Value.agg (SurveyV.cells (SurveyV.mk (TrackV.mk (Slc.mk tsA ts.length tsC)))).toArray), (Value.slice lA l.length lC)] [(rd tsA ts.length 9 (ts.map StretchV.cells)), (rd lA l.length 3 (l.map SpotV.cells))] (Value.bool (decide (∀ s ∈ l, SpotOk ts s))) := by
 refine fnV_of go77 Tryz.func77 rfl rfl fun w0 Q hQ hN => ?_
 try dsimp only
 refine WS fun _ hK1 => BXA rfl fun b2 => rS (AG rfl) <| RK hK1 <| WS fun _ hK3 => rS (MV rfl) <| rS (FU rfl) <| cX (pickspot_c l lA lC (Value.func (.func 101) [].toArray [(Value.pointer (some ⟨b2, 0, none⟩))].toArray) (fun u4 u5 => (!(decide (SpotOk ts u5)))) (bun [(rd tsA ts.length 9 (ts.map StretchV.cells)), (blk b2 116 (SurveyV.cells (SurveyV.mk (TrackV.mk (Slc.mk tsA ts.length tsC)))))]) (by intro u4 u5 _; exact clo_of (fi := []) (ca := [(Value.pointer (some ⟨b2, 0, none⟩))]) (fnV_bun (stands1_c u4 u5 ts tsA tsC b2 (by first | assumption | omega) (by first | assumption | omega)) (ha_at 0 rfl rfl <| ha_at 1 rfl rfl <| ha_nil))) (by first | assumption | omega | (simp; done) | (simp; omega))) (ha_at 2 rfl rfl <| ha_cons (has_bun (ha_at 1 rfl rfl <| ha_at 0 rfl rfl <| ha_nil)) <| ha_nil) rfl fun y6 hy7 => ?_
 obtain ⟨a8, c9⟩ := y6
 try dsimp only
 refine rS (LN rfl ut33) <| rS (BI rfl b_eql) <| rS (AG rfl) <| RK hK3 <| w_ret <| Q1 hQ rfl rfl rfl ?_
 exact congrArg Value.bool (decide_eq_decide.2 (by rw [show ∀ n : Nat, ((n : Int) = 0) ↔ n = 0 from fun n => by omega, pckF_none]; simp only [Bool.not_eq_false', decide_eq_true_eq]; exact ⟨fun h s hs => by obtain ⟨k, hk⟩ := List.getElem?_of_mem hs; exact h k s hk, fun h k s hk => h s (List.mem_of_getElem? hk)⟩))
set_option maxRecDepth 100000 in
set_option maxHeartbeats 400000 in
theorem less_c (z : SpanV) (hz : In12 z) :
    FnV Tryz.prog 85 [(Value.agg (SpanV.cells z).toArray)] [] (Value.agg (SpanV.cells (lessZ z)).toArray) := by
 unfold In12 at hz
 refine fnV_of go85 Tryz.func85 rfl rfl fun w0 Q hQ hN => ?_
 try dsimp only
 refine WS fun _ hK1 => BXA rfl fun b2 => AL rfl tz28 fun b3 => RK hK1 <| WS fun _ hK4 => rS (FA 1 rfl fo28_1 rfl) <| rS (L1 (Value.int .i64 z.Hi) 1 rfl tk3 rfl rfl) <| rS (NG rfl ⟨by omega, by omega⟩) <| rS (FA 0 rfl fo28_0 rfl) <| rS (L1 (Value.int .i64 z.Lo) 1 rfl tk3 rfl rfl) ?_
 refine rS (NG rfl ⟨by omega, by omega⟩) <| rS (SX (sd_build (xs := [(0, .tmp 5), (1, .tmp 8)]) (cs := (SpanV.cells (SpanV.mk (-z.Hi) (-z.Lo)))) rfl rfl (built_of tb28 rfl)) rfl rfl) <| SW0 rfl ts28 rfl <| RK hK4 <| w_ret ?_
 refine hQ _ _ _ (l_nil (vs := [(Value.agg (SpanV.cells (SpanV.mk (-z.Hi) (-z.Lo))).toArray)]) ⟨⟨_, rfl, .inl ⟨_, _, tk28, at_blk (vs := (SpanV.cells (SpanV.mk (-z.Hi) (-z.Lo)))) 0 rfl rfl, rfl, rfl⟩⟩, trivial⟩ fun w hs => endV ?_ hs)
 show (Value.agg (SpanV.cells (SpanV.mk (-z.Hi) (-z.Lo))).toArray) = (Value.agg (SpanV.cells (lessZ z)).toArray)
 clear hs w hQ hN hK4 hK1
 rfl
set_option maxRecDepth 100000 in
set_option maxHeartbeats 400000 in
theorem At_c (ts : List StretchV) (tsA : Option Addr) (tsC : Nat) (s : SpotV) (hlen : ts.length ≤ 1000000) (hside : ∀ x ∈ ts, 0 ≤ x.Side ∧ x.Side ≤ 255) :
    FnV Tryz.prog 61 [(Value.agg (TrackV.cells (TrackV.mk (Slc.mk tsA ts.length tsC))).toArray), (Value.agg (SpotV.cells s).toArray)] [(rd tsA ts.length 9 (ts.map StretchV.cells))] (Value.tuple [(Value.agg (SpanV.cells (atV ts s)).toArray), (Value.int .i64 (atE ts s))].toArray) := by
 refine fnV_of go61 Tryz.func61 rfl rfl fun w0 Q hQ hN => ?_
 try dsimp only
 refine WS fun _ hK1 => BXA rfl fun b2 => BXA rfl fun b3 => AL rfl tz28 fun b4 => rS (AG rfl) <| RK hK1 <| WS fun _ hK5 => rS (LW 2 rfl tk24 rfl rfl) <| rS (CL (topen_c ts tsA tsC hlen hside) (ha_at 3 rfl rfl <| ha_nil) rfl) <| rS (MV rfl) ?_
 refine rS (EX rfl) <| rS (EX rfl) <| AL rfl tz116 fun b6 => SW0 rfl ts116 rfl <| rS (AG rfl) <| RK hK5 <| w_seq fun _ hK7 => WS fun _ hK8 => rS (MV rfl) <| rS (BI rfl b_neq) ?_
 refine RK hK8 ?_
 refine w_if rfl (fun he => ?_) (fun he => ?_)
 · replace he := XT he
   refine WS fun _ hK9 => rS (SX (sd_build (xs := []) (cs := (SpanV.cells (SpanV.mk 0 0))) rfl rfl (built_of tb28 rfl)) rfl rfl) <| rS (MV rfl) <| SW1 rfl ts28 rfl <| rS (AG rfl) <| RK hK9 <| w_ret ?_
   refine hQ _ _ _ (l_nil (vs := [(Value.agg (SpanV.cells (SpanV.mk 0 0)).toArray), (Value.int .i64 (if trackOk ts = true then 0 else 10))]) ⟨⟨_, rfl, .inl ⟨_, _, tk28, at_blk (vs := (SpanV.cells (SpanV.mk 0 0))) 1 rfl rfl, rfl, rfl⟩⟩, rfl, trivial⟩ fun w hs => endV ?_ hs)
   show (Value.tuple [(Value.agg (SpanV.cells (SpanV.mk 0 0)).toArray), (Value.int .i64 (if trackOk ts = true then 0 else 10))].toArray) = (Value.tuple [(Value.agg (SpanV.cells (atV ts s)).toArray), (Value.int .i64 (atE ts s))].toArray)
   clear hs w hQ hN hK9 hK8 hK7 hK5 hK1
   first | (have e := at_bad (s := s) (tr_no he).1; rw [e.1, e.2, (tr_no he).2] <;> rfl) | (have e := at_out htr h23; rw [e.1, e.2] <;> rfl) | (have e := at_in htr h23; rw [e.1, e.2]; unfold atF; rw [show (s.Stretch - 0).toNat = s.Stretch.toNat by rw [Int.sub_zero]] <;> rfl)
 replace he := XF he
 refine WK hK7 <| w_seq fun _ hK10 => WS fun _ hK11 => ?_
 have htr := tr_yes he
 have hst := trackOk_all htr
 have hl12 := trackOk_le htr
 refine rS (LW 0 rfl tk116 rfl rfl) <| rS (LW 2 rfl tk30 rfl rfl) <| r_bs (xs := [.tmp 20]) (cs := (SpotV.cells s)) rfl te86 tz30 rfl rfl rfl rfl (by simp [Value.cells, SpotV.cells_length]) rfl rfl fun b12 => rS (CL (FnV.eq (stands_c ts tsA tsC ([s]) (some ⟨b12, 0, none⟩) 1 (by first | assumption | omega | (simp; done) | (simp; omega)) (by first | assumption | omega | (simp; done) | (simp; omega)) (by first | assumption | omega | (simp; done) | (simp; omega))) stands_one) (ha_at 5 rfl rfl <| ha_cons (has_rd_blk 0 rfl rfl (by simp [SpotV.cells_length]) rfl) <| ha_nil) rfl) <| rS (NT rfl) <| RK hK11 ?_
 refine w_if rfl (fun h23 => ?_) (fun h23 => ?_)
 · replace h23 := XT h23
   refine WS fun _ hK13 => rS (SX (sd_build (xs := []) (cs := (SpanV.cells (SpanV.mk 0 0))) rfl rfl (built_of tb28 rfl)) rfl rfl) <| SW2 rfl ts28 rfl <| rS (AG rfl) <| RK hK13 <| w_ret ?_
   refine hQ _ _ _ (l_nil (vs := [(Value.agg (SpanV.cells (SpanV.mk 0 0)).toArray), (Value.int .i64 12)]) ⟨⟨_, rfl, .inl ⟨_, _, tk28, at_blk (vs := (SpanV.cells (SpanV.mk 0 0))) 2 rfl rfl, rfl, rfl⟩⟩, rfl, trivial⟩ fun w hs => endV ?_ hs)
   show (Value.tuple [(Value.agg (SpanV.cells (SpanV.mk 0 0)).toArray), (Value.int .i64 12)].toArray) = (Value.tuple [(Value.agg (SpanV.cells (atV ts s)).toArray), (Value.int .i64 (atE ts s))].toArray)
   clear hs w hQ hN hK13 hK11 hK10 hK8 hK7 hK5 hK1
   first | (have e := at_bad (s := s) (tr_no he).1; rw [e.1, e.2, (tr_no he).2] <;> rfl) | (have e := at_out htr h23; rw [e.1, e.2] <;> rfl) | (have e := at_in htr h23; rw [e.1, e.2]; unfold atF; rw [show (s.Stretch - 0).toNat = s.Stretch.toNat by rw [Int.sub_zero]] <;> rfl)
 replace h23 := XF h23
 refine WK hK10 <| WS fun _ hK14 => ?_
 have hsb := h23.1
 have hof := off_in hst h23
 refine rS (LW 1 rfl tk116 rfl rfl) <| rS (FA 0 rfl fo30_0 rfl) <| rS (L1 (Value.int .i64 s.Stretch) 3 rfl tk3 rfl rfl) <| rS (CL (drop_c ts tsA tsC 0 s.Stretch (by first | assumption | omega | (simp; done) | (simp; omega)) (by first | assumption | omega | (simp; done) | (simp; omega)) (by omega)) (ha_at 5 rfl rfl <| ha_nil) rfl) <| rS (MV rfl) <| rS (EX rfl) <| rS (EX rfl) <| AL rfl tz28 fun b15 => AL rfl tz28 fun b16 => SW1 rfl ts28 rfl ?_
 refine SW0 rfl ts28 rfl <| RK hK14 <| WS fun _ hK17 => rS (LW 1 rfl tk28 rfl rfl) <| rS (FA 1 rfl fo30_1 rfl) <| rS (LP (SpanV.cells s.Off) 5 rfl tk28 rfl rfl rfl) <| r_bs (xs := [.tmp 34]) (cs := (SpanV.cells s.Off)) rfl te146 tz28 rfl rfl rfl rfl (by simp [Value.cells, SpanV.cells_length]) rfl rfl fun b18 => rS (CL (FnV.eq (plus_c (longF ts (0 : Int).toNat (s.Stretch - 0).toNat) ([s.Off]) (some ⟨b18, 0, none⟩) 1 (by exact longF_in hst (by omega)) (by intro z hz; simp only [List.mem_singleton] at hz; subst hz; exact hof) (by simp)) plus_one) (ha_cons (has_rd_blk 0 rfl rfl (by simp [SpanV.cells_length]) rfl) <| ha_nil) rfl) <| SW5 rfl ts28 rfl <| rS (AG rfl) ?_
 refine RK hK17 <| w_ret ?_
 refine hQ _ _ _ (l_nil (vs := [(Value.agg (SpanV.cells (addZ (longF ts (0 : Int).toNat (s.Stretch - 0).toNat) s.Off)).toArray), (Value.int .i64 0)]) ⟨⟨_, rfl, .inl ⟨_, _, tk28, at_blk (vs := (SpanV.cells (addZ (longF ts (0 : Int).toNat (s.Stretch - 0).toNat) s.Off))) 5 rfl rfl, rfl, rfl⟩⟩, rfl, trivial⟩ fun w hs => endV ?_ hs)
 show (Value.tuple [(Value.agg (SpanV.cells (addZ (longF ts (0 : Int).toNat (s.Stretch - 0).toNat) s.Off)).toArray), (Value.int .i64 0)].toArray) = (Value.tuple [(Value.agg (SpanV.cells (atV ts s)).toArray), (Value.int .i64 (atE ts s))].toArray)
 clear hs w hQ hN hK17 hK14 hK11 hK10 hK8 hK7 hK5 hK1
 first | (have e := at_bad (s := s) (tr_no he).1; rw [e.1, e.2, (tr_no he).2] <;> rfl) | (have e := at_out htr h23; rw [e.1, e.2] <;> rfl) | (have e := at_in htr h23; rw [e.1, e.2]; unfold atF; rw [show (s.Stretch - 0).toNat = s.Stretch.toNat by rw [Int.sub_zero]] <;> rfl)
set_option maxRecDepth 100000 in
set_option maxHeartbeats 400000 in
theorem Apart_c (ts : List StretchV) (tsA : Option Addr) (tsC : Nat) (p : SpotV) (q : SpotV) (hlen : ts.length ≤ 1000000) (hside : ∀ x ∈ ts, 0 ≤ x.Side ∧ x.Side ≤ 255) :
    FnV Tryz.prog 68 [(Value.agg (TrackV.cells (TrackV.mk (Slc.mk tsA ts.length tsC))).toArray), (Value.agg (SpotV.cells p).toArray), (Value.agg (SpotV.cells q).toArray)] [(rd tsA ts.length 9 (ts.map StretchV.cells))] (Value.tuple [(Value.agg (SpanV.cells (apartV ts p q)).toArray), (Value.int .i64 (apartE ts p q))].toArray) := by
 refine fnV_of go68 Tryz.func68 rfl rfl fun w0 Q hQ hN => ?_
 try dsimp only
 refine WS fun _ hK1 => BXA rfl fun b2 => BXA rfl fun b3 => BXA rfl fun b4 => AL rfl tz28 fun b5 => rS (AG rfl) <| RK hK1 <| WS fun _ hK6 => rS (LW 3 rfl tk24 rfl rfl) <| rS (CL (topen_c ts tsA tsC hlen hside) (ha_at 4 rfl rfl <| ha_nil) rfl) ?_
 refine rS (MV rfl) <| rS (EX rfl) <| rS (EX rfl) <| AL rfl tz116 fun b7 => SW0 rfl ts116 rfl <| rS (AG rfl) <| RK hK6 <| w_seq fun _ hK8 => WS fun _ hK9 => rS (MV rfl) ?_
 refine rS (BI rfl b_neq) <| RK hK9 ?_
 refine w_if rfl (fun he => ?_) (fun he => ?_)
 · replace he := XT he
   refine WS fun _ hK10 => rS (SX (sd_build (xs := []) (cs := (SpanV.cells (SpanV.mk 0 0))) rfl rfl (built_of tb28 rfl)) rfl rfl) <| rS (MV rfl) <| SW1 rfl ts28 rfl <| rS (AG rfl) <| RK hK10 <| w_ret ?_
   refine hQ _ _ _ (l_nil (vs := [(Value.agg (SpanV.cells (SpanV.mk 0 0)).toArray), (Value.int .i64 (if trackOk ts = true then 0 else 10))]) ⟨⟨_, rfl, .inl ⟨_, _, tk28, at_blk (vs := (SpanV.cells (SpanV.mk 0 0))) 1 rfl rfl, rfl, rfl⟩⟩, rfl, trivial⟩ fun w hs => endV ?_ hs)
   show (Value.tuple [(Value.agg (SpanV.cells (SpanV.mk 0 0)).toArray), (Value.int .i64 (if trackOk ts = true then 0 else 10))].toArray) = (Value.tuple [(Value.agg (SpanV.cells (apartV ts p q)).toArray), (Value.int .i64 (apartE ts p q))].toArray)
   clear hs w hQ hN hK10 hK9 hK8 hK6 hK1
   first | (have e := apart_bad (a := p) (b := q) (tr_no he).1; rw [e.1, e.2, (tr_no he).2] <;> rfl) | (have e := apart_out htr h26; rw [e.1, e.2] <;> rfl) | (have e := apart_in htr ⟨hp, hq⟩; rw [e.1, e.2]; unfold apartF wayB; rw [if_pos h47] <;> rfl) | (have e := apart_in htr ⟨hp, hq⟩; rw [e.1, e.2]; unfold apartF wayB; rw [if_neg h47] <;> rfl)
 replace he := XF he
 refine WK hK8 <| w_seq fun _ hK11 => WS fun _ hK12 => ?_
 have htr := tr_yes he
 have hst := trackOk_all htr
 have hl12 := trackOk_le htr
 refine rS (LW 0 rfl tk116 rfl rfl) <| rS (LW 3 rfl tk30 rfl rfl) <| rS (LW 2 rfl tk30 rfl rfl) <| r_bs (xs := [.tmp 22, .tmp 23]) (cs := ((SpotV.cells p) ++ (SpotV.cells q))) rfl te86 tz30 rfl rfl rfl rfl (by simp [Value.cells, SpotV.cells_length]) rfl rfl fun b13 => rS (CL (FnV.eq (stands_c ts tsA tsC ([p, q]) (some ⟨b13, 0, none⟩) 2 (by first | assumption | omega | (simp; done) | (simp; omega)) (by first | assumption | omega | (simp; done) | (simp; omega)) (by first | assumption | omega | (simp; done) | (simp; omega))) stands_two) (ha_at 6 rfl rfl <| ha_cons (has_rd_blk 0 rfl rfl (by simp [SpotV.cells_length]) rfl) <| ha_nil) rfl) <| rS (NT rfl) <| RK hK12 ?_
 refine w_if rfl (fun h26 => ?_) (fun h26 => ?_)
 · replace h26 := XT h26
   refine WS fun _ hK14 => rS (SX (sd_build (xs := []) (cs := (SpanV.cells (SpanV.mk 0 0))) rfl rfl (built_of tb28 rfl)) rfl rfl) <| SW2 rfl ts28 rfl <| rS (AG rfl) <| RK hK14 <| w_ret ?_
   refine hQ _ _ _ (l_nil (vs := [(Value.agg (SpanV.cells (SpanV.mk 0 0)).toArray), (Value.int .i64 12)]) ⟨⟨_, rfl, .inl ⟨_, _, tk28, at_blk (vs := (SpanV.cells (SpanV.mk 0 0))) 2 rfl rfl, rfl, rfl⟩⟩, rfl, trivial⟩ fun w hs => endV ?_ hs)
   show (Value.tuple [(Value.agg (SpanV.cells (SpanV.mk 0 0)).toArray), (Value.int .i64 12)].toArray) = (Value.tuple [(Value.agg (SpanV.cells (apartV ts p q)).toArray), (Value.int .i64 (apartE ts p q))].toArray)
   clear hs w hQ hN hK14 hK12 hK11 hK9 hK8 hK6 hK1
   first | (have e := apart_bad (a := p) (b := q) (tr_no he).1; rw [e.1, e.2, (tr_no he).2] <;> rfl) | (have e := apart_out htr h26; rw [e.1, e.2] <;> rfl) | (have e := apart_in htr ⟨hp, hq⟩; rw [e.1, e.2]; unfold apartF wayB; rw [if_pos h47] <;> rfl) | (have e := apart_in htr ⟨hp, hq⟩; rw [e.1, e.2]; unfold apartF wayB; rw [if_neg h47] <;> rfl)
 replace h26 := XF h26
 refine WK hK11 <| WS fun _ hK15 => ?_
 obtain ⟨hp, hq⟩ := h26
 have hpb := hp.1
 have hqb := hq.1
 have hpo := off_in hst hp
 have hqo := off_in hst hq
 have hlo := less_in hpo
 have hwy := longF_in hst (f := (min p.Stretch q.Stretch).toNat) (k := (max p.Stretch q.Stretch - min p.Stretch q.Stretch).toNat) (by omega)
 refine rS (LW 1 rfl tk116 rfl rfl) <| rS (FA 0 rfl fo30_0 rfl) <| rS (L1 (Value.int .i64 p.Stretch) 4 rfl tk3 rfl rfl) <| rS (FA 0 rfl fo30_0 rfl) <| rS (L1 (Value.int .i64 q.Stretch) 3 rfl tk3 rfl rfl) <| rS (MN rfl) <| rS (FA 0 rfl fo30_0 rfl) <| rS (L1 (Value.int .i64 p.Stretch) 4 rfl tk3 rfl rfl) <| rS (FA 0 rfl fo30_0 rfl) <| rS (L1 (Value.int .i64 q.Stretch) 3 rfl tk3 rfl rfl) ?_
 refine rS (MX rfl) <| rS (CL (drop_c ts tsA tsC (min p.Stretch q.Stretch) (max p.Stretch q.Stretch) (by first | assumption | omega | (simp; done) | (simp; omega)) (by first | assumption | omega | (simp; done) | (simp; omega)) (by omega)) (ha_at 6 rfl rfl <| ha_nil) rfl) <| rS (MV rfl) <| rS (EX rfl) <| rS (EX rfl) <| AL rfl tz28 fun b16 => AL rfl tz28 fun b17 => SW1 rfl ts28 rfl <| SW0 rfl ts28 rfl <| RK hK15 ?_
 refine w_seq fun _ hK18 => WS fun _ hK19 => rS (FA 0 rfl fo30_0 rfl) <| rS (L1 (Value.int .i64 q.Stretch) 5 rfl tk3 rfl rfl) <| rS (FA 0 rfl fo30_0 rfl) <| rS (L1 (Value.int .i64 p.Stretch) 6 rfl tk3 rfl rfl) <| rS (BI rfl b_lss) <| RK hK19 ?_
 refine w_if rfl (fun h47 => ?_) (fun h47 => ?_)
 rotate_left 1
 · replace h47 := DF h47
   refine WK hK18 <| w_seq fun _ hK25 => w_draw4 mixed [0, 1, 2, 3, 4, 5, 9] [6, 7, 8] [false, false, false, false, false, false, false] [false, false, false] [(blk b17 28 (SpanV.cells (fallF ts (min p.Stretch q.Stretch).toNat ((max p.Stretch q.Stretch) - (min p.Stretch q.Stretch)).toNat))), (blk b16 28 (SpanV.cells (longF ts (min p.Stretch q.Stretch).toNat ((max p.Stretch q.Stretch) - (min p.Stretch q.Stretch)).toNat))), (blk b13 30 ((SpotV.cells p) ++ (SpotV.cells q))), (blk b7 116 (SurveyV.cells (SurveyV.mk (TrackV.mk (Slc.mk tsA ts.length tsC))))), (blk b4 30 (SpotV.cells q)), (blk b3 30 (SpotV.cells p)), (blk b2 24 (TrackV.cells (TrackV.mk (Slc.mk tsA ts.length tsC)))), (rd tsA ts.length 9 (ts.map StretchV.cells)).ro] [] (by kernel_rfl) (fun w hs => St.sel [0, 1, 2, 3, 5, 6, 7, 8] rfl rfl hs) (fun w hs => St.sel [] rfl rfl hs) <| eS rfl (LW 1 rfl tk28 rfl rfl) <| eS rfl (FA 1 rfl fo30_1 rfl) <| eS rfl (LP (SpanV.cells q.Off) 4 rfl tk28 rfl rfl rfl) <| eS rfl (FA 1 rfl fo30_1 rfl) <| eS rfl (LP (SpanV.cells p.Off) 5 rfl tk28 rfl rfl rfl) <| eS rfl (CL (less_c p.Off (by first | assumption | omega | (simp; done) | (simp; omega))) (ha_nil) rfl) <| eS rfl (AG rfl) ?_
   refine d_fin rfl <| t_cons rfl fun T26 hT26 => r_bs (xs := [.tmp 52, .tmp 55]) (cs := ((SpanV.cells q.Off) ++ (SpanV.cells (lessZ p.Off)))) rfl te146 tz28 rfl rfl rfl rfl (by simp [Value.cells, SpanV.cells_length]) rfl rfl fun b27 => RN hT26 [1, 2, 3, 4, 6, 7, 8, 9] rfl rfl <| t_cons rfl fun T28 hT28 => rS (CL (FnV.eq (plus_c (longF ts (min p.Stretch q.Stretch).toNat ((max p.Stretch q.Stretch) - (min p.Stretch q.Stretch)).toNat) ([q.Off, (lessZ p.Off)]) (some ⟨b27, 0, none⟩) 2 (by first | exact hwy | exact less_in hwy) (by intro z hz; simp only [List.mem_cons, List.not_mem_nil, or_false] at hz; rcases hz with rfl | rfl; exact hqo; exact hlo) (by simp)) plus_two) (ha_cons (has_rd_blk 0 rfl rfl (by simp [SpanV.cells_length]) rfl) <| ha_nil) rfl) <| RN hT28 [1, 2, 3, 4, 6, 7, 8, 9] rfl rfl <| t_cons rfl fun T29 hT29 => SW5 rfl ts28 rfl <| RN hT29 [1, 2, 3, 4, 6, 7, 8, 9] rfl rfl ?_
   refine t_fin rfl <| KK hK25 <| w_ret ?_
   refine hQ _ _ _ (l_nil (vs := [(Value.agg (SpanV.cells (addZ (addZ (longF ts (min p.Stretch q.Stretch).toNat ((max p.Stretch q.Stretch) - (min p.Stretch q.Stretch)).toNat) q.Off) (lessZ p.Off))).toArray), (Value.int .i64 0)]) ⟨⟨_, rfl, .inl ⟨_, _, tk28, at_blk (vs := (SpanV.cells (addZ (addZ (longF ts (min p.Stretch q.Stretch).toNat ((max p.Stretch q.Stretch) - (min p.Stretch q.Stretch)).toNat) q.Off) (lessZ p.Off)))) 5 rfl rfl, rfl, rfl⟩⟩, rfl, trivial⟩ fun w hs => endV ?_ hs)
   show (Value.tuple [(Value.agg (SpanV.cells (addZ (addZ (longF ts (min p.Stretch q.Stretch).toNat ((max p.Stretch q.Stretch) - (min p.Stretch q.Stretch)).toNat) q.Off) (lessZ p.Off))).toArray), (Value.int .i64 0)].toArray) = (Value.tuple [(Value.agg (SpanV.cells (apartV ts p q)).toArray), (Value.int .i64 (apartE ts p q))].toArray)
   clear hs w hQ hN hT29 T29 hT28 T28 hT26 T26 hK25 hK19 hK18 hK15 hK12 hK11 hK9 hK8 hK6 hK1
   first | (have e := apart_bad (a := p) (b := q) (tr_no he).1; rw [e.1, e.2, (tr_no he).2] <;> rfl) | (have e := apart_out htr h26; rw [e.1, e.2] <;> rfl) | (have e := apart_in htr ⟨hp, hq⟩; rw [e.1, e.2]; unfold apartF wayB; rw [if_pos h47] <;> rfl) | (have e := apart_in htr ⟨hp, hq⟩; rw [e.1, e.2]; unfold apartF wayB; rw [if_neg h47] <;> rfl)
 replace h47 := DT h47
 refine w_region <| rS (LW 1 rfl tk28 rfl rfl) <| rS (CL (less_c (longF ts (min p.Stretch q.Stretch).toNat ((max p.Stretch q.Stretch) - (min p.Stretch q.Stretch)).toNat) (by first | assumption | omega | (simp; done) | (simp; omega))) (ha_nil) rfl) <| SW1 rfl ts28 rfl <| RK hK18 <| w_seq fun _ hK20 => w_draw4 mixed [0, 1, 2, 3, 4, 5, 9] [6, 7, 8] [false, false, false, false, false, false, false] [false, false, false] [(blk b17 28 (SpanV.cells (fallF ts (min p.Stretch q.Stretch).toNat ((max p.Stretch q.Stretch) - (min p.Stretch q.Stretch)).toNat))), (blk b16 28 (SpanV.cells (lessZ (longF ts (min p.Stretch q.Stretch).toNat ((max p.Stretch q.Stretch) - (min p.Stretch q.Stretch)).toNat)))), (blk b13 30 ((SpotV.cells p) ++ (SpotV.cells q))), (blk b7 116 (SurveyV.cells (SurveyV.mk (TrackV.mk (Slc.mk tsA ts.length tsC))))), (blk b4 30 (SpotV.cells q)), (blk b3 30 (SpotV.cells p)), (blk b2 24 (TrackV.cells (TrackV.mk (Slc.mk tsA ts.length tsC)))), (rd tsA ts.length 9 (ts.map StretchV.cells)).ro] [] (by kernel_rfl) (fun w hs => St.sel [0, 1, 2, 3, 5, 6, 7, 8] rfl rfl hs) (fun w hs => St.sel [] rfl rfl hs) <| eS rfl (LW 1 rfl tk28 rfl rfl) <| eS rfl (FA 1 rfl fo30_1 rfl) <| eS rfl (LP (SpanV.cells q.Off) 4 rfl tk28 rfl rfl rfl) ?_
 refine eS rfl (FA 1 rfl fo30_1 rfl) <| eS rfl (LP (SpanV.cells p.Off) 5 rfl tk28 rfl rfl rfl) <| eS rfl (CL (less_c p.Off (by first | assumption | omega | (simp; done) | (simp; omega))) (ha_nil) rfl) <| eS rfl (AG rfl) <| d_fin rfl <| t_cons rfl fun T21 hT21 => r_bs (xs := [.tmp 52, .tmp 55]) (cs := ((SpanV.cells q.Off) ++ (SpanV.cells (lessZ p.Off)))) rfl te146 tz28 rfl rfl rfl rfl (by simp [Value.cells, SpanV.cells_length]) rfl rfl fun b22 => RN hT21 [1, 2, 3, 4, 6, 7, 8, 9] rfl rfl <| t_cons rfl fun T23 hT23 => rS (CL (FnV.eq (plus_c (lessZ (longF ts (min p.Stretch q.Stretch).toNat ((max p.Stretch q.Stretch) - (min p.Stretch q.Stretch)).toNat)) ([q.Off, (lessZ p.Off)]) (some ⟨b22, 0, none⟩) 2 (by first | exact hwy | exact less_in hwy) (by intro z hz; simp only [List.mem_cons, List.not_mem_nil, or_false] at hz; rcases hz with rfl | rfl; exact hqo; exact hlo) (by simp)) plus_two) (ha_cons (has_rd_blk 0 rfl rfl (by simp [SpanV.cells_length]) rfl) <| ha_nil) rfl) ?_
 refine RN hT23 [1, 2, 3, 4, 6, 7, 8, 9] rfl rfl <| t_cons rfl fun T24 hT24 => SW5 rfl ts28 rfl <| RN hT24 [1, 2, 3, 4, 6, 7, 8, 9] rfl rfl <| t_fin rfl <| KK hK20 <| w_ret ?_
 refine hQ _ _ _ (l_nil (vs := [(Value.agg (SpanV.cells (addZ (addZ (lessZ (longF ts (min p.Stretch q.Stretch).toNat ((max p.Stretch q.Stretch) - (min p.Stretch q.Stretch)).toNat)) q.Off) (lessZ p.Off))).toArray), (Value.int .i64 0)]) ⟨⟨_, rfl, .inl ⟨_, _, tk28, at_blk (vs := (SpanV.cells (addZ (addZ (lessZ (longF ts (min p.Stretch q.Stretch).toNat ((max p.Stretch q.Stretch) - (min p.Stretch q.Stretch)).toNat)) q.Off) (lessZ p.Off)))) 5 rfl rfl, rfl, rfl⟩⟩, rfl, trivial⟩ fun w hs => endV ?_ hs)
 show (Value.tuple [(Value.agg (SpanV.cells (addZ (addZ (lessZ (longF ts (min p.Stretch q.Stretch).toNat ((max p.Stretch q.Stretch) - (min p.Stretch q.Stretch)).toNat)) q.Off) (lessZ p.Off))).toArray), (Value.int .i64 0)].toArray) = (Value.tuple [(Value.agg (SpanV.cells (apartV ts p q)).toArray), (Value.int .i64 (apartE ts p q))].toArray)
 clear hs w hQ hN hT24 T24 hT23 T23 hT21 T21 hK20 hK19 hK18 hK15 hK12 hK11 hK9 hK8 hK6 hK1
 first | (have e := apart_bad (a := p) (b := q) (tr_no he).1; rw [e.1, e.2, (tr_no he).2] <;> rfl) | (have e := apart_out htr h26; rw [e.1, e.2] <;> rfl) | (have e := apart_in htr ⟨hp, hq⟩; rw [e.1, e.2]; unfold apartF wayB; rw [if_pos h47] <;> rfl) | (have e := apart_in htr ⟨hp, hq⟩; rw [e.1, e.2]; unfold apartF wayB; rw [if_neg h47] <;> rfl)
set_option maxRecDepth 100000 in
set_option maxHeartbeats 400000 in
theorem rspot_c (ts : List StretchV) (tsA : Option Addr) (tsC : Nat) (s : SpotV) (hst : ∀ x ∈ ts, StretchOk x) (hlen : ts.length ≤ 12) :
    FnV Tryz.prog 56 [(Value.agg (TrackV.cells (TrackV.mk (Slc.mk tsA ts.length tsC))).toArray), (Value.agg (SpotV.cells s).toArray)] [(rd tsA ts.length 9 (ts.map StretchV.cells))] (Value.bool (decide (SpotOk ts s))) := by
 refine fnV_of go56 Tryz.func56 rfl rfl fun w0 Q hQ hN => ?_
 try dsimp only
 refine WS fun _ hK1 => BXA rfl fun b2 => BXA rfl fun b3 => rS (AG rfl) <| RK hK1 <| w_seq fun _ hK4 => w_draw mixed 22 (by kernel_rfl) <| dS (FA 0 rfl fo30_0 rfl) <| dS (L1 (Value.int .i64 s.Stretch) 0 rfl tk3 rfl rfl) <| dS (FA 0 rfl fo24_0 rfl) ?_
 refine dS (L1 (Value.slice tsA ts.length tsC) 1 rfl tk22 rfl rfl) <| dS (LN rfl ut22) <| dS (BI rfl (b_sub ⟨by omega, by omega⟩)) <| dS (CL (within_1 s.Stretch 0 (((ts.length : Nat) : Int) - 1)) (ha_nil) rfl) <| dS (MV rfl) ?_
 refine d_bool (t := 12) rfl (fun h12 => ?_) (fun h12 => ?_)
 rotate_left 1
 · replace h12 := DF h12
   refine dS (OX rfl) <| dS (OX rfl) <| dS (OX rfl) <| dS (OX rfl) <| dS (OX rfl) <| dS (OX rfl) <| dS (OX rfl) <| dS (OX rfl) <| dS (OX rfl) <| dS (OX rfl) ?_
   refine dS (OX rfl) <| dS (OX rfl) <| dS (PK rfl) <| dS (AG rfl) <| d_end <| RK hK4 <| w_ret <| Q1 hQ rfl rfl rfl ?_
   first | (refine congrArg Value.bool ?_; rw [decide_eq_false (spot_out (by omega))]) | exact congrArg Value.bool (decide_eq_decide.2 (spot_yes (by omega) hx).symm)
 replace h12 := DT h12
 refine dS (FA 1 rfl fo30_1 rfl) <| dS (LP (SpanV.cells s.Off) 0 rfl tk28 rfl rfl rfl) <| dS (FA 0 rfl fo24_0 rfl) <| dS (L1 (Value.slice tsA ts.length tsC) 1 rfl tk22 rfl rfl) <| dS (FA 0 rfl fo30_0 rfl) <| dS (L1 (Value.int .i64 s.Stretch) 0 rfl tk3 rfl rfl) ?_
 obtain ⟨x, hx⟩ : ∃ y_, ts[(s.Stretch).toNat]? = some y_ := ⟨ts[(s.Stretch).toNat]'(by omega), List.getElem?_eq_getElem _⟩
 have hxm : (ts.map StretchV.cells)[(s.Stretch).toNat]? = some (StretchV.cells x) := by rw [List.getElem?_map, hx]; rfl
 refine dS (IA ((s.Stretch).toNat) rfl (has_at 2 rfl) te22 (by decide) (by omega) (by omega)) <| dS (FAR ((((s.Stretch).toNat) * 9) + 1) rfl (has_at 2 rfl) (Nat.mul_pos (by omega) (by decide)) fo83_1 rfl) ?_
 have hxo := (hst x (List.mem_of_getElem? hx)).2.1
 simp only [SpanOk] at hxo
 refine dS (FAR ((((s.Stretch).toNat) * 9) + 1) rfl (has_at 2 rfl) (Nat.mul_pos (by omega) (by decide)) fo28_0 rfl) <| dS (LE1 ((s.Stretch).toNat) 1 (Value.int .i64 x.Long.Lo) rfl tk3 (has_at 2 rfl) hxm rfl (by decide) rfl) <| dS (BI rfl (b_sub ⟨by omega, by omega⟩)) <| dS (CL (span_1 s.Off 0 (x.Long.Lo - 1)) (ha_nil) rfl) <| dS (PK rfl) <| dS (AG rfl) <| d_end <| RK hK4 <| w_ret <| Q1 hQ rfl rfl rfl ?_
 first | (refine congrArg Value.bool ?_; rw [decide_eq_false (spot_out (by omega))]) | exact congrArg Value.bool (decide_eq_decide.2 (spot_yes (by omega) hx).symm)
set_option maxRecDepth 100000 in
set_option maxHeartbeats 400000 in
theorem rdrop_c (ts : List StretchV) (tsA : Option Addr) (tsC : Nat) (f : Int) (t : Int) (hst : ∀ x ∈ ts, StretchOk x) (hlen : ts.length ≤ 12) (hf : 0 ≤ f ∧ f ≤ t ∧ t ≤ ts.length) :
    FnV Tryz.prog 97 [(Value.agg (TrackV.cells (TrackV.mk (Slc.mk tsA ts.length tsC))).toArray), (Value.int .i64 f), (Value.int .i64 t)] [(rd tsA ts.length 9 (ts.map StretchV.cells))] (Value.tuple [(Value.agg (SpanV.cells (longF ts f.toNat (t - f).toNat)).toArray), (Value.agg (SpanV.cells (fallF ts f.toNat (t - f).toNat)).toArray)].toArray) := by
 refine fnV_of go97 Tryz.func97 rfl rfl fun w0 Q hQ hN => ?_
 try dsimp only
 refine WS fun _ hK1 => BXA rfl fun b2 => AL rfl tz28 fun b3 => AL rfl tz28 fun b4 => RK hK1 <| WS fun _ hK5 => AL rfl tz28 fun b6 => AL rfl tz28 fun b7 => RK hK5 <| w_seq fun _ hK8 => ?_
 refine WS fun _ hK9 => rS (MV rfl) <| rS (AG rfl) <| RK hK9 <| w_block ?_
 have hinit : (0 ≤ (t - f).toNat) := by exact Nat.zero_le _
 have hb10 : (Value.int .i64 (f + ((0 : Nat) : Int))) = (Value.int .i64 f) := by exact congrArg (Value.int .i64) (by omega)
 refine w_loop (ι := { z : Nat // (z ≤ (t - f).toNat) }) (fun z => [(1, (Value.int .i64 f)), (2, (Value.int .i64 t)), (3, (Value.pointer (some ⟨b2, 0, none⟩))), (6, (Value.pointer (some ⟨b3, 0, none⟩))), (7, (Value.pointer (some ⟨b4, 0, none⟩))), (8, (Value.pointer (some ⟨b6, 0, none⟩))), (9, (Value.pointer (some ⟨b7, 0, none⟩))), (10, (Value.int .i64 (f + ((z.1 : Nat) : Int))))]) (fun z => [(blk b7 28 (SpanV.cells (fallF ts f.toNat z.1))), (blk b6 28 (SpanV.cells (longF ts f.toNat z.1))), (blk b4 28 (SpanV.cells (SpanV.mk 0 0))), (blk b3 28 (SpanV.cells (SpanV.mk 0 0))), (blk b2 24 (TrackV.cells (TrackV.mk (Slc.mk tsA ts.length tsC)))), (rd tsA ts.length 9 (ts.map StretchV.cells)).ro]) (fun z => (t - f).toNat - z.1) ⟨0, hinit⟩ (Sub.cons rfl <| Sub.cons rfl <| Sub.cons rfl <| Sub.cons rfl <| Sub.cons rfl <| Sub.cons rfl <| Sub.cons rfl <| sub_val rfl hb10 <| Sub.nil _) (fun w hs => St.sel [0, 1, 2, 3, 4, 5] rfl rfl hs) ?_
 clear hinit
 rintro ⟨k, hl3_0⟩ J11 hJ11
 try dsimp only
 refine w_seq fun _ hK12 => WS fun _ hK13 => rS (MV rfl) <| rS (MV rfl) <| rS (BI rfl b_lss) <| RK hK13 ?_
 refine w_if rfl (fun h14 => ?_) (fun h14 => ?_)
 rotate_left 1
 · replace h14 := DF h14
   refine w_exit <| k_exit_then <| k_exit_then <| k_exit_same <| KK hK8 <| w_seq fun _ hK22 => w_draw4 mixed [0, 1] [2, 3] [false, false] [false, false] [(blk b7 28 (SpanV.cells (fallF ts f.toNat k))), (blk b6 28 (SpanV.cells (longF ts f.toNat k))), (blk b2 24 (TrackV.cells (TrackV.mk (Slc.mk tsA ts.length tsC)))), (rd tsA ts.length 9 (ts.map StretchV.cells)).ro] [] (by kernel_rfl) (fun w hs => St.sel [0, 1, 4, 5] rfl rfl hs) (fun w hs => St.sel [] rfl rfl hs) <| eS rfl (LW 1 rfl tk28 rfl rfl) <| eS rfl (LW 0 rfl tk28 rfl rfl) <| d_fin rfl ?_
   refine t_cons rfl fun T23 hT23 => SW3 rfl ts28 rfl <| RN hT23 [0, 1, 4, 5] rfl rfl <| t_cons rfl fun T24 hT24 => SW2 rfl ts28 rfl <| RN hT24 [0, 1, 4, 5] rfl rfl <| t_fin rfl <| KK hK22 <| w_ret ?_
   refine hQ _ _ _ (l_nil (vs := [(Value.agg (SpanV.cells (longF ts f.toNat k)).toArray), (Value.agg (SpanV.cells (fallF ts f.toNat k)).toArray)]) ⟨⟨_, rfl, .inl ⟨_, _, tk28, at_blk (vs := (SpanV.cells (longF ts f.toNat k))) 3 rfl rfl, rfl, rfl⟩⟩, ⟨_, rfl, .inl ⟨_, _, tk28, at_blk (vs := (SpanV.cells (fallF ts f.toNat k))) 2 rfl rfl, rfl, rfl⟩⟩, trivial⟩ fun w hs => endV ?_ hs)
   show (Value.tuple [(Value.agg (SpanV.cells (longF ts f.toNat k)).toArray), (Value.agg (SpanV.cells (fallF ts f.toNat k)).toArray)].toArray) = (Value.tuple [(Value.agg (SpanV.cells (longF ts f.toNat (t - f).toNat)).toArray), (Value.agg (SpanV.cells (fallF ts f.toNat (t - f).toNat)).toArray)].toArray)
   clear hs w hQ hN hT24 T24 hT23 T23 hK22 hK13 hK12 hK9 hK8 hK5 hK1
   obtain rfl : k = (t - f).toNat := (by omega); rfl
 replace h14 := DT h14
 refine WK hK12 <| w_seq fun _ hK15 => w_block <| WS fun _ hK16 => rS (FA 0 rfl fo24_0 rfl) <| rS (L1 (Value.slice tsA ts.length tsC) 4 rfl tk22 rfl rfl) <| rS (MV rfl) ?_
 obtain ⟨x, hx⟩ : ∃ y_, ts[(f.toNat + k)]? = some y_ := ⟨ts[(f.toNat + k)]'(by omega), List.getElem?_eq_getElem _⟩
 have hxm : (ts.map StretchV.cells)[(f.toNat + k)]? = some (StretchV.cells x) := by rw [List.getElem?_map, hx]; rfl
 refine rS (IA (f.toNat + k) rfl (has_at 5 rfl) te22 (by decide) (by omega) (by omega)) <| rS (LEN (f.toNat + k) 0 (StretchV.cells x) rfl tk83 (has_at 5 rfl) hxm rfl (by decide) rfl rfl) <| AL rfl tz83 fun b17 => SW0 rfl ts83 rfl <| RK hK16 <| WS fun _ hK18 => ?_
 have hxo := hst x (List.mem_of_getElem? hx)
 have hlb := longF_b hst f.toNat k
 have hfb := fallF_b hst f.toNat k
 have hx1 := hxo.2.1
 have hx2 := hxo.2.2.1
 simp only [SpanOk] at hx1 hx2
 refine rS (FA 0 rfl fo28_0 rfl) <| rS (L1 (Value.int .i64 ((longF ts f.toNat k).Lo)) 2 rfl tk3 rfl rfl) <| rS (FA 1 rfl fo83_1 rfl) <| rS (FA 1 rfl fo28_0 rfl) <| rS (L1 (Value.int .i64 x.Long.Lo) 0 rfl tk3 rfl rfl) <| rS (BI rfl (b_add ⟨by omega, by omega⟩)) <| rS (FA 1 rfl fo28_1 rfl) <| rS (L1 (Value.int .i64 ((longF ts f.toNat k).Hi)) 2 rfl tk3 rfl rfl) <| rS (FA 1 rfl fo83_1 rfl) <| rS (FA 2 rfl fo28_1 rfl) ?_
 refine rS (L1 (Value.int .i64 x.Long.Hi) 0 rfl tk3 rfl rfl) <| rS (BI rfl (b_add ⟨by omega, by omega⟩)) <| rS (SX (sd_build (xs := [(0, .tmp 28), (1, .tmp 34)]) (cs := (SpanV.cells (SpanV.mk (((longF ts f.toNat k).Lo) + x.Long.Lo) (((longF ts f.toNat k).Hi) + x.Long.Hi)))) rfl rfl (built_of tb28 rfl)) rfl rfl) <| SW2 rfl ts28 rfl <| RK hK18 <| w_region <| rS (FA 0 rfl fo28_0 rfl) <| rS (L1 (Value.int .i64 ((fallF ts f.toNat k).Lo)) 1 rfl tk3 rfl rfl) <| rS (FA 3 rfl fo83_2 rfl) <| rS (FA 3 rfl fo28_0 rfl) ?_
 refine rS (L1 (Value.int .i64 x.Fall.Lo) 0 rfl tk3 rfl rfl) <| rS (BI rfl (b_add ⟨by omega, by omega⟩)) <| rS (FA 1 rfl fo28_1 rfl) <| rS (L1 (Value.int .i64 ((fallF ts f.toNat k).Hi)) 1 rfl tk3 rfl rfl) <| rS (FA 3 rfl fo83_2 rfl) <| rS (FA 4 rfl fo28_1 rfl) <| rS (L1 (Value.int .i64 x.Fall.Hi) 0 rfl tk3 rfl rfl) <| rS (BI rfl (b_add ⟨by omega, by omega⟩)) <| rS (SX (sd_build (xs := [(0, .tmp 41), (1, .tmp 47)]) (cs := (SpanV.cells (SpanV.mk (((fallF ts f.toNat k).Lo) + x.Fall.Lo) (((fallF ts f.toNat k).Hi) + x.Fall.Hi)))) rfl rfl (built_of tb28 rfl)) rfl rfl) <| SW1 rfl ts28 rfl ?_
 refine r_nil <| k_block <| KK hK15 ?_
 have hb19 : (SpanV.cells (SpanV.mk (((longF ts f.toNat k).Lo) + x.Long.Lo) (((longF ts f.toNat k).Hi) + x.Long.Hi))) = (SpanV.cells (longF ts f.toNat (k + 1))) := by rw [longF_succ hx]; rfl
 rw [hb19]
 have hb20 : (SpanV.cells (SpanV.mk (((fallF ts f.toNat k).Lo) + x.Fall.Lo) (((fallF ts f.toNat k).Hi) + x.Fall.Hi))) = (SpanV.cells (fallF ts f.toNat (k + 1))) := by rw [fallF_succ hx]; rfl
 rw [hb20]
 refine w_region <| rS (MV rfl) <| rS (BI rfl (b_add ⟨by omega, by omega⟩)) <| rS (AG rfl) <| r_nil ?_
 have hb21 : (Value.int .i64 (f + (((k + 1) : Nat) : Int))) = (Value.int .i64 ((f + ((k : Nat) : Int)) + 1)) := by exact congrArg (Value.int .i64) (by omega)
 refine k_then (hJ11 ⟨(k + 1), (by first | omega | (simp only []; omega))⟩ _ _ _ rfl (by first | omega | (simp; omega)) (Sub.cons rfl <| Sub.cons rfl <| Sub.cons rfl <| Sub.cons rfl <| Sub.cons rfl <| Sub.cons rfl <| Sub.cons rfl <| sub_val rfl hb21 <| Sub.nil _) (fun w hs => St.sel [1, 2, 3, 4, 5, 6] rfl rfl hs))
end
section
open Go.RowKit
set_option linter.unusedVariables false
set_option maxRecDepth 100000 in
set_option maxHeartbeats 400000 in
theorem in1_post (n : Int) (lo : Int) (hi : Int) (g1 : Nat) (g2 : Nat) :
    FnV Tryz.prog 48 [(Value.int .i64 n), (Value.pointer (some ⟨g1, 0, none⟩)), (Value.pointer (some ⟨g2, 0, none⟩))] [(blk g1 3 [(Value.int .i64 lo)]), (blk g2 3 [(Value.int .i64 hi)])] (Value.bool (decide (n < lo ∨ hi < n))) := by
 refine fnV_of go48 Tryz.func48 rfl rfl fun w0 Q hQ hN => ?_
 try dsimp only
 refine WS fun _ hK1 => rS (AG rfl) <| RK hK1 <| WS fun _ hK2 => rS (MV rfl) <| rS (L1Q 0 rfl tk3 rfl) <| rS (BI rfl b_lss) <| rS (MV rfl) ?_
 refine r_bool (t := 8) rfl (fun h3 => ?_) (fun h3 => ?_)
 · replace h3 := DT h3
   refine rS (OX rfl) <| rS (OX rfl) <| rS (OX rfl) <| rS (PK rfl) <| rS (AG rfl) <| RK hK2 <| w_ret <| Q1 hQ rfl rfl rfl ?_
   exact congrArg Value.bool (decide_eq_true (by omega)).symm
 replace h3 := DF h3
 refine rS (MV rfl) <| rS (L1Q 1 rfl tk3 rfl) <| rS (BI rfl b_gtr) <| rS (PK rfl) <| rS (AG rfl) <| RK hK2 <| w_ret <| Q1 hQ rfl rfl rfl ?_
 exact congrArg Value.bool (decide_eq_decide.2 (by omega))
set_option maxRecDepth 100000 in
set_option maxHeartbeats 400000 in
theorem in_post (lo : Int) (hi : Int) (l : List Int) (lA : Option Addr) (lC : Nat) (hlen : l.length ≤ 1000000) :
    FnV Tryz.prog 35 [(Value.int .i64 lo), (Value.int .i64 hi), (Value.slice lA l.length lC)] [(rd lA l.length 1 (l.map iC))] (Value.bool (inAll lo hi l)) := by
 refine fnV_of go35 Tryz.func35 rfl rfl fun w0 Q hQ hN => ?_
 try dsimp only
 refine WS fun _ hK1 => BX1 rfl rfl fun b2 => BX1 rfl rfl fun b3 => rS (AG rfl) <| RK hK1 <| WS fun _ hK4 => rS (MV rfl) <| rS (FU rfl) <| rS (CL (contains_c l lA lC (Value.func (.func 48) [].toArray [(Value.pointer (some ⟨b2, 0, none⟩)), (Value.pointer (some ⟨b3, 0, none⟩))].toArray) (fun u5 => (decide (u5 < lo ∨ hi < u5))) (bun [(blk b2 3 [(Value.int .i64 lo)]), (blk b3 3 [(Value.int .i64 hi)])]) (by intro u5 _; exact clo_of (fi := []) (ca := [(Value.pointer (some ⟨b2, 0, none⟩)), (Value.pointer (some ⟨b3, 0, none⟩))]) (fnV_bun (in1_post u5 lo hi b2 b3 ) (ha_at 0 rfl rfl <| ha_at 1 rfl rfl <| ha_nil))) hlen) (ha_at 2 rfl rfl <| ha_cons (has_bun (ha_at 1 rfl rfl <| ha_at 0 rfl rfl <| ha_nil)) <| ha_nil) rfl) <| rS (NT rfl) ?_
 refine rS (AG rfl) <| RK hK4 <| w_ret ?_
 exact Q1 hQ rfl rfl rfl rfl
set_option maxRecDepth 100000 in
set_option maxHeartbeats 400000 in
theorem pstands_c (s : SpotV) (d : GuardM) (kA : Option Addr) (kC : Nat) (pA : Option Addr) (pC : Nat) (nA : Option Addr) (nC : Nat) (g1 : Nat) (hin : GuardIn d) (htr : trackOk d.Track = true) :
    FnV Tryz.prog 60 [(Value.agg (SpotV.cells s).toArray), (Value.pointer (some ⟨g1, 0, none⟩))] [(rd kA d.Track.length 9 (d.Track.map StretchV.cells)), (rd pA d.Posts.length 7 (d.Posts.map PostV.cells)), (rd nA d.Needs.length 3 (d.Needs.map NeedV.cells)), (blk g1 32 (GuardV.cells (GuardV.mk (TrackV.mk (Slc.mk kA d.Track.length kC)) (Slc.mk pA d.Posts.length pC) (Slc.mk nA d.Needs.length nC) d.Tower d.Radio)))] (Value.bool (decide (SpotOk d.Track s))) := by
 have hlen := hin.trk
 have hside := hin.side
 have hpl := hin.pst
 have hnl := hin.nds
 have hnk := hin.nk
 have hpk := hin.pk
 refine fnV_of go60 Tryz.func60 rfl rfl fun w0 Q hQ hN => ?_
 try dsimp only
 refine WS fun _ hK1 => BXA rfl fun b2 => rS (AG rfl) <| RK hK1 <| WS fun _ hK3 => rS (FA 0 rfl fo32_0 rfl) <| rS (LPR (TrackV.cells (TrackV.mk (Slc.mk kA d.Track.length kC))) 4 rfl tk24 rfl rfl rfl) <| rS (LW 0 rfl tk30 rfl rfl) <| rS (CL (At_c d.Track kA kC s (by first | assumption | omega | (simp; done) | (simp; omega)) (by first | assumption | omega | (simp; done) | (simp; omega))) (ha_at 1 rfl rfl <| ha_nil) rfl) <| rS (MV rfl) ?_
 refine rS (EX rfl) <| rS (EX rfl) <| AL rfl tz28 fun b4 => SW0 rfl ts28 rfl <| rS (AG rfl) <| RK hK3 <| WS fun _ hK5 => rS (MV rfl) <| rS (BI rfl b_eql) <| rS (AG rfl) ?_
 refine RK hK5 <| w_ret <| Q1 hQ rfl rfl rfl ?_
 exact congrArg Value.bool (decide_eq_decide.2 (at_zero htr))
set_option maxRecDepth 100000 in
set_option maxHeartbeats 400000 in
theorem pneed_c (n : NeedV) (d : GuardM) (kA : Option Addr) (kC : Nat) (pA : Option Addr) (pC : Nat) (nA : Option Addr) (nC : Nat) (g1 : Nat) (hin : GuardIn d) (hk : 0 ≤ n.Kind ∧ n.Kind ≤ 255) :
    FnV Tryz.prog 63 [(Value.agg (NeedV.cells n).toArray), (Value.pointer (some ⟨g1, 0, none⟩))] [(rd kA d.Track.length 9 (d.Track.map StretchV.cells)), (rd pA d.Posts.length 7 (d.Posts.map PostV.cells)), (rd nA d.Needs.length 3 (d.Needs.map NeedV.cells)), (blk g1 32 (GuardV.cells (GuardV.mk (TrackV.mk (Slc.mk kA d.Track.length kC)) (Slc.mk pA d.Posts.length pC) (Slc.mk nA d.Needs.length nC) d.Tower d.Radio)))] (Value.bool (!(decide (NeedOk d.Track n)))) := by
 have hlen := hin.trk
 have hside := hin.side
 have hpl := hin.pst
 have hnl := hin.nds
 have hnk := hin.nk
 have hpk := hin.pk
 refine fnV_of go63 Tryz.func63 rfl rfl fun w0 Q hQ hN => ?_
 try dsimp only
 refine WS fun _ hK1 => BXA rfl fun b2 => rS (AG rfl) <| RK hK1 <| WS fun _ hK3 => rS (FA 0 rfl fo32_0 rfl) <| rS (FA 0 rfl fo24_0 rfl) <| rS (L1R (Value.slice kA d.Track.length kC) 4 rfl tk22 rfl rfl) <| rS (LN rfl ut22) <| rS (BI rfl (b_sub ⟨by omega, by omega⟩)) ?_
 refine rS (FA 0 rfl fo69_0 rfl) <| rS (L1 (Value.int .i64 n.Stretch) 0 rfl tk3 rfl rfl) <| r_bs (xs := [.tmp 10]) (cs := [(Value.int .i64 n.Stretch)]) rfl te33 tz3 rfl rfl rfl rfl (by simp [Value.cells]) rfl rfl fun b4 => rS (CL (FnV.eq (in_post 0 (((d.Track.length : Nat) : Int) - 1) ([n.Stretch]) (some ⟨b4, 0, none⟩) 1 (by first | assumption | omega | (simp; done) | (simp; omega))) inAll_one) (ha_cons (has_rd_blk 0 rfl rfl (by simp [iC_length]) rfl) <| ha_nil) rfl) <| rS (NT rfl) <| rS (MV rfl) ?_
 refine r_bool (t := 14) rfl (fun h14 => ?_) (fun h14 => ?_)
 · replace h14 := XT h14
   refine rS (OX rfl) <| rS (OX rfl) <| rS (OX rfl) <| rS (OX rfl) <| rS (OX rfl) <| rS (OX rfl) <| rS (PK rfl) <| rS (MV rfl) <| rS (OX rfl) <| rS (OX rfl) ?_
   refine rS (OX rfl) <| rS (OX rfl) <| rS (OX rfl) <| rS (PK rfl) <| rS (AG rfl) <| RK hK3 <| w_ret <| Q1 hQ rfl rfl rfl ?_
   first | (refine congrArg Value.bool ?_; rw [decide_eq_false (fun q : NeedOk d.Track n => by unfold NeedOk at q; omega)]; rfl) | (refine congrArg Value.bool ?_; refine congrArg Bool.not (decide_eq_decide.2 ?_); unfold NeedOk; omega)
 replace h14 := XF h14
 refine rS (FA 1 rfl fo69_1 rfl) <| rS (L1 (Value.int .u8 n.Kind) 1 rfl tk5 rfl rfl) <| rS (SX (sd_conv (m := n.Kind) rfl rfl ut5 ut3 (wrap_u8_i64 (by first | assumption | omega))) rfl rfl) <| r_bs (xs := [.tmp 17]) (cs := [(Value.int .i64 n.Kind)]) rfl te33 tz3 rfl rfl rfl rfl (by simp [Value.cells]) rfl rfl fun b5 => rS (CL (FnV.eq (in_post 1 3 ([n.Kind]) (some ⟨b5, 0, none⟩) 1 (by first | assumption | omega | (simp; done) | (simp; omega))) inAll_one) (ha_cons (has_rd_blk 0 rfl rfl (by simp [iC_length]) rfl) <| ha_nil) rfl) <| rS (NT rfl) <| rS (PK rfl) <| rS (MV rfl) ?_
 refine r_bool (t := 22) rfl (fun h22 => ?_) (fun h22 => ?_)
 · replace h22 := XT h22
   refine rS (OX rfl) <| rS (OX rfl) <| rS (OX rfl) <| rS (OX rfl) <| rS (OX rfl) <| rS (PK rfl) <| rS (AG rfl) <| RK hK3 <| w_ret <| Q1 hQ rfl rfl rfl ?_
   first | (refine congrArg Value.bool ?_; rw [decide_eq_false (fun q : NeedOk d.Track n => by unfold NeedOk at q; omega)]; rfl) | (refine congrArg Value.bool ?_; refine congrArg Bool.not (decide_eq_decide.2 ?_); unfold NeedOk; omega)
 replace h22 := XF h22
 refine rS (FA 2 rfl fo69_2 rfl) <| rS (L1 (Value.int .i64 n.Seconds) 2 rfl tk3 rfl rfl) <| r_bs (xs := [.tmp 24]) (cs := [(Value.int .i64 n.Seconds)]) rfl te33 tz3 rfl rfl rfl rfl (by simp [Value.cells]) rfl rfl fun b6 => rS (CL (FnV.eq (in_post 0 36000 ([n.Seconds]) (some ⟨b6, 0, none⟩) 1 (by first | assumption | omega | (simp; done) | (simp; omega))) inAll_one) (ha_cons (has_rd_blk 0 rfl rfl (by simp [iC_length]) rfl) <| ha_nil) rfl) <| rS (NT rfl) <| rS (PK rfl) <| rS (AG rfl) <| RK hK3 <| w_ret <| Q1 hQ rfl rfl rfl ?_
 first | (refine congrArg Value.bool ?_; rw [decide_eq_false (fun q : NeedOk d.Track n => by unfold NeedOk at q; omega)]; rfl) | (refine congrArg Value.bool ?_; refine congrArg Bool.not (decide_eq_decide.2 ?_); unfold NeedOk; omega)
set_option maxRecDepth 100000 in
set_option maxHeartbeats 400000 in
theorem indexnd_c (l : List NeedV) (lA : Option Addr) (lC : Nat) (f : Value) (p : NeedV → Bool) (X : Assn) (hf : ∀ x0, x0 ∈ l → Clo Tryz.prog f [.agg (NeedV.cells x0).toArray] [X] (.bool (p x0))) (hlen : l.length ≤ 1000000) :
    FnV Tryz.prog 80 [(Value.slice lA l.length lC), f] [(rd lA l.length 3 (l.map NeedV.cells)), X] (Value.int .i64 (findI p l)) := by
 refine fnV_of go80 Tryz.func80 rfl rfl fun w0 Q hQ hN => ?_
 try dsimp only
 refine WS fun _ hK1 => rS (AG rfl) <| RK hK1 <| w_seq fun _ hK2 => WS fun _ hK3 => rS (MV rfl) <| rS (LN rfl ut26) <| rS (MV rfl) <| RK hK3 <| w_block ?_
 have hinit : (0 ≤ l.length) ∧ ((l.take 0).any p = false) := by simp
 refine w_loop (ι := { z : Nat // (z ≤ l.length) ∧ ((l.take z).any p = false) }) (fun z => [(0, (Value.slice lA l.length lC)), (1, f), (7, (Value.int .i64 ((l.length : Nat) : Int))), (8, (Value.int .i64 ((z.1 : Nat) : Int)))]) (fun z => [(rd lA l.length 3 (l.map NeedV.cells)).ro, X.ro]) (fun z => l.length - z.1) ⟨0, hinit⟩ (Sub.cons rfl <| Sub.cons rfl <| Sub.cons rfl <| Sub.cons rfl <| Sub.nil _) (fun w hs => St.sel [0, 1] rfl rfl hs) ?_
 clear hinit
 rintro ⟨i, ⟨hl0_0, hl0_1⟩⟩ J4 hJ4
 try dsimp only
 refine WS fun _ hK5 => rS (BI rfl b_lss) <| RK hK5 <| w_seq fun _ hK6 => ?_
 refine w_if rfl (fun h7 => ?_) (fun h7 => ?_)
 rotate_left 1
 · replace h7 := DF h7
   refine w_exit <| k_exit_then <| k_exit_then <| k_exit_same <| KK hK2 <| WS fun _ hK13 => rS (AG rfl) <| RK hK13 <| w_ret <| Q1 hQ rfl rfl rfl ?_
   first | exact congrArg (Value.int .i64) (findI_at hx hp hl0_1).symm | exact congrArg (Value.int .i64) (findI_none (by omega) hl0_1).symm
 replace h7 := DT h7
 refine WK hK6 <| w_seq fun _ hK8 => w_block <| WS fun _ hK9 => rS (MV rfl) <| rS (AG rfl) <| RK hK9 <| WS fun _ hK10 => rS (MV rfl) <| rS (MV rfl) ?_
 refine rS (MV rfl) ?_
 obtain ⟨x, hx⟩ : ∃ y_, l[i]? = some y_ := ⟨l[i]'(by omega), List.getElem?_eq_getElem _⟩
 have hxm : (l.map NeedV.cells)[i]? = some (NeedV.cells x) := by rw [List.getElem?_map, hx]; rfl
 refine rS (IA i rfl (has_at 0 rfl) te26 (by decide) (by omega) (by omega)) <| rS (LEN i 0 (NeedV.cells x) rfl tk69 (has_at 0 rfl) hxm rfl (by decide) rfl rfl) <| rS (SX (sd_clo rfl rfl rfl (hf x (List.mem_of_getElem? hx)) (ha_at 1 rfl rfl <| ha_nil)) rfl rfl) <| RK hK10 ?_
 refine w_if rfl (fun hp => ?_) (fun hp => ?_)
 · refine WS fun _ hK11 => ?_
   refine rS (MV rfl) <| rS (AG rfl) <| RK hK11 <| w_ret <| Q1 hQ rfl rfl rfl ?_
   first | exact congrArg (Value.int .i64) (findI_at hx hp hl0_1).symm | exact congrArg (Value.int .i64) (findI_none (by omega) hl0_1).symm
 refine w_skip <| k_block <| KK hK8 <| w_region <| rS (BI rfl (b_add ⟨by omega, by omega⟩)) <| rS (MV rfl) <| r_nil ?_
 have hb12 : (Value.int .i64 (((i + 1) : Nat) : Int)) = (Value.int .i64 (((i : Nat) : Int) + 1)) := by exact congrArg (Value.int .i64) (by omega)
 refine k_then (hJ4 ⟨(i + 1), ⟨by omega, any_step hx hl0_1 hp⟩⟩ _ _ _ rfl (by first | omega | (simp; omega)) (Sub.cons rfl <| Sub.cons rfl <| Sub.cons rfl <| sub_val rfl hb12 <| Sub.nil _) (fun w hs => St.sel [0, 1] rfl rfl hs))
set_option maxRecDepth 100000 in
set_option maxHeartbeats 400000 in
theorem containsnd_c (l : List NeedV) (lA : Option Addr) (lC : Nat) (f : Value) (p : NeedV → Bool) (X : Assn) (hf : ∀ x0, x0 ∈ l → Clo Tryz.prog f [.agg (NeedV.cells x0).toArray] [X] (.bool (p x0))) (hlen : l.length ≤ 1000000) :
    FnV Tryz.prog 62 [(Value.slice lA l.length lC), f] [(rd lA l.length 3 (l.map NeedV.cells)), X] (Value.bool (l.any p)) := by
 refine fnV_of go62 Tryz.func62 rfl rfl fun w0 Q hQ hN => ?_
 try dsimp only
 refine WS fun _ hK1 => rS (AG rfl) <| RK hK1 <| WS fun _ hK2 => rS (MV rfl) <| rS (MV rfl) <| rS (CL (indexnd_c l lA lC f p X (by exact hf) hlen) (ha_at 0 rfl rfl <| ha_at 1 rfl rfl <| ha_nil) rfl) <| rS (BI rfl b_geq) <| rS (AG rfl) <| RK hK2 ?_
 refine w_ret <| Q1 hQ rfl rfl rfl ?_
 exact congrArg Value.bool findI_any
end
section
open Go.RowKit
set_option linter.unusedVariables false
set_option maxRecDepth 100000 in
set_option maxHeartbeats 400000 in
theorem pcheck_c (d : GuardM) (kA : Option Addr) (kC : Nat) (pA : Option Addr) (pC : Nat) (nA : Option Addr) (nC : Nat) (hin : GuardIn d) :
    FnV Tryz.prog 44 [(Value.agg (GuardV.cells (GuardV.mk (TrackV.mk (Slc.mk kA d.Track.length kC)) (Slc.mk pA d.Posts.length pC) (Slc.mk nA d.Needs.length nC) d.Tower d.Radio)).toArray)] [(rd kA d.Track.length 9 (d.Track.map StretchV.cells)), (rd pA d.Posts.length 7 (d.Posts.map PostV.cells)), (rd nA d.Needs.length 3 (d.Needs.map NeedV.cells))] (Value.int .i64 (guardE d)) := by
 have hlen := hin.trk
 have hside := hin.side
 have hpl := hin.pst
 have hnl := hin.nds
 have hnk := hin.nk
 have hpk := hin.pk
 refine fnV_of go44 Tryz.func44 rfl rfl fun w0 Q hQ hN => ?_
 try dsimp only
 refine WS fun _ hK1 => BXA rfl fun b2 => rS (AG rfl) <| RK hK1 <| w_seq fun _ hK3 => WS fun _ hK4 => rS (FA 0 rfl fo32_0 rfl) <| rS (LP (TrackV.cells (TrackV.mk (Slc.mk kA d.Track.length kC))) 0 rfl tk24 rfl rfl rfl) <| rS (CL (tcheck_c d.Track kA kC (by first | assumption | omega | (simp; done) | (simp; omega)) (by first | assumption | omega | (simp; done) | (simp; omega))) (ha_at 1 rfl rfl <| ha_nil) rfl) <| rS (AG rfl) ?_
 refine RK hK4 <| WS fun _ hK5 => rS (MV rfl) <| rS (BI rfl b_neq) <| RK hK5 ?_
 refine w_if rfl (fun h12 => ?_) (fun h12 => ?_)
 · replace h12 := XT h12
   refine WS fun _ hK6 => rS (MV rfl) <| rS (AG rfl) <| RK hK6 <| w_ret <| Q1 hQ rfl rfl rfl ?_
   first | (refine congrArg (Value.int .i64) ?_; rw [(tr_no h12).2, guardE_bad (tr_no h12).1]) | exact congrArg (Value.int .i64) (guardE_no htr fun q => by have := q.len; omega).symm | exact congrArg (Value.int .i64) (guardE_no htr fun q => by exact absurd q.tower (by simpa using h32)).symm | exact congrArg (Value.int .i64) (guardE_no htr fun q => by exact h32 q.tower).symm | exact congrArg (Value.int .i64) (guardE_no htr fun q => by have := q.radio; omega).symm | exact congrArg (Value.int .i64) (guardE_no htr fun q => by have q1 := q.post i p hp; unfold PostOk at q1; first | omega | exact absurd q1.2.2.1 (by simpa using h68) | exact h68 q1.2.2.1).symm | exact congrArg (Value.int .i64) (guardE_no htr fun q => by rw [needs_any.2 q.need] at h88; cases h88).symm | exact congrArg (Value.int .i64) (guardE_ok htr (guard_yes (by omega) (by simpa using h32) (by omega) hl9_1 (by omega) (needs_any.1 (by simpa using h88)))).symm
 replace h12 := XF h12
 refine WK hK3 <| WS fun _ hK7 => ?_
 have htr := tr_yes h12
 refine rS (FU rfl) <| rS (AG rfl) <| RK hK7 <| w_seq fun _ hK8 => WS fun _ hK9 => rS (FA 1 rfl fo32_1 rfl) <| rS (L1 (Value.slice pA d.Posts.length pC) 0 rfl tk25 rfl rfl) <| rS (LN rfl ut25) <| rS (BI rfl b_gtr) <| rS (MV rfl) ?_
 refine r_bool (t := 19) rfl (fun h19 => ?_) (fun h19 => ?_)
 · replace h19 := DT h19
   refine rS (OX rfl) <| rS (OX rfl) <| rS (OX rfl) <| rS (OX rfl) <| rS (PK rfl) <| rS (MV rfl) <| rS (OX rfl) <| rS (OX rfl) <| rS (OX rfl) <| rS (OX rfl) ?_
   refine rS (OX rfl) <| rS (PK rfl) <| rS (MV rfl) <| rS (OX rfl) <| rS (OX rfl) <| rS (OX rfl) <| rS (OX rfl) <| rS (OX rfl) <| rS (PK rfl) <| RK hK9 ?_
   refine w_if_true rfl <| WS fun _ hK10 => rS (AG rfl) <| RK hK10 <| w_ret <| Q1 hQ rfl rfl rfl ?_
   first | (refine congrArg (Value.int .i64) ?_; rw [(tr_no h12).2, guardE_bad (tr_no h12).1]) | exact congrArg (Value.int .i64) (guardE_no htr fun q => by have := q.len; omega).symm | exact congrArg (Value.int .i64) (guardE_no htr fun q => by exact absurd q.tower (by simpa using h32)).symm | exact congrArg (Value.int .i64) (guardE_no htr fun q => by exact h32 q.tower).symm | exact congrArg (Value.int .i64) (guardE_no htr fun q => by have := q.radio; omega).symm | exact congrArg (Value.int .i64) (guardE_no htr fun q => by have q1 := q.post i p hp; unfold PostOk at q1; first | omega | exact absurd q1.2.2.1 (by simpa using h68) | exact h68 q1.2.2.1).symm | exact congrArg (Value.int .i64) (guardE_no htr fun q => by rw [needs_any.2 q.need] at h88; cases h88).symm | exact congrArg (Value.int .i64) (guardE_ok htr (guard_yes (by omega) (by simpa using h32) (by omega) hl9_1 (by omega) (needs_any.1 (by simpa using h88)))).symm
 replace h19 := DF h19
 refine rS (FA 2 rfl fo32_2 rfl) <| rS (L1 (Value.slice nA d.Needs.length nC) 0 rfl tk26 rfl rfl) <| rS (LN rfl ut26) <| rS (BI rfl b_gtr) <| rS (PK rfl) <| rS (MV rfl) ?_
 refine r_bool (t := 25) rfl (fun h25 => ?_) (fun h25 => ?_)
 · replace h25 := DT h25
   refine rS (OX rfl) <| rS (OX rfl) <| rS (OX rfl) <| rS (OX rfl) <| rS (OX rfl) <| rS (PK rfl) <| rS (MV rfl) <| rS (OX rfl) <| rS (OX rfl) <| rS (OX rfl) ?_
   refine rS (OX rfl) <| rS (OX rfl) <| rS (PK rfl) <| RK hK9 <| w_if_true rfl <| WS fun _ hK11 => rS (AG rfl) <| RK hK11 <| w_ret <| Q1 hQ rfl rfl rfl ?_
   first | (refine congrArg (Value.int .i64) ?_; rw [(tr_no h12).2, guardE_bad (tr_no h12).1]) | exact congrArg (Value.int .i64) (guardE_no htr fun q => by have := q.len; omega).symm | exact congrArg (Value.int .i64) (guardE_no htr fun q => by exact absurd q.tower (by simpa using h32)).symm | exact congrArg (Value.int .i64) (guardE_no htr fun q => by exact h32 q.tower).symm | exact congrArg (Value.int .i64) (guardE_no htr fun q => by have := q.radio; omega).symm | exact congrArg (Value.int .i64) (guardE_no htr fun q => by have q1 := q.post i p hp; unfold PostOk at q1; first | omega | exact absurd q1.2.2.1 (by simpa using h68) | exact h68 q1.2.2.1).symm | exact congrArg (Value.int .i64) (guardE_no htr fun q => by rw [needs_any.2 q.need] at h88; cases h88).symm | exact congrArg (Value.int .i64) (guardE_ok htr (guard_yes (by omega) (by simpa using h32) (by omega) hl9_1 (by omega) (needs_any.1 (by simpa using h88)))).symm
 replace h25 := DF h25
 refine rS (MV rfl) <| rS (FA 3 rfl fo32_3 rfl) <| rS (LP (SpotV.cells d.Tower) 0 rfl tk30 rfl rfl rfl) <| rS (CL (pstands_c d.Tower d kA kC pA pC nA nC b2 hin (by first | assumption | omega | (simp; done) | (simp; omega))) (ha_at 1 rfl rfl <| ha_at 2 rfl rfl <| ha_at 3 rfl rfl <| ha_at 0 rfl rfl <| ha_nil) rfl) <| rS (NT rfl) <| rS (PK rfl) <| rS (MV rfl) ?_
 refine r_bool (t := 32) rfl (fun h32 => ?_) (fun h32 => ?_)
 · replace h32 := XT h32
   refine rS (OX rfl) <| rS (OX rfl) <| rS (OX rfl) <| rS (OX rfl) <| rS (OX rfl) <| rS (PK rfl) <| RK hK9 <| w_if_true rfl <| WS fun _ hK12 => rS (AG rfl) ?_
   refine RK hK12 <| w_ret <| Q1 hQ rfl rfl rfl ?_
   first | (refine congrArg (Value.int .i64) ?_; rw [(tr_no h12).2, guardE_bad (tr_no h12).1]) | exact congrArg (Value.int .i64) (guardE_no htr fun q => by have := q.len; omega).symm | exact congrArg (Value.int .i64) (guardE_no htr fun q => by exact absurd q.tower (by simpa using h32)).symm | exact congrArg (Value.int .i64) (guardE_no htr fun q => by exact h32 q.tower).symm | exact congrArg (Value.int .i64) (guardE_no htr fun q => by have := q.radio; omega).symm | exact congrArg (Value.int .i64) (guardE_no htr fun q => by have q1 := q.post i p hp; unfold PostOk at q1; first | omega | exact absurd q1.2.2.1 (by simpa using h68) | exact h68 q1.2.2.1).symm | exact congrArg (Value.int .i64) (guardE_no htr fun q => by rw [needs_any.2 q.need] at h88; cases h88).symm | exact congrArg (Value.int .i64) (guardE_ok htr (guard_yes (by omega) (by simpa using h32) (by omega) hl9_1 (by omega) (needs_any.1 (by simpa using h88)))).symm
 replace h32 := XF h32
 refine rS (FA 6 rfl fo32_4 rfl) <| rS (L1 (Value.int .i64 d.Radio) 0 rfl tk3 rfl rfl) <| r_bs (xs := [.tmp 34]) (cs := [(Value.int .i64 d.Radio)]) rfl te33 tz3 rfl rfl rfl rfl (by simp [Value.cells]) rfl rfl fun b13 => rS (CL (FnV.eq (in_post 0 400000 ([d.Radio]) (some ⟨b13, 0, none⟩) 1 (by first | assumption | omega | (simp; done) | (simp; omega))) inAll_one) (ha_cons (has_rd_blk 0 rfl rfl (by simp [iC_length]) rfl) <| ha_nil) rfl) <| rS (NT rfl) <| rS (PK rfl) <| RK hK9 ?_
 refine w_if rfl (fun h38 => ?_) (fun h38 => ?_)
 · replace h38 := XT h38
   refine WS fun _ hK14 => rS (AG rfl) <| RK hK14 <| w_ret <| Q1 hQ rfl rfl rfl ?_
   first | (refine congrArg (Value.int .i64) ?_; rw [(tr_no h12).2, guardE_bad (tr_no h12).1]) | exact congrArg (Value.int .i64) (guardE_no htr fun q => by have := q.len; omega).symm | exact congrArg (Value.int .i64) (guardE_no htr fun q => by exact absurd q.tower (by simpa using h32)).symm | exact congrArg (Value.int .i64) (guardE_no htr fun q => by exact h32 q.tower).symm | exact congrArg (Value.int .i64) (guardE_no htr fun q => by have := q.radio; omega).symm | exact congrArg (Value.int .i64) (guardE_no htr fun q => by have q1 := q.post i p hp; unfold PostOk at q1; first | omega | exact absurd q1.2.2.1 (by simpa using h68) | exact h68 q1.2.2.1).symm | exact congrArg (Value.int .i64) (guardE_no htr fun q => by rw [needs_any.2 q.need] at h88; cases h88).symm | exact congrArg (Value.int .i64) (guardE_ok htr (guard_yes (by omega) (by simpa using h32) (by omega) hl9_1 (by omega) (needs_any.1 (by simpa using h88)))).symm
 replace h38 := XF h38
 refine WK hK8 <| WS fun _ hK15 => rS (AG rfl) <| RK hK15 <| w_seq fun _ hK16 => WS fun _ hK17 => rS (FA 1 rfl fo32_1 rfl) <| rS (L1 (Value.slice pA d.Posts.length pC) 1 rfl tk25 rfl rfl) <| rS (LN rfl ut25) <| rS (MV rfl) ?_
 refine RK hK17 <| w_block ?_
 have hinit : (0 ≤ d.Posts.length) ∧ (PostsTo d 0) := by exact ⟨Nat.zero_le _, posts_zero⟩
 have hb18 : (Value.int .i64 (prevId d.Posts 0)) = (Value.int .i64 (-1)) := by rw [prevId_zero rfl]
 refine w_loop (ι := { z : Nat // (z ≤ d.Posts.length) ∧ (PostsTo d z) }) (fun z => [(1, (Value.pointer (some ⟨b2, 0, none⟩))), (4, (Value.func (.func 60) [].toArray [(Value.pointer (some ⟨b2, 0, none⟩))].toArray)), (5, (Value.int .i64 (prevId d.Posts z.1))), (40, (Value.slice pA d.Posts.length pC)), (41, (Value.int .i64 ((d.Posts.length : Nat) : Int))), (42, (Value.int .i64 ((z.1 : Nat) : Int)))]) (fun z => [(blk b2 32 (GuardV.cells (GuardV.mk (TrackV.mk (Slc.mk kA d.Track.length kC)) (Slc.mk pA d.Posts.length pC) (Slc.mk nA d.Needs.length nC) d.Tower d.Radio))), (rd kA d.Track.length 9 (d.Track.map StretchV.cells)).ro, (rd pA d.Posts.length 7 (d.Posts.map PostV.cells)).ro, (rd nA d.Needs.length 3 (d.Needs.map NeedV.cells)).ro]) (fun z => d.Posts.length - z.1) ⟨0, hinit⟩ (Sub.cons rfl <| Sub.cons rfl <| sub_val rfl hb18 <| Sub.cons rfl <| Sub.cons rfl <| Sub.cons rfl <| Sub.nil _) (fun w hs => St.sel [1, 2, 3, 4] rfl rfl hs) ?_
 clear hinit
 rintro ⟨i, ⟨hl9_0, hl9_1⟩⟩ J19 hJ19
 try dsimp only
 refine WS fun _ hK20 => rS (BI rfl b_lss) <| RK hK20 <| w_seq fun _ hK21 => ?_
 refine w_if rfl (fun h22 => ?_) (fun h22 => ?_)
 rotate_left 1
 · replace h22 := DF h22
   refine w_exit <| k_exit_then <| k_exit_then <| k_exit_same <| KK hK16 <| w_seq fun _ hK39 => WS fun _ hK40 => rS (FA 2 rfl fo32_2 rfl) <| rS (L1 (Value.slice nA d.Needs.length nC) 0 rfl tk26 rfl rfl) <| rS (FU rfl) ?_
   refine rS (CL (containsnd_c d.Needs nA nC (Value.func (.func 63) [].toArray [(Value.pointer (some ⟨b2, 0, none⟩))].toArray) (fun u41 => (!(decide (NeedOk d.Track u41)))) (bun [(rd kA d.Track.length 9 (d.Track.map StretchV.cells)), (rd pA d.Posts.length 7 (d.Posts.map PostV.cells)), (rd nA d.Needs.length 3 (d.Needs.map NeedV.cells)), (blk b2 32 (GuardV.cells (GuardV.mk (TrackV.mk (Slc.mk kA d.Track.length kC)) (Slc.mk pA d.Posts.length pC) (Slc.mk nA d.Needs.length nC) d.Tower d.Radio)))]) (by intro u41 hmem; exact clo_of (fi := []) (ca := [(Value.pointer (some ⟨b2, 0, none⟩))]) (fnV_bun (pneed_c u41 d kA kC pA pC nA nC b2 (by first | assumption | exact hnk _ hmem | omega) (by first | assumption | exact hnk _ hmem | omega)) (ha_at 0 rfl rfl <| ha_at 1 rfl rfl <| ha_at 2 rfl rfl <| ha_at 3 rfl rfl <| ha_nil))) (by first | assumption | omega | (simp; done) | (simp; omega))) (ha_at 3 rfl rfl <| ha_cons (has_bun (ha_at 1 rfl rfl <| ha_at 2 rfl rfl <| ha_at 3 rfl rfl <| ha_at 0 rfl rfl <| ha_nil)) <| ha_nil) rfl) <| RK hK40 ?_
   refine w_if rfl (fun h88 => ?_) (fun h88 => ?_)
   · refine WS fun _ hK42 => ?_
     refine rS (AG rfl) <| RK hK42 <| w_ret <| Q1 hQ rfl rfl rfl ?_
     first | (refine congrArg (Value.int .i64) ?_; rw [(tr_no h12).2, guardE_bad (tr_no h12).1]) | exact congrArg (Value.int .i64) (guardE_no htr fun q => by have := q.len; omega).symm | exact congrArg (Value.int .i64) (guardE_no htr fun q => by exact absurd q.tower (by simpa using h32)).symm | exact congrArg (Value.int .i64) (guardE_no htr fun q => by exact h32 q.tower).symm | exact congrArg (Value.int .i64) (guardE_no htr fun q => by have := q.radio; omega).symm | exact congrArg (Value.int .i64) (guardE_no htr fun q => by have q1 := q.post i p hp; unfold PostOk at q1; first | omega | exact absurd q1.2.2.1 (by simpa using h68) | exact h68 q1.2.2.1).symm | exact congrArg (Value.int .i64) (guardE_no htr fun q => by rw [needs_any.2 q.need] at h88; cases h88).symm | exact congrArg (Value.int .i64) (guardE_ok htr (guard_yes (by omega) (by simpa using h32) (by omega) hl9_1 (by omega) (needs_any.1 (by simpa using h88)))).symm
   refine WK hK39 <| WS fun _ hK43 => rS (AG rfl) <| RK hK43 <| w_ret <| Q1 hQ rfl rfl rfl ?_
   first | (refine congrArg (Value.int .i64) ?_; rw [(tr_no h12).2, guardE_bad (tr_no h12).1]) | exact congrArg (Value.int .i64) (guardE_no htr fun q => by have := q.len; omega).symm | exact congrArg (Value.int .i64) (guardE_no htr fun q => by exact absurd q.tower (by simpa using h32)).symm | exact congrArg (Value.int .i64) (guardE_no htr fun q => by exact h32 q.tower).symm | exact congrArg (Value.int .i64) (guardE_no htr fun q => by have := q.radio; omega).symm | exact congrArg (Value.int .i64) (guardE_no htr fun q => by have q1 := q.post i p hp; unfold PostOk at q1; first | omega | exact absurd q1.2.2.1 (by simpa using h68) | exact h68 q1.2.2.1).symm | exact congrArg (Value.int .i64) (guardE_no htr fun q => by rw [needs_any.2 q.need] at h88; cases h88).symm | exact congrArg (Value.int .i64) (guardE_ok htr (guard_yes (by omega) (by simpa using h32) (by omega) hl9_1 (by omega) (needs_any.1 (by simpa using h88)))).symm
 replace h22 := DT h22
 refine WK hK21 <| w_seq fun _ hK23 => w_block <| WS fun _ hK24 => ?_
 obtain ⟨p, hp⟩ : ∃ y_, d.Posts[i]? = some y_ := ⟨d.Posts[i]'(by omega), List.getElem?_eq_getElem _⟩
 have hpm : (d.Posts.map PostV.cells)[i]? = some (PostV.cells p) := by rw [List.getElem?_map, hp]; rfl
 refine rS (IA i rfl (has_at 2 rfl) te25 (by decide) (by omega) (by omega)) <| rS (LEN i 0 (PostV.cells p) rfl tk63 (has_at 2 rfl) hpm rfl (by decide) rfl rfl) <| AL rfl tz63 fun b25 => SW0 rfl ts63 rfl <| RK hK24 <| w_seq fun _ hK26 => WS fun _ hK27 => ?_
 have hpb := prevId_b hl9_0 hl9_1
 have hpkk := hpk p (List.mem_of_getElem? hp)
 refine rS (MV rfl) <| rS (BI rfl (b_add ⟨by omega, by omega⟩)) <| rS (FA 0 rfl fo63_0 rfl) <| rS (L1 (Value.int .i64 p.Id) 0 rfl tk3 rfl rfl) <| r_bs (xs := [.tmp 49]) (cs := [(Value.int .i64 p.Id)]) rfl te33 tz3 rfl rfl rfl rfl (by simp [Value.cells]) rfl rfl fun b28 => rS (CL (FnV.eq (in_post ((prevId d.Posts i) + 1) 9999 ([p.Id]) (some ⟨b28, 0, none⟩) 1 (by first | assumption | omega | (simp; done) | (simp; omega))) inAll_one) (ha_cons (has_rd_blk 0 rfl rfl (by simp [iC_length]) rfl) <| ha_nil) rfl) <| rS (NT rfl) <| rS (MV rfl) ?_
 refine r_bool (t := 53) rfl (fun h53 => ?_) (fun h53 => ?_)
 · replace h53 := XT h53
   refine rS (OX rfl) <| rS (OX rfl) <| rS (OX rfl) <| rS (OX rfl) <| rS (OX rfl) <| rS (OX rfl) <| rS (PK rfl) <| rS (MV rfl) <| rS (OX rfl) <| rS (OX rfl) ?_
   refine rS (OX rfl) <| rS (OX rfl) <| rS (OX rfl) <| rS (PK rfl) <| rS (MV rfl) <| rS (OX rfl) <| rS (OX rfl) <| rS (OX rfl) <| rS (OX rfl) <| rS (OX rfl) ?_
   refine rS (PK rfl) <| rS (MV rfl) <| rS (OX rfl) <| rS (OX rfl) <| rS (OX rfl) <| rS (OX rfl) <| rS (OX rfl) <| rS (PK rfl) <| RK hK27 <| w_if_true rfl ?_
   refine WS fun _ hK29 => rS (AG rfl) <| RK hK29 <| w_ret <| Q1 hQ rfl rfl rfl ?_
   first | (refine congrArg (Value.int .i64) ?_; rw [(tr_no h12).2, guardE_bad (tr_no h12).1]) | exact congrArg (Value.int .i64) (guardE_no htr fun q => by have := q.len; omega).symm | exact congrArg (Value.int .i64) (guardE_no htr fun q => by exact absurd q.tower (by simpa using h32)).symm | exact congrArg (Value.int .i64) (guardE_no htr fun q => by exact h32 q.tower).symm | exact congrArg (Value.int .i64) (guardE_no htr fun q => by have := q.radio; omega).symm | exact congrArg (Value.int .i64) (guardE_no htr fun q => by have q1 := q.post i p hp; unfold PostOk at q1; first | omega | exact absurd q1.2.2.1 (by simpa using h68) | exact h68 q1.2.2.1).symm | exact congrArg (Value.int .i64) (guardE_no htr fun q => by rw [needs_any.2 q.need] at h88; cases h88).symm | exact congrArg (Value.int .i64) (guardE_ok htr (guard_yes (by omega) (by simpa using h32) (by omega) hl9_1 (by omega) (needs_any.1 (by simpa using h88)))).symm
 replace h53 := XF h53
 refine rS (FA 1 rfl fo63_1 rfl) <| rS (L1 (Value.int .u8 p.Kind) 1 rfl tk5 rfl rfl) <| rS (SX (sd_conv (m := p.Kind) rfl rfl ut5 ut3 (wrap_u8_i64 (by first | assumption | omega))) rfl rfl) <| r_bs (xs := [.tmp 56]) (cs := [(Value.int .i64 p.Kind)]) rfl te33 tz3 rfl rfl rfl rfl (by simp [Value.cells]) rfl rfl fun b30 => rS (CL (FnV.eq (in_post 1 3 ([p.Kind]) (some ⟨b30, 0, none⟩) 1 (by first | assumption | omega | (simp; done) | (simp; omega))) inAll_one) (ha_cons (has_rd_blk 0 rfl rfl (by simp [iC_length]) rfl) <| ha_nil) rfl) <| rS (NT rfl) <| rS (PK rfl) <| rS (MV rfl) ?_
 refine r_bool (t := 61) rfl (fun h61 => ?_) (fun h61 => ?_)
 · replace h61 := XT h61
   refine rS (OX rfl) <| rS (OX rfl) <| rS (OX rfl) <| rS (OX rfl) <| rS (OX rfl) <| rS (PK rfl) <| rS (MV rfl) <| rS (OX rfl) <| rS (OX rfl) <| rS (OX rfl) ?_
   refine rS (OX rfl) <| rS (OX rfl) <| rS (PK rfl) <| rS (MV rfl) <| rS (OX rfl) <| rS (OX rfl) <| rS (OX rfl) <| rS (OX rfl) <| rS (OX rfl) <| rS (PK rfl) ?_
   refine RK hK27 <| w_if_true rfl <| WS fun _ hK31 => rS (AG rfl) <| RK hK31 <| w_ret <| Q1 hQ rfl rfl rfl ?_
   first | (refine congrArg (Value.int .i64) ?_; rw [(tr_no h12).2, guardE_bad (tr_no h12).1]) | exact congrArg (Value.int .i64) (guardE_no htr fun q => by have := q.len; omega).symm | exact congrArg (Value.int .i64) (guardE_no htr fun q => by exact absurd q.tower (by simpa using h32)).symm | exact congrArg (Value.int .i64) (guardE_no htr fun q => by exact h32 q.tower).symm | exact congrArg (Value.int .i64) (guardE_no htr fun q => by have := q.radio; omega).symm | exact congrArg (Value.int .i64) (guardE_no htr fun q => by have q1 := q.post i p hp; unfold PostOk at q1; first | omega | exact absurd q1.2.2.1 (by simpa using h68) | exact h68 q1.2.2.1).symm | exact congrArg (Value.int .i64) (guardE_no htr fun q => by rw [needs_any.2 q.need] at h88; cases h88).symm | exact congrArg (Value.int .i64) (guardE_ok htr (guard_yes (by omega) (by simpa using h32) (by omega) hl9_1 (by omega) (needs_any.1 (by simpa using h88)))).symm
 replace h61 := XF h61
 refine rS (MV rfl) <| rS (FA 2 rfl fo63_2 rfl) <| rS (LP (SpotV.cells p.Spot) 2 rfl tk30 rfl rfl rfl) <| rS (CL (pstands_c p.Spot d kA kC pA pC nA nC b2 hin (by first | assumption | omega | (simp; done) | (simp; omega))) (ha_at 4 rfl rfl <| ha_at 5 rfl rfl <| ha_at 6 rfl rfl <| ha_at 3 rfl rfl <| ha_nil) rfl) <| rS (NT rfl) <| rS (PK rfl) <| rS (MV rfl) ?_
 refine r_bool (t := 68) rfl (fun h68 => ?_) (fun h68 => ?_)
 · replace h68 := XT h68
   refine rS (OX rfl) <| rS (OX rfl) <| rS (OX rfl) <| rS (OX rfl) <| rS (OX rfl) <| rS (PK rfl) <| rS (MV rfl) <| rS (OX rfl) <| rS (OX rfl) <| rS (OX rfl) ?_
   refine rS (OX rfl) <| rS (OX rfl) <| rS (PK rfl) <| RK hK27 <| w_if_true rfl <| WS fun _ hK32 => rS (AG rfl) <| RK hK32 <| w_ret <| Q1 hQ rfl rfl rfl ?_
   first | (refine congrArg (Value.int .i64) ?_; rw [(tr_no h12).2, guardE_bad (tr_no h12).1]) | exact congrArg (Value.int .i64) (guardE_no htr fun q => by have := q.len; omega).symm | exact congrArg (Value.int .i64) (guardE_no htr fun q => by exact absurd q.tower (by simpa using h32)).symm | exact congrArg (Value.int .i64) (guardE_no htr fun q => by exact h32 q.tower).symm | exact congrArg (Value.int .i64) (guardE_no htr fun q => by have := q.radio; omega).symm | exact congrArg (Value.int .i64) (guardE_no htr fun q => by have q1 := q.post i p hp; unfold PostOk at q1; first | omega | exact absurd q1.2.2.1 (by simpa using h68) | exact h68 q1.2.2.1).symm | exact congrArg (Value.int .i64) (guardE_no htr fun q => by rw [needs_any.2 q.need] at h88; cases h88).symm | exact congrArg (Value.int .i64) (guardE_ok htr (guard_yes (by omega) (by simpa using h32) (by omega) hl9_1 (by omega) (needs_any.1 (by simpa using h88)))).symm
 replace h68 := XF h68
 refine rS (FA 5 rfl fo63_3 rfl) <| rS (L1 (Value.int .i64 p.Delay) 2 rfl tk3 rfl rfl) <| r_bs (xs := [.tmp 70]) (cs := [(Value.int .i64 p.Delay)]) rfl te33 tz3 rfl rfl rfl rfl (by simp [Value.cells]) rfl rfl fun b33 => rS (CL (FnV.eq (in_post 0 36000 ([p.Delay]) (some ⟨b33, 0, none⟩) 1 (by first | assumption | omega | (simp; done) | (simp; omega))) inAll_one) (ha_cons (has_rd_blk 0 rfl rfl (by simp [iC_length]) rfl) <| ha_nil) rfl) <| rS (NT rfl) <| rS (PK rfl) <| rS (MV rfl) ?_
 refine r_bool (t := 75) rfl (fun h75 => ?_) (fun h75 => ?_)
 · replace h75 := XT h75
   refine rS (OX rfl) <| rS (OX rfl) <| rS (OX rfl) <| rS (OX rfl) <| rS (OX rfl) <| rS (PK rfl) <| RK hK27 <| w_if_true rfl <| WS fun _ hK34 => rS (AG rfl) ?_
   refine RK hK34 <| w_ret <| Q1 hQ rfl rfl rfl ?_
   first | (refine congrArg (Value.int .i64) ?_; rw [(tr_no h12).2, guardE_bad (tr_no h12).1]) | exact congrArg (Value.int .i64) (guardE_no htr fun q => by have := q.len; omega).symm | exact congrArg (Value.int .i64) (guardE_no htr fun q => by exact absurd q.tower (by simpa using h32)).symm | exact congrArg (Value.int .i64) (guardE_no htr fun q => by exact h32 q.tower).symm | exact congrArg (Value.int .i64) (guardE_no htr fun q => by have := q.radio; omega).symm | exact congrArg (Value.int .i64) (guardE_no htr fun q => by have q1 := q.post i p hp; unfold PostOk at q1; first | omega | exact absurd q1.2.2.1 (by simpa using h68) | exact h68 q1.2.2.1).symm | exact congrArg (Value.int .i64) (guardE_no htr fun q => by rw [needs_any.2 q.need] at h88; cases h88).symm | exact congrArg (Value.int .i64) (guardE_ok htr (guard_yes (by omega) (by simpa using h32) (by omega) hl9_1 (by omega) (needs_any.1 (by simpa using h88)))).symm
 replace h75 := XF h75
 refine rS (FA 6 rfl fo63_4 rfl) <| rS (L1 (Value.int .i64 p.Pace) 3 rfl tk3 rfl rfl) <| r_bs (xs := [.tmp 77]) (cs := [(Value.int .i64 p.Pace)]) rfl te33 tz3 rfl rfl rfl rfl (by simp [Value.cells]) rfl rfl fun b35 => rS (CL (FnV.eq (in_post 1 1000 ([p.Pace]) (some ⟨b35, 0, none⟩) 1 (by first | assumption | omega | (simp; done) | (simp; omega))) inAll_one) (ha_cons (has_rd_blk 0 rfl rfl (by simp [iC_length]) rfl) <| ha_nil) rfl) <| rS (NT rfl) <| rS (PK rfl) <| RK hK27 ?_
 refine w_if rfl (fun h81 => ?_) (fun h81 => ?_)
 rotate_left 1
 · replace h81 := XF h81
   refine WK hK26 <| w_region <| rS (FA 0 rfl fo63_0 rfl) <| rS (L1 (Value.int .i64 p.Id) 4 rfl tk3 rfl rfl) <| rS (AG rfl) <| r_nil <| k_block <| KK hK23 <| w_region <| rS (BI rfl (b_add ⟨by omega, by omega⟩)) ?_
   refine rS (MV rfl) <| r_nil ?_
   have hb37 : (Value.int .i64 (prevId d.Posts (i + 1))) = (Value.int .i64 p.Id) := by rw [prevId_succ hp]
   have hb38 : (Value.int .i64 (((i + 1) : Nat) : Int)) = (Value.int .i64 (((i : Nat) : Int) + 1)) := by exact congrArg (Value.int .i64) (by omega)
   refine k_then (hJ19 ⟨(i + 1), ⟨by omega, posts_succ hl9_1 hp (by unfold PostOk; exact ⟨by omega, by omega, by simpa using h68, by omega, by omega⟩)⟩⟩ _ _ _ rfl (by first | omega | (simp; omega)) (Sub.cons rfl <| Sub.cons rfl <| sub_val rfl hb37 <| Sub.cons rfl <| Sub.cons rfl <| sub_val rfl hb38 <| Sub.nil _) (fun w hs => St.sel [5, 6, 7, 8] rfl rfl hs))
 replace h81 := XT h81
 refine WS fun _ hK36 => rS (AG rfl) <| RK hK36 <| w_ret <| Q1 hQ rfl rfl rfl ?_
 first | (refine congrArg (Value.int .i64) ?_; rw [(tr_no h12).2, guardE_bad (tr_no h12).1]) | exact congrArg (Value.int .i64) (guardE_no htr fun q => by have := q.len; omega).symm | exact congrArg (Value.int .i64) (guardE_no htr fun q => by exact absurd q.tower (by simpa using h32)).symm | exact congrArg (Value.int .i64) (guardE_no htr fun q => by exact h32 q.tower).symm | exact congrArg (Value.int .i64) (guardE_no htr fun q => by have := q.radio; omega).symm | exact congrArg (Value.int .i64) (guardE_no htr fun q => by have q1 := q.post i p hp; unfold PostOk at q1; first | omega | exact absurd q1.2.2.1 (by simpa using h68) | exact h68 q1.2.2.1).symm | exact congrArg (Value.int .i64) (guardE_no htr fun q => by rw [needs_any.2 q.need] at h88; cases h88).symm | exact congrArg (Value.int .i64) (guardE_ok htr (guard_yes (by omega) (by simpa using h32) (by omega) hl9_1 (by omega) (needs_any.1 (by simpa using h88)))).symm
end
section
open Go.RowKit
set_option linter.unusedVariables false
set_option maxRecDepth 100000 in
set_option maxHeartbeats 400000 in
theorem greatest_c (l : List Int) (lA : Option Addr) (lC : Nat) (hl : ∀ x ∈ l, -1000000000 ≤ x ∧ x ≤ 1000000000) (hlen : l.length ≤ 1000000) :
    FnV Tryz.prog 69 [(Value.slice lA l.length lC)] [(rd lA l.length 1 (l.map iC))] (Value.int .i64 (greatF l)) := by
 refine fnV_of go69 Tryz.func69 rfl rfl fun w0 Q hQ hN => ?_
 try dsimp only
 refine WS fun _ hK1 => rS (AG rfl) <| RK hK1 <| WS fun _ hK2 => rS (AG rfl) <| RK hK2 <| w_seq fun _ hK3 => WS fun _ hK4 => rS (MV rfl) <| rS (LN rfl ut33) ?_
 refine rS (MV rfl) <| RK hK4 <| w_block ?_
 have hinit : (0 ≤ l.length) := by exact Nat.zero_le _
 have hb5 : (Value.int .i64 (greatF (l.take 0))) = (Value.int .i64 0) := by rfl
 refine w_loop (ι := { z : Nat // (z ≤ l.length) }) (fun z => [(3, (Value.int .i64 (greatF (l.take z.1)))), (6, (Value.slice lA l.length lC)), (7, (Value.int .i64 ((l.length : Nat) : Int))), (8, (Value.int .i64 ((z.1 : Nat) : Int)))]) (fun z => [(rd lA l.length 1 (l.map iC)).ro]) (fun z => l.length - z.1) ⟨0, hinit⟩ (sub_val rfl hb5 <| Sub.cons rfl <| Sub.cons rfl <| Sub.cons rfl <| Sub.nil _) (fun w hs => St.sel [0] rfl rfl hs) ?_
 clear hinit
 rintro ⟨i, hl3_0⟩ J6 hJ6
 try dsimp only
 refine WS fun _ hK7 => rS (BI rfl b_lss) <| RK hK7 <| w_seq fun _ hK8 => ?_
 refine w_if rfl (fun h9 => ?_) (fun h9 => ?_)
 rotate_left 1
 · replace h9 := DF h9
   refine w_exit <| k_exit_then <| k_exit_then <| k_exit_same <| KK hK3 <| WS fun _ hK14 => rS (MV rfl) <| rS (AG rfl) <| RK hK14 <| w_ret ?_
   refine Q1 hQ rfl rfl rfl ?_
   rw [List.take_of_length_le (by omega)]
 replace h9 := DT h9
 refine WK hK8 <| w_seq fun _ hK10 => w_block <| WS fun _ hK11 => ?_
 obtain ⟨x, hx⟩ : ∃ y_, l[i]? = some y_ := ⟨l[i]'(by omega), List.getElem?_eq_getElem _⟩
 have hxm : (l.map iC)[i]? = some (iC x) := by rw [List.getElem?_map, hx]; rfl
 refine rS (IA i rfl (has_at 0 rfl) te33 (by decide) (by omega) (by omega)) <| rS (LE1 i 0 (Value.int .i64 x) rfl tk3 (has_at 0 rfl) hxm rfl (by decide) rfl) <| rS (AG rfl) <| RK hK11 <| w_region ?_
 have hxb := hl x (List.mem_of_getElem? hx)
 refine rS (MV rfl) <| rS (MV rfl) <| rS (MV rfl) <| rS (NG rfl ⟨by omega, by omega⟩) <| rS (SX (sd_max3 rfl rfl rfl rfl) rfl rfl) <| rS (AG rfl) <| r_nil <| k_block <| KK hK10 <| w_region ?_
 refine rS (BI rfl (b_add ⟨by omega, by omega⟩)) <| rS (MV rfl) <| r_nil ?_
 have hb12 : (Value.int .i64 (greatF (l.take (i + 1)))) = (Value.int .i64 (max (max (greatF (l.take i)) x) (-x))) := by rw [great_take hx]
 have hb13 : (Value.int .i64 (((i + 1) : Nat) : Int)) = (Value.int .i64 (((i : Nat) : Int) + 1)) := by exact congrArg (Value.int .i64) (by omega)
 refine k_then (hJ6 ⟨(i + 1), (by first | omega | (simp only []; omega))⟩ _ _ _ rfl (by first | omega | (simp; omega)) (sub_val rfl hb12 <| Sub.cons rfl <| Sub.cons rfl <| sub_val rfl hb13 <| Sub.nil _) (fun w hs => St.sel [0] rfl rfl hs))
set_option maxRecDepth 100000 in
set_option maxHeartbeats 400000 in
theorem begin_c (ts : List StretchV) (tsA : Option Addr) (tsC : Nat) (s : SpotV) (k : Int) (hlen : ts.length ≤ 1000000) (hside : ∀ x ∈ ts, 0 ≤ x.Side ∧ x.Side ≤ 255) (htr : trackOk ts = true) (hs : SpotOk ts s) (hk : 0 ≤ k ∧ k < (ts.length : Int)) :
    FnV Tryz.prog 81 [(Value.agg (TrackV.cells (TrackV.mk (Slc.mk tsA ts.length tsC))).toArray), (Value.agg (SpotV.cells s).toArray), (Value.int .i64 k)] [(rd tsA ts.length 9 (ts.map StretchV.cells))] (Value.int .i64 (markF ts s k)) := by
 refine fnV_of go81 Tryz.func81 rfl rfl fun w0 Q hQ hN => ?_
 try dsimp only
 refine WS fun _ hK1 => BXA rfl fun b2 => BXA rfl fun b3 => rS (AG rfl) <| RK hK1 <| WS fun _ hK4 => rS (LW 1 rfl tk24 rfl rfl) <| rS (LW 0 rfl tk30 rfl rfl) <| rS (MV rfl) <| rS (SX (sd_build (xs := [(0, .tmp 12)]) (cs := (SpotV.cells (SpotV.mk k (SpanV.mk 0 0)))) rfl rfl (built_of tb30 rfl)) rfl rfl) ?_
 refine rS (CL (Apart_c ts tsA tsC s (SpotV.mk k (SpanV.mk 0 0)) hlen hside) (ha_at 2 rfl rfl <| ha_nil) rfl) <| rS (MV rfl) <| rS (EX rfl) <| rS (EX rfl) <| AL rfl tz28 fun b5 => SW0 rfl ts28 rfl <| rS (AG rfl) <| RK hK4 <| WS fun _ hK6 => ?_
 have hap := apart_in htr ⟨hs, begin_ok htr hk⟩
 have hab := apartF_b (trackOk_all htr) (trackOk_le htr) hs (begin_ok htr hk)
 have hbm := begin_mark htr hs hk
 rw [← hap.2] at hab hbm
 refine rS (FA 0 rfl fo28_0 rfl) <| rS (L1 (Value.int .i64 ((apartV ts s (SpotV.mk k (SpanV.mk 0 0))).Lo)) 0 rfl tk3 rfl rfl) <| rS (FA 1 rfl fo28_1 rfl) <| rS (L1 (Value.int .i64 ((apartV ts s (SpotV.mk k (SpanV.mk 0 0))).Hi)) 0 rfl tk3 rfl rfl) <| r_bs (xs := [.tmp 18, .tmp 20]) (cs := [(Value.int .i64 ((apartV ts s (SpotV.mk k (SpanV.mk 0 0))).Lo)), (Value.int .i64 ((apartV ts s (SpotV.mk k (SpanV.mk 0 0))).Hi))]) rfl te33 tz3 rfl rfl rfl rfl (by simp [Value.cells]) rfl rfl fun b7 => rS (CL (greatest_c ([(apartV ts s (SpotV.mk k (SpanV.mk 0 0))).Lo, (apartV ts s (SpotV.mk k (SpanV.mk 0 0))).Hi]) (some ⟨b7, 0, none⟩) 2 (by intro x hx; simp only [List.mem_cons, List.not_mem_nil, or_false] at hx; omega) (by simp)) (ha_cons (has_rd_blk 0 rfl rfl (by simp [iC_length]) rfl) <| ha_nil) rfl) <| rS (AG rfl) <| RK hK6 <| w_ret <| Q1 hQ rfl rfl rfl ?_
 exact congrArg (Value.int .i64) hbm
set_option maxRecDepth 100000 in
set_option maxHeartbeats 400000 in
theorem end2_c (ts : List StretchV) (tsA : Option Addr) (tsC : Nat) (s : SpotV) (k : Int) (g1 : Nat) (hlen : ts.length ≤ 1000000) (hside : ∀ x ∈ ts, 0 ≤ x.Side ∧ x.Side ≤ 255) (htr : trackOk ts = true) (hs : SpotOk ts s) (hk : 0 ≤ k ∧ k < (ts.length : Int)) :
    FnV Tryz.prog 82 [(Value.agg (TrackV.cells (TrackV.mk (Slc.mk tsA ts.length tsC))).toArray), (Value.agg (SpotV.cells s).toArray), (Value.int .i64 k), (Value.pointer (some ⟨g1, 0, none⟩))] [(rd tsA ts.length 9 (ts.map StretchV.cells)), (blk g1 80 [(Value.func (.func 81) [].toArray [].toArray)])] (Value.int .i64 (markF ts s (k + 1))) := by
 have hl12 := trackOk_le htr
 have hsb := hs.1
 have hob := spot_b (trackOk_all htr) hs
 refine fnV_of go82 Tryz.func82 rfl rfl fun w0 Q hQ hN => ?_
 try dsimp only
 refine WS fun _ hK1 => BXA rfl fun b2 => BXA rfl fun b3 => rS (AG rfl) <| RK hK1 <| w_seq fun _ hK4 => WS fun _ hK5 => rS (MV rfl) <| rS (BI rfl (b_add ⟨by omega, by omega⟩)) <| rS (FA 0 rfl fo24_0 rfl) ?_
 refine rS (L1 (Value.slice tsA ts.length tsC) 1 rfl tk22 rfl rfl) <| rS (LN rfl ut22) <| rS (BI rfl b_lss) <| RK hK5 ?_
 refine w_if rfl (fun h16 => ?_) (fun h16 => ?_)
 · replace h16 := DT h16
   refine WS fun _ hK6 => rS (L1Q 3 rfl tk80 rfl) <| rS (LW 1 rfl tk24 rfl rfl) <| rS (LW 0 rfl tk30 rfl rfl) <| rS (MV rfl) <| rS (BI rfl (b_add ⟨by omega, by omega⟩)) <| rS (CL (begin_c ts tsA tsC s (k + 1) hlen hside htr hs (by first | assumption | omega | (simp; done) | (simp; omega))) (ha_at 2 rfl rfl <| ha_nil) rfl) <| rS (AG rfl) <| RK hK6 <| w_ret ?_
   refine Q1 hQ rfl rfl rfl ?_
   first | rfl | (refine congrArg (Value.int .i64) ?_; unfold markF; rw [if_neg (by omega), hdr.2.1])
 replace h16 := DF h16
 refine WK hK4 <| WS fun _ hK7 => rS (LW 1 rfl tk24 rfl rfl) <| rS (FA 0 rfl fo30_0 rfl) <| rS (L1 (Value.int .i64 s.Stretch) 0 rfl tk3 rfl rfl) <| rS (MV rfl) <| rS (BI rfl (b_add ⟨by omega, by omega⟩)) <| rS (CL (Drop_c ts tsA tsC s.Stretch (k + 1) hlen hside) (ha_at 2 rfl rfl <| ha_nil) rfl) <| rS (MV rfl) <| rS (EX rfl) ?_
 refine rS (EX rfl) <| rS (EX rfl) <| AL rfl tz28 fun b8 => AL rfl tz28 fun b9 => SW1 rfl ts28 rfl <| SW0 rfl ts28 rfl <| rS (AG rfl) <| RK hK7 <| WS fun _ hK10 => ?_
 have hdr := dropE_in (f := s.Stretch) (t := k + 1) htr ⟨hsb.1, by omega, by omega⟩
 have hlb := longF_b (trackOk_all htr) s.Stretch.toNat (k + 1 - s.Stretch).toNat
 rw [← hdr.2.1] at hlb
 refine rS (FA 1 rfl fo28_1 rfl) <| rS (L1 (Value.int .i64 ((dropL ts s.Stretch (k + 1)).Hi)) 1 rfl tk3 rfl rfl) <| rS (FA 1 rfl fo30_1 rfl) <| rS (FA 1 rfl fo28_0 rfl) <| rS (L1 (Value.int .i64 s.Off.Lo) 2 rfl tk3 rfl rfl) <| rS (BI rfl (b_sub ⟨by omega, by omega⟩)) <| rS (AG rfl) <| RK hK10 <| w_ret <| Q1 hQ rfl rfl rfl ?_
 first | rfl | (refine congrArg (Value.int .i64) ?_; unfold markF; rw [if_neg (by omega), hdr.2.1])
set_option maxRecDepth 100000 in
set_option maxHeartbeats 400000 in
theorem ends_c  :
    FnX Tryz.prog 64 [] [] (fun (x : Nat) => (Value.agg ((Ends9V.cells (Ends9V.mk (Value.func (.func 81) [].toArray [].toArray))) ++ (Ends9V.cells (Ends9V.mk (Value.func (.func 82) [].toArray [(Value.pointer (some ⟨x, 0, none⟩))].toArray)))).toArray)) (fun (x : Nat) => True) (fun (x : Nat) => [(blk x 80 [(Value.func (.func 81) [].toArray [].toArray)])]) := by
 refine fnX_of go64 Tryz.func64 rfl rfl fun w0 Q hQ hN => ?_
 try dsimp only
 refine WS fun _ hK1 => AL rfl tz105 fun b2 => RK hK1 <| WS fun _ hK3 => AL rfl tz80 fun b4 => SO0 rfl ts80 rfl rfl <| RK hK3 <| WS fun _ hK5 => rS (L1W 0 rfl tk80 rfl) <| rS (SX (sd_build (xs := [(0, .tmp 2)]) (cs := (Ends9V.cells (Ends9V.mk (Value.func (.func 81) [].toArray [].toArray)))) rfl rfl (built_of tb104 rfl)) rfl rfl) ?_
 refine rS (FU rfl) <| rS (SX (sd_build (xs := [(0, .tmp 4)]) (cs := (Ends9V.cells (Ends9V.mk (Value.func (.func 82) [].toArray [(Value.pointer (some ⟨b4, 0, none⟩))].toArray)))) rfl rfl (built_of tb104 rfl)) rfl rfl) <| rS (SX (sd_build (xs := [(0, .tmp 3), (1, .tmp 5)]) (cs := ((Ends9V.cells (Ends9V.mk (Value.func (.func 81) [].toArray [].toArray))) ++ (Ends9V.cells (Ends9V.mk (Value.func (.func 82) [].toArray [(Value.pointer (some ⟨b4, 0, none⟩))].toArray))))) rfl rfl (built_of tb105 rfl)) rfl rfl) <| SW1 rfl ts105 rfl <| RK hK5 <| w_ret ?_
 refine hQ _ _ _ (l_nil (vs := [(Value.agg ((Ends9V.cells (Ends9V.mk (Value.func (.func 81) [].toArray [].toArray))) ++ (Ends9V.cells (Ends9V.mk (Value.func (.func 82) [].toArray [(Value.pointer (some ⟨b4, 0, none⟩))].toArray)))).toArray)]) ⟨⟨_, rfl, .inl ⟨_, _, tk105, at_blk (vs := ((Ends9V.cells (Ends9V.mk (Value.func (.func 81) [].toArray [].toArray))) ++ (Ends9V.cells (Ends9V.mk (Value.func (.func 82) [].toArray [(Value.pointer (some ⟨b4, 0, none⟩))].toArray))))) 1 rfl rfl, rfl, rfl⟩⟩, trivial⟩ fun w hs => endX b4 [0] ?_ ?_ rfl rfl rfl hs)
 · rfl
 · trivial
set_option maxRecDepth 100000 in
set_option maxHeartbeats 400000 in
theorem pfar_c (ts : List StretchV) (tsA : Option Addr) (tsC : Nat) (s : SpotV) (k : Int) (hlen : ts.length ≤ 1000000) (hside : ∀ x ∈ ts, 0 ≤ x.Side ∧ x.Side ≤ 255) (htr : trackOk ts = true) (hs : SpotOk ts s) (hk : 0 ≤ k ∧ k < (ts.length : Int)) :
    FnV Tryz.prog 45 [(Value.agg (TrackV.cells (TrackV.mk (Slc.mk tsA ts.length tsC))).toArray), (Value.agg (SpotV.cells s).toArray), (Value.int .i64 k)] [(rd tsA ts.length 9 (ts.map StretchV.cells))] (Value.int .i64 (farF ts s k)) := by
 have hm1 := mark_b htr hs (m := k) (by omega)
 have hm2 := mark_b htr hs (m := k + 1) (by omega)
 refine fnV_of go45 Tryz.func45 rfl rfl fun w0 Q hQ hN => ?_
 try dsimp only
 refine WS fun _ hK1 => BXA rfl fun b2 => BXA rfl fun b3 => rS (AG rfl) <| RK hK1 <| WS fun _ hK4 => rS (AG rfl) <| RK hK4 <| w_seq fun _ hK5 => WS fun _ hK6 => ?_
 refine cX ends_c (ha_nil) rfl fun eb9 hy8 => ?_
 try dsimp only
 refine rS (MV rfl) <| RK hK6 <| w_block <| w_rounds 3 <| ro_succ fun R10 hR10 => WS fun _ hK11 => rS (SX (sd_bin (r := .bool true) rfl rfl rfl b_lss) rfl rfl) <| RK hK11 <| w_seq fun _ hK12 => w_if_true rfl ?_
 refine WK hK12 <| w_seq fun _ hK13 => w_block <| WS fun _ hK14 => rS (SX (sd_index (vs := (Ends9V.cells (Ends9V.mk (Value.func (.func 81) [].toArray [].toArray)))) 0 rfl rfl rfl tx105 tk104 rfl (by decide) rfl) rfl rfl) <| AL rfl tz104 fun b15 => SW0 rfl ts104 rfl <| RK hK14 <| w_region <| rS (MV rfl) ?_
 refine rS (FA 0 rfl fo104_0 rfl) <| rS (L1 (Value.func (.func 81) [].toArray [].toArray) 0 rfl tk80 rfl rfl) <| rS (LW 3 rfl tk24 rfl rfl) <| rS (LW 2 rfl tk30 rfl rfl) <| rS (MV rfl) <| rS (CL (begin_c ts tsA tsC s k hlen hside htr hs hk) (ha_at 4 rfl rfl <| ha_nil) rfl) <| rS (MX rfl) <| rS (AG rfl) <| r_nil <| k_block ?_
 refine KK hK13 <| w_region <| rS (SX (sd_bin (r := .int .i64 1) rfl rfl rfl (b_add ⟨by decide, by decide⟩)) rfl rfl) <| rS (MV rfl) <| RK hR10 <| ro_succ fun R16 hR16 => WS fun _ hK17 => rS (SX (sd_bin (r := .bool true) rfl rfl rfl b_lss) rfl rfl) <| RK hK17 <| w_seq fun _ hK18 => ?_
 refine w_if_true rfl <| WK hK18 <| w_seq fun _ hK19 => w_block <| WS fun _ hK20 => rS (SX (sd_index (vs := (Ends9V.cells (Ends9V.mk (Value.func (.func 82) [].toArray [(Value.pointer (some ⟨eb9, 0, none⟩))].toArray)))) 1 rfl rfl rfl tx105 tk104 rfl (by decide) rfl) rfl rfl) <| AL rfl tz104 fun b21 => SW0 rfl ts104 rfl <| RK hK20 <| w_region ?_
 refine rS (MV rfl) <| rS (FA 0 rfl fo104_0 rfl) <| rS (L1 (Value.func (.func 82) [].toArray [(Value.pointer (some ⟨eb9, 0, none⟩))].toArray) 0 rfl tk80 rfl rfl) <| rS (LW 4 rfl tk24 rfl rfl) <| rS (LW 3 rfl tk30 rfl rfl) <| rS (MV rfl) <| rS (CL (end2_c ts tsA tsC s k eb9 hlen hside htr hs hk) (ha_at 5 rfl rfl <| ha_at 2 rfl rfl <| ha_nil) rfl) <| rS (MX rfl) <| rS (AG rfl) <| r_nil ?_
 refine k_block <| KK hK19 <| w_region <| rS (SX (sd_bin (r := .int .i64 2) rfl rfl rfl (b_add ⟨by decide, by decide⟩)) rfl rfl) <| rS (MV rfl) <| RK hR16 <| ro_succ fun R22 hR22 => WS fun _ hK23 => rS (SX (sd_bin (r := .bool false) rfl rfl rfl b_lss) rfl rfl) <| RK hK23 ?_
 refine w_seq fun _ hK24 => w_if_false rfl <| w_exit <| k_exit_then <| k_exit_then <| k_exit_same <| KK hK5 <| WS fun _ hK25 => rS (MV rfl) <| rS (AG rfl) ?_
 refine RK hK25 <| w_ret <| Q1 hQ rfl rfl rfl ?_
 exact congrArg (Value.int .i64) (by unfold farF; omega)
end
section
open Go.RowKit
set_option linter.unusedVariables false
set_option maxRecDepth 100000 in
set_option maxHeartbeats 400000 in
theorem popen_c (d : GuardM) (kA : Option Addr) (kC : Nat) (pA : Option Addr) (pC : Nat) (nA : Option Addr) (nC : Nat) (hin : GuardIn d) :
    FnX Tryz.prog 24 [(Value.agg (GuardV.cells (GuardV.mk (TrackV.mk (Slc.mk kA d.Track.length kC)) (Slc.mk pA d.Posts.length pC) (Slc.mk nA d.Needs.length nC) d.Tower d.Radio)).toArray)] [(rd kA d.Track.length 9 (d.Track.map StretchV.cells)), (rd pA d.Posts.length 7 (d.Posts.map PostV.cells)), (rd nA d.Needs.length 3 (d.Needs.map NeedV.cells))] (fun (x : Bool × Int × Nat × (Option Addr) × Nat × (List RA)) => bif x.1 then (Value.tuple [(Value.pointer (some ⟨x.2.2.1, 0, none⟩)), (Value.int .i64 0)].toArray) else (Value.tuple [(Value.pointer none), (Value.int .i64 x.2.1)].toArray)) (fun (x : Bool × Int × Nat × (Option Addr) × Nat × (List RA)) => (x.1 = true → (guardE d = 0 ∧ x.2.2.2.2.2.length = d.Posts.length)) ∧ (x.1 = false → (x.2.1 = guardE d ∧ ¬ guardE d = 0))) (fun (x : Bool × Int × Nat × (Option Addr) × Nat × (List RA)) => bif x.1 then [(blk x.2.2.1 73 (WatchV.cells (WatchV.mk (GuardV.mk (TrackV.mk (Slc.mk kA d.Track.length kC)) (Slc.mk pA d.Posts.length pC) (Slc.mk nA d.Needs.length nC) d.Tower d.Radio) (Slc.mk x.2.2.2.1 ((timesL d).length) x.2.2.2.2.1)))), (own x.2.2.2.1 x.2.2.2.2.1 33 1 (List.zipWith rowC (timesL d) x.2.2.2.2.2)), (bund (nest rowO (timesL d) x.2.2.2.2.2))] else []) := by
 have hlen := hin.trk
 have hside := hin.side
 have hpl := hin.pst
 have hnl := hin.nds
 have hnk := hin.nk
 have hpk := hin.pk
 refine fnX_of go24 Tryz.func24 rfl rfl fun w0 Q hQ hN => ?_
 try dsimp only
 refine WS fun _ hK1 => BXA rfl fun b2 => rS (AG rfl) <| rS (AG rfl) <| RK hK1 <| w_seq fun _ hK3 => WS fun _ hK4 => rS (LW 0 rfl tk32 rfl rfl) <| rS (CL (pcheck_c d kA kC pA pC nA nC hin) (ha3 1 2 3 rfl rfl rfl rfl rfl rfl) rfl) <| rS (AG rfl) ?_
 refine RK hK4 <| WS fun _ hK5 => rS (MV rfl) <| rS (BI rfl b_neq) <| RK hK5 ?_
 refine w_if rfl (fun hg0 => ?_) (fun hg0 => ?_)
 · replace hg0 := XT hg0
   refine WS fun _ hK6 => rS (MV rfl) <| rS (AG rfl) <| rS (AG rfl) <| RK hK6 <| w_ret ?_
   refine hQ _ _ _ (l_nil (vs := [(Value.pointer none), (Value.int .i64 (guardE d))]) ⟨rfl, rfl, trivial⟩ fun w hs => endX (false, (guardE d), 0, none, 0, []) [] ?_ ?_ rfl rfl (by first | rfl | (show List.all _ _ = true; simp only [cond_true, List.all_cons, List.all_nil, rowO_wr, Bool.and_true]; rfl)) hs)
   · rfl
   · refine ⟨fun q => Bool.noConfusion (show false = true from q), fun _ => ?_⟩; first | exact ⟨rfl, hg0⟩
 replace hg0 := XF hg0
 refine WK hK3 <| WS fun _ hK7 => ?_
 obtain ⟨htr, hok⟩ := guardE_zero hg0
 refine rS (LW 0 rfl tk32 rfl rfl) <| rS (SX (sd_build (xs := [(0, .tmp 16)]) (cs := (WatchV.cells (WatchV.mk (GuardV.mk (TrackV.mk (Slc.mk kA d.Track.length kC)) (Slc.mk pA d.Posts.length pC) (Slc.mk nA d.Needs.length nC) d.Tower d.Radio) (Slc.mk none 0 0)))) rfl rfl (built_of tb73 rfl)) rfl rfl) <| BXA rfl fun b8 => rS (AG rfl) <| RK hK7 <| w_seq fun _ hK9 => WS fun _ hK10 => rS (FA 1 rfl fo32_1 rfl) <| rS (L1 (Value.slice pA d.Posts.length pC) 1 rfl tk25 rfl rfl) <| rS (LN rfl ut25) ?_
 refine rS (MV rfl) <| RK hK10 <| w_block <| w_own_nil 33 1 <| w_tie0 ?_
 have hinit : (0 ≤ d.Posts.length) ∧ (([] : List RA).length = 0) := by exact ⟨Nat.zero_le _, rfl⟩
 refine w_loop (ι := { z : Nat × (List RA) × (Option Addr) × Nat // (z.1 ≤ d.Posts.length) ∧ (z.2.1.length = z.1) }) (fun z => [(1, (Value.pointer (some ⟨b2, 0, none⟩))), (2, (Value.pointer none)), (3, (Value.int .i64 0)), (5, (Value.pointer (some ⟨b8, 0, none⟩))), (20, (Value.slice pA d.Posts.length pC)), (21, (Value.int .i64 ((d.Posts.length : Nat) : Int))), (22, (Value.int .i64 ((z.1.1 : Nat) : Int)))]) (fun z => [(bund (nest rowO (timesK d z.1.1) z.1.2.1)), (own z.1.2.2.1 z.1.2.2.2 33 1 (List.map sC (List.zipWith rowS (timesK d z.1.1) z.1.2.1))), (blk b8 73 (WatchV.cells (WatchV.mk (GuardV.mk (TrackV.mk (Slc.mk kA d.Track.length kC)) (Slc.mk pA d.Posts.length pC) (Slc.mk nA d.Needs.length nC) d.Tower d.Radio) (Slc.mk z.1.2.2.1 ((List.zipWith rowS (timesK d z.1.1) z.1.2.1).length) z.1.2.2.2)))), (blk b2 32 (GuardV.cells (GuardV.mk (TrackV.mk (Slc.mk kA d.Track.length kC)) (Slc.mk pA d.Posts.length pC) (Slc.mk nA d.Needs.length nC) d.Tower d.Radio))), (rd kA d.Track.length 9 (d.Track.map StretchV.cells)).ro, (rd pA d.Posts.length 7 (d.Posts.map PostV.cells)).ro, (rd nA d.Needs.length 3 (d.Needs.map NeedV.cells)).ro]) (fun z => d.Posts.length - z.1.1) ⟨(0, ([] : List RA), none, 0), hinit⟩ (Sub.cons rfl <| Sub.cons rfl <| Sub.cons rfl <| Sub.cons rfl <| Sub.cons rfl <| Sub.cons rfl <| Sub.cons rfl <| Sub.nil _) (fun w hs => St.sel [0, 1, 2, 3, 4, 5, 6] rfl rfl hs) ?_
 clear hinit
 rintro ⟨⟨i, tz, a, c⟩, ⟨hl6_0, hl6_1⟩⟩ J11 hJ11
 try dsimp only at hl6_0 hl6_1
 try dsimp only
 refine WS fun _ hK12 => rS (BI rfl b_lss) <| RK hK12 <| w_seq fun _ hK13 => ?_
 refine w_if rfl (fun h14 => ?_) (fun h14 => ?_)
 rotate_left 1
 · replace h14 := DF h14
   refine w_exit <| k_exit_then <| k_exit_then <| k_exit_same <| KK hK9 <| w_seq fun _ hK42 => ?_
   have hik : timesK d i = timesL d := by unfold timesL; rw [show i = d.Posts.length by omega]
   have htz2 : tz.length = d.Posts.length := by omega
   rw [hik, rows_cells, show (List.zipWith rowS (timesL d) tz).length = (timesL d).length from by rw [List.length_zipWith, timesL_len]; omega]
   refine w_region <| rS (MV rfl) <| rS (AG rfl) <| rS (AG rfl) <| RK hK42 <| w_ret ?_
   refine hQ _ _ _ (l_nil (vs := [(Value.pointer (some ⟨b8, 0, none⟩)), (Value.int .i64 0)]) ⟨rfl, rfl, trivial⟩ fun w hs => endX (true, 0, b8, a, c, tz) [2, 1, 0] ?_ ?_ rfl rfl (by first | rfl | (show List.all _ _ = true; simp only [cond_true, List.all_cons, List.all_nil, rowO_wr, Bool.and_true]; rfl)) hs)
   · rfl
   · exact ⟨fun _ => ⟨hg0, htz2⟩, fun q => Bool.noConfusion (show true = false from q)⟩
 replace h14 := DT h14
 refine WK hK13 <| w_seq fun _ hK15 => w_block <| WS fun _ hK16 => ?_
 obtain ⟨p, hp⟩ : ∃ y_, d.Posts[i]? = some y_ := ⟨d.Posts[i]'(by omega), List.getElem?_eq_getElem _⟩
 have hpm : (d.Posts.map PostV.cells)[i]? = some (PostV.cells p) := by rw [List.getElem?_map, hp]; rfl
 refine rS (IA i rfl (has_at 5 rfl) te25 (by decide) (by omega) (by omega)) <| rS (LEN i 0 (PostV.cells p) rfl tk63 (has_at 5 rfl) hpm rfl (by decide) rfl rfl) <| AL rfl tz63 fun b17 => SW0 rfl ts63 rfl <| RK hK16 <| WS fun _ hK18 => rS (AG rfl) <| RK hK18 <| w_seq fun _ hK19 => WS fun _ hK20 => ?_
 refine rS (FA 0 rfl fo32_0 rfl) <| rS (FA 0 rfl fo24_0 rfl) <| rS (L1 (Value.slice kA d.Track.length kC) 4 rfl tk22 rfl rfl) <| rS (LN rfl ut22) <| rS (MV rfl) <| RK hK20 <| w_block <| w_own_nil 3 1 ?_
 have hinit : (0 ≤ d.Track.length) := by exact Nat.zero_le _
 refine w_loop (ι := { z : Nat × (Option Addr) × Nat // (z.1 ≤ d.Track.length) }) (fun z => [(1, (Value.pointer (some ⟨b2, 0, none⟩))), (2, (Value.pointer none)), (3, (Value.int .i64 0)), (5, (Value.pointer (some ⟨b8, 0, none⟩))), (7, (Value.pointer (some ⟨b17, 0, none⟩))), (8, (Value.slice z.1.2.1 ((timesP d p z.1.1).length) z.1.2.2)), (20, (Value.slice pA d.Posts.length pC)), (21, (Value.int .i64 ((d.Posts.length : Nat) : Int))), (22, (Value.int .i64 ((i : Nat) : Int))), (28, (Value.slice kA d.Track.length kC)), (29, (Value.int .i64 ((d.Track.length : Nat) : Int))), (30, (Value.int .i64 ((z.1.1 : Nat) : Int)))]) (fun z => [(own z.1.2.1 z.1.2.2 3 1 ((timesP d p z.1.1).map iC)), (blk b17 63 (PostV.cells p)), (bund (nest rowO (timesK d i) tz)), (own a c 33 1 (List.map sC (List.zipWith rowS (timesK d i) tz))), (blk b8 73 (WatchV.cells (WatchV.mk (GuardV.mk (TrackV.mk (Slc.mk kA d.Track.length kC)) (Slc.mk pA d.Posts.length pC) (Slc.mk nA d.Needs.length nC) d.Tower d.Radio) (Slc.mk a ((List.zipWith rowS (timesK d i) tz).length) c)))), (blk b2 32 (GuardV.cells (GuardV.mk (TrackV.mk (Slc.mk kA d.Track.length kC)) (Slc.mk pA d.Posts.length pC) (Slc.mk nA d.Needs.length nC) d.Tower d.Radio))), (rd kA d.Track.length 9 (d.Track.map StretchV.cells)).ro, (rd pA d.Posts.length 7 (d.Posts.map PostV.cells)).ro, (rd nA d.Needs.length 3 (d.Needs.map NeedV.cells)).ro]) (fun z => d.Track.length - z.1.1) ⟨(0, none, 0), hinit⟩ (Sub.cons rfl <| Sub.cons rfl <| Sub.cons rfl <| Sub.cons rfl <| Sub.cons rfl <| Sub.cons rfl <| Sub.cons rfl <| Sub.cons rfl <| Sub.cons rfl <| Sub.cons rfl <| Sub.cons rfl <| Sub.cons rfl <| Sub.nil _) (fun w hs => St.sel [0, 1, 2, 3, 4, 5, 6, 7, 8] rfl rfl hs) ?_
 clear hinit
 rintro ⟨⟨k, la, lc⟩, hl10_0⟩ J21 hJ21
 try dsimp only at hl10_0
 try dsimp only
 refine WS fun _ hK22 => rS (BI rfl b_lss) <| RK hK22 <| w_seq fun _ hK23 => ?_
 refine w_if rfl (fun h24 => ?_) (fun h24 => ?_)
 rotate_left 1
 · replace h24 := DF h24
   refine w_exit <| k_exit_then <| k_exit_then <| k_exit_same <| KK hK19 <| w_region ?_
   rw [show timesP d p k = timesP d p d.Track.length from by rw [show k = d.Track.length by omega]]
   refine rS (MV rfl) <| rS (MV rfl) <| rS (SX (sd_nil_p rfl rfl) rfl rfl) <| rS (FA 7 rfl fo73_1 rfl) <| rS (L1 (Value.slice a ((List.zipWith rowS (timesK d i) tz).length) c) 4 rfl tk71 rfl rfl) <| rS (MV rfl) <| r_bs (xs := [.tmp 61]) (cs := [(Value.slice la ((timesP d p d.Track.length).length) lc)]) rfl te71 tz33 rfl rfl rfl rfl (by simp [Value.cells]) rfl rfl fun b38 => r_append (es2 := (List.map sC (List.zipWith rowS (timesK d (i + 1)) (tz ++ [(la, lc)])))) (m' := (List.zipWith rowS (timesK d (i + 1)) (tz ++ [(la, lc)])).length) 4 rfl rfl rfl ta71 rfl rfl (by simp) (has_rd_blk (es := List.map sC [(Slc.mk la ((timesP d p d.Track.length).length) lc)]) 0 rfl rfl (by simp [sC_length]) rfl) (one_sC _) (by rw [List.length_zipWith, timesK_len (by omega)]; omega) (by rw [List.length_zipWith, timesK_len (by omega)]; simp only [maxLen]; omega) (by rw [rows_snoc hp hl6_1, List.map_append]; rfl) (by simp) rfl fun a39 c40 => ?_
   try dsimp only
   refine rS (SX (sd_nil_p rfl rfl) rfl rfl) <| rS (FA 7 rfl fo73_1 rfl) <| ST5 (WatchV.cells (WatchV.mk (GuardV.mk (TrackV.mk (Slc.mk kA d.Track.length kC)) (Slc.mk pA d.Posts.length pC) (Slc.mk nA d.Needs.length nC) d.Tower d.Radio) (Slc.mk a39 ((List.zipWith rowS (timesK d (i + 1)) (tz ++ [(la, lc)])).length) c40))) rfl ts71 rfl rfl <| r_nil <| k_block <| KK hK15 <| w_region <| rS (BI rfl (b_add ⟨by omega, by omega⟩)) <| rS (MV rfl) <| r_nil ?_
   refine k_tie (X' := nest rowO (timesK d (i + 1)) (tz ++ [(la, lc)])) 3 1 rfl rfl (nest_snoc (a := (la, lc)) hp hl6_1) ?_
   have hb41 : (Value.int .i64 (((i + 1) : Nat) : Int)) = (Value.int .i64 (((i : Nat) : Int) + 1)) := by exact congrArg (Value.int .i64) (by omega)
   refine k_then (hJ11 ⟨((i + 1), (tz ++ [(la, lc)]), a39, c40), ⟨by omega, by simp; omega⟩⟩ _ _ _ rfl (by first | omega | (simp; omega)) (Sub.cons rfl <| Sub.cons rfl <| Sub.cons rfl <| Sub.cons rfl <| Sub.cons rfl <| Sub.cons rfl <| sub_val rfl hb41 <| Sub.nil _) (fun w hs => St.sel [0, 3, 4, 5, 6, 7, 8] rfl rfl hs))
 replace h24 := DT h24
 refine WK hK23 <| w_seq fun _ hK25 => w_block <| WS fun _ hK26 => rS (MV rfl) <| rS (AG rfl) <| RK hK26 <| w_seq fun _ hK27 => w_draw mixed 10 (by kernel_rfl) ?_
 have hpo := hok.post i p hp
 unfold PostOk at hpo
 have hfb := far_b htr hpo.2.2.1 (k := ((k : Nat) : Int)) (by omega)
 have hpc := pace_b hpo.2.2.2.2 hfb
 refine dS (FA 6 rfl fo63_4 rfl) <| dS (L1 (Value.int .i64 p.Pace) 1 rfl tk3 rfl rfl) <| dS (FA 0 rfl fo32_0 rfl) <| dS (LP (TrackV.cells (TrackV.mk (Slc.mk kA d.Track.length kC))) 5 rfl tk24 rfl rfl rfl) <| dS (FA 2 rfl fo63_2 rfl) <| dS (LP (SpotV.cells p.Spot) 1 rfl tk30 rfl rfl rfl) <| dS (MV rfl) <| dS (CL (pfar_c d.Track kA kC p.Spot ((k : Nat) : Int) (by first | assumption | omega | (simp; done) | (simp; omega)) (by first | assumption | omega | (simp; done) | (simp; omega)) (by exact htr) (by exact hpo.2.2.1) (by first | assumption | omega | (simp; done) | (simp; omega))) (ha_at 6 rfl rfl <| ha_nil) rfl) <| dS (BI rfl (b_mul ⟨by omega, by omega⟩)) <| dS (AG rfl) ?_
 refine d_end <| RK hK27 <| w_seq fun _ hK28 => WS fun _ hK29 => rS (MV rfl) <| rS (BI rfl (b_rem (by omega) (by omega))) <| rS (BI rfl b_gtr) <| RK hK29 ?_
 refine w_if rfl (fun hg44 => ?_) (fun hg44 => ?_)
 rotate_left 1
 · replace hg44 := DF hg44
   refine WK hK28 <| w_region <| rS (MV rfl) <| rS (FA 5 rfl fo63_3 rfl) <| rS (L1 (Value.int .i64 p.Delay) 1 rfl tk3 rfl rfl) <| rS (MV rfl) <| rS (BI rfl (b_quo (by omega) (by omega) (by omega))) <| rS (BI rfl (b_add ⟨by omega, by omega⟩)) <| r_bs (xs := [.tmp 52]) (cs := [(Value.int .i64 (p.Delay + ((p.Pace * (farF d.Track p.Spot ((k : Nat) : Int))) / 1000)))]) rfl te33 tz3 rfl rfl rfl rfl (by simp [Value.cells]) rfl rfl fun b34 => r_append (es2 := (List.map iC (timesP d p (k + 1)))) (m' := (timesP d p (k + 1)).length) 1 rfl rfl rfl ta33 rfl rfl (by simp) (has_rd_blk (es := List.map iC [(p.Delay + ((p.Pace * (farF d.Track p.Spot ((k : Nat) : Int))) / 1000))]) 0 rfl rfl (by simp [iC_length]) rfl) (one_iC _) (by simp only [timesP_len]; omega) (by simp only [maxLen, timesP_len]; omega) (by rw [timesP_succ, List.map_append]; exact congrArg (fun z => List.map iC (timesP d p k) ++ List.map iC [z]) (by unfold timeF; omega)) (by simp) rfl fun a35 c36 => ?_
   try dsimp only
   refine rS (AG rfl) <| r_nil <| k_block <| KK hK25 <| w_region <| rS (BI rfl (b_add ⟨by omega, by omega⟩)) <| rS (MV rfl) <| r_nil ?_
   have hb37 : (Value.int .i64 (((k + 1) : Nat) : Int)) = (Value.int .i64 (((k : Nat) : Int) + 1)) := by exact congrArg (Value.int .i64) (by omega)
   refine k_then (hJ21 ⟨((k + 1), a35, c36), (by first | omega | (simp only []; omega))⟩ _ _ _ rfl (by first | omega | (simp; omega)) (Sub.cons rfl <| Sub.cons rfl <| Sub.cons rfl <| Sub.cons rfl <| Sub.cons rfl <| Sub.cons rfl <| Sub.cons rfl <| Sub.cons rfl <| Sub.cons rfl <| Sub.cons rfl <| Sub.cons rfl <| sub_val rfl hb37 <| Sub.nil _) (fun w hs => St.sel [1, 2, 3, 4, 5, 6, 7, 8, 9] rfl rfl hs))
 replace hg44 := DT hg44
 refine w_region <| rS (MV rfl) <| rS (BI rfl (b_add ⟨by omega, by omega⟩)) <| rS (AG rfl) <| RK hK28 <| w_region <| rS (MV rfl) <| rS (FA 5 rfl fo63_3 rfl) <| rS (L1 (Value.int .i64 p.Delay) 1 rfl tk3 rfl rfl) <| rS (MV rfl) ?_
 refine rS (BI rfl (b_quo (by omega) (by omega) (by omega))) <| rS (BI rfl (b_add ⟨by omega, by omega⟩)) <| r_bs (xs := [.tmp 52]) (cs := [(Value.int .i64 (p.Delay + (((p.Pace * (farF d.Track p.Spot ((k : Nat) : Int))) + 1000) / 1000)))]) rfl te33 tz3 rfl rfl rfl rfl (by simp [Value.cells]) rfl rfl fun b30 => r_append (es2 := (List.map iC (timesP d p (k + 1)))) (m' := (timesP d p (k + 1)).length) 1 rfl rfl rfl ta33 rfl rfl (by simp) (has_rd_blk (es := List.map iC [(p.Delay + (((p.Pace * (farF d.Track p.Spot ((k : Nat) : Int))) + 1000) / 1000))]) 0 rfl rfl (by simp [iC_length]) rfl) (one_iC _) (by simp only [timesP_len]; omega) (by simp only [maxLen, timesP_len]; omega) (by rw [timesP_succ, List.map_append]; exact congrArg (fun z => List.map iC (timesP d p k) ++ List.map iC [z]) (by unfold timeF; omega)) (by simp) rfl fun a31 c32 => ?_
 try dsimp only
 refine rS (AG rfl) <| r_nil <| k_block <| KK hK25 <| w_region <| rS (BI rfl (b_add ⟨by omega, by omega⟩)) <| rS (MV rfl) <| r_nil ?_
 have hb33 : (Value.int .i64 (((k + 1) : Nat) : Int)) = (Value.int .i64 (((k : Nat) : Int) + 1)) := by exact congrArg (Value.int .i64) (by omega)
 refine k_then (hJ21 ⟨((k + 1), a31, c32), (by first | omega | (simp only []; omega))⟩ _ _ _ rfl (by first | omega | (simp; omega)) (Sub.cons rfl <| Sub.cons rfl <| Sub.cons rfl <| Sub.cons rfl <| Sub.cons rfl <| Sub.cons rfl <| Sub.cons rfl <| Sub.cons rfl <| Sub.cons rfl <| Sub.cons rfl <| Sub.cons rfl <| sub_val rfl hb33 <| Sub.nil _) (fun w hs => St.sel [1, 2, 3, 4, 5, 6, 7, 8, 9] rfl rfl hs))
end
section
open Go.RowKit
set_option linter.unusedVariables false
set_option maxRecDepth 100000 in
set_option maxHeartbeats 400000 in
theorem all_c (d : GuardM) (kA : Option Addr) (kC : Nat) (pA : Option Addr) (pC : Nat) (nA : Option Addr) (nC : Nat) (tA : Option Addr) (tN : Nat) (tC : Nat) (gw : Nat) (l : List Int) (lA : Option Addr) (lC : Nat) (hn : d.Posts.length ≤ 8) (hl : ∀ x ∈ l, 0 ≤ x ∧ x < (d.Posts.length : Int)) (hlen : l.length ≤ 1000000) :
    FnV Tryz.prog 25 [(Value.pointer (some ⟨gw, 0, none⟩)), (Value.slice lA l.length lC)] [(rd kA d.Track.length 9 (d.Track.map StretchV.cells)), (rd pA d.Posts.length 7 (d.Posts.map PostV.cells)), (rd nA d.Needs.length 3 (d.Needs.map NeedV.cells)), (blk gw 73 (WatchV.cells (WatchV.mk (GuardV.mk (TrackV.mk (Slc.mk kA d.Track.length kC)) (Slc.mk pA d.Posts.length pC) (Slc.mk nA d.Needs.length nC) d.Tower d.Radio) (Slc.mk tA tN tC)))), (rd lA l.length 1 (l.map iC))] (Value.int .i64 ((setAll d.Posts.length l : Nat) : Int)) := by
 have hp2 := pow_256 hn
 refine fnV_of go25 Tryz.func25 rfl rfl fun w0 Q hQ hN => ?_
 try dsimp only
 refine WS fun _ hK1 => rS (AG rfl) <| RK hK1 <| WS fun _ hK2 => rS (MV rfl) <| rS (SX (sd_nil_p rfl rfl) rfl rfl) <| rS (FA 0 rfl fo73_0 rfl) <| rS (FA 1 rfl fo32_1 rfl) <| rS (L1R (Value.slice pA d.Posts.length pC) 3 rfl tk25 rfl rfl) <| rS (LN rfl ut25) ?_
 refine rS (BI rfl (b_shl1 (i := d.Posts.length) (by omega) (by omega))) <| rS (BI rfl (b_sub ⟨by omega, by omega⟩)) <| rS (AG rfl) <| RK hK2 <| w_seq fun _ hK3 => WS fun _ hK4 => rS (MV rfl) <| rS (LN rfl ut33) <| rS (MV rfl) <| RK hK4 ?_
 refine w_block ?_
 have hinit : (0 ≤ l.length) := by exact Nat.zero_le _
 have hb5 : (Value.int .i64 ((setAll d.Posts.length (l.take 0) : Nat) : Int)) = (Value.int .i64 (((2 ^ d.Posts.length : Nat) : Int) - 1)) := by exact congrArg (Value.int .i64) (by show _ = ((2 ^ d.Posts.length : Nat) : Int) - 1; unfold setAll; simp only [List.take_zero, List.foldl_nil]; omega)
 refine w_loop (ι := { z : Nat // (z ≤ l.length) }) (fun z => [(5, (Value.int .i64 ((setAll d.Posts.length (l.take z.1) : Nat) : Int))), (16, (Value.slice lA l.length lC)), (17, (Value.int .i64 ((l.length : Nat) : Int))), (18, (Value.int .i64 ((z.1 : Nat) : Int)))]) (fun z => [(rd kA d.Track.length 9 (d.Track.map StretchV.cells)).ro, (rd pA d.Posts.length 7 (d.Posts.map PostV.cells)).ro, (rd nA d.Needs.length 3 (d.Needs.map NeedV.cells)).ro, (rd lA l.length 1 (l.map iC)).ro]) (fun z => l.length - z.1) ⟨0, hinit⟩ (sub_val rfl hb5 <| Sub.cons rfl <| Sub.cons rfl <| Sub.cons rfl <| Sub.nil _) (fun w hs => St.sel [0, 1, 2, 4] rfl rfl hs) ?_
 clear hinit
 rintro ⟨i, hl3_0⟩ J6 hJ6
 try dsimp only
 refine WS fun _ hK7 => rS (BI rfl b_lss) <| RK hK7 <| w_seq fun _ hK8 => ?_
 refine w_if rfl (fun h9 => ?_) (fun h9 => ?_)
 rotate_left 1
 · replace h9 := DF h9
   refine w_exit <| k_exit_then <| k_exit_then <| k_exit_same <| KK hK3 <| WS fun _ hK14 => rS (MV rfl) <| rS (AG rfl) <| RK hK14 <| w_ret ?_
   refine Q1 hQ rfl rfl rfl ?_
   rw [List.take_of_length_le (by omega)]
 replace h9 := DT h9
 refine WK hK8 <| w_seq fun _ hK10 => w_block <| WS fun _ hK11 => ?_
 obtain ⟨x, hx⟩ : ∃ y_, l[i]? = some y_ := ⟨l[i]'(by omega), List.getElem?_eq_getElem _⟩
 have hxm : (l.map iC)[i]? = some (iC x) := by rw [List.getElem?_map, hx]; rfl
 refine rS (IA i rfl (has_at 3 rfl) te33 (by decide) (by omega) (by omega)) <| rS (LE1 i 0 (Value.int .i64 x) rfl tk3 (has_at 3 rfl) hxm rfl (by decide) rfl) <| rS (AG rfl) <| RK hK11 <| w_region ?_
 have hxb := hl x (List.mem_of_getElem? hx)
 have hsb := setAll_b (l := l.take i) hn
 refine rS (MV rfl) <| rS (MV rfl) <| rS (BI rfl (b_shl1 (i := (x).toNat) (by omega) (by omega))) <| rS (BI rfl (b_andNot (s := (setAll d.Posts.length (l.take i))) (i := ((x).toNat)) (by omega) rfl (by omega) (by omega))) <| rS (AG rfl) <| r_nil <| k_block <| KK hK10 <| w_region <| rS (BI rfl (b_add ⟨by omega, by omega⟩)) ?_
 refine rS (MV rfl) <| r_nil ?_
 have hb12 : (Value.int .i64 ((setAll d.Posts.length (l.take (i + 1)) : Nat) : Int)) = (Value.int .i64 ((clrB (setAll d.Posts.length (l.take i)) ((x).toNat) : Nat) : Int)) := by rw [set_take hx]
 have hb13 : (Value.int .i64 (((i + 1) : Nat) : Int)) = (Value.int .i64 (((i : Nat) : Int) + 1)) := by exact congrArg (Value.int .i64) (by omega)
 refine k_then (hJ6 ⟨(i + 1), (by first | omega | (simp only []; omega))⟩ _ _ _ rfl (by first | omega | (simp; omega)) (sub_val rfl hb12 <| Sub.cons rfl <| Sub.cons rfl <| sub_val rfl hb13 <| Sub.nil _) (fun w hs => St.sel [0, 1, 2, 3] rfl rfl hs))
set_option maxRecDepth 100000 in
set_option maxHeartbeats 400000 in
theorem manned_c (d : GuardM) (kA : Option Addr) (kC : Nat) (pA : Option Addr) (pC : Nat) (nA : Option Addr) (nC : Nat) (l : List Int) (lA : Option Addr) (lC : Nat) (hin : GuardIn d) (hll : l.length ≤ 1000000) :
    FnX Tryz.prog 18 [(Value.agg (GuardV.cells (GuardV.mk (TrackV.mk (Slc.mk kA d.Track.length kC)) (Slc.mk pA d.Posts.length pC) (Slc.mk nA d.Needs.length nC) d.Tower d.Radio)).toArray), (Value.slice lA l.length lC)] [(rd kA d.Track.length 9 (d.Track.map StretchV.cells)), (rd pA d.Posts.length 7 (d.Posts.map PostV.cells)), (rd nA d.Needs.length 3 (d.Needs.map NeedV.cells)), (rd lA l.length 1 (l.map iC))] (fun (x : Bool × Int × Nat × (Option Addr) × Nat × (List RA)) => bif x.1 then (Value.tuple [(Value.pointer (some ⟨x.2.2.1, 0, none⟩)), (Value.int .i64 ((setAll d.Posts.length l : Nat) : Int)), (Value.int .i64 0)].toArray) else (Value.tuple [(Value.pointer none), (Value.int .i64 0), (Value.int .i64 x.2.1)].toArray)) (fun (x : Bool × Int × Nat × (Option Addr) × Nat × (List RA)) => (x.1 = true → (mannedE d l = 0 ∧ x.2.2.2.2.2.length = d.Posts.length)) ∧ (x.1 = false → (x.2.1 = mannedE d l ∧ ¬ mannedE d l = 0))) (fun (x : Bool × Int × Nat × (Option Addr) × Nat × (List RA)) => bif x.1 then [(blk x.2.2.1 73 (WatchV.cells (WatchV.mk (GuardV.mk (TrackV.mk (Slc.mk kA d.Track.length kC)) (Slc.mk pA d.Posts.length pC) (Slc.mk nA d.Needs.length nC) d.Tower d.Radio) (Slc.mk x.2.2.2.1 ((timesL d).length) x.2.2.2.2.1)))), (own x.2.2.2.1 x.2.2.2.2.1 33 1 (List.zipWith rowC (timesL d) x.2.2.2.2.2)), (bund (nest rowO (timesL d) x.2.2.2.2.2))] else []) := by
 have hlen := hin.trk
 have hside := hin.side
 have hpl := hin.pst
 have hnl := hin.nds
 have hnk := hin.nk
 have hpk := hin.pk
 refine fnX_of go18 Tryz.func18 rfl rfl fun w0 Q hQ hN => ?_
 try dsimp only
 refine WS fun _ hK1 => BXA rfl fun b2 => rS (AG rfl) <| rS (AG rfl) <| rS (AG rfl) <| RK hK1 <| WS fun _ hK3 => rS (LW 0 rfl tk32 rfl rfl) <| cX (popen_c d kA kC pA pC nA nC hin) (ha3 1 2 3 rfl rfl rfl rfl rfl rfl) rfl fun y4 hy5 => ?_
 obtain ⟨ok11, ec6, gw7, tA8, tC9, tz10⟩ := y4
 cases ok11
 · obtain ⟨hec, he⟩ := hy5.2 rfl
   try dsimp only at hec he
   subst hec
   try dsimp only [cond_true, cond_false, List.cons_append, List.nil_append]
   refine rS (MV rfl) <| rS (EX rfl) <| rS (EX rfl) <| rS (AG rfl) <| rS (AG rfl) <| RK hK3 <| w_seq fun _ hK12 => WS fun _ hK13 => rS (MV rfl) <| rS (BI rfl b_neq) ?_
   refine RK hK13 ?_
   refine w_if rfl (fun hg18 => ?_) (fun hg18 => ?_)
   rotate_left 1
   · replace hg18 := XF hg18
     exact absurd hg18 he
   replace hg18 := XT hg18
   refine WS fun _ hK14 => rS (MV rfl) <| rS (AG rfl) <| rS (AG rfl) <| rS (AG rfl) <| RK hK14 <| w_ret ?_
   refine hQ _ _ _ (l_nil (vs := [(Value.pointer none), (Value.int .i64 0), (Value.int .i64 (guardE d))]) ⟨rfl, rfl, rfl, trivial⟩ fun w hs => endX (false, (guardE d), 0, none, 0, []) [] ?_ ?_ rfl rfl (by first | rfl | (show List.all _ _ = true; simp only [cond_true, List.all_cons, List.all_nil, rowO_wr, Bool.and_true]; rfl)) hs)
   · rfl
   · refine ⟨fun q => Bool.noConfusion (show false = true from q), fun _ => ?_⟩; first | (have e := manned_bad (l := l) he; exact ⟨e.symm, fun q => he (e.symm.trans q)⟩) | (have e := manned_out (l := l) he (fun q => by have q1 := q i x hx; unfold EmptyAt at q1; omega); exact ⟨e.symm, fun q => absurd (e.symm.trans q) (by decide)⟩)
 obtain ⟨he, htz⟩ := hy5.1 rfl
 try dsimp only [cond_true, cond_false, List.cons_append, List.nil_append]
 refine rS (MV rfl) <| rS (EX rfl) <| rS (EX rfl) <| rS (AG rfl) <| rS (AG rfl) <| RK hK3 <| w_seq fun _ hK15 => WS fun _ hK16 => rS (MV rfl) <| rS (SX (sd_bin (r := .bool false) rfl rfl rfl b_neq) rfl rfl) ?_
 refine RK hK16 <| w_if_false rfl <| WK hK15 <| WS fun _ hK17 => rS (AG rfl) <| RK hK17 <| w_seq fun _ hK18 => WS fun _ hK19 => rS (MV rfl) <| rS (LN rfl ut33) ?_
 refine rS (MV rfl) <| RK hK19 <| w_block ?_
 have hinit : (0 ≤ l.length) ∧ (EmptyTo d.Posts.length l 0) := by exact ⟨Nat.zero_le _, empty_zero⟩
 have hb20 : (Value.int .i64 (prevE l 0)) = (Value.int .i64 (-1)) := by rw [prevE_zero]
 refine w_loop (ι := { z : Nat // (z ≤ l.length) ∧ (EmptyTo d.Posts.length l z) }) (fun z => [(1, (Value.slice lA l.length lC)), (2, (Value.pointer (some ⟨b2, 0, none⟩))), (7, (Value.pointer (some ⟨gw7, 0, none⟩))), (9, (Value.int .i64 (prevE l z.1))), (20, (Value.slice lA l.length lC)), (21, (Value.int .i64 ((l.length : Nat) : Int))), (22, (Value.int .i64 ((z.1 : Nat) : Int)))]) (fun z => [(blk gw7 73 (WatchV.cells (WatchV.mk (GuardV.mk (TrackV.mk (Slc.mk kA d.Track.length kC)) (Slc.mk pA d.Posts.length pC) (Slc.mk nA d.Needs.length nC) d.Tower d.Radio) (Slc.mk tA8 ((timesL d).length) tC9)))), (own tA8 tC9 33 1 (List.zipWith rowC (timesL d) tz10)), (bund (nest rowO (timesL d) tz10)), (blk b2 32 (GuardV.cells (GuardV.mk (TrackV.mk (Slc.mk kA d.Track.length kC)) (Slc.mk pA d.Posts.length pC) (Slc.mk nA d.Needs.length nC) d.Tower d.Radio))), (rd kA d.Track.length 9 (d.Track.map StretchV.cells)).ro, (rd pA d.Posts.length 7 (d.Posts.map PostV.cells)).ro, (rd nA d.Needs.length 3 (d.Needs.map NeedV.cells)).ro, (rd lA l.length 1 (l.map iC)).ro]) (fun z => l.length - z.1) ⟨0, hinit⟩ (Sub.cons rfl <| Sub.cons rfl <| Sub.cons rfl <| sub_val rfl hb20 <| Sub.cons rfl <| Sub.cons rfl <| Sub.cons rfl <| Sub.nil _) (fun w hs => St.sel [0, 1, 2, 3, 4, 5, 6, 7] rfl rfl hs) ?_
 clear hinit
 rintro ⟨i, ⟨hl6_0, hl6_1⟩⟩ J21 hJ21
 try dsimp only
 refine WS fun _ hK22 => rS (BI rfl b_lss) <| RK hK22 <| w_seq fun _ hK23 => ?_
 refine w_if rfl (fun h24 => ?_) (fun h24 => ?_)
 rotate_left 1
 · replace h24 := DF h24
   refine w_exit <| k_exit_then <| k_exit_then <| k_exit_same <| KK hK18 <| WS fun _ hK33 => ?_
   obtain ⟨htr, hok⟩ := guardE_zero he
   have hpn := hok.len
   have hem := empty_mem (empty_all hl6_1 (by omega))
   refine rS (MV rfl) <| rS (MV rfl) <| rS (MV rfl) <| rS (CL (all_c d kA kC pA pC nA nC tA8 ((timesL d).length) tC9 gw7 l lA lC (by omega) (by exact hem) (by omega)) (ha_at 4 rfl rfl <| ha_at 5 rfl rfl <| ha_at 6 rfl rfl <| ha_at 0 rfl rfl <| ha_at 7 rfl rfl <| ha_nil) rfl) <| rS (AG rfl) <| rS (AG rfl) <| rS (AG rfl) <| RK hK33 <| w_ret ?_
   refine hQ _ _ _ (l_nil (vs := [(Value.pointer (some ⟨gw7, 0, none⟩)), (Value.int .i64 ((setAll d.Posts.length l : Nat) : Int)), (Value.int .i64 0)]) ⟨rfl, rfl, rfl, trivial⟩ fun w hs => endX (true, 0, gw7, tA8, tC9, tz10) [0, 1, 2] ?_ ?_ rfl rfl (by first | rfl | (show List.all _ _ = true; simp only [cond_true, List.all_cons, List.all_nil, rowO_wr, Bool.and_true]; rfl)) hs)
   · rfl
   · exact ⟨fun _ => ⟨manned_in he (empty_all hl6_1 (by omega)), htz⟩, fun q => Bool.noConfusion (show true = false from q)⟩
 replace h24 := DT h24
 refine WK hK23 <| w_seq fun _ hK25 => w_block <| WS fun _ hK26 => ?_
 obtain ⟨x, hx⟩ : ∃ y_, l[i]? = some y_ := ⟨l[i]'(by omega), List.getElem?_eq_getElem _⟩
 have hxm : (l.map iC)[i]? = some (iC x) := by rw [List.getElem?_map, hx]; rfl
 refine rS (IA i rfl (has_at 7 rfl) te33 (by decide) (by omega) (by omega)) <| rS (LE1 i 0 (Value.int .i64 x) rfl tk3 (has_at 7 rfl) hxm rfl (by decide) rfl) <| rS (AG rfl) <| RK hK26 <| w_seq fun _ hK27 => WS fun _ hK28 => ?_
 have hpb := prevE_b hl6_0 hl6_1
 refine rS (MV rfl) <| rS (BI rfl (b_add ⟨by omega, by omega⟩)) <| rS (FA 1 rfl fo32_1 rfl) <| rS (L1 (Value.slice pA d.Posts.length pC) 3 rfl tk25 rfl rfl) <| rS (LN rfl ut25) <| rS (BI rfl (b_sub ⟨by omega, by omega⟩)) <| rS (MV rfl) <| r_bs (xs := [.tmp 32]) (cs := [(Value.int .i64 x)]) rfl te33 tz3 rfl rfl rfl rfl (by simp [Value.cells]) rfl rfl fun b29 => rS (CL (FnV.eq (in_post ((prevE l i) + 1) (((d.Posts.length : Nat) : Int) - 1) ([x]) (some ⟨b29, 0, none⟩) 1 (by first | assumption | omega | (simp; done) | (simp; omega))) inAll_one) (ha_cons (has_rd_blk 0 rfl rfl (by simp [iC_length]) rfl) <| ha_nil) rfl) <| rS (NT rfl) ?_
 refine RK hK28 ?_
 refine w_if rfl (fun hg35 => ?_) (fun hg35 => ?_)
 · replace hg35 := XT hg35
   refine WS fun _ hK30 => rS (AG rfl) <| rS (AG rfl) <| rS (AG rfl) <| RK hK30 <| w_ret ?_
   refine hQ _ _ _ (l_nil (vs := [(Value.pointer none), (Value.int .i64 0), (Value.int .i64 2)]) ⟨rfl, rfl, rfl, trivial⟩ fun w hs => endX (false, 2, 0, none, 0, []) [] ?_ ?_ rfl rfl (by first | rfl | (show List.all _ _ = true; simp only [cond_true, List.all_cons, List.all_nil, rowO_wr, Bool.and_true]; rfl)) hs)
   · rfl
   · refine ⟨fun q => Bool.noConfusion (show false = true from q), fun _ => ?_⟩; first | (have e := manned_bad (l := l) he; exact ⟨e.symm, fun q => he (e.symm.trans q)⟩) | (have e := manned_out (l := l) he (fun q => by have q1 := q i x hx; unfold EmptyAt at q1; omega); exact ⟨e.symm, fun q => absurd (e.symm.trans q) (by decide)⟩)
 replace hg35 := XF hg35
 refine WK hK27 <| w_region <| rS (MV rfl) <| rS (AG rfl) <| r_nil <| k_block <| KK hK25 <| w_region <| rS (BI rfl (b_add ⟨by omega, by omega⟩)) <| rS (MV rfl) ?_
 refine r_nil ?_
 have hb31 : (Value.int .i64 (prevE l (i + 1))) = (Value.int .i64 x) := by rw [prevE_succ hx]
 have hb32 : (Value.int .i64 (((i + 1) : Nat) : Int)) = (Value.int .i64 (((i : Nat) : Int) + 1)) := by exact congrArg (Value.int .i64) (by omega)
 refine k_then (hJ21 ⟨(i + 1), ⟨by omega, empty_succ hl6_1 hx (by unfold EmptyAt; omega)⟩⟩ _ _ _ rfl (by first | omega | (simp; omega)) (Sub.cons rfl <| Sub.cons rfl <| Sub.cons rfl <| sub_val rfl hb31 <| Sub.cons rfl <| Sub.cons rfl <| sub_val rfl hb32 <| Sub.nil _) (fun w hs => St.sel [1, 2, 3, 4, 5, 6, 7, 8] rfl rfl hs))
end
section
open Go.RowKit
set_option linter.unusedVariables false
def YlG {σ : Type} (w0 : World) (P : Program) (l : Nat) (step : σ → List Value → σ → Prop) (J : σ → Assn → Prop) (Z : Assn → Prop) : Prop :=
  ∀ k x k' A w, step k x k' → J k A → w0.heap.size ≤ w.heap.size → A.holds w → YieldAt (Fw none) 0 P l x.toArray w fun e w' =>
    (e = .returned (.bool true) ∧ ∃ B, J k' B ∧ Mv A B w w') ∨ (e = .returned (.bool false) ∧ ∃ B, Z B ∧ Mv A B w w')
def EndG {σ : Type} (J : σ → Assn → Prop) (Z : Assn → Prop) (fin : σ → Prop) (A0 : Assn) (w0 : World) (e : Ending) (w' : World) : Prop :=
  ∃ v, e = .returned v ∧ ((∃ s B, fin s ∧ J s B ∧ Mv A0 B w0 w') ∨ ∃ B, Z B ∧ Mv A0 B w0 w')
structure SeqG {σ : Type} (P : Program) (f : FuncId) (fi ca : List Value) (Cp : List Assn) (s0 : σ) (step : σ → List Value → σ → Prop) (fin : σ → Prop) : Prop where
  go : isGo P f = true
  run : ∀ (l : Nat) (J : σ → Assn → Prop) (Z : Assn → Prop) (A0 : Assn) (w : World), YlG w P l step J Z → J s0 A0 → A0.holds w → (∀ A ∈ Cp, A.holds w) → (∀ A ∈ Cp, Sep A0 A.ro) →
    Calls P f (fi ++ Value.func (.yield l) #[] #[] :: ca).toArray w (EndG J Z fin A0 w)
theorem endG {σ : Type} {J : σ → Assn → Prop} {Z : Assn → Prop} {n : σ} {fin : σ → Prop} {A0 B : Assn} {w0 w : World} {C : List Assn} {v : Value} (i : Nat) (hC : C[i]? = some B) (hfin : fin n) (hJ : J n B) (hF : Fo A0 w0 B) (hs : St ⟨A0.wf, fun _ => True⟩ w0 C w) : EndG J Z fin A0 w0 (.returned v) w :=
  ⟨v, rfl, .inl ⟨n, B, hfin, hJ, hs.holds B (List.mem_of_getElem? hC), hs.keeps, fun b hb => (hs.own B (List.mem_of_getElem? hC) b hb).symm, hF⟩⟩
theorem endGz {σ : Type} {J : σ → Assn → Prop} {Z : Assn → Prop} {fin : σ → Prop} {A0 B : Assn} {w0 w : World} {C : List Assn} {v : Value} (i : Nat) (hC : C[i]? = some B) (hJ : Z B) (hF : Fo A0 w0 B) (hs : St ⟨A0.wf, fun _ => True⟩ w0 C w) : EndG J Z fin A0 w0 (.returned v) w :=
  ⟨v, rfl, .inr ⟨B, hJ, hs.holds B (List.mem_of_getElem? hC), hs.keeps, fun b hb => (hs.own B (List.mem_of_getElem? hC) b hb).symm, hF⟩⟩
theorem seqG_of {σ : Type} {P : Program} {f : FuncId} {fn : Func} {c : Code} {fi ca : List Value} {Cp : List Assn} {s0 : σ} {step : σ → List Value → σ → Prop} {fin : σ → Prop} (hgo : isGo P f = true) (hf : P.funcs[f]? = some fn) (hb : fn.body = some c) (hn : Nat.ble (fi.length + ca.length + 1) fn.ntmps = true)
    (h : ∀ (l : Nat) (J : σ → Assn → Prop) (Z : Assn → Prop) (A0 : Assn) (w0 : World) (Q : Post), YlG w0 P l step J Z → J s0 A0 → Fo A0 w0 A0 →
      (∀ D L C, LJ ⟨P, none, fn.ntmps, ⟨A0.wf, fun _ => True⟩, w0⟩ fn (EndG J Z fin A0 w0) D L C → KJ ⟨P, none, fn.ntmps, ⟨A0.wf, fun _ => True⟩, w0⟩ (Q .ret) D L C) →
      (∀ D L C, LJ ⟨P, none, fn.ntmps, ⟨A0.wf, fun _ => True⟩, w0⟩ fn (EndG J Z fin A0 w0) D L C → KJ ⟨P, none, fn.ntmps, ⟨A0.wf, fun _ => True⟩, w0⟩ (Q .normal) D L C) →
      WJ ⟨P, none, fn.ntmps, ⟨A0.wf, fun _ => True⟩, w0⟩ c Q [] (fr0 (fi ++ Value.func (.yield l) #[] #[] :: ca)) (A0 :: Cp.map Assn.ro)) : SeqG P f fi ca Cp s0 step fin := by
  refine ⟨hgo, fun l J Z A0 w hY hJ hA hCp hsep => ?_⟩
  refine fn_of' hf hb (by simpa [Nat.add_assoc] using hn) (h l J Z A0 w · hY hJ (fun b hb => .inl hb)) ?_
  have h0 := ro_holds hCp
  refine ⟨Keeps.refl _ _, fun A hA' => ?_, List.Pairwise.cons (fun B hB => ?_) h0.sep, fun A hA' b hb => ?_, fun _ _ _ _ => .inr trivial⟩
  · rcases List.mem_cons.1 hA' with rfl | hA'
    · exact hA
    · exact h0.holds A hA'
  · obtain ⟨B', hB', rfl⟩ := List.mem_map.1 hB
    exact hsep B' hB'
  · rcases List.mem_cons.1 hA' with rfl | hA'
    · exact .inr hb
    · obtain ⟨B', hB', rfl⟩ := List.mem_map.1 hA'
      exact hb.elim
section
variable {E : Env} {ops : Array Oper} {Q : Post} {rest : List Oper} {D : List Deferred} {L : List (Nat × Value)} {C : List Assn}
variable {d : Nat} {ty : TypeId} {ps : String} {af : Array Edge} {g : Option (Nat × Bool)}
/-- a call of yield -/
theorem r_yieldG {σ : Type} {fop : Operand} {xs : Array Operand} {ts : Array TypeId} {l : Nat} {k k' : σ} {vs : List Value} {step : σ → List Value → σ → Prop} {J : σ → Assn → Prop} {Z : Assn → Prop} {A0 A : Assn} {w1 : World} (i : Nat) (hw1 : w1.heap.size ≤ E.w0.heap.size) (hY : YlG w1 E.P l step J Z) (hJ : J k A) (hF : Fo A0 w1 A) (hg : gOn ops L g = true) (hf : ev L fop = some (.func (.yield l) #[] #[]))
    (hx : evs L xs.toList = some vs) (hk : step k vs k') (hC : C[i]? = some A) (hd : Nat.blt d E.n = true)
    (k1 : ∀ B, J k' B → Fo A0 w1 B → RJ E ops Q rest D ((d, .bool true) :: L) (C.set i B))
    (k2 : ∀ B, Z B → Fo A0 w1 B → RJ E ops Q rest D ((d, .bool false) :: L) (C.set i B)) :
    RJ E ops Q (⟨some d, .call { callee := .value fop, args := xs, argTypes := ts }, ty, ps, af, g⟩ :: rest) D L C := by
  intro a w hfr hs
  have hd' : d < E.n := by rw [← Nat.blt_eq]; exact hd
  unfold wpL
  rw [if_pos (gOn_wanted hfr hg)]
  have h1 : xs.map a.eval = vs.toArray := by
    have := hfr.evs hx
    apply Array.ext'
    simp [this]
  obtain ⟨fn, tmps, assign, body, hy, hr⟩ := hY k vs k' A w hk hJ (Nat.le_trans hw1 hs.keeps.size) (hs.holds A (List.mem_of_getElem? hC))
  have hrun : (execOp a.eval ⟨some d, .call { callee := .value fop, args := xs, argTypes := ts }, ty, ps, af, g⟩).run E.P w = .ok (.round l fn tmps assign body) w := by
    simp [execOp, resolve, hfr.ev hf, Deferred.ofValue, invoke, h1, hy]
  refine ⟨fun _ _ => trivial, ?_⟩
  rw [Oper.semAt_eq _ _ _ (by simp), hrun]
  refine ⟨fun h => by simp at h, ?_⟩
  have hfo : ∀ (B : Assn) (w' : World), Mv A B w w' → Fo A0 w1 B := fun B w' m b hb => by
    rcases m.foot b hb with h2 | h2
    · exact hF b h2
    · exact .inr (Nat.le_trans hw1 (Nat.le_trans hs.keeps.size h2))
  have hr' : RoundIn (Fw E.r) 0 E.P l fn tmps assign body w _ := hr
  refine hr'.mono fun e w' he => ?_
  rcases he with ⟨rfl, B, hB, m⟩ | ⟨rfl, B, hB, m⟩
  · exact k1 B hB (hfo B w' m) _ _ (hfr.put hd' _) (hs.mv i hC m)
  · exact k2 B hB (hfo B w' m) _ _ (hfr.put hd' _) (hs.mv i hC m)
end
theorem w_rangeG {σ : Type} {E : Env} {Q : Post} {D : List Deferred} {L L0 : List (Nat × Value)} {C F : List Assn} {g : Operand} {ps : Array Tmp} {assign body : Code} {f : FuncId} {fi ca : List Value} {Cp : List Assn} {s0 : σ} {step : σ → List Value → σ → Prop} {fin_ : σ → Prop} {ι κ : Type}
    (inv : σ → ι → Prop) (Ci : σ → ι → List Assn) (invx : Code → κ → Prop) (Cx : Code → κ → List Assn) (isJ isF : List Nat) (y0 : ι)
    (hr : E.r = none) (hg : ev L g = some (.func (.func f) fi.toArray ca.toArray)) (hs : SeqG E.P f fi ca Cp s0 step fin_)
    (hnd : decide (isJ ++ isF).Nodup = true) (hJ : sel C isJ = Ci s0 y0) (hF : sel C isF = F) (h0 : inv s0 y0) (hCp : ∀ A ∈ Cp, ∃ B ∈ F, Cov B A)
    (hps : ∀ k x k', step k x k' → x.length = ps.size) (hpn : ps.toList.all (fun t => Nat.blt t E.n) = true) (hL : Sub L L0)
    (round : ∀ (k : σ) (x : List Value) (k' : σ) (y : ι) (l : Nat) (ra rb : Loop) (S : BS) (w0 : World) (K : Act → World → Prop) (Qr : Post), E.w0.heap.size ≤ w0.heap.size → step k x k' → inv k y →
      (∀ L' C', WJ ⟨E.P, some l, E.n, S, w0⟩ body Qr [] L' (obj l (.loop rb) :: C') → KJ ⟨E.P, some l, E.n, S, w0⟩ K [] L' (obj l (.loop ra) :: C')) →
      (∀ y' L' C', inv k' y' → (∀ w, St S w0 C' w → St S w0 (obj l (.loop rb) :: Ci k' y') w) → KJ ⟨E.P, some l, E.n, S, w0⟩ (Qr .normal) [] L' C') →
      (∀ id z L' C', invx (.exit id) z → (∀ w, St S w0 C' w → St S w0 (obj l (.loop rb) :: Cx (.exit id) z) w) → KJ ⟨E.P, some l, E.n, S, w0⟩ (Qr (.exit id)) [] L' C') →
      (∀ z L' C', invx .ret z → (∀ w, St S w0 C' w → St S w0 (obj l (.loop rb) :: Cx .ret z) w) → KJ ⟨E.P, some l, E.n, S, w0⟩ (Qr .ret) [] L' C') →
      WJ ⟨E.P, some l, E.n, S, w0⟩ assign (Exit.then K (fun _ _ _ => False)) [] (parL ps.toList x L0) (obj l (.loop ra) :: Ci k y))
    (fin : ∀ r s y, fin_ s → inv s y → KJ E (Q .normal) (mark r :: D) L0 (obj r (.deferred (some [])) :: (F ++ Ci s y)))
    (finx : ∀ r id z, invx (.exit id) z → KJ E (Q (.exit id)) (mark r :: D) L0 (obj r (.deferred (some [])) :: (F ++ Cx (.exit id) z)))
    (finr : ∀ r z, invx .ret z → KJ E (Q .ret) (mark r :: D) L0 (obj r (.deferred (some [])) :: (F ++ Cx .ret z))) : WJ E (.rangeFunc g ps assign body) Q D L C := by
  intro a w hf hst
  refine wpIn_rangeFunc fun fn _ => ?_
  show ∃ l mark w₁ d w₁' f args w₂, (Instr.enterLoop fn a.tmps ps assign body E.r).run E.P w = .ok (l, mark) w₁ ∧ _
  rw [hr]
  obtain ⟨rec, hrec⟩ : ∃ rec : LoopState → Option Code → Loop, rec = fun st pe => { state := st, pending := pe, fn, tmps := a.tmps, params := ps, assign, body, defers := w.heap.size } := ⟨_, rfl⟩
  obtain ⟨W1, hW1⟩ : ∃ W1, (w.alloc (.deferred (some []))).alloc (.loop (rec .ready none)) = W1 := ⟨_, rfl⟩
  have hev : a.eval g = .func (.func f) fi.toArray ca.toArray := hf.ev hg
  have hent : (Instr.enterLoop fn a.tmps ps assign body none).run E.P w = .ok (w.heap.size + 1, [mark w.heap.size]) W1 := by
    rw [← hW1, hrec]; exact run_enterLoop_outer _ _ _ _ _
  -- the state with the record and the block
  have hst1 : St E.S E.w0 ((obj (w.heap.size + 1) (.loop (rec .ready none)) :: Ci s0 y0) ++ (obj w.heap.size (.deferred (some [])) :: F)) W1 := by
    have h1 : St E.S E.w0 (Ci s0 y0 ++ F) w := St.sel (isJ ++ isF) hnd (by have h1 := hJ; have h2 := hF; unfold Go.Proofs.YtlncplfcbmcjgaaGreat.sel at h1 h2 ⊢; rw [List.filterMap_append, h1, h2]) hst
    have hn : New w W1 [obj (w.heap.size + 1) (.loop (rec .ready none)), obj w.heap.size (.deferred (some []))] := by
      refine ⟨fun A hA => ?_, fun A hA b hb => ?_, ?_⟩
      · rcases List.mem_cons.1 hA with rfl | hA
        · show W1.heap[w.heap.size + 1]? = _
          rw [← hW1]; have := World.alloc_heap_new (w.alloc (.deferred (some []))) (.loop (rec .ready none)); rwa [World.size_alloc] at this
        · simp only [List.mem_singleton] at hA; subst hA
          show W1.heap[w.heap.size]? = _
          rw [← hW1]; exact (Below.heap_alloc _ _ _ (by simp)).trans (World.alloc_heap_new w _)
      · rcases List.mem_cons.1 hA with rfl | hA
        · have : b = w.heap.size + 1 := hb
          omega
        · simp only [List.mem_singleton] at hA; subst hA
          have : b = w.heap.size := hb
          omega
      · refine List.Pairwise.cons (fun B hB b h1 h2 => ?_) (List.pairwise_singleton _ _)
        simp only [List.mem_singleton] at hB; subst hB
        have e1 : b = w.heap.size + 1 := h1
        have e2 : b = w.heap.size := h2
        omega
    have hk : Keeps no w W1 := by rw [← hW1]; exact (Keeps.alloc no w _).trans (Keeps.alloc no _ _)
    have h2 := h1.grow hk hn
    refine h2.perm ?_
    simp only [List.cons_append, List.nil_append]
    exact List.Perm.cons _ (List.perm_middle.symm)
  have hb1 := hst1.tied
  obtain ⟨hs1, hs2⟩ := List.pairwise_cons.1 hb1.sep
  have hA0 := hb1.holds _ (List.mem_cons_self ..)
  let J : σ → Assn → Prop := fun k A => ∃ y, inv k y ∧ A = bund (obj (w.heap.size + 1) (.loop (rec .ready none)) :: Ci k y)
  let Z : Assn → Prop := fun A => ∃ c z, (c = .ret ∨ ∃ id, c = .exit id) ∧ invx c z ∧ A = bund (obj (w.heap.size + 1) (.loop (rec .done (some c))) :: Cx c z)
  refine ⟨w.heap.size + 1, [mark w.heap.size], W1, { target := .fn (.func f) ca.toArray, args := fi.toArray ++ #[.func (.yield (w.heap.size + 1)) #[] #[]] }, W1, f,
    (fi ++ Value.func (.yield (w.heap.size + 1)) #[] #[] :: ca).toArray, W1, hent, ?_, fun _ _ => trivial, ?_, fun h => by simp at h, ?_⟩
  · simp only [resolve, hev]
    simp [Deferred.ofValue, Act.eval]
  · have : fi.toArray ++ #[Value.func (.yield (w.heap.size + 1)) #[] #[]] ++ ca.toArray = (fi ++ Value.func (.yield (w.heap.size + 1)) #[] #[] :: ca).toArray := by simp
    simp [invoke, run_callFunc hs.go]
  · refine (calls_in E.r (hs.run (w.heap.size + 1) J Z _ W1 ?_ ⟨y0, h0, rfl⟩ hA0 ?_ ?_)).mono ?_
    · -- a round
      rintro k x k' A W hx ⟨y, hy, rfl⟩ hWs hA
      have hl : W.heap[w.heap.size + 1]? = some (.loop (rec .ready none)) := hA.1 _ (List.mem_cons_self ..)
      have hyl := run_yield (P := E.P) (args := x.toArray) hl (by rw [hrec]; simpa using hps k x k' hx)
      rw [hrec] at hyl
      refine ⟨fn, _, assign, body, hyl, roundIn_of_wpIn trivial ?_⟩
      let A : Assn := bund (obj (w.heap.size + 1) (.loop (rec .ready none)) :: Ci k y)
      have hfr : Fr E.n [] (parL ps.toList x L0) { tmps := (ps.zip x.toArray).foldl (fun tmps (t, a) => tmps.setIfInBounds t a) a.tmps, defers := [] } := by
        have h1 := fr_par ps.toList x L0 a.tmps (fun t ht => by have := List.all_eq_true.1 hpn t ht; rwa [Nat.blt_eq] at this) ⟨rfl, hf.size, fun t v hv => hf.at_ t v (hL t v hv)⟩
        rw [← Array.foldl_toList]
        simpa using h1
      have hbusy : ∀ (c : Option Code) (b : Bool), ({ rec .busy none with state := if b then .ready else .done, pending := c } : Loop) = rec (if b then .ready else .done) c := fun c b => by rw [hrec]
      have hend : ∀ (c : Option Code) (w1 : World) (C' : List Assn) (S : BS), St S W (obj (w.heap.size + 1) (.loop (rec .busy none)) :: C') w1 →
          ∃ w2, (Instr.endRound (w.heap.size + 1) c).run E.P w1 = .ok (.bool c.isNone) w2 ∧ St S W (obj (w.heap.size + 1) (.loop (rec (if c.isNone then .ready else .done) c)) :: C') w2 := fun c w1 C' S hs1 => by
        have hl1 : w1.heap[w.heap.size + 1]? = some (.loop (rec .busy none)) := hs1.holds _ (List.mem_cons_self ..)
        refine ⟨_, run_endRound c hl1, ?_⟩
        have := hs1.upd (b := w.heap.size + 1) (A' := obj (w.heap.size + 1) (.loop (rec (if c.isNone then .ready else .done) c))) 0 rfl rfl rfl (keeps_putObj _) (fun _ h => h) (World.putObj_heap_same (lt_of_heap hl1))
        rw [hbusy]
        exact this
      refine round k x k' y (w.heap.size + 1) (rec .ready none) (rec .busy none) ⟨A.wf, A.foot⟩ W _ (roundPost E.P (w.heap.size + 1) (fun e w' => (e = .returned (.bool true) ∧ ∃ B, J k' B ∧ Mv A B W w') ∨ (e = .returned (.bool false) ∧ ∃ B, Z B ∧ Mv A B W w'))) (Nat.le_trans (Nat.le_trans hst.keeps.size (by rw [← hW1]; simp; omega)) hWs) hx hy ?_ ?_ ?_ ?_ _ _ hfr (St.of_bund hA)
      · intro L' C' hW a1 w1 hf1 hs1
        have hl1 : w1.heap[w.heap.size + 1]? = some (.loop (rec .ready none)) := hs1.holds _ (List.mem_cons_self ..)
        refine ⟨_, run_beginRound hl1 (by rw [hrec]), hW _ _ hf1 ?_⟩
        have := hs1.upd (b := w.heap.size + 1) (A' := obj (w.heap.size + 1) (.loop (rec .busy none))) 0 rfl rfl rfl (keeps_putObj _) (fun _ h => h) (World.putObj_heap_same (lt_of_heap hl1))
        have e : ({ rec .ready none with state := .busy } : Loop) = rec .busy none := by rw [hrec]
        rw [e]; exact this
      · intro y' L' C' hy' hC' a1 w1 hf1 hs1
        obtain ⟨w2, e1, e2⟩ := hend none w1 _ _ (hC' _ hs1)
        exact ⟨_, w2, e1, .inl ⟨rfl, _, ⟨y', hy', rfl⟩, Mv.of e2⟩⟩
      · intro id z L' C' hz hC' a1 w1 hf1 hs1
        obtain ⟨w2, e1, e2⟩ := hend (some (.exit id)) w1 _ _ (hC' _ hs1)
        exact ⟨_, w2, e1, .inr ⟨rfl, _, ⟨_, z, .inr ⟨id, rfl⟩, hz, rfl⟩, Mv.of e2⟩⟩
      · intro z L' C' hz hC' a1 w1 hf1 hs1
        obtain ⟨w2, e1, e2⟩ := hend (some .ret) w1 _ _ (hC' _ hs1)
        exact ⟨_, w2, e1, .inr ⟨rfl, _, ⟨_, z, .inl rfl, hz, rfl⟩, Mv.of e2⟩⟩
    · intro A hA
      obtain ⟨B, hB, hc⟩ := hCp A hA
      exact hc.holds _ (hb1.holds B (List.mem_cons_of_mem _ (List.mem_cons_of_mem _ hB)))
    · intro A hA b hb hb'
      obtain ⟨B, hB, hc⟩ := hCp A hA
      exact ⟨(hs1 B (List.mem_cons_of_mem _ hB) b hb (hc.foot b hb')).1, fun h => h⟩
    · rintro e w' ⟨v, rfl, hh⟩
      have hfin : Fr E.n (mark w.heap.size :: D) L0 { a with defers := [mark w.heap.size] ++ a.defers } := ⟨by simp [hf.defers], hf.size, fun t v hv => hf.at_ t v (hL t v hv)⟩
      have hleave : ∀ (st : LoopState) (c : Option Code) (C' : List Assn), st ≠ .busy → Mv (bund (obj (w.heap.size + 1) (.loop (rec .ready none)) :: Ci s0 y0)) (bund (obj (w.heap.size + 1) (.loop (rec st c)) :: C')) W1 w' →
          ∃ w2, (Instr.endLoop (w.heap.size + 1)).run E.P w' = .ok c w2 ∧ St E.S E.w0 (obj w.heap.size (.deferred (some [])) :: (F ++ C')) w2 := fun st c C' hne m => by
        have h1 := (hb1.mv 0 rfl m).untied
        have h1' : St E.S E.w0 ((obj (w.heap.size + 1) (.loop (rec st c)) :: C') ++ (obj w.heap.size (.deferred (some [])) :: F)) w' := h1
        have hl1 : w'.heap[w.heap.size + 1]? = some (.loop (rec st c)) := h1'.holds (obj (w.heap.size + 1) (.loop (rec st c))) (by simp)
        refine ⟨_, by have := run_endLoop (P := E.P) hl1 (by rw [hrec]; exact hne); rw [this, hrec], ?_⟩
        have h2 := h1'.upd (b := w.heap.size + 1) (A' := obj (w.heap.size + 1) (.loop { rec st c with state := .exhausted })) 0 rfl rfl rfl (keeps_putObj _) (fun _ h => h) (World.putObj_heap_same (lt_of_heap hl1))
        have h3 : St E.S E.w0 (C' ++ (obj w.heap.size (.deferred (some [])) :: F)) _ := h2.take (List.sublist_cons_self _ _)
        rw [hrec] at h3
        refine h3.perm ?_
        exact (List.perm_append_comm).trans (by simp)
      rcases hh with ⟨s, B, hfs, ⟨y, hy, rfl⟩, m⟩ | ⟨B, ⟨c, z, hc, hz, rfl⟩, m⟩
      · obtain ⟨w2, e1, e2⟩ := hleave .ready none _ (by simp) m
        exact ⟨none, w2, e1, fin w.heap.size s y hfs hy _ _ hfin e2⟩
      · obtain ⟨w2, e1, e2⟩ := hleave .done (some c) _ (by simp) m
        refine ⟨some c, w2, e1, ?_⟩
        rcases hc with rfl | ⟨id, rfl⟩
        · exact wpIn_ret (finr w.heap.size z hz _ _ hfin e2)
        · exact wpIn_exit (finx w.heap.size id z hz _ _ hfin e2)
end
section
open Go.RowKit
set_option linter.unusedVariables false
set_option linter.unusedSectionVars false
theorem gkey_int {P : Program} {kt : Nat} (hk : P.underlying kt = some (.int .i64)) : GKey P kt (Value.int .i64) := by
  refine ⟨fun e x w => run_check hk e, fun x w es hall => ?_, fun x => by simp [Instr.sameBits], fun x y h => by injection h⟩
  have key : ∀ (es : List MapEntry) (i : Nat), (∀ e ∈ es, ∃ k : Int, e.key = .int .i64 k) → (Instr.findNow (.int .i64) (.int .i64 x) es i = some none ∧ ∀ e ∈ es, e.key ≠ .int .i64 x) ∨ ∃ j e, Instr.findNow (.int .i64) (.int .i64 x) es i = some (some (i + j, e.val)) ∧ es[j]? = some e ∧ e.key = .int .i64 x := by
    intro es
    induction es with
    | nil => intro i _; exact .inl ⟨rfl, by simp⟩
    | cons e es ih =>
      intro i hall
      obtain ⟨k, hek⟩ := hall e (by simp)
      by_cases h : x = k
      · subst h
        exact .inr ⟨0, e, by simp [Instr.findNow, Instr.sameNow, hek], rfl, hek⟩
      · have hb : (x == k) = false := by simpa using h
        rcases ih (i + 1) (fun y hy => hall y (by simp [hy])) with ⟨h1, h2⟩ | ⟨j, e', h1, h2, h3⟩
        · refine .inl ⟨by simp [Instr.findNow, Instr.sameNow, hek, hb, h1], fun y hy => ?_⟩
          rcases List.mem_cons.1 hy with rfl | hy
          · rw [hek]; intro q; injection q with _ q; exact h q.symm
          · exact h2 y hy
        · refine .inr ⟨j + 1, e', ?_, by simpa using h2, h3⟩
          simp only [Instr.findNow, Instr.sameNow, hek, hb, if_true, h1]
          simp; omega
  rcases key es 0 hall with ⟨h1, h2⟩ | ⟨j, e, h1, h2, h3⟩
  · exact .inl ⟨MapKept.run_findKey hk h1, h2⟩
  · exact .inr ⟨j, e, MapKept.run_findKey hk (by simpa using h1), h2, h3⟩
section
variable {K : Type} [DecidableEq K] {kV : K → Value}
section
variable {E : Env} {ops : Array Oper} {Q : Post} {rest : List Oper} {D : List Deferred} {L : List (Nat × Value)} {C : List Assn}
variable {dst : Option Tmp} {d : Nat} {ty : TypeId} {ps : String} {af : Array Edge} {g : Option (Nat × Bool)}
end
end
end
section
open Go.RowKit
set_option linter.unusedVariables false
abbrev defd (r : Nat) : Assn := obj r (.deferred (some []))
theorem w_loopD {E : Env} {c : Code} {Q : Post} {D : List Deferred} {L : List (Nat × Value)} {C : List Assn} {ι : Type} (Di : ι → List Deferred) (Li : ι → List (Nat × Value)) (Ci : ι → List Assn) (μ : ι → Nat) (x0 : ι)
    (hD : D = Di x0) (h0 : Sub L (Li x0)) (hC : ∀ w, St E.S E.w0 C w → St E.S E.w0 (Ci x0) w)
    (round : ∀ x (J : Act → World → Prop), (∀ y D' L' C', D' = Di y → μ y < μ x → Sub L' (Li y) → (∀ w, St E.S E.w0 C' w → St E.S E.w0 (Ci y) w) → KJ E J D' L' C') → WJ E c (Exit.then J Q) (Di x) (Li x) (Ci x)) : WJ E (.loop c) Q D L C := by
  intro a w hf hs
  subst hD
  have hst : ∃ x, Fr E.n (Di x) (Li x) a ∧ St E.S E.w0 (Ci x) w := ⟨x0, hf.sub h0, hC w hs⟩
  clear hf hs
  have key : ∀ (m : Nat) (a : Act) (w : World), (∃ x, μ x = m ∧ Fr E.n (Di x) (Li x) a ∧ St E.S E.w0 (Ci x) w) → (Code.loop c).wpIn (Fw E.r) 0 E.P Q a w := by
    intro m a w hx
    refine wpIn_loop (fun a w => ∃ x, Fr E.n (Di x) (Li x) a ∧ St E.S E.w0 (Ci x) w) (fun a w => leastOf fun k => ∃ x, μ x = k ∧ Fr E.n (Di x) (Li x) a ∧ St E.S E.w0 (Ci x) w) (by obtain ⟨x, _, h⟩ := hx; exact ⟨x, h⟩) ?_
    intro a w hx
    have hex : ∃ k, ∃ x, μ x = k ∧ Fr E.n (Di x) (Li x) a ∧ St E.S E.w0 (Ci x) w := by obtain ⟨x, h⟩ := hx; exact ⟨_, x, rfl, h⟩
    obtain ⟨x, hxm, hxf, hxs⟩ := (leastOf_spec hex).1
    refine round x _ ?_ a w hxf hxs
    intro y D' L' C' hD hlt hsub hcc a' w' hf' hs'
    subst hD
    refine ⟨⟨y, hf'.sub hsub, hcc _ hs'⟩, ?_⟩
    rw [← hxm]
    exact Nat.lt_of_le_of_lt ((leastOf_spec ⟨_, y, rfl, hf'.sub hsub, hcc _ hs'⟩).2 _ ⟨y, rfl, hf'.sub hsub, hcc _ hs'⟩) hlt
  obtain ⟨x, h⟩ := hst
  exact key _ a w ⟨x, rfl, h⟩
theorem St.tief {S : BS} {w0 w : World} {C X : List Assn} {A : Assn} (h : St S w0 (A :: bund X :: C) w) : St S w0 (bund (A :: X) :: C) w := by
  have h1 : St S w0 (bund X :: A :: C) w := h.perm (List.Perm.swap _ _ _)
  have h2 : St S w0 ((A :: X) ++ C) w := h1.untied.perm (List.perm_middle (a := A) (l₁ := X) (l₂ := C))
  exact h2.tied
theorem k_tief {E : Env} {K : Act → World → Prop} {D : List Deferred} {L : List (Nat × Value)} {C C1 X : List Assn} {A : Assn} (i j : Nat) (hn : decide (j :: i :: (List.range C.length).filter fun k => k != i && k != j).Nodup = true) (hC : sel C (j :: i :: (List.range C.length).filter fun k => k != i && k != j) = A :: bund X :: C1)
    (h : KJ E K D L (bund (A :: X) :: C1)) : KJ E K D L C := fun a w hf hs => h a w hf ((St.sel _ hn hC hs).tief)
theorem l_marks {E : Env} {fn : Func} {R : Ending → World → Prop} {D : List Deferred} {L : List (Nat × Value)} {C C1 : List Assn} {rs : List Nat} (i : Nat) (hn : decide (i :: (List.range C.length).filter fun k => k != i).Nodup = true) (hC : sel C (i :: (List.range C.length).filter fun k => k != i) = bund (rs.map defd) :: C1)
    (h : LJ E fn R D L C1) : LJ E fn R (rs.map mark ++ D) L C := by
  have key : ∀ rs : List Nat, LJ E fn R (rs.map mark ++ D) L (bund (rs.map defd) :: C1) := by
    intro rs
    induction rs with
    | nil => exact fun a w hf hs => h a w hf (hs.take (List.sublist_cons_self _ _))
    | cons r rs ih =>
      have h2 : LJ E fn R (mark r :: (rs.map mark ++ D)) L (defd r :: bund (rs.map defd) :: C1) := l_mark 0 rfl rfl (fun a w hf hs => ih a w hf (hs.take (List.sublist_cons_self _ _)))
      intro a w hf hs
      refine h2 a w hf ?_
      have h3 : St E.S E.w0 ((defd r :: rs.map defd) ++ C1) w := St.untied (C1 := defd r :: rs.map defd) hs
      have h4 : St E.S E.w0 (rs.map defd ++ (defd r :: C1)) w := h3.perm (List.perm_middle (a := defd r) (l₁ := rs.map defd) (l₂ := C1)).symm
      exact h4.tied.perm (List.Perm.swap _ _ _)
  exact fun a w hf hs => key rs a w hf (St.sel _ hn hC hs)
theorem l_marks0 {E : Env} {fn : Func} {R : Ending → World → Prop} {L : List (Nat × Value)} {C C1 : List Assn} {rs : List Nat} (i : Nat) (hn : decide (i :: (List.range C.length).filter fun k => k != i).Nodup = true) (hC : sel C (i :: (List.range C.length).filter fun k => k != i) = bund (rs.map defd) :: C1)
    (h : LJ E fn R [] L C1) : LJ E fn R (rs.map mark) L C := by
  have := l_marks (D := []) i hn hC h
  rwa [List.append_nil] at this
end
section
open Go.RowKit
set_option linter.unusedVariables false
section
variable {K : Type} [DecidableEq K] {kV : K → Value}
variable {E : Env} {ops : Array Oper} {Q : Post} {rest : List Oper} {D : List Deferred} {L : List (Nat × Value)} {C : List Assn}
variable {ty : TypeId} {ps : String} {af : Array Edge} {g : Option (Nat × Bool)}
theorem gr_mapdel0 {t kt et : TypeId} {xm xk : Operand} {ts : Array TypeId} {b : Nat} {x : K} {m m' : List (K × Value)} {C' : List Assn} (i : Nat) (hg : gOn ops L g = true) (hm : ev L xm = some (.map (some b))) (hk : ev L xk = some (kV x)) (hts : ts[0]? = some t)
    (ht : E.P.underlying t = some (.map kt et)) (hkt : GKey E.P kt kV) (hC : C[i]? = some (gmp kV b m)) (hm' : gdelK m x = m') (hC' : C.set i (gmp kV b m') = C') (k : RJ E ops Q rest D L C') :
    RJ E ops Q (⟨none, .call { callee := .builtin .delete, args := #[xm, xk], argTypes := ts }, ty, ps, af, g⟩ :: rest) D L C := by
  subst hm' hC'
  intro a w hfr hs
  unfold wpL
  rw [if_pos (gOn_wanted hfr hg)]
  obtain ⟨es, c, he, hi⟩ := hs.holds _ (List.mem_of_getElem? hC)
  have hget : (getObj b).run E.P w = .ok (.map es c) w := MapKept.run_getObj_map he
  rcases grun_find (P := E.P) (w := w) (x := x) hkt hi with ⟨h1, h2⟩ | ⟨j, v0, h1, h2, h3⟩
  · refine wp_value (v := .tuple #[]) (w' := { w with heap := w.heap.setIfInBounds b (.map es c) }) (by simp) ?_ ?_
    · simp [execOp, resolve, invoke, builtin, hfr.ev hm, hfr.ev hk, Builtin.delete_, hts, run_underlying ht, hget, grun_check hkt, h1, MapKept.run_setObj_map _ he]
    · refine k _ _ ⟨hfr.defers, hfr.size, hfr.at_⟩ (hs.upd (b := b) i hC rfl rfl (keeps_set _) (fun _ h => h) ⟨_, _, heap_set he, ?_⟩)
      rw [gdelK_self h2]; exact hi
  · refine wp_value (v := .tuple #[]) (w' := { w with heap := w.heap.setIfInBounds b (.map (es.eraseIdxIfInBounds j) c) }) (by simp) ?_ ?_
    · simp [execOp, resolve, invoke, builtin, hfr.ev hm, hfr.ev hk, Builtin.delete_, hts, run_underlying ht, hget, grun_check hkt, h1, MapKept.run_setObj_map _ he]
    · exact k _ _ ⟨hfr.defers, hfr.size, hfr.at_⟩ (hs.upd (b := b) i hC rfl rfl (keeps_set _) (fun _ h => h) ⟨_, _, heap_set he, hi.del h2⟩)
end
end
section
open Go.RowKit
set_option linter.unusedVariables false
set_option maxRecDepth 100000 in
set_option maxHeartbeats 400000 in
theorem hear1_c (d : GuardM) (kA : Option Addr) (kC : Nat) (pA : Option Addr) (pC : Nat) (nA : Option Addr) (nC : Nat) (tA : Option Addr) (tN : Nat) (tC : Nat) (gw : Nat) (m : BM) (P : Nat → Prop) (gm : Nat) (s : SpotV) (g1 : Nat) (g2 : Nat) (g3 : Nat) (hin : GuardIn d) (htr : trackOk d.Track = true) (hok : GuardOk d) (hss : SpotOk d.Track s) (hm : KeyOk m P) :
    SeqG Tryz.prog 67 [] [(Value.pointer (some ⟨g1, 0, none⟩)), (Value.pointer (some ⟨g2, 0, none⟩)), (Value.pointer (some ⟨g3, 0, none⟩))] [(rd kA d.Track.length 9 (d.Track.map StretchV.cells)), (rd pA d.Posts.length 7 (d.Posts.map PostV.cells)), (rd nA d.Needs.length 3 (d.Needs.map NeedV.cells)), (blk gw 73 (WatchV.cells (WatchV.mk (GuardV.mk (TrackV.mk (Slc.mk kA d.Track.length kC)) (Slc.mk pA d.Posts.length pC) (Slc.mk nA d.Needs.length nC) d.Tower d.Radio) (Slc.mk tA tN tC)))), (blk g1 48 [(Value.pointer (some ⟨gw, 0, none⟩))]), (gmp iV gm (gmapV Value.bool m)), (blk g2 85 [(Value.map (some gm))]), (blk g3 30 (SpotV.cells s))] ([] : List Int) (fun ys x ys' => ∃ i : Nat, i < d.Posts.length ∧ hearQ d P s i ∧ ys = (idxL i (hearQ d P s)) ∧ x = [Value.int .i64 (i : Int)] ∧ ys' = ys ++ [(i : Int)]) (fun ys => ys = moreL d P s) := by
 have hlen := hin.trk
 have hside := hin.side
 have hpl := hin.pst
 have hnl := hin.nds
 have hnk := hin.nk
 have hpk := hin.pk
 have hrd := hok.radio
 refine seqG_of go67 Tryz.func67 rfl rfl fun l J Z A0 w0 Q hY hJ0 hF0 hQ hN => ?_
 try dsimp only
 refine WS fun _ hK1 => rS (L1Q 5 rfl tk48 rfl) <| rS (SX (sd_nil_p rfl rfl) rfl rfl) <| rS (FA 0 rfl fo73_0 rfl) <| rS (FA 1 rfl fo32_1 rfl) <| rS (L1R (Value.slice pA d.Posts.length pC) 4 rfl tk25 rfl rfl) <| rS (LN rfl ut25) <| rS (MV rfl) <| RK hK1 <| w_block ?_
 have hinit : (0 ≤ d.Posts.length) ∧ (J (idxL 0 (hearQ d P s)) A0) ∧ (Fo A0 w0 A0) := by exact ⟨Nat.zero_le _, hJ0, hF0⟩
 refine w_loop (ι := { z : Nat × Assn // (z.1 ≤ d.Posts.length) ∧ (J (idxL z.1 (hearQ d P s)) z.2) ∧ (Fo A0 w0 z.2) }) (fun z => [(0, (Value.func (.yield l) #[] #[])), (1, (Value.pointer (some ⟨g1, 0, none⟩))), (2, (Value.pointer (some ⟨g2, 0, none⟩))), (3, (Value.pointer (some ⟨g3, 0, none⟩))), (14, (Value.slice pA d.Posts.length pC)), (15, (Value.int .i64 ((d.Posts.length : Nat) : Int))), (16, (Value.int .i64 ((z.1.1 : Nat) : Int)))]) (fun z => [z.1.2, (rd kA d.Track.length 9 (d.Track.map StretchV.cells)).ro, (rd pA d.Posts.length 7 (d.Posts.map PostV.cells)).ro, (rd nA d.Needs.length 3 (d.Needs.map NeedV.cells)).ro, (blk gw 73 (WatchV.cells (WatchV.mk (GuardV.mk (TrackV.mk (Slc.mk kA d.Track.length kC)) (Slc.mk pA d.Posts.length pC) (Slc.mk nA d.Needs.length nC) d.Tower d.Radio) (Slc.mk tA tN tC)))).ro, (blk g1 48 [(Value.pointer (some ⟨gw, 0, none⟩))]).ro, (gmp iV gm (gmapV Value.bool m)).ro, (blk g2 85 [(Value.map (some gm))]).ro, (blk g3 30 (SpotV.cells s)).ro]) (fun z => d.Posts.length - z.1.1) ⟨(0, A0), hinit⟩ (Sub.cons rfl <| Sub.cons rfl <| Sub.cons rfl <| Sub.cons rfl <| Sub.cons rfl <| Sub.cons rfl <| Sub.cons rfl <| Sub.nil _) (fun w hs => St.sel [0, 1, 2, 3, 4, 5, 6, 7, 8] rfl rfl hs) ?_
 clear hinit
 rintro ⟨⟨i, A⟩, ⟨hl1_0, hl1_1, hl1_2⟩⟩ J2 hJ2
 try dsimp only at hl1_0 hl1_1 hl1_2
 try dsimp only
 refine WS fun _ hK3 => rS (BI rfl b_lss) <| RK hK3 <| w_seq fun _ hK4 => ?_
 refine w_if rfl (fun h5 => ?_) (fun h5 => ?_)
 rotate_left 1
 · replace h5 := DF h5
   refine w_exit <| k_exit_then <| k_exit_then <| k_exit_same ?_
   refine hN _ _ _ (l_nil (vs := []) trivial fun w hs => endG 0 rfl (by show _ = _; unfold moreL; rw [show i = d.Posts.length by omega]) hl1_1 hl1_2 hs)
 replace h5 := DT h5
 refine WK hK4 <| w_seq fun _ hK6 => w_block <| WS fun _ hK7 => rS (MV rfl) ?_
 obtain ⟨p, hp⟩ : ∃ y_, d.Posts[i]? = some y_ := ⟨d.Posts[i]'(by omega), List.getElem?_eq_getElem _⟩
 have hpm : (d.Posts.map PostV.cells)[i]? = some (PostV.cells p) := by rw [List.getElem?_map, hp]; rfl
 refine rS (IA i rfl (has_at 2 rfl) te25 (by decide) (by omega) (by omega)) <| rS (LEN i 0 (PostV.cells p) rfl tk63 (has_at 2 rfl) hpm rfl (by decide) rfl rfl) <| AL rfl tz63 fun b8 => rS (AG rfl) <| SW0 rfl ts63 rfl <| RK hK7 <| w_seq fun _ hK9 => WS fun _ hK10 => rS (L1Q 8 rfl tk85 rfl) <| rS (MV rfl) ?_
 refine rS (SX (gsd_look1_v (kV := iV) (x := ((i : Nat) : Int)) (l := m) (f := Value.bool) (z := false) rfl rfl rfl ut85 (gkey_int ut3) tv4 (by exact has_ror 7 rfl)) rfl rfl) <| rS (NT rfl) <| RK hK10 ?_
 refine w_if rfl (fun hg24 => ?_) (fun hg24 => ?_)
 · rw [Bool.not_eq_true'] at hg24
   refine w_exit <| k_exit_then <| k_exit_same <| KK hK6 <| w_region <| rS (BI rfl (b_add ⟨by omega, by omega⟩)) <| rS (MV rfl) <| r_nil ?_
   have hb11 : (Value.int .i64 (((i + 1) : Nat) : Int)) = (Value.int .i64 (((i : Nat) : Int) + 1)) := by exact congrArg (Value.int .i64) (by omega)
   refine k_then (hJ2 ⟨((i + 1), A), ⟨by omega, by rw [idxL_no (show ¬ hearQ d P s i from by first | (rintro ⟨_, p2, hp2, hh⟩; rw [hp] at hp2; cases hp2; exact hg64 (hgr.2 hh)) | exact (fun q => by have q2 := (key_look hm).2 q.1; rw [hg24] at q2; cases q2))]; exact hl1_1, hl1_2⟩⟩ _ _ _ rfl (by first | omega | (simp; omega)) (Sub.cons rfl <| Sub.cons rfl <| Sub.cons rfl <| Sub.cons rfl <| Sub.cons rfl <| Sub.cons rfl <| sub_val rfl hb11 <| Sub.nil _) (fun w hs => St.sel [1, 2, 3, 4, 5, 6, 7, 8, 9] rfl rfl hs))
 rw [Bool.not_eq_false'] at hg24
 refine WK hK9 <| WS fun _ hK12 => rS (FA 2 rfl fo63_2 rfl) <| rS (LP (SpotV.cells p.Spot) 0 rfl tk30 rfl rfl rfl) <| rS (LWR 9 rfl tk30 rfl rfl) <| rS (BI rfl (eqs30 _ _ p.Spot s)) <| rS (MV rfl) ?_
 refine r_bool (t := 29) rfl (fun hg29 => ?_) (fun hg29 => ?_)
 rotate_left 1
 · replace hg29 := DF hg29
   refine rS (OX rfl) <| rS (OX rfl) <| rS (OX rfl) <| rS (OX rfl) <| rS (OX rfl) <| rS (OX rfl) <| rS (OX rfl) <| rS (PK rfl) <| rS (AG rfl) <| RK hK12 ?_
   refine w_seq fun _ hK38 => w_draw4 mixed [0, 1, 2, 3, 4, 5, 6, 7, 8, 9, 10, 11, 14] [12, 13] [false, false, false, false, false, false, false, false, false, false, false, false, false] [false, false] [(blk b8 63 (PostV.cells p)), A, (rd kA d.Track.length 9 (d.Track.map StretchV.cells)).ro, (rd pA d.Posts.length 7 (d.Posts.map PostV.cells)).ro, (rd nA d.Needs.length 3 (d.Needs.map NeedV.cells)).ro, (blk gw 73 (WatchV.cells (WatchV.mk (GuardV.mk (TrackV.mk (Slc.mk kA d.Track.length kC)) (Slc.mk pA d.Posts.length pC) (Slc.mk nA d.Needs.length nC) d.Tower d.Radio) (Slc.mk tA tN tC)))).ro, (blk g1 48 [(Value.pointer (some ⟨gw, 0, none⟩))]).ro, (gmp iV gm (gmapV Value.bool m)).ro, (blk g2 85 [(Value.map (some gm))]).ro, (blk g3 30 (SpotV.cells s)).ro] [] (by kernel_rfl) (fun w hs => St.sel [0, 1, 2, 3, 4, 5, 6, 7, 8, 9] rfl rfl hs) (fun w hs => St.sel [] rfl rfl hs) <| eS rfl (L1Q 6 rfl tk48 rfl) <| eS rfl (SX (sd_nil_p rfl rfl) rfl rfl) <| eS rfl (FA 0 rfl fo73_0 rfl) <| eS rfl (FA 0 rfl fo32_0 rfl) <| eS rfl (LPR (TrackV.cells (TrackV.mk (Slc.mk kA d.Track.length kC))) 5 rfl tk24 rfl rfl rfl) <| eS rfl (LWR 9 rfl tk30 rfl rfl) <| eS rfl (FA 2 rfl fo63_2 rfl) <| eS rfl (LP (SpotV.cells p.Spot) 0 rfl tk30 rfl rfl rfl) ?_
   refine eS rfl (CL (Apart_c d.Track kA kC s p.Spot (by first | assumption | omega | (simp; done) | (simp; omega)) (by first | assumption | omega | (simp; done) | (simp; omega))) (ha_at 2 rfl rfl <| ha_nil) rfl) <| eS rfl (MV rfl) ?_
   have hps := (hok.post i p hp).2.2.1
   have hap := apart_in htr ⟨hss, hps⟩
   have hab := apartF_b (trackOk_all htr) (trackOk_le htr) hss hps
   have hgr := hears_great (d := d) (a := s) (b := p.Spot) (by omega) hrd.1
   rw [← hap.2] at hab hgr
   refine eS rfl (EX rfl) <| eS rfl (EX rfl) <| eS rfl (AG rfl) <| d_fin rfl <| t_cons rfl fun T39 hT39 => AL rfl tz28 fun b40 => RN hT39 [1, 2, 3, 4, 5, 6, 7, 8, 9, 10] rfl rfl <| t_cons rfl fun T41 hT41 => SW0 rfl ts28 rfl <| RN hT41 [1, 2, 3, 4, 5, 6, 7, 8, 9, 10] rfl rfl ?_
   refine t_fin rfl <| KK hK38 <| w_seq fun _ hK42 => w_draw4 mixed [0, 1, 2, 3, 4, 5, 8, 9, 10, 11, 12] [6, 7, 13, 14] [false, false, false, false, false, false, false, false, false, false, false] [false, false, false, false] [(blk b40 28 (SpanV.cells (apartV d.Track s p.Spot))), (blk b8 63 (PostV.cells p)), A, (rd kA d.Track.length 9 (d.Track.map StretchV.cells)).ro, (rd pA d.Posts.length 7 (d.Posts.map PostV.cells)).ro, (rd nA d.Needs.length 3 (d.Needs.map NeedV.cells)).ro, (blk gw 73 (WatchV.cells (WatchV.mk (GuardV.mk (TrackV.mk (Slc.mk kA d.Track.length kC)) (Slc.mk pA d.Posts.length pC) (Slc.mk nA d.Needs.length nC) d.Tower d.Radio) (Slc.mk tA tN tC)))).ro, (blk g1 48 [(Value.pointer (some ⟨gw, 0, none⟩))]).ro, (gmp iV gm (gmapV Value.bool m)).ro, (blk g2 85 [(Value.map (some gm))]).ro, (blk g3 30 (SpotV.cells s)).ro] [] (by kernel_rfl) (fun w hs => St.sel [0, 1, 2, 3, 4, 5, 6, 7, 8, 9, 10] rfl rfl hs) (fun w hs => St.sel [] rfl rfl hs) <| eS rfl (MV rfl) <| eS rfl (MV rfl) <| eS rfl (FA 0 rfl fo28_0 rfl) <| eS rfl (L1 (Value.int .i64 ((apartV d.Track s p.Spot).Lo)) 0 rfl tk3 rfl rfl) <| eS rfl (FA 1 rfl fo28_1 rfl) <| eS rfl (L1 (Value.int .i64 ((apartV d.Track s p.Spot).Hi)) 0 rfl tk3 rfl rfl) ?_
   refine eS rfl (L1Q 7 rfl tk48 rfl) <| eS rfl (SX (sd_nil_p rfl rfl) rfl rfl) <| eS rfl (FA 0 rfl fo73_0 rfl) <| eS rfl (FA 6 rfl fo32_4 rfl) <| eS rfl (L1R (Value.int .i64 d.Radio) 6 rfl tk3 rfl rfl) <| d_fin rfl <| t_cons rfl fun T43 hT43 => r_bs (xs := [.tmp 53, .tmp 55]) (cs := [(Value.int .i64 ((apartV d.Track s p.Spot).Lo)), (Value.int .i64 ((apartV d.Track s p.Spot).Hi))]) rfl te33 tz3 rfl rfl rfl rfl (by simp [Value.cells]) rfl rfl fun b44 => RN hT43 [1, 2, 3, 4, 5, 6, 7, 8, 9, 10, 11] rfl rfl <| t_cons rfl fun T45 hT45 => ?_
   refine rS (CL (greatest_c ([(apartV d.Track s p.Spot).Lo, (apartV d.Track s p.Spot).Hi]) (some ⟨b44, 0, none⟩) 2 (by intro x hx; simp only [List.mem_cons, List.not_mem_nil, or_false] at hx; omega) (by simp)) (ha_cons (has_rd_blk 0 rfl rfl (by simp [iC_length]) rfl) <| ha_nil) rfl) <| RN hT45 [1, 2, 3, 4, 5, 6, 7, 8, 9, 10, 11] rfl rfl <| t_cons rfl fun T46 hT46 => rS (BI rfl b_leq) <| RN hT46 [1, 2, 3, 4, 5, 6, 7, 8, 9, 10, 11] rfl rfl <| t_cons rfl fun T47 hT47 => rS (PK rfl) <| RN hT47 [1, 2, 3, 4, 5, 6, 7, 8, 9, 10, 11] rfl rfl <| t_fin rfl <| KK hK42 ?_
   refine w_if rfl (fun hg64 => ?_) (fun hg64 => ?_)
   rotate_left 1
   · replace hg64 := DF hg64
     refine w_skip <| k_block <| KK hK6 <| w_region <| rS (BI rfl (b_add ⟨by omega, by omega⟩)) <| rS (MV rfl) <| r_nil ?_
     have hb53 : (Value.int .i64 (((i + 1) : Nat) : Int)) = (Value.int .i64 (((i : Nat) : Int) + 1)) := by exact congrArg (Value.int .i64) (by omega)
     refine k_then (hJ2 ⟨((i + 1), A), ⟨by omega, by rw [idxL_no (show ¬ hearQ d P s i from by first | (rintro ⟨_, p2, hp2, hh⟩; rw [hp] at hp2; cases hp2; exact hg64 (hgr.2 hh)) | exact (fun q => by have q2 := (key_look hm).2 q.1; rw [hg24] at q2; cases q2))]; exact hl1_1, hl1_2⟩⟩ _ _ _ rfl (by first | omega | (simp; omega)) (Sub.cons rfl <| Sub.cons rfl <| Sub.cons rfl <| Sub.cons rfl <| Sub.cons rfl <| Sub.cons rfl <| sub_val rfl hb53 <| Sub.nil _) (fun w hs => St.sel [3, 4, 5, 6, 7, 8, 9, 10, 11] rfl rfl hs))
   replace hg64 := DT hg64
   refine WS fun _ hK48 => rS (MV rfl) <| rS (MV rfl) ?_
   refine r_yieldG (k := (idxL i (hearQ d P s))) (k' := ((idxL i (hearQ d P s)) ++ [(((i : Nat) : Int))])) 3 (by first | exact hsz | exact Nat.le_refl _) hY hl1_1 hl1_2 rfl rfl rfl (by exact ⟨i, by omega, ⟨(key_look hm).1 hg24, p, hp, (by first | exact hgr.1 hg64 | exact hears_near hg29 hg51 hrd.1)⟩, rfl, rfl, rfl⟩) rfl rfl (fun B49 hJ50 hF51 => ?_) (fun B49 hJ50 hF51 => ?_)
   rotate_left 1
   · refine rS (NT rfl) ?_
     refine RK hK48 <| w_if_true rfl <| w_ret ?_
     refine hQ _ _ _ (l_nil (vs := []) trivial fun w hs => endGz 3 rfl hJ50 hF51 hs)
   refine rS (NT rfl) <| RK hK48 <| w_if_false rfl <| w_skip <| k_block <| KK hK6 <| w_region <| rS (BI rfl (b_add ⟨by omega, by omega⟩)) <| rS (MV rfl) <| r_nil ?_
   have hb52 : (Value.int .i64 (((i + 1) : Nat) : Int)) = (Value.int .i64 (((i : Nat) : Int) + 1)) := by exact congrArg (Value.int .i64) (by omega)
   refine k_then (hJ2 ⟨((i + 1), B49), ⟨by omega, by rw [idxL_yes (show hearQ d P s i from ⟨(key_look hm).1 hg24, p, hp, (by first | exact hgr.1 hg64 | exact hears_near hg29 hg51 hrd.1)⟩)]; exact hJ50, hF51⟩⟩ _ _ _ rfl (by first | omega | (simp; omega)) (Sub.cons rfl <| Sub.cons rfl <| Sub.cons rfl <| Sub.cons rfl <| Sub.cons rfl <| Sub.cons rfl <| sub_val rfl hb52 <| Sub.nil _) (fun w hs => St.sel [3, 4, 5, 6, 7, 8, 9, 10, 11] rfl rfl hs))
 replace hg29 := DT hg29
 refine rS (FA 1 rfl fo30_1 rfl) <| rS (FA 1 rfl fo28_0 rfl) <| rS (L1R (Value.int .i64 s.Off.Lo) 9 rfl tk3 rfl rfl) <| rS (FA 1 rfl fo30_1 rfl) <| rS (FA 2 rfl fo28_1 rfl) <| rS (L1R (Value.int .i64 s.Off.Hi) 9 rfl tk3 rfl rfl) <| rS (BI rfl b_eql) <| rS (PK rfl) <| rS (AG rfl) <| RK hK12 ?_
 refine w_seq fun _ hK13 => w_draw4 mixed [0, 1, 2, 3, 4, 5, 6, 7, 8, 9, 10, 11, 14] [12, 13] [false, false, false, false, false, false, false, false, false, false, false, false, false] [false, false] [(blk b8 63 (PostV.cells p)), A, (rd kA d.Track.length 9 (d.Track.map StretchV.cells)).ro, (rd pA d.Posts.length 7 (d.Posts.map PostV.cells)).ro, (rd nA d.Needs.length 3 (d.Needs.map NeedV.cells)).ro, (blk gw 73 (WatchV.cells (WatchV.mk (GuardV.mk (TrackV.mk (Slc.mk kA d.Track.length kC)) (Slc.mk pA d.Posts.length pC) (Slc.mk nA d.Needs.length nC) d.Tower d.Radio) (Slc.mk tA tN tC)))).ro, (blk g1 48 [(Value.pointer (some ⟨gw, 0, none⟩))]).ro, (gmp iV gm (gmapV Value.bool m)).ro, (blk g2 85 [(Value.map (some gm))]).ro, (blk g3 30 (SpotV.cells s)).ro] [] (by kernel_rfl) (fun w hs => St.sel [0, 1, 2, 3, 4, 5, 6, 7, 8, 9] rfl rfl hs) (fun w hs => St.sel [] rfl rfl hs) <| eS rfl (L1Q 6 rfl tk48 rfl) <| eS rfl (SX (sd_nil_p rfl rfl) rfl rfl) <| eS rfl (FA 0 rfl fo73_0 rfl) <| eS rfl (FA 0 rfl fo32_0 rfl) <| eS rfl (LPR (TrackV.cells (TrackV.mk (Slc.mk kA d.Track.length kC))) 5 rfl tk24 rfl rfl rfl) <| eS rfl (LWR 9 rfl tk30 rfl rfl) <| eS rfl (FA 2 rfl fo63_2 rfl) <| eS rfl (LP (SpotV.cells p.Spot) 0 rfl tk30 rfl rfl rfl) ?_
 refine eS rfl (CL (Apart_c d.Track kA kC s p.Spot (by first | assumption | omega | (simp; done) | (simp; omega)) (by first | assumption | omega | (simp; done) | (simp; omega))) (ha_at 2 rfl rfl <| ha_nil) rfl) <| eS rfl (MV rfl) ?_
 have hps := (hok.post i p hp).2.2.1
 have hap := apart_in htr ⟨hss, hps⟩
 have hab := apartF_b (trackOk_all htr) (trackOk_le htr) hss hps
 have hgr := hears_great (d := d) (a := s) (b := p.Spot) (by omega) hrd.1
 rw [← hap.2] at hab hgr
 refine eS rfl (EX rfl) <| eS rfl (EX rfl) <| eS rfl (AG rfl) <| d_fin rfl <| t_cons rfl fun T14 hT14 => AL rfl tz28 fun b15 => RN hT14 [1, 2, 3, 4, 5, 6, 7, 8, 9, 10] rfl rfl <| t_cons rfl fun T16 hT16 => SW0 rfl ts28 rfl <| RN hT16 [1, 2, 3, 4, 5, 6, 7, 8, 9, 10] rfl rfl ?_
 refine t_fin rfl <| KK hK13 <| w_seq fun _ hK17 => w_draw4 mixed [0, 1, 2, 3, 4, 5, 8, 9, 10, 11, 12] [6, 7, 13, 14] [false, false, false, false, false, false, false, false, false, false, false] [false, false, false, false] [(blk b15 28 (SpanV.cells (apartV d.Track s p.Spot))), (blk b8 63 (PostV.cells p)), A, (rd kA d.Track.length 9 (d.Track.map StretchV.cells)).ro, (rd pA d.Posts.length 7 (d.Posts.map PostV.cells)).ro, (rd nA d.Needs.length 3 (d.Needs.map NeedV.cells)).ro, (blk gw 73 (WatchV.cells (WatchV.mk (GuardV.mk (TrackV.mk (Slc.mk kA d.Track.length kC)) (Slc.mk pA d.Posts.length pC) (Slc.mk nA d.Needs.length nC) d.Tower d.Radio) (Slc.mk tA tN tC)))).ro, (blk g1 48 [(Value.pointer (some ⟨gw, 0, none⟩))]).ro, (gmp iV gm (gmapV Value.bool m)).ro, (blk g2 85 [(Value.map (some gm))]).ro, (blk g3 30 (SpotV.cells s)).ro] [] (by kernel_rfl) (fun w hs => St.sel [0, 1, 2, 3, 4, 5, 6, 7, 8, 9, 10] rfl rfl hs) (fun w hs => St.sel [] rfl rfl hs) <| eS rfl (MV rfl) <| eS rfl (MV rfl) ?_
 refine d_bool3 (t := 51) rfl (fun hg51 => ?_) (fun hg51 => ?_)
 · replace hg51 := DT hg51
   refine eS rfl (OX rfl) <| eS rfl (OX rfl) <| eS rfl (OX rfl) <| eS rfl (OX rfl) <| eS rfl (OX rfl) <| eS rfl (OX rfl) <| eS rfl (OX rfl) <| eS rfl (OX rfl) <| eS rfl (OX rfl) <| d_fin rfl ?_
   refine t_cons rfl fun T18 hT18 => rS (OX rfl) <| RN hT18 [0, 1, 2, 3, 4, 5, 6, 7, 8, 9, 10] rfl rfl <| t_cons rfl fun T19 hT19 => rS (OX rfl) <| RN hT19 [0, 1, 2, 3, 4, 5, 6, 7, 8, 9, 10] rfl rfl <| t_cons rfl fun T20 hT20 => rS (OX rfl) <| RN hT20 [0, 1, 2, 3, 4, 5, 6, 7, 8, 9, 10] rfl rfl <| t_cons rfl fun T21 hT21 => ?_
   refine rS (PK rfl) <| RN hT21 [0, 1, 2, 3, 4, 5, 6, 7, 8, 9, 10] rfl rfl <| t_fin rfl <| KK hK17 <| w_if_true rfl <| WS fun _ hK22 => rS (MV rfl) <| rS (MV rfl) ?_
   refine r_yieldG (k := (idxL i (hearQ d P s))) (k' := ((idxL i (hearQ d P s)) ++ [(((i : Nat) : Int))])) 2 (by first | exact hsz | exact Nat.le_refl _) hY hl1_1 hl1_2 rfl rfl rfl (by exact ⟨i, by omega, ⟨(key_look hm).1 hg24, p, hp, (by first | exact hgr.1 hg64 | exact hears_near hg29 hg51 hrd.1)⟩, rfl, rfl, rfl⟩) rfl rfl (fun B23 hJ24 hF25 => ?_) (fun B23 hJ24 hF25 => ?_)
   rotate_left 1
   · refine rS (NT rfl) ?_
     refine RK hK22 <| w_if_true rfl <| w_ret ?_
     refine hQ _ _ _ (l_nil (vs := []) trivial fun w hs => endGz 2 rfl hJ24 hF25 hs)
   refine rS (NT rfl) <| RK hK22 <| w_if_false rfl <| w_skip <| k_block <| KK hK6 <| w_region <| rS (BI rfl (b_add ⟨by omega, by omega⟩)) <| rS (MV rfl) <| r_nil ?_
   have hb26 : (Value.int .i64 (((i + 1) : Nat) : Int)) = (Value.int .i64 (((i : Nat) : Int) + 1)) := by exact congrArg (Value.int .i64) (by omega)
   refine k_then (hJ2 ⟨((i + 1), B23), ⟨by omega, by rw [idxL_yes (show hearQ d P s i from ⟨(key_look hm).1 hg24, p, hp, (by first | exact hgr.1 hg64 | exact hears_near hg29 hg51 hrd.1)⟩)]; exact hJ24, hF25⟩⟩ _ _ _ rfl (by first | omega | (simp; omega)) (Sub.cons rfl <| Sub.cons rfl <| Sub.cons rfl <| Sub.cons rfl <| Sub.cons rfl <| Sub.cons rfl <| sub_val rfl hb26 <| Sub.nil _) (fun w hs => St.sel [2, 3, 4, 5, 6, 7, 8, 9, 10] rfl rfl hs))
 replace hg51 := DF hg51
 refine eS rfl (FA 0 rfl fo28_0 rfl) <| eS rfl (L1 (Value.int .i64 ((apartV d.Track s p.Spot).Lo)) 0 rfl tk3 rfl rfl) <| eS rfl (FA 1 rfl fo28_1 rfl) <| eS rfl (L1 (Value.int .i64 ((apartV d.Track s p.Spot).Hi)) 0 rfl tk3 rfl rfl) <| eS rfl (L1Q 7 rfl tk48 rfl) <| eS rfl (SX (sd_nil_p rfl rfl) rfl rfl) <| eS rfl (FA 0 rfl fo73_0 rfl) <| eS rfl (FA 6 rfl fo32_4 rfl) <| eS rfl (L1R (Value.int .i64 d.Radio) 6 rfl tk3 rfl rfl) <| d_fin rfl ?_
 refine t_cons rfl fun T27 hT27 => r_bs (xs := [.tmp 53, .tmp 55]) (cs := [(Value.int .i64 ((apartV d.Track s p.Spot).Lo)), (Value.int .i64 ((apartV d.Track s p.Spot).Hi))]) rfl te33 tz3 rfl rfl rfl rfl (by simp [Value.cells]) rfl rfl fun b28 => RN hT27 [1, 2, 3, 4, 5, 6, 7, 8, 9, 10, 11] rfl rfl <| t_cons rfl fun T29 hT29 => rS (CL (greatest_c ([(apartV d.Track s p.Spot).Lo, (apartV d.Track s p.Spot).Hi]) (some ⟨b28, 0, none⟩) 2 (by intro x hx; simp only [List.mem_cons, List.not_mem_nil, or_false] at hx; omega) (by simp)) (ha_cons (has_rd_blk 0 rfl rfl (by simp [iC_length]) rfl) <| ha_nil) rfl) <| RN hT29 [1, 2, 3, 4, 5, 6, 7, 8, 9, 10, 11] rfl rfl <| t_cons rfl fun T30 hT30 => rS (BI rfl b_leq) <| RN hT30 [1, 2, 3, 4, 5, 6, 7, 8, 9, 10, 11] rfl rfl <| t_cons rfl fun T31 hT31 => ?_
 refine rS (PK rfl) <| RN hT31 [1, 2, 3, 4, 5, 6, 7, 8, 9, 10, 11] rfl rfl <| t_fin rfl <| KK hK17 ?_
 refine w_if rfl (fun hg64 => ?_) (fun hg64 => ?_)
 rotate_left 1
 · replace hg64 := DF hg64
   refine w_skip <| k_block <| KK hK6 <| w_region <| rS (BI rfl (b_add ⟨by omega, by omega⟩)) <| rS (MV rfl) <| r_nil ?_
   have hb37 : (Value.int .i64 (((i + 1) : Nat) : Int)) = (Value.int .i64 (((i : Nat) : Int) + 1)) := by exact congrArg (Value.int .i64) (by omega)
   refine k_then (hJ2 ⟨((i + 1), A), ⟨by omega, by rw [idxL_no (show ¬ hearQ d P s i from by first | (rintro ⟨_, p2, hp2, hh⟩; rw [hp] at hp2; cases hp2; exact hg64 (hgr.2 hh)) | exact (fun q => by have q2 := (key_look hm).2 q.1; rw [hg24] at q2; cases q2))]; exact hl1_1, hl1_2⟩⟩ _ _ _ rfl (by first | omega | (simp; omega)) (Sub.cons rfl <| Sub.cons rfl <| Sub.cons rfl <| Sub.cons rfl <| Sub.cons rfl <| Sub.cons rfl <| sub_val rfl hb37 <| Sub.nil _) (fun w hs => St.sel [3, 4, 5, 6, 7, 8, 9, 10, 11] rfl rfl hs))
 replace hg64 := DT hg64
 refine WS fun _ hK32 => rS (MV rfl) <| rS (MV rfl) ?_
 refine r_yieldG (k := (idxL i (hearQ d P s))) (k' := ((idxL i (hearQ d P s)) ++ [(((i : Nat) : Int))])) 3 (by first | exact hsz | exact Nat.le_refl _) hY hl1_1 hl1_2 rfl rfl rfl (by exact ⟨i, by omega, ⟨(key_look hm).1 hg24, p, hp, (by first | exact hgr.1 hg64 | exact hears_near hg29 hg51 hrd.1)⟩, rfl, rfl, rfl⟩) rfl rfl (fun B33 hJ34 hF35 => ?_) (fun B33 hJ34 hF35 => ?_)
 rotate_left 1
 · refine rS (NT rfl) ?_
   refine RK hK32 <| w_if_true rfl <| w_ret ?_
   refine hQ _ _ _ (l_nil (vs := []) trivial fun w hs => endGz 3 rfl hJ34 hF35 hs)
 refine rS (NT rfl) <| RK hK32 <| w_if_false rfl <| w_skip <| k_block <| KK hK6 <| w_region <| rS (BI rfl (b_add ⟨by omega, by omega⟩)) <| rS (MV rfl) <| r_nil ?_
 have hb36 : (Value.int .i64 (((i + 1) : Nat) : Int)) = (Value.int .i64 (((i : Nat) : Int) + 1)) := by exact congrArg (Value.int .i64) (by omega)
 refine k_then (hJ2 ⟨((i + 1), B33), ⟨by omega, by rw [idxL_yes (show hearQ d P s i from ⟨(key_look hm).1 hg24, p, hp, (by first | exact hgr.1 hg64 | exact hears_near hg29 hg51 hrd.1)⟩)]; exact hJ34, hF35⟩⟩ _ _ _ rfl (by first | omega | (simp; omega)) (Sub.cons rfl <| Sub.cons rfl <| Sub.cons rfl <| Sub.cons rfl <| Sub.cons rfl <| Sub.cons rfl <| sub_val rfl hb36 <| Sub.nil _) (fun w hs => St.sel [3, 4, 5, 6, 7, 8, 9, 10, 11] rfl rfl hs))
set_option maxRecDepth 100000 in
set_option maxHeartbeats 400000 in
theorem hearing_c (gw : Nat) (gm : Nat) (s : SpotV) :
    FnX Tryz.prog 49 [(Value.pointer (some ⟨gw, 0, none⟩)), (Value.agg (SpotV.cells s).toArray), (Value.map (some gm))] [] (fun (x : Nat × Nat × Nat) => (Value.func (.func 67) [].toArray [(Value.pointer (some ⟨x.1, 0, none⟩)), (Value.pointer (some ⟨x.2.1, 0, none⟩)), (Value.pointer (some ⟨x.2.2, 0, none⟩))].toArray)) (fun (x : Nat × Nat × Nat) => True) (fun (x : Nat × Nat × Nat) => [(blk x.1 48 [(Value.pointer (some ⟨gw, 0, none⟩))]), (blk x.2.1 85 [(Value.map (some gm))]), (blk x.2.2 30 (SpotV.cells s))]) := by
 refine fnX_of go49 Tryz.func49 rfl rfl fun w0 Q hQ hN => ?_
 try dsimp only
 refine WS fun _ hK1 => BX1 rfl rfl fun b2 => BXA rfl fun b3 => BX1 rfl rfl fun b4 => rS (AG rfl) <| RK hK1 <| WS fun _ hK5 => rS (FU rfl) <| rS (AG rfl) <| RK hK5 ?_
 refine w_ret ?_
 refine hQ _ _ _ (l_nil (vs := [(Value.func (.func 67) [].toArray [(Value.pointer (some ⟨b2, 0, none⟩)), (Value.pointer (some ⟨b4, 0, none⟩)), (Value.pointer (some ⟨b3, 0, none⟩))].toArray)]) ⟨rfl, trivial⟩ fun w hs => endX (b2, b4, b3) [2, 0, 1] ?_ ?_ rfl rfl rfl hs)
 · rfl
 · trivial
end
section
open Go.RowKit
set_option linter.unusedVariables false
set_option maxRecDepth 100000 in
set_option maxHeartbeats 400000 in
theorem isnan_c (x : Int) :
    FnV Tryz.prog 84 [(Value.int .i64 x)] [] (Value.bool false) := by
 refine fnV_of go84 Tryz.func84 rfl rfl fun w0 Q hQ hN => ?_
 try dsimp only
 refine WS fun _ hK1 => rS (AG rfl) <| RK hK1 <| WS fun _ hK2 => rS (MV rfl) <| rS (MV rfl) <| rS (BI rfl b_neq) <| rS (AG rfl) <| RK hK2 <| w_ret ?_
 refine Q1 hQ rfl rfl rfl ?_
 simp
set_option maxRecDepth 100000 in
set_option maxHeartbeats 400000 in
theorem cless_c (x : Int) (y : Int) :
    FnV Tryz.prog 92 [(Value.int .i64 x), (Value.int .i64 y)] [] (Value.bool (decide (x < y))) := by
 refine fnV_of go92 Tryz.func92 rfl rfl fun w0 Q hQ hN => ?_
 try dsimp only
 refine WS fun _ hK1 => rS (AG rfl) <| RK hK1 <| WS fun _ hK2 => rS (MV rfl) <| rS (CL (isnan_c x) (ha_nil) rfl) <| rS (MV rfl) <| rS (OX rfl) <| rS (OX rfl) <| rS (OX rfl) ?_
 refine rS (PK rfl) <| rS (MV rfl) <| rS (MV rfl) <| rS (MV rfl) <| rS (BI rfl b_lss) <| rS (PK rfl) <| rS (AG rfl) <| RK hK2 <| w_ret <| Q1 hQ rfl rfl rfl ?_
 exact congrArg Value.bool (decide_eq_decide.2 (by omega))
set_option maxRecDepth 100000 in
set_option maxHeartbeats 400000 in
theorem inssort_c (l : List Int) (lA : Option Addr) (lC : Nat) (hlen : l.length ≤ 1000000) :
    FnM Tryz.prog 86 [(Value.slice lA l.length lC), (Value.int .i64 0), (Value.int .i64 ((l.length : Nat) : Int))] [] (own lA lC 3 1 (l.map iC)) (fun (x : (List Int)) => (Value.tuple [].toArray)) (fun (x : (List Int)) => x.Perm l ∧ x.Pairwise (· ≤ ·)) (fun (x : (List Int)) => (own lA lC 3 1 (x.map iC))) := by
 refine fnM_of go86 Tryz.func86 rfl rfl fun w0 Q hQ hN => ?_
 try dsimp only
 refine WS fun _ hK1 => rS (MV rfl) <| rS (SX (sd_bin (r := .int .i64 1) rfl rfl rfl (b_add ⟨by decide, by decide⟩)) rfl rfl) <| rS (AG rfl) <| RK hK1 <| w_block ?_
 have hinit : (1 ≤ 1 ∧ (1 ≤ l.length ∨ 1 = 1)) ∧ (l.length = l.length) ∧ (l.Perm l) ∧ (Srt l 1) := by exact ⟨by omega, rfl, List.Perm.refl _, srt_one⟩
 refine w_loop (ι := { z : Nat × (List Int) // (1 ≤ z.1 ∧ (z.1 ≤ l.length ∨ z.1 = 1)) ∧ (z.2.length = l.length) ∧ (z.2.Perm l) ∧ (Srt z.2 z.1) }) (fun z => [(0, (Value.slice lA l.length lC)), (1, (Value.int .i64 0)), (2, (Value.int .i64 ((l.length : Nat) : Int))), (6, (Value.int .i64 (z.1.1 : Int)))]) (fun z => [(own lA lC 3 1 (z.1.2.map iC))]) (fun z => l.length - z.1.1) ⟨(1, l), hinit⟩ (Sub.cons rfl <| Sub.cons rfl <| Sub.cons rfl <| Sub.cons rfl <| Sub.nil _) (fun w hs => St.sel [0] rfl rfl hs) ?_
 clear hinit
 rintro ⟨⟨i, m⟩, ⟨hl1_0, hl1_1, hl1_2, hl1_3⟩⟩ J2 hJ2
 try dsimp only at hl1_0 hl1_1 hl1_2 hl1_3
 try dsimp only
 refine w_seq fun _ hK3 => WS fun _ hK4 => rS (MV rfl) <| rS (MV rfl) <| rS (BI rfl b_lss) <| RK hK4 ?_
 refine w_if rfl (fun h5 => ?_) (fun h5 => ?_)
 rotate_left 1
 · replace h5 := DF h5
   refine w_exit <| k_exit_then <| k_exit_then <| k_exit_same ?_
   refine hN _ _ _ (l_nil (vs := []) trivial fun w hs => endM m 0 ?_ ?_ rfl rfl hs)
   · clear hs w hQ hN hK4 hK3 hK1; rfl
   · clear hs w hQ hN hK4 hK3 hK1; exact ⟨hl1_2, srt_all hl1_3 (by omega)⟩
 replace h5 := DT h5
 refine WK hK3 <| w_seq fun _ hK6 => w_block <| WS fun _ hK7 => rS (MV rfl) <| rS (AG rfl) <| RK hK7 <| w_block ?_
 have hinit : (i ≤ i) ∧ (m.length = l.length) ∧ (m.Perm l) ∧ (Ins m i i) := by exact ⟨Nat.le_refl _, hl1_1, hl1_2, ins_start hl1_3 (by omega)⟩
 refine w_loop (ι := { z : Nat × (List Int) // (z.1 ≤ i) ∧ (z.2.length = l.length) ∧ (z.2.Perm l) ∧ (Ins z.2 i z.1) }) (fun z => [(0, (Value.slice lA l.length lC)), (1, (Value.int .i64 0)), (2, (Value.int .i64 ((l.length : Nat) : Int))), (6, (Value.int .i64 (i : Int))), (7, (Value.int .i64 ((z.1.1 : Nat) : Int)))]) (fun z => [(own lA lC 3 1 (z.1.2.map iC))]) (fun z => z.1.1) ⟨(i, m), hinit⟩ (Sub.cons rfl <| Sub.cons rfl <| Sub.cons rfl <| Sub.cons rfl <| Sub.cons rfl <| Sub.nil _) (fun w hs => St.sel [0] rfl rfl hs) ?_
 clear hinit
 rintro ⟨⟨j, q⟩, ⟨hl4_0, hl4_1, hl4_2, hl4_3⟩⟩ J8 hJ8
 try dsimp only at hl4_0 hl4_1 hl4_2 hl4_3
 try dsimp only
 refine w_seq fun _ hK9 => w_seq fun _ hK10 => w_draw mixed 15 (by kernel_rfl) <| dS (MV rfl) <| dS (MV rfl) <| dS (BI rfl b_gtr) <| dS (MV rfl) ?_
 refine d_bool (t := 19) rfl (fun hj => ?_) (fun hj => ?_)
 rotate_left 1
 · replace hj := DF hj
   refine dS (OX rfl) <| dS (OX rfl) <| dS (OX rfl) <| dS (OX rfl) <| dS (OX rfl) <| dS (OX rfl) <| dS (OX rfl) <| dS (OX rfl) <| dS (OX rfl) <| dS (OX rfl) ?_
   refine dS (PK rfl) <| d_end <| RK hK10 <| w_if_false rfl <| w_exit <| k_exit_then <| k_exit_then <| k_exit_same <| k_block <| KK hK6 ?_
   refine w_region <| rS (MV rfl) <| rS (BI rfl (b_add ⟨by omega, by omega⟩)) <| rS (AG rfl) <| r_nil ?_
   refine k_then (hJ2 ⟨((i + 1), q), ⟨by omega, hl4_1, hl4_2, by first | exact ins_zero (by omega) hl4_3 | exact ins_stop hx hy (by omega) hl4_0 hless hl4_3⟩⟩ _ _ _ rfl (by simp only []; omega) (Sub.cons rfl <| Sub.cons rfl <| Sub.cons rfl <| Sub.cons rfl <| Sub.nil _) (fun w hs => St.sel [0] rfl rfl hs))
 replace hj := DT hj
 refine dS (MV rfl) <| dS (MV rfl) ?_
 obtain ⟨x, hx⟩ : ∃ y_, q[j]? = some y_ := ⟨q[j]'(by omega), List.getElem?_eq_getElem _⟩
 have hxm : (q.map iC)[j]? = some (iC x) := by rw [List.getElem?_map, hx]; rfl
 refine dS (IA j rfl (has_own_n (n := l.length) 0 rfl (by first | (simp; done) | (simp; omega))) te33 (by decide) (by omega) (by omega)) <| dS (LE1 j 0 (Value.int .i64 x) rfl tk3 (has_own_n (n := q.length) 0 rfl (by simp)) hxm rfl (by decide) rfl) <| dS (MV rfl) <| dS (MV rfl) <| dS (BI rfl (b_sub ⟨by omega, by omega⟩)) ?_
 obtain ⟨y, hy⟩ : ∃ y_, q[(j - 1)]? = some y_ := ⟨q[(j - 1)]'(by omega), List.getElem?_eq_getElem _⟩
 have hym : (q.map iC)[(j - 1)]? = some (iC y) := by rw [List.getElem?_map, hy]; rfl
 refine dS (IA (j - 1) rfl (has_own_n (n := l.length) 0 rfl (by first | (simp; done) | (simp; omega))) te33 (by decide) (by omega) (by omega)) <| dS (LE1 (j - 1) 0 (Value.int .i64 y) rfl tk3 (has_own_n (n := q.length) 0 rfl (by simp)) hym rfl (by decide) rfl) <| dS (CL (cless_c x y) (ha_nil) rfl) <| dS (PK rfl) <| d_end <| RK hK10 ?_
 refine w_if rfl (fun hless => ?_) (fun hless => ?_)
 rotate_left 1
 · replace hless := DF hless
   refine w_exit <| k_exit_then <| k_exit_then <| k_exit_same <| k_block <| KK hK6 <| w_region <| rS (MV rfl) <| rS (BI rfl (b_add ⟨by omega, by omega⟩)) <| rS (AG rfl) ?_
   refine r_nil ?_
   refine k_then (hJ2 ⟨((i + 1), q), ⟨by omega, hl4_1, hl4_2, by first | exact ins_zero (by omega) hl4_3 | exact ins_stop hx hy (by omega) hl4_0 hless hl4_3⟩⟩ _ _ _ rfl (by simp only []; omega) (Sub.cons rfl <| Sub.cons rfl <| Sub.cons rfl <| Sub.cons rfl <| Sub.nil _) (fun w hs => St.sel [0] rfl rfl hs))
 replace hless := DT hless
 refine WK hK9 <| w_seq fun _ hK11 => w_block <| w_draw4 mixed [0, 1, 2, 3, 4, 5, 6, 7, 8, 9, 10, 11, 12, 13, 14] [15, 16, 17] [false, false, false, false, false, false, false, false, true, true, false, false, true, true, true] [false, false, false] [] [(own lA lC 3 1 (q.map iC))] (by kernel_rfl) (fun w hs => St.sel [] rfl rfl hs) (fun w hs => St.sel [0] rfl rfl hs) <| eS rfl (MV rfl) <| eS rfl (MV rfl) <| eS rfl (MV rfl) <| eS rfl (MV rfl) <| eS rfl (BI rfl (b_sub ⟨by omega, by omega⟩)) <| eS rfl (MV rfl) ?_
 refine eS rfl (MV rfl) <| eS rfl (BI rfl (b_sub ⟨by omega, by omega⟩)) <| fS rfl (IA (j - 1) rfl (has_own_n (n := l.length) 0 rfl (by first | (simp; done) | (simp; omega))) te33 (by decide) (by omega) (by omega)) <| fS rfl (LE1 (j - 1) 0 (Value.int .i64 y) rfl tk3 (has_own_n (n := q.length) 0 rfl (by simp)) hym rfl (by decide) rfl) <| eS rfl (MV rfl) <| eS rfl (MV rfl) <| fS rfl (IA j rfl (has_own_n (n := l.length) 0 rfl (by first | (simp; done) | (simp; omega))) te33 (by decide) (by omega) (by omega)) <| fS rfl (LE1 j 0 (Value.int .i64 x) rfl tk3 (has_own_n (n := q.length) 0 rfl (by simp)) hxm rfl (by decide) rfl) <| fS rfl (IA j rfl (has_own_n (n := l.length) 0 rfl (by first | (simp; done) | (simp; omega))) te33 (by decide) (by omega) (by omega)) <| d_fin rfl ?_
 refine t_cons rfl fun T12 hT12 => r_store_own (k := j) (o := 0) (vs := [(Value.int .i64 y)]) (es' := (List.map iC (q.set j y))) (C' := [(own lA lC 3 1 (List.map iC (q.set j y)))]) 0 rfl rfl rfl ts3 rfl rfl rfl rfl hxm rfl (by decide) (by exact (List.map_set (f := iC) (l := q) (i := j) (a := y)).symm) rfl <| RN hT12 [] rfl rfl <| t_cons rfl fun T13 hT13 => ?_
 obtain ⟨x14, hx15⟩ : ∃ y_, (q.set j y)[(j - 1)]? = some y_ := ⟨(q.set j y)[(j - 1)]'(by first | omega | (simp; omega)), List.getElem?_eq_getElem _⟩
 have hx15m : (List.map iC (q.set j y))[(j - 1)]? = some (iC x14) := by rw [List.getElem?_map, hx15]; rfl
 refine rS (IA (j - 1) rfl (has_own_n (n := l.length) 0 rfl (by first | (simp; done) | (simp; omega))) te33 (by decide) (by omega) (by omega)) <| RN hT13 [] rfl rfl <| t_cons rfl fun T16 hT16 => r_store_own (k := (j - 1)) (o := 0) (vs := [(Value.int .i64 x)]) (es' := (List.map iC ((q.set j y).set (j - 1) x))) (C' := [(own lA lC 3 1 (List.map iC ((q.set j y).set (j - 1) x)))]) 0 rfl rfl rfl ts3 rfl rfl rfl rfl hx15m rfl (by decide) (by exact (List.map_set (f := iC) (l := (q.set j y)) (i := (j - 1)) (a := x)).symm) rfl <| RN hT16 [] rfl rfl <| t_fin rfl <| k_block <| KK hK11 <| w_region <| rS (MV rfl) ?_
 refine rS (BI rfl (b_sub ⟨by omega, by omega⟩)) <| rS (AG rfl) <| r_nil ?_
 have hb17 : (Value.int .i64 (((j - 1) : Nat) : Int)) = (Value.int .i64 (((j : Nat) : Int) - 1)) := by exact congrArg (Value.int .i64) (by omega)
 refine k_then (hJ8 ⟨((j - 1), ((q.set j y).set (j - 1) x)), ⟨by omega, by simp; exact hl4_1, (swap_perm hx hy).trans hl4_2, ins_step hx hy (by omega) hl4_0 hless hl4_3⟩⟩ _ _ _ rfl (by simp only []; omega) (Sub.cons rfl <| Sub.cons rfl <| Sub.cons rfl <| Sub.cons rfl <| sub_val rfl hb17 <| Sub.nil _) (fun w hs => St.sel [0] rfl rfl hs))
set_option maxRecDepth 100000 in
set_option maxHeartbeats 400000 in
theorem len64_c (x : Int) (hx : 0 ≤ x ∧ x ≤ 100) :
    FnX Tryz.prog 96 [(Value.int .u64 x)] [] (fun (x : Int) => (Value.int .i64 x)) (fun (x : Int) => True) (fun (x : Int) => []) := by
 refine fnX_of go96 Tryz.func96 rfl rfl fun w0 Q hQ hN => ?_
 try dsimp only
 refine WS fun _ hK1 => rS (AG rfl) <| RK hK1 <| w_seq fun _ hK2 => WS fun _ hK3 => rS (MV rfl) <| rS (BI rfl b_geq) <| RK hK3 ?_
 refine w_if rfl (fun h4 => ?_) (fun h4 => ?_)
 · replace h4 := DT h4
   exfalso; omega
 replace h4 := DF h4
 refine WK hK2 <| w_seq fun _ hK5 => WS fun _ hK6 => rS (MV rfl) <| rS (BI rfl b_geq) <| RK hK6 ?_
 refine w_if rfl (fun h7 => ?_) (fun h7 => ?_)
 · replace h7 := DT h7
   exfalso; omega
 replace h7 := DF h7
 refine WK hK5 <| w_seq fun _ hK8 => WS fun _ hK9 => rS (MV rfl) <| rS (BI rfl b_geq) <| RK hK9 ?_
 refine w_if rfl (fun h10 => ?_) (fun h10 => ?_)
 · replace h10 := DT h10
   exfalso; omega
 replace h10 := DF h10
 refine WK hK8 <| WS fun _ hK11 => rS (MV rfl) <| rS (MV rfl) <| rS (SX (sd_conv (m := x) rfl rfl ut139 ut5 (wrap_u64_u8 (by first | assumption | omega))) rfl rfl) <| r_sidx (k := (x).toNat) rfl rfl rfl ut9 (by omega) (Nat.lt_of_lt_of_le (m := 200) (by omega) (of_decide_eq_true (by kernel_rfl))) rfl fun b12 hb13 => rS (SX (sd_conv (m := b12) rfl rfl ut5 ut3 (wrap_u8_i64 (by first | assumption | omega))) rfl rfl) <| rS (BI rfl (b_add ⟨by omega, by omega⟩)) <| rS (AG rfl) <| RK hK11 ?_
 refine w_ret ?_
 refine hQ _ _ _ (l_nil (vs := [(Value.int .i64 (0 + b12))]) ⟨rfl, trivial⟩ fun w hs => endX (0 + b12) [] ?_ ?_ rfl rfl rfl hs)
 · rfl
 · trivial
set_option maxRecDepth 100000 in
set_option maxHeartbeats 400000 in
theorem blen_c (x : Int) (hx : 0 ≤ x ∧ x ≤ 100) :
    FnX Tryz.prog 71 [(Value.int .u64 x)] [] (fun (x : Int) => (Value.int .i64 x)) (fun (x : Int) => True) (fun (x : Int) => []) := by
 refine fnX_of go71 Tryz.func71 rfl rfl fun w0 Q hQ hN => ?_
 try dsimp only
 refine WS fun _ hK1 => rS (AG rfl) <| RK hK1 <| w_seq fun _ hK2 => w_if_false rfl <| WK hK2 <| WS fun _ hK3 => rS (MV rfl) <| cX (len64_c x hx) (ha_nil) rfl fun n6 hy5 => ?_
 try dsimp only
 refine rS (AG rfl) <| RK hK3 <| w_ret ?_
 refine hQ _ _ _ (l_nil (vs := [(Value.int .i64 n6)]) ⟨rfl, trivial⟩ fun w hs => endX n6 [] ?_ ?_ rfl rfl rfl hs)
 · rfl
 · trivial
set_option maxRecDepth 100000 in
set_option maxHeartbeats 400000 in
theorem pdq_c (l : List Int) (lA : Option Addr) (lC : Nat) (u : Int) (hlen : l.length ≤ 12) :
    FnM Tryz.prog 70 [(Value.slice lA l.length lC), (Value.int .i64 0), (Value.int .i64 ((l.length : Nat) : Int)), (Value.int .i64 u)] [] (own lA lC 3 1 (l.map iC)) (fun (x : (List Int)) => (Value.tuple [].toArray)) (fun (x : (List Int)) => x.Perm l ∧ x.Pairwise (· ≤ ·)) (fun (x : (List Int)) => (own lA lC 3 1 (x.map iC))) := by
 refine fnM_of go70 Tryz.func70 rfl rfl fun w0 Q hQ hN => ?_
 try dsimp only
 refine WS fun _ hK1 => rS (AG rfl) <| RK hK1 <| WS fun _ hK2 => rS (AG rfl) <| RK hK2 <| w_block <| w_rounds 1 <| ro_succ fun R3 hR3 => w_block ?_
 refine WS fun _ hK4 => rS (MV rfl) <| rS (MV rfl) <| rS (BI rfl (b_sub ⟨by omega, by omega⟩)) <| rS (AG rfl) <| RK hK4 <| w_seq fun _ hK5 => WS fun _ hK6 => rS (MV rfl) <| rS (BI rfl b_leq) ?_
 refine RK hK6 ?_
 refine w_if rfl (fun h7 => ?_) (fun h7 => ?_)
 rotate_left 1
 · replace h7 := DF h7
   exfalso; omega
 replace h7 := DT h7
 refine WS fun _ hK8 => rS (MV rfl) <| rS (MV rfl) <| rS (MV rfl) ?_
 refine r_callm 0 rfl rfl rfl rfl (inssort_c l lA lC (by first | assumption | omega | (simp; done) | (simp; omega))) rfl cv_nil rfl (fun m9 hy11 => ?_)
 try dsimp only
 refine RK hK8 <| w_ret ?_
 refine hQ _ _ _ (l_nil (vs := []) trivial fun w hs => endM m9 0 ?_ ?_ rfl rfl hs)
 · clear hs w hQ hN hK8 hK6 hK5 hK4 hK2 hK1; rfl
 · clear hs w hQ hN hK8 hK6 hK5 hK4 hK2 hK1; assumption
set_option maxRecDepth 100000 in
set_option maxHeartbeats 400000 in
theorem sort_c (l : List Int) (lA : Option Addr) (lC : Nat) (hlen : l.length ≤ 12) :
    FnM Tryz.prog 50 [(Value.slice lA l.length lC)] [] (own lA lC 3 1 (l.map iC)) (fun (x : (List Int)) => (Value.tuple [].toArray)) (fun (x : (List Int)) => x.Perm l ∧ x.Pairwise (· ≤ ·)) (fun (x : (List Int)) => (own lA lC 3 1 (x.map iC))) := by
 refine fnM_of go50 Tryz.func50 rfl rfl fun w0 Q hQ hN => ?_
 try dsimp only
 refine WS fun _ hK1 => rS (MV rfl) <| rS (LN rfl ut33) <| rS (AG rfl) <| RK hK1 <| w_region <| rS (MV rfl) <| rS (MV rfl) <| rS (MV rfl) <| rS (SX (sd_conv (m := ((l.length : Nat) : Int)) rfl rfl ut3 ut112 (wrap_i64_u64 (by first | assumption | omega))) rfl rfl) ?_
 refine cX (blen_c ((l.length : Nat) : Int) (by first | assumption | omega | (simp; done) | (simp; omega))) (ha_nil) rfl fun n4 hy3 => ?_
 try dsimp only
 refine r_callm 0 rfl rfl rfl rfl (pdq_c l lA lC n4 hlen) rfl cv_nil rfl (fun m5 hy7 => ?_)
 try dsimp only
 refine r_nil ?_
 refine hN _ _ _ (l_nil (vs := []) trivial fun w hs => endM m5 0 ?_ ?_ rfl rfl hs)
 · clear hs w hQ hN hK1; rfl
 · clear hs w hQ hN hK1; assumption
end
section
open Go.RowKit
set_option linter.unusedVariables false
set_option maxRecDepth 100000 in
set_option maxHeartbeats 2000000 in
theorem wcalled_c (d : GuardM) (kA : Option Addr) (kC : Nat) (pA : Option Addr) (pC : Nat) (nA : Option Addr) (nC : Nat) (tA : Option Addr) (tN : Nat) (tC : Nat) (gw : Nat) (s : Nat) (hin : GuardIn d) (htr : trackOk d.Track = true) (hok : GuardOk d) (hsb : s < 256) :
    FnX Tryz.prog 36 [(Value.pointer (some ⟨gw, 0, none⟩)), (Value.int .i64 ((s : Nat) : Int))] [(rd kA d.Track.length 9 (d.Track.map StretchV.cells)), (rd pA d.Posts.length 7 (d.Posts.map PostV.cells)), (rd nA d.Needs.length 3 (d.Needs.map NeedV.cells)), (blk gw 73 (WatchV.cells (WatchV.mk (GuardV.mk (TrackV.mk (Slc.mk kA d.Track.length kC)) (Slc.mk pA d.Posts.length pC) (Slc.mk nA d.Needs.length nC) d.Tower d.Radio) (Slc.mk tA tN tC))))] (fun (x : (Option Addr) × Nat) => (Value.slice x.1 ((calledL d (bitS s)).length) x.2)) (fun (x : (Option Addr) × Nat) => True) (fun (x : (Option Addr) × Nat) => [(own x.1 x.2 3 1 ((calledL d (bitS s)).map iC))]) := by
 have hlen := hin.trk
 have hside := hin.side
 have hpl := hin.pst
 have hnl := hin.nds
 have hnk := hin.nk
 have hpk := hin.pk
 have hn8 := hok.len
 refine fnX_of go36 Tryz.func36 rfl rfl fun w0 Q hQ hN => ?_
 try dsimp only
 refine WS fun _ hK1 => rS (AG rfl) <| RK hK1 <| WS fun _ hK2 => gr_mkmap (kV := iV) rfl rfl fun b3 => ?_
 try dsimp only
 refine rS (AG rfl) <| RK hK2 <| w_seq fun _ hK4 => WS fun _ hK5 => rS (MV rfl) <| rS (SX (sd_nil_p rfl rfl) rfl rfl) <| rS (FA 0 rfl fo73_0 rfl) <| rS (FA 1 rfl fo32_1 rfl) <| rS (L1R (Value.slice pA d.Posts.length pC) 4 rfl tk25 rfl rfl) <| rS (LN rfl ut25) ?_
 refine rS (MV rfl) <| RK hK5 <| w_block ?_
 have hinit : (0 ≤ d.Posts.length) ∧ (KeyOk ([] : BM) (fun k => bitS s k ∧ k < 0)) := by exact ⟨Nat.zero_le _, key_iff key_nil fun k => ⟨False.elim, fun q => absurd q.2 (Nat.not_lt_zero _)⟩⟩
 refine w_loop (ι := { z : Nat × BM // (z.1 ≤ d.Posts.length) ∧ (KeyOk z.2 (fun k => bitS s k ∧ k < z.1)) }) (fun z => [(0, (Value.pointer (some ⟨gw, 0, none⟩))), (1, (Value.int .i64 ((s : Nat) : Int))), (5, (Value.map (some b3))), (18, (Value.slice pA d.Posts.length pC)), (19, (Value.int .i64 ((d.Posts.length : Nat) : Int))), (20, (Value.int .i64 ((z.1.1 : Nat) : Int)))]) (fun z => [(gmp iV b3 (gmapV Value.bool z.1.2)), (rd kA d.Track.length 9 (d.Track.map StretchV.cells)).ro, (rd pA d.Posts.length 7 (d.Posts.map PostV.cells)).ro, (rd nA d.Needs.length 3 (d.Needs.map NeedV.cells)).ro, (blk gw 73 (WatchV.cells (WatchV.mk (GuardV.mk (TrackV.mk (Slc.mk kA d.Track.length kC)) (Slc.mk pA d.Posts.length pC) (Slc.mk nA d.Needs.length nC) d.Tower d.Radio) (Slc.mk tA tN tC)))).ro]) (fun z => d.Posts.length - z.1.1) ⟨(0, ([] : BM)), hinit⟩ (Sub.cons rfl <| Sub.cons rfl <| Sub.cons rfl <| Sub.cons rfl <| Sub.cons rfl <| Sub.cons rfl <| Sub.nil _) (fun w hs => St.sel [0, 1, 2, 3, 4] rfl rfl hs) ?_
 clear hinit
 rintro ⟨⟨i, m⟩, ⟨hl3_0, hl3_1⟩⟩ J6 hJ6
 try dsimp only at hl3_0 hl3_1
 try dsimp only
 refine WS fun _ hK7 => rS (BI rfl b_lss) <| RK hK7 <| w_seq fun _ hK8 => ?_
 refine w_if rfl (fun h9 => ?_) (fun h9 => ?_)
 · replace h9 := DT h9
   refine WK hK8 <| w_seq fun _ hK10 => w_block <| WS fun _ hK11 => rS (MV rfl) <| rS (AG rfl) <| RK hK11 <| WS fun _ hK12 => rS (MV rfl) <| rS (MV rfl) ?_
   refine rS (BI rfl (b_shrN (i := i) (by omega) (by omega))) <| rS (BI rfl (b_and1 (m := (s / 2 ^ i)) (by omega) (Nat.lt_of_le_of_lt (Nat.div_le_self _ _) (by omega)))) <| rS (BI rfl b_eql) <| RK hK12 ?_
   refine w_if rfl (fun hg27 => ?_) (fun hg27 => ?_)
   rotate_left 1
   · replace hg27 := DF hg27
     refine w_skip <| k_block <| KK hK10 <| w_region <| rS (BI rfl (b_add ⟨by omega, by omega⟩)) <| rS (MV rfl) <| r_nil ?_
     have hb14 : (Value.int .i64 (((i + 1) : Nat) : Int)) = (Value.int .i64 (((i : Nat) : Int) + 1)) := by exact congrArg (Value.int .i64) (by omega)
     refine k_then (hJ6 ⟨((i + 1), m), ⟨by omega, by first | exact left_yes hl3_1 (bit_iff.1 hg27) | exact left_no hl3_1 (fun q => hg27 (bit_iff.2 q))⟩⟩ _ _ _ rfl (by first | omega | (simp; omega)) (Sub.cons rfl <| Sub.cons rfl <| Sub.cons rfl <| Sub.cons rfl <| Sub.cons rfl <| sub_val rfl hb14 <| Sub.nil _) (fun w hs => St.sel [0, 1, 2, 3, 4] rfl rfl hs))
   replace hg27 := DT hg27
   refine w_region <| rS (MV rfl) <| rS (MV rfl) <| gr_mapset (kV := iV) (x := ((i : Nat) : Int)) (C' := [(gmp iV b3 (gmapV Value.bool (gsetK m ((i : Nat) : Int) true))), _, _, _, _]) 0 rfl rfl rfl rfl ut85 (gkey_int ut3) rfl (gmapV_setK _ _ _ _).symm rfl <| r_nil <| k_block <| KK hK10 <| w_region <| rS (BI rfl (b_add ⟨by omega, by omega⟩)) <| rS (MV rfl) ?_
   refine r_nil ?_
   have hb13 : (Value.int .i64 (((i + 1) : Nat) : Int)) = (Value.int .i64 (((i : Nat) : Int) + 1)) := by exact congrArg (Value.int .i64) (by omega)
   refine k_then (hJ6 ⟨((i + 1), (gsetK m ((i : Nat) : Int) true)), ⟨by omega, by first | exact left_yes hl3_1 (bit_iff.1 hg27) | exact left_no hl3_1 (fun q => hg27 (bit_iff.2 q))⟩⟩ _ _ _ rfl (by first | omega | (simp; omega)) (Sub.cons rfl <| Sub.cons rfl <| Sub.cons rfl <| Sub.cons rfl <| Sub.cons rfl <| sub_val rfl hb13 <| Sub.nil _) (fun w hs => St.sel [0, 1, 2, 3, 4] rfl rfl hs))
 replace h9 := DF h9
 refine w_exit <| k_exit_then <| k_exit_then <| k_exit_same <| KK hK4 <| WS fun _ hK15 => rS (AG rfl) <| RK hK15 <| w_seq fun _ hK16 => WS fun _ hK17 => ?_
 refine rS (MV rfl) <| rS (SX (sd_nil_p rfl rfl) rfl rfl) <| rS (FA 0 rfl fo73_0 rfl) <| rS (FA 3 rfl fo32_3 rfl) <| rS (LPR (SpotV.cells d.Tower) 4 rfl tk30 rfl rfl rfl) <| r_bs (xs := [.tmp 35]) (cs := (SpotV.cells d.Tower)) rfl te86 tz30 rfl rfl rfl rfl (by simp [Value.cells, SpotV.cells_length]) rfl rfl fun b18 => rS (AG rfl) <| RK hK17 <| w_block <| w_blk_own (es := (List.map SpotV.cells [d.Tower])) (C' := [(own (some ⟨b18, 0, none⟩) 1 30 3 (List.map SpotV.cells [d.Tower])), _, _, _, _, _]) 0 rfl (map_len SpotV.cells_length _) rfl (by show 1 ≤ maxLen; decide) rfl ?_
 refine w_imp (C' := [(oq (some ⟨b18, 0, none⟩) 1 30 3 (List.map SpotV.cells [d.Tower])), _, _, _, _, _]) 0 rfl to_oq rfl <| w_own_nil 3 1 <| w_tie0 ?_
 have hinit : (KeyOk m (fun k => bitS s k ∧ k < i)) ∧ (CallI d (bitS s) (fun k => bitS s k ∧ k < i) ([d.Tower]) ([] : List Int)) ∧ (m.length + ([d.Tower]).length ≤ 100) := by exact ⟨hl3_1, call_start fun k => ⟨fun q => ⟨q.1, by omega⟩, fun q => ⟨q.1, by omega⟩⟩, by have := key_len hl3_1 (n := d.Posts.length) (fun k q => by omega); simp; omega⟩
 refine w_loopD (ι := { z : BM × (Nat → Prop) × (List Int) × (Option Addr) × Nat × (List SpotV) × (Option Addr) × Nat × (List Nat) // (KeyOk z.1 z.2.1) ∧ (CallI d (bitS s) z.2.1 z.2.2.2.2.2.1 z.2.2.1) ∧ (z.1.length + z.2.2.2.2.2.1.length ≤ 100) }) (fun z => z.1.2.2.2.2.2.2.2.2.map mark) (fun z => [(0, (Value.pointer (some ⟨gw, 0, none⟩))), (1, (Value.int .i64 ((s : Nat) : Int))), (5, (Value.map (some b3))), (7, (Value.slice z.1.2.2.2.1 z.1.2.2.1.length z.1.2.2.2.2.1)), (8, (Value.slice z.1.2.2.2.2.2.2.1 z.1.2.2.2.2.2.1.length z.1.2.2.2.2.2.2.2.1))]) (fun z => [(bund (z.1.2.2.2.2.2.2.2.2.map defd)), (own z.1.2.2.2.1 z.1.2.2.2.2.1 3 1 (z.1.2.2.1.map iC)), (oq z.1.2.2.2.2.2.2.1 z.1.2.2.2.2.2.2.2.1 30 3 (z.1.2.2.2.2.2.1.map SpotV.cells)), (gmp iV b3 (gmapV Value.bool z.1.1)), (rd kA d.Track.length 9 (d.Track.map StretchV.cells)).ro, (rd pA d.Posts.length 7 (d.Posts.map PostV.cells)).ro, (rd nA d.Needs.length 3 (d.Needs.map NeedV.cells)).ro, (blk gw 73 (WatchV.cells (WatchV.mk (GuardV.mk (TrackV.mk (Slc.mk kA d.Track.length kC)) (Slc.mk pA d.Posts.length pC) (Slc.mk nA d.Needs.length nC) d.Tower d.Radio) (Slc.mk tA tN tC)))).ro]) (fun z => z.1.1.length + z.1.2.2.2.2.2.1.length) ⟨(m, (fun k => bitS s k ∧ k < i), ([] : List Int), none, 0, [d.Tower], (some ⟨b18, 0, none⟩), 1, ([] : List Nat)), hinit⟩ rfl (Sub.cons rfl <| Sub.cons rfl <| Sub.cons rfl <| Sub.cons rfl <| Sub.cons rfl <| Sub.nil _) (fun w hs => St.sel [0, 1, 2, 3, 4, 5, 6, 7] rfl rfl hs) ?_
 clear hinit
 rintro ⟨⟨m, L, l, a, c, tdq, qa, qc, rs10⟩, ⟨hl10_0, hl10_1, hl10_2⟩⟩ J19 hJ19
 try dsimp only at hl10_0 hl10_1 hl10_2
 try dsimp only
 refine w_seq fun _ hK20 => WS fun _ hK21 => rS (MV rfl) <| rS (LN rfl ut86) <| rS (BI rfl b_gtr) <| RK hK21 ?_
 refine w_if rfl (fun hg39 => ?_) (fun hg39 => ?_)
 rotate_left 1
 · replace hg39 := DF hg39
   refine w_exit <| k_exit_then <| k_exit_then <| k_exit_same <| KK hK16 <| WS fun _ hK56 => rS (MV rfl) ?_
   refine r_callm 1 rfl rfl rfl rfl (sort_c l a c (by have := call_len hl10_1; omega)) rfl cv_nil rfl (fun srtd hso => ?_)
   try dsimp only
   refine RK hK56 <| WS fun _ hK58 => rS (MV rfl) ?_
   have hsf : srtd = (calledL d (bitS s)) := call_done (by rw [show tdq = [] from List.eq_nil_of_length_eq_zero (by omega)] at hl10_1; exact hl10_1) hso.1 hso.2
   rw [hsf]
   refine rS (AG rfl) <| RK hK58 <| w_ret ?_
   refine hQ _ _ _ (l_marks0 0 rfl rfl <| l_nil (vs := [(Value.slice a l.length c)]) ⟨rfl, trivial⟩ fun w hs => endX (a, c) [0] ?_ ?_ rfl rfl rfl hs)
   · (rw [show (calledL d (bitS s)).length = l.length from by rw [← hsf]; exact hso.1.length_eq]; rfl)
   · trivial
 replace hg39 := DT hg39
 refine WK hK20 <| w_seq fun _ hK22 => w_block <| w_seq fun _ hK23 => ?_
 obtain ⟨s0, rest, rfl⟩ : ∃ s0 rest, tdq = s0 :: rest := by cases tdq with | nil => (simp at hg39) | cons x y => exact ⟨x, y, rfl⟩
 have hss := src_spot hok hl10_1 (List.mem_cons_self ..)
 refine w_region <| AL rfl tz33 fun b24 => RK hK23 <| w_seq fun _ hK25 => WS fun _ hK26 => rS (MV rfl) <| rS (MV rfl) ?_
 have hs0m : ((s0 :: rest).map SpotV.cells)[0]? = some (SpotV.cells s0) := rfl
 refine rS (IA 0 rfl (has_oq_n (n := (s0 :: rest).length) 3 rfl (by simp)) te86 (by decide) rfl (by omega)) <| rS (LEN 0 0 (SpotV.cells s0) rfl tk30 (has_oq_n (n := (s0 :: rest).length) 3 rfl (by simp)) hs0m rfl (by decide) rfl rfl) <| rS (MV rfl) <| cX (hearing_c gw b3 s0) (ha_nil) rfl fun y27 hy28 => ?_
 obtain ⟨x129, x230, x331⟩ := y27
 try dsimp only
 refine RK hK26 <| w_block <| w_dup 8 rfl (by exact fun _ h => h) <| w_dup 10 rfl (by exact fun _ h => h) <| w_dup 12 rfl (by exact fun _ h => h) <| w_dup 14 rfl (by exact fun _ h => h) <| w_own_nil 3 1 ?_
 refine w_rangeG (L0 := [(0, (Value.pointer (some ⟨gw, 0, none⟩))), (1, (Value.int .i64 ((s : Nat) : Int))), (5, (Value.map (some b3))), (7, (Value.slice a l.length c)), (8, (Value.slice qa ((s0 :: rest).length) qc)), (9, (Value.pointer (some ⟨b24, 0, none⟩)))]) (F := [(rd kA d.Track.length 9 (d.Track.map StretchV.cells)).ro, (rd pA d.Posts.length 7 (d.Posts.map PostV.cells)).ro, (rd nA d.Needs.length 3 (d.Needs.map NeedV.cells)).ro, (blk gw 73 (WatchV.cells (WatchV.mk (GuardV.mk (TrackV.mk (Slc.mk kA d.Track.length kC)) (Slc.mk pA d.Posts.length pC) (Slc.mk nA d.Needs.length nC) d.Tower d.Radio) (Slc.mk tA tN tC)))).ro, (blk x129 48 [(Value.pointer (some ⟨gw, 0, none⟩))]), (gmp iV b3 (gmapV Value.bool m)), (blk x230 85 [(Value.map (some b3))]), (blk x331 30 (SpotV.cells s0))])  (fun k (y : (Option Addr) × Nat) => True) (fun k y => [(own y.1 y.2 3 1 (k.map iC)), (blk b24 33 [(Value.slice y.1 k.length y.2)]), (bund (rs10.map defd)), (own a c 3 1 (l.map iC)), (oq qa qc 30 3 ((s0 :: rest).map SpotV.cells)), (rd kA d.Track.length 9 (d.Track.map StretchV.cells)).ro, (rd pA d.Posts.length 7 (d.Posts.map PostV.cells)).ro, (rd nA d.Needs.length 3 (d.Needs.map NeedV.cells)).ro, (blk gw 73 (WatchV.cells (WatchV.mk (GuardV.mk (TrackV.mk (Slc.mk kA d.Track.length kC)) (Slc.mk pA d.Posts.length pC) (Slc.mk nA d.Needs.length nC) d.Tower d.Radio) (Slc.mk tA tN tC)))).ro]) (fun _ (_ : Unit) => False) (fun _ _ => []) [0, 8, 9, 10, 11, 13, 14, 15, 16] [4, 3, 2, 1, 5, 12, 6, 7] (none, 0) rfl rfl (hear1_c d kA kC pA pC nA nC tA tN tC gw m L b3 s0 x129 x230 x331 (by first | assumption | omega | (simp; done)) (by first | assumption | omega | (simp; done)) (by first | assumption | omega | (simp; done)) (by exact hss) (by exact hl10_0)) rfl rfl rfl (by first | trivial | simp) (by simp only [List.forall_mem_cons, List.not_mem_nil, false_imp_iff, implies_true, and_true]; exact ⟨⟨_, by simp, (cov_ro (cov_refl _))⟩, ⟨_, by simp, (cov_ro (cov_refl _))⟩, ⟨_, by simp, (cov_ro (cov_refl _))⟩, ⟨_, by simp, (cov_ro (cov_refl _))⟩, ⟨_, by simp, (cov_refl _)⟩, ⟨_, by simp, (cov_refl _)⟩, ⟨_, by simp, (cov_refl _)⟩, ⟨_, by simp, (cov_refl _)⟩⟩) (by rintro k x k2 ⟨i, _, _, _, rfl, _⟩; rfl) rfl (Sub.cons rfl <| Sub.cons rfl <| Sub.cons rfl <| Sub.cons rfl <| Sub.cons rfl <| Sub.cons rfl <| Sub.nil _) ?_ ?_ (fun _ _ _ h => h.elim) (fun _ _ h => h.elim)
 · rintro k x k2 ⟨a1, c1⟩ l ra rb S w1 K32 Qr33 hsz hx hin34 hK32 hQr33 xQr33 yQr33
   obtain ⟨i, hi, hqq, hys, rfl, rfl⟩ := hx
   try dsimp only
   refine w_region <| rS (AG rfl) <| r_nil ?_
   refine k_then (hK32 _ _ ?_)
   refine w_block <| w_region <| rS (L1W 2 rfl tk33 rfl) <| rS (MV rfl) <| r_bs (xs := [.tmp 50]) (cs := [(Value.int .i64 ((i : Nat) : Int))]) rfl te33 tz3 rfl rfl rfl rfl (by simp [Value.cells]) rfl rfl fun b35 => r_append (es2 := (List.map iC (k ++ [((i : Nat) : Int)]))) (m' := (k ++ [((i : Nat) : Int)]).length) 2 rfl rfl rfl ta33 rfl rfl (by simp) (has_rd_blk (es := List.map iC [((i : Nat) : Int)]) 0 rfl rfl (by simp [iC_length]) rfl) (one_iC _) (by rw [hys]; have := idxL_len (n := i) (p := hearQ d L s0); omega) (by rw [hys]; have := idxL_len (n := i) (p := hearQ d L s0); simp only [maxLen]; omega) (by simp) (by simp) rfl fun a36 c37 => ?_
   try dsimp only
   refine SO3 rfl ts33 rfl rfl <| r_nil <| k_block ?_
   exact hQr33 (a36, c37) _ _ (by trivial) (fun w hs => St.sel [1, 2, 3, 4, 5, 6, 7, 8, 9, 10] rfl rfl hs)
 rintro r38 k ⟨a1, c1⟩ hfin hin39
 try dsimp only
 refine k_block <| KK hK25 <| w_seq fun _ hK40 => WS fun _ hK41 => ?_
 have hkl := idxL_len (n := d.Posts.length) (p := hearQ d L s0)
 rw [show idxL d.Posts.length (hearQ d L s0) = k from hfin.symm] at hkl
 have hml := call_len hl10_1
 refine rS (L1W 10 rfl tk33 rfl) <| rS (LN rfl ut33) <| rS (MV rfl) <| RK hK41 <| w_block ?_
 rw [show s0 :: rest = s0 :: (rest ++ (k.take 0).map (spotOf d)) from by simp]
 have hinit : (0 ≤ k.length) ∧ (KeyOk m (fun i => L i ∧ (i : Int) ∉ k.take 0)) ∧ (m.length + 0 = m.length) := by exact ⟨Nat.zero_le _, key_iff hl10_0 fun q => by simp, rfl⟩
 have hb42 : (Value.slice qa ((s0 :: (rest ++ (k.take 0).map (spotOf d))).length) qc) = (Value.slice qa ((s0 :: (rest ++ (k.take 0).map (spotOf d))).length) qc) := by simp
 refine w_loop (ι := { z : Nat × BM × (Option Addr) × Nat // (z.1 ≤ k.length) ∧ (KeyOk z.2.1 (fun i => L i ∧ (i : Int) ∉ k.take z.1)) ∧ (z.2.1.length + z.1 = m.length) }) (fun z => [(0, (Value.pointer (some ⟨gw, 0, none⟩))), (1, (Value.int .i64 ((s : Nat) : Int))), (5, (Value.map (some b3))), (7, (Value.slice a l.length c)), (8, (Value.slice z.1.2.2.1 ((s0 :: (rest ++ (k.take z.1.1).map (spotOf d))).length) z.1.2.2.2)), (9, (Value.pointer (some ⟨b24, 0, none⟩))), (53, (Value.slice a1 k.length c1)), (54, (Value.int .i64 ((k.length : Nat) : Int))), (55, (Value.int .i64 ((z.1.1 : Nat) : Int)))]) (fun z => [(obj r38 (.deferred (some []))), (rd kA d.Track.length 9 (d.Track.map StretchV.cells)).ro, (rd pA d.Posts.length 7 (d.Posts.map PostV.cells)).ro, (rd nA d.Needs.length 3 (d.Needs.map NeedV.cells)).ro, (blk gw 73 (WatchV.cells (WatchV.mk (GuardV.mk (TrackV.mk (Slc.mk kA d.Track.length kC)) (Slc.mk pA d.Posts.length pC) (Slc.mk nA d.Needs.length nC) d.Tower d.Radio) (Slc.mk tA tN tC)))).ro, (gmp iV b3 (gmapV Value.bool z.1.2.1)), (own a1 c1 3 1 (k.map iC)), (blk b24 33 [(Value.slice a1 k.length c1)]), (bund (rs10.map defd)), (own a c 3 1 (l.map iC)), (oq z.1.2.2.1 z.1.2.2.2 30 3 (List.map SpotV.cells (s0 :: (rest ++ (k.take z.1.1).map (spotOf d))))), (rd kA d.Track.length 9 (d.Track.map StretchV.cells)).ro, (rd pA d.Posts.length 7 (d.Posts.map PostV.cells)).ro, (rd nA d.Needs.length 3 (d.Needs.map NeedV.cells)).ro, (blk gw 73 (WatchV.cells (WatchV.mk (GuardV.mk (TrackV.mk (Slc.mk kA d.Track.length kC)) (Slc.mk pA d.Posts.length pC) (Slc.mk nA d.Needs.length nC) d.Tower d.Radio) (Slc.mk tA tN tC)))).ro]) (fun z => k.length - z.1.1) ⟨(0, m, qa, qc), hinit⟩ (Sub.cons rfl <| Sub.cons rfl <| Sub.cons rfl <| Sub.cons rfl <| sub_val rfl hb42 <| Sub.cons rfl <| Sub.cons rfl <| Sub.cons rfl <| Sub.cons rfl <| Sub.nil _) (fun w hs => St.sel [0, 1, 2, 3, 4, 6, 9, 10, 11, 12, 13, 14, 15, 16, 17] rfl rfl hs) ?_
 clear hinit
 rintro ⟨⟨j, m2, q2, c2⟩, ⟨hl17_0, hl17_1, hl17_2⟩⟩ J43 hJ43
 try dsimp only at hl17_0 hl17_1 hl17_2
 try dsimp only
 refine WS fun _ hK44 => rS (BI rfl b_lss) <| RK hK44 <| w_seq fun _ hK45 => ?_
 refine w_if rfl (fun h46 => ?_) (fun h46 => ?_)
 rotate_left 1
 · replace h46 := DF h46
   refine w_exit <| k_exit_then <| k_exit_then <| k_exit_same <| KK hK40 <| w_region <| rS (MV rfl) <| rS (L1W 7 rfl tk33 rfl) <| r_append (es2 := (List.map iC (l ++ k))) (m' := (l ++ k).length) 9 rfl rfl rfl ta33 rfl rfl (by simp) (has_own_n (n := k.length) 6 rfl (by simp)) (one_iC _) (by omega) (by simp only [maxLen]; omega) (by simp) (by simp) rfl fun a54 c55 => ?_
   try dsimp only
   refine rS (AG rfl) <| r_nil <| k_block <| KK hK22 <| w_region <| rS (MV rfl) <| rS (SLO 1 rfl te86 rfl (by simp)) <| rS (AG rfl) <| r_nil <| k_tief (X := rs10.map defd) 8 0 rfl rfl ?_
   try dsimp only
   refine k_imp (A := oq q2 c2 30 3 (SpotV.cells s0 :: List.map SpotV.cells (rest ++ (k.take j).map (spotOf d)))) (C' := [_, _, _, _, _, _, _, _, _, (oq (sub1 q2 c2 1 3) (c2 - 1) 30 3 (List.map SpotV.cells (rest ++ (k.take j).map (spotOf d)))), _, _, _, _]) 9 rfl next_oq rfl ?_
   refine k_then (hJ19 ⟨(m2, (fun i => L i ∧ (i : Int) ∉ k.take j), (l ++ k), a54, c55, (rest ++ (k.take j).map (spotOf d)), (sub1 q2 c2 1 3), (c2 - 1), (r38 :: rs10)), ⟨hl17_1, by rw [show k.take j = k from List.take_of_length_le (by omega)]; rw [show k = moreL d L s0 from hfin]; exact call_step hl10_1 (fun q => Iff.rfl), by have h1 := hl10_2; simp only [List.length_cons, List.length_append, List.length_map, List.length_take] at h1 ⊢; omega⟩⟩ _ _ _ rfl (by simp only [List.length_cons, List.length_append, List.length_map, List.length_take]; omega) (Sub.cons rfl <| Sub.cons rfl <| Sub.cons rfl <| Sub.cons rfl <| Sub.cons rfl <| Sub.nil _) (fun w hs => St.sel [0, 8, 9, 5, 1, 2, 3, 4] rfl rfl hs))
 replace h46 := DT h46
 refine WK hK45 <| w_seq fun _ hK47 => w_block <| WS fun _ hK48 => ?_
 obtain ⟨x, hx⟩ : ∃ y_, k[j]? = some y_ := ⟨k[j]'(by omega), List.getElem?_eq_getElem _⟩
 have hxm : (k.map iC)[j]? = some (iC x) := by rw [List.getElem?_map, hx]; rfl
 refine rS (IA j rfl (has_own_n (n := k.length) 6 rfl (by simp)) te33 (by decide) (by omega) (by omega)) <| rS (LE1 j 0 (Value.int .i64 x) rfl tk3 (has_own_n (n := k.length) 6 rfl (by simp)) hxm rfl (by decide) rfl) <| rS (AG rfl) <| RK hK48 <| WS fun _ hK49 => ?_
 obtain ⟨i, hxi, hi1, hi2, p0, hp0, hh0⟩ := mem_idxL.1 (show x ∈ idxL d.Posts.length (hearQ d L s0) from by have e0 : k = idxL d.Posts.length (hearQ d L s0) := hfin; rw [← e0]; exact List.mem_of_getElem? hx)
 have hrl : rest.length ≤ 100 := by have h1 := hl10_2; simp only [List.length_cons] at h1; omega
 refine rS (MV rfl) <| rS (MV rfl) <| gr_mapdel0 (kV := iV) (x := x) (C' := [_, _, _, _, _, (gmp iV b3 (gmapV Value.bool (gdelK m2 x))), _, _, _, _, _, _, _, _, _]) 5 rfl rfl rfl rfl ut85 (gkey_int ut3) rfl (gmapV_delK _ _ _).symm rfl <| RK hK49 <| w_region <| rS (MV rfl) <| rS (MV rfl) <| rS (SX (sd_nil_p rfl rfl) rfl rfl) <| rS (FA 0 rfl fo73_0 rfl) <| rS (FA 1 rfl fo32_1 rfl) ?_
 refine rS (L1R (Value.slice pA d.Posts.length pC) 4 rfl tk25 rfl rfl) <| rS (MV rfl) ?_
 obtain ⟨p, hp⟩ : ∃ y_, d.Posts[(x).toNat]? = some y_ := ⟨d.Posts[(x).toNat]'(by omega), List.getElem?_eq_getElem _⟩
 have hpm : (d.Posts.map PostV.cells)[(x).toNat]? = some (PostV.cells p) := by rw [List.getElem?_map, hp]; rfl
 refine rS (IA ((x).toNat) rfl (has_at 2 rfl) te25 (by decide) (by omega) (by omega)) <| rS (FAR ((((x).toNat) * 7) + 2) rfl (has_at 2 rfl) (Nat.mul_pos (by omega) (by decide)) fo63_2 rfl) <| rS (LEN ((x).toNat) 2 (SpotV.cells p.Spot) rfl tk30 (has_at 2 rfl) hpm rfl (by decide) rfl rfl) <| r_bs (xs := [.tmp 70]) (cs := (SpotV.cells p.Spot)) rfl te86 tz30 rfl rfl rfl rfl (by simp [Value.cells, SpotV.cells_length]) rfl rfl fun b50 => r_appendq (es2 := (List.map SpotV.cells (s0 :: (rest ++ (k.take (j + 1)).map (spotOf d))))) (m' := (s0 :: (rest ++ (k.take (j + 1)).map (spotOf d))).length) 11 rfl rfl rfl ta86 rfl rfl (by simp) (has_rd_blk (es := List.map SpotV.cells [p.Spot]) 0 rfl rfl (by simp [SpotV.cells_length]) rfl) (one_SpotV_cells _) (by decide) (by simp; omega) (by simp [maxLen]; omega) (by rw [map_take_snoc hx hp]; simp) (by simp) rfl fun a51 c52 => ?_
 try dsimp only
 refine rS (AG rfl) <| r_nil <| k_block <| KK hK47 <| w_region <| rS (BI rfl (b_add ⟨by omega, by omega⟩)) <| rS (MV rfl) <| r_nil ?_
 have hb53 : (Value.int .i64 (((j + 1) : Nat) : Int)) = (Value.int .i64 (((j : Nat) : Int) + 1)) := by exact congrArg (Value.int .i64) (by omega)
 refine k_then (hJ43 ⟨((j + 1), (gdelK m2 x), a51, c52), ⟨by omega, del_take hl17_1 hx hxi, by have := del_takelen hl17_1 (show k.Nodup from by have e0 : k = moreL d L s0 := hfin; rw [e0]; exact more_nodup) hx hxi hi2; dsimp only; omega⟩⟩ _ _ _ rfl (by first | omega | (simp; omega)) (Sub.cons rfl <| Sub.cons rfl <| Sub.cons rfl <| Sub.cons rfl <| Sub.cons rfl <| Sub.cons rfl <| Sub.cons rfl <| Sub.cons rfl <| sub_val rfl hb53 <| Sub.nil _) (fun w hs => St.sel [1, 2, 3, 4, 5, 6, 7, 8, 9, 10, 11, 12, 13, 14, 15] rfl rfl hs))
end
section
open Go.RowKit
set_option linter.unusedVariables false
set_option maxRecDepth 100000 in
set_option maxHeartbeats 400000 in
theorem meets1_c (x : Int) (d : GuardM) (kA : Option Addr) (kC : Nat) (pA : Option Addr) (pC : Nat) (nA : Option Addr) (nC : Nat) (tz : List RA) (tA : Option Addr) (tC : Nat) (gw : Nat) (n : NeedV) (g1 : Nat) (g2 : Nat) (hin : GuardIn d) (htr : trackOk d.Track = true) (hok : GuardOk d) (htz : tz.length = d.Posts.length) (hn : NeedOk d.Track n) (hx : 0 ≤ x ∧ x < (d.Posts.length : Int)) :
    FnV Tryz.prog 53 [(Value.int .i64 x), (Value.pointer (some ⟨g1, 0, none⟩)), (Value.pointer (some ⟨g2, 0, none⟩))] [(rd kA d.Track.length 9 (d.Track.map StretchV.cells)), (rd pA d.Posts.length 7 (d.Posts.map PostV.cells)), (rd nA d.Needs.length 3 (d.Needs.map NeedV.cells)), (rd tA ((timesL d).length) 1 (List.zipWith rowC (timesL d) tz)), (bun (nest rowR (timesL d) tz)), (blk gw 73 (WatchV.cells (WatchV.mk (GuardV.mk (TrackV.mk (Slc.mk kA d.Track.length kC)) (Slc.mk pA d.Posts.length pC) (Slc.mk nA d.Needs.length nC) d.Tower d.Radio) (Slc.mk tA ((timesL d).length) tC)))), (blk g1 48 [(Value.pointer (some ⟨gw, 0, none⟩))]), (blk g2 69 (NeedV.cells n))] (Value.bool (!(decide (fitsX d n x)))) := by
 have hlen := hin.trk
 have hside := hin.side
 have hpl := hin.pst
 have hnl := hin.nds
 have hnk := hin.nk
 have hpk := hin.pk
 unfold NeedOk at hn
 have htl := timesL_len (d := d)
 refine fnV_of go53 Tryz.func53 rfl rfl fun w0 Q hQ hN => ?_
 try dsimp only
 refine WS fun _ hK1 => rS (AG rfl) <| RK hK1 <| w_seq fun _ hK2 => w_draw mixed 29 (by kernel_rfl) <| dS (L1Q 6 rfl tk48 rfl) <| dS (SX (sd_nil_p rfl rfl) rfl rfl) <| dS (FA 0 rfl fo73_0 rfl) <| dS (FA 1 rfl fo32_1 rfl) <| dS (L1R (Value.slice pA d.Posts.length pC) 5 rfl tk25 rfl rfl) ?_
 refine dS (MV rfl) ?_
 obtain ⟨p, hp⟩ : ∃ y_, d.Posts[(x).toNat]? = some y_ := ⟨d.Posts[(x).toNat]'(by omega), List.getElem?_eq_getElem _⟩
 have hpm : (d.Posts.map PostV.cells)[(x).toNat]? = some (PostV.cells p) := by rw [List.getElem?_map, hp]; rfl
 refine dS (IA ((x).toNat) rfl (has_at 1 rfl) te25 (by decide) (by omega) (by omega)) <| dS (FAR ((((x).toNat) * 7) + 1) rfl (has_at 1 rfl) (Nat.mul_pos (by omega) (by decide)) fo63_1 rfl) <| dS (LE1 ((x).toNat) 1 (Value.int .u8 p.Kind) rfl tk5 (has_at 1 rfl) hpm rfl (by decide) rfl) <| dS (FA 1 rfl fo69_1 rfl) <| dS (L1R (Value.int .u8 n.Kind) 7 rfl tk5 rfl rfl) <| dS (BI rfl b_neq) <| dS (MV rfl) ?_
 refine d_bool (t := 17) rfl (fun hg17 => ?_) (fun hg17 => ?_)
 · replace hg17 := XT hg17
   refine dS (OX rfl) <| dS (OX rfl) <| dS (OX rfl) <| dS (OX rfl) <| dS (OX rfl) <| dS (OX rfl) <| dS (OX rfl) <| dS (OX rfl) <| dS (OX rfl) <| dS (OX rfl) ?_
   refine dS (OX rfl) <| dS (OX rfl) <| dS (OX rfl) <| dS (OX rfl) <| dS (PK rfl) <| dS (AG rfl) <| d_end <| RK hK2 <| w_ret <| Q1 hQ rfl rfl rfl ?_
   first | (refine congrArg Value.bool ?_; rw [decide_eq_false (fun q => by have q1 := (fitsX_iff hp).1 q; first | omega | exact hg17 q1.1)]; rfl) | (refine congrArg Value.bool ?_; have hte : tm = timeF d.Track p n.Stretch := (by rw [hmt] at htm; have e0 := timesP_at htm; rw [Int.toNat_of_nonneg hn.1.1] at e0; exact e0); rw [show decide (fitsX d n x) = decide (tm ≤ n.Seconds) from decide_eq_decide.2 (by rw [fitsX_iff hp, hte]; exact ⟨fun q => q.2, fun q => ⟨by omega, q⟩⟩)]; rw [← decide_not]; exact decide_eq_decide.2 (by omega))
 replace hg17 := XF hg17
 refine dS (L1Q 6 rfl tk48 rfl) <| dS (SX (sd_nil_p rfl rfl) rfl rfl) <| dS (FA 7 rfl fo73_1 rfl) <| dS (L1R (Value.slice tA ((timesL d).length) tC) 5 rfl tk71 rfl rfl) <| dS (MV rfl) ?_
 obtain ⟨ms, hms⟩ : ∃ y_, (timesL d)[(x).toNat]? = some y_ := ⟨(timesL d)[(x).toNat]'(by omega), List.getElem?_eq_getElem _⟩
 obtain ⟨msa, hmsa⟩ : ∃ y_, tz[(x).toNat]? = some y_ := ⟨tz[(x).toNat]'(by omega), List.getElem?_eq_getElem _⟩
 have hmsm : (List.zipWith rowC (timesL d) tz)[(x).toNat]? = some (rowC ms msa) := zip_get hms hmsa
 refine dS (IA ((x).toNat) rfl (has_at 3 rfl) te71 (by decide) (by omega) (by omega)) ?_
 have hmt := timesL_at hp hms
 have hml : ms.length = d.Track.length := by rw [hmt]; exact timesP_len
 refine dS (LE1 ((x).toNat) 0 (Value.slice msa.1 ms.length msa.2) rfl tk33 (has_at 3 rfl) hmsm rfl (by decide) rfl) <| dS (FA 0 rfl fo69_0 rfl) <| dS (L1R (Value.int .i64 n.Stretch) 7 rfl tk3 rfl rfl) ?_
 obtain ⟨tm, htm⟩ : ∃ y_, ms[(n.Stretch).toNat]? = some y_ := ⟨ms[(n.Stretch).toNat]'(by omega), List.getElem?_eq_getElem _⟩
 have htmm : (ms.map iC)[(n.Stretch).toNat]? = some (iC tm) := by rw [List.getElem?_map, htm]; rfl
 refine dS (IA ((n.Stretch).toNat) rfl (show Has _ (rd msa.1 ms.length 1 (ms.map iC)).holds from (has_inr 4 rfl (mem_nest hms hmsa (by simp [rowR])))) te33 (by decide) (by omega) (by omega)) <| dS (LE1 ((n.Stretch).toNat) 0 (Value.int .i64 tm) rfl tk3 (show Has _ (rd msa.1 ms.length 1 (ms.map iC)).holds from (has_inr 4 rfl (mem_nest hms hmsa (by simp [rowR])))) htmm rfl (by decide) rfl) <| dS (FA 2 rfl fo69_2 rfl) <| dS (L1R (Value.int .i64 n.Seconds) 7 rfl tk3 rfl rfl) <| dS (BI rfl b_gtr) <| dS (PK rfl) <| dS (AG rfl) <| d_end <| RK hK2 <| w_ret ?_
 refine Q1 hQ rfl rfl rfl ?_
 first | (refine congrArg Value.bool ?_; rw [decide_eq_false (fun q => by have q1 := (fitsX_iff hp).1 q; first | omega | exact hg17 q1.1)]; rfl) | (refine congrArg Value.bool ?_; have hte : tm = timeF d.Track p n.Stretch := (by rw [hmt] at htm; have e0 := timesP_at htm; rw [Int.toNat_of_nonneg hn.1.1] at e0; exact e0); rw [show decide (fitsX d n x) = decide (tm ≤ n.Seconds) from decide_eq_decide.2 (by rw [fitsX_iff hp, hte]; exact ⟨fun q => q.2, fun q => ⟨by omega, q⟩⟩)]; rw [← decide_not]; exact decide_eq_decide.2 (by omega))
set_option maxRecDepth 100000 in
set_option maxHeartbeats 400000 in
theorem clone_c (l : List Int) (lA : Option Addr) (lC : Nat) (hlen : l.length ≤ 1000000) :
    FnX Tryz.prog 52 [(Value.slice lA l.length lC)] [(rd lA l.length 1 (l.map iC))] (fun (x : (Option Addr) × Nat) => (Value.slice x.1 l.length x.2)) (fun (x : (Option Addr) × Nat) => True) (fun (x : (Option Addr) × Nat) => [(own x.1 x.2 3 1 (l.map iC))]) := by
 refine fnX_of go52 Tryz.func52 rfl rfl fun w0 Q hQ hN => ?_
 try dsimp only
 refine WS fun _ hK1 => rS (AG rfl) <| RK hK1 <| w_seq fun _ hK2 => WS fun _ hK3 => rS (MV rfl) <| rS (BI rfl (b_eqls ut33)) <| RK hK3 ?_
 refine w_if rfl (fun hg4 => ?_) (fun hg4 => ?_)
 · replace hg4 := DT hg4
   refine WS fun _ hK4 => r_rd_nil (has_at 0 rfl) hg4 (by decide) fun hnil => ?_
   have hl0 : l = [] := by simpa using hnil
   refine r_own_nil 3 1 ?_
   rw [show (own none 0 3 1 ([] : List (List Value))) = own none 0 3 1 (l.map iC) from by rw [hl0]; rfl]
   refine rS (AG rfl) <| RK hK4 <| w_ret ?_
   refine hQ _ _ _ (l_nil (vs := [(Value.slice none 0 0)]) ⟨rfl, trivial⟩ fun w hs => endX (none, 0) [0] ?_ ?_ rfl rfl rfl hs)
   · first | rfl | (rw [hl0]; rfl)
   · trivial
 replace hg4 := DF hg4
 refine WK hK2 <| WS fun _ hK5 => r_bs0 rfl te33 rfl fun b6 => rS (MV rfl) <| r_blk_own (es := (List.map iC [])) (C' := [own (some ⟨b6, 0, none⟩) 0 3 1 (List.map iC []), _]) 0 rfl (by simp) rfl (by simp [maxLen]) rfl <| r_append (es2 := (List.map iC l)) (m' := l.length) 0 rfl rfl rfl ta33 rfl rfl (by simp) (has_at 1 rfl) (one_iC _) (by first | omega | (simp; omega)) (by first | (simp only [maxLen]; omega) | (simp [maxLen]; omega)) (by simp) (by simp) rfl fun a7 c8 => ?_
 try dsimp only
 refine rS (AG rfl) <| RK hK5 <| w_ret ?_
 refine hQ _ _ _ (l_nil (vs := [(Value.slice a7 l.length c8)]) ⟨rfl, trivial⟩ fun w hs => endX (a7, c8) [0] ?_ ?_ rfl rfl rfl hs)
 · first | rfl | (rw [hl0]; rfl)
 · trivial
set_option maxRecDepth 100000 in
set_option maxHeartbeats 400000 in
theorem delfunc_c (l : List Int) (lA : Option Addr) (lC : Nat) (f : Value) (p : Int → Bool) (X : Assn) (hf : ∀ x0, x0 ∈ l → Clo Tryz.prog f [.int .i64 x0] [X] (.bool (p x0))) (hlen : l.length ≤ 1000000) :
    FnM Tryz.prog 51 [(Value.slice lA l.length lC), f] [X] (own lA lC 3 1 (l.map iC)) (fun (x : (List Int)) => (Value.slice lA x.length lC)) (fun (x : (List Int)) => x = (l.filter fun u => !p u)) (fun (x : (List Int)) => (own lA lC 3 1 (x.map iC))) := by
 refine fnM_of go51 Tryz.func51 rfl rfl fun w0 Q hQ hN => ?_
 try dsimp only
 refine WS fun _ hK1 => rS (AG rfl) <| RK hK1 <| WS fun _ hK2 => rS (MV rfl) <| rS (MV rfl) <| rS (CL (index_c l lA lC f p X (by exact hf) hlen) (ha_cons (has_own_n (n := l.length) 0 rfl (by simp)) <| ha_at 1 rfl rfl <| ha_nil) rfl) <| rS (AG rfl) <| RK hK2 <| w_seq fun _ hK3 => ?_
 refine WS fun _ hK4 => rS (MV rfl) <| rS (BI rfl b_eql) <| RK hK4 ?_
 refine w_if rfl (fun hg12 => ?_) (fun hg12 => ?_)
 · replace hg12 := DT hg12
   refine WS fun _ hK5 => ?_
   have hall := del_none hg12
   refine rS (MV rfl) <| rS (AG rfl) <| RK hK5 <| w_ret ?_
   refine hQ _ _ _ (l_nil (vs := [(Value.slice lA l.length lC)]) ⟨rfl, trivial⟩ fun w hs => endM l 0 ?_ ?_ rfl rfl hs)
   · clear hs w hQ hN hK5 hK4 hK3 hK2 hK1; first | rfl | (rw [hdone.2] <;> rfl)
   · clear hs w hQ hN hK5 hK4 hK3 hK2 hK1; first | rfl | exact hall
 replace hg12 := DF hg12
 refine WK hK3 <| w_seq fun _ hK6 => WS fun _ hK7 => ?_
 obtain ⟨hfi, hdi⟩ := del_start (p := p) (l := l) hg12
 refine rS (MV rfl) <| rS (BI rfl (b_add ⟨by omega, by omega⟩)) <| rS (AG rfl) <| RK hK7 <| w_block ?_
 have hinit : (((findI p l).toNat) ≤ ((findI p l).toNat + 1) ∧ ((findI p l).toNat + 1) ≤ l.length) ∧ (DelI p l l ((findI p l).toNat) ((findI p l).toNat + 1)) := by exact ⟨by omega, hdi⟩
 have hb8 : (Value.int .i64 ((((findI p l).toNat) : Nat) : Int)) = (Value.int .i64 (findI p l)) := by exact congrArg (Value.int .i64) (by omega)
 have hb9 : (Value.int .i64 ((((findI p l).toNat + 1) : Nat) : Int)) = (Value.int .i64 ((findI p l) + 1)) := by exact congrArg (Value.int .i64) (by omega)
 refine w_loop (ι := { z : Nat × Nat × (List Int) // (z.1 ≤ z.2.1 ∧ z.2.1 ≤ l.length) ∧ (DelI p l z.2.2 z.1 z.2.1) }) (fun z => [(0, (Value.slice lA l.length lC)), (1, f), (5, (Value.int .i64 ((z.1.1 : Nat) : Int))), (6, (Value.int .i64 ((z.1.2.1 : Nat) : Int)))]) (fun z => [(own lA lC 3 1 (z.1.2.2.map iC)), X.ro]) (fun z => l.length - z.1.2.1) ⟨((findI p l).toNat, ((findI p l).toNat + 1), l), hinit⟩ (Sub.cons rfl <| Sub.cons rfl <| sub_val rfl hb8 <| sub_val rfl hb9 <| Sub.nil _) (fun w hs => St.sel [0, 1] rfl rfl hs) ?_
 clear hinit
 rintro ⟨⟨i, j, q⟩, ⟨hl5_0, hl5_1⟩⟩ J10 hJ10
 try dsimp only at hl5_0 hl5_1
 try dsimp only
 have hlq := hl5_1.len
 refine w_seq fun _ hK11 => WS fun _ hK12 => rS (MV rfl) <| rS (MV rfl) <| rS (LN rfl ut33) <| rS (BI rfl b_lss) <| RK hK12 ?_
 refine w_if rfl (fun h13 => ?_) (fun h13 => ?_)
 rotate_left 1
 · replace h13 := DF h13
   refine w_exit <| k_exit_then <| k_exit_then <| k_exit_same <| KK hK6 <| WS fun _ hK22 => ?_
   have hlq := hl5_1.len
   have hdone := hl5_1.done (by omega)
   refine rS (MV rfl) <| rS (MV rfl) <| rS (SLO i rfl te33 (by omega) (by first | omega | (simp; omega))) <| r_clear (k := i) 0 rfl rfl ta33 (by intro v hv; simp [Value.cells] at hv; subst hv; rfl) rfl (by simp [hlq]) (by omega) ?_
   try dsimp only
   rw [show (own lA lC 3 1 ((q.map iC).take i)) = (own lA lC 3 1 ((l.filter fun u => !p u).map iC)) from by rw [← hdone.1, List.map_take]]
   refine RK hK22 <| WS fun _ hK23 => rS (MV rfl) <| rS (MV rfl) <| r_capq 0 rfl fun hcap => ?_
   have hic : i ≤ lC := by rw [List.length_map, hdone.2] at hcap; exact hcap
   refine rS (SHI i rfl te33 (by omega) (by first | omega | exact Nat.zero_le _ | (simp; omega))) <| rS (AG rfl) <| RK hK23 <| w_ret ?_
   refine hQ _ _ _ (l_nil (vs := [(Value.slice lA i lC)]) ⟨rfl, trivial⟩ fun w hs => endM (l.filter fun u => !p u) 0 ?_ ?_ rfl rfl hs)
   · clear hs w hQ hN hK23 hK22 hK12 hK11 hK7 hK6 hK4 hK3 hK2 hK1; first | rfl | (rw [hdone.2] <;> rfl)
   · clear hs w hQ hN hK23 hK22 hK12 hK11 hK7 hK6 hK4 hK3 hK2 hK1; first | rfl | exact hall
 replace h13 := DT h13
 refine WK hK11 <| w_seq fun _ hK14 => w_block <| WS fun _ hK15 => rS (MV rfl) <| rS (MV rfl) ?_
 obtain ⟨y, hy⟩ : ∃ y_, q[j]? = some y_ := ⟨q[j]'(by omega), List.getElem?_eq_getElem _⟩
 have hym : (q.map iC)[j]? = some (iC y) := by rw [List.getElem?_map, hy]; rfl
 refine rS (IA j rfl (has_own_n (n := l.length) 0 rfl (by first | (simp; done) | (simp; omega))) te33 (by decide) (by omega) (by omega)) <| rS (LE1 j 0 (Value.int .i64 y) rfl tk3 (has_own_n (n := q.length) 0 rfl (by simp)) hym rfl (by decide) rfl) <| rS (AG rfl) <| RK hK15 <| WS fun _ hK16 => rS (MV rfl) <| rS (MV rfl) ?_
 have hym : y ∈ l := hl5_1.mem hy
 refine rS (SX (sd_clo rfl rfl rfl (hf y hym) (ha_at 1 rfl rfl <| ha_nil)) rfl rfl) <| rS (NT rfl) <| RK hK16 ?_
 refine w_if rfl (fun hg29 => ?_) (fun hg29 => ?_)
 rotate_left 1
 · rw [Bool.not_eq_false'] at hg29
   refine w_skip <| k_block <| KK hK14 <| w_region <| rS (MV rfl) <| rS (BI rfl (b_add ⟨by omega, by omega⟩)) <| rS (AG rfl) <| r_nil ?_
   have hb20 : (Value.int .i64 ((i : Nat) : Int)) = (Value.int .i64 ((i : Nat) : Int)) := by exact congrArg (Value.int .i64) (by omega)
   have hb21 : (Value.int .i64 (((j + 1) : Nat) : Int)) = (Value.int .i64 (((j : Nat) : Int) + 1)) := by exact congrArg (Value.int .i64) (by omega)
   refine k_then (hJ10 ⟨(i, (j + 1), q), ⟨by dsimp only; omega, by first | exact hl5_1.keep hlq (by omega) hy hg29 | exact hl5_1.skip hlq hy hg29⟩⟩ _ _ _ rfl (by first | omega | (simp; omega)) (Sub.cons rfl <| Sub.cons rfl <| sub_val rfl hb20 <| sub_val rfl hb21 <| Sub.nil _) (fun w hs => St.sel [0, 1] rfl rfl hs))
 rw [Bool.not_eq_true'] at hg29
 refine WS fun _ hK17 => rS (MV rfl) <| rS (MV rfl) <| rS (MV rfl) ?_
 obtain ⟨z, hz⟩ : ∃ y_, q[i]? = some y_ := ⟨q[i]'(by omega), List.getElem?_eq_getElem _⟩
 have hzm : (q.map iC)[i]? = some (iC z) := by rw [List.getElem?_map, hz]; rfl
 refine rS (IA i rfl (has_own_n (n := l.length) 0 rfl (by first | (simp; done) | (simp; omega))) te33 (by decide) (by omega) (by omega)) <| r_store_own (k := i) (o := 0) (vs := [(Value.int .i64 y)]) (es' := (List.map iC (q.set i y))) (C' := [(own lA lC 3 1 (List.map iC (q.set i y))), _]) 0 rfl rfl rfl ts3 rfl rfl rfl rfl hzm rfl (by decide) (by exact (List.map_set (f := iC) (l := q) (i := i) (a := y)).symm) rfl <| RK hK17 <| w_region <| rS (MV rfl) <| rS (BI rfl (b_add ⟨by omega, by omega⟩)) <| rS (AG rfl) <| r_nil <| k_block <| KK hK14 ?_
 refine w_region <| rS (MV rfl) <| rS (BI rfl (b_add ⟨by omega, by omega⟩)) <| rS (AG rfl) <| r_nil ?_
 have hb18 : (Value.int .i64 (((i + 1) : Nat) : Int)) = (Value.int .i64 (((i : Nat) : Int) + 1)) := by exact congrArg (Value.int .i64) (by omega)
 have hb19 : (Value.int .i64 (((j + 1) : Nat) : Int)) = (Value.int .i64 (((j : Nat) : Int) + 1)) := by exact congrArg (Value.int .i64) (by omega)
 refine k_then (hJ10 ⟨((i + 1), (j + 1), (q.set i y)), ⟨by dsimp only; omega, by first | exact hl5_1.keep hlq (by omega) hy hg29 | exact hl5_1.skip hlq hy hg29⟩⟩ _ _ _ rfl (by first | omega | (simp; omega)) (Sub.cons rfl <| Sub.cons rfl <| sub_val rfl hb18 <| sub_val rfl hb19 <| Sub.nil _) (fun w hs => St.sel [0, 1] rfl rfl hs))
end
section
open Go.RowKit
set_option linter.unusedVariables false
set_option maxRecDepth 100000 in
set_option maxHeartbeats 400000 in
theorem wmeets_c (d : GuardM) (kA : Option Addr) (kC : Nat) (pA : Option Addr) (pC : Nat) (nA : Option Addr) (nC : Nat) (tz : List RA) (tA : Option Addr) (tC : Nat) (gw : Nat) (n : NeedV) (cl : List Int) (clA : Option Addr) (clC : Nat) (hin : GuardIn d) (htr : trackOk d.Track = true) (hok : GuardOk d) (htz : tz.length = d.Posts.length) (hn : NeedOk d.Track n) (hc : ∀ x ∈ cl, 0 ≤ x ∧ x < (d.Posts.length : Int)) (hcl : cl.length ≤ 1000000) :
    FnX Tryz.prog 37 [(Value.pointer (some ⟨gw, 0, none⟩)), (Value.agg (NeedV.cells n).toArray), (Value.slice clA cl.length clC)] [(rd kA d.Track.length 9 (d.Track.map StretchV.cells)), (rd pA d.Posts.length 7 (d.Posts.map PostV.cells)), (rd nA d.Needs.length 3 (d.Needs.map NeedV.cells)), (rd tA ((timesL d).length) 1 (List.zipWith rowC (timesL d) tz)), (bun (nest rowR (timesL d) tz)), (blk gw 73 (WatchV.cells (WatchV.mk (GuardV.mk (TrackV.mk (Slc.mk kA d.Track.length kC)) (Slc.mk pA d.Posts.length pC) (Slc.mk nA d.Needs.length nC) d.Tower d.Radio) (Slc.mk tA ((timesL d).length) tC)))), (rd clA cl.length 1 (cl.map iC))] (fun (x : (Option Addr) × Nat) => (Value.slice x.1 ((cl.filter fun x => decide (fitsX d n x)).length) x.2)) (fun (x : (Option Addr) × Nat) => True) (fun (x : (Option Addr) × Nat) => [(own x.1 x.2 3 1 ((cl.filter fun x => decide (fitsX d n x)).map iC))]) := by
 have hlen := hin.trk
 have hside := hin.side
 have hpl := hin.pst
 have hnl := hin.nds
 have hnk := hin.nk
 have hpk := hin.pk
 refine fnX_of go37 Tryz.func37 rfl rfl fun w0 Q hQ hN => ?_
 try dsimp only
 refine WS fun _ hK1 => BX1 rfl rfl fun b2 => BXA rfl fun b3 => rS (AG rfl) <| RK hK1 <| WS fun _ hK4 => rS (MV rfl) <| cX (clone_c cl clA clC (by exact hcl)) (ha_at 8 rfl rfl <| ha_nil) rfl fun y5 hy6 => ?_
 obtain ⟨a7, c8⟩ := y5
 try dsimp only
 refine rS (FU rfl) ?_
 refine r_callm 0 rfl rfl rfl rfl (fnM_unbun (delfunc_c cl a7 c8 (Value.func (.func 53) [].toArray [(Value.pointer (some ⟨b2, 0, none⟩)), (Value.pointer (some ⟨b3, 0, none⟩))].toArray) (fun u9 => (!(decide (fitsX d n u9)))) (bun [(rd kA d.Track.length 9 (d.Track.map StretchV.cells)), (rd pA d.Posts.length 7 (d.Posts.map PostV.cells)), (rd nA d.Needs.length 3 (d.Needs.map NeedV.cells)), (rd tA ((timesL d).length) 1 (List.zipWith rowC (timesL d) tz)), (bun (nest rowR (timesL d) tz)), (blk gw 73 (WatchV.cells (WatchV.mk (GuardV.mk (TrackV.mk (Slc.mk kA d.Track.length kC)) (Slc.mk pA d.Posts.length pC) (Slc.mk nA d.Needs.length nC) d.Tower d.Radio) (Slc.mk tA ((timesL d).length) tC)))), (blk b2 48 [(Value.pointer (some ⟨gw, 0, none⟩))]), (blk b3 69 (NeedV.cells n))]) (by intro u9 hmem; exact clo_of (fi := []) (ca := [(Value.pointer (some ⟨b2, 0, none⟩)), (Value.pointer (some ⟨b3, 0, none⟩))]) (fnV_bun (meets1_c u9 d kA kC pA pC nA nC tz tA tC gw n b2 b3 (by first | assumption | exact hc _ hmem | omega) (by first | assumption | exact hc _ hmem | omega) (by first | assumption | exact hc _ hmem | omega) (by first | assumption | exact hc _ hmem | omega) (by first | assumption | exact hc _ hmem | omega) (by first | assumption | exact hc _ hmem | omega)) (ha_at 0 rfl rfl <| ha_at 1 rfl rfl <| ha_at 2 rfl rfl <| ha_at 3 rfl rfl <| ha_at 4 rfl rfl <| ha_at 5 rfl rfl <| ha_at 6 rfl rfl <| ha_at 7 rfl rfl <| ha_nil))) (by omega))) rfl (cv_cons 3 rfl rfl (cov_ro (cov_refl _)) (cv_cons 4 rfl rfl (cov_ro (cov_refl _)) (cv_cons 5 rfl rfl (cov_ro (cov_refl _)) (cv_cons 6 rfl rfl (cov_ro (cov_refl _)) (cv_cons 7 rfl rfl (cov_refl _) (cv_cons 8 rfl rfl (cov_ro (cov_refl _)) (cv_cons 2 rfl rfl (cov_refl _) (cv_cons 1 rfl rfl (cov_refl _) cv_nil)))))))) rfl (fun mm hmf => ?_)
 try dsimp only
 have hmm : mm = (cl.filter fun x => decide (fitsX d n x)) := by rw [hmf]; simp only [Bool.not_not]
 rw [hmm]
 refine rS (AG rfl) <| RK hK4 <| w_ret ?_
 refine hQ _ _ _ (l_nil (vs := [(Value.slice a7 ((cl.filter fun x => decide (fitsX d n x)).length) c8)]) ⟨rfl, trivial⟩ fun w hs => endX (a7, c8) [0] ?_ ?_ rfl rfl rfl hs)
 · rfl
 · trivial
end
end Go.Proofs.YtlncplfcbmcjgaaGreat
