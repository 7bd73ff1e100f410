/-
  Walks: kreisel/beam.in$1, kreisel/beam.in, kreisel/beam.up, kreisel/beam.up, kreisel/beam.ahead, kreisel/beam.goes, kreisel/beam.asks$2$1, slices.IndexFunc[[]kreisel/api.Clock,kreisel/api.Clock], slices.ContainsFunc[[]kreisel/api.Clock,kreisel/api.Clock], slices.IndexFunc[[]kreisel/api.Beam,kreisel/api.Beam], slices.ContainsFunc[[]kreisel/api.Beam,kreisel/api.Beam]
-/
import Derived.Test.YtaehngpnlkokkaaTab
import Derived.Test.YtaehngpnlkokkaaShort
import Derived.Test.YtaehngpnlkokkaaGoes
import Derived.Test.YtaehngpnlkokkaaB1
namespace Go.Proofs.Ytaehngpnlkokkaa
open Go.RowKit
set_option linter.unusedVariables false

set_option maxRecDepth 100000 in
set_option maxHeartbeats 400000 in
theorem in1_beam (n : Int) (lo : Int) (hi : Int) (g1 : Nat) (g2 : Nat) :
    FnV Try.prog 74 [(Value.int .i64 n), (Value.pointer (some ⟨g1, 0, none⟩)), (Value.pointer (some ⟨g2, 0, none⟩))] [(blk g1 3 [(Value.int .i64 lo)]), (blk g2 3 [(Value.int .i64 hi)])] (Value.bool (decide (n < lo ∨ hi < n))) := by
 refine fnV_of go74 Try.func74 rfl rfl fun w0 Q hQ hN => ?_
 change WJ _ _ _ _ [(0, (Value.int .i64 n)), (1, (Value.pointer (some ⟨g1, 0, none⟩))), (2, (Value.pointer (some ⟨g2, 0, none⟩)))] [(blk g1 3 [(Value.int .i64 lo)]).ro, (blk g2 3 [(Value.int .i64 hi)]).ro]
 refine WS fun _ hK1 => ?_
 refine rS (AG rfl) ?_
 refine RK hK1 ?_
 refine WS fun _ hK2 => ?_
 refine rS (MV rfl) ?_
 refine rS (L1Q 0 rfl tk3 rfl) ?_
 refine rS (BI rfl b_lss) ?_
 refine rS (MV rfl) ?_
 refine r_bool (t := 8) rfl (fun h3 => ?_) (fun h3 => ?_)
 · replace h3 := DT h3
   refine rS (OX rfl) ?_
   refine rS (OX rfl) ?_
   refine rS (OX rfl) ?_
   refine rS (PK rfl) ?_
   refine rS (AG rfl) ?_
   refine RK hK2 ?_
   refine w_ret ?_
   refine Q1 hQ rfl rfl rfl ?_
   exact congrArg Value.bool (decide_eq_true (by omega)).symm
 replace h3 := DF h3
 refine rS (MV rfl) ?_
 refine rS (L1Q 1 rfl tk3 rfl) ?_
 refine rS (BI rfl b_gtr) ?_
 refine rS (PK rfl) ?_
 refine rS (AG rfl) ?_
 refine RK hK2 ?_
 refine w_ret ?_
 refine Q1 hQ rfl rfl rfl ?_
 exact congrArg Value.bool (decide_eq_decide.2 (by omega))

set_option maxRecDepth 100000 in
set_option maxHeartbeats 400000 in
theorem in_beam (lo : Int) (hi : Int) (l : List Int) (lA : Option Addr) (lC : Nat) (hlen : l.length ≤ 1000000) :
    FnV Try.prog 45 [(Value.int .i64 lo), (Value.int .i64 hi), (Value.slice lA l.length lC)] [(rd lA l.length 1 (l.map iC))] (Value.bool (inAll lo hi l)) := by
 refine fnV_of go45 Try.func45 rfl rfl fun w0 Q hQ hN => ?_
 change WJ _ _ _ _ [(0, (Value.int .i64 lo)), (1, (Value.int .i64 hi)), (2, (Value.slice lA l.length lC))] [(rd lA l.length 1 (l.map iC)).ro]
 refine WS fun _ hK1 => ?_
 refine BX1 rfl rfl fun b2 => ?_
 refine BX1 rfl rfl fun b3 => ?_
 refine rS (AG rfl) ?_
 refine RK hK1 ?_
 refine WS fun _ hK4 => ?_
 refine rS (MV rfl) ?_
 refine rS (FU rfl) ?_
 refine rS (CL (contains_c l lA lC (Value.func (.func 74) [].toArray [(Value.pointer (some ⟨b2, 0, none⟩)), (Value.pointer (some ⟨b3, 0, none⟩))].toArray) (fun u5 => (decide (u5 < lo ∨ hi < u5))) (bun [(blk b2 3 [(Value.int .i64 lo)]), (blk b3 3 [(Value.int .i64 hi)])]) (by intro u5 _; exact clo_of (fi := []) (ca := [(Value.pointer (some ⟨b2, 0, none⟩)), (Value.pointer (some ⟨b3, 0, none⟩))]) (fnV_bun (in1_beam u5 lo hi b2 b3 ) (ha_at 0 rfl rfl <| ha_at 1 rfl rfl <| ha_nil))) hlen) (ha_at 2 rfl rfl <| ha_cons (has_bun (ha_at 1 rfl rfl <| ha_at 0 rfl rfl <| ha_nil)) <| ha_nil) rfl) ?_
 refine rS (NT rfl) ?_
 refine rS (AG rfl) ?_
 refine RK hK4 ?_
 refine w_ret ?_
 exact Q1 hQ rfl rfl rfl rfl

set_option maxRecDepth 100000 in
set_option maxHeartbeats 400000 in
theorem up_c (n : Int) (d : Int) (hd : 2 ≤ d) :
    FnV Try.prog 51 [(Value.int .i64 n), (Value.int .i64 d)] [] (Value.int .i64 (upG n d)) := by
 refine fnV_of go51 Try.func51 rfl rfl fun w0 Q hQ hN => ?_
 change WJ _ _ _ _ [(0, (Value.int .i64 n)), (1, (Value.int .i64 d))] []
 refine WS fun _ hK1 => ?_
 refine rS (AG rfl) ?_
 refine RK hK1 ?_
 refine WS fun _ hK2 => ?_
 refine rS (MV rfl) ?_
 refine rS (MV rfl) ?_
 refine rS (BI rfl b_addW) ?_
 refine rS (BI rfl b_subW) ?_
 refine rS (MV rfl) ?_
 refine rS (BI rfl (b_quot (by omega) (tdiv_b (w64_b _) hd))) ?_
 refine rS (AG rfl) ?_
 refine RK hK2 ?_
 refine w_ret ?_
 exact Q1 hQ rfl rfl rfl rfl

set_option maxRecDepth 100000 in
set_option maxHeartbeats 400000 in
theorem upd_c (n : Int) (d : Int) (hd : 1 ≤ d ∧ d ≤ 1000000) (hn : 0 ≤ n ∧ n ≤ 1000000000000000) :
    FnV Try.prog 51 [(Value.int .i64 n), (Value.int .i64 d)] [] (Value.int .i64 (upD n d)) := by
 refine fnV_of go51 Try.func51 rfl rfl fun w0 Q hQ hN => ?_
 change WJ _ _ _ _ [(0, (Value.int .i64 n)), (1, (Value.int .i64 d))] []
 refine WS fun _ hK1 => ?_
 refine rS (AG rfl) ?_
 refine RK hK1 ?_
 refine WS fun _ hK2 => ?_
 refine rS (MV rfl) ?_
 refine rS (MV rfl) ?_
 refine rS (BI rfl (b_add ⟨by omega, by omega⟩)) ?_
 refine rS (BI rfl (b_sub ⟨by omega, by omega⟩)) ?_
 refine rS (MV rfl) ?_
 refine rS (BI rfl (b_quo (by omega) (by omega) (by omega))) ?_
 refine rS (AG rfl) ?_
 refine RK hK2 ?_
 refine w_ret ?_
 exact Q1 hQ rfl rfl rfl rfl

set_option maxRecDepth 100000 in
set_option maxHeartbeats 400000 in
theorem ahead_c (c : ClockM) (sA : Option Addr) (sC : Nat) (at_ : Int) (hc : ClockOk c) (ha : 0 ≤ at_ ∧ at_ ≤ 90000000) :
    FnV Try.prog 46 [(Value.agg (ClockV.cells (ClockV.mk c.Drift (Slc.mk sA c.Syncs.length sC))).toArray), (Value.int .i64 at_)] [(rd sA c.Syncs.length 3 (c.Syncs.map SyncV.cells))] (Value.agg (SpanV.cells (aheadF c at_)).toArray) := by
 have hcl := hc.len
 have hcd := hc.drift
 refine fnV_of go46 Try.func46 rfl rfl fun w0 Q hQ hN => ?_
 change WJ _ _ _ _ [(0, (Value.agg (ClockV.cells (ClockV.mk c.Drift (Slc.mk sA c.Syncs.length sC))).toArray)), (1, (Value.int .i64 at_))] [(rd sA c.Syncs.length 3 (c.Syncs.map SyncV.cells)).ro]
 refine WS fun _ hK1 => ?_
 refine BXA rfl fun b2 => ?_
 refine AL rfl tz34 fun b3 => ?_
 refine RK hK1 ?_
 refine WS fun _ hK4 => ?_
 refine rS (SX (sd_build (xs := [(0, .const (Value.int .i64 (-1099511627776))), (1, .const (Value.int .i64 1099511627776))]) (cs := (SpanV.cells (SpanV.mk (-1099511627776) 1099511627776))) rfl rfl (built_of tb34 rfl)) rfl rfl) ?_
 refine AL rfl tz34 fun b5 => ?_
 refine SW0 rfl ts34 rfl ?_
 refine RK hK4 ?_
 refine w_seq fun _ hK6 => ?_
 refine w_seq fun _ hK7 => ?_
 have hb8 : (SpanV.cells (SpanV.mk (-1099511627776) 1099511627776)) = (SpanV.cells (aheadK c at_ 0)) := by rfl
 rw [hb8]
 refine w_region ?_
 refine rS (FA 1 rfl fo64_1 rfl) ?_
 refine rS (L1 (Value.slice sA c.Syncs.length sC) 2 rfl tk62 rfl rfl) ?_
 refine rS (LN rfl ut62) ?_
 refine rS (MV rfl) ?_
 refine RK hK7 ?_
 refine w_block ?_
 have hinit : (0 ≤ c.Syncs.length) := by exact Nat.zero_le _
 refine w_loop (ι := { z : Nat // (z ≤ c.Syncs.length) }) (fun z => [(1, (Value.int .i64 at_)), (2, (Value.pointer (some ⟨b2, 0, none⟩))), (4, (Value.pointer (some ⟨b3, 0, none⟩))), (5, (Value.pointer (some ⟨b5, 0, none⟩))), (11, (Value.slice sA c.Syncs.length sC)), (12, (Value.int .i64 ((c.Syncs.length : Nat) : Int))), (13, (Value.int .i64 ((z.1 : Nat) : Int)))]) (fun z => [(blk b5 34 (SpanV.cells (aheadK c at_ z.1))), (blk b3 34 (SpanV.cells (SpanV.mk 0 0))), (blk b2 64 (ClockV.cells (ClockV.mk c.Drift (Slc.mk sA c.Syncs.length sC)))), (rd sA c.Syncs.length 3 (c.Syncs.map SyncV.cells)).ro]) (fun z => c.Syncs.length - z.1) ⟨0, hinit⟩ (Sub.cons rfl <| Sub.cons rfl <| Sub.cons rfl <| Sub.cons rfl <| Sub.cons rfl <| Sub.cons rfl <| Sub.cons rfl <| Sub.nil _) (fun w hs => St.sel [0, 1, 2, 3] rfl rfl hs) ?_
 clear hinit
 rintro ⟨i, hl0_0⟩ J9 hJ9
 change WJ _ _ _ _ [(1, (Value.int .i64 at_)), (2, (Value.pointer (some ⟨b2, 0, none⟩))), (4, (Value.pointer (some ⟨b3, 0, none⟩))), (5, (Value.pointer (some ⟨b5, 0, none⟩))), (11, (Value.slice sA c.Syncs.length sC)), (12, (Value.int .i64 ((c.Syncs.length : Nat) : Int))), (13, (Value.int .i64 ((i : Nat) : Int)))] [(blk b5 34 (SpanV.cells (aheadK c at_ i))), (blk b3 34 (SpanV.cells (SpanV.mk 0 0))), (blk b2 64 (ClockV.cells (ClockV.mk c.Drift (Slc.mk sA c.Syncs.length sC)))), (rd sA c.Syncs.length 3 (c.Syncs.map SyncV.cells)).ro]
 refine WS fun _ hK10 => ?_
 refine rS (BI rfl b_lss) ?_
 refine RK hK10 ?_
 refine w_seq fun _ hK11 => ?_
 refine w_if rfl (fun h12 => ?_) (fun h12 => ?_)
 rotate_left 1
 · replace h12 := DF h12
   refine w_exit ?_
   refine k_exit_then ?_
   refine k_exit_then ?_
   refine k_exit_same ?_
   refine KK hK6 ?_
   refine WS fun _ hK19 => ?_
   refine rS (LW 0 rfl tk34 rfl rfl) ?_
   refine SW1 rfl ts34 rfl ?_
   refine RK hK19 ?_
   refine w_ret ?_
   refine hQ _ _ _ (l_nil (vs := [(Value.agg (SpanV.cells (aheadK c at_ i)).toArray)]) ⟨⟨_, rfl, .inl ⟨_, _, tk34, at_blk (vs := (SpanV.cells (aheadK c at_ i))) 1 rfl rfl, rfl, rfl⟩⟩, trivial⟩ fun w hs => endV ?_ hs)
   show (Value.agg (SpanV.cells (aheadK c at_ i)).toArray) = (Value.agg (SpanV.cells (aheadF c at_)).toArray)
   clear hs w hQ hN hK19 hK11 hK10 hK7 hK6 hK4 hK1
   rw [aheadK_all (show c.Syncs.length ≤ i by omega)]
 replace h12 := DT h12
 refine WK hK11 ?_
 refine w_seq fun _ hK13 => ?_
 refine w_block ?_
 refine WS fun _ hK14 => ?_
 obtain ⟨x, hx⟩ : ∃ y_, c.Syncs[i]? = some y_ := ⟨c.Syncs[i]'(by omega), List.getElem?_eq_getElem _⟩
 have hxm : (c.Syncs.map SyncV.cells)[i]? = some (SyncV.cells x) := by rw [List.getElem?_map, hx]; rfl
 refine rS (IA i rfl (has_at 3 rfl) te62 (by decide) (by omega) (by omega)) ?_
 refine rS (LEN i 0 (SyncV.cells x) rfl tk61 (has_at 3 rfl) hxm rfl (by decide) rfl rfl) ?_
 refine AL rfl tz61 fun b15 => ?_
 refine SW0 rfl ts61 rfl ?_
 refine RK hK14 ?_
 refine WS fun _ hK16 => ?_
 refine rS (FA 0 rfl fo64_0 rfl) ?_
 refine rS (L1 (Value.int .i64 c.Drift) 3 rfl tk3 rfl rfl) ?_
 refine rS (MV rfl) ?_
 refine rS (FA 0 rfl fo61_0 rfl) ?_
 refine rS (L1 (Value.int .i64 x.At) 0 rfl tk3 rfl rfl) ?_
 have hsb := hc.sync_b hx
 have hkb := aheadK_b hc ha i
 have hdb := drift_b hcd ha (show 0 ≤ x.At ∧ x.At ≤ 90000000 by omega)
 refine rS (BI rfl (b_sub ⟨by omega, by omega⟩)) ?_
 refine rS (FA 0 rfl fo61_0 rfl) ?_
 refine rS (L1 (Value.int .i64 x.At) 0 rfl tk3 rfl rfl) ?_
 refine rS (MV rfl) ?_
 refine rS (BI rfl (b_sub ⟨by omega, by omega⟩)) ?_
 refine rS (MX rfl) ?_
 refine rS (BI rfl (b_mul ⟨by omega, by omega⟩)) ?_
 refine rS (CL (upd_c (c.Drift * (max (at_ - x.At) (x.At - at_))) 1000000 (by first | assumption | omega | (simp; done) | (simp; omega)) (by first | assumption | omega | (simp; done) | (simp; omega))) (ha_nil) rfl) ?_
 refine rS (AG rfl) ?_
 refine RK hK16 ?_
 refine w_region ?_
 refine rS (FA 0 rfl fo34_0 rfl) ?_
 refine rS (L1 (Value.int .i64 ((aheadK c at_ i).Lo)) 1 rfl tk3 rfl rfl) ?_
 refine rS (FA 1 rfl fo61_1 rfl) ?_
 refine rS (FA 1 rfl fo34_0 rfl) ?_
 refine rS (L1 (Value.int .i64 x.Ahead.Lo) 0 rfl tk3 rfl rfl) ?_
 refine rS (MV rfl) ?_
 have hob : 0 ≤ upD (c.Drift * max (at_ - x.At) (x.At - at_)) 1000000 ∧ upD (c.Drift * max (at_ - x.At) (x.At - at_)) 1000000 ≤ 90001 := offF_b hcd ha hsb.1
 refine rS (BI rfl (b_sub ⟨by omega, by omega⟩)) ?_
 refine rS (MX rfl) ?_
 refine rS (FA 1 rfl fo34_1 rfl) ?_
 refine rS (L1 (Value.int .i64 ((aheadK c at_ i).Hi)) 1 rfl tk3 rfl rfl) ?_
 refine rS (FA 1 rfl fo61_1 rfl) ?_
 refine rS (FA 2 rfl fo34_1 rfl) ?_
 refine rS (L1 (Value.int .i64 x.Ahead.Hi) 0 rfl tk3 rfl rfl) ?_
 refine rS (MV rfl) ?_
 refine rS (BI rfl (b_add ⟨by omega, by omega⟩)) ?_
 refine rS (MN rfl) ?_
 refine rS (SX (sd_build (xs := [(0, .tmp 37), (1, .tmp 45)]) (cs := (SpanV.cells (SpanV.mk (max ((aheadK c at_ i).Lo) (x.Ahead.Lo - (upD (c.Drift * (max (at_ - x.At) (x.At - at_))) 1000000))) (min ((aheadK c at_ i).Hi) (x.Ahead.Hi + (upD (c.Drift * (max (at_ - x.At) (x.At - at_))) 1000000)))))) rfl rfl (built_of tb34 rfl)) rfl rfl) ?_
 refine SW1 rfl ts34 rfl ?_
 refine r_nil ?_
 refine k_block ?_
 refine KK hK13 ?_
 have hb17 : (SpanV.cells (SpanV.mk (max ((aheadK c at_ i).Lo) (x.Ahead.Lo - (upD (c.Drift * (max (at_ - x.At) (x.At - at_))) 1000000))) (min ((aheadK c at_ i).Hi) (x.Ahead.Hi + (upD (c.Drift * (max (at_ - x.At) (x.At - at_))) 1000000))))) = (SpanV.cells (aheadK c at_ (i + 1))) := by rw [aheadK_succ hx]; rfl
 rw [hb17]
 refine w_region ?_
 refine rS (BI rfl (b_add ⟨by omega, by omega⟩)) ?_
 refine rS (MV rfl) ?_
 refine r_nil ?_
 have hb18 : (Value.int .i64 (((i + 1) : Nat) : Int)) = (Value.int .i64 (((i : Nat) : Int) + 1)) := by exact congrArg (Value.int .i64) (by omega)
 refine k_then (hJ9 ⟨(i + 1), (by first | omega | (simp only []; omega))⟩ _ _ _ rfl (by first | omega | (simp; omega)) (Sub.cons rfl <| Sub.cons rfl <| Sub.cons rfl <| Sub.cons rfl <| Sub.cons rfl <| Sub.cons rfl <| sub_val rfl hb18 <| Sub.nil _) (fun w hs => St.sel [1, 2, 3, 4] rfl rfl hs))

set_option maxRecDepth 100000 in
set_option maxHeartbeats 400000 in
theorem goes_c (c : ClockM) (sA : Option Addr) (sC : Nat) (hlen : c.Syncs.length ≤ 1000000) (hcap : c.Syncs.length ≤ sC) :
    FnV Try.prog 85 [(Value.agg (ClockV.cells (ClockV.mk c.Drift (Slc.mk sA c.Syncs.length sC))).toArray)] [(rd sA c.Syncs.length 3 (c.Syncs.map SyncV.cells))] (Value.bool (decide (ClockOk c))) := by
 refine fnV_of go85 Try.func85 rfl rfl fun w0 Q hQ hN => ?_
 change WJ _ _ _ _ [(0, (Value.agg (ClockV.cells (ClockV.mk c.Drift (Slc.mk sA c.Syncs.length sC))).toArray))] [(rd sA c.Syncs.length 3 (c.Syncs.map SyncV.cells)).ro]
 refine WS fun _ hK1 => ?_
 refine BXA rfl fun b2 => ?_
 refine rS (AG rfl) ?_
 refine RK hK1 ?_
 refine w_scope rfl ?_
 refine w_seq fun _ hK3 => ?_
 refine WS fun _ hK4 => ?_
 refine rS (FA 0 rfl fo64_0 rfl) ?_
 refine rS (L1 (Value.int .i64 c.Drift) 0 rfl tk3 rfl rfl) ?_
 refine r_bs (xs := [.tmp 11]) (cs := [(Value.int .i64 c.Drift)]) rfl te57 tz3 rfl rfl rfl rfl (by simp [Value.cells]) rfl rfl fun b5 => ?_
 refine rS (CL (FnV.eq (in_beam 0 1000 ([c.Drift]) (some ⟨b5, 0, none⟩) 1 (by first | assumption | omega | (simp; done) | (simp; omega))) inAll_one) (ha_cons (has_rd_blk 0 rfl rfl (by simp [iC_length]) rfl) <| ha_nil) rfl) ?_
 refine rS (NT rfl) ?_
 refine rS (MV rfl) ?_
 refine r_bool (t := 15) rfl (fun h15 => ?_) (fun h15 => ?_)
 · replace h15 := XT h15
   refine rS (OX rfl) ?_
   refine rS (OX rfl) ?_
   refine rS (OX rfl) ?_
   refine rS (OX rfl) ?_
   refine rS (OX rfl) ?_
   refine rS (OX rfl) ?_
   refine rS (PK rfl) ?_
   refine RK hK4 ?_
   refine w_if_true rfl ?_
   refine WS fun _ hK6 => ?_
   refine rS (AG rfl) ?_
   refine RK hK6 ?_
   refine w_ret ?_
   refine Q1 hQ rfl rfl rfl ?_
   first | exact congrArg Value.bool (decide_eq_false fun h => h15 h.drift).symm | exact congrArg Value.bool (decide_eq_false fun h => h22 (by have := h.len; omega)).symm | exact congrArg Value.bool (decide_eq_true (clock_yes h15 (by omega) (by have e : i = c.Syncs.length := (by omega); rw [← e]; exact hl0_1))).symm | exact congrArg Value.bool (by have e : k = i := (by omega); rw [e] at hl1_1; rw [h99] at hl1_1 ⊢; exact (decide_eq_false (clock_no hx (of_decide_eq_false hl1_1.symm))).symm)
 replace h15 := XF h15
 refine rS (FA 1 rfl fo64_1 rfl) ?_
 refine rS (L1 (Value.slice sA c.Syncs.length sC) 1 rfl tk62 rfl rfl) ?_
 refine rS (LN rfl ut62) ?_
 refine r_bs (xs := [.tmp 18]) (cs := [(Value.int .i64 ((c.Syncs.length : Nat) : Int))]) rfl te57 tz3 rfl rfl rfl rfl (by simp [Value.cells]) rfl rfl fun b7 => ?_
 refine rS (CL (FnV.eq (in_beam 1 5 ([((c.Syncs.length : Nat) : Int)]) (some ⟨b7, 0, none⟩) 1 (by first | assumption | omega | (simp; done) | (simp; omega))) inAll_one) (ha_cons (has_rd_blk 0 rfl rfl (by simp [iC_length]) rfl) <| ha_nil) rfl) ?_
 refine rS (NT rfl) ?_
 refine rS (PK rfl) ?_
 refine RK hK4 ?_
 refine w_if rfl (fun h22 => ?_) (fun h22 => ?_)
 · replace h22 := XT h22
   refine WS fun _ hK8 => ?_
   refine rS (AG rfl) ?_
   refine RK hK8 ?_
   refine w_ret ?_
   refine Q1 hQ rfl rfl rfl ?_
   first | exact congrArg Value.bool (decide_eq_false fun h => h15 h.drift).symm | exact congrArg Value.bool (decide_eq_false fun h => h22 (by have := h.len; omega)).symm | exact congrArg Value.bool (decide_eq_true (clock_yes h15 (by omega) (by have e : i = c.Syncs.length := (by omega); rw [← e]; exact hl0_1))).symm | exact congrArg Value.bool (by have e : k = i := (by omega); rw [e] at hl1_1; rw [h99] at hl1_1 ⊢; exact (decide_eq_false (clock_no hx (of_decide_eq_false hl1_1.symm))).symm)
 replace h22 := XF h22
 refine WK hK3 ?_
 refine WS fun _ hK9 => ?_
 refine rS (AG rfl) ?_
 refine RK hK9 ?_
 refine WS fun _ hK10 => ?_
 refine rS (AG rfl) ?_
 refine RK hK10 ?_
 refine w_seq fun _ hK11 => ?_
 refine w_label ?_
 refine KK hK11 ?_
 refine w_seq fun _ hK12 => ?_
 refine WS fun _ hK13 => ?_
 refine rS (FA 1 rfl fo64_1 rfl) ?_
 refine rS (L1 (Value.slice sA c.Syncs.length sC) 2 rfl tk62 rfl rfl) ?_
 refine rS (LN rfl ut62) ?_
 refine rS (MV rfl) ?_
 refine RK hK13 ?_
 refine w_block ?_
 have hinit : (0 ≤ c.Syncs.length) ∧ (DoneOk c 0) := by exact ⟨Nat.zero_le _, done_zero⟩
 have hb14 : (Value.int .i64 (prevAt c 0)) = (Value.int .i64 (-1)) := by rw [prevAt_zero rfl]
 refine w_loop (ι := { z : Nat // (z ≤ c.Syncs.length) ∧ (DoneOk c z) }) (fun z => [(1, (Value.pointer (some ⟨b2, 0, none⟩))), (2, (Value.bool false)), (3, (Value.int .i64 (prevAt c z.1))), (4, (Value.bool true)), (24, (Value.slice sA c.Syncs.length sC)), (25, (Value.int .i64 ((c.Syncs.length : Nat) : Int))), (26, (Value.int .i64 ((z.1 : Nat) : Int)))]) (fun z => [(blk b2 64 (ClockV.cells (ClockV.mk c.Drift (Slc.mk sA c.Syncs.length sC)))), (rd sA c.Syncs.length 3 (c.Syncs.map SyncV.cells)).ro]) (fun z => c.Syncs.length - z.1) ⟨0, hinit⟩ (Sub.cons rfl <| Sub.cons rfl <| sub_val rfl hb14 <| Sub.cons rfl <| Sub.cons rfl <| Sub.cons rfl <| Sub.cons rfl <| Sub.nil _) (fun w hs => St.sel [2, 3] rfl rfl hs) ?_
 clear hinit
 rintro ⟨i, ⟨hl0_0, hl0_1⟩⟩ J15 hJ15
 change WJ _ _ _ _ [(1, (Value.pointer (some ⟨b2, 0, none⟩))), (2, (Value.bool false)), (3, (Value.int .i64 (prevAt c i))), (4, (Value.bool true)), (24, (Value.slice sA c.Syncs.length sC)), (25, (Value.int .i64 ((c.Syncs.length : Nat) : Int))), (26, (Value.int .i64 ((i : Nat) : Int)))] [(blk b2 64 (ClockV.cells (ClockV.mk c.Drift (Slc.mk sA c.Syncs.length sC)))), (rd sA c.Syncs.length 3 (c.Syncs.map SyncV.cells)).ro]
 have hpv : -1 ≤ prevAt c i ∧ prevAt c i ≤ 86400000 := prev_b hl0_0 hl0_1
 refine WS fun _ hK16 => ?_
 refine rS (BI rfl b_lss) ?_
 refine RK hK16 ?_
 refine w_seq fun _ hK17 => ?_
 refine w_if rfl (fun h18 => ?_) (fun h18 => ?_)
 rotate_left 1
 · replace h18 := DF h18
   refine w_exit ?_
   refine k_exit_then ?_
   refine k_exit_then ?_
   refine k_exit_same ?_
   refine KK hK12 ?_
   refine WS fun _ hK47 => ?_
   refine rS (MV rfl) ?_
   refine rS (AG rfl) ?_
   refine RK hK47 ?_
   refine w_ret ?_
   refine Q1 hQ rfl rfl rfl ?_
   first | exact congrArg Value.bool (decide_eq_false fun h => h15 h.drift).symm | exact congrArg Value.bool (decide_eq_false fun h => h22 (by have := h.len; omega)).symm | exact congrArg Value.bool (decide_eq_true (clock_yes h15 (by omega) (by have e : i = c.Syncs.length := (by omega); rw [← e]; exact hl0_1))).symm | exact congrArg Value.bool (by have e : k = i := (by omega); rw [e] at hl1_1; rw [h99] at hl1_1 ⊢; exact (decide_eq_false (clock_no hx (of_decide_eq_false hl1_1.symm))).symm)
 replace h18 := DT h18
 refine WK hK17 ?_
 refine w_seq fun _ hK19 => ?_
 refine w_block ?_
 refine WS fun _ hK20 => ?_
 refine rS (MV rfl) ?_
 obtain ⟨x, hx⟩ : ∃ y_, c.Syncs[i]? = some y_ := ⟨c.Syncs[i]'(by omega), List.getElem?_eq_getElem _⟩
 have hxm : (c.Syncs.map SyncV.cells)[i]? = some (SyncV.cells x) := by rw [List.getElem?_map, hx]; rfl
 refine rS (IA i rfl (has_at 1 rfl) te62 (by decide) (by omega) (by omega)) ?_
 refine rS (LEN i 0 (SyncV.cells x) rfl tk61 (has_at 1 rfl) hxm rfl (by decide) rfl rfl) ?_
 refine AL rfl tz61 fun b21 => ?_
 refine rS (AG rfl) ?_
 refine SW0 rfl ts61 rfl ?_
 refine RK hK20 ?_
 refine w_join (ι := Unit) (fun z => [(1, (Value.pointer (some ⟨b2, 0, none⟩))), (2, (Value.bool false)), (3, (Value.int .i64 (prevAt c i))), (4, (Value.bool (decide (SyncOk c i x)))), (5, (Value.int .i64 ((i : Nat) : Int))), (6, (Value.pointer (some ⟨b21, 0, none⟩))), (24, (Value.slice sA c.Syncs.length sC)), (25, (Value.int .i64 ((c.Syncs.length : Nat) : Int))), (26, (Value.int .i64 ((i : Nat) : Int)))]) (fun z => [(blk b21 61 (SyncV.cells x)), (blk b2 64 (ClockV.cells (ClockV.mk c.Drift (Slc.mk sA c.Syncs.length sC)))), (rd sA c.Syncs.length 3 (c.Syncs.map SyncV.cells)).ro]) ?_ fun K22 hK22 => ?_
 · intro _
   change WJ _ _ _ _ [(1, (Value.pointer (some ⟨b2, 0, none⟩))), (2, (Value.bool false)), (3, (Value.int .i64 (prevAt c i))), (4, (Value.bool (decide (SyncOk c i x)))), (5, (Value.int .i64 ((i : Nat) : Int))), (6, (Value.pointer (some ⟨b21, 0, none⟩))), (24, (Value.slice sA c.Syncs.length sC)), (25, (Value.int .i64 ((c.Syncs.length : Nat) : Int))), (26, (Value.int .i64 ((i : Nat) : Int)))] [(blk b21 61 (SyncV.cells x)), (blk b2 64 (ClockV.cells (ClockV.mk c.Drift (Slc.mk sA c.Syncs.length sC)))), (rd sA c.Syncs.length 3 (c.Syncs.map SyncV.cells)).ro]
   refine w_seq fun _ hK23 => ?_
   refine WS fun _ hK24 => ?_
   refine rS (FA 1 rfl fo64_1 rfl) ?_
   refine rS (L1 (Value.slice sA c.Syncs.length sC) 1 rfl tk62 rfl rfl) ?_
   refine rS (MV rfl) ?_
   refine rS (SHI i rfl te62 (by omega) (by first | omega | exact Nat.zero_le _ | (simp; omega))) ?_
   refine rS (LN rfl ut62) ?_
   refine rS (MV rfl) ?_
   refine RK hK24 ?_
   refine w_block ?_
   have hinit : (0 ≤ i) ∧ ((decide (SyncOk c i x)) = (decide (RoundOk c i x 0))) := by exact ⟨Nat.zero_le _, decide_eq_decide.2 round_zero.symm⟩
   refine w_loop (ι := { z : Nat × Bool // (z.1 ≤ i) ∧ (z.2 = (decide (RoundOk c i x z.1))) }) (fun z => [(1, (Value.pointer (some ⟨b2, 0, none⟩))), (2, (Value.bool false)), (3, (Value.int .i64 (prevAt c i))), (4, (Value.bool z.1.2)), (5, (Value.int .i64 ((i : Nat) : Int))), (6, (Value.pointer (some ⟨b21, 0, none⟩))), (24, (Value.slice sA c.Syncs.length sC)), (25, (Value.int .i64 ((c.Syncs.length : Nat) : Int))), (26, (Value.int .i64 ((i : Nat) : Int))), (59, (Value.slice sA i sC)), (60, (Value.int .i64 ((i : Nat) : Int))), (61, (Value.int .i64 ((z.1.1 : Nat) : Int)))]) (fun z => [(blk b21 61 (SyncV.cells x)), (blk b2 64 (ClockV.cells (ClockV.mk c.Drift (Slc.mk sA c.Syncs.length sC)))), (rd sA c.Syncs.length 3 (c.Syncs.map SyncV.cells)).ro]) (fun z => i - z.1.1) ⟨(0, (decide (SyncOk c i x))), hinit⟩ (Sub.cons rfl <| Sub.cons rfl <| Sub.cons rfl <| Sub.cons rfl <| Sub.cons rfl <| Sub.cons rfl <| Sub.cons rfl <| Sub.cons rfl <| Sub.cons rfl <| Sub.cons rfl <| Sub.cons rfl <| Sub.cons rfl <| Sub.nil _) (fun w hs => St.sel [0, 1, 2] rfl rfl hs) ?_
   clear hinit
   rintro ⟨⟨k, b⟩, ⟨hl1_0, hl1_1⟩⟩ J25 hJ25
   try dsimp only at hl1_0 hl1_1
   change WJ _ _ _ _ [(1, (Value.pointer (some ⟨b2, 0, none⟩))), (2, (Value.bool false)), (3, (Value.int .i64 (prevAt c i))), (4, (Value.bool b)), (5, (Value.int .i64 ((i : Nat) : Int))), (6, (Value.pointer (some ⟨b21, 0, none⟩))), (24, (Value.slice sA c.Syncs.length sC)), (25, (Value.int .i64 ((c.Syncs.length : Nat) : Int))), (26, (Value.int .i64 ((i : Nat) : Int))), (59, (Value.slice sA i sC)), (60, (Value.int .i64 ((i : Nat) : Int))), (61, (Value.int .i64 ((k : Nat) : Int)))] [(blk b21 61 (SyncV.cells x)), (blk b2 64 (ClockV.cells (ClockV.mk c.Drift (Slc.mk sA c.Syncs.length sC)))), (rd sA c.Syncs.length 3 (c.Syncs.map SyncV.cells)).ro]
   refine WS fun _ hK26 => ?_
   refine rS (BI rfl b_lss) ?_
   refine RK hK26 ?_
   refine w_seq fun _ hK27 => ?_
   refine w_if rfl (fun h28 => ?_) (fun h28 => ?_)
   rotate_left 1
   · replace h28 := DF h28
     refine w_exit ?_
     refine k_exit_then ?_
     refine k_exit_then ?_
     refine k_exit_same ?_
     refine KK hK23 ?_
     refine w_seq fun _ hK36 => ?_
     refine WS fun _ hK37 => ?_
     refine rS (MV rfl) ?_
     refine rS (NT rfl) ?_
     refine RK hK37 ?_
     refine w_if rfl (fun h99 => ?_) (fun h99 => ?_)
     · rw [Bool.not_eq_true'] at h99
       refine w_exit ?_
       refine k_exit_then ?_
       refine k_exit_other rfl ?_
       refine k_exit_then ?_
       refine k_exit_then ?_
       refine k_exit_same ?_
       refine KK hK12 ?_
       refine WS fun _ hK38 => ?_
       refine rS (MV rfl) ?_
       refine rS (AG rfl) ?_
       refine RK hK38 ?_
       refine w_ret ?_
       refine Q1 hQ rfl rfl rfl ?_
       first | exact congrArg Value.bool (decide_eq_false fun h => h15 h.drift).symm | exact congrArg Value.bool (decide_eq_false fun h => h22 (by have := h.len; omega)).symm | exact congrArg Value.bool (decide_eq_true (clock_yes h15 (by omega) (by have e : i = c.Syncs.length := (by omega); rw [← e]; exact hl0_1))).symm | exact congrArg Value.bool (by have e : k = i := (by omega); rw [e] at hl1_1; rw [h99] at hl1_1 ⊢; exact (decide_eq_false (clock_no hx (of_decide_eq_false hl1_1.symm))).symm)
     rw [Bool.not_eq_false'] at h99
     refine WK hK36 ?_
     refine w_region ?_
     refine rS (FA 0 rfl fo61_0 rfl) ?_
     refine rS (L1 (Value.int .i64 x.At) 0 rfl tk3 rfl rfl) ?_
     refine rS (AG rfl) ?_
     refine r_nil ?_
     refine k_block ?_
     refine KK hK19 ?_
     refine w_region ?_
     refine rS (BI rfl (b_add ⟨by omega, by omega⟩)) ?_
     refine rS (MV rfl) ?_
     refine r_nil ?_
     have hb39 : (Value.int .i64 (prevAt c (i + 1))) = (Value.int .i64 x.At) := by rw [prevAt_succ hx]
     have hb40 : (Value.bool true) = (Value.bool b) := by exact congrArg Value.bool h99.symm
     have hb41 : (Value.int .i64 (((i + 1) : Nat) : Int)) = (Value.int .i64 (((i : Nat) : Int) + 1)) := by exact congrArg (Value.int .i64) (by omega)
     refine k_then (hJ15 ⟨(i + 1), ⟨by omega, done_succ hl0_1 hx (by have e : k = i := (by omega); rw [e] at hl1_1; exact of_decide_eq_true (hl1_1.symm.trans h99))⟩⟩ _ _ _ rfl (by first | omega | (simp; omega)) (Sub.cons rfl <| Sub.cons rfl <| sub_val rfl hb39 <| sub_val rfl hb40 <| Sub.cons rfl <| Sub.cons rfl <| sub_val rfl hb41 <| Sub.nil _) (fun w hs => St.sel [1, 2] rfl rfl hs))
   replace h28 := DT h28
   refine WK hK27 ?_
   refine w_seq fun _ hK29 => ?_
   refine w_block ?_
   refine WS fun _ hK30 => ?_
   obtain ⟨o, ho⟩ : ∃ y_, c.Syncs[k]? = some y_ := ⟨c.Syncs[k]'(by omega), List.getElem?_eq_getElem _⟩
   have hom : (c.Syncs.map SyncV.cells)[k]? = some (SyncV.cells o) := by rw [List.getElem?_map, ho]; rfl
   refine rS (IAH k rfl (has_at 2 rfl) te62 (by decide) (by omega) (by omega) (by omega)) ?_
   refine rS (LEN k 0 (SyncV.cells o) rfl tk61 (has_at 2 rfl) hom rfl (by decide) rfl rfl) ?_
   refine AL rfl tz61 fun b31 => ?_
   refine SW0 rfl ts61 rfl ?_
   refine RK hK30 ?_
   refine WS fun _ hK32 => ?_
   refine rS (FA 0 rfl fo64_0 rfl) ?_
   refine rS (L1 (Value.int .i64 c.Drift) 2 rfl tk3 rfl rfl) ?_
   refine rS (FA 0 rfl fo61_0 rfl) ?_
   refine rS (L1 (Value.int .i64 x.At) 1 rfl tk3 rfl rfl) ?_
   refine rS (FA 0 rfl fo61_0 rfl) ?_
   refine rS (L1 (Value.int .i64 o.At) 0 rfl tk3 rfl rfl) ?_
   refine rS (BI rfl b_subW) ?_
   refine rS (BI rfl b_mulW) ?_
   refine rS (CL (up_c (w64 (c.Drift * (w64 (x.At - o.At)))) 1000000 (by first | assumption | omega | (simp; done) | (simp; omega))) (ha_nil) rfl) ?_
   refine rS (AG rfl) ?_
   refine RK hK32 ?_
   refine w_region ?_
   refine rS (MV rfl) ?_
   refine rS (MV rfl) ?_
   refine r_bool (t := 75) rfl (fun h75 => ?_) (fun h75 => ?_)
   rotate_left 1
   · refine rS (OX rfl) ?_
     refine rS (OX rfl) ?_
     refine rS (OX rfl) ?_
     refine rS (OX rfl) ?_
     refine rS (OX rfl) ?_
     refine rS (OX rfl) ?_
     refine rS (OX rfl) ?_
     refine rS (OX rfl) ?_
     refine rS (OX rfl) ?_
     refine rS (PK rfl) ?_
     refine rS (MV rfl) ?_
     refine rS (OX rfl) ?_
     refine rS (OX rfl) ?_
     refine rS (OX rfl) ?_
     refine rS (OX rfl) ?_
     refine rS (OX rfl) ?_
     refine rS (OX rfl) ?_
     refine rS (OX rfl) ?_
     refine rS (OX rfl) ?_
     refine rS (OX rfl) ?_
     refine rS (PK rfl) ?_
     refine rS (AG rfl) ?_
     refine r_nil ?_
     refine k_block ?_
     refine KK hK29 ?_
     refine w_region ?_
     refine rS (BI rfl (b_add ⟨by omega, by omega⟩)) ?_
     refine rS (MV rfl) ?_
     refine r_nil ?_
     have hb35 : (Value.int .i64 (((k + 1) : Nat) : Int)) = (Value.int .i64 (((k : Nat) : Int) + 1)) := by exact congrArg (Value.int .i64) (by omega)
     refine k_then (hJ25 ⟨((k + 1), false), ⟨by omega, by first | exact (decide_eq_false fun h => by have h2 := ((round_succ ho).1 h).1; rw [hl1_1] at h75; exact absurd (decide_eq_true h2) (by rw [h75]; decide)).symm | exact (decide_eq_false fun h => by have h2 := ((round_succ ho).1 h).2; rw [hup] at h86; exact h86 h2.1).symm | exact decide_eq_decide.2 (by rw [round_succ ho, hup]; rw [hup] at h86; exact ⟨fun h => ⟨hro, h86, h⟩, fun h => h.2.2⟩)⟩⟩ _ _ _ rfl (by first | omega | (simp; omega)) (Sub.cons rfl <| Sub.cons rfl <| Sub.cons rfl <| Sub.cons rfl <| Sub.cons rfl <| Sub.cons rfl <| Sub.cons rfl <| Sub.cons rfl <| Sub.cons rfl <| Sub.cons rfl <| Sub.cons rfl <| sub_val rfl hb35 <| Sub.nil _) (fun w hs => St.sel [1, 2, 3] rfl rfl hs))
   refine rS (FA 1 rfl fo61_1 rfl) ?_
   refine rS (FA 1 rfl fo34_0 rfl) ?_
   refine rS (L1 (Value.int .i64 x.Ahead.Lo) 1 rfl tk3 rfl rfl) ?_
   refine rS (FA 1 rfl fo61_1 rfl) ?_
   refine rS (FA 2 rfl fo34_1 rfl) ?_
   refine rS (L1 (Value.int .i64 o.Ahead.Hi) 0 rfl tk3 rfl rfl) ?_
   have hro : RoundOk c i x k := of_decide_eq_true (hl1_1.symm.trans h75)
   obtain ⟨hq1, hq2, hq3⟩ := sync_pair (fun j y hj hy => (hl0_1 j y hj hy).1) hx hro.1 (by omega) ho
   have hup := goes_up h15 hq1
   refine rS (BI rfl (b_sub ⟨by omega, by omega⟩)) ?_
   refine rS (MV rfl) ?_
   refine rS (BI rfl b_leq) ?_
   refine rS (PK rfl) ?_
   refine rS (MV rfl) ?_
   refine r_bool (t := 86) rfl (fun h86 => ?_) (fun h86 => ?_)
   rotate_left 1
   · replace h86 := DF h86
     refine rS (OX rfl) ?_
     refine rS (OX rfl) ?_
     refine rS (OX rfl) ?_
     refine rS (OX rfl) ?_
     refine rS (OX rfl) ?_
     refine rS (OX rfl) ?_
     refine rS (OX rfl) ?_
     refine rS (OX rfl) ?_
     refine rS (OX rfl) ?_
     refine rS (PK rfl) ?_
     refine rS (AG rfl) ?_
     refine r_nil ?_
     refine k_block ?_
     refine KK hK29 ?_
     refine w_region ?_
     refine rS (BI rfl (b_add ⟨by omega, by omega⟩)) ?_
     refine rS (MV rfl) ?_
     refine r_nil ?_
     have hb34 : (Value.int .i64 (((k + 1) : Nat) : Int)) = (Value.int .i64 (((k : Nat) : Int) + 1)) := by exact congrArg (Value.int .i64) (by omega)
     refine k_then (hJ25 ⟨((k + 1), false), ⟨by omega, by first | exact (decide_eq_false fun h => by have h2 := ((round_succ ho).1 h).1; rw [hl1_1] at h75; exact absurd (decide_eq_true h2) (by rw [h75]; decide)).symm | exact (decide_eq_false fun h => by have h2 := ((round_succ ho).1 h).2; rw [hup] at h86; exact h86 h2.1).symm | exact decide_eq_decide.2 (by rw [round_succ ho, hup]; rw [hup] at h86; exact ⟨fun h => ⟨hro, h86, h⟩, fun h => h.2.2⟩)⟩⟩ _ _ _ rfl (by first | omega | (simp; omega)) (Sub.cons rfl <| Sub.cons rfl <| Sub.cons rfl <| Sub.cons rfl <| Sub.cons rfl <| Sub.cons rfl <| Sub.cons rfl <| Sub.cons rfl <| Sub.cons rfl <| Sub.cons rfl <| Sub.cons rfl <| sub_val rfl hb34 <| Sub.nil _) (fun w hs => St.sel [1, 2, 3] rfl rfl hs))
   replace h86 := DT h86
   refine rS (FA 1 rfl fo61_1 rfl) ?_
   refine rS (FA 1 rfl fo34_0 rfl) ?_
   refine rS (L1 (Value.int .i64 o.Ahead.Lo) 0 rfl tk3 rfl rfl) ?_
   refine rS (FA 1 rfl fo61_1 rfl) ?_
   refine rS (FA 2 rfl fo34_1 rfl) ?_
   refine rS (L1 (Value.int .i64 x.Ahead.Hi) 1 rfl tk3 rfl rfl) ?_
   refine rS (BI rfl (b_sub ⟨by omega, by omega⟩)) ?_
   refine rS (MV rfl) ?_
   refine rS (BI rfl b_leq) ?_
   refine rS (PK rfl) ?_
   refine rS (AG rfl) ?_
   refine r_nil ?_
   refine k_block ?_
   refine KK hK29 ?_
   refine w_region ?_
   refine rS (BI rfl (b_add ⟨by omega, by omega⟩)) ?_
   refine rS (MV rfl) ?_
   refine r_nil ?_
   have hb33 : (Value.int .i64 (((k + 1) : Nat) : Int)) = (Value.int .i64 (((k : Nat) : Int) + 1)) := by exact congrArg (Value.int .i64) (by omega)
   refine k_then (hJ25 ⟨((k + 1), (decide ((o.Ahead.Lo - x.Ahead.Hi) ≤ (upG (w64 (c.Drift * (w64 (x.At - o.At)))) 1000000)))), ⟨by omega, by first | exact (decide_eq_false fun h => by have h2 := ((round_succ ho).1 h).1; rw [hl1_1] at h75; exact absurd (decide_eq_true h2) (by rw [h75]; decide)).symm | exact (decide_eq_false fun h => by have h2 := ((round_succ ho).1 h).2; rw [hup] at h86; exact h86 h2.1).symm | exact decide_eq_decide.2 (by rw [round_succ ho, hup]; rw [hup] at h86; exact ⟨fun h => ⟨hro, h86, h⟩, fun h => h.2.2⟩)⟩⟩ _ _ _ rfl (by first | omega | (simp; omega)) (Sub.cons rfl <| Sub.cons rfl <| Sub.cons rfl <| Sub.cons rfl <| Sub.cons rfl <| Sub.cons rfl <| Sub.cons rfl <| Sub.cons rfl <| Sub.cons rfl <| Sub.cons rfl <| Sub.cons rfl <| sub_val rfl hb33 <| Sub.nil _) (fun w hs => St.sel [1, 2, 3] rfl rfl hs))
 refine w_region ?_
 refine rS (MV rfl) ?_
 refine rS (BI rfl (b_add ⟨by omega, by omega⟩)) ?_
 refine rS (FA 0 rfl fo61_0 rfl) ?_
 refine rS (L1 (Value.int .i64 x.At) 0 rfl tk3 rfl rfl) ?_
 refine r_bs (xs := [.tmp 34]) (cs := [(Value.int .i64 x.At)]) rfl te57 tz3 rfl rfl rfl rfl (by simp [Value.cells]) rfl rfl fun b42 => ?_
 refine rS (CL (FnV.eq (in_beam ((prevAt c i) + 1) 86400000 ([x.At]) (some ⟨b42, 0, none⟩) 1 (by first | assumption | omega | (simp; done) | (simp; omega))) inAll_one) (ha_cons (has_rd_blk 0 rfl rfl (by simp [iC_length]) rfl) <| ha_nil) rfl) ?_
 refine rS (MV rfl) ?_
 refine r_bool (t := 37) rfl (fun h37 => ?_) (fun h37 => ?_)
 rotate_left 1
 · replace h37 := DF h37
   refine rS (OX rfl) ?_
   refine rS (OX rfl) ?_
   refine rS (OX rfl) ?_
   refine rS (OX rfl) ?_
   refine rS (OX rfl) ?_
   refine rS (OX rfl) ?_
   refine rS (OX rfl) ?_
   refine rS (OX rfl) ?_
   refine rS (PK rfl) ?_
   refine rS (MV rfl) ?_
   refine rS (OX rfl) ?_
   refine rS (OX rfl) ?_
   refine rS (OX rfl) ?_
   refine rS (OX rfl) ?_
   refine rS (OX rfl) ?_
   refine rS (OX rfl) ?_
   refine rS (OX rfl) ?_
   refine rS (PK rfl) ?_
   refine rS (AG rfl) ?_
   refine r_nil ?_
   have hb46 : (decide (SyncOk c i x)) = false := decide_eq_false (by unfold SyncOk; omega)
   refine k_then (k_sub (Sub.cons rfl <| Sub.cons rfl <| Sub.cons rfl <| sub_bool rfl hb46 <| Sub.cons rfl <| Sub.cons rfl <| Sub.cons rfl <| Sub.cons rfl <| Sub.cons rfl <| Sub.nil _) (fun w hs => St.sel [1, 2, 3] rfl rfl hs) (hK22 ()))
 replace h37 := DT h37
 refine rS (FA 1 rfl fo61_1 rfl) ?_
 refine rS (FA 1 rfl fo34_0 rfl) ?_
 refine rS (L1 (Value.int .i64 x.Ahead.Lo) 1 rfl tk3 rfl rfl) ?_
 refine rS (FA 1 rfl fo61_1 rfl) ?_
 refine rS (FA 2 rfl fo34_1 rfl) ?_
 refine rS (L1 (Value.int .i64 x.Ahead.Hi) 1 rfl tk3 rfl rfl) ?_
 refine r_bs (xs := [.tmp 40, .tmp 43]) (cs := [(Value.int .i64 x.Ahead.Lo), (Value.int .i64 x.Ahead.Hi)]) rfl te57 tz3 rfl rfl rfl rfl (by simp [Value.cells]) rfl rfl fun b43 => ?_
 refine rS (CL (FnV.eq (in_beam (-10000) 10000 ([x.Ahead.Lo, x.Ahead.Hi]) (some ⟨b43, 0, none⟩) 2 (by first | assumption | omega | (simp; done) | (simp; omega))) inAll_two) (ha_cons (has_rd_blk 0 rfl rfl (by simp [iC_length]) rfl) <| ha_nil) rfl) ?_
 refine rS (PK rfl) ?_
 refine rS (MV rfl) ?_
 refine r_bool (t := 47) rfl (fun h47 => ?_) (fun h47 => ?_)
 rotate_left 1
 · replace h47 := DF h47
   refine rS (OX rfl) ?_
   refine rS (OX rfl) ?_
   refine rS (OX rfl) ?_
   refine rS (OX rfl) ?_
   refine rS (OX rfl) ?_
   refine rS (OX rfl) ?_
   refine rS (OX rfl) ?_
   refine rS (PK rfl) ?_
   refine rS (AG rfl) ?_
   refine r_nil ?_
   have hb45 : (decide (SyncOk c i x)) = false := decide_eq_false (by unfold SyncOk; omega)
   refine k_then (k_sub (Sub.cons rfl <| Sub.cons rfl <| Sub.cons rfl <| sub_bool rfl hb45 <| Sub.cons rfl <| Sub.cons rfl <| Sub.cons rfl <| Sub.cons rfl <| Sub.cons rfl <| Sub.nil _) (fun w hs => St.sel [2, 3, 4] rfl rfl hs) (hK22 ()))
 replace h47 := DT h47
 refine rS (FA 1 rfl fo61_1 rfl) ?_
 refine rS (FA 1 rfl fo34_0 rfl) ?_
 refine rS (L1 (Value.int .i64 x.Ahead.Lo) 2 rfl tk3 rfl rfl) ?_
 refine rS (FA 1 rfl fo61_1 rfl) ?_
 refine rS (FA 2 rfl fo34_1 rfl) ?_
 refine rS (L1 (Value.int .i64 x.Ahead.Hi) 2 rfl tk3 rfl rfl) ?_
 refine rS (BI rfl b_leq) ?_
 refine rS (PK rfl) ?_
 refine rS (AG rfl) ?_
 refine r_nil ?_
 have hb44 : (decide (SyncOk c i x)) = (decide (x.Ahead.Lo ≤ x.Ahead.Hi)) := decide_eq_decide.2 (by unfold SyncOk; omega)
 refine k_then (k_sub (Sub.cons rfl <| Sub.cons rfl <| Sub.cons rfl <| sub_bool rfl hb44 <| Sub.cons rfl <| Sub.cons rfl <| Sub.cons rfl <| Sub.cons rfl <| Sub.cons rfl <| Sub.nil _) (fun w hs => St.sel [2, 3, 4] rfl rfl hs) (hK22 ()))

set_option maxRecDepth 100000 in
set_option maxHeartbeats 400000 in
theorem bad_c (ms : List ClockM) (az : List RA) (k : Nat) (m : ClockM) (a : RA) (hm : ms[k]? = some m) (ha : az[k]? = some a) (hc : m.Syncs.length ≤ a.2 ∧ m.Syncs.length ≤ 1000000) :
    FnV Try.prog 84 [(Value.agg (ClockV.cells (ClockV.mk m.Drift (Slc.mk a.1 m.Syncs.length a.2))).toArray)] [(bun (nest ClockM.rds ms az))] (Value.bool (!(decide (ClockOk m)))) := by
 obtain ⟨hc1, hc2⟩ := hc
 refine fnV_of go84 Try.func84 rfl rfl fun w0 Q hQ hN => ?_
 change WJ _ _ _ _ [(0, (Value.agg (ClockV.cells (ClockV.mk m.Drift (Slc.mk a.1 m.Syncs.length a.2))).toArray))] [(bun (nest ClockM.rds ms az)).ro]
 refine WS fun _ hK1 => ?_
 refine BXA rfl fun b2 => ?_
 refine rS (AG rfl) ?_
 refine RK hK1 ?_
 refine WS fun _ hK3 => ?_
 refine rS (LW 0 rfl tk64 rfl rfl) ?_
 refine rS (CL (goes_c m a.1 a.2 (by first | assumption | omega | (simp; done) | (simp; omega)) (by first | assumption | omega | (simp; done) | (simp; omega))) (ha_cons (show Has _ (rd a.1 m.Syncs.length 3 (m.Syncs.map SyncV.cells)).holds from (has_inr 1 rfl (mem_nest hm ha (by simp [ClockM.rds])))) <| ha_nil) rfl) ?_
 refine rS (NT rfl) ?_
 refine rS (AG rfl) ?_
 refine RK hK3 ?_
 refine w_ret ?_
 exact Q1 hQ rfl rfl rfl rfl

set_option maxRecDepth 100000 in
set_option maxHeartbeats 400000 in
theorem indexck_c (l : List ClockM) (az : List RA) (lA : Option Addr) (lC : Nat) (f : Value) (p : ClockM → Bool) (X : Assn) (hf : ∀ (k : Nat) m a, l[k]? = some m → az[k]? = some a → Clo Try.prog f [.agg (ClockM.cells m a).toArray] [X] (.bool (p m))) (hlen : l.length ≤ 1000000) (has : az.length = l.length) :
    FnV Try.prog 109 [(Value.slice lA l.length lC), f] [(rd lA l.length 2 (List.zipWith ClockM.cells l az)), (bun (nest ClockM.rds l az)), X] (Value.int .i64 (findI p l)) := by
 refine fnV_of go109 Try.func109 rfl rfl fun w0 Q hQ hN => ?_
 change WJ _ _ _ _ [(0, (Value.slice lA l.length lC)), (1, f)] [(rd lA l.length 2 (List.zipWith ClockM.cells l az)).ro, (bun (nest ClockM.rds l az)).ro, X.ro]
 refine WS fun _ hK1 => ?_
 refine rS (AG rfl) ?_
 refine RK hK1 ?_
 refine w_seq fun _ hK2 => ?_
 refine WS fun _ hK3 => ?_
 refine rS (MV rfl) ?_
 refine rS (LN rfl ut25) ?_
 refine rS (MV rfl) ?_
 refine RK hK3 ?_
 refine w_block ?_
 have hinit : (0 ≤ l.length) ∧ ((l.take 0).any p = false) := by simp
 refine w_loop (ι := { z : Nat // (z ≤ l.length) ∧ ((l.take z).any p = false) }) (fun z => [(0, (Value.slice lA l.length lC)), (1, f), (7, (Value.int .i64 ((l.length : Nat) : Int))), (8, (Value.int .i64 ((z.1 : Nat) : Int)))]) (fun z => [(rd lA l.length 2 (List.zipWith ClockM.cells l az)).ro, (bun (nest ClockM.rds l az)).ro, X.ro]) (fun z => l.length - z.1) ⟨0, hinit⟩ (Sub.cons rfl <| Sub.cons rfl <| Sub.cons rfl <| Sub.cons rfl <| Sub.nil _) (fun w hs => St.sel [0, 1, 2] rfl rfl hs) ?_
 clear hinit
 rintro ⟨i, ⟨hl0_0, hl0_1⟩⟩ J4 hJ4
 change WJ _ _ _ _ [(0, (Value.slice lA l.length lC)), (1, f), (7, (Value.int .i64 ((l.length : Nat) : Int))), (8, (Value.int .i64 ((i : Nat) : Int)))] [(rd lA l.length 2 (List.zipWith ClockM.cells l az)).ro, (bun (nest ClockM.rds l az)).ro, X.ro]
 refine WS fun _ hK5 => ?_
 refine rS (BI rfl b_lss) ?_
 refine RK hK5 ?_
 refine w_seq fun _ hK6 => ?_
 refine w_if rfl (fun h7 => ?_) (fun h7 => ?_)
 rotate_left 1
 · replace h7 := DF h7
   refine w_exit ?_
   refine k_exit_then ?_
   refine k_exit_then ?_
   refine k_exit_same ?_
   refine KK hK2 ?_
   refine WS fun _ hK13 => ?_
   refine rS (AG rfl) ?_
   refine RK hK13 ?_
   refine w_ret ?_
   refine Q1 hQ rfl rfl rfl ?_
   first | exact congrArg (Value.int .i64) (findI_at hx hp hl0_1).symm | exact congrArg (Value.int .i64) (findI_none (by omega) hl0_1).symm
 replace h7 := DT h7
 refine WK hK6 ?_
 refine w_seq fun _ hK8 => ?_
 refine w_block ?_
 refine WS fun _ hK9 => ?_
 refine rS (MV rfl) ?_
 refine rS (AG rfl) ?_
 refine RK hK9 ?_
 refine WS fun _ hK10 => ?_
 refine rS (MV rfl) ?_
 refine rS (MV rfl) ?_
 refine rS (MV rfl) ?_
 obtain ⟨x, hx⟩ : ∃ y_, l[i]? = some y_ := ⟨l[i]'(by omega), List.getElem?_eq_getElem _⟩
 obtain ⟨xa, hxa⟩ : ∃ y_, az[i]? = some y_ := ⟨az[i]'(by omega), List.getElem?_eq_getElem _⟩
 have hxm : (List.zipWith ClockM.cells l az)[i]? = some (ClockM.cells x xa) := zip_get hx hxa
 refine rS (IA i rfl (has_at 0 rfl) te25 (by decide) (by omega) (by omega)) ?_
 refine rS (LEN i 0 (ClockV.cells (ClockV.mk x.Drift (Slc.mk xa.1 x.Syncs.length xa.2))) rfl tk64 (has_at 0 rfl) hxm rfl (by decide) rfl rfl) ?_
 refine rS (SX (sd_clo rfl rfl rfl (hf i x xa hx hxa) (ha_at 2 rfl rfl <| ha_nil)) rfl rfl) ?_
 refine RK hK10 ?_
 refine w_if rfl (fun hp => ?_) (fun hp => ?_)
 · refine WS fun _ hK11 => ?_
   refine rS (MV rfl) ?_
   refine rS (AG rfl) ?_
   refine RK hK11 ?_
   refine w_ret ?_
   refine Q1 hQ rfl rfl rfl ?_
   first | exact congrArg (Value.int .i64) (findI_at hx hp hl0_1).symm | exact congrArg (Value.int .i64) (findI_none (by omega) hl0_1).symm
 refine w_skip ?_
 refine k_block ?_
 refine KK hK8 ?_
 refine w_region ?_
 refine rS (BI rfl (b_add ⟨by omega, by omega⟩)) ?_
 refine rS (MV rfl) ?_
 refine r_nil ?_
 have hb12 : (Value.int .i64 (((i + 1) : Nat) : Int)) = (Value.int .i64 (((i : Nat) : Int) + 1)) := by exact congrArg (Value.int .i64) (by omega)
 refine k_then (hJ4 ⟨(i + 1), ⟨by omega, any_step hx hl0_1 hp⟩⟩ _ _ _ rfl (by first | omega | (simp; omega)) (Sub.cons rfl <| Sub.cons rfl <| Sub.cons rfl <| sub_val rfl hb12 <| Sub.nil _) (fun w hs => St.sel [0, 1, 2] rfl rfl hs))

set_option maxRecDepth 100000 in
set_option maxHeartbeats 400000 in
theorem containsck_c (l : List ClockM) (az : List RA) (lA : Option Addr) (lC : Nat) (f : Value) (p : ClockM → Bool) (X : Assn) (hf : ∀ (k : Nat) m a, l[k]? = some m → az[k]? = some a → Clo Try.prog f [.agg (ClockM.cells m a).toArray] [X] (.bool (p m))) (hlen : l.length ≤ 1000000) (has : az.length = l.length) :
    FnV Try.prog 83 [(Value.slice lA l.length lC), f] [(rd lA l.length 2 (List.zipWith ClockM.cells l az)), (bun (nest ClockM.rds l az)), X] (Value.bool (l.any p)) := by
 refine fnV_of go83 Try.func83 rfl rfl fun w0 Q hQ hN => ?_
 change WJ _ _ _ _ [(0, (Value.slice lA l.length lC)), (1, f)] [(rd lA l.length 2 (List.zipWith ClockM.cells l az)).ro, (bun (nest ClockM.rds l az)).ro, X.ro]
 refine WS fun _ hK1 => ?_
 refine rS (AG rfl) ?_
 refine RK hK1 ?_
 refine WS fun _ hK2 => ?_
 refine rS (MV rfl) ?_
 refine rS (MV rfl) ?_
 refine rS (CL (indexck_c l az lA lC f p X (by exact hf) hlen has) (ha_at 0 rfl rfl <| ha_at 1 rfl rfl <| ha_at 2 rfl rfl <| ha_nil) rfl) ?_
 refine rS (BI rfl b_geq) ?_
 refine rS (AG rfl) ?_
 refine RK hK2 ?_
 refine w_ret ?_
 refine Q1 hQ rfl rfl rfl ?_
 exact congrArg Value.bool findI_any

set_option maxRecDepth 100000 in
set_option maxHeartbeats 400000 in
theorem indexbm_c (l : List BeamV) (lA : Option Addr) (lC : Nat) (f : Value) (p : BeamV → Bool) (X : Assn) (hf : ∀ x0, x0 ∈ l → Clo Try.prog f [.agg (BeamV.cells x0).toArray] [X] (.bool (p x0))) (hlen : l.length ≤ 1000000) :
    FnV Try.prog 110 [(Value.slice lA l.length lC), f] [(rd lA l.length 4 (l.map BeamV.cells)), X] (Value.int .i64 (findI p l)) := by
 refine fnV_of go110 Try.func110 rfl rfl fun w0 Q hQ hN => ?_
 change WJ _ _ _ _ [(0, (Value.slice lA l.length lC)), (1, f)] [(rd lA l.length 4 (l.map BeamV.cells)).ro, X.ro]
 refine WS fun _ hK1 => ?_
 refine rS (AG rfl) ?_
 refine RK hK1 ?_
 refine w_seq fun _ hK2 => ?_
 refine WS fun _ hK3 => ?_
 refine rS (MV rfl) ?_
 refine rS (LN rfl ut26) ?_
 refine rS (MV rfl) ?_
 refine RK hK3 ?_
 refine w_block ?_
 have hinit : (0 ≤ l.length) ∧ ((l.take 0).any p = false) := by simp
 refine w_loop (ι := { z : Nat // (z ≤ l.length) ∧ ((l.take z).any p = false) }) (fun z => [(0, (Value.slice lA l.length lC)), (1, f), (7, (Value.int .i64 ((l.length : Nat) : Int))), (8, (Value.int .i64 ((z.1 : Nat) : Int)))]) (fun z => [(rd lA l.length 4 (l.map BeamV.cells)).ro, X.ro]) (fun z => l.length - z.1) ⟨0, hinit⟩ (Sub.cons rfl <| Sub.cons rfl <| Sub.cons rfl <| Sub.cons rfl <| Sub.nil _) (fun w hs => St.sel [0, 1] rfl rfl hs) ?_
 clear hinit
 rintro ⟨i, ⟨hl0_0, hl0_1⟩⟩ J4 hJ4
 change WJ _ _ _ _ [(0, (Value.slice lA l.length lC)), (1, f), (7, (Value.int .i64 ((l.length : Nat) : Int))), (8, (Value.int .i64 ((i : Nat) : Int)))] [(rd lA l.length 4 (l.map BeamV.cells)).ro, X.ro]
 refine WS fun _ hK5 => ?_
 refine rS (BI rfl b_lss) ?_
 refine RK hK5 ?_
 refine w_seq fun _ hK6 => ?_
 refine w_if rfl (fun h7 => ?_) (fun h7 => ?_)
 rotate_left 1
 · replace h7 := DF h7
   refine w_exit ?_
   refine k_exit_then ?_
   refine k_exit_then ?_
   refine k_exit_same ?_
   refine KK hK2 ?_
   refine WS fun _ hK13 => ?_
   refine rS (AG rfl) ?_
   refine RK hK13 ?_
   refine w_ret ?_
   refine Q1 hQ rfl rfl rfl ?_
   first | exact congrArg (Value.int .i64) (findI_at hx hp hl0_1).symm | exact congrArg (Value.int .i64) (findI_none (by omega) hl0_1).symm
 replace h7 := DT h7
 refine WK hK6 ?_
 refine w_seq fun _ hK8 => ?_
 refine w_block ?_
 refine WS fun _ hK9 => ?_
 refine rS (MV rfl) ?_
 refine rS (AG rfl) ?_
 refine RK hK9 ?_
 refine WS fun _ hK10 => ?_
 refine rS (MV rfl) ?_
 refine rS (MV rfl) ?_
 refine rS (MV rfl) ?_
 obtain ⟨x, hx⟩ : ∃ y_, l[i]? = some y_ := ⟨l[i]'(by omega), List.getElem?_eq_getElem _⟩
 have hxm : (l.map BeamV.cells)[i]? = some (BeamV.cells x) := by rw [List.getElem?_map, hx]; rfl
 refine rS (IA i rfl (has_at 0 rfl) te26 (by decide) (by omega) (by omega)) ?_
 refine rS (LEN i 0 (BeamV.cells x) rfl tk55 (has_at 0 rfl) hxm rfl (by decide) rfl rfl) ?_
 refine rS (SX (sd_clo rfl rfl rfl (hf x (List.mem_of_getElem? hx)) (ha_at 1 rfl rfl <| ha_nil)) rfl rfl) ?_
 refine RK hK10 ?_
 refine w_if rfl (fun hp => ?_) (fun hp => ?_)
 · refine WS fun _ hK11 => ?_
   refine rS (MV rfl) ?_
   refine rS (AG rfl) ?_
   refine RK hK11 ?_
   refine w_ret ?_
   refine Q1 hQ rfl rfl rfl ?_
   first | exact congrArg (Value.int .i64) (findI_at hx hp hl0_1).symm | exact congrArg (Value.int .i64) (findI_none (by omega) hl0_1).symm
 refine w_skip ?_
 refine k_block ?_
 refine KK hK8 ?_
 refine w_region ?_
 refine rS (BI rfl (b_add ⟨by omega, by omega⟩)) ?_
 refine rS (MV rfl) ?_
 refine r_nil ?_
 have hb12 : (Value.int .i64 (((i + 1) : Nat) : Int)) = (Value.int .i64 (((i : Nat) : Int) + 1)) := by exact congrArg (Value.int .i64) (by omega)
 refine k_then (hJ4 ⟨(i + 1), ⟨by omega, any_step hx hl0_1 hp⟩⟩ _ _ _ rfl (by first | omega | (simp; omega)) (Sub.cons rfl <| Sub.cons rfl <| Sub.cons rfl <| sub_val rfl hb12 <| Sub.nil _) (fun w hs => St.sel [0, 1] rfl rfl hs))

set_option maxRecDepth 100000 in
set_option maxHeartbeats 400000 in
theorem containsbm_c (l : List BeamV) (lA : Option Addr) (lC : Nat) (f : Value) (p : BeamV → Bool) (X : Assn) (hf : ∀ x0, x0 ∈ l → Clo Try.prog f [.agg (BeamV.cells x0).toArray] [X] (.bool (p x0))) (hlen : l.length ≤ 1000000) :
    FnV Try.prog 87 [(Value.slice lA l.length lC), f] [(rd lA l.length 4 (l.map BeamV.cells)), X] (Value.bool (l.any p)) := by
 refine fnV_of go87 Try.func87 rfl rfl fun w0 Q hQ hN => ?_
 change WJ _ _ _ _ [(0, (Value.slice lA l.length lC)), (1, f)] [(rd lA l.length 4 (l.map BeamV.cells)).ro, X.ro]
 refine WS fun _ hK1 => ?_
 refine rS (AG rfl) ?_
 refine RK hK1 ?_
 refine WS fun _ hK2 => ?_
 refine rS (MV rfl) ?_
 refine rS (MV rfl) ?_
 refine rS (CL (indexbm_c l lA lC f p X (by exact hf) hlen) (ha_at 0 rfl rfl <| ha_at 1 rfl rfl <| ha_nil) rfl) ?_
 refine rS (BI rfl b_geq) ?_
 refine rS (AG rfl) ?_
 refine RK hK2 ?_
 refine w_ret ?_
 refine Q1 hQ rfl rfl rfl ?_
 exact congrArg Value.bool findI_any

end Go.Proofs.Ytaehngpnlkokkaa
