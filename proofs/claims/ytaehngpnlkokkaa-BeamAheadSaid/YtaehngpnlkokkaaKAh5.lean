/-
  The statement beamAhead_said, part 5 of 6: V5, V6, S1, Wh1, V4, V8, Wh2.
  Conditions: none.
-/
import Derived.Test.YtaehngpnlkokkaaKAh1
import Derived.Test.YtaehngpnlkokkaaKAh2
import Derived.Test.YtaehngpnlkokkaaKAh3
import Derived.Test.YtaehngpnlkokkaaKAh4
namespace Go.Proofs.Ytaehngpnlkokkaa
section
open Go.RowKit
set_option linter.unusedVariables false
set_option maxRecDepth 100000 in
set_option maxHeartbeats 1600000 in
theorem follow_c (ln : LineV) (ri : RideV) (e : List Int) (tms : List TM) (e_A : Option Addr) (e_C : Nat) (tb : List Nat) (t_A : Option Addr) (t_C : Nat) (gw : Nat) (hw : WOk (watchOf ln ri e tms)) (hn : ln.Beams.n = e.length) (htb : tb.length = tms.length) :
    FnM Try.prog 94 [(Value.pointer (some ⟨gw, 0, none⟩))] [(rd e_A e.length 1 (e.map iC)), (rd t_A tms.length 1 (List.zipWith mapC tms tb)), (bun (nest tmR tms tb))] (blk gw 142 (WatchV.cells (WatchV.mk ln ri (Slc.mk e_A e.length e_C) (Slc.mk t_A tms.length t_C) (Slc.mk none 0 0) (Slc.mk none 0 0)))) (fun (x : (List FM) × (List Nat) × (Option Addr) × Nat × (List FM) × (List Nat) × (Option Addr) × Nat) => (Value.tuple [].toArray)) (fun (x : (List FM) × (List Nat) × (Option Addr) × Nat × (List FM) × (List Nat) × (Option Addr) × Nat) => FwdOk (watchOf ln ri e tms) x.1 ∧ BackOk (watchOf ln ri e tms) x.2.2.2.2.1 ∧ x.2.1.length = x.1.length ∧ x.2.2.2.2.2.1.length = x.2.2.2.2.1.length) (fun (x : (List FM) × (List Nat) × (Option Addr) × Nat × (List FM) × (List Nat) × (Option Addr) × Nat) => (bund [(blk gw 142 (WatchV.cells (WatchV.mk ln ri (Slc.mk e_A e.length e_C) (Slc.mk t_A tms.length t_C) (Slc.mk x.2.2.1 x.1.length x.2.2.2.1) (Slc.mk x.2.2.2.2.2.2.1 x.2.2.2.2.1.length x.2.2.2.2.2.2.2)))), (own x.2.2.1 x.2.2.2.1 144 1 (List.zipWith mapC x.1 x.2.1)), (bund (nest fmR x.1 x.2.1)), (own x.2.2.2.2.2.2.1 x.2.2.2.2.2.2.2 144 1 (List.zipWith mapC x.2.2.2.2.1 x.2.2.2.2.2.1)), (bund (nest fmR x.2.2.2.2.1 x.2.2.2.2.2.1))])) := by
 have hw6 : e.length ≤ 6 := hw.n
 have hwt : tms.length = e.length := hw.times
 refine fnM_of go94 Try.func94 rfl rfl fun w0 Q hQ hN => ?_
 try dsimp only
 refine WS fun _ hK1 => ?_
 refine BX1 rfl rfl fun b2 => ?_
 refine RK hK1 ?_
 refine WS fun _ hK3 => ?_
 refine rS (L1W 0 rfl tk107 rfl) ?_
 refine rS (SX (sd_nil_p rfl rfl) rfl rfl) ?_
 refine rS (FA 0 rfl fo142_0 rfl) ?_
 refine rS (FA 3 rfl fo28_3 rfl) ?_
 refine rS (L1 (Value.slice ln.Beams.a ln.Beams.n ln.Beams.c) 1 rfl tk26 rfl rfl) ?_
 refine rS (LN rfl ut26) ?_
 refine rS (AG rfl) ?_
 refine RK hK3 ?_
 refine w_join (ι := { z : (Option Addr) × (Option Addr) // True }) (fun z => [(0, (Value.pointer (some ⟨gw, 0, none⟩))), (1, (Value.pointer (some ⟨b2, 0, none⟩))), (2, (Value.int .i64 ((ln.Beams.n : Nat) : Int)))]) (fun z => [(own z.1.1 (ln.Beams.n + 1) 144 1 (List.map oC (List.replicate (ln.Beams.n + 1) (none : Option Nat)))), (own z.1.2 (ln.Beams.n + 1) 144 1 (List.map oC (List.replicate (ln.Beams.n + 1) (none : Option Nat)))), (blk b2 107 [(Value.pointer (some ⟨gw, 0, none⟩))]), (blk gw 142 (WatchV.cells (WatchV.mk ln ri (Slc.mk e_A e.length e_C) (Slc.mk t_A tms.length t_C) (Slc.mk z.1.1 (ln.Beams.n + 1) (ln.Beams.n + 1)) (Slc.mk z.1.2 (ln.Beams.n + 1) (ln.Beams.n + 1))))), (rd e_A e.length 1 (e.map iC)).ro, (rd t_A tms.length 1 (List.zipWith mapC tms tb)).ro, (bun (nest tmR tms tb)).ro]) ?_ fun K4 hK4 => ?_
 · rintro ⟨⟨fA, bA⟩, _⟩
   try dsimp only
   refine w_frozen 3 rfl rfl fun wz Sz hz => ?_
   have hl0 : (List.replicate (ln.Beams.n + 1) (none : Option Nat)).length = (ln.Beams.n + 1) := List.length_replicate
   try dsimp only
   refine w_join (ι := { z : Nat // True }) (fun z => [(0, (Value.pointer (some ⟨gw, 0, none⟩))), (1, (Value.pointer (some ⟨b2, 0, none⟩))), (2, (Value.int .i64 ((ln.Beams.n : Nat) : Int)))]) (fun z => [(bund (nest fmR [[((TallyV.mk 0 0), ri.Start)]] [z.1])), (blk gw 142 (WatchV.cells (WatchV.mk ln ri (Slc.mk e_A e.length e_C) (Slc.mk t_A tms.length t_C) (Slc.mk fA (ln.Beams.n + 1) (ln.Beams.n + 1)) (Slc.mk bA (ln.Beams.n + 1) (ln.Beams.n + 1))))).ro, (own fA (ln.Beams.n + 1) 144 1 (List.map oC (fillF [z.1] (ln.Beams.n + 1)))), (own bA (ln.Beams.n + 1) 144 1 (List.map oC (List.replicate (ln.Beams.n + 1) (none : Option Nat)))), (blk b2 107 [(Value.pointer (some ⟨gw, 0, none⟩))]), (rd e_A e.length 1 (e.map iC)).ro, (rd t_A tms.length 1 (List.zipWith mapC tms tb)).ro, (bun (nest tmR tms tb)).ro]) ?_ fun K5 hK5 => ?_
   · rintro ⟨ga, _⟩
     try dsimp only
     refine w_seq fun _ hK6 => ?_
     refine WS fun _ hK7 => ?_
     refine rS (MV rfl) ?_
     refine rS (MV rfl) ?_
     refine RK hK7 ?_
     refine w_block ?_
     refine w_tie0 ?_
     have hinit : (0 ≤ ln.Beams.n) ∧ (([[((TallyV.mk 0 0), ri.Start)]]).length = 0 + 1) ∧ (([ga]).length = 0 + 1) ∧ (FwdTo (watchOf ln ri e tms) ([[((TallyV.mk 0 0), ri.Start)]])) := by exact ⟨Nat.zero_le _, rfl, rfl, FwdTo.first⟩
     refine w_loopD (ι := { z : Nat × (List FM) × (List Nat) × (List Nat) // (z.1 ≤ ln.Beams.n) ∧ (z.2.1.length = z.1 + 1) ∧ (z.2.2.1.length = z.1 + 1) ∧ (FwdTo (watchOf ln ri e tms) z.2.1) }) (fun z => z.1.2.2.2.map mark) (fun z => [(0, (Value.pointer (some ⟨gw, 0, none⟩))), (1, (Value.pointer (some ⟨b2, 0, none⟩))), (2, (Value.int .i64 ((ln.Beams.n : Nat) : Int))), (52, (Value.int .i64 ((ln.Beams.n : Nat) : Int))), (53, (Value.int .i64 ((z.1.1 : Nat) : Int)))]) (fun z => [(bund (z.1.2.2.2.map defd)), (bund (nest fmR z.1.2.1 z.1.2.2.1)), (blk gw 142 (WatchV.cells (WatchV.mk ln ri (Slc.mk e_A e.length e_C) (Slc.mk t_A tms.length t_C) (Slc.mk fA (ln.Beams.n + 1) (ln.Beams.n + 1)) (Slc.mk bA (ln.Beams.n + 1) (ln.Beams.n + 1))))).ro, (own fA (ln.Beams.n + 1) 144 1 (List.map oC (fillF z.1.2.2.1 (ln.Beams.n + 1)))), (own bA (ln.Beams.n + 1) 144 1 (List.map oC (List.replicate (ln.Beams.n + 1) (none : Option Nat)))), (blk b2 107 [(Value.pointer (some ⟨gw, 0, none⟩))]), (rd e_A e.length 1 (e.map iC)).ro, (rd t_A tms.length 1 (List.zipWith mapC tms tb)).ro, (bun (nest tmR tms tb)).ro]) (fun z => ln.Beams.n - z.1.1) ⟨(0, [[((TallyV.mk 0 0), ri.Start)]], [ga], ([] : List Nat)), hinit⟩ rfl (Sub.cons rfl <| Sub.cons rfl <| Sub.cons rfl <| Sub.cons rfl <| Sub.cons rfl <| Sub.nil _) (fun w hs => St.sel [0, 1, 2, 3, 4, 5, 6, 7, 8] rfl rfl hs) ?_
     clear hinit
     rintro ⟨⟨b, fs, fb, rs5⟩, ⟨hl5_0, hl5_1, hl5_2, hl5_3⟩⟩ J8 hJ8
     try dsimp only at hl5_0 hl5_1 hl5_2 hl5_3
     try dsimp only
     have hlf : (fillF fb (ln.Beams.n + 1)).length = (ln.Beams.n + 1) := fillF_len (by omega)
     refine WS fun _ hK9 => ?_
     refine rS (BI rfl b_lss) ?_
     refine RK hK9 ?_
     refine w_seq fun _ hK10 => ?_
     refine w_if rfl (fun h11 => ?_) (fun h11 => ?_)
     · replace h11 := DT h11
       refine WK hK10 ?_
       refine w_seq fun _ hK12 => ?_
       refine w_block ?_
       refine WS fun _ hK13 => ?_
       refine rS (MV rfl) ?_
       refine AL rfl tz3 fun b14 => ?_
       refine SO0 rfl ts3 rfl rfl ?_
       refine RK hK13 ?_
       refine w_seq fun _ hK15 => ?_
       refine w_draw4 mixed [0, 1, 2, 3, 4, 5, 7] [6, 8] [false, false, false, false, false, false, true] [true, false] [(blk b14 3 [(Value.int .i64 ((b : Nat) : Int))]), (bund (rs5.map defd)), (bund (nest fmR fs fb)), (blk gw 142 (WatchV.cells (WatchV.mk ln ri (Slc.mk e_A e.length e_C) (Slc.mk t_A tms.length t_C) (Slc.mk fA (ln.Beams.n + 1) (ln.Beams.n + 1)) (Slc.mk bA (ln.Beams.n + 1) (ln.Beams.n + 1))))).ro, (own bA (ln.Beams.n + 1) 144 1 (List.map oC (List.replicate (ln.Beams.n + 1) (none : Option Nat)))), (blk b2 107 [(Value.pointer (some ⟨gw, 0, none⟩))]), (rd e_A e.length 1 (e.map iC)).ro, (rd t_A tms.length 1 (List.zipWith mapC tms tb)).ro, (bun (nest tmR tms tb)).ro] [(blk b14 3 [(Value.int .i64 ((b : Nat) : Int))]), (bund (rs5.map defd)), (bund (nest fmR fs fb)), (blk gw 142 (WatchV.cells (WatchV.mk ln ri (Slc.mk e_A e.length e_C) (Slc.mk t_A tms.length t_C) (Slc.mk fA (ln.Beams.n + 1) (ln.Beams.n + 1)) (Slc.mk bA (ln.Beams.n + 1) (ln.Beams.n + 1))))).ro, (own fA (ln.Beams.n + 1) 144 1 (List.map oC (fillF fb (ln.Beams.n + 1)))), (own bA (ln.Beams.n + 1) 144 1 (List.map oC (List.replicate (ln.Beams.n + 1) (none : Option Nat)))), (blk b2 107 [(Value.pointer (some ⟨gw, 0, none⟩))]), (rd e_A e.length 1 (e.map iC)).ro, (rd t_A tms.length 1 (List.zipWith mapC tms tb)).ro, (bun (nest tmR tms tb)).ro] (by kernel_rfl) (fun w hs => St.sel [0, 1, 2, 3, 5, 6, 7, 8, 9] rfl rfl hs) (fun w hs => St.sel [0, 1, 2, 3, 4, 5, 6, 7, 8, 9] rfl rfl hs) ?_
       refine eS rfl (L1W 5 rfl tk107 rfl) ?_
       refine eS rfl (SX (sd_nil_p rfl rfl) rfl rfl) ?_
       refine eS rfl (FA 12 rfl fo142_4 rfl) ?_
       refine eS rfl (L1R (Value.slice fA (ln.Beams.n + 1) (ln.Beams.n + 1)) 3 rfl tk140 rfl rfl) ?_
       refine eS rfl (L1W 0 rfl tk3 rfl) ?_
       refine eS rfl (BI rfl (b_add ⟨by omega, by omega⟩)) ?_
       obtain ⟨x16, hx17⟩ : ∃ y_, (fillF fb (ln.Beams.n + 1))[(b + 1)]? = some y_ := ⟨(fillF fb (ln.Beams.n + 1))[(b + 1)]'(by omega), List.getElem?_eq_getElem _⟩
       have hx17m : (List.map oC (fillF fb (ln.Beams.n + 1)))[(b + 1)]? = some (oC x16) := by rw [List.getElem?_map, hx17]; rfl
       refine fS rfl (IA (b + 1) rfl (has_own_n (n := (ln.Beams.n + 1)) 4 rfl (by first | (simp; done) | (simp; omega))) te140 (by decide) (by omega) (by omega)) ?_
       refine d_fin rfl ?_
       refine t5_cons rfl fun T18 hT18 => ?_
       refine gr_mkmap (kV := tallyU) rfl rfl fun b19 => ?_
       try dsimp only
       refine r_nil (hT18 _ _ (fun w hs => St.sel [1, 2, 3, 4, 6, 7, 8, 9, 10] rfl rfl hs) (fun w hs => St.sel [1, 2, 3, 4, 5, 6, 7, 8, 9, 10] rfl rfl hs) ?_)
       refine t_cons rfl fun T20 hT20 => ?_
       have hb21 : ((fillF fb (ln.Beams.n + 1)).set (b + 1) (some b19)) = (fillF (fb ++ [b19]) (ln.Beams.n + 1)) := by exact fillF_set (by omega) (by omega)
       refine r_store_own (k := (b + 1)) (o := 0) (vs := [(Value.map (some b19))]) (es' := (List.map oC (fillF (fb ++ [b19]) (ln.Beams.n + 1)))) (C' := [_, _, _, _, _, (own fA (ln.Beams.n + 1) 144 1 (List.map oC (fillF (fb ++ [b19]) (ln.Beams.n + 1)))), _, _, _, _, _]) 5 rfl rfl rfl ts144 rfl rfl rfl rfl hx17m rfl (by decide) (by exact (List.map_set (f := oC) (l := (fillF fb (ln.Beams.n + 1))) (i := (b + 1)) (a := (some b19))).symm.trans (congrArg _ hb21)) rfl ?_
       refine r_nil (hT20 _ _ (fun w hs => St.sel [1, 2, 3, 4, 6, 7, 8, 9, 10] rfl rfl hs) ?_)
       refine t_fin rfl ?_
       refine KK hK15 ?_
       refine w_seq fun _ hK22 => ?_
       have hlq23 : (fillF (fb ++ [b19]) (ln.Beams.n + 1)).length = (ln.Beams.n + 1) := fillF_len (by simp; omega)
       obtain ⟨mb, hmb⟩ : ∃ y_, fs[b]? = some y_ := ⟨fs[b]'(by omega), List.getElem?_eq_getElem _⟩
       obtain ⟨ga, hga⟩ : ∃ y_, fb[b]? = some y_ := ⟨fb[b]'(by omega), List.getElem?_eq_getElem _⟩
       refine w_out 3 hmb hga rfl rfl rfl ?_
       try dsimp only
       refine w_draw mixed 7 (by kernel_rfl) ?_
       refine dS (L1W 8 rfl tk107 rfl) ?_
       refine dS (SX (sd_nil_p rfl rfl) rfl rfl) ?_
       refine dS (FA 12 rfl fo142_4 rfl) ?_
       refine dS (L1R (Value.slice fA (ln.Beams.n + 1) (ln.Beams.n + 1)) 5 rfl tk140 rfl rfl) ?_
       refine dS (L1W 3 rfl tk3 rfl) ?_
       have hk24 : (List.map oC (fillF (fb ++ [b19]) (ln.Beams.n + 1)))[b]? = some (oC (some ga)) := oC_at (fillF_at (snoc_old hga))
       refine dS (IA b rfl (has_own_n (n := (ln.Beams.n + 1)) 6 rfl (by first | (simp; done) | (simp; omega))) te140 (by decide) (by omega) (by omega)) ?_
       refine dS (LE1 b 0 (Value.map (some ga)) rfl tk144 (has_own_n (n := (fillF (fb ++ [b19]) (ln.Beams.n + 1)).length) 6 rfl (by simp)) hk24 rfl (by decide) rfl) ?_
       refine d_end ?_
       refine gr_mrange 0 rfl rfl ut144 rfl rfl fun r25 => ?_
       try dsimp only
       refine RK hK22 ?_
       refine w_block ?_
       have hinit : (∀ p ∈ mb, p ∈ mb) ∧ (LoOn (watchOf ln ri e tms) b ([] : FM)) ∧ (LoLeft (watchOf ln ri e tms) b mb ([] : FM) mb) := by exact ⟨fun p hp => hp, LoOn.start, LoLeft.start⟩
       refine w_loopD (ι := { z : FM × FM × (List Nat) // (∀ p ∈ z.1, p ∈ mb) ∧ (LoOn (watchOf ln ri e tms) b z.2.1) ∧ (LoLeft (watchOf ln ri e tms) b mb z.2.1 z.1) }) (fun z => z.1.2.2.map mark) (fun z => [(0, (Value.pointer (some ⟨gw, 0, none⟩))), (1, (Value.pointer (some ⟨b2, 0, none⟩))), (2, (Value.int .i64 ((ln.Beams.n : Nat) : Int))), (3, (Value.pointer (some ⟨b14, 0, none⟩))), (52, (Value.int .i64 ((ln.Beams.n : Nat) : Int))), (53, (Value.int .i64 ((b : Nat) : Int))), (71, (Value.pointer (some ⟨r25, 0, none⟩)))]) (fun z => [(gmi tallyU r25 ga (gmapV iV mb) (gmapV iV z.1.1) none), (bund (nestO fmR fs fb b)), (gmp tallyU b19 (gmapV iV z.1.2.1)), (blk b14 3 [(Value.int .i64 ((b : Nat) : Int))]), (bund (z.1.2.2.map defd)), (blk gw 142 (WatchV.cells (WatchV.mk ln ri (Slc.mk e_A e.length e_C) (Slc.mk t_A tms.length t_C) (Slc.mk fA (ln.Beams.n + 1) (ln.Beams.n + 1)) (Slc.mk bA (ln.Beams.n + 1) (ln.Beams.n + 1))))).ro, (own fA (ln.Beams.n + 1) 144 1 (List.map oC (fillF (fb ++ [b19]) (ln.Beams.n + 1)))), (own bA (ln.Beams.n + 1) 144 1 (List.map oC (List.replicate (ln.Beams.n + 1) (none : Option Nat)))), (blk b2 107 [(Value.pointer (some ⟨gw, 0, none⟩))]), (rd e_A e.length 1 (e.map iC)).ro, (rd t_A tms.length 1 (List.zipWith mapC tms tb)).ro, (bun (nest tmR tms tb)).ro]) (fun z => z.1.1.length) ⟨(mb, ([] : FM), rs5), hinit⟩ rfl (Sub.cons rfl <| Sub.cons rfl <| Sub.cons rfl <| Sub.cons rfl <| Sub.cons rfl <| Sub.cons rfl <| Sub.cons rfl <| Sub.nil _) (fun w hs => St.sel [0, 1, 2, 3, 4, 5, 6, 7, 8, 9, 10, 11] rfl rfl hs) ?_
       clear hinit
       rintro ⟨⟨left, m, rs9⟩, ⟨hl9_0, hl9_1, hl9_2⟩⟩ J26 hJ26
       try dsimp only at hl9_0 hl9_1 hl9_2
       try dsimp only
       refine WS fun _ hK27 => ?_
       refine gr_mnext_v gk146.inj (f := iV) 0 rfl rfl rfl rfl (fun h72 => ?_) (fun t v hm hnd => ?_)
       · refine rS (EX rfl) ?_
         refine RK hK27 ?_
         refine w_seq fun _ hK28 => ?_
         refine w_if_false rfl ?_
         refine w_exit ?_
         refine k_exit_then ?_
         refine k_exit_then ?_
         refine k_exit_same ?_
         refine k_block ?_
         refine KK hK12 ?_
         refine w_region ?_
         refine rS (BI rfl (b_add ⟨by omega, by omega⟩)) ?_
         refine rS (MV rfl) ?_
         refine r_nil ?_
         refine k_imp (C' := [(gmp tallyU ga (gmapV iV mb)), (bund (nestO fmR fs fb b)), (gmp tallyU b19 (gmapV iV m)), (blk b14 3 [(Value.int .i64 ((b : Nat) : Int))]), (bund (rs9.map defd)), (blk gw 142 (WatchV.cells (WatchV.mk ln ri (Slc.mk e_A e.length e_C) (Slc.mk t_A tms.length t_C) (Slc.mk fA (ln.Beams.n + 1) (ln.Beams.n + 1)) (Slc.mk bA (ln.Beams.n + 1) (ln.Beams.n + 1))))).ro, (own fA (ln.Beams.n + 1) 144 1 (List.map oC (fillF (fb ++ [b19]) (ln.Beams.n + 1)))), (own bA (ln.Beams.n + 1) 144 1 (List.map oC (List.replicate (ln.Beams.n + 1) (none : Option Nat)))), (blk b2 107 [(Value.pointer (some ⟨gw, 0, none⟩))]), (rd e_A e.length 1 (e.map iC)).ro, (rd t_A tms.length 1 (List.zipWith mapC tms tb)).ro, (bun (nest tmR tms tb)).ro]) 0 rfl gmi_mp rfl ?_
         refine k_nest 1 0 hmb hga rfl rfl rfl ?_
         try dsimp only
         refine k_tie (X' := nest fmR (fs ++ [m]) (fb ++ [b19])) 0 1 rfl rfl (nest_snoc (by omega) rfl) ?_
         try dsimp only
         have hb29 : (Value.int .i64 (((b + 1) : Nat) : Int)) = (Value.int .i64 (((b : Nat) : Int) + 1)) := by exact congrArg (Value.int .i64) (by omega)
         refine k_then (hJ8 ⟨((b + 1), (fs ++ [m]), (fb ++ [b19]), rs9), ⟨by omega, by simp; omega, by simp; omega, hl5_3.add hl5_1 hmb hl9_1 hl9_2 h72⟩⟩ _ _ _ rfl (by first | omega | (simp; omega)) (Sub.cons rfl <| Sub.cons rfl <| Sub.cons rfl <| Sub.cons rfl <| sub_val rfl hb29 <| Sub.nil _) (fun w hs => St.sel [2, 0, 3, 4, 5, 6, 7, 8, 9] rfl rfl hs))
       try dsimp only
       refine rS (EX rfl) ?_
       refine RK hK27 ?_
       refine w_seq fun _ hK30 => ?_
       refine w_if_true rfl ?_
       refine WK hK30 ?_
       refine w_block ?_
       refine WS fun _ hK31 => ?_
       refine rS (SX (gsd_mentry 0 rfl rfl rfl) rfl rfl) ?_
       refine rS (EX rfl) ?_
       refine rS (EX rfl) ?_
       refine AL rfl tz146 fun b32 => ?_
       refine AL rfl tz3 fun b33 => ?_
       refine SW1 rfl ts146 rfl ?_
       refine SO0 rfl ts3 rfl rfl ?_
       refine RK hK31 ?_
       refine WS fun _ hK34 => ?_
       refine rS (L1W 10 rfl tk107 rfl) ?_
       refine rS (L1W 5 rfl tk3 rfl) ?_
       refine cX (options_c gw b) (ha_nil) rfl fun y35 hy36 => ?_
       obtain ⟨x137, x238⟩ := y35
       try dsimp only
       refine RK hK34 ?_
       refine w_block ?_
       refine w_dup 13 rfl (by exact fun _ h => h) ?_
       refine w_dup 15 rfl (by exact fun _ h => h) ?_
       refine w_dup 17 rfl (by exact fun _ h => h) ?_
       refine w_dup 12 rfl (by exact fun _ h => h) ?_
       refine w_rangeG (L0 := [(0, (Value.pointer (some ⟨gw, 0, none⟩))), (1, (Value.pointer (some ⟨b2, 0, none⟩))), (2, (Value.int .i64 ((ln.Beams.n : Nat) : Int))), (3, (Value.pointer (some ⟨b14, 0, none⟩))), (4, (Value.pointer (some ⟨b32, 0, none⟩))), (5, (Value.pointer (some ⟨b33, 0, none⟩))), (52, (Value.int .i64 ((ln.Beams.n : Nat) : Int))), (53, (Value.int .i64 ((b : Nat) : Int))), (71, (Value.pointer (some ⟨r25, 0, none⟩)))]) (F := [(rd e_A e.length 1 (e.map iC)).ro, (rd t_A tms.length 1 (List.zipWith mapC tms tb)).ro, (bun (nest tmR tms tb)).ro, (blk gw 142 (WatchV.cells (WatchV.mk ln ri (Slc.mk e_A e.length e_C) (Slc.mk t_A tms.length t_C) (Slc.mk fA (ln.Beams.n + 1) (ln.Beams.n + 1)) (Slc.mk bA (ln.Beams.n + 1) (ln.Beams.n + 1))))).ro, (blk x137 107 [(Value.pointer (some ⟨gw, 0, none⟩))]), (blk x238 3 [(Value.int .i64 ((b : Nat) : Int))])])  (fun k (y : FM) => (LoInv (watchOf ln ri e tms) b mb left y (t, v) k)) (fun k y => [(blk b33 3 [(Value.int .i64 v)]), (blk b32 146 (TallyV.cells t)), (gmi tallyU r25 ga (gmapV iV mb) (gmapV iV (gdelK left t)) (some (t, (Value.int .i64 v)))), (bund (nestO fmR fs fb b)), (gmp tallyU b19 (gmapV iV y)), (blk b14 3 [(Value.int .i64 ((b : Nat) : Int))]), (bund (rs9.map defd)), (blk gw 142 (WatchV.cells (WatchV.mk ln ri (Slc.mk e_A e.length e_C) (Slc.mk t_A tms.length t_C) (Slc.mk fA (ln.Beams.n + 1) (ln.Beams.n + 1)) (Slc.mk bA (ln.Beams.n + 1) (ln.Beams.n + 1))))).ro, (own fA (ln.Beams.n + 1) 144 1 (List.map oC (fillF (fb ++ [b19]) (ln.Beams.n + 1)))), (own bA (ln.Beams.n + 1) 144 1 (List.map oC (List.replicate (ln.Beams.n + 1) (none : Option Nat)))), (blk b2 107 [(Value.pointer (some ⟨gw, 0, none⟩))]), (rd e_A e.length 1 (e.map iC)).ro, (rd t_A tms.length 1 (List.zipWith mapC tms tb)).ro, (bun (nest tmR tms tb)).ro]) (fun _ (_ : Unit) => False) (fun _ _ => []) [6, 7, 8, 9, 10, 11, 12, 13, 14, 15, 16, 17, 18, 19] [3, 2, 1, 0, 4, 5] m rfl rfl (options1_c ln ri e tms e_A e_C tb t_A t_C fA (ln.Beams.n + 1) (ln.Beams.n + 1) bA (ln.Beams.n + 1) (ln.Beams.n + 1) gw b x137 x238 (by omega) (by omega)) rfl rfl rfl (by exact LoInv.start hl9_1 hl9_2) (by simp only [List.forall_mem_cons, List.not_mem_nil, false_imp_iff, implies_true, and_true]; exact ⟨⟨_, List.mem_of_getElem? (i := 0) rfl, (cov_ro (cov_refl _))⟩, ⟨_, List.mem_of_getElem? (i := 1) rfl, (cov_ro (cov_refl _))⟩, ⟨_, List.mem_of_getElem? (i := 2) rfl, (cov_ro (cov_refl _))⟩, ⟨_, List.mem_of_getElem? (i := 3) rfl, (cov_ro (cov_refl _))⟩, ⟨_, List.mem_of_getElem? (i := 4) rfl, (cov_refl _)⟩, ⟨_, List.mem_of_getElem? (i := 5) rfl, (cov_refl _)⟩⟩) (by rintro k x k2 ⟨o, _, rfl, _⟩; rfl) rfl (Sub.cons rfl <| Sub.cons rfl <| Sub.cons rfl <| Sub.cons rfl <| Sub.cons rfl <| Sub.cons rfl <| Sub.cons rfl <| Sub.cons rfl <| Sub.cons rfl <| Sub.nil _) ?_ ?_ (fun _ _ _ h => h.elim) (fun _ _ h => h.elim)
       rotate_left 1
       · rintro r53 k m2 hfin hin54
         have hr0 := hin54
         try dsimp only
         refine k_block ?_
         refine k_block ?_
         refine k_tief (X := rs9.map defd) 13 0 rfl rfl ?_
         try dsimp only
         refine k_imp (C' := [(bund ((r53 :: rs9).map defd)), (rd e_A e.length 1 (e.map iC)).ro, (rd t_A tms.length 1 (List.zipWith mapC tms tb)).ro, (bun (nest tmR tms tb)).ro, (blk gw 142 (WatchV.cells (WatchV.mk ln ri (Slc.mk e_A e.length e_C) (Slc.mk t_A tms.length t_C) (Slc.mk fA (ln.Beams.n + 1) (ln.Beams.n + 1)) (Slc.mk bA (ln.Beams.n + 1) (ln.Beams.n + 1))))).ro, (blk x137 107 [(Value.pointer (some ⟨gw, 0, none⟩))]), (blk x238 3 [(Value.int .i64 ((b : Nat) : Int))]), (blk b33 3 [(Value.int .i64 v)]), (blk b32 146 (TallyV.cells t)), (gmi tallyU r25 ga (gmapV iV mb) (gmapV iV (gdelK left t)) none), (bund (nestO fmR fs fb b)), (gmp tallyU b19 (gmapV iV m2)), (blk b14 3 [(Value.int .i64 ((b : Nat) : Int))]), (blk gw 142 (WatchV.cells (WatchV.mk ln ri (Slc.mk e_A e.length e_C) (Slc.mk t_A tms.length t_C) (Slc.mk fA (ln.Beams.n + 1) (ln.Beams.n + 1)) (Slc.mk bA (ln.Beams.n + 1) (ln.Beams.n + 1))))).ro, (own fA (ln.Beams.n + 1) 144 1 (List.map oC (fillF (fb ++ [b19]) (ln.Beams.n + 1)))), (own bA (ln.Beams.n + 1) 144 1 (List.map oC (List.replicate (ln.Beams.n + 1) (none : Option Nat)))), (blk b2 107 [(Value.pointer (some ⟨gw, 0, none⟩))]), (rd e_A e.length 1 (e.map iC)).ro, (rd t_A tms.length 1 (List.zipWith mapC tms tb)).ro, (bun (nest tmR tms tb)).ro]) 9 rfl gmi_none rfl ?_
         refine k_then (hJ26 ⟨((gdelK left t), m2, (r53 :: rs9)), ⟨left_sub hl9_0, hr0.on, hr0.next hnd hm hfin⟩⟩ _ _ _ rfl (gdelK_lt hm) (Sub.cons rfl <| Sub.cons rfl <| Sub.cons rfl <| Sub.cons rfl <| Sub.cons rfl <| Sub.cons rfl <| Sub.cons rfl <| Sub.nil _) (fun w hs => St.sel [9, 10, 11, 12, 0, 4, 14, 15, 16, 1, 2, 3] rfl rfl hs))
       rintro k x k2 m2 l ra rb S w1 K39 Qr40 hsz hx hin41 hK39 hQr40 xQr40 yQr40
       obtain ⟨o, ho, rfl, rfl⟩ := hx
       have hr0 := hin41
       try dsimp only
       refine WS fun _ hK42 => ?_
       refine rS (AG rfl) ?_
       refine RK hK42 ?_
       refine w_region ?_
       refine AL rfl tz34 fun b43 => ?_
       refine SW0 rfl ts34 rfl ?_
       refine r_nil ?_
       refine k_sub (fun _ _ h => h) (fun w hs => St.sel [1, 0, 2, 3, 4, 5, 6, 7, 8, 9, 10, 11, 12, 13, 14, 15] rfl rfl hs) ?_
       refine k_then (hK39 _ _ ?_)
       refine w_block ?_
       refine w_seq fun _ hK44 => ?_
       refine w_draw4 mixed [0, 1, 2, 3, 4, 5, 6, 7, 8, 9, 10, 11, 12, 13, 14, 15, 17] [16, 18] [false, false, false, false, false, false, false, false, false, false, false, false, false, false, false, false, false] [false, false] [(obj l (.loop rb)), (blk b43 34 (SpanV.cells o.2)), (blk b33 3 [(Value.int .i64 v)]), (blk b32 146 (TallyV.cells t)), (gmi tallyU r25 ga (gmapV iV mb) (gmapV iV (gdelK left t)) (some (t, (Value.int .i64 v)))), (bund (nestO fmR fs fb b)), (gmp tallyU b19 (gmapV iV m2)), (blk b14 3 [(Value.int .i64 ((b : Nat) : Int))]), (bund (rs9.map defd)), (blk gw 142 (WatchV.cells (WatchV.mk ln ri (Slc.mk e_A e.length e_C) (Slc.mk t_A tms.length t_C) (Slc.mk fA (ln.Beams.n + 1) (ln.Beams.n + 1)) (Slc.mk bA (ln.Beams.n + 1) (ln.Beams.n + 1))))).ro, (own fA (ln.Beams.n + 1) 144 1 (List.map oC (fillF (fb ++ [b19]) (ln.Beams.n + 1)))), (own bA (ln.Beams.n + 1) 144 1 (List.map oC (List.replicate (ln.Beams.n + 1) (none : Option Nat)))), (blk b2 107 [(Value.pointer (some ⟨gw, 0, none⟩))]), (rd e_A e.length 1 (e.map iC)).ro, (rd t_A tms.length 1 (List.zipWith mapC tms tb)).ro, (bun (nest tmR tms tb)).ro] [] (by kernel_rfl) (fun w hs => St.sel [0, 1, 2, 3, 4, 5, 6, 7, 8, 9, 10, 11, 12, 13, 14, 15] rfl rfl hs) (fun w hs => St.sel [] rfl rfl hs) ?_
       refine eS rfl (L1W 2 rfl tk3 rfl) ?_
       refine eS rfl (L1W 12 rfl tk107 rfl) ?_
       refine eS rfl (SX (sd_nil_p rfl rfl) rfl rfl) ?_
       refine eS rfl (FA 10 rfl fo142_2 rfl) ?_
       refine eS rfl (L1R (Value.slice e_A e.length e_C) 9 rfl tk57 rfl rfl) ?_
       refine eS rfl (L1W 7 rfl tk3 rfl) ?_
       obtain ⟨y, hy⟩ : ∃ y_, e[b]? = some y_ := ⟨e[b]'(by omega), List.getElem?_eq_getElem _⟩
       have hym : (e.map iC)[b]? = some (iC y) := by rw [List.getElem?_map, hy]; rfl
       refine eS rfl (IA b rfl (has_at 13 rfl) te57 (by decide) (by omega) (by omega)) ?_
       refine eS rfl (LE1 b 0 (Value.int .i64 y) rfl tk3 (has_at 13 rfl) hym rfl (by decide) rfl) ?_
       have hlb := hw.least y (List.mem_of_getElem? hy)
       have hp := hl5_3.mem hmb (hl9_0 _ hm)
       have hfp := fwd_b hw _ _ hp
       have ho1 := oneT_b o.1
       have hob := hw.opt ho
       have hnw := hw.now
       dsimp only at hfp
       refine eS rfl (BI rfl (b_add ⟨by omega, by omega⟩)) ?_
       refine eS rfl (FA 0 rfl fo34_0 rfl) ?_
       refine eS rfl (L1 (Value.int .i64 o.2.Lo) 1 rfl tk3 rfl rfl) ?_
       refine eS rfl (MX rfl) ?_
       refine eS rfl (LW 3 rfl tk146 rfl rfl) ?_
       refine eS rfl (MV rfl) ?_
       refine eS rfl (CL (one_c o.1) (ha_nil) rfl) ?_
       refine eS rfl (CL (tplus_c t (oneT o.1) (by first | assumption | omega | (simp; done) | (simp; omega)) (by first | assumption | omega | (simp; done) | (simp; omega))) (ha_nil) rfl) ?_
       refine eS rfl (AG rfl) ?_
       refine d_fin rfl ?_
       refine t_cons rfl fun T45 hT45 => ?_
       refine AL rfl tz146 fun b46 => ?_
       refine r_nil (hT45 _ _ (fun w hs => St.sel [1, 2, 3, 4, 5, 6, 7, 8, 9, 10, 11, 12, 13, 14, 15, 16] rfl rfl hs) ?_)
       refine t_cons rfl fun T47 hT47 => ?_
       refine SW0 rfl ts146 rfl ?_
       refine r_nil (hT47 _ _ (fun w hs => St.sel [1, 2, 3, 4, 5, 6, 7, 8, 9, 10, 11, 12, 13, 14, 15, 16] rfl rfl hs) ?_)
       refine t_fin rfl ?_
       refine KK hK44 ?_
       refine w_seq fun _ hK48 => ?_
       refine w_draw mixed 15 (by kernel_rfl) ?_
       refine dS (L1W 13 rfl tk107 rfl) ?_
       refine dS (SX (sd_nil_p rfl rfl) rfl rfl) ?_
       refine dS (FA 12 rfl fo142_4 rfl) ?_
       refine dS (L1R (Value.slice fA (ln.Beams.n + 1) (ln.Beams.n + 1)) 10 rfl tk140 rfl rfl) ?_
       refine dS (L1W 8 rfl tk3 rfl) ?_
       refine dS (BI rfl (b_add ⟨by omega, by omega⟩)) ?_
       have hk49 : (List.map oC (fillF (fb ++ [b19]) (ln.Beams.n + 1)))[(b + 1)]? = some (oC (some b19)) := oC_at (fillF_at (snoc_at (by omega)))
       refine dS (IA (b + 1) rfl (has_own_n (n := (ln.Beams.n + 1)) 11 rfl (by first | (simp; done) | (simp; omega))) te140 (by decide) (by omega) (by omega)) ?_
       refine dS (LE1 (b + 1) 0 (Value.map (some b19)) rfl tk144 (has_own_n (n := (fillF (fb ++ [b19]) (ln.Beams.n + 1)).length) 11 rfl (by simp)) hk49 rfl (by decide) rfl) ?_
       refine dS (LW 0 rfl tk146 rfl rfl) ?_
       refine dS (SX (gsd_look_v (kV := tallyU) (x := (addT t (oneT o.1))) (l := m2) (f := iV) (z := 0) rfl rfl rfl ut144 gk146 tv3 (by exact has_at 7 rfl)) rfl rfl) ?_
       refine dS (MV rfl) ?_
       refine dS (EX rfl) ?_
       refine dS (EX rfl) ?_
       refine dS (AG rfl) ?_
       refine dS (AG rfl) ?_
       refine d_end ?_
       refine RK hK48 ?_
       refine w_seq fun _ hK50 => ?_
       refine w_draw mixed 19 (by kernel_rfl) ?_
       refine dS (MV rfl) ?_
       refine dS (FA 1 rfl fo34_1 rfl) ?_
       refine dS (L1 (Value.int .i64 o.2.Hi) 2 rfl tk3 rfl rfl) ?_
       refine dS (L1W 13 rfl tk107 rfl) ?_
       refine dS (SX (sd_nil_p rfl rfl) rfl rfl) ?_
       refine dS (FA 7 rfl fo142_1 rfl) ?_
       refine dS (FA 8 rfl fo69_1 rfl) ?_
       refine dS (L1R (Value.int .i64 ri.Now) 10 rfl tk3 rfl rfl) ?_
       refine dS (MN rfl) ?_
       refine dS (BI rfl b_leq) ?_
       refine dS (MV rfl) ?_
       refine d_bool (t := 121) rfl (fun h121 => ?_) (fun h121 => ?_)
       rotate_left 1
       · replace h121 := DF h121
         refine dS (OX rfl) ?_
         refine dS (OX rfl) ?_
         refine dS (OX rfl) ?_
         refine dS (OX rfl) ?_
         refine dS (OX rfl) ?_
         refine dS (OX rfl) ?_
         refine dS (OX rfl) ?_
         refine dS (PK rfl) ?_
         refine d_end ?_
         refine RK hK50 ?_
         refine w_if_false rfl ?_
         refine w_skip ?_
         refine k_block ?_
         exact hQr40 m2 _ _ (by first | exact hr0.skip (fwdO_off hy h121) | exact hr0.keep (fwdO_at hy h121) (by simpa using h124) h129 | exact hr0.set hp ho (fwdO_at hy h121) (.inl (by simpa using h124)) | exact hr0.set hp ho (fwdO_at hy h121) (.inr h129)) (fun w hs => St.sel [1, 3, 4, 5, 6, 7, 8, 9, 10, 11, 12, 13, 14, 15, 16] rfl rfl hs)
       replace h121 := DT h121
       refine dS (MV rfl) ?_
       refine dS (NT rfl) ?_
       refine dS (MV rfl) ?_
       refine d_bool (t := 124) rfl (fun h124 => ?_) (fun h124 => ?_)
       · rw [Bool.not_eq_true'] at h124
         refine dS (OX rfl) ?_
         refine dS (OX rfl) ?_
         refine dS (OX rfl) ?_
         refine dS (PK rfl) ?_
         refine dS (PK rfl) ?_
         refine d_end ?_
         refine RK hK50 ?_
         refine w_if_true rfl ?_
         refine w_draw mixed 10 (by kernel_rfl) ?_
         refine dS (L1W 13 rfl tk107 rfl) ?_
         refine dS (SX (sd_nil_p rfl rfl) rfl rfl) ?_
         refine dS (FA 12 rfl fo142_4 rfl) ?_
         refine dS (L1R (Value.slice fA (ln.Beams.n + 1) (ln.Beams.n + 1)) 10 rfl tk140 rfl rfl) ?_
         refine dS (L1W 8 rfl tk3 rfl) ?_
         refine dS (BI rfl (b_add ⟨by omega, by omega⟩)) ?_
         have hk51 : (List.map oC (fillF (fb ++ [b19]) (ln.Beams.n + 1)))[(b + 1)]? = some (oC (some b19)) := oC_at (fillF_at (snoc_at (by omega)))
         refine dS (IA (b + 1) rfl (has_own_n (n := (ln.Beams.n + 1)) 11 rfl (by first | (simp; done) | (simp; omega))) te140 (by decide) (by omega) (by omega)) ?_
         refine dS (LE1 (b + 1) 0 (Value.map (some b19)) rfl tk144 (has_own_n (n := (fillF (fb ++ [b19]) (ln.Beams.n + 1)).length) 11 rfl (by simp)) hk51 rfl (by decide) rfl) ?_
         refine dS (LW 0 rfl tk146 rfl rfl) ?_
         refine dS (MV rfl) ?_
         refine d_end ?_
         refine gr_mapset (kV := tallyU) (x := (addT t (oneT o.1))) (C' := [_, _, _, _, _, _, _, (gmp tallyU b19 (gmapV iV (gsetK m2 (addT t (oneT o.1)) (max (v + y) o.2.Lo)))), _, _, _, _, _, _, _, _, _]) 7 rfl rfl rfl rfl ut144 gk146 rfl (gmapV_setK _ _ _ _).symm rfl ?_
         refine r_nil ?_
         refine k_block ?_
         exact hQr40 (gsetK m2 (addT t (oneT o.1)) (max (v + y) o.2.Lo)) _ _ (by first | exact hr0.skip (fwdO_off hy h121) | exact hr0.keep (fwdO_at hy h121) (by simpa using h124) h129 | exact hr0.set hp ho (fwdO_at hy h121) (.inl (by simpa using h124)) | exact hr0.set hp ho (fwdO_at hy h121) (.inr h129)) (fun w hs => St.sel [1, 3, 4, 5, 6, 7, 8, 9, 10, 11, 12, 13, 14, 15, 16] rfl rfl hs)
       rw [Bool.not_eq_false'] at h124
       refine dS (MV rfl) ?_
       refine dS (MV rfl) ?_
       refine dS (BI rfl b_lss) ?_
       refine dS (PK rfl) ?_
       refine dS (PK rfl) ?_
       refine d_end ?_
       refine RK hK50 ?_
       refine w_if rfl (fun h129 => ?_) (fun h129 => ?_)
       rotate_left 1
       · replace h129 := DF h129
         refine w_skip ?_
         refine k_block ?_
         exact hQr40 m2 _ _ (by first | exact hr0.skip (fwdO_off hy h121) | exact hr0.keep (fwdO_at hy h121) (by simpa using h124) h129 | exact hr0.set hp ho (fwdO_at hy h121) (.inl (by simpa using h124)) | exact hr0.set hp ho (fwdO_at hy h121) (.inr h129)) (fun w hs => St.sel [1, 3, 4, 5, 6, 7, 8, 9, 10, 11, 12, 13, 14, 15, 16] rfl rfl hs)
       replace h129 := DT h129
       refine w_draw mixed 10 (by kernel_rfl) ?_
       refine dS (L1W 13 rfl tk107 rfl) ?_
       refine dS (SX (sd_nil_p rfl rfl) rfl rfl) ?_
       refine dS (FA 12 rfl fo142_4 rfl) ?_
       refine dS (L1R (Value.slice fA (ln.Beams.n + 1) (ln.Beams.n + 1)) 10 rfl tk140 rfl rfl) ?_
       refine dS (L1W 8 rfl tk3 rfl) ?_
       refine dS (BI rfl (b_add ⟨by omega, by omega⟩)) ?_
       have hk52 : (List.map oC (fillF (fb ++ [b19]) (ln.Beams.n + 1)))[(b + 1)]? = some (oC (some b19)) := oC_at (fillF_at (snoc_at (by omega)))
       refine dS (IA (b + 1) rfl (has_own_n (n := (ln.Beams.n + 1)) 11 rfl (by first | (simp; done) | (simp; omega))) te140 (by decide) (by omega) (by omega)) ?_
       refine dS (LE1 (b + 1) 0 (Value.map (some b19)) rfl tk144 (has_own_n (n := (fillF (fb ++ [b19]) (ln.Beams.n + 1)).length) 11 rfl (by simp)) hk52 rfl (by decide) rfl) ?_
       refine dS (LW 0 rfl tk146 rfl rfl) ?_
       refine dS (MV rfl) ?_
       refine d_end ?_
       refine gr_mapset (kV := tallyU) (x := (addT t (oneT o.1))) (C' := [_, _, _, _, _, _, _, (gmp tallyU b19 (gmapV iV (gsetK m2 (addT t (oneT o.1)) (max (v + y) o.2.Lo)))), _, _, _, _, _, _, _, _, _]) 7 rfl rfl rfl rfl ut144 gk146 rfl (gmapV_setK _ _ _ _).symm rfl ?_
       refine r_nil ?_
       refine k_block ?_
       exact hQr40 (gsetK m2 (addT t (oneT o.1)) (max (v + y) o.2.Lo)) _ _ (by first | exact hr0.skip (fwdO_off hy h121) | exact hr0.keep (fwdO_at hy h121) (by simpa using h124) h129 | exact hr0.set hp ho (fwdO_at hy h121) (.inl (by simpa using h124)) | exact hr0.set hp ho (fwdO_at hy h121) (.inr h129)) (fun w hs => St.sel [1, 3, 4, 5, 6, 7, 8, 9, 10, 11, 12, 13, 14, 15, 16] rfl rfl hs)
     replace h11 := DF h11
     refine w_exit ?_
     refine k_exit_then ?_
     refine k_exit_then ?_
     refine k_exit_same ?_
     refine KK hK6 ?_
     refine WS fun _ hK55 => ?_
     refine rS (MV rfl) ?_
     refine AL rfl tz3 fun b56 => ?_
     refine SO0 rfl ts3 rfl rfl ?_
     refine RK hK55 ?_
     refine w_block ?_
     rw [fillB_nil]
     refine w_tie0 ?_
     have hinit : (0 ≤ ln.Beams.n + 1) ∧ (([] : List FM).length = 0) ∧ (([] : List Nat).length = 0) ∧ (BackTo (watchOf ln ri e tms) (ln.Beams.n + 1 - 0) ([] : List FM)) := by exact ⟨Nat.zero_le _, rfl, rfl, BackTo.none_⟩
     refine w_loopD (ι := { z : Nat × (List FM) × (List Nat) × Nat × (List Nat) // (z.1 ≤ ln.Beams.n + 1) ∧ (z.2.1.length = z.1) ∧ (z.2.2.1.length = z.1) ∧ (BackTo (watchOf ln ri e tms) (ln.Beams.n + 1 - z.1) z.2.1) }) (fun z => z.1.2.2.2.2.map mark) (fun z => [(0, (Value.pointer (some ⟨gw, 0, none⟩))), (1, (Value.pointer (some ⟨b2, 0, none⟩))), (2, (Value.int .i64 ((ln.Beams.n : Nat) : Int))), (12, (Value.pointer (some ⟨z.1.2.2.2.1, 0, none⟩)))]) (fun z => [(bund (nest fmR z.1.2.1 z.1.2.2.1)), (blk z.1.2.2.2.1 3 [(Value.int .i64 (((ln.Beams.n : Nat) : Int) - ((z.1.1 : Nat) : Int)))]), (bund (z.1.2.2.2.2.map defd)), (bund (nest fmR fs fb)), (blk gw 142 (WatchV.cells (WatchV.mk ln ri (Slc.mk e_A e.length e_C) (Slc.mk t_A tms.length t_C) (Slc.mk fA (ln.Beams.n + 1) (ln.Beams.n + 1)) (Slc.mk bA (ln.Beams.n + 1) (ln.Beams.n + 1))))).ro, (own fA (ln.Beams.n + 1) 144 1 (List.map oC (fillF fb (ln.Beams.n + 1)))), (own bA (ln.Beams.n + 1) 144 1 (List.map oC (fillB z.1.2.2.1 (ln.Beams.n + 1)))), (blk b2 107 [(Value.pointer (some ⟨gw, 0, none⟩))]), (rd e_A e.length 1 (e.map iC)).ro, (rd t_A tms.length 1 (List.zipWith mapC tms tb)).ro, (bun (nest tmR tms tb)).ro]) (fun z => ln.Beams.n + 1 - z.1.1) ⟨(0, ([] : List FM), ([] : List Nat), b56, rs5), hinit⟩ rfl (Sub.cons rfl <| Sub.cons rfl <| Sub.cons rfl <| Sub.cons rfl <| Sub.nil _) (fun w hs => St.sel [0, 1, 2, 3, 4, 5, 6, 7, 8, 9, 10] rfl rfl hs) ?_
     clear hinit
     rintro ⟨⟨j, bs, bb, gq, rs20⟩, ⟨hl20_0, hl20_1, hl20_2, hl20_3⟩⟩ J57 hJ57
     try dsimp only at hl20_0 hl20_1 hl20_2 hl20_3
     try dsimp only
     refine w_seq fun _ hK58 => ?_
     refine WS fun _ hK59 => ?_
     refine rS (L1W 1 rfl tk3 rfl) ?_
     refine rS (BI rfl b_geq) ?_
     refine RK hK59 ?_
     refine w_if rfl (fun h143 => ?_) (fun h143 => ?_)
     rotate_left 1
     · replace h143 := DF h143
       refine w_exit ?_
       refine k_exit_then ?_
       refine k_exit_then ?_
       refine k_exit_same ?_
       rw [show (List.map oC (fillF fb (ln.Beams.n + 1))) = (List.zipWith mapC fs fb) from by rw [fillF_all (by omega)]; exact (zip_oC (by omega)).symm]
       rw [show (List.map oC (fillB bb (ln.Beams.n + 1))) = (List.zipWith mapC bs bb) from by rw [fillB_all (by omega)]; exact (zip_oC (by omega)).symm]
       refine k_thaw (C1 := [(own fA (ln.Beams.n + 1) 144 1 (List.zipWith mapC fs fb)), (bund (nest fmR fs fb)), (own bA (ln.Beams.n + 1) 144 1 (List.zipWith mapC bs bb)), (bund (nest fmR bs bb)), (bund (rs20.map defd))]) hz [5, 3, 6, 0, 2] rfl rfl (by simp only [List.all_cons, List.all_nil, fm_wr, defd_wr, Bool.and_true]; rfl) ?_
       rw [show (blk gw 142 (WatchV.cells (WatchV.mk ln ri (Slc.mk e_A e.length e_C) (Slc.mk t_A tms.length t_C) (Slc.mk fA (ln.Beams.n + 1) (ln.Beams.n + 1)) (Slc.mk bA (ln.Beams.n + 1) (ln.Beams.n + 1))))) = (blk gw 142 (WatchV.cells (WatchV.mk ln ri (Slc.mk e_A e.length e_C) (Slc.mk t_A tms.length t_C) (Slc.mk fA fs.length (ln.Beams.n + 1)) (Slc.mk bA bs.length (ln.Beams.n + 1))))) from by rw [show fs.length = (ln.Beams.n + 1) from by omega, show bs.length = (ln.Beams.n + 1) from by omega]]
       refine k_tied [(blk gw 142 (WatchV.cells (WatchV.mk ln ri (Slc.mk e_A e.length e_C) (Slc.mk t_A tms.length t_C) (Slc.mk fA fs.length (ln.Beams.n + 1)) (Slc.mk bA bs.length (ln.Beams.n + 1))))), (own fA (ln.Beams.n + 1) 144 1 (List.zipWith mapC fs fb)), (bund (nest fmR fs fb)), (own bA (ln.Beams.n + 1) 144 1 (List.zipWith mapC bs bb)), (bund (nest fmR bs bb))] [(bund (rs20.map defd))] ?_
       refine hN _ _ _ (l_marks0 1 rfl rfl <| l_nil (vs := []) trivial fun w hs => endM (fs, fb, fA, (ln.Beams.n + 1), bs, bb, bA, (ln.Beams.n + 1)) 0 ?_ ?_ rfl (by show List.all _ _ = true; simp only [List.all_cons, List.all_nil, fm_wr, Bool.and_true]; rfl) hs)
       · clear hs w hQ hN hK59 hK58 hK55 hK10 hK9 hK7 hK6 hK3 hK1; rfl
       · clear hs w hQ hN hK59 hK58 hK55 hK10 hK9 hK7 hK6 hK3 hK1; exact ⟨hl5_3.ok (by show fs.length = e.length + 1; omega), BackTo.ok (by have := hl20_3; rwa [show ln.Beams.n + 1 - j = 0 by omega] at this) (by show bs.length = e.length + 1; omega), by dsimp only; omega, by dsimp only; omega⟩
     replace h143 := DT h143
     refine WK hK58 ?_
     refine w_seq fun _ hK60 => ?_
     refine w_block ?_
     refine w_seq fun _ hK61 => ?_
     obtain ⟨b, hbj⟩ : ∃ b : Nat, b + j = ln.Beams.n := ⟨ln.Beams.n - j, by omega⟩
     rw [show ((ln.Beams.n : Nat) : Int) - ((j : Nat) : Int) = ((b : Nat) : Int) from by omega]
     have hlb0 : (fillB bb (ln.Beams.n + 1)).length = (ln.Beams.n + 1) := fillB_len (by omega)
     refine w_draw4 mixed [0, 1, 2, 3, 4, 6, 7, 8, 9, 10, 11, 14] [5, 12, 13, 15] [false, false, false, false, false, false, false, false, false, false, false, true] [true, true, true, false] [(bund (nest fmR bs bb)), (blk gq 3 [(Value.int .i64 ((b : Nat) : Int))]), (bund (rs20.map defd)), (bund (nest fmR fs fb)), (blk gw 142 (WatchV.cells (WatchV.mk ln ri (Slc.mk e_A e.length e_C) (Slc.mk t_A tms.length t_C) (Slc.mk fA (ln.Beams.n + 1) (ln.Beams.n + 1)) (Slc.mk bA (ln.Beams.n + 1) (ln.Beams.n + 1))))).ro, (own fA (ln.Beams.n + 1) 144 1 (List.map oC (fillF fb (ln.Beams.n + 1)))), (blk b2 107 [(Value.pointer (some ⟨gw, 0, none⟩))]), (rd e_A e.length 1 (e.map iC)).ro, (rd t_A tms.length 1 (List.zipWith mapC tms tb)).ro, (bun (nest tmR tms tb)).ro] [(bund (nest fmR bs bb)), (blk gq 3 [(Value.int .i64 ((b : Nat) : Int))]), (bund (rs20.map defd)), (bund (nest fmR fs fb)), (blk gw 142 (WatchV.cells (WatchV.mk ln ri (Slc.mk e_A e.length e_C) (Slc.mk t_A tms.length t_C) (Slc.mk fA (ln.Beams.n + 1) (ln.Beams.n + 1)) (Slc.mk bA (ln.Beams.n + 1) (ln.Beams.n + 1))))).ro, (own fA (ln.Beams.n + 1) 144 1 (List.map oC (fillF fb (ln.Beams.n + 1)))), (own bA (ln.Beams.n + 1) 144 1 (List.map oC (fillB bb (ln.Beams.n + 1)))), (blk b2 107 [(Value.pointer (some ⟨gw, 0, none⟩))]), (rd e_A e.length 1 (e.map iC)).ro, (rd t_A tms.length 1 (List.zipWith mapC tms tb)).ro, (bun (nest tmR tms tb)).ro] (by kernel_rfl) (fun w hs => St.sel [0, 1, 2, 3, 4, 5, 7, 8, 9, 10] rfl rfl hs) (fun w hs => St.sel [0, 1, 2, 3, 4, 5, 6, 7, 8, 9, 10] rfl rfl hs) ?_
     refine eS rfl (L1W 6 rfl tk107 rfl) ?_
     refine eS rfl (SX (sd_nil_p rfl rfl) rfl rfl) ?_
     refine eS rfl (FA 13 rfl fo142_5 rfl) ?_
     refine eS rfl (L1R (Value.slice bA (ln.Beams.n + 1) (ln.Beams.n + 1)) 4 rfl tk140 rfl rfl) ?_
     refine eS rfl (L1W 1 rfl tk3 rfl) ?_
     refine eS rfl (SX (sd_build (xs := []) (cs := (TallyV.cells (TallyV.mk 0 0))) rfl rfl (built_of tb146 rfl)) rfl rfl) ?_
     refine eS rfl (L1W 6 rfl tk107 rfl) ?_
     refine eS rfl (SX (sd_nil_p rfl rfl) rfl rfl) ?_
     refine eS rfl (FA 7 rfl fo142_1 rfl) ?_
     refine eS rfl (FA 8 rfl fo69_1 rfl) ?_
     refine eS rfl (L1R (Value.int .i64 ri.Now) 4 rfl tk3 rfl rfl) ?_
     obtain ⟨x62, hx63⟩ : ∃ y_, (fillB bb (ln.Beams.n + 1))[b]? = some y_ := ⟨(fillB bb (ln.Beams.n + 1))[b]'(by omega), List.getElem?_eq_getElem _⟩
     have hx63m : (List.map oC (fillB bb (ln.Beams.n + 1)))[b]? = some (oC x62) := by rw [List.getElem?_map, hx63]; rfl
     refine fS rfl (IA b rfl (has_own_n (n := (ln.Beams.n + 1)) 6 rfl (by first | (simp; done) | (simp; omega))) te140 (by decide) (by omega) (by omega)) ?_
     refine d_fin rfl ?_
     refine t5_cons rfl fun T64 hT64 => ?_
     refine gr_mkmap (kV := tallyU) rfl rfl fun b65 => ?_
     try dsimp only
     refine r_nil (hT64 _ _ (fun w hs => St.sel [1, 2, 3, 4, 5, 6, 8, 9, 10, 11] rfl rfl hs) (fun w hs => St.sel [1, 2, 3, 4, 5, 6, 7, 8, 9, 10, 11] rfl rfl hs) ?_)
     refine t5_cons rfl fun T66 hT66 => ?_
     have hb67 : (gsetK ([] : List (TallyV × Int)) (TallyV.mk 0 0) ri.Now) = [((TallyV.mk 0 0), ri.Now)] := by rfl
     refine gr_mapins (kV := tallyU) (x := (TallyV.mk 0 0)) (C' := [(gmp tallyU b65 (gmapV iV ([((TallyV.mk 0 0), ri.Now)]))), _, _, _, _, _, _, _, _, _, _, _]) 0 rfl rfl rfl rfl ut144 gk146 rfl ((gmapV_setK _ _ _ _).symm.trans (congrArg _ hb67)) rfl ?_
     refine r_nil (hT66 _ _ (fun w hs => St.sel [1, 2, 3, 4, 5, 6, 8, 9, 10, 11] rfl rfl hs) (fun w hs => St.sel [1, 2, 3, 4, 5, 6, 7, 8, 9, 10, 11] rfl rfl hs) ?_)
     refine t5_cons rfl fun T68 hT68 => ?_
     refine rS (MV rfl) ?_
     refine r_nil (hT68 _ _ (fun w hs => St.sel [1, 2, 3, 4, 5, 6, 8, 9, 10, 11] rfl rfl hs) (fun w hs => St.sel [1, 2, 3, 4, 5, 6, 7, 8, 9, 10, 11] rfl rfl hs) ?_)
     refine t_cons rfl fun T69 hT69 => ?_
     have hb70 : ((fillB bb (ln.Beams.n + 1)).set b (some b65)) = (fillB (b65 :: bb) (ln.Beams.n + 1)) := by exact fillB_set (by omega)
     refine r_store_own (k := b) (o := 0) (vs := [(Value.map (some b65))]) (es' := (List.map oC (fillB (b65 :: bb) (ln.Beams.n + 1)))) (C' := [_, _, _, _, _, _, _, (own bA (ln.Beams.n + 1) 144 1 (List.map oC (fillB (b65 :: bb) (ln.Beams.n + 1)))), _, _, _, _]) 7 rfl rfl rfl ts144 rfl rfl rfl rfl hx63m rfl (by decide) (by exact (List.map_set (f := oC) (l := (fillB bb (ln.Beams.n + 1))) (i := b) (a := (some b65))).symm.trans (congrArg _ hb70)) rfl ?_
     refine r_nil (hT69 _ _ (fun w hs => St.sel [1, 2, 3, 4, 5, 6, 8, 9, 10, 11] rfl rfl hs) ?_)
     refine t_fin rfl ?_
     refine KK hK61 ?_
     refine w_seq fun _ hK71 => ?_
     refine WS fun _ hK72 => ?_
     refine rS (L1W 2 rfl tk3 rfl) ?_
     refine rS (MV rfl) ?_
     refine rS (BI rfl b_eql) ?_
     refine RK hK72 ?_
     refine w_if rfl (fun h162 => ?_) (fun h162 => ?_)
     · replace h162 := DT h162
       refine w_exit ?_
       refine k_exit_then ?_
       refine k_exit_same ?_
       refine KK hK60 ?_
       refine w_seq fun _ hK73 => ?_
       refine WS fun _ hK74 => ?_
       refine rS (L1W 2 rfl tk3 rfl) ?_
       refine RK hK74 ?_
       refine w_region ?_
       refine AL rfl tz3 fun b75 => ?_
       refine SO0 rfl ts3 rfl rfl ?_
       refine RK hK73 ?_
       refine w_region ?_
       refine rS (L1W 0 rfl tk3 rfl) ?_
       refine rS (BI rfl (b_sub ⟨by omega, by omega⟩)) ?_
       refine SO0 rfl ts3 rfl rfl ?_
       refine r_nil ?_
       rw [show ((b : Nat) : Int) - 1 = ((ln.Beams.n : Nat) : Int) - (((j + 1) : Nat) : Int) from by omega]
       refine tie_front (ms := bs) (m := [((TallyV.mk 0 0), ri.Now)]) (a := b65) 2 1 rfl rfl rfl ?_
       try dsimp only
       refine k_then (hJ57 ⟨((j + 1), ([((TallyV.mk 0 0), ri.Now)] :: bs), (b65 :: bb), b75, rs20), ⟨by omega, by simp; omega, by simp; omega, by first | exact BackTo.end_ (b := b) hl20_3 (by omega) (by omega) (by show e.length ≤ b; omega) | exact BackTo.more (b := b) hl20_3 (by omega) (by omega) (by show b < e.length; omega) hmb hl25_1 hl25_2 h172⟩⟩ _ _ _ rfl (by first | omega | (simp; omega)) (Sub.cons rfl <| Sub.cons rfl <| Sub.cons rfl <| Sub.cons rfl <| Sub.nil _) (fun w hs => St.sel [0, 1, 3, 4, 5, 6, 7, 8, 9, 10, 11] rfl rfl hs))
     replace h162 := DF h162
     refine WK hK71 ?_
     refine w_seq fun _ hK76 => ?_
     have hlq77 : (fillB (b65 :: bb) (ln.Beams.n + 1)).length = (ln.Beams.n + 1) := fillB_len (by simp; omega)
     obtain ⟨mb, hmb⟩ : ∃ y_, bs[0]? = some y_ := ⟨bs[0]'(by omega), List.getElem?_eq_getElem _⟩
     obtain ⟨ga, hga⟩ : ∃ y_, bb[0]? = some y_ := ⟨bb[0]'(by omega), List.getElem?_eq_getElem _⟩
     refine w_out 1 hmb hga rfl rfl rfl ?_
     try dsimp only
     refine w_draw mixed 8 (by kernel_rfl) ?_
     refine dS (L1W 9 rfl tk107 rfl) ?_
     refine dS (SX (sd_nil_p rfl rfl) rfl rfl) ?_
     refine dS (FA 13 rfl fo142_5 rfl) ?_
     refine dS (L1R (Value.slice bA (ln.Beams.n + 1) (ln.Beams.n + 1)) 6 rfl tk140 rfl rfl) ?_
     refine dS (L1W 3 rfl tk3 rfl) ?_
     refine dS (BI rfl (b_add ⟨by omega, by omega⟩)) ?_
     have hk78 : (List.map oC (fillB (b65 :: bb) (ln.Beams.n + 1)))[(b + 1)]? = some (oC (some ga)) := oC_at (fillB_at (i := 1) (by simpa using hga) (by simp; omega))
     refine dS (IA (b + 1) rfl (has_own_n (n := (ln.Beams.n + 1)) 8 rfl (by first | (simp; done) | (simp; omega))) te140 (by decide) (by omega) (by omega)) ?_
     refine dS (LE1 (b + 1) 0 (Value.map (some ga)) rfl tk144 (has_own_n (n := (fillB (b65 :: bb) (ln.Beams.n + 1)).length) 8 rfl (by simp)) hk78 rfl (by decide) rfl) ?_
     refine d_end ?_
     refine gr_mrange 0 rfl rfl ut144 rfl rfl fun r79 => ?_
     try dsimp only
     refine RK hK76 ?_
     refine w_block ?_
     have hinit : (∀ p ∈ mb, p ∈ mb) ∧ (HiOn (watchOf ln ri e tms) b ([((TallyV.mk 0 0), ri.Now)])) ∧ (HiLeft (watchOf ln ri e tms) b mb ([((TallyV.mk 0 0), ri.Now)]) mb) := by exact ⟨fun p hp => hp, HiOn.start (by show b < e.length; omega), HiLeft.start⟩
     refine w_loopD (ι := { z : FM × FM × (List Nat) // (∀ p ∈ z.1, p ∈ mb) ∧ (HiOn (watchOf ln ri e tms) b z.2.1) ∧ (HiLeft (watchOf ln ri e tms) b mb z.2.1 z.1) }) (fun z => z.1.2.2.map mark) (fun z => [(0, (Value.pointer (some ⟨gw, 0, none⟩))), (1, (Value.pointer (some ⟨b2, 0, none⟩))), (2, (Value.int .i64 ((ln.Beams.n : Nat) : Int))), (12, (Value.pointer (some ⟨gq, 0, none⟩))), (171, (Value.pointer (some ⟨r79, 0, none⟩)))]) (fun z => [(gmi tallyU r79 ga (gmapV iV mb) (gmapV iV z.1.1) none), (bund (nestO fmR bs bb 0)), (gmp tallyU b65 (gmapV iV z.1.2.1)), (blk gq 3 [(Value.int .i64 ((b : Nat) : Int))]), (bund (z.1.2.2.map defd)), (bund (nest fmR fs fb)), (blk gw 142 (WatchV.cells (WatchV.mk ln ri (Slc.mk e_A e.length e_C) (Slc.mk t_A tms.length t_C) (Slc.mk fA (ln.Beams.n + 1) (ln.Beams.n + 1)) (Slc.mk bA (ln.Beams.n + 1) (ln.Beams.n + 1))))).ro, (own fA (ln.Beams.n + 1) 144 1 (List.map oC (fillF fb (ln.Beams.n + 1)))), (own bA (ln.Beams.n + 1) 144 1 (List.map oC (fillB (b65 :: bb) (ln.Beams.n + 1)))), (blk b2 107 [(Value.pointer (some ⟨gw, 0, none⟩))]), (rd e_A e.length 1 (e.map iC)).ro, (rd t_A tms.length 1 (List.zipWith mapC tms tb)).ro, (bun (nest tmR tms tb)).ro]) (fun z => z.1.1.length) ⟨(mb, [((TallyV.mk 0 0), ri.Now)], rs20), hinit⟩ rfl (Sub.cons rfl <| Sub.cons rfl <| Sub.cons rfl <| Sub.cons rfl <| Sub.cons rfl <| Sub.nil _) (fun w hs => St.sel [0, 1, 2, 3, 4, 5, 6, 7, 8, 9, 10, 11, 12] rfl rfl hs) ?_
     clear hinit
     rintro ⟨⟨left, m, rs25⟩, ⟨hl25_0, hl25_1, hl25_2⟩⟩ J80 hJ80
     try dsimp only at hl25_0 hl25_1 hl25_2
     try dsimp only
     refine WS fun _ hK81 => ?_
     refine gr_mnext_v gk146.inj (f := iV) 0 rfl rfl rfl rfl (fun h172 => ?_) (fun t v hm hnd => ?_)
     · refine rS (EX rfl) ?_
       refine RK hK81 ?_
       refine w_seq fun _ hK82 => ?_
       refine w_if_false rfl ?_
       refine w_exit ?_
       refine k_exit_then ?_
       refine k_exit_then ?_
       refine k_exit_same ?_
       refine k_block ?_
       refine KK hK60 ?_
       refine w_seq fun _ hK83 => ?_
       refine WS fun _ hK84 => ?_
       refine rS (L1W 3 rfl tk3 rfl) ?_
       refine RK hK84 ?_
       refine w_region ?_
       refine AL rfl tz3 fun b85 => ?_
       refine SO0 rfl ts3 rfl rfl ?_
       refine RK hK83 ?_
       refine w_region ?_
       refine rS (L1W 0 rfl tk3 rfl) ?_
       refine rS (BI rfl (b_sub ⟨by omega, by omega⟩)) ?_
       refine SO0 rfl ts3 rfl rfl ?_
       refine r_nil ?_
       refine k_imp (C' := [(blk b85 3 [(Value.int .i64 (((b : Nat) : Int) - 1))]), (gmp tallyU ga (gmapV iV mb)), (bund (nestO fmR bs bb 0)), (gmp tallyU b65 (gmapV iV m)), (blk gq 3 [(Value.int .i64 ((b : Nat) : Int))]), (bund (rs25.map defd)), (bund (nest fmR fs fb)), (blk gw 142 (WatchV.cells (WatchV.mk ln ri (Slc.mk e_A e.length e_C) (Slc.mk t_A tms.length t_C) (Slc.mk fA (ln.Beams.n + 1) (ln.Beams.n + 1)) (Slc.mk bA (ln.Beams.n + 1) (ln.Beams.n + 1))))).ro, (own fA (ln.Beams.n + 1) 144 1 (List.map oC (fillF fb (ln.Beams.n + 1)))), (own bA (ln.Beams.n + 1) 144 1 (List.map oC (fillB (b65 :: bb) (ln.Beams.n + 1)))), (blk b2 107 [(Value.pointer (some ⟨gw, 0, none⟩))]), (rd e_A e.length 1 (e.map iC)).ro, (rd t_A tms.length 1 (List.zipWith mapC tms tb)).ro, (bun (nest tmR tms tb)).ro]) 1 rfl gmi_mp rfl ?_
       refine k_nest 2 1 hmb hga rfl rfl rfl ?_
       try dsimp only
       rw [show ((b : Nat) : Int) - 1 = ((ln.Beams.n : Nat) : Int) - (((j + 1) : Nat) : Int) from by omega]
       refine tie_front (ms := bs) (m := m) (a := b65) 0 2 rfl rfl rfl ?_
       try dsimp only
       refine k_then (hJ57 ⟨((j + 1), (m :: bs), (b65 :: bb), b85, rs25), ⟨by omega, by simp; omega, by simp; omega, by first | exact BackTo.end_ (b := b) hl20_3 (by omega) (by omega) (by show e.length ≤ b; omega) | exact BackTo.more (b := b) hl20_3 (by omega) (by omega) (by show b < e.length; omega) hmb hl25_1 hl25_2 h172⟩⟩ _ _ _ rfl (by first | omega | (simp; omega)) (Sub.cons rfl <| Sub.cons rfl <| Sub.cons rfl <| Sub.cons rfl <| Sub.nil _) (fun w hs => St.sel [0, 1, 3, 4, 5, 6, 7, 8, 9, 10, 11] rfl rfl hs))
     try dsimp only
     refine rS (EX rfl) ?_
     refine RK hK81 ?_
     refine w_seq fun _ hK86 => ?_
     refine w_if_true rfl ?_
     refine WK hK86 ?_
     refine w_block ?_
     refine WS fun _ hK87 => ?_
     refine rS (SX (gsd_mentry 0 rfl rfl rfl) rfl rfl) ?_
     refine rS (EX rfl) ?_
     refine rS (EX rfl) ?_
     refine AL rfl tz146 fun b88 => ?_
     refine AL rfl tz3 fun b89 => ?_
     refine SW1 rfl ts146 rfl ?_
     refine SO0 rfl ts3 rfl rfl ?_
     refine RK hK87 ?_
     refine WS fun _ hK90 => ?_
     refine rS (L1W 11 rfl tk107 rfl) ?_
     refine rS (L1W 5 rfl tk3 rfl) ?_
     refine cX (options_c gw b) (ha_nil) rfl fun y91 hy92 => ?_
     obtain ⟨x193, x294⟩ := y91
     try dsimp only
     refine RK hK90 ?_
     refine w_block ?_
     refine w_dup 14 rfl (by exact fun _ h => h) ?_
     refine w_dup 16 rfl (by exact fun _ h => h) ?_
     refine w_dup 18 rfl (by exact fun _ h => h) ?_
     refine w_dup 13 rfl (by exact fun _ h => h) ?_
     refine w_rangeG (L0 := [(0, (Value.pointer (some ⟨gw, 0, none⟩))), (1, (Value.pointer (some ⟨b2, 0, none⟩))), (2, (Value.int .i64 ((ln.Beams.n : Nat) : Int))), (12, (Value.pointer (some ⟨gq, 0, none⟩))), (13, (Value.pointer (some ⟨b88, 0, none⟩))), (14, (Value.pointer (some ⟨b89, 0, none⟩))), (171, (Value.pointer (some ⟨r79, 0, none⟩)))]) (F := [(rd e_A e.length 1 (e.map iC)).ro, (rd t_A tms.length 1 (List.zipWith mapC tms tb)).ro, (bun (nest tmR tms tb)).ro, (blk gw 142 (WatchV.cells (WatchV.mk ln ri (Slc.mk e_A e.length e_C) (Slc.mk t_A tms.length t_C) (Slc.mk fA (ln.Beams.n + 1) (ln.Beams.n + 1)) (Slc.mk bA (ln.Beams.n + 1) (ln.Beams.n + 1))))).ro, (blk x193 107 [(Value.pointer (some ⟨gw, 0, none⟩))]), (blk x294 3 [(Value.int .i64 ((b : Nat) : Int))])])  (fun k (y : FM) => (HiInv (watchOf ln ri e tms) b mb left y (t, v) k)) (fun k y => [(blk b89 3 [(Value.int .i64 v)]), (blk b88 146 (TallyV.cells t)), (gmi tallyU r79 ga (gmapV iV mb) (gmapV iV (gdelK left t)) (some (t, (Value.int .i64 v)))), (bund (nestO fmR bs bb 0)), (gmp tallyU b65 (gmapV iV y)), (blk gq 3 [(Value.int .i64 ((b : Nat) : Int))]), (bund (rs25.map defd)), (bund (nest fmR fs fb)), (blk gw 142 (WatchV.cells (WatchV.mk ln ri (Slc.mk e_A e.length e_C) (Slc.mk t_A tms.length t_C) (Slc.mk fA (ln.Beams.n + 1) (ln.Beams.n + 1)) (Slc.mk bA (ln.Beams.n + 1) (ln.Beams.n + 1))))).ro, (own fA (ln.Beams.n + 1) 144 1 (List.map oC (fillF fb (ln.Beams.n + 1)))), (own bA (ln.Beams.n + 1) 144 1 (List.map oC (fillB (b65 :: bb) (ln.Beams.n + 1)))), (blk b2 107 [(Value.pointer (some ⟨gw, 0, none⟩))]), (rd e_A e.length 1 (e.map iC)).ro, (rd t_A tms.length 1 (List.zipWith mapC tms tb)).ro, (bun (nest tmR tms tb)).ro]) (fun _ (_ : Unit) => False) (fun _ _ => []) [6, 7, 8, 9, 10, 11, 12, 13, 14, 15, 16, 17, 18, 19, 20] [3, 2, 1, 0, 4, 5] m rfl rfl (options1_c ln ri e tms e_A e_C tb t_A t_C fA (ln.Beams.n + 1) (ln.Beams.n + 1) bA (ln.Beams.n + 1) (ln.Beams.n + 1) gw b x193 x294 (by omega) (by omega)) rfl rfl rfl (by exact HiInv.start hl25_1 hl25_2) (by simp only [List.forall_mem_cons, List.not_mem_nil, false_imp_iff, implies_true, and_true]; exact ⟨⟨_, List.mem_of_getElem? (i := 0) rfl, (cov_ro (cov_refl _))⟩, ⟨_, List.mem_of_getElem? (i := 1) rfl, (cov_ro (cov_refl _))⟩, ⟨_, List.mem_of_getElem? (i := 2) rfl, (cov_ro (cov_refl _))⟩, ⟨_, List.mem_of_getElem? (i := 3) rfl, (cov_ro (cov_refl _))⟩, ⟨_, List.mem_of_getElem? (i := 4) rfl, (cov_refl _)⟩, ⟨_, List.mem_of_getElem? (i := 5) rfl, (cov_refl _)⟩⟩) (by rintro k x k2 ⟨o, _, rfl, _⟩; rfl) rfl (Sub.cons rfl <| Sub.cons rfl <| Sub.cons rfl <| Sub.cons rfl <| Sub.cons rfl <| Sub.cons rfl <| Sub.cons rfl <| Sub.nil _) ?_ ?_ (fun _ _ _ h => h.elim) (fun _ _ h => h.elim)
     rotate_left 1
     · rintro r109 k m2 hfin hin110
       have hr0 := hin110
       try dsimp only
       refine k_block ?_
       refine k_block ?_
       refine k_tief (X := rs25.map defd) 13 0 rfl rfl ?_
       try dsimp only
       refine k_imp (C' := [(bund ((r109 :: rs25).map defd)), (rd e_A e.length 1 (e.map iC)).ro, (rd t_A tms.length 1 (List.zipWith mapC tms tb)).ro, (bun (nest tmR tms tb)).ro, (blk gw 142 (WatchV.cells (WatchV.mk ln ri (Slc.mk e_A e.length e_C) (Slc.mk t_A tms.length t_C) (Slc.mk fA (ln.Beams.n + 1) (ln.Beams.n + 1)) (Slc.mk bA (ln.Beams.n + 1) (ln.Beams.n + 1))))).ro, (blk x193 107 [(Value.pointer (some ⟨gw, 0, none⟩))]), (blk x294 3 [(Value.int .i64 ((b : Nat) : Int))]), (blk b89 3 [(Value.int .i64 v)]), (blk b88 146 (TallyV.cells t)), (gmi tallyU r79 ga (gmapV iV mb) (gmapV iV (gdelK left t)) none), (bund (nestO fmR bs bb 0)), (gmp tallyU b65 (gmapV iV m2)), (blk gq 3 [(Value.int .i64 ((b : Nat) : Int))]), (bund (nest fmR fs fb)), (blk gw 142 (WatchV.cells (WatchV.mk ln ri (Slc.mk e_A e.length e_C) (Slc.mk t_A tms.length t_C) (Slc.mk fA (ln.Beams.n + 1) (ln.Beams.n + 1)) (Slc.mk bA (ln.Beams.n + 1) (ln.Beams.n + 1))))).ro, (own fA (ln.Beams.n + 1) 144 1 (List.map oC (fillF fb (ln.Beams.n + 1)))), (own bA (ln.Beams.n + 1) 144 1 (List.map oC (fillB (b65 :: bb) (ln.Beams.n + 1)))), (blk b2 107 [(Value.pointer (some ⟨gw, 0, none⟩))]), (rd e_A e.length 1 (e.map iC)).ro, (rd t_A tms.length 1 (List.zipWith mapC tms tb)).ro, (bun (nest tmR tms tb)).ro]) 9 rfl gmi_none rfl ?_
       refine k_then (hJ80 ⟨((gdelK left t), m2, (r109 :: rs25)), ⟨left_sub hl25_0, hr0.on, hr0.next hnd hm hfin⟩⟩ _ _ _ rfl (gdelK_lt hm) (Sub.cons rfl <| Sub.cons rfl <| Sub.cons rfl <| Sub.cons rfl <| Sub.cons rfl <| Sub.nil _) (fun w hs => St.sel [9, 10, 11, 12, 0, 13, 4, 15, 16, 17, 1, 2, 3] rfl rfl hs))
     rintro k x k2 m2 l ra rb S w1 K95 Qr96 hsz hx hin97 hK95 hQr96 xQr96 yQr96
     obtain ⟨o, ho, rfl, rfl⟩ := hx
     have hr0 := hin97
     try dsimp only
     refine WS fun _ hK98 => ?_
     refine rS (AG rfl) ?_
     refine RK hK98 ?_
     refine w_region ?_
     refine AL rfl tz34 fun b99 => ?_
     refine SW0 rfl ts34 rfl ?_
     refine r_nil ?_
     refine k_sub (fun _ _ h => h) (fun w hs => St.sel [1, 0, 2, 3, 4, 5, 6, 7, 8, 9, 10, 11, 12, 13, 14, 15, 16] rfl rfl hs) ?_
     refine k_then (hK95 _ _ ?_)
     refine w_block ?_
     refine w_seq fun _ hK100 => ?_
     refine w_draw4 mixed [0, 1, 2, 3, 4, 5, 6, 7, 8, 9, 10, 11, 12, 13, 14, 15, 17] [16, 18] [false, false, false, false, false, false, false, false, false, false, false, false, false, false, false, false, false] [false, false] [(obj l (.loop rb)), (blk b99 34 (SpanV.cells o.2)), (blk b89 3 [(Value.int .i64 v)]), (blk b88 146 (TallyV.cells t)), (gmi tallyU r79 ga (gmapV iV mb) (gmapV iV (gdelK left t)) (some (t, (Value.int .i64 v)))), (bund (nestO fmR bs bb 0)), (gmp tallyU b65 (gmapV iV m2)), (blk gq 3 [(Value.int .i64 ((b : Nat) : Int))]), (bund (rs25.map defd)), (bund (nest fmR fs fb)), (blk gw 142 (WatchV.cells (WatchV.mk ln ri (Slc.mk e_A e.length e_C) (Slc.mk t_A tms.length t_C) (Slc.mk fA (ln.Beams.n + 1) (ln.Beams.n + 1)) (Slc.mk bA (ln.Beams.n + 1) (ln.Beams.n + 1))))).ro, (own fA (ln.Beams.n + 1) 144 1 (List.map oC (fillF fb (ln.Beams.n + 1)))), (own bA (ln.Beams.n + 1) 144 1 (List.map oC (fillB (b65 :: bb) (ln.Beams.n + 1)))), (blk b2 107 [(Value.pointer (some ⟨gw, 0, none⟩))]), (rd e_A e.length 1 (e.map iC)).ro, (rd t_A tms.length 1 (List.zipWith mapC tms tb)).ro, (bun (nest tmR tms tb)).ro] [] (by kernel_rfl) (fun w hs => St.sel [0, 1, 2, 3, 4, 5, 6, 7, 8, 9, 10, 11, 12, 13, 14, 15, 16] rfl rfl hs) (fun w hs => St.sel [] rfl rfl hs) ?_
     refine eS rfl (L1W 2 rfl tk3 rfl) ?_
     refine eS rfl (FA 1 rfl fo34_1 rfl) ?_
     refine eS rfl (L1 (Value.int .i64 o.2.Hi) 1 rfl tk3 rfl rfl) ?_
     have hp := hl20_3.mem0 (b := b) (by omega) hmb (hl25_0 _ hm)
     have hbp := back_b hw hp
     have ho1 := oneT_b o.1
     have hob := hw.opt ho
     dsimp only at hbp
     refine eS rfl (MN rfl) ?_
     refine eS rfl (L1W 13 rfl tk107 rfl) ?_
     refine eS rfl (SX (sd_nil_p rfl rfl) rfl rfl) ?_
     refine eS rfl (FA 10 rfl fo142_2 rfl) ?_
     refine eS rfl (L1R (Value.slice e_A e.length e_C) 10 rfl tk57 rfl rfl) ?_
     refine eS rfl (L1W 7 rfl tk3 rfl) ?_
     obtain ⟨y, hy⟩ : ∃ y_, e[b]? = some y_ := ⟨e[b]'(by omega), List.getElem?_eq_getElem _⟩
     have hym : (e.map iC)[b]? = some (iC y) := by rw [List.getElem?_map, hy]; rfl
     refine eS rfl (IA b rfl (has_at 14 rfl) te57 (by decide) (by omega) (by omega)) ?_
     refine eS rfl (LE1 b 0 (Value.int .i64 y) rfl tk3 (has_at 14 rfl) hym rfl (by decide) rfl) ?_
     have hlb := hw.least y (List.mem_of_getElem? hy)
     refine eS rfl (BI rfl (b_sub ⟨by omega, by omega⟩)) ?_
     refine eS rfl (LW 3 rfl tk146 rfl rfl) ?_
     refine eS rfl (MV rfl) ?_
     refine eS rfl (CL (one_c o.1) (ha_nil) rfl) ?_
     refine eS rfl (CL (tplus_c t (oneT o.1) (by first | assumption | omega | (simp; done) | (simp; omega)) (by first | assumption | omega | (simp; done) | (simp; omega))) (ha_nil) rfl) ?_
     refine eS rfl (AG rfl) ?_
     refine d_fin rfl ?_
     refine t_cons rfl fun T101 hT101 => ?_
     refine AL rfl tz146 fun b102 => ?_
     refine r_nil (hT101 _ _ (fun w hs => St.sel [1, 2, 3, 4, 5, 6, 7, 8, 9, 10, 11, 12, 13, 14, 15, 16, 17] rfl rfl hs) ?_)
     refine t_cons rfl fun T103 hT103 => ?_
     refine SW0 rfl ts146 rfl ?_
     refine r_nil (hT103 _ _ (fun w hs => St.sel [1, 2, 3, 4, 5, 6, 7, 8, 9, 10, 11, 12, 13, 14, 15, 16, 17] rfl rfl hs) ?_)
     refine t_fin rfl ?_
     refine KK hK100 ?_
     refine w_seq fun _ hK104 => ?_
     refine w_draw mixed 14 (by kernel_rfl) ?_
     refine dS (L1W 14 rfl tk107 rfl) ?_
     refine dS (SX (sd_nil_p rfl rfl) rfl rfl) ?_
     refine dS (FA 13 rfl fo142_5 rfl) ?_
     refine dS (L1R (Value.slice bA (ln.Beams.n + 1) (ln.Beams.n + 1)) 11 rfl tk140 rfl rfl) ?_
     refine dS (L1W 8 rfl tk3 rfl) ?_
     have hk105 : (List.map oC (fillB (b65 :: bb) (ln.Beams.n + 1)))[b]? = some (oC (some b65)) := oC_at (fillB_at (i := 0) rfl (by simp; omega))
     refine dS (IA b rfl (has_own_n (n := (ln.Beams.n + 1)) 13 rfl (by first | (simp; done) | (simp; omega))) te140 (by decide) (by omega) (by omega)) ?_
     refine dS (LE1 b 0 (Value.map (some b65)) rfl tk144 (has_own_n (n := (fillB (b65 :: bb) (ln.Beams.n + 1)).length) 13 rfl (by simp)) hk105 rfl (by decide) rfl) ?_
     refine dS (LW 0 rfl tk146 rfl rfl) ?_
     refine dS (SX (gsd_look_v (kV := tallyU) (x := (addT t (oneT o.1))) (l := m2) (f := iV) (z := 0) rfl rfl rfl ut144 gk146 tv3 (by exact has_at 7 rfl)) rfl rfl) ?_
     refine dS (MV rfl) ?_
     refine dS (EX rfl) ?_
     refine dS (EX rfl) ?_
     refine dS (AG rfl) ?_
     refine dS (AG rfl) ?_
     refine d_end ?_
     refine RK hK104 ?_
     refine WS fun _ hK106 => ?_
     refine rS (L1W 3 rfl tk3 rfl) ?_
     refine rS (FA 1 rfl fo34_1 rfl) ?_
     refine rS (L1 (Value.int .i64 o.2.Hi) 2 rfl tk3 rfl rfl) ?_
     refine rS (MN rfl) ?_
     refine rS (FA 0 rfl fo34_0 rfl) ?_
     refine rS (L1 (Value.int .i64 o.2.Lo) 2 rfl tk3 rfl rfl) ?_
     refine rS (BI rfl b_geq) ?_
     refine rS (MV rfl) ?_
     refine r_bool (t := 217) rfl (fun h217 => ?_) (fun h217 => ?_)
     rotate_left 1
     · replace h217 := DF h217
       refine rS (OX rfl) ?_
       refine rS (OX rfl) ?_
       refine rS (OX rfl) ?_
       refine rS (OX rfl) ?_
       refine rS (OX rfl) ?_
       refine rS (OX rfl) ?_
       refine rS (OX rfl) ?_
       refine rS (PK rfl) ?_
       refine RK hK106 ?_
       refine w_if_false rfl ?_
       refine w_skip ?_
       refine k_block ?_
       exact hQr96 m2 _ _ (by first | exact hr0.skip (bwdO_no h217) | exact hr0.keep (bwdO_at hy h217) (by simpa using h220) h225 | exact hr0.set (by show b < e.length; omega) hp ho (bwdO_at hy h217) (.inl (by simpa using h220)) | exact hr0.set (by show b < e.length; omega) hp ho (bwdO_at hy h217) (.inr h225)) (fun w hs => St.sel [1, 3, 4, 5, 6, 7, 8, 9, 10, 11, 12, 13, 14, 15, 16, 17] rfl rfl hs)
     replace h217 := DT h217
     refine rS (MV rfl) ?_
     refine rS (NT rfl) ?_
     refine rS (MV rfl) ?_
     refine r_bool (t := 220) rfl (fun h220 => ?_) (fun h220 => ?_)
     · rw [Bool.not_eq_true'] at h220
       refine rS (OX rfl) ?_
       refine rS (OX rfl) ?_
       refine rS (OX rfl) ?_
       refine rS (PK rfl) ?_
       refine rS (PK rfl) ?_
       refine RK hK106 ?_
       refine w_if_true rfl ?_
       refine w_draw mixed 9 (by kernel_rfl) ?_
       refine dS (L1W 14 rfl tk107 rfl) ?_
       refine dS (SX (sd_nil_p rfl rfl) rfl rfl) ?_
       refine dS (FA 13 rfl fo142_5 rfl) ?_
       refine dS (L1R (Value.slice bA (ln.Beams.n + 1) (ln.Beams.n + 1)) 11 rfl tk140 rfl rfl) ?_
       refine dS (L1W 8 rfl tk3 rfl) ?_
       have hk107 : (List.map oC (fillB (b65 :: bb) (ln.Beams.n + 1)))[b]? = some (oC (some b65)) := oC_at (fillB_at (i := 0) rfl (by simp; omega))
       refine dS (IA b rfl (has_own_n (n := (ln.Beams.n + 1)) 13 rfl (by first | (simp; done) | (simp; omega))) te140 (by decide) (by omega) (by omega)) ?_
       refine dS (LE1 b 0 (Value.map (some b65)) rfl tk144 (has_own_n (n := (fillB (b65 :: bb) (ln.Beams.n + 1)).length) 13 rfl (by simp)) hk107 rfl (by decide) rfl) ?_
       refine dS (LW 0 rfl tk146 rfl rfl) ?_
       refine dS (MV rfl) ?_
       refine d_end ?_
       refine gr_mapset (kV := tallyU) (x := (addT t (oneT o.1))) (C' := [_, _, _, _, _, _, _, (gmp tallyU b65 (gmapV iV (gsetK m2 (addT t (oneT o.1)) ((min v o.2.Hi) - y)))), _, _, _, _, _, _, _, _, _, _]) 7 rfl rfl rfl rfl ut144 gk146 rfl (gmapV_setK _ _ _ _).symm rfl ?_
       refine r_nil ?_
       refine k_block ?_
       exact hQr96 (gsetK m2 (addT t (oneT o.1)) ((min v o.2.Hi) - y)) _ _ (by first | exact hr0.skip (bwdO_no h217) | exact hr0.keep (bwdO_at hy h217) (by simpa using h220) h225 | exact hr0.set (by show b < e.length; omega) hp ho (bwdO_at hy h217) (.inl (by simpa using h220)) | exact hr0.set (by show b < e.length; omega) hp ho (bwdO_at hy h217) (.inr h225)) (fun w hs => St.sel [1, 3, 4, 5, 6, 7, 8, 9, 10, 11, 12, 13, 14, 15, 16, 17] rfl rfl hs)
     rw [Bool.not_eq_false'] at h220
     refine rS (MV rfl) ?_
     refine rS (MV rfl) ?_
     refine rS (BI rfl b_gtr) ?_
     refine rS (PK rfl) ?_
     refine rS (PK rfl) ?_
     refine RK hK106 ?_
     refine w_if rfl (fun h225 => ?_) (fun h225 => ?_)
     rotate_left 1
     · replace h225 := DF h225
       refine w_skip ?_
       refine k_block ?_
       exact hQr96 m2 _ _ (by first | exact hr0.skip (bwdO_no h217) | exact hr0.keep (bwdO_at hy h217) (by simpa using h220) h225 | exact hr0.set (by show b < e.length; omega) hp ho (bwdO_at hy h217) (.inl (by simpa using h220)) | exact hr0.set (by show b < e.length; omega) hp ho (bwdO_at hy h217) (.inr h225)) (fun w hs => St.sel [1, 3, 4, 5, 6, 7, 8, 9, 10, 11, 12, 13, 14, 15, 16, 17] rfl rfl hs)
     replace h225 := DT h225
     refine w_draw mixed 9 (by kernel_rfl) ?_
     refine dS (L1W 14 rfl tk107 rfl) ?_
     refine dS (SX (sd_nil_p rfl rfl) rfl rfl) ?_
     refine dS (FA 13 rfl fo142_5 rfl) ?_
     refine dS (L1R (Value.slice bA (ln.Beams.n + 1) (ln.Beams.n + 1)) 11 rfl tk140 rfl rfl) ?_
     refine dS (L1W 8 rfl tk3 rfl) ?_
     have hk108 : (List.map oC (fillB (b65 :: bb) (ln.Beams.n + 1)))[b]? = some (oC (some b65)) := oC_at (fillB_at (i := 0) rfl (by simp; omega))
     refine dS (IA b rfl (has_own_n (n := (ln.Beams.n + 1)) 13 rfl (by first | (simp; done) | (simp; omega))) te140 (by decide) (by omega) (by omega)) ?_
     refine dS (LE1 b 0 (Value.map (some b65)) rfl tk144 (has_own_n (n := (fillB (b65 :: bb) (ln.Beams.n + 1)).length) 13 rfl (by simp)) hk108 rfl (by decide) rfl) ?_
     refine dS (LW 0 rfl tk146 rfl rfl) ?_
     refine dS (MV rfl) ?_
     refine d_end ?_
     refine gr_mapset (kV := tallyU) (x := (addT t (oneT o.1))) (C' := [_, _, _, _, _, _, _, (gmp tallyU b65 (gmapV iV (gsetK m2 (addT t (oneT o.1)) ((min v o.2.Hi) - y)))), _, _, _, _, _, _, _, _, _, _]) 7 rfl rfl rfl rfl ut144 gk146 rfl (gmapV_setK _ _ _ _).symm rfl ?_
     refine r_nil ?_
     refine k_block ?_
     exact hQr96 (gsetK m2 (addT t (oneT o.1)) ((min v o.2.Hi) - y)) _ _ (by first | exact hr0.skip (bwdO_no h217) | exact hr0.keep (bwdO_at hy h217) (by simpa using h220) h225 | exact hr0.set (by show b < e.length; omega) hp ho (bwdO_at hy h217) (.inl (by simpa using h220)) | exact hr0.set (by show b < e.length; omega) hp ho (bwdO_at hy h217) (.inr h225)) (fun w hs => St.sel [1, 3, 4, 5, 6, 7, 8, 9, 10, 11, 12, 13, 14, 15, 16, 17] rfl rfl hs)
   refine w_draw4 mixed [0, 1, 2, 3, 5, 6, 7, 8, 9, 10, 13] [4, 11, 12, 14] [false, false, false, false, false, false, false, false, false, false, true] [true, true, true, false] [(blk gw 142 (WatchV.cells (WatchV.mk ln ri (Slc.mk e_A e.length e_C) (Slc.mk t_A tms.length t_C) (Slc.mk fA (ln.Beams.n + 1) (ln.Beams.n + 1)) (Slc.mk bA (ln.Beams.n + 1) (ln.Beams.n + 1))))).ro, (own bA (ln.Beams.n + 1) 144 1 (List.map oC (List.replicate (ln.Beams.n + 1) (none : Option Nat)))), (blk b2 107 [(Value.pointer (some ⟨gw, 0, none⟩))]), (rd e_A e.length 1 (e.map iC)).ro, (rd t_A tms.length 1 (List.zipWith mapC tms tb)).ro, (bun (nest tmR tms tb)).ro] [(blk gw 142 (WatchV.cells (WatchV.mk ln ri (Slc.mk e_A e.length e_C) (Slc.mk t_A tms.length t_C) (Slc.mk fA (ln.Beams.n + 1) (ln.Beams.n + 1)) (Slc.mk bA (ln.Beams.n + 1) (ln.Beams.n + 1))))).ro, (own fA (ln.Beams.n + 1) 144 1 (List.map oC (List.replicate (ln.Beams.n + 1) (none : Option Nat)))), (own bA (ln.Beams.n + 1) 144 1 (List.map oC (List.replicate (ln.Beams.n + 1) (none : Option Nat)))), (blk b2 107 [(Value.pointer (some ⟨gw, 0, none⟩))]), (rd e_A e.length 1 (e.map iC)).ro, (rd t_A tms.length 1 (List.zipWith mapC tms tb)).ro, (bun (nest tmR tms tb)).ro] (by kernel_rfl) (fun w hs => St.sel [0, 2, 3, 4, 5, 6] rfl rfl hs) (fun w hs => St.sel [0, 1, 2, 3, 4, 5, 6] rfl rfl hs) ?_
   refine eS rfl (L1W 2 rfl tk107 rfl) ?_
   refine eS rfl (SX (sd_nil_p rfl rfl) rfl rfl) ?_
   refine eS rfl (FA 12 rfl fo142_4 rfl) ?_
   refine eS rfl (L1R (Value.slice fA (ln.Beams.n + 1) (ln.Beams.n + 1)) 0 rfl tk140 rfl rfl) ?_
   refine eS rfl (SX (sd_build (xs := []) (cs := (TallyV.cells (TallyV.mk 0 0))) rfl rfl (built_of tb146 rfl)) rfl rfl) ?_
   refine eS rfl (L1W 2 rfl tk107 rfl) ?_
   refine eS rfl (SX (sd_nil_p rfl rfl) rfl rfl) ?_
   refine eS rfl (FA 7 rfl fo142_1 rfl) ?_
   refine eS rfl (FA 7 rfl fo69_0 rfl) ?_
   refine eS rfl (L1R (Value.int .i64 ri.Start) 0 rfl tk3 rfl rfl) ?_
   obtain ⟨x111, hx112⟩ : ∃ y_, (List.replicate (ln.Beams.n + 1) (none : Option Nat))[0]? = some y_ := ⟨(List.replicate (ln.Beams.n + 1) (none : Option Nat))[0]'(by omega), List.getElem?_eq_getElem _⟩
   have hx112m : (List.map oC (List.replicate (ln.Beams.n + 1) (none : Option Nat)))[0]? = some (oC x111) := by rw [List.getElem?_map, hx112]; rfl
   refine fS rfl (IA 0 rfl (has_own_n (n := (ln.Beams.n + 1)) 1 rfl (by first | (simp; done) | (simp; omega))) te140 (by decide) rfl (by omega)) ?_
   refine d_fin rfl ?_
   refine t5_cons rfl fun T113 hT113 => ?_
   refine gr_mkmap (kV := tallyU) rfl rfl fun b114 => ?_
   try dsimp only
   refine r_nil (hT113 _ _ (fun w hs => St.sel [1, 3, 4, 5, 6, 7] rfl rfl hs) (fun w hs => St.sel [1, 2, 3, 4, 5, 6, 7] rfl rfl hs) ?_)
   refine t5_cons rfl fun T115 hT115 => ?_
   have hb116 : (gsetK ([] : List (TallyV × Int)) (TallyV.mk 0 0) ri.Start) = [((TallyV.mk 0 0), ri.Start)] := by rfl
   refine gr_mapins (kV := tallyU) (x := (TallyV.mk 0 0)) (C' := [(gmp tallyU b114 (gmapV iV ([((TallyV.mk 0 0), ri.Start)]))), _, _, _, _, _, _, _]) 0 rfl rfl rfl rfl ut144 gk146 rfl ((gmapV_setK _ _ _ _).symm.trans (congrArg _ hb116)) rfl ?_
   refine r_nil (hT115 _ _ (fun w hs => St.sel [1, 3, 4, 5, 6, 7] rfl rfl hs) (fun w hs => St.sel [1, 2, 3, 4, 5, 6, 7] rfl rfl hs) ?_)
   refine t5_cons rfl fun T117 hT117 => ?_
   refine rS (MV rfl) ?_
   refine r_nil (hT117 _ _ (fun w hs => St.sel [1, 3, 4, 5, 6, 7] rfl rfl hs) (fun w hs => St.sel [1, 2, 3, 4, 5, 6, 7] rfl rfl hs) ?_)
   refine t_cons rfl fun T118 hT118 => ?_
   have hb119 : ((List.replicate (ln.Beams.n + 1) (none : Option Nat)).set 0 (some b114)) = (fillF [b114] (ln.Beams.n + 1)) := by rw [fillF_nil]; exact fillF_set rfl (by simp)
   refine r_store_own (k := 0) (o := 0) (vs := [(Value.map (some b114))]) (es' := (List.map oC (fillF [b114] (ln.Beams.n + 1)))) (C' := [_, _, (own fA (ln.Beams.n + 1) 144 1 (List.map oC (fillF [b114] (ln.Beams.n + 1)))), _, _, _, _, _]) 2 rfl rfl rfl ts144 rfl rfl rfl rfl hx112m rfl (by decide) (by exact (List.map_set (f := oC) (l := (List.replicate (ln.Beams.n + 1) (none : Option Nat))) (i := 0) (a := (some b114))).symm.trans (congrArg _ hb119)) rfl ?_
   refine r_nil (hT118 _ _ (fun w hs => St.sel [1, 3, 4, 5, 6, 7] rfl rfl hs) ?_)
   refine t_fin rfl ?_
   refine k_tie0 ?_
   refine k_tie (X := []) (X' := nest fmR [[((TallyV.mk 0 0), ri.Start)]] [b114]) 0 1 rfl rfl rfl ?_
   try dsimp only
   refine k_then (k_sub (Sub.cons rfl <| Sub.cons rfl <| Sub.cons rfl <| Sub.nil _) (fun w hs => St.sel [0, 1, 2, 3, 4, 5, 6, 7] rfl rfl hs) (hK5 ⟨b114, trivial⟩))
 refine w_drawN mixed [0, 1, 2, 3, 5, 6, 8, 9, 11, 12] [4, 7, 10, 13] [false, false, false, false, false, false, false, false, false, false] [] [(blk b2 107 [(Value.pointer (some ⟨gw, 0, none⟩))]), (rd e_A e.length 1 (e.map iC)).ro, (rd t_A tms.length 1 (List.zipWith mapC tms tb)).ro, (bun (nest tmR tms tb)).ro] [] (by kernel_rfl) (fun w hs => St.sel [0, 2, 3, 4] rfl rfl hs) (fun w hs => St.sel [] rfl rfl hs) ?_
 refine eS rfl (L1W 0 rfl tk107 rfl) ?_
 refine eS rfl (L1W 0 rfl tk107 rfl) ?_
 refine eS rfl (MV rfl) ?_
 refine eS rfl (BI rfl (b_add ⟨by omega, by omega⟩)) ?_
 refine eS rfl (MV rfl) ?_
 refine eS rfl (BI rfl (b_add ⟨by omega, by omega⟩)) ?_
 refine eS rfl (SX (sd_nil_p rfl rfl) rfl rfl) ?_
 refine eS rfl (FA 12 rfl fo142_4 rfl) ?_
 refine eS rfl (SX (sd_nil_p rfl rfl) rfl rfl) ?_
 refine eS rfl (FA 13 rfl fo142_5 rfl) ?_
 refine d_fin rfl ?_
 refine n_step [4, 7] (by kernel_rfl) (n_cons ?_ <| n_cons ?_ <| n_nil)
 rotate_left 1
 · refine n_op (rem' := [4, 10, 13]) rfl (by kernel_rfl) rfl fun T130 hT130 => ?_
   refine r_mks (n := (ln.Beams.n + 1)) (es := (List.map oC (List.replicate (ln.Beams.n + 1) (none : Option Nat)))) rfl rfl rfl ta140 (by omega) (by omega) (by simp only [maxLen]; omega) (by rw [List.map_replicate]; rfl) rfl fun b131 => ?_
   try dsimp only
   refine r_nil (hT130 _ _ (fun w hs => St.sel [1, 3, 4, 5] rfl rfl hs) ?_)
   refine n_step [4] (by kernel_rfl) (n_cons ?_ <| n_nil)
   refine n_op (rem' := [10, 13]) rfl (by kernel_rfl) rfl fun T132 hT132 => ?_
   refine r_mks (n := (ln.Beams.n + 1)) (es := (List.map oC (List.replicate (ln.Beams.n + 1) (none : Option Nat)))) rfl rfl rfl ta140 (by omega) (by omega) (by simp only [maxLen]; omega) (by rw [List.map_replicate]; rfl) rfl fun b133 => ?_
   try dsimp only
   refine r_nil (hT132 _ _ (fun w hs => St.sel [2, 4, 5, 6] rfl rfl hs) ?_)
   refine n_step [10] (by kernel_rfl) (n_cons ?_ <| n_nil)
   refine n_op (rem' := [13]) rfl (by kernel_rfl) rfl fun T134 hT134 => ?_
   refine ST3 (WatchV.cells (WatchV.mk ln ri (Slc.mk e_A e.length e_C) (Slc.mk t_A tms.length t_C) (Slc.mk (some ⟨b133, 0, none⟩) (ln.Beams.n + 1) (ln.Beams.n + 1)) (Slc.mk none 0 0))) rfl ts140 rfl rfl ?_
   refine r_nil (hT134 _ _ (fun w hs => St.sel [2, 4, 5, 6] rfl rfl hs) ?_)
   refine n_step [13] (by kernel_rfl) (n_cons ?_ <| n_nil)
   refine n_op (rem' := []) rfl (by kernel_rfl) rfl fun T135 hT135 => ?_
   refine ST3 (WatchV.cells (WatchV.mk ln ri (Slc.mk e_A e.length e_C) (Slc.mk t_A tms.length t_C) (Slc.mk (some ⟨b133, 0, none⟩) (ln.Beams.n + 1) (ln.Beams.n + 1)) (Slc.mk (some ⟨b131, 0, none⟩) (ln.Beams.n + 1) (ln.Beams.n + 1)))) rfl ts140 rfl rfl ?_
   refine r_nil (hT135 _ _ (fun w hs => St.sel [2, 4, 5, 6] rfl rfl hs) ?_)
   refine n_fin ?_
   refine k_then (k_sub (Sub.cons rfl <| Sub.cons rfl <| Sub.cons rfl <| Sub.nil _) (fun w hs => St.sel [0, 1, 2, 3, 4, 5, 6] rfl rfl hs) (hK4 ⟨((some ⟨b133, 0, none⟩), (some ⟨b131, 0, none⟩)), trivial⟩))
 refine n_op (rem' := [7, 10, 13]) rfl (by kernel_rfl) rfl fun T120 hT120 => ?_
 refine r_mks (n := (ln.Beams.n + 1)) (es := (List.map oC (List.replicate (ln.Beams.n + 1) (none : Option Nat)))) rfl rfl rfl ta140 (by omega) (by omega) (by simp only [maxLen]; omega) (by rw [List.map_replicate]; rfl) rfl fun b121 => ?_
 try dsimp only
 refine r_nil (hT120 _ _ (fun w hs => St.sel [1, 3, 4, 5] rfl rfl hs) ?_)
 refine n_step [7, 10] (by kernel_rfl) (n_cons ?_ <| n_cons ?_ <| n_nil)
 rotate_left 1
 · refine n_op (rem' := [7, 13]) rfl (by kernel_rfl) rfl fun T126 hT126 => ?_
   refine ST2 (WatchV.cells (WatchV.mk ln ri (Slc.mk e_A e.length e_C) (Slc.mk t_A tms.length t_C) (Slc.mk (some ⟨b121, 0, none⟩) (ln.Beams.n + 1) (ln.Beams.n + 1)) (Slc.mk none 0 0))) rfl ts140 rfl rfl ?_
   refine r_nil (hT126 _ _ (fun w hs => St.sel [1, 3, 4, 5] rfl rfl hs) ?_)
   refine n_step [7] (by kernel_rfl) (n_cons ?_ <| n_nil)
   refine n_op (rem' := [13]) rfl (by kernel_rfl) rfl fun T127 hT127 => ?_
   refine r_mks (n := (ln.Beams.n + 1)) (es := (List.map oC (List.replicate (ln.Beams.n + 1) (none : Option Nat)))) rfl rfl rfl ta140 (by omega) (by omega) (by simp only [maxLen]; omega) (by rw [List.map_replicate]; rfl) rfl fun b128 => ?_
   try dsimp only
   refine r_nil (hT127 _ _ (fun w hs => St.sel [2, 4, 5, 6] rfl rfl hs) ?_)
   refine n_step [13] (by kernel_rfl) (n_cons ?_ <| n_nil)
   refine n_op (rem' := []) rfl (by kernel_rfl) rfl fun T129 hT129 => ?_
   refine ST3 (WatchV.cells (WatchV.mk ln ri (Slc.mk e_A e.length e_C) (Slc.mk t_A tms.length t_C) (Slc.mk (some ⟨b121, 0, none⟩) (ln.Beams.n + 1) (ln.Beams.n + 1)) (Slc.mk (some ⟨b128, 0, none⟩) (ln.Beams.n + 1) (ln.Beams.n + 1)))) rfl ts140 rfl rfl ?_
   refine r_nil (hT129 _ _ (fun w hs => St.sel [2, 4, 5, 6] rfl rfl hs) ?_)
   refine n_fin ?_
   refine k_then (k_sub (Sub.cons rfl <| Sub.cons rfl <| Sub.cons rfl <| Sub.nil _) (fun w hs => St.sel [1, 0, 2, 3, 4, 5, 6] rfl rfl hs) (hK4 ⟨((some ⟨b121, 0, none⟩), (some ⟨b128, 0, none⟩)), trivial⟩))
 refine n_op (rem' := [10, 13]) rfl (by kernel_rfl) rfl fun T122 hT122 => ?_
 refine r_mks (n := (ln.Beams.n + 1)) (es := (List.map oC (List.replicate (ln.Beams.n + 1) (none : Option Nat)))) rfl rfl rfl ta140 (by omega) (by omega) (by simp only [maxLen]; omega) (by rw [List.map_replicate]; rfl) rfl fun b123 => ?_
 try dsimp only
 refine r_nil (hT122 _ _ (fun w hs => St.sel [2, 4, 5, 6] rfl rfl hs) ?_)
 refine n_step [10] (by kernel_rfl) (n_cons ?_ <| n_nil)
 refine n_op (rem' := [13]) rfl (by kernel_rfl) rfl fun T124 hT124 => ?_
 refine ST3 (WatchV.cells (WatchV.mk ln ri (Slc.mk e_A e.length e_C) (Slc.mk t_A tms.length t_C) (Slc.mk (some ⟨b121, 0, none⟩) (ln.Beams.n + 1) (ln.Beams.n + 1)) (Slc.mk none 0 0))) rfl ts140 rfl rfl ?_
 refine r_nil (hT124 _ _ (fun w hs => St.sel [2, 4, 5, 6] rfl rfl hs) ?_)
 refine n_step [13] (by kernel_rfl) (n_cons ?_ <| n_nil)
 refine n_op (rem' := []) rfl (by kernel_rfl) rfl fun T125 hT125 => ?_
 refine ST3 (WatchV.cells (WatchV.mk ln ri (Slc.mk e_A e.length e_C) (Slc.mk t_A tms.length t_C) (Slc.mk (some ⟨b121, 0, none⟩) (ln.Beams.n + 1) (ln.Beams.n + 1)) (Slc.mk (some ⟨b123, 0, none⟩) (ln.Beams.n + 1) (ln.Beams.n + 1)))) rfl ts140 rfl rfl ?_
 refine r_nil (hT125 _ _ (fun w hs => St.sel [2, 4, 5, 6] rfl rfl hs) ?_)
 refine n_fin ?_
 refine k_then (k_sub (Sub.cons rfl <| Sub.cons rfl <| Sub.cons rfl <| Sub.nil _) (fun w hs => St.sel [1, 0, 2, 3, 4, 5, 6] rfl rfl hs) (hK4 ⟨((some ⟨b121, 0, none⟩), (some ⟨b123, 0, none⟩)), trivial⟩))
end
section
open Go.RowKit
set_option linter.unusedVariables false
set_option maxRecDepth 100000 in
set_option maxHeartbeats 400000 in
theorem passed1f_c (l : LineM) (kA : Option Addr) (kC : Nat) (az : List RA) (cA : Option Addr) (cC : Nat) (bA : Option Addr) (bC : Nat) (g1 : Nat) (bm : Int) (g2 : Nat) (hin : LineIn l az) :
    FnV Try.prog 63 [(Value.pointer (some ⟨g1, 0, none⟩)), (Value.pointer (some ⟨g2, 0, none⟩))] [(rd kA l.Track.length 9 (l.Track.map StretchV.cells)), (rd cA l.Clocks.length 2 (List.zipWith ClockM.cells l.Clocks az)), (bun (nest ClockM.rds l.Clocks az)), (rd bA l.Beams.length 4 (l.Beams.map BeamV.cells)), (blk g1 28 (LineV.cells (LineV.mk (TrackV.mk (Slc.mk kA l.Track.length kC)) l.Fast (Slc.mk cA l.Clocks.length cC) (Slc.mk bA l.Beams.length bC) l.Finish l.Fakes l.Misses))), (blk g2 3 [(Value.int .i64 bm)])] (Value.int .i64 (beamE l bm)) := by
 have htk := hin.trk
 have hck := hin.cks
 have has := hin.as_
 have hbm := hin.bms
 refine fnV_of go63 Try.func63 rfl rfl fun w0 Q hQ hN => ?_
 try dsimp only
 refine WS fun _ hK1 => ?_
 refine rS (AG rfl) ?_
 refine RK hK1 ?_
 refine w_seq fun _ hK2 => ?_
 refine WS fun _ hK3 => ?_
 refine rS (FA 3 rfl fo28_3 rfl) ?_
 refine rS (L1R (Value.slice bA l.Beams.length bC) 4 rfl tk26 rfl rfl) ?_
 refine rS (LN rfl ut26) ?_
 refine rS (BI rfl (b_sub ⟨by omega, by omega⟩)) ?_
 refine rS (L1Q 5 rfl tk3 rfl) ?_
 refine r_bs (xs := [.tmp 7]) (cs := [(Value.int .i64 bm)]) rfl te57 tz3 rfl rfl rfl rfl (by simp [Value.cells]) rfl rfl fun b4 => ?_
 refine rS (CL (FnV.eq (in_beam 0 (((l.Beams.length : Nat) : Int) - 1) ([bm]) (some ⟨b4, 0, none⟩) 1 (by first | assumption | omega | (simp; done) | (simp; omega))) inAll_one) (ha_cons (has_rd_blk 0 rfl rfl (by simp [iC_length]) rfl) <| ha_nil) rfl) ?_
 refine rS (NT rfl) ?_
 refine RK hK3 ?_
 refine w_if rfl (fun h10 => ?_) (fun h10 => ?_)
 · replace h10 := XT h10
   refine WS fun _ hK5 => ?_
   refine rS (AG rfl) ?_
   refine RK hK5 ?_
   refine w_ret ?_
   refine Q1 hQ rfl rfl rfl ?_
   first | exact congrArg (Value.int .i64) (if_pos (by omega)).symm | exact congrArg (Value.int .i64) (if_neg (by omega)).symm
 replace h10 := XF h10
 refine WK hK2 ?_
 refine WS fun _ hK6 => ?_
 refine rS (AG rfl) ?_
 refine RK hK6 ?_
 refine w_ret ?_
 refine Q1 hQ rfl rfl rfl ?_
 first | exact congrArg (Value.int .i64) (if_pos (by omega)).symm | exact congrArg (Value.int .i64) (if_neg (by omega)).symm
set_option maxRecDepth 100000 in
set_option maxHeartbeats 400000 in
theorem open0_c (l : LineM) (kA : Option Addr) (kC : Nat) (az : List RA) (cA : Option Addr) (cC : Nat) (bA : Option Addr) (bC : Nat) (r : RideM) (sgA : Option Addr) (sgC : Nat) (hin : LineIn l az) (hsl : r.Signals.length ≤ 1000000) :
    FnX Try.prog 61 [(Value.agg (LineV.cells (LineV.mk (TrackV.mk (Slc.mk kA l.Track.length kC)) l.Fast (Slc.mk cA l.Clocks.length cC) (Slc.mk bA l.Beams.length bC) l.Finish l.Fakes l.Misses)).toArray), (Value.agg (RideV.cells (RideV.mk r.Start r.Now (Slc.mk sgA r.Signals.length sgC))).toArray), (Value.slice none 0 0)] [(rd kA l.Track.length 9 (l.Track.map StretchV.cells)), (rd cA l.Clocks.length 2 (List.zipWith ClockM.cells l.Clocks az)), (bun (nest ClockM.rds l.Clocks az)), (rd bA l.Beams.length 4 (l.Beams.map BeamV.cells)), (rd sgA r.Signals.length 2 (r.Signals.map SignalV.cells))] (fun (x : Bool × Int × Nat × (Option Addr) × Nat × (Option Addr) × Nat × (List Nat) × (List FM) × (List Nat) × (Option Addr) × Nat × (List FM) × (List Nat) × (Option Addr) × Nat) => bif x.1 then (Value.tuple [(Value.pointer (some ⟨x.2.2.1, 0, none⟩)), (Value.int .i64 0)].toArray) else (Value.tuple [(Value.pointer none), (Value.int .i64 x.2.1)].toArray)) (fun (x : Bool × Int × Nat × (Option Addr) × Nat × (Option Addr) × Nat × (List Nat) × (List FM) × (List Nat) × (Option Addr) × Nat × (List FM) × (List Nat) × (Option Addr) × Nat) => (x.1 = true → (openE l r 0 = 0 ∧ FwdOk (watchL l r) x.2.2.2.2.2.2.2.2.1 ∧ BackOk (watchL l r) x.2.2.2.2.2.2.2.2.2.2.2.2.1 ∧ x.2.2.2.2.2.2.2.2.2.1.length = x.2.2.2.2.2.2.2.2.1.length ∧ x.2.2.2.2.2.2.2.2.2.2.2.2.2.1.length = x.2.2.2.2.2.2.2.2.2.2.2.2.1.length ∧ x.2.2.2.2.2.2.2.1.length = (timesT l r.Signals r.Signals.length).length)) ∧ (x.1 = false → (x.2.1 = openE l r 0 ∧ ¬ openE l r 0 = 0))) (fun (x : Bool × Int × Nat × (Option Addr) × Nat × (Option Addr) × Nat × (List Nat) × (List FM) × (List Nat) × (Option Addr) × Nat × (List FM) × (List Nat) × (Option Addr) × Nat) => bif x.1 then [(blk x.2.2.1 142 (WatchV.cells (WatchV.mk (LineV.mk (TrackV.mk (Slc.mk kA l.Track.length kC)) l.Fast (Slc.mk cA l.Clocks.length cC) (Slc.mk bA l.Beams.length bC) l.Finish l.Fakes l.Misses) (RideV.mk r.Start r.Now (Slc.mk sgA r.Signals.length sgC)) (Slc.mk x.2.2.2.1 ((leasts l l.Beams.length).length) x.2.2.2.2.1) (Slc.mk x.2.2.2.2.2.1 ((timesT l r.Signals r.Signals.length).length) x.2.2.2.2.2.2.1) (Slc.mk x.2.2.2.2.2.2.2.2.2.2.1 x.2.2.2.2.2.2.2.2.1.length x.2.2.2.2.2.2.2.2.2.2.2.1) (Slc.mk x.2.2.2.2.2.2.2.2.2.2.2.2.2.2.1 x.2.2.2.2.2.2.2.2.2.2.2.2.1.length x.2.2.2.2.2.2.2.2.2.2.2.2.2.2.2)))), (own x.2.2.2.1 x.2.2.2.2.1 3 1 ((leasts l l.Beams.length).map iC)), (own x.2.2.2.2.2.1 x.2.2.2.2.2.2.1 143 1 (List.zipWith mapC (timesT l r.Signals r.Signals.length) x.2.2.2.2.2.2.2.1)), (bund (nest tmR (timesT l r.Signals r.Signals.length) x.2.2.2.2.2.2.2.1)), (own x.2.2.2.2.2.2.2.2.2.2.1 x.2.2.2.2.2.2.2.2.2.2.2.1 144 1 (List.zipWith mapC x.2.2.2.2.2.2.2.2.1 x.2.2.2.2.2.2.2.2.2.1)), (bund (nest fmR x.2.2.2.2.2.2.2.2.1 x.2.2.2.2.2.2.2.2.2.1)), (own x.2.2.2.2.2.2.2.2.2.2.2.2.2.2.1 x.2.2.2.2.2.2.2.2.2.2.2.2.2.2.2 144 1 (List.zipWith mapC x.2.2.2.2.2.2.2.2.2.2.2.2.1 x.2.2.2.2.2.2.2.2.2.2.2.2.2.1)), (bund (nest fmR x.2.2.2.2.2.2.2.2.2.2.2.2.1 x.2.2.2.2.2.2.2.2.2.2.2.2.2.1))] else []) := by
 have htk := hin.trk
 have hck := hin.cks
 have has := hin.as_
 have hbm := hin.bms
 have hsd := hin.side
 refine fnX_of go61 Try.func61 rfl rfl fun w0 Q hQ hN => ?_
 try dsimp only
 refine WS fun _ hK1 => ?_
 refine BXA rfl fun b2 => ?_
 refine BXA rfl fun b3 => ?_
 refine rS (AG rfl) ?_
 refine rS (AG rfl) ?_
 refine RK hK1 ?_
 refine w_seq fun _ hK4 => ?_
 refine WS fun _ hK5 => ?_
 refine rS (LW 1 rfl tk28 rfl rfl) ?_
 refine rS (CL (lcheck_c l kA kC az cA cC bA bC hin) (ha_at 2 rfl rfl <| ha_at 3 rfl rfl <| ha_at 4 rfl rfl <| ha_at 5 rfl rfl <| ha_nil) rfl) ?_
 refine rS (AG rfl) ?_
 refine RK hK5 ?_
 refine WS fun _ hK6 => ?_
 refine rS (MV rfl) ?_
 refine rS (BI rfl b_neq) ?_
 refine RK hK6 ?_
 refine w_if rfl (fun h21 => ?_) (fun h21 => ?_)
 · replace h21 := XT h21
   refine WS fun _ hK7 => ?_
   refine rS (MV rfl) ?_
   refine rS (AG rfl) ?_
   refine rS (AG rfl) ?_
   refine RK hK7 ?_
   refine w_ret ?_
   refine hQ _ _ _ (l_nil (vs := [(Value.pointer none), (Value.int .i64 (lineE l))]) ⟨rfl, rfl, trivial⟩ fun w hs => endX (false, (lineE l), 0, none, 0, none, 0, [], [], [], none, 0, [], [], none, 0) [] ?_ ?_ rfl rfl (by first | rfl | (show List.all _ _ = true; simp only [cond_true, List.all_cons, List.all_nil, fm_wr, tm_wr, Bool.and_true]; rfl)) hs)
   · rfl
   · refine ⟨fun q => Bool.noConfusion (show false = true from q), fun _ => ?_⟩; first | (have e := open_line_e (r := r) (me := 0) h21; exact ⟨e.symm, fun q => h21 (e.symm.trans q)⟩) | (have e := open_ride_e (me := 0) h10 (fun q : RideOk l r => by have q1 := q.time; have q2 := q.len; omega); exact ⟨e.symm, fun q => absurd (e.symm.trans q) (by decide)⟩) | (have e := open_ride_e (me := 0) h10 (ride_no hx (by unfold SigOk SigIn; omega)); exact ⟨e.symm, fun q => absurd (e.symm.trans q) (by decide)⟩) | (have e := open_bad_e (me := 0) h10 hro (by first | rfl | exact h156) (show numsF (watchL l r) = [] from List.eq_nil_of_length_eq_zero (Int.natCast_eq_zero.1 h164)); exact ⟨e.symm, fun q => absurd (e.symm.trans q) (by decide)⟩)
 replace h21 := XF h21
 refine WK hK4 ?_
 refine w_seq fun _ hK8 => ?_
 refine WS fun _ hK9 => ?_
 have h10 : lineE l = 0 := h21
 obtain ⟨htr, hok⟩ := lineE_zero h10
 have hhd := hok.head
 unfold HeadOk at hhd
 refine rS (FA 0 rfl fo69_0 rfl) ?_
 refine rS (L1 (Value.int .i64 r.Start) 0 rfl tk3 rfl rfl) ?_
 refine r_bs (xs := [.tmp 24]) (cs := [(Value.int .i64 r.Start)]) rfl te57 tz3 rfl rfl rfl rfl (by simp [Value.cells]) rfl rfl fun b10 => ?_
 refine rS (CL (FnV.eq (in_beam 0 86400000 ([r.Start]) (some ⟨b10, 0, none⟩) 1 (by first | assumption | omega | (simp; done) | (simp; omega))) inAll_one) (ha_cons (has_rd_blk 0 rfl rfl (by simp [iC_length]) rfl) <| ha_nil) rfl) ?_
 refine rS (NT rfl) ?_
 refine rS (MV rfl) ?_
 refine r_bool (t := 28) rfl (fun h28 => ?_) (fun h28 => ?_)
 · replace h28 := XT h28
   refine rS (OX rfl) ?_
   refine rS (OX rfl) ?_
   refine rS (OX rfl) ?_
   refine rS (OX rfl) ?_
   refine rS (OX rfl) ?_
   refine rS (OX rfl) ?_
   refine rS (OX rfl) ?_
   refine rS (PK rfl) ?_
   refine rS (MV rfl) ?_
   refine rS (OX rfl) ?_
   refine rS (OX rfl) ?_
   refine rS (OX rfl) ?_
   refine rS (OX rfl) ?_
   refine rS (PK rfl) ?_
   refine RK hK9 ?_
   refine w_if_true rfl ?_
   refine WS fun _ hK11 => ?_
   refine rS (AG rfl) ?_
   refine rS (AG rfl) ?_
   refine RK hK11 ?_
   refine w_ret ?_
   refine hQ _ _ _ (l_nil (vs := [(Value.pointer none), (Value.int .i64 51)]) ⟨rfl, rfl, trivial⟩ fun w hs => endX (false, 51, 0, none, 0, none, 0, [], [], [], none, 0, [], [], none, 0) [] ?_ ?_ rfl rfl (by first | rfl | (show List.all _ _ = true; simp only [cond_true, List.all_cons, List.all_nil, fm_wr, tm_wr, Bool.and_true]; rfl)) hs)
   · rfl
   · refine ⟨fun q => Bool.noConfusion (show false = true from q), fun _ => ?_⟩; first | (have e := open_line_e (r := r) (me := 0) h21; exact ⟨e.symm, fun q => h21 (e.symm.trans q)⟩) | (have e := open_ride_e (me := 0) h10 (fun q : RideOk l r => by have q1 := q.time; have q2 := q.len; omega); exact ⟨e.symm, fun q => absurd (e.symm.trans q) (by decide)⟩) | (have e := open_ride_e (me := 0) h10 (ride_no hx (by unfold SigOk SigIn; omega)); exact ⟨e.symm, fun q => absurd (e.symm.trans q) (by decide)⟩) | (have e := open_bad_e (me := 0) h10 hro (by first | rfl | exact h156) (show numsF (watchL l r) = [] from List.eq_nil_of_length_eq_zero (Int.natCast_eq_zero.1 h164)); exact ⟨e.symm, fun q => absurd (e.symm.trans q) (by decide)⟩)
 replace h28 := XF h28
 refine rS (FA 0 rfl fo69_0 rfl) ?_
 refine rS (L1 (Value.int .i64 r.Start) 1 rfl tk3 rfl rfl) ?_
 refine rS (FA 1 rfl fo69_1 rfl) ?_
 refine rS (L1 (Value.int .i64 r.Now) 1 rfl tk3 rfl rfl) ?_
 refine r_bs (xs := [.tmp 32]) (cs := [(Value.int .i64 r.Now)]) rfl te57 tz3 rfl rfl rfl rfl (by simp [Value.cells]) rfl rfl fun b12 => ?_
 refine rS (CL (FnV.eq (in_beam r.Start 86400000 ([r.Now]) (some ⟨b12, 0, none⟩) 1 (by first | assumption | omega | (simp; done) | (simp; omega))) inAll_one) (ha_cons (has_rd_blk 0 rfl rfl (by simp [iC_length]) rfl) <| ha_nil) rfl) ?_
 refine rS (NT rfl) ?_
 refine rS (PK rfl) ?_
 refine rS (MV rfl) ?_
 refine r_bool (t := 37) rfl (fun h37 => ?_) (fun h37 => ?_)
 · replace h37 := XT h37
   refine rS (OX rfl) ?_
   refine rS (OX rfl) ?_
   refine rS (OX rfl) ?_
   refine rS (OX rfl) ?_
   refine rS (PK rfl) ?_
   refine RK hK9 ?_
   refine w_if_true rfl ?_
   refine WS fun _ hK13 => ?_
   refine rS (AG rfl) ?_
   refine rS (AG rfl) ?_
   refine RK hK13 ?_
   refine w_ret ?_
   refine hQ _ _ _ (l_nil (vs := [(Value.pointer none), (Value.int .i64 51)]) ⟨rfl, rfl, trivial⟩ fun w hs => endX (false, 51, 0, none, 0, none, 0, [], [], [], none, 0, [], [], none, 0) [] ?_ ?_ rfl rfl (by first | rfl | (show List.all _ _ = true; simp only [cond_true, List.all_cons, List.all_nil, fm_wr, tm_wr, Bool.and_true]; rfl)) hs)
   · rfl
   · refine ⟨fun q => Bool.noConfusion (show false = true from q), fun _ => ?_⟩; first | (have e := open_line_e (r := r) (me := 0) h21; exact ⟨e.symm, fun q => h21 (e.symm.trans q)⟩) | (have e := open_ride_e (me := 0) h10 (fun q : RideOk l r => by have q1 := q.time; have q2 := q.len; omega); exact ⟨e.symm, fun q => absurd (e.symm.trans q) (by decide)⟩) | (have e := open_ride_e (me := 0) h10 (ride_no hx (by unfold SigOk SigIn; omega)); exact ⟨e.symm, fun q => absurd (e.symm.trans q) (by decide)⟩) | (have e := open_bad_e (me := 0) h10 hro (by first | rfl | exact h156) (show numsF (watchL l r) = [] from List.eq_nil_of_length_eq_zero (Int.natCast_eq_zero.1 h164)); exact ⟨e.symm, fun q => absurd (e.symm.trans q) (by decide)⟩)
 replace h37 := XF h37
 refine rS (FA 2 rfl fo69_2 rfl) ?_
 refine rS (L1 (Value.slice sgA r.Signals.length sgC) 2 rfl tk67 rfl rfl) ?_
 refine rS (LN rfl ut67) ?_
 refine rS (BI rfl b_gtr) ?_
 refine rS (PK rfl) ?_
 refine RK hK9 ?_
 refine w_if rfl (fun h42 => ?_) (fun h42 => ?_)
 · replace h42 := DT h42
   refine WS fun _ hK14 => ?_
   refine rS (AG rfl) ?_
   refine rS (AG rfl) ?_
   refine RK hK14 ?_
   refine w_ret ?_
   refine hQ _ _ _ (l_nil (vs := [(Value.pointer none), (Value.int .i64 51)]) ⟨rfl, rfl, trivial⟩ fun w hs => endX (false, 51, 0, none, 0, none, 0, [], [], [], none, 0, [], [], none, 0) [] ?_ ?_ rfl rfl (by first | rfl | (show List.all _ _ = true; simp only [cond_true, List.all_cons, List.all_nil, fm_wr, tm_wr, Bool.and_true]; rfl)) hs)
   · rfl
   · refine ⟨fun q => Bool.noConfusion (show false = true from q), fun _ => ?_⟩; first | (have e := open_line_e (r := r) (me := 0) h21; exact ⟨e.symm, fun q => h21 (e.symm.trans q)⟩) | (have e := open_ride_e (me := 0) h10 (fun q : RideOk l r => by have q1 := q.time; have q2 := q.len; omega); exact ⟨e.symm, fun q => absurd (e.symm.trans q) (by decide)⟩) | (have e := open_ride_e (me := 0) h10 (ride_no hx (by unfold SigOk SigIn; omega)); exact ⟨e.symm, fun q => absurd (e.symm.trans q) (by decide)⟩) | (have e := open_bad_e (me := 0) h10 hro (by first | rfl | exact h156) (show numsF (watchL l r) = [] from List.eq_nil_of_length_eq_zero (Int.natCast_eq_zero.1 h164)); exact ⟨e.symm, fun q => absurd (e.symm.trans q) (by decide)⟩)
 replace h42 := DF h42
 refine WK hK8 ?_
 refine WS fun _ hK15 => ?_
 refine rS (SX (sd_build (xs := [(0, .const (Value.int .i64 (-1)))]) (cs := (SignalV.cells (SignalV.mk (-1) 0))) rfl rfl (built_of tb30 rfl)) rfl rfl) ?_
 refine AL rfl tz30 fun b16 => ?_
 refine SW0 rfl ts30 rfl ?_
 refine RK hK15 ?_
 refine w_seq fun _ hK17 => ?_
 refine w_draw4 mixed [0, 1, 2, 3, 4] [5, 6, 7, 8] [false, false, false, false, false] [false, false, false, false] [(blk b16 30 (SignalV.cells (SignalV.mk (-1) 0))), (blk b12 3 [(Value.int .i64 r.Now)]), (blk b10 3 [(Value.int .i64 r.Start)]), (blk b3 69 (RideV.cells (RideV.mk r.Start r.Now (Slc.mk sgA r.Signals.length sgC)))), (blk b2 28 (LineV.cells (LineV.mk (TrackV.mk (Slc.mk kA l.Track.length kC)) l.Fast (Slc.mk cA l.Clocks.length cC) (Slc.mk bA l.Beams.length bC) l.Finish l.Fakes l.Misses))), (rd kA l.Track.length 9 (l.Track.map StretchV.cells)).ro, (rd cA l.Clocks.length 2 (List.zipWith ClockM.cells l.Clocks az)).ro, (bun (nest ClockM.rds l.Clocks az)).ro, (rd bA l.Beams.length 4 (l.Beams.map BeamV.cells)).ro, (rd sgA r.Signals.length 2 (r.Signals.map SignalV.cells)).ro] [] (by kernel_rfl) (fun w hs => St.sel [0, 1, 2, 3, 4, 5, 6, 7, 8, 9] rfl rfl hs) (fun w hs => St.sel [] rfl rfl hs) ?_
 refine eS rfl (LW 4 rfl tk28 rfl rfl) ?_
 refine eS rfl (LW 3 rfl tk69 rfl rfl) ?_
 refine eS rfl (FA 3 rfl fo28_3 rfl) ?_
 refine eS rfl (L1 (Value.slice bA l.Beams.length bC) 4 rfl tk26 rfl rfl) ?_
 refine eS rfl (LN rfl ut26) ?_
 refine d_fin rfl ?_
 refine t_cons rfl fun T18 hT18 => ?_
 refine r_mks (n := l.Beams.length) (es := (List.map oC (List.replicate l.Beams.length (none : Option Nat)))) rfl rfl rfl ta139 (by omega) (by omega) (by simp only [maxLen]; omega) (by rw [List.map_replicate]; rfl) rfl fun b19 => ?_
 try dsimp only
 refine r_nil (hT18 _ _ (fun w hs => St.sel [1, 2, 3, 4, 5, 6, 7, 8, 9, 10] rfl rfl hs) ?_)
 refine t_cons rfl fun T20 hT20 => ?_
 refine rS (SX (sd_build (xs := [(0, .tmp 44), (1, .tmp 45), (3, .tmp 49)]) (cs := (WatchV.cells (WatchV.mk (LineV.mk (TrackV.mk (Slc.mk kA l.Track.length kC)) l.Fast (Slc.mk cA l.Clocks.length cC) (Slc.mk bA l.Beams.length bC) l.Finish l.Fakes l.Misses) (RideV.mk r.Start r.Now (Slc.mk sgA r.Signals.length sgC)) (Slc.mk none 0 0) (Slc.mk (some ⟨b19, 0, none⟩) l.Beams.length l.Beams.length) (Slc.mk none 0 0) (Slc.mk none 0 0)))) rfl rfl (built_of tb142 rfl)) rfl rfl) ?_
 refine r_nil (hT20 _ _ (fun w hs => St.sel [1, 2, 3, 4, 5, 6, 7, 8, 9, 10] rfl rfl hs) ?_)
 refine t_cons rfl fun T21 hT21 => ?_
 refine BXA rfl fun b22 => ?_
 refine r_nil (hT21 _ _ (fun w hs => St.sel [2, 3, 4, 5, 6, 7, 8, 9, 10, 11] rfl rfl hs) ?_)
 refine t_cons rfl fun T23 hT23 => ?_
 refine rS (AG rfl) ?_
 refine r_nil (hT23 _ _ (fun w hs => St.sel [2, 3, 4, 5, 6, 7, 8, 9, 10, 11] rfl rfl hs) ?_)
 refine t_fin rfl ?_
 refine KK hK17 ?_
 refine w_seq fun _ hK24 => ?_
 refine WS fun _ hK25 => ?_
 refine rS (FA 3 rfl fo28_3 rfl) ?_
 refine rS (L1 (Value.slice bA l.Beams.length bC) 6 rfl tk26 rfl rfl) ?_
 refine rS (LN rfl ut26) ?_
 refine rS (MV rfl) ?_
 refine RK hK25 ?_
 refine w_block ?_
 rw [fillF_nil]
 refine w_own_nil 3 1 ?_
 refine w_tie0 ?_
 have hinit : (0 ≤ l.Beams.length) ∧ (([] : List Nat).length = 0) := by exact ⟨Nat.zero_le _, rfl⟩
 refine w_loop (ι := { z : Nat × (Option Addr) × Nat × (List Nat) // (z.1 ≤ l.Beams.length) ∧ (z.2.2.2.length = z.1) }) (fun z => [(2, (Value.slice none 0 0)), (3, (Value.pointer (some ⟨b2, 0, none⟩))), (4, (Value.pointer (some ⟨b3, 0, none⟩))), (6, (Value.pointer none)), (7, (Value.int .i64 0)), (9, (Value.pointer (some ⟨b16, 0, none⟩))), (10, (Value.pointer (some ⟨b22, 0, none⟩))), (54, (Value.int .i64 ((l.Beams.length : Nat) : Int))), (55, (Value.int .i64 ((z.1.1 : Nat) : Int)))]) (fun z => [(bund (nest tmR (List.replicate z.1.1 ([] : TM)) z.1.2.2.2)), (own z.1.2.1 z.1.2.2.1 3 1 ((leasts l z.1.1).map iC)), (blk b22 142 (WatchV.cells (WatchV.mk (LineV.mk (TrackV.mk (Slc.mk kA l.Track.length kC)) l.Fast (Slc.mk cA l.Clocks.length cC) (Slc.mk bA l.Beams.length bC) l.Finish l.Fakes l.Misses) (RideV.mk r.Start r.Now (Slc.mk sgA r.Signals.length sgC)) (Slc.mk z.1.2.1 ((leasts l z.1.1).length) z.1.2.2.1) (Slc.mk (some ⟨b19, 0, none⟩) l.Beams.length l.Beams.length) (Slc.mk none 0 0) (Slc.mk none 0 0)))), (own (some ⟨b19, 0, none⟩) l.Beams.length 143 1 (List.map oC (fillF z.1.2.2.2 l.Beams.length))), (blk b16 30 (SignalV.cells (SignalV.mk (-1) 0))), (blk b3 69 (RideV.cells (RideV.mk r.Start r.Now (Slc.mk sgA r.Signals.length sgC)))), (blk b2 28 (LineV.cells (LineV.mk (TrackV.mk (Slc.mk kA l.Track.length kC)) l.Fast (Slc.mk cA l.Clocks.length cC) (Slc.mk bA l.Beams.length bC) l.Finish l.Fakes l.Misses))), (rd kA l.Track.length 9 (l.Track.map StretchV.cells)).ro, (rd cA l.Clocks.length 2 (List.zipWith ClockM.cells l.Clocks az)).ro, (bun (nest ClockM.rds l.Clocks az)).ro, (rd bA l.Beams.length 4 (l.Beams.map BeamV.cells)).ro, (rd sgA r.Signals.length 2 (r.Signals.map SignalV.cells)).ro]) (fun z => l.Beams.length - z.1.1) ⟨(0, none, 0, ([] : List Nat)), hinit⟩ (Sub.cons rfl <| Sub.cons rfl <| Sub.cons rfl <| Sub.cons rfl <| Sub.cons rfl <| Sub.cons rfl <| Sub.cons rfl <| Sub.cons rfl <| Sub.cons rfl <| Sub.nil _) (fun w hs => St.sel [0, 1, 2, 3, 4, 7, 8, 9, 10, 11, 12, 13] rfl rfl hs) ?_
 clear hinit
 rintro ⟨⟨b, a, c, fb⟩, ⟨hl9_0, hl9_1⟩⟩ J26 hJ26
 try dsimp only at hl9_0 hl9_1
 try dsimp only
 have hlf : (fillF fb l.Beams.length).length = l.Beams.length := fillF_len (by omega)
 refine WS fun _ hK27 => ?_
 refine rS (BI rfl b_lss) ?_
 refine RK hK27 ?_
 refine w_seq fun _ hK28 => ?_
 refine w_if rfl (fun h29 => ?_) (fun h29 => ?_)
 · replace h29 := DT h29
   refine WK hK28 ?_
   refine w_seq fun _ hK30 => ?_
   refine w_block ?_
   refine WS fun _ hK31 => ?_
   refine rS (MV rfl) ?_
   refine rS (AG rfl) ?_
   refine RK hK31 ?_
   refine w_seq fun _ hK32 => ?_
   refine w_draw4 mixed [0, 1, 2, 3, 4, 5, 6, 7, 8, 9, 10, 11, 14, 15] [12, 13, 16] [false, false, false, false, true, false, false, false, false, false, false, false, false, false] [true, false, false] [(bund (nest tmR (List.replicate b ([] : TM)) fb)), (own (some ⟨b19, 0, none⟩) l.Beams.length 143 1 (List.map oC (fillF fb l.Beams.length))), (blk b16 30 (SignalV.cells (SignalV.mk (-1) 0))), (blk b3 69 (RideV.cells (RideV.mk r.Start r.Now (Slc.mk sgA r.Signals.length sgC)))), (blk b2 28 (LineV.cells (LineV.mk (TrackV.mk (Slc.mk kA l.Track.length kC)) l.Fast (Slc.mk cA l.Clocks.length cC) (Slc.mk bA l.Beams.length bC) l.Finish l.Fakes l.Misses))), (rd kA l.Track.length 9 (l.Track.map StretchV.cells)).ro, (rd cA l.Clocks.length 2 (List.zipWith ClockM.cells l.Clocks az)).ro, (bun (nest ClockM.rds l.Clocks az)).ro, (rd bA l.Beams.length 4 (l.Beams.map BeamV.cells)).ro, (rd sgA r.Signals.length 2 (r.Signals.map SignalV.cells)).ro] [(bund (nest tmR (List.replicate b ([] : TM)) fb)), (own a c 3 1 ((leasts l b).map iC)), (blk b22 142 (WatchV.cells (WatchV.mk (LineV.mk (TrackV.mk (Slc.mk kA l.Track.length kC)) l.Fast (Slc.mk cA l.Clocks.length cC) (Slc.mk bA l.Beams.length bC) l.Finish l.Fakes l.Misses) (RideV.mk r.Start r.Now (Slc.mk sgA r.Signals.length sgC)) (Slc.mk a ((leasts l b).length) c) (Slc.mk (some ⟨b19, 0, none⟩) l.Beams.length l.Beams.length) (Slc.mk none 0 0) (Slc.mk none 0 0)))), (own (some ⟨b19, 0, none⟩) l.Beams.length 143 1 (List.map oC (fillF fb l.Beams.length))), (blk b16 30 (SignalV.cells (SignalV.mk (-1) 0))), (blk b3 69 (RideV.cells (RideV.mk r.Start r.Now (Slc.mk sgA r.Signals.length sgC)))), (blk b2 28 (LineV.cells (LineV.mk (TrackV.mk (Slc.mk kA l.Track.length kC)) l.Fast (Slc.mk cA l.Clocks.length cC) (Slc.mk bA l.Beams.length bC) l.Finish l.Fakes l.Misses))), (rd kA l.Track.length 9 (l.Track.map StretchV.cells)).ro, (rd cA l.Clocks.length 2 (List.zipWith ClockM.cells l.Clocks az)).ro, (bun (nest ClockM.rds l.Clocks az)).ro, (rd bA l.Beams.length 4 (l.Beams.map BeamV.cells)).ro, (rd sgA r.Signals.length 2 (r.Signals.map SignalV.cells)).ro] (by kernel_rfl) (fun w hs => St.sel [0, 3, 4, 5, 6, 7, 8, 9, 10, 11] rfl rfl hs) (fun w hs => St.sel [0, 1, 2, 3, 4, 5, 6, 7, 8, 9, 10, 11] rfl rfl hs) ?_
   refine eS rfl (MV rfl) ?_
   refine eS rfl (MV rfl) ?_
   refine eS rfl (SX (sd_nil_p rfl rfl) rfl rfl) ?_
   refine eS rfl (FA 10 rfl fo142_2 rfl) ?_
   refine fS rfl (L1 (Value.slice a ((leasts l b).length) c) 2 rfl tk57 rfl rfl) ?_
   refine eS rfl (LW 4 rfl tk28 rfl rfl) ?_
   refine eS rfl (MV rfl) ?_
   refine eS rfl (CL (way_c l kA kC az cA cC bA bC ((b : Nat) : Int) hin (by first | assumption | omega | (simp; done) | (simp; omega)) (by exact hok.beam) (by first | assumption | omega | (simp; done) | (simp; omega))) (ha_at 5 rfl rfl <| ha_at 6 rfl rfl <| ha_at 7 rfl rfl <| ha_at 8 rfl rfl <| ha_nil) rfl) ?_
   have hwb := way_b htr hok.beam b
   have hwy := hok.way b (by omega)
   simp only [Int.toNat_natCast]
   refine eS rfl (BI rfl (b_mul ⟨by omega, by omega⟩)) ?_
   refine eS rfl (FA 1 rfl fo28_1 rfl) ?_
   refine eS rfl (L1 (Value.int .i64 l.Fast) 4 rfl tk3 rfl rfl) ?_
   refine eS rfl (CL (upd_c (1000 * (wayF l ((b : Nat) : Int).toNat)) l.Fast (by first | assumption | omega | (simp; done) | (simp; omega)) (by first | assumption | omega | (simp; done) | (simp; omega))) (ha_nil) rfl) ?_
   refine eS rfl (SX (sd_nil_p rfl rfl) rfl rfl) ?_
   refine eS rfl (FA 10 rfl fo142_2 rfl) ?_
   refine d_fin rfl ?_
   refine t5_cons rfl fun T33 hT33 => ?_
   refine r_bs (xs := [.tmp 69]) (cs := [(Value.int .i64 (upD (1000 * (wayF l ((b : Nat) : Int).toNat)) l.Fast))]) rfl te57 tz3 rfl rfl rfl rfl (by simp [Value.cells]) rfl rfl fun b34 => ?_
   refine r_nil (hT33 _ _ (fun w hs => St.sel [1, 4, 5, 6, 7, 8, 9, 10, 11, 12] rfl rfl hs) (fun w hs => St.sel [1, 2, 3, 4, 5, 6, 7, 8, 9, 10, 11, 12] rfl rfl hs) ?_)
   refine t_cons rfl fun T35 hT35 => ?_
   refine r_append (es2 := (List.map iC (leasts l (b + 1)))) (m' := (leasts l (b + 1)).length) 2 rfl rfl rfl ta57 rfl rfl (by simp [leasts_len]) (has_rd_blk (es := List.map iC [(upD (1000 * (wayF l ((b : Nat) : Int).toNat)) l.Fast)]) 0 rfl rfl (by simp [iC_length]) rfl) (one_iC _) (by have := leasts_len (l := l) (n := b); first | omega | (simp; omega)) (by simp only [maxLen, leasts_len]; omega) (by rw [leasts_succ]; simp [leastF]) (by simp [leasts_len]) rfl fun a36 c37 => ?_
   try dsimp only
   refine r_nil (hT35 _ _ (fun w hs => St.sel [1, 4, 5, 6, 7, 8, 9, 10, 11, 12] rfl rfl hs) ?_)
   refine t_cons rfl fun T38 hT38 => ?_
   refine ST3 (WatchV.cells (WatchV.mk (LineV.mk (TrackV.mk (Slc.mk kA l.Track.length kC)) l.Fast (Slc.mk cA l.Clocks.length cC) (Slc.mk bA l.Beams.length bC) l.Finish l.Fakes l.Misses) (RideV.mk r.Start r.Now (Slc.mk sgA r.Signals.length sgC)) (Slc.mk a36 ((leasts l (b + 1)).length) c37) (Slc.mk (some ⟨b19, 0, none⟩) l.Beams.length l.Beams.length) (Slc.mk none 0 0) (Slc.mk none 0 0))) rfl ts57 rfl rfl ?_
   refine r_nil (hT38 _ _ (fun w hs => St.sel [1, 4, 5, 6, 7, 8, 9, 10, 11, 12] rfl rfl hs) ?_)
   refine t_fin rfl ?_
   refine KK hK32 ?_
   refine w_region ?_
   refine rS (MV rfl) ?_
   refine rS (SX (sd_nil_p rfl rfl) rfl rfl) ?_
   refine rS (FA 11 rfl fo142_3 rfl) ?_
   refine rS (L1 (Value.slice (some ⟨b19, 0, none⟩) l.Beams.length l.Beams.length) 3 rfl tk139 rfl rfl) ?_
   refine rS (MV rfl) ?_
   refine gr_mkmap (kV := iV) rfl rfl fun b39 => ?_
   try dsimp only
   obtain ⟨x40, hx41⟩ : ∃ y_, (fillF fb l.Beams.length)[b]? = some y_ := ⟨(fillF fb l.Beams.length)[b]'(by omega), List.getElem?_eq_getElem _⟩
   have hx41m : (List.map oC (fillF fb l.Beams.length))[b]? = some (oC x40) := by rw [List.getElem?_map, hx41]; rfl
   refine rS (IA b rfl (has_own_n (n := l.Beams.length) 5 rfl (by first | (simp; done) | (simp; omega))) te139 (by decide) (by omega) (by omega)) ?_
   have hb42 : ((fillF fb l.Beams.length).set b (some b39)) = (fillF (fb ++ [b39]) l.Beams.length) := by exact fillF_set (by omega) (by omega)
   refine r_store_own (k := b) (o := 0) (vs := [(Value.map (some b39))]) (es' := (List.map oC (fillF (fb ++ [b39]) l.Beams.length))) (C' := [_, _, _, _, _, (own (some ⟨b19, 0, none⟩) l.Beams.length 143 1 (List.map oC (fillF (fb ++ [b39]) l.Beams.length))), _, _, _, _, _, _, _, _]) 5 rfl rfl rfl ts143 rfl rfl rfl rfl hx41m rfl (by decide) (by exact (List.map_set (f := oC) (l := (fillF fb l.Beams.length)) (i := b) (a := (some b39))).symm.trans (congrArg _ hb42)) rfl ?_
   refine r_nil ?_
   refine k_block ?_
   refine KK hK30 ?_
   refine w_region ?_
   refine rS (BI rfl (b_add ⟨by omega, by omega⟩)) ?_
   refine rS (MV rfl) ?_
   refine r_nil ?_
   refine k_tie (X' := nest tmR (List.replicate (b + 1) ([] : TM)) (fb ++ [b39])) 2 0 rfl rfl (tm_snoc hl9_1) ?_
   try dsimp only
   have hb43 : (Value.int .i64 (((b + 1) : Nat) : Int)) = (Value.int .i64 (((b : Nat) : Int) + 1)) := by exact congrArg (Value.int .i64) (by omega)
   refine k_then (hJ26 ⟨((b + 1), a36, c37, (fb ++ [b39])), ⟨by omega, by simp; omega⟩⟩ _ _ _ rfl (by first | omega | (simp; omega)) (Sub.cons rfl <| Sub.cons rfl <| Sub.cons rfl <| Sub.cons rfl <| Sub.cons rfl <| Sub.cons rfl <| Sub.cons rfl <| Sub.cons rfl <| sub_val rfl hb43 <| Sub.nil _) (fun w hs => St.sel [0, 2, 3, 4, 5, 6, 7, 8, 9, 10, 11, 12] rfl rfl hs))
 replace h29 := DF h29
 refine w_exit ?_
 refine k_exit_then ?_
 refine k_exit_then ?_
 refine k_exit_same ?_
 refine KK hK24 ?_
 refine w_seq fun _ hK44 => ?_
 refine WS fun _ hK45 => ?_
 refine rS (FA 2 rfl fo69_2 rfl) ?_
 refine rS (L1 (Value.slice sgA r.Signals.length sgC) 5 rfl tk67 rfl rfl) ?_
 refine rS (LN rfl ut67) ?_
 refine rS (MV rfl) ?_
 refine RK hK45 ?_
 refine w_block ?_
 rw [show (List.replicate b ([] : TM)) = timesT l r.Signals 0 from by rw [times_zero, show b = l.Beams.length by omega]]
 rw [show leasts l b = leasts l l.Beams.length from by rw [show b = l.Beams.length by omega]]
 have hinit : (0 ≤ r.Signals.length) ∧ (SigsTo l r.Signals 0) := by exact ⟨Nat.zero_le _, sigs_zero⟩
 refine w_loop (ι := { z : Nat // (z ≤ r.Signals.length) ∧ (SigsTo l r.Signals z) }) (fun z => [(2, (Value.slice none 0 0)), (3, (Value.pointer (some ⟨b2, 0, none⟩))), (4, (Value.pointer (some ⟨b3, 0, none⟩))), (6, (Value.pointer none)), (7, (Value.int .i64 0)), (9, (Value.pointer (some ⟨b16, 0, none⟩))), (10, (Value.pointer (some ⟨b22, 0, none⟩))), (83, (Value.slice sgA r.Signals.length sgC)), (84, (Value.int .i64 ((r.Signals.length : Nat) : Int))), (85, (Value.int .i64 ((z.1 : Nat) : Int)))]) (fun z => [(bund (nest tmR (timesT l r.Signals z.1) fb)), (own a c 3 1 ((leasts l l.Beams.length).map iC)), (blk b22 142 (WatchV.cells (WatchV.mk (LineV.mk (TrackV.mk (Slc.mk kA l.Track.length kC)) l.Fast (Slc.mk cA l.Clocks.length cC) (Slc.mk bA l.Beams.length bC) l.Finish l.Fakes l.Misses) (RideV.mk r.Start r.Now (Slc.mk sgA r.Signals.length sgC)) (Slc.mk a ((leasts l l.Beams.length).length) c) (Slc.mk (some ⟨b19, 0, none⟩) l.Beams.length l.Beams.length) (Slc.mk none 0 0) (Slc.mk none 0 0)))), (own (some ⟨b19, 0, none⟩) l.Beams.length 143 1 (List.map oC (fillF fb l.Beams.length))), (blk b16 30 (SignalV.cells (prevS r.Signals z.1))), (blk b3 69 (RideV.cells (RideV.mk r.Start r.Now (Slc.mk sgA r.Signals.length sgC)))), (blk b2 28 (LineV.cells (LineV.mk (TrackV.mk (Slc.mk kA l.Track.length kC)) l.Fast (Slc.mk cA l.Clocks.length cC) (Slc.mk bA l.Beams.length bC) l.Finish l.Fakes l.Misses))), (rd kA l.Track.length 9 (l.Track.map StretchV.cells)).ro, (rd cA l.Clocks.length 2 (List.zipWith ClockM.cells l.Clocks az)).ro, (bun (nest ClockM.rds l.Clocks az)).ro, (rd bA l.Beams.length 4 (l.Beams.map BeamV.cells)).ro, (rd sgA r.Signals.length 2 (r.Signals.map SignalV.cells)).ro]) (fun z => r.Signals.length - z.1) ⟨0, hinit⟩ (Sub.cons rfl <| Sub.cons rfl <| Sub.cons rfl <| Sub.cons rfl <| Sub.cons rfl <| Sub.cons rfl <| Sub.cons rfl <| Sub.cons rfl <| Sub.cons rfl <| Sub.cons rfl <| Sub.nil _) (fun w hs => St.sel [0, 1, 2, 3, 4, 5, 6, 7, 8, 9, 10, 11] rfl rfl hs) ?_
 clear hinit
 rintro ⟨i, ⟨hl15_0, hl15_1⟩⟩ J46 hJ46
 try dsimp only
 have htlen : (timesT l r.Signals i).length = l.Beams.length := timesT_len
 have hlf : (fillF fb l.Beams.length).length = l.Beams.length := fillF_len (by omega)
 refine WS fun _ hK47 => ?_
 refine rS (BI rfl b_lss) ?_
 refine RK hK47 ?_
 refine w_seq fun _ hK48 => ?_
 refine w_if rfl (fun h49 => ?_) (fun h49 => ?_)
 rotate_left 1
 · replace h49 := DF h49
   refine w_exit ?_
   refine k_exit_then ?_
   refine k_exit_then ?_
   refine k_exit_same ?_
   refine KK hK44 ?_
   refine w_seq fun _ hK79 => ?_
   refine w_seq fun _ hK80 => ?_
   have hro : RideOk l r := ride_all (by omega) (by omega) hl15_1 (by omega)
   refine w_region ?_
   refine rS (MV rfl) ?_
   refine rS (LN rfl ut138) ?_
   refine rS (MV rfl) ?_
   refine RK hK80 ?_
   refine w_block ?_
   refine w_rounds 1 ?_
   refine ro_succ fun R81 hR81 => ?_
   refine WS fun _ hK82 => ?_
   refine rS (SX (sd_bin (r := .bool false) rfl rfl rfl b_lss) rfl rfl) ?_
   refine RK hK82 ?_
   refine w_seq fun _ hK83 => ?_
   refine w_if_false rfl ?_
   refine w_exit ?_
   refine k_exit_then ?_
   refine k_exit_then ?_
   refine k_exit_same ?_
   refine KK hK79 ?_
   refine w_seq fun _ hK84 => ?_
   rw [show timesT l r.Signals i = timesT l r.Signals r.Signals.length from by rw [show i = r.Signals.length by omega]]
   have htl : (timesT l r.Signals r.Signals.length).length = l.Beams.length := timesT_len
   rw [show (List.map oC (fillF fb l.Beams.length)) = (List.zipWith mapC (timesT l r.Signals r.Signals.length) fb) from zipF (by omega) htl]
   rw [show (blk b22 142 (WatchV.cells (WatchV.mk (LineV.mk (TrackV.mk (Slc.mk kA l.Track.length kC)) l.Fast (Slc.mk cA l.Clocks.length cC) (Slc.mk bA l.Beams.length bC) l.Finish l.Fakes l.Misses) (RideV.mk r.Start r.Now (Slc.mk sgA r.Signals.length sgC)) (Slc.mk a ((leasts l l.Beams.length).length) c) (Slc.mk (some ⟨b19, 0, none⟩) l.Beams.length l.Beams.length) (Slc.mk none 0 0) (Slc.mk none 0 0)))) = (blk b22 142 (WatchV.cells (WatchV.mk (LineV.mk (TrackV.mk (Slc.mk kA l.Track.length kC)) l.Fast (Slc.mk cA l.Clocks.length cC) (Slc.mk bA l.Beams.length bC) l.Finish l.Fakes l.Misses) (RideV.mk r.Start r.Now (Slc.mk sgA r.Signals.length sgC)) (Slc.mk a ((leasts l l.Beams.length).length) c) (Slc.mk (some ⟨b19, 0, none⟩) ((timesT l r.Signals r.Signals.length).length) l.Beams.length) (Slc.mk none 0 0) (Slc.mk none 0 0)))) from by rw [htl]]
   have hwo := watch_ok htr hok hro
   have hlel : (leasts l l.Beams.length).length = l.Beams.length := leasts_len
   refine w_region ?_
   refine rS (MV rfl) ?_
   refine r_callm 2 rfl rfl rfl rfl (follow_c (LineV.mk (TrackV.mk (Slc.mk kA l.Track.length kC)) l.Fast (Slc.mk cA l.Clocks.length cC) (Slc.mk bA l.Beams.length bC) l.Finish l.Fakes l.Misses) (RideV.mk r.Start r.Now (Slc.mk sgA r.Signals.length sgC)) (leasts l l.Beams.length) (timesT l r.Signals r.Signals.length) a c fb (some ⟨b19, 0, none⟩) l.Beams.length b22 (by exact hwo) (by exact leasts_len.symm) (by rw [htl]; omega)) rfl (cv_cons 1 rfl rfl (cov_own_n (by simp)) (cv_cons 3 rfl rfl (cov_own_n (by rw [List.length_zipWith]; omega)) (cv_cons 0 rfl rfl cov_bund cv_nil))) rfl (fun y93 hfo => ?_)
   obtain ⟨fs85, fb86, fA87, fC88, bs89, bb90, bA91, bC92⟩ := y93
   refine r_untie (X := [(blk b22 142 (WatchV.cells (WatchV.mk (LineV.mk (TrackV.mk (Slc.mk kA l.Track.length kC)) l.Fast (Slc.mk cA l.Clocks.length cC) (Slc.mk bA l.Beams.length bC) l.Finish l.Fakes l.Misses) (RideV.mk r.Start r.Now (Slc.mk sgA r.Signals.length sgC)) (Slc.mk a ((leasts l l.Beams.length).length) c) (Slc.mk (some ⟨b19, 0, none⟩) ((timesT l r.Signals r.Signals.length).length) l.Beams.length) (Slc.mk fA87 fs85.length fC88) (Slc.mk bA91 bs89.length bC92)))), (own fA87 fC88 144 1 (List.zipWith mapC fs85 fb86)), (bund (nest fmR fs85 fb86)), (own bA91 bC92 144 1 (List.zipWith mapC bs89 bb90)), (bund (nest fmR bs89 bb90))]) 2 rfl rfl ?_
   try dsimp only
   obtain ⟨hq1, hq2, hq3, hq4⟩ := hfo
   dsimp only at hq1 hq2 hq3 hq4
   refine RK hK84 ?_
   refine w_seq fun _ hK94 => ?_
   refine WS fun _ hK95 => ?_
   refine rS (MV rfl) ?_
   refine cX (numbers_c (LineV.mk (TrackV.mk (Slc.mk kA l.Track.length kC)) l.Fast (Slc.mk cA l.Clocks.length cC) (Slc.mk bA l.Beams.length bC) l.Finish l.Fakes l.Misses) (RideV.mk r.Start r.Now (Slc.mk sgA r.Signals.length sgC)) (leasts l l.Beams.length) (timesT l r.Signals r.Signals.length) a c fb (some ⟨b19, 0, none⟩) l.Beams.length fs85 bs89 fb86 fA87 fC88 bb90 bA91 bC92 b22 (by exact hwo) (by first | assumption | omega | (simp; done) | (simp; omega)) (by exact leasts_len.symm) (by exact hq1) (by first | assumption | omega | (simp; done) | (simp; omega))) (ha_cons (has_own_n (n := (leasts l l.Beams.length).length) 6 rfl (by simp)) <| ha_cons (has_own_n (n := (timesT l r.Signals r.Signals.length).length) 7 rfl (by rw [List.length_zipWith]; omega)) <| ha_cons (bun_bund 5 rfl bun_same) <| ha_cons (has_own_n (n := fs85.length) 1 rfl (by rw [List.length_zipWith]; omega)) <| ha_cons (bun_bund 2 rfl bun_same) <| ha_cons (has_own_n (n := bs89.length) 3 rfl (by rw [List.length_zipWith]; omega)) <| ha_cons (bun_bund 4 rfl bun_same) <| ha_at 0 rfl rfl <| ha_nil) rfl fun y96 hy97 => ?_
   obtain ⟨a98, c99⟩ := y96
   try dsimp only
   refine rS (LN rfl ut57) ?_
   refine rS (BI rfl b_eql) ?_
   refine RK hK95 ?_
   refine w_if rfl (fun h164 => ?_) (fun h164 => ?_)
   rotate_left 1
   · replace h164 := DF h164
     refine WK hK94 ?_
     refine WS fun _ hK101 => ?_
     refine rS (MV rfl) ?_
     refine rS (AG rfl) ?_
     refine rS (AG rfl) ?_
     refine RK hK101 ?_
     refine w_ret ?_
     refine hQ _ _ _ (l_nil (vs := [(Value.pointer (some ⟨b22, 0, none⟩)), (Value.int .i64 0)]) ⟨rfl, rfl, trivial⟩ fun w hs => endX (true, 0, b22, a, c, (some ⟨b19, 0, none⟩), l.Beams.length, fb, fs85, fb86, fA87, fC88, bs89, bb90, bA91, bC92) [1, 7, 8, 6, 2, 3, 4, 5] ?_ ?_ rfl rfl (by first | rfl | (show List.all _ _ = true; simp only [cond_true, List.all_cons, List.all_nil, fm_wr, tm_wr, Bool.and_true]; rfl)) hs)
     · rfl
     · exact ⟨fun _ => ⟨open_ok_e h10 hro (by first | rfl | exact h156) (fun q => h164 (congrArg (fun z : List Int => ((z.length : Nat) : Int)) q)), hq1, hq2, hq3, hq4, by dsimp only; omega⟩, fun q => Bool.noConfusion (show true = false from q)⟩
   replace h164 := DT h164
   refine WS fun _ hK100 => ?_
   refine rS (AG rfl) ?_
   refine rS (AG rfl) ?_
   refine RK hK100 ?_
   refine w_ret ?_
   refine hQ _ _ _ (l_nil (vs := [(Value.pointer none), (Value.int .i64 8)]) ⟨rfl, rfl, trivial⟩ fun w hs => endX (false, 8, 0, none, 0, none, 0, [], [], [], none, 0, [], [], none, 0) [] ?_ ?_ rfl rfl (by first | rfl | (show List.all _ _ = true; simp only [cond_true, List.all_cons, List.all_nil, fm_wr, tm_wr, Bool.and_true]; rfl)) hs)
   · rfl
   · refine ⟨fun q => Bool.noConfusion (show false = true from q), fun _ => ?_⟩; first | (have e := open_line_e (r := r) (me := 0) h21; exact ⟨e.symm, fun q => h21 (e.symm.trans q)⟩) | (have e := open_ride_e (me := 0) h10 (fun q : RideOk l r => by have q1 := q.time; have q2 := q.len; omega); exact ⟨e.symm, fun q => absurd (e.symm.trans q) (by decide)⟩) | (have e := open_ride_e (me := 0) h10 (ride_no hx (by unfold SigOk SigIn; omega)); exact ⟨e.symm, fun q => absurd (e.symm.trans q) (by decide)⟩) | (have e := open_bad_e (me := 0) h10 hro (by first | rfl | exact h156) (show numsF (watchL l r) = [] from List.eq_nil_of_length_eq_zero (Int.natCast_eq_zero.1 h164)); exact ⟨e.symm, fun q => absurd (e.symm.trans q) (by decide)⟩)
 replace h49 := DT h49
 refine WK hK48 ?_
 refine w_seq fun _ hK50 => ?_
 refine w_block ?_
 refine WS fun _ hK51 => ?_
 refine rS (MV rfl) ?_
 obtain ⟨x, hx⟩ : ∃ y_, r.Signals[i]? = some y_ := ⟨r.Signals[i]'(by omega), List.getElem?_eq_getElem _⟩
 have hxm : (r.Signals.map SignalV.cells)[i]? = some (SignalV.cells x) := by rw [List.getElem?_map, hx]; rfl
 refine rS (IA i rfl (has_at 11 rfl) te67 (by decide) (by omega) (by omega)) ?_
 refine rS (LEN i 0 (SignalV.cells x) rfl tk30 (has_at 11 rfl) hxm rfl (by decide) rfl rfl) ?_
 refine AL rfl tz30 fun b52 => ?_
 refine rS (AG rfl) ?_
 refine SW0 rfl ts30 rfl ?_
 refine RK hK51 ?_
 refine w_seq fun _ hK53 => ?_
 refine WS fun _ hK54 => ?_
 refine rS (FA 3 rfl fo28_3 rfl) ?_
 refine rS (L1 (Value.slice bA l.Beams.length bC) 7 rfl tk26 rfl rfl) ?_
 refine rS (LN rfl ut26) ?_
 refine rS (BI rfl (b_sub ⟨by omega, by omega⟩)) ?_
 refine rS (FA 0 rfl fo30_0 rfl) ?_
 refine rS (L1 (Value.int .i64 x.Beam) 0 rfl tk3 rfl rfl) ?_
 refine r_bs (xs := [.tmp 95]) (cs := [(Value.int .i64 x.Beam)]) rfl te57 tz3 rfl rfl rfl rfl (by simp [Value.cells]) rfl rfl fun b55 => ?_
 refine rS (CL (FnV.eq (in_beam 0 (((l.Beams.length : Nat) : Int) - 1) ([x.Beam]) (some ⟨b55, 0, none⟩) 1 (by first | assumption | omega | (simp; done) | (simp; omega))) inAll_one) (ha_cons (has_rd_blk 0 rfl rfl (by simp [iC_length]) rfl) <| ha_nil) rfl) ?_
 refine rS (NT rfl) ?_
 refine rS (MV rfl) ?_
 refine r_bool (t := 99) rfl (fun h99 => ?_) (fun h99 => ?_)
 · replace h99 := XT h99
   refine rS (OX rfl) ?_
   refine rS (OX rfl) ?_
   refine rS (OX rfl) ?_
   refine rS (OX rfl) ?_
   refine rS (OX rfl) ?_
   refine rS (PK rfl) ?_
   refine rS (MV rfl) ?_
   refine rS (OX rfl) ?_
   refine rS (OX rfl) ?_
   refine rS (OX rfl) ?_
   refine rS (OX rfl) ?_
   refine rS (OX rfl) ?_
   refine rS (PK rfl) ?_
   refine rS (MV rfl) ?_
   refine rS (OX rfl) ?_
   refine rS (OX rfl) ?_
   refine rS (OX rfl) ?_
   refine rS (OX rfl) ?_
   refine rS (OX rfl) ?_
   refine rS (OX rfl) ?_
   refine rS (OX rfl) ?_
   refine rS (OX rfl) ?_
   refine rS (OX rfl) ?_
   refine rS (OX rfl) ?_
   refine rS (OX rfl) ?_
   refine rS (OX rfl) ?_
   refine rS (PK rfl) ?_
   refine RK hK54 ?_
   refine w_if_true rfl ?_
   refine WS fun _ hK56 => ?_
   refine rS (AG rfl) ?_
   refine rS (AG rfl) ?_
   refine RK hK56 ?_
   refine w_ret ?_
   refine hQ _ _ _ (l_nil (vs := [(Value.pointer none), (Value.int .i64 51)]) ⟨rfl, rfl, trivial⟩ fun w hs => endX (false, 51, 0, none, 0, none, 0, [], [], [], none, 0, [], [], none, 0) [] ?_ ?_ rfl rfl (by first | rfl | (show List.all _ _ = true; simp only [cond_true, List.all_cons, List.all_nil, fm_wr, tm_wr, Bool.and_true]; rfl)) hs)
   · rfl
   · refine ⟨fun q => Bool.noConfusion (show false = true from q), fun _ => ?_⟩; first | (have e := open_line_e (r := r) (me := 0) h21; exact ⟨e.symm, fun q => h21 (e.symm.trans q)⟩) | (have e := open_ride_e (me := 0) h10 (fun q : RideOk l r => by have q1 := q.time; have q2 := q.len; omega); exact ⟨e.symm, fun q => absurd (e.symm.trans q) (by decide)⟩) | (have e := open_ride_e (me := 0) h10 (ride_no hx (by unfold SigOk SigIn; omega)); exact ⟨e.symm, fun q => absurd (e.symm.trans q) (by decide)⟩) | (have e := open_bad_e (me := 0) h10 hro (by first | rfl | exact h156) (show numsF (watchL l r) = [] from List.eq_nil_of_length_eq_zero (Int.natCast_eq_zero.1 h164)); exact ⟨e.symm, fun q => absurd (e.symm.trans q) (by decide)⟩)
 replace h99 := XF h99
 refine rS (FA 1 rfl fo30_1 rfl) ?_
 refine rS (L1 (Value.int .i64 x.Read) 1 rfl tk3 rfl rfl) ?_
 refine r_bs (xs := [.tmp 101]) (cs := [(Value.int .i64 x.Read)]) rfl te57 tz3 rfl rfl rfl rfl (by simp [Value.cells]) rfl rfl fun b57 => ?_
 refine rS (CL (FnV.eq (in_beam 0 86400000 ([x.Read]) (some ⟨b57, 0, none⟩) 1 (by first | assumption | omega | (simp; done) | (simp; omega))) inAll_one) (ha_cons (has_rd_blk 0 rfl rfl (by simp [iC_length]) rfl) <| ha_nil) rfl) ?_
 refine rS (NT rfl) ?_
 refine rS (PK rfl) ?_
 refine rS (MV rfl) ?_
 refine r_bool (t := 106) rfl (fun h106 => ?_) (fun h106 => ?_)
 · replace h106 := XT h106
   refine rS (OX rfl) ?_
   refine rS (OX rfl) ?_
   refine rS (OX rfl) ?_
   refine rS (OX rfl) ?_
   refine rS (OX rfl) ?_
   refine rS (PK rfl) ?_
   refine rS (MV rfl) ?_
   refine rS (OX rfl) ?_
   refine rS (OX rfl) ?_
   refine rS (OX rfl) ?_
   refine rS (OX rfl) ?_
   refine rS (OX rfl) ?_
   refine rS (OX rfl) ?_
   refine rS (OX rfl) ?_
   refine rS (OX rfl) ?_
   refine rS (OX rfl) ?_
   refine rS (OX rfl) ?_
   refine rS (OX rfl) ?_
   refine rS (OX rfl) ?_
   refine rS (PK rfl) ?_
   refine RK hK54 ?_
   refine w_if_true rfl ?_
   refine WS fun _ hK58 => ?_
   refine rS (AG rfl) ?_
   refine rS (AG rfl) ?_
   refine RK hK58 ?_
   refine w_ret ?_
   refine hQ _ _ _ (l_nil (vs := [(Value.pointer none), (Value.int .i64 51)]) ⟨rfl, rfl, trivial⟩ fun w hs => endX (false, 51, 0, none, 0, none, 0, [], [], [], none, 0, [], [], none, 0) [] ?_ ?_ rfl rfl (by first | rfl | (show List.all _ _ = true; simp only [cond_true, List.all_cons, List.all_nil, fm_wr, tm_wr, Bool.and_true]; rfl)) hs)
   · rfl
   · refine ⟨fun q => Bool.noConfusion (show false = true from q), fun _ => ?_⟩; first | (have e := open_line_e (r := r) (me := 0) h21; exact ⟨e.symm, fun q => h21 (e.symm.trans q)⟩) | (have e := open_ride_e (me := 0) h10 (fun q : RideOk l r => by have q1 := q.time; have q2 := q.len; omega); exact ⟨e.symm, fun q => absurd (e.symm.trans q) (by decide)⟩) | (have e := open_ride_e (me := 0) h10 (ride_no hx (by unfold SigOk SigIn; omega)); exact ⟨e.symm, fun q => absurd (e.symm.trans q) (by decide)⟩) | (have e := open_bad_e (me := 0) h10 hro (by first | rfl | exact h156) (show numsF (watchL l r) = [] from List.eq_nil_of_length_eq_zero (Int.natCast_eq_zero.1 h164)); exact ⟨e.symm, fun q => absurd (e.symm.trans q) (by decide)⟩)
 replace h106 := XF h106
 refine rS (FA 0 rfl fo30_0 rfl) ?_
 refine rS (L1 (Value.int .i64 x.Beam) 2 rfl tk3 rfl rfl) ?_
 refine rS (FA 0 rfl fo30_0 rfl) ?_
 refine rS (L1 (Value.int .i64 ((prevS r.Signals i).Beam)) 7 rfl tk3 rfl rfl) ?_
 refine rS (BI rfl b_lss) ?_
 refine rS (PK rfl) ?_
 refine rS (MV rfl) ?_
 refine r_bool (t := 113) rfl (fun h113 => ?_) (fun h113 => ?_)
 · replace h113 := DT h113
   refine rS (OX rfl) ?_
   refine rS (OX rfl) ?_
   refine rS (OX rfl) ?_
   refine rS (OX rfl) ?_
   refine rS (OX rfl) ?_
   refine rS (OX rfl) ?_
   refine rS (OX rfl) ?_
   refine rS (OX rfl) ?_
   refine rS (OX rfl) ?_
   refine rS (OX rfl) ?_
   refine rS (OX rfl) ?_
   refine rS (OX rfl) ?_
   refine rS (PK rfl) ?_
   refine RK hK54 ?_
   refine w_if_true rfl ?_
   refine WS fun _ hK59 => ?_
   refine rS (AG rfl) ?_
   refine rS (AG rfl) ?_
   refine RK hK59 ?_
   refine w_ret ?_
   refine hQ _ _ _ (l_nil (vs := [(Value.pointer none), (Value.int .i64 51)]) ⟨rfl, rfl, trivial⟩ fun w hs => endX (false, 51, 0, none, 0, none, 0, [], [], [], none, 0, [], [], none, 0) [] ?_ ?_ rfl rfl (by first | rfl | (show List.all _ _ = true; simp only [cond_true, List.all_cons, List.all_nil, fm_wr, tm_wr, Bool.and_true]; rfl)) hs)
   · rfl
   · refine ⟨fun q => Bool.noConfusion (show false = true from q), fun _ => ?_⟩; first | (have e := open_line_e (r := r) (me := 0) h21; exact ⟨e.symm, fun q => h21 (e.symm.trans q)⟩) | (have e := open_ride_e (me := 0) h10 (fun q : RideOk l r => by have q1 := q.time; have q2 := q.len; omega); exact ⟨e.symm, fun q => absurd (e.symm.trans q) (by decide)⟩) | (have e := open_ride_e (me := 0) h10 (ride_no hx (by unfold SigOk SigIn; omega)); exact ⟨e.symm, fun q => absurd (e.symm.trans q) (by decide)⟩) | (have e := open_bad_e (me := 0) h10 hro (by first | rfl | exact h156) (show numsF (watchL l r) = [] from List.eq_nil_of_length_eq_zero (Int.natCast_eq_zero.1 h164)); exact ⟨e.symm, fun q => absurd (e.symm.trans q) (by decide)⟩)
 replace h113 := DF h113
 refine rS (FA 0 rfl fo30_0 rfl) ?_
 refine rS (L1 (Value.int .i64 x.Beam) 2 rfl tk3 rfl rfl) ?_
 refine rS (FA 0 rfl fo30_0 rfl) ?_
 refine rS (L1 (Value.int .i64 ((prevS r.Signals i).Beam)) 7 rfl tk3 rfl rfl) ?_
 refine rS (BI rfl b_eql) ?_
 refine rS (MV rfl) ?_
 refine r_bool (t := 119) rfl (fun h119 => ?_) (fun h119 => ?_)
 rotate_left 1
 · replace h119 := DF h119
   refine rS (OX rfl) ?_
   refine rS (OX rfl) ?_
   refine rS (OX rfl) ?_
   refine rS (OX rfl) ?_
   refine rS (OX rfl) ?_
   refine rS (PK rfl) ?_
   refine rS (PK rfl) ?_
   refine RK hK54 ?_
   refine w_if_false rfl ?_
   refine WK hK53 ?_
   refine w_seq fun _ hK70 => ?_
   refine WS fun _ hK71 => ?_
   refine rS (LW 9 rfl tk28 rfl rfl) ?_
   refine rS (LW 2 rfl tk30 rfl rfl) ?_
   refine rS (CL (when_c l kA kC az cA cC bA bC x hin (by first | assumption | omega | (simp; done) | (simp; omega)) (by first | assumption | omega | (simp; done) | (simp; omega))) (ha_at 10 rfl rfl <| ha_at 11 rfl rfl <| ha_at 12 rfl rfl <| ha_at 13 rfl rfl <| ha_nil) rfl) ?_
   refine AL rfl tz34 fun b72 => ?_
   refine SW0 rfl ts34 rfl ?_
   refine RK hK71 ?_
   refine WS fun _ hK73 => ?_
   refine rS (FA 0 rfl fo34_0 rfl) ?_
   refine rS (L1 (Value.int .i64 ((whenF l x).Lo)) 0 rfl tk3 rfl rfl) ?_
   refine rS (FA 1 rfl fo34_1 rfl) ?_
   refine rS (L1 (Value.int .i64 ((whenF l x).Hi)) 0 rfl tk3 rfl rfl) ?_
   refine rS (BI rfl b_leq) ?_
   refine RK hK73 ?_
   refine w_if rfl (fun h134 => ?_) (fun h134 => ?_)
   rotate_left 1
   · replace h134 := DF h134
     refine WK hK70 ?_
     refine w_region ?_
     refine rS (LW 3 rfl tk30 rfl rfl) ?_
     refine SW8 rfl ts30 rfl ?_
     refine r_nil ?_
     refine k_block ?_
     refine KK hK50 ?_
     have hb77 : (SignalV.cells x) = (SignalV.cells (prevS r.Signals (i + 1))) := by rw [prevS_succ hx]
     rw [hb77]
     refine w_region ?_
     refine rS (BI rfl (b_add ⟨by omega, by omega⟩)) ?_
     refine rS (MV rfl) ?_
     refine r_nil ?_
     rw [show (timesT l r.Signals i) = (timesT l r.Signals (i + 1)) from (times_skip hx h134).symm]
     have hb78 : (Value.int .i64 (((i + 1) : Nat) : Int)) = (Value.int .i64 (((i : Nat) : Int) + 1)) := by exact congrArg (Value.int .i64) (by omega)
     refine k_then (hJ46 ⟨(i + 1), ⟨by omega, sigs_succ hl15_1 hx (by unfold SigOk SigIn; omega)⟩⟩ _ _ _ rfl (by first | omega | (simp; omega)) (Sub.cons rfl <| Sub.cons rfl <| Sub.cons rfl <| Sub.cons rfl <| Sub.cons rfl <| Sub.cons rfl <| Sub.cons rfl <| Sub.cons rfl <| Sub.cons rfl <| sub_val rfl hb78 <| Sub.nil _) (fun w hs => St.sel [4, 5, 6, 7, 8, 9, 10, 11, 12, 13, 14, 15] rfl rfl hs))
   replace h134 := DT h134
   obtain ⟨mb, hmb⟩ : ∃ y_, (timesT l r.Signals i)[(x.Beam).toNat]? = some y_ := ⟨(timesT l r.Signals i)[(x.Beam).toNat]'(by omega), List.getElem?_eq_getElem _⟩
   obtain ⟨ga, hga⟩ : ∃ y_, fb[(x.Beam).toNat]? = some y_ := ⟨fb[(x.Beam).toNat]'(by omega), List.getElem?_eq_getElem _⟩
   refine w_out 4 hmb hga rfl rfl rfl ?_
   try dsimp only
   refine w_draw mixed 10 (by kernel_rfl) ?_
   refine dS (MV rfl) ?_
   refine dS (SX (sd_nil_p rfl rfl) rfl rfl) ?_
   refine dS (FA 11 rfl fo142_3 rfl) ?_
   refine dS (L1 (Value.slice (some ⟨b19, 0, none⟩) l.Beams.length l.Beams.length) 7 rfl tk139 rfl rfl) ?_
   refine dS (FA 0 rfl fo30_0 rfl) ?_
   refine dS (L1 (Value.int .i64 x.Beam) 5 rfl tk3 rfl rfl) ?_
   have hk74 : (List.map oC (fillF fb l.Beams.length))[(x.Beam).toNat]? = some (oC (some ga)) := oC_at (fillF_at hga)
   refine dS (IA ((x.Beam).toNat) rfl (has_own_n (n := l.Beams.length) 8 rfl (by first | (simp; done) | (simp; omega))) te139 (by decide) (by omega) (by omega)) ?_
   refine dS (LE1 ((x.Beam).toNat) 0 (Value.map (some ga)) rfl tk143 (has_own_n (n := (fillF fb l.Beams.length).length) 8 rfl (by simp)) hk74 rfl (by decide) rfl) ?_
   refine dS (MV rfl) ?_
   refine dS (LW 2 rfl tk34 rfl rfl) ?_
   refine d_end ?_
   refine gr_mapset (kV := iV) (x := ((i : Nat) : Int)) (C' := [(gmp iV ga (gmapV spanU (gsetK mb ((i : Nat) : Int) (whenF l x)))), _, _, _, _, _, _, _, _, _, _, _, _, _, _, _, _]) 0 rfl rfl rfl rfl ut143 (gkey_int ut3) rfl (gmapV_setK _ _ _ _).symm rfl ?_
   refine RK hK70 ?_
   refine w_region ?_
   refine rS (LW 5 rfl tk30 rfl rfl) ?_
   refine SW9 rfl ts30 rfl ?_
   refine r_nil ?_
   refine k_block ?_
   refine KK hK50 ?_
   have hb75 : (SignalV.cells x) = (SignalV.cells (prevS r.Signals (i + 1))) := by rw [prevS_succ hx]
   rw [hb75]
   refine w_region ?_
   refine rS (BI rfl (b_add ⟨by omega, by omega⟩)) ?_
   refine rS (MV rfl) ?_
   refine r_nil ?_
   refine k_back (f := tmR) (ms := (timesT l r.Signals i)) (m := (gsetK mb ((i : Nat) : Int) (whenF l x))) 1 0 (by rw [timesT_len]; omega) hga rfl rfl rfl ?_
   rw [times_put hx (by omega) h134 hmb]
   have hb76 : (Value.int .i64 (((i + 1) : Nat) : Int)) = (Value.int .i64 (((i : Nat) : Int) + 1)) := by exact congrArg (Value.int .i64) (by omega)
   refine k_then (hJ46 ⟨(i + 1), ⟨by omega, sigs_succ hl15_1 hx (by unfold SigOk SigIn; omega)⟩⟩ _ _ _ rfl (by first | omega | (simp; omega)) (Sub.cons rfl <| Sub.cons rfl <| Sub.cons rfl <| Sub.cons rfl <| Sub.cons rfl <| Sub.cons rfl <| Sub.cons rfl <| Sub.cons rfl <| Sub.cons rfl <| sub_val rfl hb76 <| Sub.nil _) (fun w hs => St.sel [0, 5, 6, 7, 8, 9, 10, 11, 12, 13, 14, 15] rfl rfl hs))
 replace h119 := DT h119
 refine rS (FA 1 rfl fo30_1 rfl) ?_
 refine rS (L1 (Value.int .i64 x.Read) 2 rfl tk3 rfl rfl) ?_
 refine rS (FA 1 rfl fo30_1 rfl) ?_
 refine rS (L1 (Value.int .i64 ((prevS r.Signals i).Read)) 7 rfl tk3 rfl rfl) ?_
 refine rS (BI rfl b_leq) ?_
 refine rS (PK rfl) ?_
 refine rS (PK rfl) ?_
 refine RK hK54 ?_
 refine w_if rfl (fun h126 => ?_) (fun h126 => ?_)
 · replace h126 := DT h126
   refine WS fun _ hK60 => ?_
   refine rS (AG rfl) ?_
   refine rS (AG rfl) ?_
   refine RK hK60 ?_
   refine w_ret ?_
   refine hQ _ _ _ (l_nil (vs := [(Value.pointer none), (Value.int .i64 51)]) ⟨rfl, rfl, trivial⟩ fun w hs => endX (false, 51, 0, none, 0, none, 0, [], [], [], none, 0, [], [], none, 0) [] ?_ ?_ rfl rfl (by first | rfl | (show List.all _ _ = true; simp only [cond_true, List.all_cons, List.all_nil, fm_wr, tm_wr, Bool.and_true]; rfl)) hs)
   · rfl
   · refine ⟨fun q => Bool.noConfusion (show false = true from q), fun _ => ?_⟩; first | (have e := open_line_e (r := r) (me := 0) h21; exact ⟨e.symm, fun q => h21 (e.symm.trans q)⟩) | (have e := open_ride_e (me := 0) h10 (fun q : RideOk l r => by have q1 := q.time; have q2 := q.len; omega); exact ⟨e.symm, fun q => absurd (e.symm.trans q) (by decide)⟩) | (have e := open_ride_e (me := 0) h10 (ride_no hx (by unfold SigOk SigIn; omega)); exact ⟨e.symm, fun q => absurd (e.symm.trans q) (by decide)⟩) | (have e := open_bad_e (me := 0) h10 hro (by first | rfl | exact h156) (show numsF (watchL l r) = [] from List.eq_nil_of_length_eq_zero (Int.natCast_eq_zero.1 h164)); exact ⟨e.symm, fun q => absurd (e.symm.trans q) (by decide)⟩)
 replace h126 := DF h126
 refine WK hK53 ?_
 refine w_seq fun _ hK61 => ?_
 refine WS fun _ hK62 => ?_
 refine rS (LW 9 rfl tk28 rfl rfl) ?_
 refine rS (LW 2 rfl tk30 rfl rfl) ?_
 refine rS (CL (when_c l kA kC az cA cC bA bC x hin (by first | assumption | omega | (simp; done) | (simp; omega)) (by first | assumption | omega | (simp; done) | (simp; omega))) (ha_at 10 rfl rfl <| ha_at 11 rfl rfl <| ha_at 12 rfl rfl <| ha_at 13 rfl rfl <| ha_nil) rfl) ?_
 refine AL rfl tz34 fun b63 => ?_
 refine SW0 rfl ts34 rfl ?_
 refine RK hK62 ?_
 refine WS fun _ hK64 => ?_
 refine rS (FA 0 rfl fo34_0 rfl) ?_
 refine rS (L1 (Value.int .i64 ((whenF l x).Lo)) 0 rfl tk3 rfl rfl) ?_
 refine rS (FA 1 rfl fo34_1 rfl) ?_
 refine rS (L1 (Value.int .i64 ((whenF l x).Hi)) 0 rfl tk3 rfl rfl) ?_
 refine rS (BI rfl b_leq) ?_
 refine RK hK64 ?_
 refine w_if rfl (fun h134 => ?_) (fun h134 => ?_)
 rotate_left 1
 · replace h134 := DF h134
   refine WK hK61 ?_
   refine w_region ?_
   refine rS (LW 3 rfl tk30 rfl rfl) ?_
   refine SW8 rfl ts30 rfl ?_
   refine r_nil ?_
   refine k_block ?_
   refine KK hK50 ?_
   have hb68 : (SignalV.cells x) = (SignalV.cells (prevS r.Signals (i + 1))) := by rw [prevS_succ hx]
   rw [hb68]
   refine w_region ?_
   refine rS (BI rfl (b_add ⟨by omega, by omega⟩)) ?_
   refine rS (MV rfl) ?_
   refine r_nil ?_
   rw [show (timesT l r.Signals i) = (timesT l r.Signals (i + 1)) from (times_skip hx h134).symm]
   have hb69 : (Value.int .i64 (((i + 1) : Nat) : Int)) = (Value.int .i64 (((i : Nat) : Int) + 1)) := by exact congrArg (Value.int .i64) (by omega)
   refine k_then (hJ46 ⟨(i + 1), ⟨by omega, sigs_succ hl15_1 hx (by unfold SigOk SigIn; omega)⟩⟩ _ _ _ rfl (by first | omega | (simp; omega)) (Sub.cons rfl <| Sub.cons rfl <| Sub.cons rfl <| Sub.cons rfl <| Sub.cons rfl <| Sub.cons rfl <| Sub.cons rfl <| Sub.cons rfl <| Sub.cons rfl <| sub_val rfl hb69 <| Sub.nil _) (fun w hs => St.sel [4, 5, 6, 7, 8, 9, 10, 11, 12, 13, 14, 15] rfl rfl hs))
 replace h134 := DT h134
 obtain ⟨mb, hmb⟩ : ∃ y_, (timesT l r.Signals i)[(x.Beam).toNat]? = some y_ := ⟨(timesT l r.Signals i)[(x.Beam).toNat]'(by omega), List.getElem?_eq_getElem _⟩
 obtain ⟨ga, hga⟩ : ∃ y_, fb[(x.Beam).toNat]? = some y_ := ⟨fb[(x.Beam).toNat]'(by omega), List.getElem?_eq_getElem _⟩
 refine w_out 4 hmb hga rfl rfl rfl ?_
 try dsimp only
 refine w_draw mixed 10 (by kernel_rfl) ?_
 refine dS (MV rfl) ?_
 refine dS (SX (sd_nil_p rfl rfl) rfl rfl) ?_
 refine dS (FA 11 rfl fo142_3 rfl) ?_
 refine dS (L1 (Value.slice (some ⟨b19, 0, none⟩) l.Beams.length l.Beams.length) 7 rfl tk139 rfl rfl) ?_
 refine dS (FA 0 rfl fo30_0 rfl) ?_
 refine dS (L1 (Value.int .i64 x.Beam) 5 rfl tk3 rfl rfl) ?_
 have hk65 : (List.map oC (fillF fb l.Beams.length))[(x.Beam).toNat]? = some (oC (some ga)) := oC_at (fillF_at hga)
 refine dS (IA ((x.Beam).toNat) rfl (has_own_n (n := l.Beams.length) 8 rfl (by first | (simp; done) | (simp; omega))) te139 (by decide) (by omega) (by omega)) ?_
 refine dS (LE1 ((x.Beam).toNat) 0 (Value.map (some ga)) rfl tk143 (has_own_n (n := (fillF fb l.Beams.length).length) 8 rfl (by simp)) hk65 rfl (by decide) rfl) ?_
 refine dS (MV rfl) ?_
 refine dS (LW 2 rfl tk34 rfl rfl) ?_
 refine d_end ?_
 refine gr_mapset (kV := iV) (x := ((i : Nat) : Int)) (C' := [(gmp iV ga (gmapV spanU (gsetK mb ((i : Nat) : Int) (whenF l x)))), _, _, _, _, _, _, _, _, _, _, _, _, _, _, _, _]) 0 rfl rfl rfl rfl ut143 (gkey_int ut3) rfl (gmapV_setK _ _ _ _).symm rfl ?_
 refine RK hK61 ?_
 refine w_region ?_
 refine rS (LW 5 rfl tk30 rfl rfl) ?_
 refine SW9 rfl ts30 rfl ?_
 refine r_nil ?_
 refine k_block ?_
 refine KK hK50 ?_
 have hb66 : (SignalV.cells x) = (SignalV.cells (prevS r.Signals (i + 1))) := by rw [prevS_succ hx]
 rw [hb66]
 refine w_region ?_
 refine rS (BI rfl (b_add ⟨by omega, by omega⟩)) ?_
 refine rS (MV rfl) ?_
 refine r_nil ?_
 refine k_back (f := tmR) (ms := (timesT l r.Signals i)) (m := (gsetK mb ((i : Nat) : Int) (whenF l x))) 1 0 (by rw [timesT_len]; omega) hga rfl rfl rfl ?_
 rw [times_put hx (by omega) h134 hmb]
 have hb67 : (Value.int .i64 (((i + 1) : Nat) : Int)) = (Value.int .i64 (((i : Nat) : Int) + 1)) := by exact congrArg (Value.int .i64) (by omega)
 refine k_then (hJ46 ⟨(i + 1), ⟨by omega, sigs_succ hl15_1 hx (by unfold SigOk SigIn; omega)⟩⟩ _ _ _ rfl (by first | omega | (simp; omega)) (Sub.cons rfl <| Sub.cons rfl <| Sub.cons rfl <| Sub.cons rfl <| Sub.cons rfl <| Sub.cons rfl <| Sub.cons rfl <| Sub.cons rfl <| Sub.cons rfl <| sub_val rfl hb67 <| Sub.nil _) (fun w hs => St.sel [0, 5, 6, 7, 8, 9, 10, 11, 12, 13, 14, 15] rfl rfl hs))
end
section
open Go.RowKit
set_option linter.unusedVariables false
set_option maxRecDepth 100000 in
set_option maxHeartbeats 400000 in
theorem min_c (l : List Int) (lA : Option Addr) (lC : Nat) (hne : 1 ≤ l.length) (hlen : l.length ≤ 1000000) :
    FnV Try.prog 65 [(Value.slice lA l.length lC)] [(rd lA l.length 1 (l.map iC))] (Value.int .i64 (minL l)) := by
 refine fnV_of go65 Try.func65 rfl rfl fun w0 Q hQ hN => ?_
 try dsimp only
 refine WS fun _ hK1 => ?_
 refine rS (AG rfl) ?_
 refine RK hK1 ?_
 refine w_seq fun _ hK2 => ?_
 refine WS fun _ hK3 => ?_
 refine rS (MV rfl) ?_
 refine rS (LN rfl ut57) ?_
 refine rS (BI rfl b_lss) ?_
 refine RK hK3 ?_
 refine w_if rfl (fun h4 => ?_) (fun h4 => ?_)
 · replace h4 := DT h4
   exfalso; omega
 replace h4 := DF h4
 refine WK hK2 ?_
 refine WS fun _ hK5 => ?_
 refine rS (MV rfl) ?_
 obtain ⟨x0, hx0⟩ : ∃ y_, l[0]? = some y_ := ⟨l[0]'(by omega), List.getElem?_eq_getElem _⟩
 have hx0m : (l.map iC)[0]? = some (iC x0) := by rw [List.getElem?_map, hx0]; rfl
 refine rS (IA 0 rfl (has_at 0 rfl) te57 (by decide) rfl (by omega)) ?_
 refine rS (LE1 0 0 (Value.int .i64 x0) rfl tk3 (has_at 0 rfl) hx0m rfl (by decide) rfl) ?_
 refine rS (AG rfl) ?_
 refine RK hK5 ?_
 refine w_seq fun _ hK6 => ?_
 refine WS fun _ hK7 => ?_
 refine rS (AG rfl) ?_
 refine RK hK7 ?_
 refine w_block ?_
 have hinit : (1 ≤ 1 ∧ 1 ≤ l.length) := by omega
 have hb8 : (Value.int .i64 (minL (l.take 1))) = (Value.int .i64 x0) := by rw [take_min1 hx0]
 refine w_loop (ι := { z : Nat // (1 ≤ z ∧ z ≤ l.length) }) (fun z => [(0, (Value.slice lA l.length lC)), (3, (Value.int .i64 (minL (l.take z.1)))), (4, (Value.int .i64 ((z.1 : Nat) : Int)))]) (fun z => [(rd lA l.length 1 (l.map iC)).ro]) (fun z => l.length - z.1) ⟨1, hinit⟩ (Sub.cons rfl <| sub_val rfl hb8 <| Sub.cons rfl <| Sub.nil _) (fun w hs => St.sel [0] rfl rfl hs) ?_
 clear hinit
 rintro ⟨i, hl5_0⟩ J9 hJ9
 try dsimp only
 refine w_seq fun _ hK10 => ?_
 refine WS fun _ hK11 => ?_
 refine rS (MV rfl) ?_
 refine rS (MV rfl) ?_
 refine rS (LN rfl ut57) ?_
 refine rS (BI rfl b_lss) ?_
 refine RK hK11 ?_
 refine w_if rfl (fun h12 => ?_) (fun h12 => ?_)
 rotate_left 1
 · replace h12 := DF h12
   refine w_exit ?_
   refine k_exit_then ?_
   refine k_exit_then ?_
   refine k_exit_same ?_
   refine KK hK6 ?_
   refine WS fun _ hK16 => ?_
   refine rS (MV rfl) ?_
   refine rS (AG rfl) ?_
   refine RK hK16 ?_
   refine w_ret ?_
   refine Q1 hQ rfl rfl rfl ?_
   rw [List.take_of_length_le (by omega)]
 replace h12 := DT h12
 refine WK hK10 ?_
 refine w_seq fun _ hK13 => ?_
 refine w_block ?_
 refine w_region ?_
 refine rS (MV rfl) ?_
 refine rS (MV rfl) ?_
 refine rS (MV rfl) ?_
 obtain ⟨x0, hx0⟩ : ∃ y_, l[i]? = some y_ := ⟨l[i]'(by omega), List.getElem?_eq_getElem _⟩
 have hx0m : (l.map iC)[i]? = some (iC x0) := by rw [List.getElem?_map, hx0]; rfl
 refine rS (IA i rfl (has_at 0 rfl) te57 (by decide) (by omega) (by omega)) ?_
 refine rS (LE1 i 0 (Value.int .i64 x0) rfl tk3 (has_at 0 rfl) hx0m rfl (by decide) rfl) ?_
 refine rS (MN rfl) ?_
 refine rS (AG rfl) ?_
 refine r_nil ?_
 refine k_block ?_
 refine KK hK13 ?_
 refine w_region ?_
 refine rS (MV rfl) ?_
 refine rS (BI rfl (b_add ⟨by omega, by omega⟩)) ?_
 refine rS (AG rfl) ?_
 refine r_nil ?_
 have hb14 : (Value.int .i64 (minL (l.take (i + 1)))) = (Value.int .i64 (min (minL (l.take i)) x0)) := by rw [take_min hx0 (by omega)]
 have hb15 : (Value.int .i64 (((i + 1) : Nat) : Int)) = (Value.int .i64 (((i : Nat) : Int) + 1)) := by exact congrArg (Value.int .i64) (by omega)
 refine k_then (hJ9 ⟨(i + 1), (by first | omega | (simp only []; omega))⟩ _ _ _ rfl (by first | omega | (simp; omega)) (Sub.cons rfl <| sub_val rfl hb14 <| sub_val rfl hb15 <| Sub.nil _) (fun w hs => St.sel [0] rfl rfl hs))
set_option maxRecDepth 100000 in
set_option maxHeartbeats 400000 in
theorem max_c (l : List Int) (lA : Option Addr) (lC : Nat) (hne : 1 ≤ l.length) (hlen : l.length ≤ 1000000) :
    FnV Try.prog 66 [(Value.slice lA l.length lC)] [(rd lA l.length 1 (l.map iC))] (Value.int .i64 (maxL l)) := by
 refine fnV_of go66 Try.func66 rfl rfl fun w0 Q hQ hN => ?_
 try dsimp only
 refine WS fun _ hK1 => ?_
 refine rS (AG rfl) ?_
 refine RK hK1 ?_
 refine w_seq fun _ hK2 => ?_
 refine WS fun _ hK3 => ?_
 refine rS (MV rfl) ?_
 refine rS (LN rfl ut57) ?_
 refine rS (BI rfl b_lss) ?_
 refine RK hK3 ?_
 refine w_if rfl (fun h4 => ?_) (fun h4 => ?_)
 · replace h4 := DT h4
   exfalso; omega
 replace h4 := DF h4
 refine WK hK2 ?_
 refine WS fun _ hK5 => ?_
 refine rS (MV rfl) ?_
 obtain ⟨x0, hx0⟩ : ∃ y_, l[0]? = some y_ := ⟨l[0]'(by omega), List.getElem?_eq_getElem _⟩
 have hx0m : (l.map iC)[0]? = some (iC x0) := by rw [List.getElem?_map, hx0]; rfl
 refine rS (IA 0 rfl (has_at 0 rfl) te57 (by decide) rfl (by omega)) ?_
 refine rS (LE1 0 0 (Value.int .i64 x0) rfl tk3 (has_at 0 rfl) hx0m rfl (by decide) rfl) ?_
 refine rS (AG rfl) ?_
 refine RK hK5 ?_
 refine w_seq fun _ hK6 => ?_
 refine WS fun _ hK7 => ?_
 refine rS (AG rfl) ?_
 refine RK hK7 ?_
 refine w_block ?_
 have hinit : (1 ≤ 1 ∧ 1 ≤ l.length) := by omega
 have hb8 : (Value.int .i64 (maxL (l.take 1))) = (Value.int .i64 x0) := by rw [take_max1 hx0]
 refine w_loop (ι := { z : Nat // (1 ≤ z ∧ z ≤ l.length) }) (fun z => [(0, (Value.slice lA l.length lC)), (3, (Value.int .i64 (maxL (l.take z.1)))), (4, (Value.int .i64 ((z.1 : Nat) : Int)))]) (fun z => [(rd lA l.length 1 (l.map iC)).ro]) (fun z => l.length - z.1) ⟨1, hinit⟩ (Sub.cons rfl <| sub_val rfl hb8 <| Sub.cons rfl <| Sub.nil _) (fun w hs => St.sel [0] rfl rfl hs) ?_
 clear hinit
 rintro ⟨i, hl5_0⟩ J9 hJ9
 try dsimp only
 refine w_seq fun _ hK10 => ?_
 refine WS fun _ hK11 => ?_
 refine rS (MV rfl) ?_
 refine rS (MV rfl) ?_
 refine rS (LN rfl ut57) ?_
 refine rS (BI rfl b_lss) ?_
 refine RK hK11 ?_
 refine w_if rfl (fun h12 => ?_) (fun h12 => ?_)
 rotate_left 1
 · replace h12 := DF h12
   refine w_exit ?_
   refine k_exit_then ?_
   refine k_exit_then ?_
   refine k_exit_same ?_
   refine KK hK6 ?_
   refine WS fun _ hK16 => ?_
   refine rS (MV rfl) ?_
   refine rS (AG rfl) ?_
   refine RK hK16 ?_
   refine w_ret ?_
   refine Q1 hQ rfl rfl rfl ?_
   rw [List.take_of_length_le (by omega)]
 replace h12 := DT h12
 refine WK hK10 ?_
 refine w_seq fun _ hK13 => ?_
 refine w_block ?_
 refine w_region ?_
 refine rS (MV rfl) ?_
 refine rS (MV rfl) ?_
 refine rS (MV rfl) ?_
 obtain ⟨x0, hx0⟩ : ∃ y_, l[i]? = some y_ := ⟨l[i]'(by omega), List.getElem?_eq_getElem _⟩
 have hx0m : (l.map iC)[i]? = some (iC x0) := by rw [List.getElem?_map, hx0]; rfl
 refine rS (IA i rfl (has_at 0 rfl) te57 (by decide) (by omega) (by omega)) ?_
 refine rS (LE1 i 0 (Value.int .i64 x0) rfl tk3 (has_at 0 rfl) hx0m rfl (by decide) rfl) ?_
 refine rS (MX rfl) ?_
 refine rS (AG rfl) ?_
 refine r_nil ?_
 refine k_block ?_
 refine KK hK13 ?_
 refine w_region ?_
 refine rS (MV rfl) ?_
 refine rS (BI rfl (b_add ⟨by omega, by omega⟩)) ?_
 refine rS (AG rfl) ?_
 refine r_nil ?_
 have hb14 : (Value.int .i64 (maxL (l.take (i + 1)))) = (Value.int .i64 (max (maxL (l.take i)) x0)) := by rw [take_max hx0 (by omega)]
 have hb15 : (Value.int .i64 (((i + 1) : Nat) : Int)) = (Value.int .i64 (((i : Nat) : Int) + 1)) := by exact congrArg (Value.int .i64) (by omega)
 refine k_then (hJ9 ⟨(i + 1), (by first | omega | (simp only []; omega))⟩ _ _ _ rfl (by first | omega | (simp; omega)) (Sub.cons rfl <| sub_val rfl hb14 <| sub_val rfl hb15 <| Sub.nil _) (fun w hs => St.sel [0] rfl rfl hs))
end
section
open Go.RowKit
set_option linter.unusedVariables false
set_option maxRecDepth 100000 in
set_option maxHeartbeats 400000 in
theorem Where_c (l : LineM) (kA : Option Addr) (kC : Nat) (az : List RA) (cA : Option Addr) (cC : Nat) (bA : Option Addr) (bC : Nat) (r : RideM) (sgA : Option Addr) (sgC : Nat) (hin : LineIn l az) (hsl : r.Signals.length ≤ 1000000) :
    FnX Try.prog 27 [(Value.agg (LineV.cells (LineV.mk (TrackV.mk (Slc.mk kA l.Track.length kC)) l.Fast (Slc.mk cA l.Clocks.length cC) (Slc.mk bA l.Beams.length bC) l.Finish l.Fakes l.Misses)).toArray), (Value.agg (RideV.cells (RideV.mk r.Start r.Now (Slc.mk sgA r.Signals.length sgC))).toArray)] [(rd kA l.Track.length 9 (l.Track.map StretchV.cells)), (rd cA l.Clocks.length 2 (List.zipWith ClockM.cells l.Clocks az)), (bun (nest ClockM.rds l.Clocks az)), (rd bA l.Beams.length 4 (l.Beams.map BeamV.cells)), (rd sgA r.Signals.length 2 (r.Signals.map SignalV.cells))] (fun (x : (Option Addr) × Nat) => (Value.tuple [(Value.slice x.1 ((whereV l r).length) x.2), (Value.int .i64 (openE l r 0))].toArray)) (fun (x : (Option Addr) × Nat) => True) (fun (x : (Option Addr) × Nat) => [(own x.1 x.2 3 1 ((whereV l r).map iC))]) := by
 have htk := hin.trk
 have hck := hin.cks
 have has := hin.as_
 have hbm := hin.bms
 have hsd := hin.side
 refine fnX_of go27 Try.func27 rfl rfl fun w0 Q hQ hN => ?_
 try dsimp only
 refine WS fun _ hK1 => ?_
 refine BXA rfl fun b2 => ?_
 refine BXA rfl fun b3 => ?_
 refine rS (AG rfl) ?_
 refine rS (AG rfl) ?_
 refine RK hK1 ?_
 refine WS fun _ hK4 => ?_
 refine rS (LW 1 rfl tk28 rfl rfl) ?_
 refine rS (LW 0 rfl tk69 rfl rfl) ?_
 refine cX (open0_c l kA kC az cA cC bA bC r sgA sgC hin hsl) (ha_at 2 rfl rfl <| ha_at 3 rfl rfl <| ha_at 4 rfl rfl <| ha_at 5 rfl rfl <| ha_at 6 rfl rfl <| ha_nil) rfl fun y5 hy6 => ?_
 obtain ⟨ok22, ec7, gw8, eA9, eC10, tA11, tC12, tb13, fs14, fb15, fA16, fC17, bs18, bb19, qA20, qC21⟩ := y5
 cases ok22
 · obtain ⟨hec, he⟩ := hy6.2 rfl
   try dsimp only at hec he
   subst hec
   try dsimp only [cond_true, cond_false, List.cons_append, List.nil_append]
   refine rS (MV rfl) ?_
   refine rS (EX rfl) ?_
   refine rS (EX rfl) ?_
   refine rS (AG rfl) ?_
   refine rS (AG rfl) ?_
   refine RK hK4 ?_
   refine w_seq fun _ hK23 => ?_
   refine WS fun _ hK24 => ?_
   refine rS (MV rfl) ?_
   refine rS (BI rfl b_neq) ?_
   refine RK hK24 ?_
   refine w_if rfl (fun h15 => ?_) (fun h15 => ?_)
   rotate_left 1
   · replace h15 := XF h15
     exact absurd h15 he
   replace h15 := XT h15
   refine WS fun _ hK25 => ?_
   refine r_own_nil 3 1 ?_
   rw [show (own none 0 3 1 ([] : List (List Value))) = own none 0 3 1 ((whereV l r).map iC) from by rw [whereV_no he]; rfl]
   refine rS (MV rfl) ?_
   refine rS (AG rfl) ?_
   refine rS (AG rfl) ?_
   refine RK hK25 ?_
   refine w_ret ?_
   refine hQ _ _ _ (l_nil (vs := [(Value.slice none 0 0), (Value.int .i64 (openE l r 0))]) ⟨rfl, rfl, trivial⟩ fun w hs => endX (none, 0) [0] ?_ ?_ rfl rfl rfl hs)
   · first | rfl | (rw [he]; rfl) | (rw [whereV_no he]; rfl)
   · trivial
 obtain ⟨he, hfw, hbw, hfl, hbl, htl⟩ := hy6.1 rfl
 try dsimp only [cond_true, cond_false, List.cons_append, List.nil_append]
 dsimp only at hfw hbw hfl hbl htl
 obtain ⟨h10, hro, hme, hnn⟩ := openE_zero he
 obtain ⟨htr, hok⟩ := lineE_zero h10
 have hhd := hok.head
 unfold HeadOk at hhd
 have hwo := watch_ok htr hok hro
 have hrt := hro.time
 have hrl := hro.len
 have hlel : (leasts l l.Beams.length).length = l.Beams.length := leasts_len
 have htll : (timesT l r.Signals r.Signals.length).length = l.Beams.length := timesT_len
 have hfn : fs14.length = l.Beams.length + 1 := by have := hfw.len; rw [show (watchL l r).n = l.Beams.length from leasts_len] at this; exact this
 have hbn : bs18.length = l.Beams.length + 1 := by have := hbw.len; rw [show (watchL l r).n = l.Beams.length from leasts_len] at this; exact this
 refine rS (MV rfl) ?_
 refine rS (EX rfl) ?_
 refine rS (EX rfl) ?_
 refine rS (AG rfl) ?_
 refine rS (AG rfl) ?_
 refine RK hK4 ?_
 refine w_seq fun _ hK26 => ?_
 refine WS fun _ hK27 => ?_
 refine rS (MV rfl) ?_
 refine rS (SX (sd_bin (r := .bool false) rfl rfl rfl b_neq) rfl rfl) ?_
 refine RK hK27 ?_
 refine w_if_false rfl ?_
 refine WK hK26 ?_
 refine WS fun _ hK28 => ?_
 refine rS (MV rfl) ?_
 refine cX (numbers_c (LineV.mk (TrackV.mk (Slc.mk kA l.Track.length kC)) l.Fast (Slc.mk cA l.Clocks.length cC) (Slc.mk bA l.Beams.length bC) l.Finish l.Fakes l.Misses) (RideV.mk r.Start r.Now (Slc.mk sgA r.Signals.length sgC)) (leasts l l.Beams.length) (timesT l r.Signals r.Signals.length) eA9 eC10 tb13 tA11 tC12 fs14 bs18 fb15 fA16 fC17 bb19 qA20 qC21 gw8 (by exact hwo) (by first | assumption | omega | (simp; done) | (simp; omega)) (by exact leasts_len.symm) (by exact hfw) (by first | assumption | omega | (simp; done) | (simp; omega))) (ha_cons (has_own_n (n := (leasts l l.Beams.length).length) 1 rfl (by simp)) <| ha_cons (has_own_n (n := (timesT l r.Signals r.Signals.length).length) 2 rfl (by rw [List.length_zipWith]; omega)) <| ha_cons (bun_bund 3 rfl bun_same) <| ha_cons (has_own_n (n := fs14.length) 4 rfl (by rw [List.length_zipWith]; omega)) <| ha_cons (bun_bund 5 rfl bun_same) <| ha_cons (has_own_n (n := bs18.length) 6 rfl (by rw [List.length_zipWith]; omega)) <| ha_cons (bun_bund 7 rfl bun_same) <| ha_at 0 rfl rfl <| ha_nil) rfl fun y29 hy30 => ?_
 obtain ⟨a31, c32⟩ := y29
 try dsimp only
 rw [show (numsF (watchOf (LineV.mk (TrackV.mk (Slc.mk kA l.Track.length kC)) l.Fast (Slc.mk cA l.Clocks.length cC) (Slc.mk bA l.Beams.length bC) l.Finish l.Fakes l.Misses) (RideV.mk r.Start r.Now (Slc.mk sgA r.Signals.length sgC)) (leasts l l.Beams.length) (timesT l r.Signals r.Signals.length))) = whereV l r from (whereV_ok he).symm]
 refine rS (AG rfl) ?_
 refine rS (AG rfl) ?_
 refine RK hK28 ?_
 refine w_ret ?_
 refine hQ _ _ _ (l_nil (vs := [(Value.slice a31 ((whereV l r).length) c32), (Value.int .i64 0)]) ⟨rfl, rfl, trivial⟩ fun w hs => endX (a31, c32) [0] ?_ ?_ rfl rfl rfl hs)
 · first | rfl | (rw [he]; rfl) | (rw [whereV_no he]; rfl)
 · trivial
set_option maxRecDepth 100000 in
set_option maxHeartbeats 400000 in
theorem Clear_c (l : LineM) (kA : Option Addr) (kC : Nat) (az : List RA) (cA : Option Addr) (cC : Nat) (bA : Option Addr) (bC : Nat) (r : RideM) (sgA : Option Addr) (sgC : Nat) (hin : LineIn l az) (hsl : r.Signals.length ≤ 1000000) :
    FnV Try.prog 31 [(Value.agg (LineV.cells (LineV.mk (TrackV.mk (Slc.mk kA l.Track.length kC)) l.Fast (Slc.mk cA l.Clocks.length cC) (Slc.mk bA l.Beams.length bC) l.Finish l.Fakes l.Misses)).toArray), (Value.agg (RideV.cells (RideV.mk r.Start r.Now (Slc.mk sgA r.Signals.length sgC))).toArray)] [(rd kA l.Track.length 9 (l.Track.map StretchV.cells)), (rd cA l.Clocks.length 2 (List.zipWith ClockM.cells l.Clocks az)), (bun (nest ClockM.rds l.Clocks az)), (rd bA l.Beams.length 4 (l.Beams.map BeamV.cells)), (rd sgA r.Signals.length 2 (r.Signals.map SignalV.cells))] (Value.tuple [(Value.int .u8 (clearV l r)), (Value.int .i64 (openE l r 0))].toArray) := by
 have htk := hin.trk
 have hck := hin.cks
 have has := hin.as_
 have hbm := hin.bms
 have hsd := hin.side
 refine fnV_of go31 Try.func31 rfl rfl fun w0 Q hQ hN => ?_
 try dsimp only
 refine WS fun _ hK1 => ?_
 refine BXA rfl fun b2 => ?_
 refine BXA rfl fun b3 => ?_
 refine rS (AG rfl) ?_
 refine rS (AG rfl) ?_
 refine RK hK1 ?_
 refine WS fun _ hK4 => ?_
 refine rS (LW 1 rfl tk28 rfl rfl) ?_
 refine rS (LW 0 rfl tk69 rfl rfl) ?_
 refine cX (Where_c l kA kC az cA cC bA bC r sgA sgC hin hsl) (ha_at 2 rfl rfl <| ha_at 3 rfl rfl <| ha_at 4 rfl rfl <| ha_at 5 rfl rfl <| ha_at 6 rfl rfl <| ha_nil) rfl fun y5 hy6 => ?_
 obtain ⟨a7, c8⟩ := y5
 try dsimp only
 refine rS (MV rfl) ?_
 refine rS (EX rfl) ?_
 refine rS (EX rfl) ?_
 refine rS (AG rfl) ?_
 refine rS (AG rfl) ?_
 refine RK hK4 ?_
 refine w_seq fun _ hK9 => ?_
 refine w_block ?_
 refine WS fun _ hK10 => ?_
 refine rS (MV rfl) ?_
 refine rS (BI rfl b_neq) ?_
 refine rS (AG rfl) ?_
 refine RK hK10 ?_
 refine w_if rfl (fun h14 => ?_) (fun h14 => ?_)
 · replace h14 := XT h14
   refine WS fun _ hK11 => ?_
   refine rS (MV rfl) ?_
   refine rS (AG rfl) ?_
   refine rS (AG rfl) ?_
   refine RK hK11 ?_
   refine w_ret ?_
   refine Q2 hQ rfl rfl rfl rfl ?_
   first | (rw [show clearV l r = 0 from if_neg h14]; done) | (rw [h14, show clearV l r = 2 from by unfold clearV; rw [if_pos h14, if_pos h18]]; done) | (rw [h14, show clearV l r = 0 from by unfold clearV; rw [if_pos h14, if_neg h18, if_pos h24]]; done) | (rw [h14, show clearV l r = 1 from by unfold clearV; rw [if_pos h14, if_neg h18, if_neg h24]]; done)
 replace h14 := XF h14
 refine w_seq fun _ hK12 => ?_
 refine w_draw mixed 6 (by kernel_rfl) ?_
 refine dS (MV rfl) ?_
 refine dS (CL (min_c (whereV l r) a7 c8 (by exact whereV_pos h14) (by have := whereV_len (l := l) (r := r); omega)) (ha_cons (has_own_n (n := (whereV l r).length) 0 rfl (by simp)) <| ha_nil) rfl) ?_
 refine dS (FA 4 rfl fo28_4 rfl) ?_
 refine dS (L1 (Value.int .i64 l.Finish) 2 rfl tk3 rfl rfl) ?_
 refine dS (BI rfl b_gtr) ?_
 refine dS (AG rfl) ?_
 refine d_end ?_
 refine RK hK12 ?_
 refine w_if rfl (fun h18 => ?_) (fun h18 => ?_)
 · replace h18 := DT h18
   refine WS fun _ hK13 => ?_
   refine rS (AG rfl) ?_
   refine rS (AG rfl) ?_
   refine RK hK13 ?_
   refine w_ret ?_
   refine Q2 hQ rfl rfl rfl rfl ?_
   first | (rw [show clearV l r = 0 from if_neg h14]; done) | (rw [h14, show clearV l r = 2 from by unfold clearV; rw [if_pos h14, if_pos h18]]; done) | (rw [h14, show clearV l r = 0 from by unfold clearV; rw [if_pos h14, if_neg h18, if_pos h24]]; done) | (rw [h14, show clearV l r = 1 from by unfold clearV; rw [if_pos h14, if_neg h18, if_neg h24]]; done)
 replace h18 := DF h18
 refine w_seq fun _ hK14 => ?_
 refine w_draw mixed 6 (by kernel_rfl) ?_
 refine dS (MV rfl) ?_
 refine dS (CL (max_c (whereV l r) a7 c8 (by exact whereV_pos h14) (by have := whereV_len (l := l) (r := r); omega)) (ha_cons (has_own_n (n := (whereV l r).length) 0 rfl (by simp)) <| ha_nil) rfl) ?_
 refine dS (FA 4 rfl fo28_4 rfl) ?_
 refine dS (L1 (Value.int .i64 l.Finish) 2 rfl tk3 rfl rfl) ?_
 refine dS (BI rfl b_leq) ?_
 refine dS (AG rfl) ?_
 refine d_end ?_
 refine RK hK14 ?_
 refine w_if rfl (fun h24 => ?_) (fun h24 => ?_)
 · replace h24 := DT h24
   refine WS fun _ hK15 => ?_
   refine rS (AG rfl) ?_
   refine rS (AG rfl) ?_
   refine RK hK15 ?_
   refine w_ret ?_
   refine Q2 hQ rfl rfl rfl rfl ?_
   first | (rw [show clearV l r = 0 from if_neg h14]; done) | (rw [h14, show clearV l r = 2 from by unfold clearV; rw [if_pos h14, if_pos h18]]; done) | (rw [h14, show clearV l r = 0 from by unfold clearV; rw [if_pos h14, if_neg h18, if_pos h24]]; done) | (rw [h14, show clearV l r = 1 from by unfold clearV; rw [if_pos h14, if_neg h18, if_neg h24]]; done)
 replace h24 := DF h24
 refine w_skip ?_
 refine k_block ?_
 refine KK hK9 ?_
 refine WS fun _ hK16 => ?_
 refine rS (AG rfl) ?_
 refine rS (AG rfl) ?_
 refine RK hK16 ?_
 refine w_ret ?_
 refine Q2 hQ rfl rfl rfl rfl ?_
 first | (rw [show clearV l r = 0 from if_neg h14]; done) | (rw [h14, show clearV l r = 2 from by unfold clearV; rw [if_pos h14, if_pos h18]]; done) | (rw [h14, show clearV l r = 0 from by unfold clearV; rw [if_pos h14, if_neg h18, if_pos h24]]; done) | (rw [h14, show clearV l r = 1 from by unfold clearV; rw [if_pos h14, if_neg h18, if_neg h24]]; done)
end
section
open Go.RowKit
set_option linter.unusedVariables false
set_option maxRecDepth 100000 in
set_option maxHeartbeats 400000 in
theorem passes1_c (ln : LineV) (ri : RideV) (e : List Int) (tms : List TM) (e_A : Option Addr) (e_C : Nat) (tb : List Nat) (t_A : Option Addr) (t_C : Nat) (fs : List FM) (bs : List FM) (fb : List Nat) (f_A : Option Addr) (f_C : Nat) (bb : List Nat) (b_A : Option Addr) (b_C : Nat) (gw : Nat) (b : Nat) (g1 : Nat) (g2 : Nat) (mf : FM) (mb : FM) (hb : b < e.length) (hw : WOk (watchOf ln ri e tms)) (htb : tb.length = tms.length) (hfw : FwdOk (watchOf ln ri e tms) fs) (hfb : fb.length = fs.length) (hbw : BackOk (watchOf ln ri e tms) bs) (hbb : bb.length = bs.length) (hsg : ri.Signals.n ≤ 1000) (hm1 : fs[b]? = some mf) (hm2 : bs[b + 1]? = some mb) :
    SeqG Try.prog 96 [] [(Value.pointer (some ⟨g1, 0, none⟩)), (Value.pointer (some ⟨g2, 0, none⟩))] [(rd e_A e.length 1 (e.map iC)), (rd t_A tms.length 1 (List.zipWith mapC tms tb)), (bun (nest tmR tms tb)), (rd f_A fs.length 1 (List.zipWith mapC fs fb)), (bun (nest fmR fs fb)), (rd b_A bs.length 1 (List.zipWith mapC bs bb)), (bun (nest fmR bs bb)), (blk gw 142 (WatchV.cells (WatchV.mk ln ri (Slc.mk e_A e.length e_C) (Slc.mk t_A tms.length t_C) (Slc.mk f_A fs.length f_C) (Slc.mk b_A bs.length b_C)))), (blk g1 107 [(Value.pointer (some ⟨gw, 0, none⟩))]), (blk g2 3 [(Value.int .i64 ((b : Nat) : Int))])] ([] : List (Int × SpanV)) (fun ys x ys' => ∃ q, q ∈ passM (watchOf ln ri e tms) b mf mb ∧ x = itemV q ∧ ys' = ys ++ [q]) (fun ys => ∀ q ∈ passM (watchOf ln ri e tms) b mf mb, q ∈ ys) := by
 have hw6 : e.length ≤ 6 := hw.n
 have hwt : tms.length = e.length := hw.times
 have hfl : fs.length = e.length + 1 := hfw.len
 have hbl : bs.length = e.length + 1 := hbw.len
 refine seqG_of go96 Try.func96 rfl rfl fun l J Z A0 w0 Q hY hJ0 hF0 hQ hN => ?_
 try dsimp only
 refine WS fun _ hK1 => ?_
 refine BX1 rfl rfl fun b2 => ?_
 refine RK hK1 ?_
 refine WS fun _ hK3 => ?_
 refine rS (L1Q 10 rfl tk107 rfl) ?_
 refine rS (L1Q 11 rfl tk3 rfl) ?_
 refine cX (options_c gw b) (ha_nil) rfl fun y4 hy5 => ?_
 obtain ⟨x16, x27⟩ := y4
 try dsimp only
 refine RK hK3 ?_
 refine w_block ?_
 refine w_dup 4 rfl (by exact fun _ h => h) ?_
 refine w_dup 6 rfl (by exact fun _ h => h) ?_
 refine w_dup 8 rfl (by exact fun _ h => h) ?_
 refine w_dup 14 rfl (by exact fun _ h => h) ?_
 refine w_rangeG (L0 := [(0, (Value.func (.yield l) #[] #[])), (1, (Value.pointer (some ⟨g1, 0, none⟩))), (2, (Value.pointer (some ⟨g2, 0, none⟩))), (3, (Value.pointer (some ⟨b2, 0, none⟩)))]) (F := [(rd e_A e.length 1 (e.map iC)).ro, (rd t_A tms.length 1 (List.zipWith mapC tms tb)).ro, (bun (nest tmR tms tb)).ro, (blk gw 142 (WatchV.cells (WatchV.mk ln ri (Slc.mk e_A e.length e_C) (Slc.mk t_A tms.length t_C) (Slc.mk f_A fs.length f_C) (Slc.mk b_A bs.length b_C)))).ro, (blk x16 107 [(Value.pointer (some ⟨gw, 0, none⟩))]), (blk x27 3 [(Value.int .i64 ((b : Nat) : Int))])])  (fun k (y : (List (Int × SpanV)) × Assn) => (PDone (watchOf ln ri e tms) b mf mb k y.1) ∧ (J y.1 y.2) ∧ (Fo A0 w0 y.2)) (fun k y => [(blk b2 148 [(Value.func (.yield l) #[] #[])]), y.2, (rd e_A e.length 1 (e.map iC)).ro, (rd t_A tms.length 1 (List.zipWith mapC tms tb)).ro, (bun (nest tmR tms tb)).ro, (rd f_A fs.length 1 (List.zipWith mapC fs fb)).ro, (bun (nest fmR fs fb)).ro, (rd b_A bs.length 1 (List.zipWith mapC bs bb)).ro, (bun (nest fmR bs bb)).ro, (blk gw 142 (WatchV.cells (WatchV.mk ln ri (Slc.mk e_A e.length e_C) (Slc.mk t_A tms.length t_C) (Slc.mk f_A fs.length f_C) (Slc.mk b_A bs.length b_C)))).ro, (blk g1 107 [(Value.pointer (some ⟨gw, 0, none⟩))]).ro, (blk g2 3 [(Value.int .i64 ((b : Nat) : Int))]).ro]) (fun c (z : Assn) => (c = .ret ∧ (Z z) ∧ (Fo A0 w0 z))) (fun _ z => [(blk b2 148 [(Value.func (.yield l) #[] #[])]), z, (rd e_A e.length 1 (e.map iC)).ro, (rd t_A tms.length 1 (List.zipWith mapC tms tb)).ro, (bun (nest tmR tms tb)).ro, (rd f_A fs.length 1 (List.zipWith mapC fs fb)).ro, (bun (nest fmR fs fb)).ro, (rd b_A bs.length 1 (List.zipWith mapC bs bb)).ro, (bun (nest fmR bs bb)).ro, (blk gw 142 (WatchV.cells (WatchV.mk ln ri (Slc.mk e_A e.length e_C) (Slc.mk t_A tms.length t_C) (Slc.mk f_A fs.length f_C) (Slc.mk b_A bs.length b_C)))).ro, (blk g1 107 [(Value.pointer (some ⟨gw, 0, none⟩))]).ro, (blk g2 3 [(Value.int .i64 ((b : Nat) : Int))]).ro]) [6, 7, 8, 9, 10, 11, 12, 13, 14, 15, 16, 17] [3, 2, 1, 0, 4, 5] (([] : List (Int × SpanV)), A0) rfl rfl (options1_c ln ri e tms e_A e_C tb t_A t_C f_A fs.length f_C b_A bs.length b_C gw b x16 x27 (by omega) (by omega)) rfl rfl rfl (by exact ⟨PDone.nil, hJ0, hF0⟩) (by simp only [List.forall_mem_cons, List.not_mem_nil, false_imp_iff, implies_true, and_true]; exact ⟨⟨_, List.mem_of_getElem? (i := 0) rfl, (cov_ro (cov_refl _))⟩, ⟨_, List.mem_of_getElem? (i := 1) rfl, (cov_ro (cov_refl _))⟩, ⟨_, List.mem_of_getElem? (i := 2) rfl, (cov_ro (cov_refl _))⟩, ⟨_, List.mem_of_getElem? (i := 3) rfl, (cov_ro (cov_refl _))⟩, ⟨_, List.mem_of_getElem? (i := 4) rfl, (cov_refl _)⟩, ⟨_, List.mem_of_getElem? (i := 5) rfl, (cov_refl _)⟩⟩) (by rintro k x k2 ⟨o, _, rfl, _⟩; rfl) rfl (Sub.cons rfl <| Sub.cons rfl <| Sub.cons rfl <| Sub.cons rfl <| Sub.nil _) ?_ ?_ ?_ ?_
 rotate_left 1
 · rintro r37 k ⟨ys, A⟩ hfin hin38
   obtain ⟨hr0, hr1, hr2⟩ := hin38
   try dsimp only at hr0 hr1 hr2
   try dsimp only
   refine k_block ?_
   refine hN _ _ _ (l_mark 0 rfl rfl <| l_nil (vs := []) trivial fun w hs => endG 8 rfl (by exact PDone.fin hr0 hfin) hr1 hr2 hs)
 · rintro r39 id A hx40
   simp at hx40
 · rintro r41 A hx42
   obtain ⟨hc, hq0, hq1⟩ := hx42
   try dsimp only
   refine hQ _ _ _ (l_mark 0 rfl rfl <| l_nil (vs := []) trivial fun w hs => endGz 8 rfl hq0 hq1 hs)
 rintro k x k2 ⟨ys, A⟩ lr ra rb S w1 K8 Qr9 hsz hx hin10 hK8 hQr9 xQr9 yQr9
 obtain ⟨o, ho, rfl, rfl⟩ := hx
 obtain ⟨hr0, hr1, hr2⟩ := hin10
 try dsimp only at hr0 hr1 hr2
 try dsimp only
 refine WS fun _ hK11 => ?_
 refine rS (AG rfl) ?_
 refine RK hK11 ?_
 refine w_region ?_
 refine AL rfl tz34 fun b12 => ?_
 refine SW0 rfl ts34 rfl ?_
 refine r_nil ?_
 refine k_sub (fun _ _ h => h) (fun w hs => St.sel [1, 0, 2, 3, 4, 5, 6, 7, 8, 9, 10, 11, 12, 13] rfl rfl hs) ?_
 refine k_then (hK8 _ _ ?_)
 refine w_block ?_
 refine w_seq fun _ hK13 => ?_
 refine w_draw mixed 7 (by kernel_rfl) ?_
 refine dS (L1Q 12 rfl tk107 rfl) ?_
 refine dS (SX (sd_nil_p rfl rfl) rfl rfl) ?_
 refine dS (FA 12 rfl fo142_4 rfl) ?_
 refine dS (L1R (Value.slice f_A fs.length f_C) 11 rfl tk140 rfl rfl) ?_
 refine dS (L1Q 13 rfl tk3 rfl) ?_
 obtain ⟨ga, hga⟩ : ∃ y_, fb[b]? = some y_ := ⟨fb[b]'(by omega), List.getElem?_eq_getElem _⟩
 have hgam : (List.zipWith mapC fs fb)[b]? = some (mapC mf ga) := zip_get hm1 hga
 refine dS (IA b rfl (has_at 7 rfl) te140 (by decide) (by omega) (by omega)) ?_
 refine dS (LE1 b 0 (Value.map (some ga)) rfl tk144 (has_at 7 rfl) hgam rfl (by decide) rfl) ?_
 refine d_end ?_
 refine gr_mrangeR (kV := tallyU) (m := gmapV iV mf) 8 rfl rfl ut144 rfl ⟨⟨(gmp tallyU ga (gmapV iV mf)), (mem_nest hm1 hga (by simp [fmR])), rfl⟩, fun h => h⟩ (show Has _ (gmp tallyU ga (gmapV iV mf)).holds from has_inr 8 rfl (mem_nest hm1 hga (by simp [fmR]))) rfl fun r14 => ?_
 try dsimp only
 refine RK hK13 ?_
 refine w_block ?_
 have hinit : (∀ p ∈ mf, p ∈ mf) ∧ (PLeft (watchOf ln ri e tms) b mf mb o mf ys) ∧ (PDone (watchOf ln ri e tms) b mf mb k ys) ∧ (J ys A) ∧ (Fo A0 w0 A) := by exact ⟨fun p hp => hp, PLeft.start, hr0, hr1, hr2⟩
 refine w_loop (ι := { z : FM × (List (Int × SpanV)) × Assn // (∀ p ∈ z.1, p ∈ mf) ∧ (PLeft (watchOf ln ri e tms) b mf mb o z.1 z.2.1) ∧ (PDone (watchOf ln ri e tms) b mf mb k z.2.1) ∧ (J z.2.1 z.2.2) ∧ (Fo A0 w0 z.2.2) }) (fun z => [(0, (Value.func (.yield l) #[] #[])), (1, (Value.pointer (some ⟨g1, 0, none⟩))), (2, (Value.pointer (some ⟨g2, 0, none⟩))), (3, (Value.pointer (some ⟨b2, 0, none⟩))), (4, (Value.int .i64 o.1)), (5, (Value.pointer (some ⟨b12, 0, none⟩))), (23, (Value.pointer (some ⟨r14, 0, none⟩)))]) (fun z => [(gmr tallyU r14 ga (gmapV iV mf) (gmapV iV z.1.1) none), (obj lr (.loop rb)), (blk b12 34 (SpanV.cells o.2)), (blk b2 148 [(Value.func (.yield l) #[] #[])]), z.1.2.2, (rd e_A e.length 1 (e.map iC)).ro, (rd t_A tms.length 1 (List.zipWith mapC tms tb)).ro, (bun (nest tmR tms tb)).ro, (rd f_A fs.length 1 (List.zipWith mapC fs fb)).ro, (bun (nest fmR fs fb)).ro, (rd b_A bs.length 1 (List.zipWith mapC bs bb)).ro, (bun (nest fmR bs bb)).ro, (blk gw 142 (WatchV.cells (WatchV.mk ln ri (Slc.mk e_A e.length e_C) (Slc.mk t_A tms.length t_C) (Slc.mk f_A fs.length f_C) (Slc.mk b_A bs.length b_C)))).ro, (blk g1 107 [(Value.pointer (some ⟨gw, 0, none⟩))]).ro, (blk g2 3 [(Value.int .i64 ((b : Nat) : Int))]).ro]) (fun z => z.1.1.length) ⟨(mf, ys, A), hinit⟩ (Sub.cons rfl <| Sub.cons rfl <| Sub.cons rfl <| Sub.cons rfl <| Sub.cons rfl <| Sub.cons rfl <| Sub.cons rfl <| Sub.nil _) (fun w hs => St.sel [0, 1, 2, 3, 4, 5, 6, 7, 8, 9, 10, 11, 12, 13, 14] rfl rfl hs) ?_
 clear hinit
 rintro ⟨⟨left, ys, A⟩, ⟨hl5_0, hl5_1, hl5_2, hl5_3, hl5_4⟩⟩ J15 hJ15
 try dsimp only at hl5_0 hl5_1 hl5_2 hl5_3 hl5_4
 try dsimp only
 refine WS fun _ hK16 => ?_
 refine gr_mnextR_v gk146.inj (f := iV) 0 rfl rfl rfl rfl (fun h24 => ?_) (fun t v hm hn => ?_)
 · refine rS (EX rfl) ?_
   refine RK hK16 ?_
   refine w_seq fun _ hK17 => ?_
   refine w_if_false rfl ?_
   refine w_exit ?_
   refine k_exit_then ?_
   refine k_exit_then ?_
   refine k_exit_same ?_
   refine k_block ?_
   exact hQr9 (ys, A) _ _ (by exact ⟨PDone.next hl5_2 hl5_1 h24, hl5_3, hl5_4⟩) (fun w hs => St.sel [1, 3, 4, 5, 6, 7, 8, 9, 10, 11, 12, 13, 14] rfl rfl hs)
 try dsimp only
 refine rS (EX rfl) ?_
 refine RK hK16 ?_
 refine w_seq fun _ hK18 => ?_
 refine w_if_true rfl ?_
 refine WK hK18 ?_
 refine w_block ?_
 refine WS fun _ hK19 => ?_
 refine rS (SX (gsd_mentryR 0 rfl rfl rfl) rfl rfl) ?_
 refine rS (EX rfl) ?_
 refine rS (EX rfl) ?_
 refine AL rfl tz146 fun b20 => ?_
 refine SW0 rfl ts146 rfl ?_
 refine rS (AG rfl) ?_
 refine RK hK19 ?_
 refine w_seq fun _ hK21 => ?_
 refine w_draw mixed 8 (by kernel_rfl) ?_
 refine dS (L1Q 14 rfl tk107 rfl) ?_
 refine dS (SX (sd_nil_p rfl rfl) rfl rfl) ?_
 refine dS (FA 13 rfl fo142_5 rfl) ?_
 refine dS (L1R (Value.slice b_A bs.length b_C) 13 rfl tk140 rfl rfl) ?_
 refine dS (L1Q 15 rfl tk3 rfl) ?_
 refine dS (BI rfl (b_add ⟨by omega, by omega⟩)) ?_
 obtain ⟨gb, hgb⟩ : ∃ y_, bb[(b + 1)]? = some y_ := ⟨bb[(b + 1)]'(by omega), List.getElem?_eq_getElem _⟩
 have hgbm : (List.zipWith mapC bs bb)[(b + 1)]? = some (mapC mb gb) := zip_get hm2 hgb
 refine dS (IA (b + 1) rfl (has_at 11 rfl) te140 (by decide) (by omega) (by omega)) ?_
 refine dS (LE1 (b + 1) 0 (Value.map (some gb)) rfl tk144 (has_at 11 rfl) hgbm rfl (by decide) rfl) ?_
 refine d_end ?_
 refine gr_mrangeR (kV := tallyU) (m := gmapV iV mb) 12 rfl rfl ut144 rfl ⟨⟨(gmp tallyU gb (gmapV iV mb)), (mem_nest hm2 hgb (by simp [fmR])), rfl⟩, fun h => h⟩ (show Has _ (gmp tallyU gb (gmapV iV mb)).holds from has_inr 12 rfl (mem_nest hm2 hgb (by simp [fmR]))) rfl fun r22 => ?_
 try dsimp only
 refine RK hK21 ?_
 refine w_block ?_
 have hinit : (∀ p ∈ mb, p ∈ mb) ∧ (QLeft (watchOf ln ri e tms) b mb o (t, v) mb ys) ∧ (PLeft (watchOf ln ri e tms) b mf mb o left ys) ∧ (PDone (watchOf ln ri e tms) b mf mb k ys) ∧ (J ys A) ∧ (Fo A0 w0 A) := by exact ⟨fun p hp => hp, QLeft.start, hl5_1, hl5_2, hl5_3, hl5_4⟩
 refine w_loop (ι := { z : FM × (List (Int × SpanV)) × Assn // (∀ p ∈ z.1, p ∈ mb) ∧ (QLeft (watchOf ln ri e tms) b mb o (t, v) z.1 z.2.1) ∧ (PLeft (watchOf ln ri e tms) b mf mb o left z.2.1) ∧ (PDone (watchOf ln ri e tms) b mf mb k z.2.1) ∧ (J z.2.1 z.2.2) ∧ (Fo A0 w0 z.2.2) }) (fun z => [(0, (Value.func (.yield l) #[] #[])), (1, (Value.pointer (some ⟨g1, 0, none⟩))), (2, (Value.pointer (some ⟨g2, 0, none⟩))), (3, (Value.pointer (some ⟨b2, 0, none⟩))), (4, (Value.int .i64 o.1)), (5, (Value.pointer (some ⟨b12, 0, none⟩))), (6, (Value.pointer (some ⟨b20, 0, none⟩))), (7, (Value.int .i64 v)), (23, (Value.pointer (some ⟨r14, 0, none⟩))), (37, (Value.pointer (some ⟨r22, 0, none⟩)))]) (fun z => [(gmr tallyU r22 gb (gmapV iV mb) (gmapV iV z.1.1) none), (blk b20 146 (TallyV.cells t)), (gmr tallyU r14 ga (gmapV iV mf) (gmapV iV (gdelK left t)) (some (t, (Value.int .i64 v)))), (obj lr (.loop rb)), (blk b12 34 (SpanV.cells o.2)), (blk b2 148 [(Value.func (.yield l) #[] #[])]), z.1.2.2, (rd e_A e.length 1 (e.map iC)).ro, (rd t_A tms.length 1 (List.zipWith mapC tms tb)).ro, (bun (nest tmR tms tb)).ro, (rd f_A fs.length 1 (List.zipWith mapC fs fb)).ro, (bun (nest fmR fs fb)).ro, (rd b_A bs.length 1 (List.zipWith mapC bs bb)).ro, (bun (nest fmR bs bb)).ro, (blk gw 142 (WatchV.cells (WatchV.mk ln ri (Slc.mk e_A e.length e_C) (Slc.mk t_A tms.length t_C) (Slc.mk f_A fs.length f_C) (Slc.mk b_A bs.length b_C)))).ro, (blk g1 107 [(Value.pointer (some ⟨gw, 0, none⟩))]).ro, (blk g2 3 [(Value.int .i64 ((b : Nat) : Int))]).ro]) (fun z => z.1.1.length) ⟨(mb, ys, A), hinit⟩ (Sub.cons rfl <| Sub.cons rfl <| Sub.cons rfl <| Sub.cons rfl <| Sub.cons rfl <| Sub.cons rfl <| Sub.cons rfl <| Sub.cons rfl <| Sub.cons rfl <| Sub.cons rfl <| Sub.nil _) (fun w hs => St.sel [0, 1, 2, 3, 4, 5, 6, 7, 8, 9, 10, 11, 12, 13, 14, 15, 16] rfl rfl hs) ?_
 clear hinit
 rintro ⟨⟨l2, ys2, A2⟩, ⟨hl8_0, hl8_1, hl8_2, hl8_3, hl8_4, hl8_5⟩⟩ J23 hJ23
 try dsimp only at hl8_0 hl8_1 hl8_2 hl8_3 hl8_4 hl8_5
 try dsimp only
 refine WS fun _ hK24 => ?_
 refine gr_mnextR_v gk146.inj (f := iV) 0 rfl rfl rfl rfl (fun h38 => ?_) (fun u z hmm hnn => ?_)
 · refine rS (EX rfl) ?_
   refine RK hK24 ?_
   refine w_seq fun _ hK25 => ?_
   refine w_if_false rfl ?_
   refine w_exit ?_
   refine k_exit_then ?_
   refine k_exit_then ?_
   refine k_exit_same ?_
   refine k_block ?_
   refine k_imp (C' := [(gmr tallyU r22 gb (gmapV iV mb) (gmapV iV l2) none), (blk b20 146 (TallyV.cells t)), (gmr tallyU r14 ga (gmapV iV mf) (gmapV iV (gdelK left t)) none), (obj lr (.loop rb)), (blk b12 34 (SpanV.cells o.2)), (blk b2 148 [(Value.func (.yield l) #[] #[])]), A2, (rd e_A e.length 1 (e.map iC)).ro, (rd t_A tms.length 1 (List.zipWith mapC tms tb)).ro, (bun (nest tmR tms tb)).ro, (rd f_A fs.length 1 (List.zipWith mapC fs fb)).ro, (bun (nest fmR fs fb)).ro, (rd b_A bs.length 1 (List.zipWith mapC bs bb)).ro, (bun (nest fmR bs bb)).ro, (blk gw 142 (WatchV.cells (WatchV.mk ln ri (Slc.mk e_A e.length e_C) (Slc.mk t_A tms.length t_C) (Slc.mk f_A fs.length f_C) (Slc.mk b_A bs.length b_C)))).ro, (blk g1 107 [(Value.pointer (some ⟨gw, 0, none⟩))]).ro, (blk g2 3 [(Value.int .i64 ((b : Nat) : Int))]).ro]) 2 rfl gmr_none rfl ?_
   refine k_then (hJ15 ⟨((gdelK left t), ys2, A2), ⟨left_sub hl5_0, PLeft.next hn hm hl8_2 hl8_1 h38, hl8_3, hl8_4, hl8_5⟩⟩ _ _ _ rfl (gdelK_lt hm) (Sub.cons rfl <| Sub.cons rfl <| Sub.cons rfl <| Sub.cons rfl <| Sub.cons rfl <| Sub.cons rfl <| Sub.cons rfl <| Sub.nil _) (fun w hs => St.sel [2, 3, 4, 5, 6, 7, 8, 9, 10, 11, 12, 13, 14, 15, 16] rfl rfl hs))
 try dsimp only
 refine rS (EX rfl) ?_
 refine RK hK24 ?_
 refine w_seq fun _ hK26 => ?_
 refine w_if_true rfl ?_
 refine WK hK26 ?_
 refine w_block ?_
 refine WS fun _ hK27 => ?_
 refine rS (SX (gsd_mentryR 0 rfl rfl rfl) rfl rfl) ?_
 refine rS (EX rfl) ?_
 refine rS (EX rfl) ?_
 refine AL rfl tz146 fun b28 => ?_
 refine SW0 rfl ts146 rfl ?_
 refine rS (AG rfl) ?_
 refine RK hK27 ?_
 refine w_seq fun _ hK29 => ?_
 refine w_draw4 mixed [0, 1, 2, 3, 4, 5, 6, 7, 8, 9, 10, 11, 12, 13, 14, 15, 16] [17, 18] [false, false, false, false, false, false, false, false, false, false, false, false, false, false, false, false, false] [false, false] [(blk b28 146 (TallyV.cells u)), (gmr tallyU r22 gb (gmapV iV mb) (gmapV iV (gdelK l2 u)) (some (u, (Value.int .i64 z)))), (blk b20 146 (TallyV.cells t)), (gmr tallyU r14 ga (gmapV iV mf) (gmapV iV (gdelK left t)) (some (t, (Value.int .i64 v)))), (obj lr (.loop rb)), (blk b12 34 (SpanV.cells o.2)), (blk b2 148 [(Value.func (.yield l) #[] #[])]), A2, (rd e_A e.length 1 (e.map iC)).ro, (rd t_A tms.length 1 (List.zipWith mapC tms tb)).ro, (bun (nest tmR tms tb)).ro, (rd f_A fs.length 1 (List.zipWith mapC fs fb)).ro, (bun (nest fmR fs fb)).ro, (rd b_A bs.length 1 (List.zipWith mapC bs bb)).ro, (bun (nest fmR bs bb)).ro, (blk gw 142 (WatchV.cells (WatchV.mk ln ri (Slc.mk e_A e.length e_C) (Slc.mk t_A tms.length t_C) (Slc.mk f_A fs.length f_C) (Slc.mk b_A bs.length b_C)))).ro, (blk g1 107 [(Value.pointer (some ⟨gw, 0, none⟩))]).ro, (blk g2 3 [(Value.int .i64 ((b : Nat) : Int))]).ro] [] (by kernel_rfl) (fun w hs => St.sel [0, 1, 2, 3, 4, 5, 6, 7, 8, 9, 10, 11, 12, 13, 14, 15, 16, 17] rfl rfl hs) (fun w hs => St.sel [] rfl rfl hs) ?_
 refine eS rfl (MV rfl) ?_
 refine eS rfl (L1Q 16 rfl tk107 rfl) ?_
 refine eS rfl (SX (sd_nil_p rfl rfl) rfl rfl) ?_
 refine eS rfl (FA 10 rfl fo142_2 rfl) ?_
 refine eS rfl (L1R (Value.slice e_A e.length e_C) 15 rfl tk57 rfl rfl) ?_
 refine eS rfl (L1Q 17 rfl tk3 rfl) ?_
 obtain ⟨y, hy⟩ : ∃ y_, e[b]? = some y_ := ⟨e[b]'(by omega), List.getElem?_eq_getElem _⟩
 have hym : (e.map iC)[b]? = some (iC y) := by rw [List.getElem?_map, hy]; rfl
 refine eS rfl (IA b rfl (has_at 8 rfl) te57 (by decide) (by omega) (by omega)) ?_
 refine eS rfl (LE1 b 0 (Value.int .i64 y) rfl tk3 (has_at 8 rfl) hym rfl (by decide) rfl) ?_
 have hlb := hw.least y (List.mem_of_getElem? hy)
 have hfp := fwd_b hw _ _ (hfw.mem hm1 (hl5_0 _ hm))
 have hbp := back_b hw (hbw.mem hm2 (hl8_0 _ hmm))
 have ho1 := oneT_b o.1
 have hob := hw.opt ho
 dsimp only at hfp hbp
 refine eS rfl (BI rfl (b_add ⟨by omega, by omega⟩)) ?_
 refine eS rfl (FA 0 rfl fo34_0 rfl) ?_
 refine eS rfl (L1 (Value.int .i64 o.2.Lo) 5 rfl tk3 rfl rfl) ?_
 refine eS rfl (MX rfl) ?_
 refine eS rfl (MV rfl) ?_
 refine eS rfl (FA 1 rfl fo34_1 rfl) ?_
 refine eS rfl (L1 (Value.int .i64 o.2.Hi) 5 rfl tk3 rfl rfl) ?_
 refine eS rfl (MN rfl) ?_
 refine eS rfl (SX (sd_build (xs := [(0, .tmp 54), (1, .tmp 58)]) (cs := (SpanV.cells (SpanV.mk (max (v + y) o.2.Lo) (min z o.2.Hi)))) rfl rfl (built_of tb34 rfl)) rfl rfl) ?_
 refine d_fin rfl ?_
 refine t_cons rfl fun T30 hT30 => ?_
 refine AL rfl tz34 fun b31 => ?_
 refine r_nil (hT30 _ _ (fun w hs => St.sel [1, 2, 3, 4, 5, 6, 7, 8, 9, 10, 11, 12, 13, 14, 15, 16, 17, 18] rfl rfl hs) ?_)
 refine t_cons rfl fun T32 hT32 => ?_
 refine SW0 rfl ts34 rfl ?_
 refine r_nil (hT32 _ _ (fun w hs => St.sel [1, 2, 3, 4, 5, 6, 7, 8, 9, 10, 11, 12, 13, 14, 15, 16, 17, 18] rfl rfl hs) ?_)
 refine t_fin rfl ?_
 refine KK hK29 ?_
 refine w_seq fun _ hK33 => ?_
 refine w_draw mixed 19 (by kernel_rfl) ?_
 refine dS (FA 0 rfl fo34_0 rfl) ?_
 refine dS (L1 (Value.int .i64 (max (v + y) o.2.Lo)) 0 rfl tk3 rfl rfl) ?_
 refine dS (FA 1 rfl fo34_1 rfl) ?_
 refine dS (L1 (Value.int .i64 (min z o.2.Hi)) 0 rfl tk3 rfl rfl) ?_
 refine dS (BI rfl b_leq) ?_
 refine dS (MV rfl) ?_
 refine d_bool (t := 65) rfl (fun h65 => ?_) (fun h65 => ?_)
 rotate_left 1
 · replace h65 := DF h65
   refine dS (OX rfl) ?_
   refine dS (OX rfl) ?_
   refine dS (OX rfl) ?_
   refine dS (OX rfl) ?_
   refine dS (OX rfl) ?_
   refine dS (OX rfl) ?_
   refine dS (OX rfl) ?_
   refine dS (OX rfl) ?_
   refine dS (PK rfl) ?_
   refine dS (MV rfl) ?_
   refine dS (OX rfl) ?_
   refine dS (OX rfl) ?_
   refine dS (OX rfl) ?_
   refine d_end ?_
   refine rS (OX rfl) ?_
   refine rS (OX rfl) ?_
   refine rS (PK rfl) ?_
   refine RK hK33 ?_
   refine w_if_false rfl ?_
   refine w_skip ?_
   refine k_block ?_
   refine k_imp (C' := [(blk b31 34 (SpanV.cells (SpanV.mk (max (v + y) o.2.Lo) (min z o.2.Hi)))), (blk b28 146 (TallyV.cells u)), (gmr tallyU r22 gb (gmapV iV mb) (gmapV iV (gdelK l2 u)) none), (blk b20 146 (TallyV.cells t)), (gmr tallyU r14 ga (gmapV iV mf) (gmapV iV (gdelK left t)) (some (t, (Value.int .i64 v)))), (obj lr (.loop rb)), (blk b12 34 (SpanV.cells o.2)), (blk b2 148 [(Value.func (.yield l) #[] #[])]), A2, (rd e_A e.length 1 (e.map iC)).ro, (rd t_A tms.length 1 (List.zipWith mapC tms tb)).ro, (bun (nest tmR tms tb)).ro, (rd f_A fs.length 1 (List.zipWith mapC fs fb)).ro, (bun (nest fmR fs fb)).ro, (rd b_A bs.length 1 (List.zipWith mapC bs bb)).ro, (bun (nest fmR bs bb)).ro, (blk gw 142 (WatchV.cells (WatchV.mk ln ri (Slc.mk e_A e.length e_C) (Slc.mk t_A tms.length t_C) (Slc.mk f_A fs.length f_C) (Slc.mk b_A bs.length b_C)))).ro, (blk g1 107 [(Value.pointer (some ⟨gw, 0, none⟩))]).ro, (blk g2 3 [(Value.int .i64 ((b : Nat) : Int))]).ro]) 2 rfl gmr_none rfl ?_
   refine k_then (hJ23 ⟨((gdelK l2 u), ys2, A2), ⟨left_sub hl8_0, QLeft.skip hnn hmm hl8_1 (by first | exact passO_off hy h65 | exact passO_not h75), hl8_2, hl8_3, hl8_4, hl8_5⟩⟩ _ _ _ rfl (gdelK_lt hmm) (Sub.cons rfl <| Sub.cons rfl <| Sub.cons rfl <| Sub.cons rfl <| Sub.cons rfl <| Sub.cons rfl <| Sub.cons rfl <| Sub.cons rfl <| Sub.cons rfl <| Sub.cons rfl <| Sub.nil _) (fun w hs => St.sel [2, 3, 4, 5, 6, 7, 8, 9, 10, 11, 12, 13, 14, 15, 16, 17, 18] rfl rfl hs))
 replace h65 := DT h65
 refine dS (L1Q 17 rfl tk107 rfl) ?_
 refine dS (LW 3 rfl tk146 rfl rfl) ?_
 refine dS (LW 1 rfl tk146 rfl rfl) ?_
 have hpu : (0 ≤ (addT t u).right ∧ (addT t u).right ≤ 1000) ∧ 0 ≤ (addT t u).missed ∧ (addT t u).missed ≤ 1000 := by simp only [addT]; omega
 have hpa : (0 ≤ (addT (addT t u) (oneT o.1)).right ∧ (addT (addT t u) (oneT o.1)).right ≤ 1000) ∧ 0 ≤ (addT (addT t u) (oneT o.1)).missed ∧ (addT (addT t u) (oneT o.1)).missed ≤ 1000 := by simp only [addT]; omega
 refine dS (CL (tplus_c t u (by first | assumption | omega | (simp; done) | (simp; omega)) (by first | assumption | omega | (simp; done) | (simp; omega))) (ha_nil) rfl) ?_
 refine dS (MV rfl) ?_
 refine dS (CL (one_c o.1) (ha_nil) rfl) ?_
 refine dS (CL (tplus_c (addT t u) (oneT o.1) (by first | assumption | omega | (simp; done) | (simp; omega)) (by first | assumption | omega | (simp; done) | (simp; omega))) (ha_nil) rfl) ?_
 refine dS (CL (may_c ln ri e tms e_A e_C tb t_A t_C fs bs fb f_A f_C bb b_A b_C gw (addT (addT t u) (oneT o.1)) (by first | assumption | omega | (simp; done) | (simp; omega)) hsg) (ha_at 9 rfl rfl <| ha_at 10 rfl rfl <| ha_at 11 rfl rfl <| ha_at 12 rfl rfl <| ha_at 13 rfl rfl <| ha_at 14 rfl rfl <| ha_at 15 rfl rfl <| ha_at 16 rfl rfl <| ha_nil) rfl) ?_
 refine dS (PK rfl) ?_
 refine dS (MV rfl) ?_
 refine d_bool (t := 75) rfl (fun h75 => ?_) (fun h75 => ?_)
 rotate_left 1
 · refine dS (OX rfl) ?_
   refine dS (OX rfl) ?_
   refine dS (OX rfl) ?_
   refine d_end ?_
   refine rS (OX rfl) ?_
   refine rS (OX rfl) ?_
   refine rS (PK rfl) ?_
   refine RK hK33 ?_
   refine w_if_false rfl ?_
   refine w_skip ?_
   refine k_block ?_
   refine k_imp (C' := [(blk b31 34 (SpanV.cells (SpanV.mk (max (v + y) o.2.Lo) (min z o.2.Hi)))), (blk b28 146 (TallyV.cells u)), (gmr tallyU r22 gb (gmapV iV mb) (gmapV iV (gdelK l2 u)) none), (blk b20 146 (TallyV.cells t)), (gmr tallyU r14 ga (gmapV iV mf) (gmapV iV (gdelK left t)) (some (t, (Value.int .i64 v)))), (obj lr (.loop rb)), (blk b12 34 (SpanV.cells o.2)), (blk b2 148 [(Value.func (.yield l) #[] #[])]), A2, (rd e_A e.length 1 (e.map iC)).ro, (rd t_A tms.length 1 (List.zipWith mapC tms tb)).ro, (bun (nest tmR tms tb)).ro, (rd f_A fs.length 1 (List.zipWith mapC fs fb)).ro, (bun (nest fmR fs fb)).ro, (rd b_A bs.length 1 (List.zipWith mapC bs bb)).ro, (bun (nest fmR bs bb)).ro, (blk gw 142 (WatchV.cells (WatchV.mk ln ri (Slc.mk e_A e.length e_C) (Slc.mk t_A tms.length t_C) (Slc.mk f_A fs.length f_C) (Slc.mk b_A bs.length b_C)))).ro, (blk g1 107 [(Value.pointer (some ⟨gw, 0, none⟩))]).ro, (blk g2 3 [(Value.int .i64 ((b : Nat) : Int))]).ro]) 2 rfl gmr_none rfl ?_
   refine k_then (hJ23 ⟨((gdelK l2 u), ys2, A2), ⟨left_sub hl8_0, QLeft.skip hnn hmm hl8_1 (by first | exact passO_off hy h65 | exact passO_not h75), hl8_2, hl8_3, hl8_4, hl8_5⟩⟩ _ _ _ rfl (gdelK_lt hmm) (Sub.cons rfl <| Sub.cons rfl <| Sub.cons rfl <| Sub.cons rfl <| Sub.cons rfl <| Sub.cons rfl <| Sub.cons rfl <| Sub.cons rfl <| Sub.cons rfl <| Sub.cons rfl <| Sub.nil _) (fun w hs => St.sel [2, 3, 4, 5, 6, 7, 8, 9, 10, 11, 12, 13, 14, 15, 16, 17, 18] rfl rfl hs))
 refine dS (L1W 7 rfl tk148 rfl) ?_
 refine dS (MV rfl) ?_
 refine dS (LW 0 rfl tk34 rfl rfl) ?_
 refine d_end ?_
 refine r_yieldG (k := ys2) (k' := (ys2 ++ [(o.1, (SpanV.mk (max (v + y) o.2.Lo) (min z o.2.Hi)))])) 8 (by first | exact hsz | exact Nat.le_refl _) hY hl8_4 hl8_5 rfl rfl rfl (by exact ⟨(o.1, _), mem_passM.2 ⟨o, ho, (t, v), hl5_0 _ hm, (u, z), hl8_0 _ hmm, (passO_at hy h65 h75)⟩, rfl, rfl⟩) rfl rfl (fun B34 hJ35 hF36 => ?_) (fun B34 hJ35 hF36 => ?_)
 rotate_left 1
 · refine rS (NT rfl) ?_
   refine rS (PK rfl) ?_
   refine RK hK33 ?_
   refine w_if_true rfl ?_
   refine w_ret ?_
   exact yQr9 B34 _ _ (by exact ⟨rfl, hJ35, hF36⟩) (fun w hs => St.sel [5, 7, 8, 9, 10, 11, 12, 13, 14, 15, 16, 17, 18] rfl rfl hs)
 refine rS (NT rfl) ?_
 refine rS (PK rfl) ?_
 refine RK hK33 ?_
 refine w_if_false rfl ?_
 refine w_skip ?_
 refine k_block ?_
 refine k_imp (C' := [(blk b31 34 (SpanV.cells (SpanV.mk (max (v + y) o.2.Lo) (min z o.2.Hi)))), (blk b28 146 (TallyV.cells u)), (gmr tallyU r22 gb (gmapV iV mb) (gmapV iV (gdelK l2 u)) none), (blk b20 146 (TallyV.cells t)), (gmr tallyU r14 ga (gmapV iV mf) (gmapV iV (gdelK left t)) (some (t, (Value.int .i64 v)))), (obj lr (.loop rb)), (blk b12 34 (SpanV.cells o.2)), (blk b2 148 [(Value.func (.yield l) #[] #[])]), B34, (rd e_A e.length 1 (e.map iC)).ro, (rd t_A tms.length 1 (List.zipWith mapC tms tb)).ro, (bun (nest tmR tms tb)).ro, (rd f_A fs.length 1 (List.zipWith mapC fs fb)).ro, (bun (nest fmR fs fb)).ro, (rd b_A bs.length 1 (List.zipWith mapC bs bb)).ro, (bun (nest fmR bs bb)).ro, (blk gw 142 (WatchV.cells (WatchV.mk ln ri (Slc.mk e_A e.length e_C) (Slc.mk t_A tms.length t_C) (Slc.mk f_A fs.length f_C) (Slc.mk b_A bs.length b_C)))).ro, (blk g1 107 [(Value.pointer (some ⟨gw, 0, none⟩))]).ro, (blk g2 3 [(Value.int .i64 ((b : Nat) : Int))]).ro]) 2 rfl gmr_none rfl ?_
 refine k_then (hJ23 ⟨((gdelK l2 u), (ys2 ++ [(o.1, (SpanV.mk (max (v + y) o.2.Lo) (min z o.2.Hi)))]), B34), ⟨left_sub hl8_0, QLeft.took hnn hmm hl8_1 (passO_at hy h65 h75), hl8_2.app, hl8_3.app, hJ35, hF36⟩⟩ _ _ _ rfl (gdelK_lt hmm) (Sub.cons rfl <| Sub.cons rfl <| Sub.cons rfl <| Sub.cons rfl <| Sub.cons rfl <| Sub.cons rfl <| Sub.cons rfl <| Sub.cons rfl <| Sub.cons rfl <| Sub.cons rfl <| Sub.nil _) (fun w hs => St.sel [2, 3, 4, 5, 6, 7, 8, 9, 10, 11, 12, 13, 14, 15, 16, 17, 18] rfl rfl hs))
end
section
open Go.RowKit
set_option linter.unusedVariables false
set_option maxRecDepth 100000 in
set_option maxHeartbeats 400000 in
theorem open1_c (l : LineM) (kA : Option Addr) (kC : Nat) (az : List RA) (cA : Option Addr) (cC : Nat) (bA : Option Addr) (bC : Nat) (r : RideM) (sgA : Option Addr) (sgC : Nat) (f : Value) (X : Assn) (me : Int) (gm : Nat) (hf : Clo Try.prog f [] [X] (.int .i64 me)) (hin : LineIn l az) (hsl : r.Signals.length ≤ 1000000) :
    FnX Try.prog 61 [(Value.agg (LineV.cells (LineV.mk (TrackV.mk (Slc.mk kA l.Track.length kC)) l.Fast (Slc.mk cA l.Clocks.length cC) (Slc.mk bA l.Beams.length bC) l.Finish l.Fakes l.Misses)).toArray), (Value.agg (RideV.cells (RideV.mk r.Start r.Now (Slc.mk sgA r.Signals.length sgC))).toArray), (Value.slice (some ⟨gm, 0, none⟩) 1 1)] [(rd kA l.Track.length 9 (l.Track.map StretchV.cells)), (rd cA l.Clocks.length 2 (List.zipWith ClockM.cells l.Clocks az)), (bun (nest ClockM.rds l.Clocks az)), (rd bA l.Beams.length 4 (l.Beams.map BeamV.cells)), (rd sgA r.Signals.length 2 (r.Signals.map SignalV.cells)), X, (blk gm 111 [f])] (fun (x : Bool × Int × Nat × (Option Addr) × Nat × (Option Addr) × Nat × (List Nat) × (List FM) × (List Nat) × (Option Addr) × Nat × (List FM) × (List Nat) × (Option Addr) × Nat) => bif x.1 then (Value.tuple [(Value.pointer (some ⟨x.2.2.1, 0, none⟩)), (Value.int .i64 0)].toArray) else (Value.tuple [(Value.pointer none), (Value.int .i64 x.2.1)].toArray)) (fun (x : Bool × Int × Nat × (Option Addr) × Nat × (Option Addr) × Nat × (List Nat) × (List FM) × (List Nat) × (Option Addr) × Nat × (List FM) × (List Nat) × (Option Addr) × Nat) => (x.1 = true → (openE l r me = 0 ∧ FwdOk (watchL l r) x.2.2.2.2.2.2.2.2.1 ∧ BackOk (watchL l r) x.2.2.2.2.2.2.2.2.2.2.2.2.1 ∧ x.2.2.2.2.2.2.2.2.2.1.length = x.2.2.2.2.2.2.2.2.1.length ∧ x.2.2.2.2.2.2.2.2.2.2.2.2.2.1.length = x.2.2.2.2.2.2.2.2.2.2.2.2.1.length ∧ x.2.2.2.2.2.2.2.1.length = (timesT l r.Signals r.Signals.length).length)) ∧ (x.1 = false → (x.2.1 = openE l r me ∧ ¬ openE l r me = 0))) (fun (x : Bool × Int × Nat × (Option Addr) × Nat × (Option Addr) × Nat × (List Nat) × (List FM) × (List Nat) × (Option Addr) × Nat × (List FM) × (List Nat) × (Option Addr) × Nat) => bif x.1 then [(blk x.2.2.1 142 (WatchV.cells (WatchV.mk (LineV.mk (TrackV.mk (Slc.mk kA l.Track.length kC)) l.Fast (Slc.mk cA l.Clocks.length cC) (Slc.mk bA l.Beams.length bC) l.Finish l.Fakes l.Misses) (RideV.mk r.Start r.Now (Slc.mk sgA r.Signals.length sgC)) (Slc.mk x.2.2.2.1 ((leasts l l.Beams.length).length) x.2.2.2.2.1) (Slc.mk x.2.2.2.2.2.1 ((timesT l r.Signals r.Signals.length).length) x.2.2.2.2.2.2.1) (Slc.mk x.2.2.2.2.2.2.2.2.2.2.1 x.2.2.2.2.2.2.2.2.1.length x.2.2.2.2.2.2.2.2.2.2.2.1) (Slc.mk x.2.2.2.2.2.2.2.2.2.2.2.2.2.2.1 x.2.2.2.2.2.2.2.2.2.2.2.2.1.length x.2.2.2.2.2.2.2.2.2.2.2.2.2.2.2)))), (own x.2.2.2.1 x.2.2.2.2.1 3 1 ((leasts l l.Beams.length).map iC)), (own x.2.2.2.2.2.1 x.2.2.2.2.2.2.1 143 1 (List.zipWith mapC (timesT l r.Signals r.Signals.length) x.2.2.2.2.2.2.2.1)), (bund (nest tmR (timesT l r.Signals r.Signals.length) x.2.2.2.2.2.2.2.1)), (own x.2.2.2.2.2.2.2.2.2.2.1 x.2.2.2.2.2.2.2.2.2.2.2.1 144 1 (List.zipWith mapC x.2.2.2.2.2.2.2.2.1 x.2.2.2.2.2.2.2.2.2.1)), (bund (nest fmR x.2.2.2.2.2.2.2.2.1 x.2.2.2.2.2.2.2.2.2.1)), (own x.2.2.2.2.2.2.2.2.2.2.2.2.2.2.1 x.2.2.2.2.2.2.2.2.2.2.2.2.2.2.2 144 1 (List.zipWith mapC x.2.2.2.2.2.2.2.2.2.2.2.2.1 x.2.2.2.2.2.2.2.2.2.2.2.2.2.1)), (bund (nest fmR x.2.2.2.2.2.2.2.2.2.2.2.2.1 x.2.2.2.2.2.2.2.2.2.2.2.2.2.1))] else []) := by
 have htk := hin.trk
 have hck := hin.cks
 have has := hin.as_
 have hbm := hin.bms
 have hsd := hin.side
 refine fnX_of go61 Try.func61 rfl rfl fun w0 Q hQ hN => ?_
 try dsimp only
 refine WS fun _ hK1 => ?_
 refine BXA rfl fun b2 => ?_
 refine BXA rfl fun b3 => ?_
 refine rS (AG rfl) ?_
 refine rS (AG rfl) ?_
 refine RK hK1 ?_
 refine w_seq fun _ hK4 => ?_
 refine WS fun _ hK5 => ?_
 refine rS (LW 1 rfl tk28 rfl rfl) ?_
 refine rS (CL (lcheck_c l kA kC az cA cC bA bC hin) (ha_at 2 rfl rfl <| ha_at 3 rfl rfl <| ha_at 4 rfl rfl <| ha_at 5 rfl rfl <| ha_nil) rfl) ?_
 refine rS (AG rfl) ?_
 refine RK hK5 ?_
 refine WS fun _ hK6 => ?_
 refine rS (MV rfl) ?_
 refine rS (BI rfl b_neq) ?_
 refine RK hK6 ?_
 refine w_if rfl (fun h21 => ?_) (fun h21 => ?_)
 · replace h21 := XT h21
   refine WS fun _ hK7 => ?_
   refine rS (MV rfl) ?_
   refine rS (AG rfl) ?_
   refine rS (AG rfl) ?_
   refine RK hK7 ?_
   refine w_ret ?_
   refine hQ _ _ _ (l_nil (vs := [(Value.pointer none), (Value.int .i64 (lineE l))]) ⟨rfl, rfl, trivial⟩ fun w hs => endX (false, (lineE l), 0, none, 0, none, 0, [], [], [], none, 0, [], [], none, 0) [] ?_ ?_ rfl rfl (by first | rfl | (show List.all _ _ = true; simp only [cond_true, List.all_cons, List.all_nil, fm_wr, tm_wr, Bool.and_true]; rfl)) hs)
   · rfl
   · refine ⟨fun q => Bool.noConfusion (show false = true from q), fun _ => ?_⟩; first | (have e := open_line_e (r := r) (me := me) h21; exact ⟨e.symm, fun q => h21 (e.symm.trans q)⟩) | (have e := open_ride_e (me := me) h10 (fun q : RideOk l r => by have q1 := q.time; have q2 := q.len; omega); exact ⟨e.symm, fun q => absurd (e.symm.trans q) (by decide)⟩) | (have e := open_ride_e (me := me) h10 (ride_no hx (by unfold SigOk SigIn; omega)); exact ⟨e.symm, fun q => absurd (e.symm.trans q) (by decide)⟩) | (have e := open_more_e h10 hro h156; exact ⟨e.symm, fun q => h156 (e.symm.trans q)⟩) | (have e := open_bad_e (me := me) h10 hro (by first | rfl | exact h156) (show numsF (watchL l r) = [] from List.eq_nil_of_length_eq_zero (Int.natCast_eq_zero.1 h164)); exact ⟨e.symm, fun q => absurd (e.symm.trans q) (by decide)⟩)
 replace h21 := XF h21
 refine WK hK4 ?_
 refine w_seq fun _ hK8 => ?_
 refine WS fun _ hK9 => ?_
 have h10 : lineE l = 0 := h21
 obtain ⟨htr, hok⟩ := lineE_zero h10
 have hhd := hok.head
 unfold HeadOk at hhd
 refine rS (FA 0 rfl fo69_0 rfl) ?_
 refine rS (L1 (Value.int .i64 r.Start) 0 rfl tk3 rfl rfl) ?_
 refine r_bs (xs := [.tmp 24]) (cs := [(Value.int .i64 r.Start)]) rfl te57 tz3 rfl rfl rfl rfl (by simp [Value.cells]) rfl rfl fun b10 => ?_
 refine rS (CL (FnV.eq (in_beam 0 86400000 ([r.Start]) (some ⟨b10, 0, none⟩) 1 (by first | assumption | omega | (simp; done) | (simp; omega))) inAll_one) (ha_cons (has_rd_blk 0 rfl rfl (by simp [iC_length]) rfl) <| ha_nil) rfl) ?_
 refine rS (NT rfl) ?_
 refine rS (MV rfl) ?_
 refine r_bool (t := 28) rfl (fun h28 => ?_) (fun h28 => ?_)
 · replace h28 := XT h28
   refine rS (OX rfl) ?_
   refine rS (OX rfl) ?_
   refine rS (OX rfl) ?_
   refine rS (OX rfl) ?_
   refine rS (OX rfl) ?_
   refine rS (OX rfl) ?_
   refine rS (OX rfl) ?_
   refine rS (PK rfl) ?_
   refine rS (MV rfl) ?_
   refine rS (OX rfl) ?_
   refine rS (OX rfl) ?_
   refine rS (OX rfl) ?_
   refine rS (OX rfl) ?_
   refine rS (PK rfl) ?_
   refine RK hK9 ?_
   refine w_if_true rfl ?_
   refine WS fun _ hK11 => ?_
   refine rS (AG rfl) ?_
   refine rS (AG rfl) ?_
   refine RK hK11 ?_
   refine w_ret ?_
   refine hQ _ _ _ (l_nil (vs := [(Value.pointer none), (Value.int .i64 51)]) ⟨rfl, rfl, trivial⟩ fun w hs => endX (false, 51, 0, none, 0, none, 0, [], [], [], none, 0, [], [], none, 0) [] ?_ ?_ rfl rfl (by first | rfl | (show List.all _ _ = true; simp only [cond_true, List.all_cons, List.all_nil, fm_wr, tm_wr, Bool.and_true]; rfl)) hs)
   · rfl
   · refine ⟨fun q => Bool.noConfusion (show false = true from q), fun _ => ?_⟩; first | (have e := open_line_e (r := r) (me := me) h21; exact ⟨e.symm, fun q => h21 (e.symm.trans q)⟩) | (have e := open_ride_e (me := me) h10 (fun q : RideOk l r => by have q1 := q.time; have q2 := q.len; omega); exact ⟨e.symm, fun q => absurd (e.symm.trans q) (by decide)⟩) | (have e := open_ride_e (me := me) h10 (ride_no hx (by unfold SigOk SigIn; omega)); exact ⟨e.symm, fun q => absurd (e.symm.trans q) (by decide)⟩) | (have e := open_more_e h10 hro h156; exact ⟨e.symm, fun q => h156 (e.symm.trans q)⟩) | (have e := open_bad_e (me := me) h10 hro (by first | rfl | exact h156) (show numsF (watchL l r) = [] from List.eq_nil_of_length_eq_zero (Int.natCast_eq_zero.1 h164)); exact ⟨e.symm, fun q => absurd (e.symm.trans q) (by decide)⟩)
 replace h28 := XF h28
 refine rS (FA 0 rfl fo69_0 rfl) ?_
 refine rS (L1 (Value.int .i64 r.Start) 1 rfl tk3 rfl rfl) ?_
 refine rS (FA 1 rfl fo69_1 rfl) ?_
 refine rS (L1 (Value.int .i64 r.Now) 1 rfl tk3 rfl rfl) ?_
 refine r_bs (xs := [.tmp 32]) (cs := [(Value.int .i64 r.Now)]) rfl te57 tz3 rfl rfl rfl rfl (by simp [Value.cells]) rfl rfl fun b12 => ?_
 refine rS (CL (FnV.eq (in_beam r.Start 86400000 ([r.Now]) (some ⟨b12, 0, none⟩) 1 (by first | assumption | omega | (simp; done) | (simp; omega))) inAll_one) (ha_cons (has_rd_blk 0 rfl rfl (by simp [iC_length]) rfl) <| ha_nil) rfl) ?_
 refine rS (NT rfl) ?_
 refine rS (PK rfl) ?_
 refine rS (MV rfl) ?_
 refine r_bool (t := 37) rfl (fun h37 => ?_) (fun h37 => ?_)
 · replace h37 := XT h37
   refine rS (OX rfl) ?_
   refine rS (OX rfl) ?_
   refine rS (OX rfl) ?_
   refine rS (OX rfl) ?_
   refine rS (PK rfl) ?_
   refine RK hK9 ?_
   refine w_if_true rfl ?_
   refine WS fun _ hK13 => ?_
   refine rS (AG rfl) ?_
   refine rS (AG rfl) ?_
   refine RK hK13 ?_
   refine w_ret ?_
   refine hQ _ _ _ (l_nil (vs := [(Value.pointer none), (Value.int .i64 51)]) ⟨rfl, rfl, trivial⟩ fun w hs => endX (false, 51, 0, none, 0, none, 0, [], [], [], none, 0, [], [], none, 0) [] ?_ ?_ rfl rfl (by first | rfl | (show List.all _ _ = true; simp only [cond_true, List.all_cons, List.all_nil, fm_wr, tm_wr, Bool.and_true]; rfl)) hs)
   · rfl
   · refine ⟨fun q => Bool.noConfusion (show false = true from q), fun _ => ?_⟩; first | (have e := open_line_e (r := r) (me := me) h21; exact ⟨e.symm, fun q => h21 (e.symm.trans q)⟩) | (have e := open_ride_e (me := me) h10 (fun q : RideOk l r => by have q1 := q.time; have q2 := q.len; omega); exact ⟨e.symm, fun q => absurd (e.symm.trans q) (by decide)⟩) | (have e := open_ride_e (me := me) h10 (ride_no hx (by unfold SigOk SigIn; omega)); exact ⟨e.symm, fun q => absurd (e.symm.trans q) (by decide)⟩) | (have e := open_more_e h10 hro h156; exact ⟨e.symm, fun q => h156 (e.symm.trans q)⟩) | (have e := open_bad_e (me := me) h10 hro (by first | rfl | exact h156) (show numsF (watchL l r) = [] from List.eq_nil_of_length_eq_zero (Int.natCast_eq_zero.1 h164)); exact ⟨e.symm, fun q => absurd (e.symm.trans q) (by decide)⟩)
 replace h37 := XF h37
 refine rS (FA 2 rfl fo69_2 rfl) ?_
 refine rS (L1 (Value.slice sgA r.Signals.length sgC) 2 rfl tk67 rfl rfl) ?_
 refine rS (LN rfl ut67) ?_
 refine rS (BI rfl b_gtr) ?_
 refine rS (PK rfl) ?_
 refine RK hK9 ?_
 refine w_if rfl (fun h42 => ?_) (fun h42 => ?_)
 · replace h42 := DT h42
   refine WS fun _ hK14 => ?_
   refine rS (AG rfl) ?_
   refine rS (AG rfl) ?_
   refine RK hK14 ?_
   refine w_ret ?_
   refine hQ _ _ _ (l_nil (vs := [(Value.pointer none), (Value.int .i64 51)]) ⟨rfl, rfl, trivial⟩ fun w hs => endX (false, 51, 0, none, 0, none, 0, [], [], [], none, 0, [], [], none, 0) [] ?_ ?_ rfl rfl (by first | rfl | (show List.all _ _ = true; simp only [cond_true, List.all_cons, List.all_nil, fm_wr, tm_wr, Bool.and_true]; rfl)) hs)
   · rfl
   · refine ⟨fun q => Bool.noConfusion (show false = true from q), fun _ => ?_⟩; first | (have e := open_line_e (r := r) (me := me) h21; exact ⟨e.symm, fun q => h21 (e.symm.trans q)⟩) | (have e := open_ride_e (me := me) h10 (fun q : RideOk l r => by have q1 := q.time; have q2 := q.len; omega); exact ⟨e.symm, fun q => absurd (e.symm.trans q) (by decide)⟩) | (have e := open_ride_e (me := me) h10 (ride_no hx (by unfold SigOk SigIn; omega)); exact ⟨e.symm, fun q => absurd (e.symm.trans q) (by decide)⟩) | (have e := open_more_e h10 hro h156; exact ⟨e.symm, fun q => h156 (e.symm.trans q)⟩) | (have e := open_bad_e (me := me) h10 hro (by first | rfl | exact h156) (show numsF (watchL l r) = [] from List.eq_nil_of_length_eq_zero (Int.natCast_eq_zero.1 h164)); exact ⟨e.symm, fun q => absurd (e.symm.trans q) (by decide)⟩)
 replace h42 := DF h42
 refine WK hK8 ?_
 refine WS fun _ hK15 => ?_
 refine rS (SX (sd_build (xs := [(0, .const (Value.int .i64 (-1)))]) (cs := (SignalV.cells (SignalV.mk (-1) 0))) rfl rfl (built_of tb30 rfl)) rfl rfl) ?_
 refine AL rfl tz30 fun b16 => ?_
 refine SW0 rfl ts30 rfl ?_
 refine RK hK15 ?_
 refine w_seq fun _ hK17 => ?_
 refine w_draw4 mixed [0, 1, 2, 3, 4] [5, 6, 7, 8] [false, false, false, false, false] [false, false, false, false] [(blk b16 30 (SignalV.cells (SignalV.mk (-1) 0))), (blk b12 3 [(Value.int .i64 r.Now)]), (blk b10 3 [(Value.int .i64 r.Start)]), (blk b3 69 (RideV.cells (RideV.mk r.Start r.Now (Slc.mk sgA r.Signals.length sgC)))), (blk b2 28 (LineV.cells (LineV.mk (TrackV.mk (Slc.mk kA l.Track.length kC)) l.Fast (Slc.mk cA l.Clocks.length cC) (Slc.mk bA l.Beams.length bC) l.Finish l.Fakes l.Misses))), (rd kA l.Track.length 9 (l.Track.map StretchV.cells)).ro, (rd cA l.Clocks.length 2 (List.zipWith ClockM.cells l.Clocks az)).ro, (bun (nest ClockM.rds l.Clocks az)).ro, (rd bA l.Beams.length 4 (l.Beams.map BeamV.cells)).ro, (rd sgA r.Signals.length 2 (r.Signals.map SignalV.cells)).ro, X.ro, (blk gm 111 [f]).ro] [] (by kernel_rfl) (fun w hs => St.sel [0, 1, 2, 3, 4, 5, 6, 7, 8, 9, 10, 11] rfl rfl hs) (fun w hs => St.sel [] rfl rfl hs) ?_
 refine eS rfl (LW 4 rfl tk28 rfl rfl) ?_
 refine eS rfl (LW 3 rfl tk69 rfl rfl) ?_
 refine eS rfl (FA 3 rfl fo28_3 rfl) ?_
 refine eS rfl (L1 (Value.slice bA l.Beams.length bC) 4 rfl tk26 rfl rfl) ?_
 refine eS rfl (LN rfl ut26) ?_
 refine d_fin rfl ?_
 refine t_cons rfl fun T18 hT18 => ?_
 refine r_mks (n := l.Beams.length) (es := (List.map oC (List.replicate l.Beams.length (none : Option Nat)))) rfl rfl rfl ta139 (by omega) (by omega) (by simp only [maxLen]; omega) (by rw [List.map_replicate]; rfl) rfl fun b19 => ?_
 try dsimp only
 refine r_nil (hT18 _ _ (fun w hs => St.sel [1, 2, 3, 4, 5, 6, 7, 8, 9, 10, 11, 12] rfl rfl hs) ?_)
 refine t_cons rfl fun T20 hT20 => ?_
 refine rS (SX (sd_build (xs := [(0, .tmp 44), (1, .tmp 45), (3, .tmp 49)]) (cs := (WatchV.cells (WatchV.mk (LineV.mk (TrackV.mk (Slc.mk kA l.Track.length kC)) l.Fast (Slc.mk cA l.Clocks.length cC) (Slc.mk bA l.Beams.length bC) l.Finish l.Fakes l.Misses) (RideV.mk r.Start r.Now (Slc.mk sgA r.Signals.length sgC)) (Slc.mk none 0 0) (Slc.mk (some ⟨b19, 0, none⟩) l.Beams.length l.Beams.length) (Slc.mk none 0 0) (Slc.mk none 0 0)))) rfl rfl (built_of tb142 rfl)) rfl rfl) ?_
 refine r_nil (hT20 _ _ (fun w hs => St.sel [1, 2, 3, 4, 5, 6, 7, 8, 9, 10, 11, 12] rfl rfl hs) ?_)
 refine t_cons rfl fun T21 hT21 => ?_
 refine BXA rfl fun b22 => ?_
 refine r_nil (hT21 _ _ (fun w hs => St.sel [2, 3, 4, 5, 6, 7, 8, 9, 10, 11, 12, 13] rfl rfl hs) ?_)
 refine t_cons rfl fun T23 hT23 => ?_
 refine rS (AG rfl) ?_
 refine r_nil (hT23 _ _ (fun w hs => St.sel [2, 3, 4, 5, 6, 7, 8, 9, 10, 11, 12, 13] rfl rfl hs) ?_)
 refine t_fin rfl ?_
 refine KK hK17 ?_
 refine w_seq fun _ hK24 => ?_
 refine WS fun _ hK25 => ?_
 refine rS (FA 3 rfl fo28_3 rfl) ?_
 refine rS (L1 (Value.slice bA l.Beams.length bC) 6 rfl tk26 rfl rfl) ?_
 refine rS (LN rfl ut26) ?_
 refine rS (MV rfl) ?_
 refine RK hK25 ?_
 refine w_block ?_
 rw [fillF_nil]
 refine w_own_nil 3 1 ?_
 refine w_tie0 ?_
 have hinit : (0 ≤ l.Beams.length) ∧ (([] : List Nat).length = 0) := by exact ⟨Nat.zero_le _, rfl⟩
 refine w_loop (ι := { z : Nat × (Option Addr) × Nat × (List Nat) // (z.1 ≤ l.Beams.length) ∧ (z.2.2.2.length = z.1) }) (fun z => [(2, (Value.slice (some ⟨gm, 0, none⟩) 1 1)), (3, (Value.pointer (some ⟨b2, 0, none⟩))), (4, (Value.pointer (some ⟨b3, 0, none⟩))), (6, (Value.pointer none)), (7, (Value.int .i64 0)), (9, (Value.pointer (some ⟨b16, 0, none⟩))), (10, (Value.pointer (some ⟨b22, 0, none⟩))), (54, (Value.int .i64 ((l.Beams.length : Nat) : Int))), (55, (Value.int .i64 ((z.1.1 : Nat) : Int)))]) (fun z => [(bund (nest tmR (List.replicate z.1.1 ([] : TM)) z.1.2.2.2)), (own z.1.2.1 z.1.2.2.1 3 1 ((leasts l z.1.1).map iC)), (blk b22 142 (WatchV.cells (WatchV.mk (LineV.mk (TrackV.mk (Slc.mk kA l.Track.length kC)) l.Fast (Slc.mk cA l.Clocks.length cC) (Slc.mk bA l.Beams.length bC) l.Finish l.Fakes l.Misses) (RideV.mk r.Start r.Now (Slc.mk sgA r.Signals.length sgC)) (Slc.mk z.1.2.1 ((leasts l z.1.1).length) z.1.2.2.1) (Slc.mk (some ⟨b19, 0, none⟩) l.Beams.length l.Beams.length) (Slc.mk none 0 0) (Slc.mk none 0 0)))), (own (some ⟨b19, 0, none⟩) l.Beams.length 143 1 (List.map oC (fillF z.1.2.2.2 l.Beams.length))), (blk b16 30 (SignalV.cells (SignalV.mk (-1) 0))), (blk b3 69 (RideV.cells (RideV.mk r.Start r.Now (Slc.mk sgA r.Signals.length sgC)))), (blk b2 28 (LineV.cells (LineV.mk (TrackV.mk (Slc.mk kA l.Track.length kC)) l.Fast (Slc.mk cA l.Clocks.length cC) (Slc.mk bA l.Beams.length bC) l.Finish l.Fakes l.Misses))), (rd kA l.Track.length 9 (l.Track.map StretchV.cells)).ro, (rd cA l.Clocks.length 2 (List.zipWith ClockM.cells l.Clocks az)).ro, (bun (nest ClockM.rds l.Clocks az)).ro, (rd bA l.Beams.length 4 (l.Beams.map BeamV.cells)).ro, (rd sgA r.Signals.length 2 (r.Signals.map SignalV.cells)).ro, X.ro, (blk gm 111 [f]).ro]) (fun z => l.Beams.length - z.1.1) ⟨(0, none, 0, ([] : List Nat)), hinit⟩ (Sub.cons rfl <| Sub.cons rfl <| Sub.cons rfl <| Sub.cons rfl <| Sub.cons rfl <| Sub.cons rfl <| Sub.cons rfl <| Sub.cons rfl <| Sub.cons rfl <| Sub.nil _) (fun w hs => St.sel [0, 1, 2, 3, 4, 7, 8, 9, 10, 11, 12, 13, 14, 15] rfl rfl hs) ?_
 clear hinit
 rintro ⟨⟨b, a, c, fb⟩, ⟨hl9_0, hl9_1⟩⟩ J26 hJ26
 try dsimp only at hl9_0 hl9_1
 try dsimp only
 have hlf : (fillF fb l.Beams.length).length = l.Beams.length := fillF_len (by omega)
 refine WS fun _ hK27 => ?_
 refine rS (BI rfl b_lss) ?_
 refine RK hK27 ?_
 refine w_seq fun _ hK28 => ?_
 refine w_if rfl (fun h29 => ?_) (fun h29 => ?_)
 · replace h29 := DT h29
   refine WK hK28 ?_
   refine w_seq fun _ hK30 => ?_
   refine w_block ?_
   refine WS fun _ hK31 => ?_
   refine rS (MV rfl) ?_
   refine rS (AG rfl) ?_
   refine RK hK31 ?_
   refine w_seq fun _ hK32 => ?_
   refine w_draw4 mixed [0, 1, 2, 3, 4, 5, 6, 7, 8, 9, 10, 11, 14, 15] [12, 13, 16] [false, false, false, false, true, false, false, false, false, false, false, false, false, false] [true, false, false] [(bund (nest tmR (List.replicate b ([] : TM)) fb)), (own (some ⟨b19, 0, none⟩) l.Beams.length 143 1 (List.map oC (fillF fb l.Beams.length))), (blk b16 30 (SignalV.cells (SignalV.mk (-1) 0))), (blk b3 69 (RideV.cells (RideV.mk r.Start r.Now (Slc.mk sgA r.Signals.length sgC)))), (blk b2 28 (LineV.cells (LineV.mk (TrackV.mk (Slc.mk kA l.Track.length kC)) l.Fast (Slc.mk cA l.Clocks.length cC) (Slc.mk bA l.Beams.length bC) l.Finish l.Fakes l.Misses))), (rd kA l.Track.length 9 (l.Track.map StretchV.cells)).ro, (rd cA l.Clocks.length 2 (List.zipWith ClockM.cells l.Clocks az)).ro, (bun (nest ClockM.rds l.Clocks az)).ro, (rd bA l.Beams.length 4 (l.Beams.map BeamV.cells)).ro, (rd sgA r.Signals.length 2 (r.Signals.map SignalV.cells)).ro, X.ro, (blk gm 111 [f]).ro] [(bund (nest tmR (List.replicate b ([] : TM)) fb)), (own a c 3 1 ((leasts l b).map iC)), (blk b22 142 (WatchV.cells (WatchV.mk (LineV.mk (TrackV.mk (Slc.mk kA l.Track.length kC)) l.Fast (Slc.mk cA l.Clocks.length cC) (Slc.mk bA l.Beams.length bC) l.Finish l.Fakes l.Misses) (RideV.mk r.Start r.Now (Slc.mk sgA r.Signals.length sgC)) (Slc.mk a ((leasts l b).length) c) (Slc.mk (some ⟨b19, 0, none⟩) l.Beams.length l.Beams.length) (Slc.mk none 0 0) (Slc.mk none 0 0)))), (own (some ⟨b19, 0, none⟩) l.Beams.length 143 1 (List.map oC (fillF fb l.Beams.length))), (blk b16 30 (SignalV.cells (SignalV.mk (-1) 0))), (blk b3 69 (RideV.cells (RideV.mk r.Start r.Now (Slc.mk sgA r.Signals.length sgC)))), (blk b2 28 (LineV.cells (LineV.mk (TrackV.mk (Slc.mk kA l.Track.length kC)) l.Fast (Slc.mk cA l.Clocks.length cC) (Slc.mk bA l.Beams.length bC) l.Finish l.Fakes l.Misses))), (rd kA l.Track.length 9 (l.Track.map StretchV.cells)).ro, (rd cA l.Clocks.length 2 (List.zipWith ClockM.cells l.Clocks az)).ro, (bun (nest ClockM.rds l.Clocks az)).ro, (rd bA l.Beams.length 4 (l.Beams.map BeamV.cells)).ro, (rd sgA r.Signals.length 2 (r.Signals.map SignalV.cells)).ro, X.ro, (blk gm 111 [f]).ro] (by kernel_rfl) (fun w hs => St.sel [0, 3, 4, 5, 6, 7, 8, 9, 10, 11, 12, 13] rfl rfl hs) (fun w hs => St.sel [0, 1, 2, 3, 4, 5, 6, 7, 8, 9, 10, 11, 12, 13] rfl rfl hs) ?_
   refine eS rfl (MV rfl) ?_
   refine eS rfl (MV rfl) ?_
   refine eS rfl (SX (sd_nil_p rfl rfl) rfl rfl) ?_
   refine eS rfl (FA 10 rfl fo142_2 rfl) ?_
   refine fS rfl (L1 (Value.slice a ((leasts l b).length) c) 2 rfl tk57 rfl rfl) ?_
   refine eS rfl (LW 4 rfl tk28 rfl rfl) ?_
   refine eS rfl (MV rfl) ?_
   refine eS rfl (CL (way_c l kA kC az cA cC bA bC ((b : Nat) : Int) hin (by first | assumption | omega | (simp; done) | (simp; omega)) (by exact hok.beam) (by first | assumption | omega | (simp; done) | (simp; omega))) (ha_at 5 rfl rfl <| ha_at 6 rfl rfl <| ha_at 7 rfl rfl <| ha_at 8 rfl rfl <| ha_nil) rfl) ?_
   have hwb := way_b htr hok.beam b
   have hwy := hok.way b (by omega)
   simp only [Int.toNat_natCast]
   refine eS rfl (BI rfl (b_mul ⟨by omega, by omega⟩)) ?_
   refine eS rfl (FA 1 rfl fo28_1 rfl) ?_
   refine eS rfl (L1 (Value.int .i64 l.Fast) 4 rfl tk3 rfl rfl) ?_
   refine eS rfl (CL (upd_c (1000 * (wayF l ((b : Nat) : Int).toNat)) l.Fast (by first | assumption | omega | (simp; done) | (simp; omega)) (by first | assumption | omega | (simp; done) | (simp; omega))) (ha_nil) rfl) ?_
   refine eS rfl (SX (sd_nil_p rfl rfl) rfl rfl) ?_
   refine eS rfl (FA 10 rfl fo142_2 rfl) ?_
   refine d_fin rfl ?_
   refine t5_cons rfl fun T33 hT33 => ?_
   refine r_bs (xs := [.tmp 69]) (cs := [(Value.int .i64 (upD (1000 * (wayF l ((b : Nat) : Int).toNat)) l.Fast))]) rfl te57 tz3 rfl rfl rfl rfl (by simp [Value.cells]) rfl rfl fun b34 => ?_
   refine r_nil (hT33 _ _ (fun w hs => St.sel [1, 4, 5, 6, 7, 8, 9, 10, 11, 12, 13, 14] rfl rfl hs) (fun w hs => St.sel [1, 2, 3, 4, 5, 6, 7, 8, 9, 10, 11, 12, 13, 14] rfl rfl hs) ?_)
   refine t_cons rfl fun T35 hT35 => ?_
   refine r_append (es2 := (List.map iC (leasts l (b + 1)))) (m' := (leasts l (b + 1)).length) 2 rfl rfl rfl ta57 rfl rfl (by simp [leasts_len]) (has_rd_blk (es := List.map iC [(upD (1000 * (wayF l ((b : Nat) : Int).toNat)) l.Fast)]) 0 rfl rfl (by simp [iC_length]) rfl) (one_iC _) (by have := leasts_len (l := l) (n := b); first | omega | (simp; omega)) (by simp only [maxLen, leasts_len]; omega) (by rw [leasts_succ]; simp [leastF]) (by simp [leasts_len]) rfl fun a36 c37 => ?_
   try dsimp only
   refine r_nil (hT35 _ _ (fun w hs => St.sel [1, 4, 5, 6, 7, 8, 9, 10, 11, 12, 13, 14] rfl rfl hs) ?_)
   refine t_cons rfl fun T38 hT38 => ?_
   refine ST3 (WatchV.cells (WatchV.mk (LineV.mk (TrackV.mk (Slc.mk kA l.Track.length kC)) l.Fast (Slc.mk cA l.Clocks.length cC) (Slc.mk bA l.Beams.length bC) l.Finish l.Fakes l.Misses) (RideV.mk r.Start r.Now (Slc.mk sgA r.Signals.length sgC)) (Slc.mk a36 ((leasts l (b + 1)).length) c37) (Slc.mk (some ⟨b19, 0, none⟩) l.Beams.length l.Beams.length) (Slc.mk none 0 0) (Slc.mk none 0 0))) rfl ts57 rfl rfl ?_
   refine r_nil (hT38 _ _ (fun w hs => St.sel [1, 4, 5, 6, 7, 8, 9, 10, 11, 12, 13, 14] rfl rfl hs) ?_)
   refine t_fin rfl ?_
   refine KK hK32 ?_
   refine w_region ?_
   refine rS (MV rfl) ?_
   refine rS (SX (sd_nil_p rfl rfl) rfl rfl) ?_
   refine rS (FA 11 rfl fo142_3 rfl) ?_
   refine rS (L1 (Value.slice (some ⟨b19, 0, none⟩) l.Beams.length l.Beams.length) 3 rfl tk139 rfl rfl) ?_
   refine rS (MV rfl) ?_
   refine gr_mkmap (kV := iV) rfl rfl fun b39 => ?_
   try dsimp only
   obtain ⟨x40, hx41⟩ : ∃ y_, (fillF fb l.Beams.length)[b]? = some y_ := ⟨(fillF fb l.Beams.length)[b]'(by omega), List.getElem?_eq_getElem _⟩
   have hx41m : (List.map oC (fillF fb l.Beams.length))[b]? = some (oC x40) := by rw [List.getElem?_map, hx41]; rfl
   refine rS (IA b rfl (has_own_n (n := l.Beams.length) 5 rfl (by first | (simp; done) | (simp; omega))) te139 (by decide) (by omega) (by omega)) ?_
   have hb42 : ((fillF fb l.Beams.length).set b (some b39)) = (fillF (fb ++ [b39]) l.Beams.length) := by exact fillF_set (by omega) (by omega)
   refine r_store_own (k := b) (o := 0) (vs := [(Value.map (some b39))]) (es' := (List.map oC (fillF (fb ++ [b39]) l.Beams.length))) (C' := [_, _, _, _, _, (own (some ⟨b19, 0, none⟩) l.Beams.length 143 1 (List.map oC (fillF (fb ++ [b39]) l.Beams.length))), _, _, _, _, _, _, _, _, _, _]) 5 rfl rfl rfl ts143 rfl rfl rfl rfl hx41m rfl (by decide) (by exact (List.map_set (f := oC) (l := (fillF fb l.Beams.length)) (i := b) (a := (some b39))).symm.trans (congrArg _ hb42)) rfl ?_
   refine r_nil ?_
   refine k_block ?_
   refine KK hK30 ?_
   refine w_region ?_
   refine rS (BI rfl (b_add ⟨by omega, by omega⟩)) ?_
   refine rS (MV rfl) ?_
   refine r_nil ?_
   refine k_tie (X' := nest tmR (List.replicate (b + 1) ([] : TM)) (fb ++ [b39])) 2 0 rfl rfl (tm_snoc hl9_1) ?_
   try dsimp only
   have hb43 : (Value.int .i64 (((b + 1) : Nat) : Int)) = (Value.int .i64 (((b : Nat) : Int) + 1)) := by exact congrArg (Value.int .i64) (by omega)
   refine k_then (hJ26 ⟨((b + 1), a36, c37, (fb ++ [b39])), ⟨by omega, by simp; omega⟩⟩ _ _ _ rfl (by first | omega | (simp; omega)) (Sub.cons rfl <| Sub.cons rfl <| Sub.cons rfl <| Sub.cons rfl <| Sub.cons rfl <| Sub.cons rfl <| Sub.cons rfl <| Sub.cons rfl <| sub_val rfl hb43 <| Sub.nil _) (fun w hs => St.sel [0, 2, 3, 4, 5, 6, 7, 8, 9, 10, 11, 12, 13, 14] rfl rfl hs))
 replace h29 := DF h29
 refine w_exit ?_
 refine k_exit_then ?_
 refine k_exit_then ?_
 refine k_exit_same ?_
 refine KK hK24 ?_
 refine w_seq fun _ hK44 => ?_
 refine WS fun _ hK45 => ?_
 refine rS (FA 2 rfl fo69_2 rfl) ?_
 refine rS (L1 (Value.slice sgA r.Signals.length sgC) 5 rfl tk67 rfl rfl) ?_
 refine rS (LN rfl ut67) ?_
 refine rS (MV rfl) ?_
 refine RK hK45 ?_
 refine w_block ?_
 rw [show (List.replicate b ([] : TM)) = timesT l r.Signals 0 from by rw [times_zero, show b = l.Beams.length by omega]]
 rw [show leasts l b = leasts l l.Beams.length from by rw [show b = l.Beams.length by omega]]
 have hinit : (0 ≤ r.Signals.length) ∧ (SigsTo l r.Signals 0) := by exact ⟨Nat.zero_le _, sigs_zero⟩
 refine w_loop (ι := { z : Nat // (z ≤ r.Signals.length) ∧ (SigsTo l r.Signals z) }) (fun z => [(2, (Value.slice (some ⟨gm, 0, none⟩) 1 1)), (3, (Value.pointer (some ⟨b2, 0, none⟩))), (4, (Value.pointer (some ⟨b3, 0, none⟩))), (6, (Value.pointer none)), (7, (Value.int .i64 0)), (9, (Value.pointer (some ⟨b16, 0, none⟩))), (10, (Value.pointer (some ⟨b22, 0, none⟩))), (83, (Value.slice sgA r.Signals.length sgC)), (84, (Value.int .i64 ((r.Signals.length : Nat) : Int))), (85, (Value.int .i64 ((z.1 : Nat) : Int)))]) (fun z => [(bund (nest tmR (timesT l r.Signals z.1) fb)), (own a c 3 1 ((leasts l l.Beams.length).map iC)), (blk b22 142 (WatchV.cells (WatchV.mk (LineV.mk (TrackV.mk (Slc.mk kA l.Track.length kC)) l.Fast (Slc.mk cA l.Clocks.length cC) (Slc.mk bA l.Beams.length bC) l.Finish l.Fakes l.Misses) (RideV.mk r.Start r.Now (Slc.mk sgA r.Signals.length sgC)) (Slc.mk a ((leasts l l.Beams.length).length) c) (Slc.mk (some ⟨b19, 0, none⟩) l.Beams.length l.Beams.length) (Slc.mk none 0 0) (Slc.mk none 0 0)))), (own (some ⟨b19, 0, none⟩) l.Beams.length 143 1 (List.map oC (fillF fb l.Beams.length))), (blk b16 30 (SignalV.cells (prevS r.Signals z.1))), (blk b3 69 (RideV.cells (RideV.mk r.Start r.Now (Slc.mk sgA r.Signals.length sgC)))), (blk b2 28 (LineV.cells (LineV.mk (TrackV.mk (Slc.mk kA l.Track.length kC)) l.Fast (Slc.mk cA l.Clocks.length cC) (Slc.mk bA l.Beams.length bC) l.Finish l.Fakes l.Misses))), (rd kA l.Track.length 9 (l.Track.map StretchV.cells)).ro, (rd cA l.Clocks.length 2 (List.zipWith ClockM.cells l.Clocks az)).ro, (bun (nest ClockM.rds l.Clocks az)).ro, (rd bA l.Beams.length 4 (l.Beams.map BeamV.cells)).ro, (rd sgA r.Signals.length 2 (r.Signals.map SignalV.cells)).ro, X.ro, (blk gm 111 [f]).ro]) (fun z => r.Signals.length - z.1) ⟨0, hinit⟩ (Sub.cons rfl <| Sub.cons rfl <| Sub.cons rfl <| Sub.cons rfl <| Sub.cons rfl <| Sub.cons rfl <| Sub.cons rfl <| Sub.cons rfl <| Sub.cons rfl <| Sub.cons rfl <| Sub.nil _) (fun w hs => St.sel [0, 1, 2, 3, 4, 5, 6, 7, 8, 9, 10, 11, 12, 13] rfl rfl hs) ?_
 clear hinit
 rintro ⟨i, ⟨hl15_0, hl15_1⟩⟩ J46 hJ46
 try dsimp only
 have htlen : (timesT l r.Signals i).length = l.Beams.length := timesT_len
 have hlf : (fillF fb l.Beams.length).length = l.Beams.length := fillF_len (by omega)
 refine WS fun _ hK47 => ?_
 refine rS (BI rfl b_lss) ?_
 refine RK hK47 ?_
 refine w_seq fun _ hK48 => ?_
 refine w_if rfl (fun h49 => ?_) (fun h49 => ?_)
 rotate_left 1
 · replace h49 := DF h49
   refine w_exit ?_
   refine k_exit_then ?_
   refine k_exit_then ?_
   refine k_exit_same ?_
   refine KK hK44 ?_
   refine w_seq fun _ hK79 => ?_
   refine w_seq fun _ hK80 => ?_
   have hro : RideOk l r := ride_all (by omega) (by omega) hl15_1 (by omega)
   refine w_region ?_
   refine rS (MV rfl) ?_
   refine rS (LN rfl ut138) ?_
   refine rS (MV rfl) ?_
   refine RK hK80 ?_
   refine w_block ?_
   refine w_rounds 2 ?_
   refine ro_succ fun R81 hR81 => ?_
   refine WS fun _ hK82 => ?_
   refine rS (SX (sd_bin (r := .bool true) rfl rfl rfl b_lss) rfl rfl) ?_
   refine RK hK82 ?_
   refine w_seq fun _ hK83 => ?_
   refine w_if_true rfl ?_
   refine WK hK83 ?_
   refine w_seq fun _ hK84 => ?_
   refine w_block ?_
   refine WS fun _ hK85 => ?_
   refine rS (IAB 0 0 rfl te138 rfl (by decide) rfl) ?_
   refine rS (L1Q 13 rfl tk111 rfl) ?_
   refine rS (AG rfl) ?_
   refine RK hK85 ?_
   refine WS fun _ hK86 => ?_
   refine rS (MV rfl) ?_
   refine rS (SX (sd_clo rfl rfl rfl (hf ) (ha_at 12 rfl rfl <| ha_nil)) rfl rfl) ?_
   refine rS (AG rfl) ?_
   refine RK hK86 ?_
   refine WS fun _ hK87 => ?_
   refine rS (MV rfl) ?_
   refine rS (BI rfl b_neq) ?_
   refine RK hK87 ?_
   refine w_if rfl (fun h156 => ?_) (fun h156 => ?_)
   · replace h156 := XT h156
     refine WS fun _ hK88 => ?_
     refine rS (MV rfl) ?_
     refine rS (AG rfl) ?_
     refine rS (AG rfl) ?_
     refine RK hK88 ?_
     refine w_ret ?_
     refine hQ _ _ _ (l_nil (vs := [(Value.pointer none), (Value.int .i64 me)]) ⟨rfl, rfl, trivial⟩ fun w hs => endX (false, me, 0, none, 0, none, 0, [], [], [], none, 0, [], [], none, 0) [] ?_ ?_ rfl rfl (by first | rfl | (show List.all _ _ = true; simp only [cond_true, List.all_cons, List.all_nil, fm_wr, tm_wr, Bool.and_true]; rfl)) hs)
     · rfl
     · refine ⟨fun q => Bool.noConfusion (show false = true from q), fun _ => ?_⟩; first | (have e := open_line_e (r := r) (me := me) h21; exact ⟨e.symm, fun q => h21 (e.symm.trans q)⟩) | (have e := open_ride_e (me := me) h10 (fun q : RideOk l r => by have q1 := q.time; have q2 := q.len; omega); exact ⟨e.symm, fun q => absurd (e.symm.trans q) (by decide)⟩) | (have e := open_ride_e (me := me) h10 (ride_no hx (by unfold SigOk SigIn; omega)); exact ⟨e.symm, fun q => absurd (e.symm.trans q) (by decide)⟩) | (have e := open_more_e h10 hro h156; exact ⟨e.symm, fun q => h156 (e.symm.trans q)⟩) | (have e := open_bad_e (me := me) h10 hro (by first | rfl | exact h156) (show numsF (watchL l r) = [] from List.eq_nil_of_length_eq_zero (Int.natCast_eq_zero.1 h164)); exact ⟨e.symm, fun q => absurd (e.symm.trans q) (by decide)⟩)
   replace h156 := XF h156
   refine w_skip ?_
   refine k_block ?_
   refine KK hK84 ?_
   refine w_region ?_
   refine rS (SX (sd_bin (r := .int .i64 1) rfl rfl rfl (b_add ⟨by decide, by decide⟩)) rfl rfl) ?_
   refine rS (MV rfl) ?_
   refine RK hR81 ?_
   refine ro_succ fun R89 hR89 => ?_
   refine WS fun _ hK90 => ?_
   refine rS (SX (sd_bin (r := .bool false) rfl rfl rfl b_lss) rfl rfl) ?_
   refine RK hK90 ?_
   refine w_seq fun _ hK91 => ?_
   refine w_if_false rfl ?_
   refine w_exit ?_
   refine k_exit_then ?_
   refine k_exit_then ?_
   refine k_exit_same ?_
   refine KK hK79 ?_
   refine w_seq fun _ hK92 => ?_
   rw [show timesT l r.Signals i = timesT l r.Signals r.Signals.length from by rw [show i = r.Signals.length by omega]]
   have htl : (timesT l r.Signals r.Signals.length).length = l.Beams.length := timesT_len
   rw [show (List.map oC (fillF fb l.Beams.length)) = (List.zipWith mapC (timesT l r.Signals r.Signals.length) fb) from zipF (by omega) htl]
   rw [show (blk b22 142 (WatchV.cells (WatchV.mk (LineV.mk (TrackV.mk (Slc.mk kA l.Track.length kC)) l.Fast (Slc.mk cA l.Clocks.length cC) (Slc.mk bA l.Beams.length bC) l.Finish l.Fakes l.Misses) (RideV.mk r.Start r.Now (Slc.mk sgA r.Signals.length sgC)) (Slc.mk a ((leasts l l.Beams.length).length) c) (Slc.mk (some ⟨b19, 0, none⟩) l.Beams.length l.Beams.length) (Slc.mk none 0 0) (Slc.mk none 0 0)))) = (blk b22 142 (WatchV.cells (WatchV.mk (LineV.mk (TrackV.mk (Slc.mk kA l.Track.length kC)) l.Fast (Slc.mk cA l.Clocks.length cC) (Slc.mk bA l.Beams.length bC) l.Finish l.Fakes l.Misses) (RideV.mk r.Start r.Now (Slc.mk sgA r.Signals.length sgC)) (Slc.mk a ((leasts l l.Beams.length).length) c) (Slc.mk (some ⟨b19, 0, none⟩) ((timesT l r.Signals r.Signals.length).length) l.Beams.length) (Slc.mk none 0 0) (Slc.mk none 0 0)))) from by rw [htl]]
   have hwo := watch_ok htr hok hro
   have hlel : (leasts l l.Beams.length).length = l.Beams.length := leasts_len
   refine w_region ?_
   refine rS (MV rfl) ?_
   refine r_callm 2 rfl rfl rfl rfl (follow_c (LineV.mk (TrackV.mk (Slc.mk kA l.Track.length kC)) l.Fast (Slc.mk cA l.Clocks.length cC) (Slc.mk bA l.Beams.length bC) l.Finish l.Fakes l.Misses) (RideV.mk r.Start r.Now (Slc.mk sgA r.Signals.length sgC)) (leasts l l.Beams.length) (timesT l r.Signals r.Signals.length) a c fb (some ⟨b19, 0, none⟩) l.Beams.length b22 (by exact hwo) (by exact leasts_len.symm) (by rw [htl]; omega)) rfl (cv_cons 1 rfl rfl (cov_own_n (by simp)) (cv_cons 3 rfl rfl (cov_own_n (by rw [List.length_zipWith]; omega)) (cv_cons 0 rfl rfl cov_bund cv_nil))) rfl (fun y101 hfo => ?_)
   obtain ⟨fs93, fb94, fA95, fC96, bs97, bb98, bA99, bC100⟩ := y101
   refine r_untie (X := [(blk b22 142 (WatchV.cells (WatchV.mk (LineV.mk (TrackV.mk (Slc.mk kA l.Track.length kC)) l.Fast (Slc.mk cA l.Clocks.length cC) (Slc.mk bA l.Beams.length bC) l.Finish l.Fakes l.Misses) (RideV.mk r.Start r.Now (Slc.mk sgA r.Signals.length sgC)) (Slc.mk a ((leasts l l.Beams.length).length) c) (Slc.mk (some ⟨b19, 0, none⟩) ((timesT l r.Signals r.Signals.length).length) l.Beams.length) (Slc.mk fA95 fs93.length fC96) (Slc.mk bA99 bs97.length bC100)))), (own fA95 fC96 144 1 (List.zipWith mapC fs93 fb94)), (bund (nest fmR fs93 fb94)), (own bA99 bC100 144 1 (List.zipWith mapC bs97 bb98)), (bund (nest fmR bs97 bb98))]) 2 rfl rfl ?_
   try dsimp only
   obtain ⟨hq1, hq2, hq3, hq4⟩ := hfo
   dsimp only at hq1 hq2 hq3 hq4
   refine RK hK92 ?_
   refine w_seq fun _ hK102 => ?_
   refine WS fun _ hK103 => ?_
   refine rS (MV rfl) ?_
   refine cX (numbers_c (LineV.mk (TrackV.mk (Slc.mk kA l.Track.length kC)) l.Fast (Slc.mk cA l.Clocks.length cC) (Slc.mk bA l.Beams.length bC) l.Finish l.Fakes l.Misses) (RideV.mk r.Start r.Now (Slc.mk sgA r.Signals.length sgC)) (leasts l l.Beams.length) (timesT l r.Signals r.Signals.length) a c fb (some ⟨b19, 0, none⟩) l.Beams.length fs93 bs97 fb94 fA95 fC96 bb98 bA99 bC100 b22 (by exact hwo) (by first | assumption | omega | (simp; done) | (simp; omega)) (by exact leasts_len.symm) (by exact hq1) (by first | assumption | omega | (simp; done) | (simp; omega))) (ha_cons (has_own_n (n := (leasts l l.Beams.length).length) 6 rfl (by simp)) <| ha_cons (has_own_n (n := (timesT l r.Signals r.Signals.length).length) 7 rfl (by rw [List.length_zipWith]; omega)) <| ha_cons (bun_bund 5 rfl bun_same) <| ha_cons (has_own_n (n := fs93.length) 1 rfl (by rw [List.length_zipWith]; omega)) <| ha_cons (bun_bund 2 rfl bun_same) <| ha_cons (has_own_n (n := bs97.length) 3 rfl (by rw [List.length_zipWith]; omega)) <| ha_cons (bun_bund 4 rfl bun_same) <| ha_at 0 rfl rfl <| ha_nil) rfl fun y104 hy105 => ?_
   obtain ⟨a106, c107⟩ := y104
   try dsimp only
   refine rS (LN rfl ut57) ?_
   refine rS (BI rfl b_eql) ?_
   refine RK hK103 ?_
   refine w_if rfl (fun h164 => ?_) (fun h164 => ?_)
   rotate_left 1
   · replace h164 := DF h164
     refine WK hK102 ?_
     refine WS fun _ hK109 => ?_
     refine rS (MV rfl) ?_
     refine rS (AG rfl) ?_
     refine rS (AG rfl) ?_
     refine RK hK109 ?_
     refine w_ret ?_
     refine hQ _ _ _ (l_nil (vs := [(Value.pointer (some ⟨b22, 0, none⟩)), (Value.int .i64 0)]) ⟨rfl, rfl, trivial⟩ fun w hs => endX (true, 0, b22, a, c, (some ⟨b19, 0, none⟩), l.Beams.length, fb, fs93, fb94, fA95, fC96, bs97, bb98, bA99, bC100) [1, 7, 8, 6, 2, 3, 4, 5] ?_ ?_ rfl rfl (by first | rfl | (show List.all _ _ = true; simp only [cond_true, List.all_cons, List.all_nil, fm_wr, tm_wr, Bool.and_true]; rfl)) hs)
     · rfl
     · exact ⟨fun _ => ⟨open_ok_e h10 hro (by first | rfl | exact h156) (fun q => h164 (congrArg (fun z : List Int => ((z.length : Nat) : Int)) q)), hq1, hq2, hq3, hq4, by dsimp only; omega⟩, fun q => Bool.noConfusion (show true = false from q)⟩
   replace h164 := DT h164
   refine WS fun _ hK108 => ?_
   refine rS (AG rfl) ?_
   refine rS (AG rfl) ?_
   refine RK hK108 ?_
   refine w_ret ?_
   refine hQ _ _ _ (l_nil (vs := [(Value.pointer none), (Value.int .i64 8)]) ⟨rfl, rfl, trivial⟩ fun w hs => endX (false, 8, 0, none, 0, none, 0, [], [], [], none, 0, [], [], none, 0) [] ?_ ?_ rfl rfl (by first | rfl | (show List.all _ _ = true; simp only [cond_true, List.all_cons, List.all_nil, fm_wr, tm_wr, Bool.and_true]; rfl)) hs)
   · rfl
   · refine ⟨fun q => Bool.noConfusion (show false = true from q), fun _ => ?_⟩; first | (have e := open_line_e (r := r) (me := me) h21; exact ⟨e.symm, fun q => h21 (e.symm.trans q)⟩) | (have e := open_ride_e (me := me) h10 (fun q : RideOk l r => by have q1 := q.time; have q2 := q.len; omega); exact ⟨e.symm, fun q => absurd (e.symm.trans q) (by decide)⟩) | (have e := open_ride_e (me := me) h10 (ride_no hx (by unfold SigOk SigIn; omega)); exact ⟨e.symm, fun q => absurd (e.symm.trans q) (by decide)⟩) | (have e := open_more_e h10 hro h156; exact ⟨e.symm, fun q => h156 (e.symm.trans q)⟩) | (have e := open_bad_e (me := me) h10 hro (by first | rfl | exact h156) (show numsF (watchL l r) = [] from List.eq_nil_of_length_eq_zero (Int.natCast_eq_zero.1 h164)); exact ⟨e.symm, fun q => absurd (e.symm.trans q) (by decide)⟩)
 replace h49 := DT h49
 refine WK hK48 ?_
 refine w_seq fun _ hK50 => ?_
 refine w_block ?_
 refine WS fun _ hK51 => ?_
 refine rS (MV rfl) ?_
 obtain ⟨x, hx⟩ : ∃ y_, r.Signals[i]? = some y_ := ⟨r.Signals[i]'(by omega), List.getElem?_eq_getElem _⟩
 have hxm : (r.Signals.map SignalV.cells)[i]? = some (SignalV.cells x) := by rw [List.getElem?_map, hx]; rfl
 refine rS (IA i rfl (has_at 11 rfl) te67 (by decide) (by omega) (by omega)) ?_
 refine rS (LEN i 0 (SignalV.cells x) rfl tk30 (has_at 11 rfl) hxm rfl (by decide) rfl rfl) ?_
 refine AL rfl tz30 fun b52 => ?_
 refine rS (AG rfl) ?_
 refine SW0 rfl ts30 rfl ?_
 refine RK hK51 ?_
 refine w_seq fun _ hK53 => ?_
 refine WS fun _ hK54 => ?_
 refine rS (FA 3 rfl fo28_3 rfl) ?_
 refine rS (L1 (Value.slice bA l.Beams.length bC) 7 rfl tk26 rfl rfl) ?_
 refine rS (LN rfl ut26) ?_
 refine rS (BI rfl (b_sub ⟨by omega, by omega⟩)) ?_
 refine rS (FA 0 rfl fo30_0 rfl) ?_
 refine rS (L1 (Value.int .i64 x.Beam) 0 rfl tk3 rfl rfl) ?_
 refine r_bs (xs := [.tmp 95]) (cs := [(Value.int .i64 x.Beam)]) rfl te57 tz3 rfl rfl rfl rfl (by simp [Value.cells]) rfl rfl fun b55 => ?_
 refine rS (CL (FnV.eq (in_beam 0 (((l.Beams.length : Nat) : Int) - 1) ([x.Beam]) (some ⟨b55, 0, none⟩) 1 (by first | assumption | omega | (simp; done) | (simp; omega))) inAll_one) (ha_cons (has_rd_blk 0 rfl rfl (by simp [iC_length]) rfl) <| ha_nil) rfl) ?_
 refine rS (NT rfl) ?_
 refine rS (MV rfl) ?_
 refine r_bool (t := 99) rfl (fun h99 => ?_) (fun h99 => ?_)
 · replace h99 := XT h99
   refine rS (OX rfl) ?_
   refine rS (OX rfl) ?_
   refine rS (OX rfl) ?_
   refine rS (OX rfl) ?_
   refine rS (OX rfl) ?_
   refine rS (PK rfl) ?_
   refine rS (MV rfl) ?_
   refine rS (OX rfl) ?_
   refine rS (OX rfl) ?_
   refine rS (OX rfl) ?_
   refine rS (OX rfl) ?_
   refine rS (OX rfl) ?_
   refine rS (PK rfl) ?_
   refine rS (MV rfl) ?_
   refine rS (OX rfl) ?_
   refine rS (OX rfl) ?_
   refine rS (OX rfl) ?_
   refine rS (OX rfl) ?_
   refine rS (OX rfl) ?_
   refine rS (OX rfl) ?_
   refine rS (OX rfl) ?_
   refine rS (OX rfl) ?_
   refine rS (OX rfl) ?_
   refine rS (OX rfl) ?_
   refine rS (OX rfl) ?_
   refine rS (OX rfl) ?_
   refine rS (PK rfl) ?_
   refine RK hK54 ?_
   refine w_if_true rfl ?_
   refine WS fun _ hK56 => ?_
   refine rS (AG rfl) ?_
   refine rS (AG rfl) ?_
   refine RK hK56 ?_
   refine w_ret ?_
   refine hQ _ _ _ (l_nil (vs := [(Value.pointer none), (Value.int .i64 51)]) ⟨rfl, rfl, trivial⟩ fun w hs => endX (false, 51, 0, none, 0, none, 0, [], [], [], none, 0, [], [], none, 0) [] ?_ ?_ rfl rfl (by first | rfl | (show List.all _ _ = true; simp only [cond_true, List.all_cons, List.all_nil, fm_wr, tm_wr, Bool.and_true]; rfl)) hs)
   · rfl
   · refine ⟨fun q => Bool.noConfusion (show false = true from q), fun _ => ?_⟩; first | (have e := open_line_e (r := r) (me := me) h21; exact ⟨e.symm, fun q => h21 (e.symm.trans q)⟩) | (have e := open_ride_e (me := me) h10 (fun q : RideOk l r => by have q1 := q.time; have q2 := q.len; omega); exact ⟨e.symm, fun q => absurd (e.symm.trans q) (by decide)⟩) | (have e := open_ride_e (me := me) h10 (ride_no hx (by unfold SigOk SigIn; omega)); exact ⟨e.symm, fun q => absurd (e.symm.trans q) (by decide)⟩) | (have e := open_more_e h10 hro h156; exact ⟨e.symm, fun q => h156 (e.symm.trans q)⟩) | (have e := open_bad_e (me := me) h10 hro (by first | rfl | exact h156) (show numsF (watchL l r) = [] from List.eq_nil_of_length_eq_zero (Int.natCast_eq_zero.1 h164)); exact ⟨e.symm, fun q => absurd (e.symm.trans q) (by decide)⟩)
 replace h99 := XF h99
 refine rS (FA 1 rfl fo30_1 rfl) ?_
 refine rS (L1 (Value.int .i64 x.Read) 1 rfl tk3 rfl rfl) ?_
 refine r_bs (xs := [.tmp 101]) (cs := [(Value.int .i64 x.Read)]) rfl te57 tz3 rfl rfl rfl rfl (by simp [Value.cells]) rfl rfl fun b57 => ?_
 refine rS (CL (FnV.eq (in_beam 0 86400000 ([x.Read]) (some ⟨b57, 0, none⟩) 1 (by first | assumption | omega | (simp; done) | (simp; omega))) inAll_one) (ha_cons (has_rd_blk 0 rfl rfl (by simp [iC_length]) rfl) <| ha_nil) rfl) ?_
 refine rS (NT rfl) ?_
 refine rS (PK rfl) ?_
 refine rS (MV rfl) ?_
 refine r_bool (t := 106) rfl (fun h106 => ?_) (fun h106 => ?_)
 · replace h106 := XT h106
   refine rS (OX rfl) ?_
   refine rS (OX rfl) ?_
   refine rS (OX rfl) ?_
   refine rS (OX rfl) ?_
   refine rS (OX rfl) ?_
   refine rS (PK rfl) ?_
   refine rS (MV rfl) ?_
   refine rS (OX rfl) ?_
   refine rS (OX rfl) ?_
   refine rS (OX rfl) ?_
   refine rS (OX rfl) ?_
   refine rS (OX rfl) ?_
   refine rS (OX rfl) ?_
   refine rS (OX rfl) ?_
   refine rS (OX rfl) ?_
   refine rS (OX rfl) ?_
   refine rS (OX rfl) ?_
   refine rS (OX rfl) ?_
   refine rS (OX rfl) ?_
   refine rS (PK rfl) ?_
   refine RK hK54 ?_
   refine w_if_true rfl ?_
   refine WS fun _ hK58 => ?_
   refine rS (AG rfl) ?_
   refine rS (AG rfl) ?_
   refine RK hK58 ?_
   refine w_ret ?_
   refine hQ _ _ _ (l_nil (vs := [(Value.pointer none), (Value.int .i64 51)]) ⟨rfl, rfl, trivial⟩ fun w hs => endX (false, 51, 0, none, 0, none, 0, [], [], [], none, 0, [], [], none, 0) [] ?_ ?_ rfl rfl (by first | rfl | (show List.all _ _ = true; simp only [cond_true, List.all_cons, List.all_nil, fm_wr, tm_wr, Bool.and_true]; rfl)) hs)
   · rfl
   · refine ⟨fun q => Bool.noConfusion (show false = true from q), fun _ => ?_⟩; first | (have e := open_line_e (r := r) (me := me) h21; exact ⟨e.symm, fun q => h21 (e.symm.trans q)⟩) | (have e := open_ride_e (me := me) h10 (fun q : RideOk l r => by have q1 := q.time; have q2 := q.len; omega); exact ⟨e.symm, fun q => absurd (e.symm.trans q) (by decide)⟩) | (have e := open_ride_e (me := me) h10 (ride_no hx (by unfold SigOk SigIn; omega)); exact ⟨e.symm, fun q => absurd (e.symm.trans q) (by decide)⟩) | (have e := open_more_e h10 hro h156; exact ⟨e.symm, fun q => h156 (e.symm.trans q)⟩) | (have e := open_bad_e (me := me) h10 hro (by first | rfl | exact h156) (show numsF (watchL l r) = [] from List.eq_nil_of_length_eq_zero (Int.natCast_eq_zero.1 h164)); exact ⟨e.symm, fun q => absurd (e.symm.trans q) (by decide)⟩)
 replace h106 := XF h106
 refine rS (FA 0 rfl fo30_0 rfl) ?_
 refine rS (L1 (Value.int .i64 x.Beam) 2 rfl tk3 rfl rfl) ?_
 refine rS (FA 0 rfl fo30_0 rfl) ?_
 refine rS (L1 (Value.int .i64 ((prevS r.Signals i).Beam)) 7 rfl tk3 rfl rfl) ?_
 refine rS (BI rfl b_lss) ?_
 refine rS (PK rfl) ?_
 refine rS (MV rfl) ?_
 refine r_bool (t := 113) rfl (fun h113 => ?_) (fun h113 => ?_)
 · replace h113 := DT h113
   refine rS (OX rfl) ?_
   refine rS (OX rfl) ?_
   refine rS (OX rfl) ?_
   refine rS (OX rfl) ?_
   refine rS (OX rfl) ?_
   refine rS (OX rfl) ?_
   refine rS (OX rfl) ?_
   refine rS (OX rfl) ?_
   refine rS (OX rfl) ?_
   refine rS (OX rfl) ?_
   refine rS (OX rfl) ?_
   refine rS (OX rfl) ?_
   refine rS (PK rfl) ?_
   refine RK hK54 ?_
   refine w_if_true rfl ?_
   refine WS fun _ hK59 => ?_
   refine rS (AG rfl) ?_
   refine rS (AG rfl) ?_
   refine RK hK59 ?_
   refine w_ret ?_
   refine hQ _ _ _ (l_nil (vs := [(Value.pointer none), (Value.int .i64 51)]) ⟨rfl, rfl, trivial⟩ fun w hs => endX (false, 51, 0, none, 0, none, 0, [], [], [], none, 0, [], [], none, 0) [] ?_ ?_ rfl rfl (by first | rfl | (show List.all _ _ = true; simp only [cond_true, List.all_cons, List.all_nil, fm_wr, tm_wr, Bool.and_true]; rfl)) hs)
   · rfl
   · refine ⟨fun q => Bool.noConfusion (show false = true from q), fun _ => ?_⟩; first | (have e := open_line_e (r := r) (me := me) h21; exact ⟨e.symm, fun q => h21 (e.symm.trans q)⟩) | (have e := open_ride_e (me := me) h10 (fun q : RideOk l r => by have q1 := q.time; have q2 := q.len; omega); exact ⟨e.symm, fun q => absurd (e.symm.trans q) (by decide)⟩) | (have e := open_ride_e (me := me) h10 (ride_no hx (by unfold SigOk SigIn; omega)); exact ⟨e.symm, fun q => absurd (e.symm.trans q) (by decide)⟩) | (have e := open_more_e h10 hro h156; exact ⟨e.symm, fun q => h156 (e.symm.trans q)⟩) | (have e := open_bad_e (me := me) h10 hro (by first | rfl | exact h156) (show numsF (watchL l r) = [] from List.eq_nil_of_length_eq_zero (Int.natCast_eq_zero.1 h164)); exact ⟨e.symm, fun q => absurd (e.symm.trans q) (by decide)⟩)
 replace h113 := DF h113
 refine rS (FA 0 rfl fo30_0 rfl) ?_
 refine rS (L1 (Value.int .i64 x.Beam) 2 rfl tk3 rfl rfl) ?_
 refine rS (FA 0 rfl fo30_0 rfl) ?_
 refine rS (L1 (Value.int .i64 ((prevS r.Signals i).Beam)) 7 rfl tk3 rfl rfl) ?_
 refine rS (BI rfl b_eql) ?_
 refine rS (MV rfl) ?_
 refine r_bool (t := 119) rfl (fun h119 => ?_) (fun h119 => ?_)
 rotate_left 1
 · replace h119 := DF h119
   refine rS (OX rfl) ?_
   refine rS (OX rfl) ?_
   refine rS (OX rfl) ?_
   refine rS (OX rfl) ?_
   refine rS (OX rfl) ?_
   refine rS (PK rfl) ?_
   refine rS (PK rfl) ?_
   refine RK hK54 ?_
   refine w_if_false rfl ?_
   refine WK hK53 ?_
   refine w_seq fun _ hK70 => ?_
   refine WS fun _ hK71 => ?_
   refine rS (LW 9 rfl tk28 rfl rfl) ?_
   refine rS (LW 2 rfl tk30 rfl rfl) ?_
   refine rS (CL (when_c l kA kC az cA cC bA bC x hin (by first | assumption | omega | (simp; done) | (simp; omega)) (by first | assumption | omega | (simp; done) | (simp; omega))) (ha_at 10 rfl rfl <| ha_at 11 rfl rfl <| ha_at 12 rfl rfl <| ha_at 13 rfl rfl <| ha_nil) rfl) ?_
   refine AL rfl tz34 fun b72 => ?_
   refine SW0 rfl ts34 rfl ?_
   refine RK hK71 ?_
   refine WS fun _ hK73 => ?_
   refine rS (FA 0 rfl fo34_0 rfl) ?_
   refine rS (L1 (Value.int .i64 ((whenF l x).Lo)) 0 rfl tk3 rfl rfl) ?_
   refine rS (FA 1 rfl fo34_1 rfl) ?_
   refine rS (L1 (Value.int .i64 ((whenF l x).Hi)) 0 rfl tk3 rfl rfl) ?_
   refine rS (BI rfl b_leq) ?_
   refine RK hK73 ?_
   refine w_if rfl (fun h134 => ?_) (fun h134 => ?_)
   rotate_left 1
   · replace h134 := DF h134
     refine WK hK70 ?_
     refine w_region ?_
     refine rS (LW 3 rfl tk30 rfl rfl) ?_
     refine SW8 rfl ts30 rfl ?_
     refine r_nil ?_
     refine k_block ?_
     refine KK hK50 ?_
     have hb77 : (SignalV.cells x) = (SignalV.cells (prevS r.Signals (i + 1))) := by rw [prevS_succ hx]
     rw [hb77]
     refine w_region ?_
     refine rS (BI rfl (b_add ⟨by omega, by omega⟩)) ?_
     refine rS (MV rfl) ?_
     refine r_nil ?_
     rw [show (timesT l r.Signals i) = (timesT l r.Signals (i + 1)) from (times_skip hx h134).symm]
     have hb78 : (Value.int .i64 (((i + 1) : Nat) : Int)) = (Value.int .i64 (((i : Nat) : Int) + 1)) := by exact congrArg (Value.int .i64) (by omega)
     refine k_then (hJ46 ⟨(i + 1), ⟨by omega, sigs_succ hl15_1 hx (by unfold SigOk SigIn; omega)⟩⟩ _ _ _ rfl (by first | omega | (simp; omega)) (Sub.cons rfl <| Sub.cons rfl <| Sub.cons rfl <| Sub.cons rfl <| Sub.cons rfl <| Sub.cons rfl <| Sub.cons rfl <| Sub.cons rfl <| Sub.cons rfl <| sub_val rfl hb78 <| Sub.nil _) (fun w hs => St.sel [4, 5, 6, 7, 8, 9, 10, 11, 12, 13, 14, 15, 16, 17] rfl rfl hs))
   replace h134 := DT h134
   obtain ⟨mb, hmb⟩ : ∃ y_, (timesT l r.Signals i)[(x.Beam).toNat]? = some y_ := ⟨(timesT l r.Signals i)[(x.Beam).toNat]'(by omega), List.getElem?_eq_getElem _⟩
   obtain ⟨ga, hga⟩ : ∃ y_, fb[(x.Beam).toNat]? = some y_ := ⟨fb[(x.Beam).toNat]'(by omega), List.getElem?_eq_getElem _⟩
   refine w_out 4 hmb hga rfl rfl rfl ?_
   try dsimp only
   refine w_draw mixed 10 (by kernel_rfl) ?_
   refine dS (MV rfl) ?_
   refine dS (SX (sd_nil_p rfl rfl) rfl rfl) ?_
   refine dS (FA 11 rfl fo142_3 rfl) ?_
   refine dS (L1 (Value.slice (some ⟨b19, 0, none⟩) l.Beams.length l.Beams.length) 7 rfl tk139 rfl rfl) ?_
   refine dS (FA 0 rfl fo30_0 rfl) ?_
   refine dS (L1 (Value.int .i64 x.Beam) 5 rfl tk3 rfl rfl) ?_
   have hk74 : (List.map oC (fillF fb l.Beams.length))[(x.Beam).toNat]? = some (oC (some ga)) := oC_at (fillF_at hga)
   refine dS (IA ((x.Beam).toNat) rfl (has_own_n (n := l.Beams.length) 8 rfl (by first | (simp; done) | (simp; omega))) te139 (by decide) (by omega) (by omega)) ?_
   refine dS (LE1 ((x.Beam).toNat) 0 (Value.map (some ga)) rfl tk143 (has_own_n (n := (fillF fb l.Beams.length).length) 8 rfl (by simp)) hk74 rfl (by decide) rfl) ?_
   refine dS (MV rfl) ?_
   refine dS (LW 2 rfl tk34 rfl rfl) ?_
   refine d_end ?_
   refine gr_mapset (kV := iV) (x := ((i : Nat) : Int)) (C' := [(gmp iV ga (gmapV spanU (gsetK mb ((i : Nat) : Int) (whenF l x)))), _, _, _, _, _, _, _, _, _, _, _, _, _, _, _, _, _, _]) 0 rfl rfl rfl rfl ut143 (gkey_int ut3) rfl (gmapV_setK _ _ _ _).symm rfl ?_
   refine RK hK70 ?_
   refine w_region ?_
   refine rS (LW 5 rfl tk30 rfl rfl) ?_
   refine SW9 rfl ts30 rfl ?_
   refine r_nil ?_
   refine k_block ?_
   refine KK hK50 ?_
   have hb75 : (SignalV.cells x) = (SignalV.cells (prevS r.Signals (i + 1))) := by rw [prevS_succ hx]
   rw [hb75]
   refine w_region ?_
   refine rS (BI rfl (b_add ⟨by omega, by omega⟩)) ?_
   refine rS (MV rfl) ?_
   refine r_nil ?_
   refine k_back (f := tmR) (ms := (timesT l r.Signals i)) (m := (gsetK mb ((i : Nat) : Int) (whenF l x))) 1 0 (by rw [timesT_len]; omega) hga rfl rfl rfl ?_
   rw [times_put hx (by omega) h134 hmb]
   have hb76 : (Value.int .i64 (((i + 1) : Nat) : Int)) = (Value.int .i64 (((i : Nat) : Int) + 1)) := by exact congrArg (Value.int .i64) (by omega)
   refine k_then (hJ46 ⟨(i + 1), ⟨by omega, sigs_succ hl15_1 hx (by unfold SigOk SigIn; omega)⟩⟩ _ _ _ rfl (by first | omega | (simp; omega)) (Sub.cons rfl <| Sub.cons rfl <| Sub.cons rfl <| Sub.cons rfl <| Sub.cons rfl <| Sub.cons rfl <| Sub.cons rfl <| Sub.cons rfl <| Sub.cons rfl <| sub_val rfl hb76 <| Sub.nil _) (fun w hs => St.sel [0, 5, 6, 7, 8, 9, 10, 11, 12, 13, 14, 15, 16, 17] rfl rfl hs))
 replace h119 := DT h119
 refine rS (FA 1 rfl fo30_1 rfl) ?_
 refine rS (L1 (Value.int .i64 x.Read) 2 rfl tk3 rfl rfl) ?_
 refine rS (FA 1 rfl fo30_1 rfl) ?_
 refine rS (L1 (Value.int .i64 ((prevS r.Signals i).Read)) 7 rfl tk3 rfl rfl) ?_
 refine rS (BI rfl b_leq) ?_
 refine rS (PK rfl) ?_
 refine rS (PK rfl) ?_
 refine RK hK54 ?_
 refine w_if rfl (fun h126 => ?_) (fun h126 => ?_)
 · replace h126 := DT h126
   refine WS fun _ hK60 => ?_
   refine rS (AG rfl) ?_
   refine rS (AG rfl) ?_
   refine RK hK60 ?_
   refine w_ret ?_
   refine hQ _ _ _ (l_nil (vs := [(Value.pointer none), (Value.int .i64 51)]) ⟨rfl, rfl, trivial⟩ fun w hs => endX (false, 51, 0, none, 0, none, 0, [], [], [], none, 0, [], [], none, 0) [] ?_ ?_ rfl rfl (by first | rfl | (show List.all _ _ = true; simp only [cond_true, List.all_cons, List.all_nil, fm_wr, tm_wr, Bool.and_true]; rfl)) hs)
   · rfl
   · refine ⟨fun q => Bool.noConfusion (show false = true from q), fun _ => ?_⟩; first | (have e := open_line_e (r := r) (me := me) h21; exact ⟨e.symm, fun q => h21 (e.symm.trans q)⟩) | (have e := open_ride_e (me := me) h10 (fun q : RideOk l r => by have q1 := q.time; have q2 := q.len; omega); exact ⟨e.symm, fun q => absurd (e.symm.trans q) (by decide)⟩) | (have e := open_ride_e (me := me) h10 (ride_no hx (by unfold SigOk SigIn; omega)); exact ⟨e.symm, fun q => absurd (e.symm.trans q) (by decide)⟩) | (have e := open_more_e h10 hro h156; exact ⟨e.symm, fun q => h156 (e.symm.trans q)⟩) | (have e := open_bad_e (me := me) h10 hro (by first | rfl | exact h156) (show numsF (watchL l r) = [] from List.eq_nil_of_length_eq_zero (Int.natCast_eq_zero.1 h164)); exact ⟨e.symm, fun q => absurd (e.symm.trans q) (by decide)⟩)
 replace h126 := DF h126
 refine WK hK53 ?_
 refine w_seq fun _ hK61 => ?_
 refine WS fun _ hK62 => ?_
 refine rS (LW 9 rfl tk28 rfl rfl) ?_
 refine rS (LW 2 rfl tk30 rfl rfl) ?_
 refine rS (CL (when_c l kA kC az cA cC bA bC x hin (by first | assumption | omega | (simp; done) | (simp; omega)) (by first | assumption | omega | (simp; done) | (simp; omega))) (ha_at 10 rfl rfl <| ha_at 11 rfl rfl <| ha_at 12 rfl rfl <| ha_at 13 rfl rfl <| ha_nil) rfl) ?_
 refine AL rfl tz34 fun b63 => ?_
 refine SW0 rfl ts34 rfl ?_
 refine RK hK62 ?_
 refine WS fun _ hK64 => ?_
 refine rS (FA 0 rfl fo34_0 rfl) ?_
 refine rS (L1 (Value.int .i64 ((whenF l x).Lo)) 0 rfl tk3 rfl rfl) ?_
 refine rS (FA 1 rfl fo34_1 rfl) ?_
 refine rS (L1 (Value.int .i64 ((whenF l x).Hi)) 0 rfl tk3 rfl rfl) ?_
 refine rS (BI rfl b_leq) ?_
 refine RK hK64 ?_
 refine w_if rfl (fun h134 => ?_) (fun h134 => ?_)
 rotate_left 1
 · replace h134 := DF h134
   refine WK hK61 ?_
   refine w_region ?_
   refine rS (LW 3 rfl tk30 rfl rfl) ?_
   refine SW8 rfl ts30 rfl ?_
   refine r_nil ?_
   refine k_block ?_
   refine KK hK50 ?_
   have hb68 : (SignalV.cells x) = (SignalV.cells (prevS r.Signals (i + 1))) := by rw [prevS_succ hx]
   rw [hb68]
   refine w_region ?_
   refine rS (BI rfl (b_add ⟨by omega, by omega⟩)) ?_
   refine rS (MV rfl) ?_
   refine r_nil ?_
   rw [show (timesT l r.Signals i) = (timesT l r.Signals (i + 1)) from (times_skip hx h134).symm]
   have hb69 : (Value.int .i64 (((i + 1) : Nat) : Int)) = (Value.int .i64 (((i : Nat) : Int) + 1)) := by exact congrArg (Value.int .i64) (by omega)
   refine k_then (hJ46 ⟨(i + 1), ⟨by omega, sigs_succ hl15_1 hx (by unfold SigOk SigIn; omega)⟩⟩ _ _ _ rfl (by first | omega | (simp; omega)) (Sub.cons rfl <| Sub.cons rfl <| Sub.cons rfl <| Sub.cons rfl <| Sub.cons rfl <| Sub.cons rfl <| Sub.cons rfl <| Sub.cons rfl <| Sub.cons rfl <| sub_val rfl hb69 <| Sub.nil _) (fun w hs => St.sel [4, 5, 6, 7, 8, 9, 10, 11, 12, 13, 14, 15, 16, 17] rfl rfl hs))
 replace h134 := DT h134
 obtain ⟨mb, hmb⟩ : ∃ y_, (timesT l r.Signals i)[(x.Beam).toNat]? = some y_ := ⟨(timesT l r.Signals i)[(x.Beam).toNat]'(by omega), List.getElem?_eq_getElem _⟩
 obtain ⟨ga, hga⟩ : ∃ y_, fb[(x.Beam).toNat]? = some y_ := ⟨fb[(x.Beam).toNat]'(by omega), List.getElem?_eq_getElem _⟩
 refine w_out 4 hmb hga rfl rfl rfl ?_
 try dsimp only
 refine w_draw mixed 10 (by kernel_rfl) ?_
 refine dS (MV rfl) ?_
 refine dS (SX (sd_nil_p rfl rfl) rfl rfl) ?_
 refine dS (FA 11 rfl fo142_3 rfl) ?_
 refine dS (L1 (Value.slice (some ⟨b19, 0, none⟩) l.Beams.length l.Beams.length) 7 rfl tk139 rfl rfl) ?_
 refine dS (FA 0 rfl fo30_0 rfl) ?_
 refine dS (L1 (Value.int .i64 x.Beam) 5 rfl tk3 rfl rfl) ?_
 have hk65 : (List.map oC (fillF fb l.Beams.length))[(x.Beam).toNat]? = some (oC (some ga)) := oC_at (fillF_at hga)
 refine dS (IA ((x.Beam).toNat) rfl (has_own_n (n := l.Beams.length) 8 rfl (by first | (simp; done) | (simp; omega))) te139 (by decide) (by omega) (by omega)) ?_
 refine dS (LE1 ((x.Beam).toNat) 0 (Value.map (some ga)) rfl tk143 (has_own_n (n := (fillF fb l.Beams.length).length) 8 rfl (by simp)) hk65 rfl (by decide) rfl) ?_
 refine dS (MV rfl) ?_
 refine dS (LW 2 rfl tk34 rfl rfl) ?_
 refine d_end ?_
 refine gr_mapset (kV := iV) (x := ((i : Nat) : Int)) (C' := [(gmp iV ga (gmapV spanU (gsetK mb ((i : Nat) : Int) (whenF l x)))), _, _, _, _, _, _, _, _, _, _, _, _, _, _, _, _, _, _]) 0 rfl rfl rfl rfl ut143 (gkey_int ut3) rfl (gmapV_setK _ _ _ _).symm rfl ?_
 refine RK hK61 ?_
 refine w_region ?_
 refine rS (LW 5 rfl tk30 rfl rfl) ?_
 refine SW9 rfl ts30 rfl ?_
 refine r_nil ?_
 refine k_block ?_
 refine KK hK50 ?_
 have hb66 : (SignalV.cells x) = (SignalV.cells (prevS r.Signals (i + 1))) := by rw [prevS_succ hx]
 rw [hb66]
 refine w_region ?_
 refine rS (BI rfl (b_add ⟨by omega, by omega⟩)) ?_
 refine rS (MV rfl) ?_
 refine r_nil ?_
 refine k_back (f := tmR) (ms := (timesT l r.Signals i)) (m := (gsetK mb ((i : Nat) : Int) (whenF l x))) 1 0 (by rw [timesT_len]; omega) hga rfl rfl rfl ?_
 rw [times_put hx (by omega) h134 hmb]
 have hb67 : (Value.int .i64 (((i + 1) : Nat) : Int)) = (Value.int .i64 (((i : Nat) : Int) + 1)) := by exact congrArg (Value.int .i64) (by omega)
 refine k_then (hJ46 ⟨(i + 1), ⟨by omega, sigs_succ hl15_1 hx (by unfold SigOk SigIn; omega)⟩⟩ _ _ _ rfl (by first | omega | (simp; omega)) (Sub.cons rfl <| Sub.cons rfl <| Sub.cons rfl <| Sub.cons rfl <| Sub.cons rfl <| Sub.cons rfl <| Sub.cons rfl <| Sub.cons rfl <| Sub.cons rfl <| sub_val rfl hb67 <| Sub.nil _) (fun w hs => St.sel [0, 5, 6, 7, 8, 9, 10, 11, 12, 13, 14, 15, 16, 17] rfl rfl hs))
end
section
open Go.RowKit
set_option linter.unusedVariables false
set_option maxRecDepth 100000 in
set_option maxHeartbeats 400000 in
theorem Passed_c (l : LineM) (kA : Option Addr) (kC : Nat) (az : List RA) (cA : Option Addr) (cC : Nat) (bA : Option Addr) (bC : Nat) (r : RideM) (sgA : Option Addr) (sgC : Nat) (bq_ : Int) (hin : LineIn l az) (hsl : r.Signals.length ≤ 1000000) :
    FnV Try.prog 29 [(Value.agg (LineV.cells (LineV.mk (TrackV.mk (Slc.mk kA l.Track.length kC)) l.Fast (Slc.mk cA l.Clocks.length cC) (Slc.mk bA l.Beams.length bC) l.Finish l.Fakes l.Misses)).toArray), (Value.agg (RideV.cells (RideV.mk r.Start r.Now (Slc.mk sgA r.Signals.length sgC))).toArray), (Value.int .i64 bq_)] [(rd kA l.Track.length 9 (l.Track.map StretchV.cells)), (rd cA l.Clocks.length 2 (List.zipWith ClockM.cells l.Clocks az)), (bun (nest ClockM.rds l.Clocks az)), (rd bA l.Beams.length 4 (l.Beams.map BeamV.cells)), (rd sgA r.Signals.length 2 (r.Signals.map SignalV.cells))] (Value.tuple [(Value.agg (SpanV.cells (passedV l r bq_)).toArray), (Value.int .i64 (passedE l r bq_))].toArray) := by
 have htk := hin.trk
 have hck := hin.cks
 have has := hin.as_
 have hbm := hin.bms
 have hsd := hin.side
 refine fnV_of go29 Try.func29 rfl rfl fun w0 Q hQ hN => ?_
 try dsimp only
 refine WS fun _ hK1 => ?_
 refine BXA rfl fun b2 => ?_
 refine BXA rfl fun b3 => ?_
 refine BX1 rfl rfl fun b4 => ?_
 refine AL rfl tz34 fun b5 => ?_
 refine rS (AG rfl) ?_
 refine RK hK1 ?_
 refine WS fun _ hK6 => ?_
 refine rS (LW 3 rfl tk28 rfl rfl) ?_
 refine rS (LW 2 rfl tk69 rfl rfl) ?_
 refine rS (FU rfl) ?_
 refine r_bs (xs := [.tmp 17]) (cs := [(Value.func (.func 63) [].toArray [(Value.pointer (some ⟨b2, 0, none⟩)), (Value.pointer (some ⟨b4, 0, none⟩))].toArray)]) rfl te138 tz111 rfl rfl rfl rfl (by simp [Value.cells]) rfl rfl fun b7 => ?_
 refine cX (open1_c l kA kC az cA cC bA bC r sgA sgC (Value.func (.func 63) [].toArray [(Value.pointer (some ⟨b2, 0, none⟩)), (Value.pointer (some ⟨b4, 0, none⟩))].toArray) (bun [(rd kA l.Track.length 9 (l.Track.map StretchV.cells)), (rd cA l.Clocks.length 2 (List.zipWith ClockM.cells l.Clocks az)), (bun (nest ClockM.rds l.Clocks az)), (rd bA l.Beams.length 4 (l.Beams.map BeamV.cells)), (blk b2 28 (LineV.cells (LineV.mk (TrackV.mk (Slc.mk kA l.Track.length kC)) l.Fast (Slc.mk cA l.Clocks.length cC) (Slc.mk bA l.Beams.length bC) l.Finish l.Fakes l.Misses))), (blk b4 3 [(Value.int .i64 bq_)])]) (beamE l bq_) b7 (by exact clo_of (fi := []) (ca := [(Value.pointer (some ⟨b2, 0, none⟩)), (Value.pointer (some ⟨b4, 0, none⟩))]) (fnV_bun (passed1f_c l kA kC az cA cC bA bC b2 bq_ b4 (by first | assumption | omega)) (ha_at 0 rfl rfl <| ha_at 1 rfl rfl <| ha_at 2 rfl rfl <| ha_at 3 rfl rfl <| ha_at 4 rfl rfl <| ha_at 5 rfl rfl <| ha_nil))) hin hsl) (ha_at 5 rfl rfl <| ha_at 6 rfl rfl <| ha_at 7 rfl rfl <| ha_at 8 rfl rfl <| ha_at 9 rfl rfl <| ha_cons (has_bun (ha_at 5 rfl rfl <| ha_at 6 rfl rfl <| ha_at 7 rfl rfl <| ha_at 8 rfl rfl <| ha_at 4 rfl rfl <| ha_at 2 rfl rfl <| ha_nil)) <| ha_at 0 rfl rfl <| ha_nil) rfl fun y8 hy9 => ?_
 obtain ⟨ok25, ec10, gw11, eA12, eC13, tA14, tC15, tb16, fs17, fb18, fA19, fC20, bs21, bb22, qA23, qC24⟩ := y8
 cases ok25
 · obtain ⟨hec, he⟩ := hy9.2 rfl
   try dsimp only at hec he
   subst hec
   try dsimp only [cond_true, cond_false, List.cons_append, List.nil_append]
   refine rS (MV rfl) ?_
   refine rS (EX rfl) ?_
   refine rS (EX rfl) ?_
   refine rS (AG rfl) ?_
   refine rS (AG rfl) ?_
   refine RK hK6 ?_
   refine w_seq fun _ hK26 => ?_
   refine WS fun _ hK27 => ?_
   refine rS (MV rfl) ?_
   refine rS (BI rfl b_neq) ?_
   refine RK hK27 ?_
   refine w_if rfl (fun h23 => ?_) (fun h23 => ?_)
   rotate_left 1
   · replace h23 := XF h23
     exact absurd h23 he
   replace h23 := XT h23
   refine WS fun _ hK28 => ?_
   refine rS (SX (sd_build (xs := []) (cs := (SpanV.cells (SpanV.mk 0 0))) rfl rfl (built_of tb34 rfl)) rfl rfl) ?_
   refine rS (MV rfl) ?_
   refine SW1 rfl ts34 rfl ?_
   refine rS (AG rfl) ?_
   refine RK hK28 ?_
   refine w_ret ?_
   refine hQ _ _ _ (l_nil (vs := [(Value.agg (SpanV.cells (SpanV.mk 0 0)).toArray), (Value.int .i64 (openE l r (beamE l bq_)))]) ⟨⟨_, rfl, .inl ⟨_, _, tk34, at_blk (vs := (SpanV.cells (SpanV.mk 0 0))) 1 rfl rfl, rfl, rfl⟩⟩, rfl, trivial⟩ fun w hs => endV ?_ hs)
   show (Value.tuple [(Value.agg (SpanV.cells (SpanV.mk 0 0)).toArray), (Value.int .i64 (openE l r (beamE l bq_)))].toArray) = (Value.tuple [(Value.agg (SpanV.cells (passedV l r bq_)).toArray), (Value.int .i64 (passedE l r bq_))].toArray)
   clear hs w hQ hN hK28 hK27 hK26 hK6 hK1
   first | (have e := passed_bad (b := bq_) he; rw [e.1, e.2] <;> rfl) | (rw [hbq] at he ⊢; have hh : h = hullW l r b := hull_maps (hfw.min _ _ hm1) (hbw.max _ _ hm2) (hfw.keys _ _ hm1) (hbw.keys _ _ hm2) hr1 hfin hr0; first | (have e := passed_none he (hh.symm.trans h50); rw [e.1, e.2] <;> rfl) | (have e := passed_some he (fun q => h50 (hh.trans q)); rw [e.1, e.2, hh] <;> rfl))
 obtain ⟨he, hfw, hbw, hfl, hbl, htl⟩ := hy9.1 rfl
 try dsimp only [cond_true, cond_false, List.cons_append, List.nil_append]
 dsimp only at hfw hbw hfl hbl htl
 obtain ⟨h10, hro, hme, hnn⟩ := openE_zero he
 obtain ⟨htr, hok⟩ := lineE_zero h10
 have hhd := hok.head
 unfold HeadOk at hhd
 have hwo := watch_ok htr hok hro
 have hrt := hro.time
 have hrl := hro.len
 have hlel : (leasts l l.Beams.length).length = l.Beams.length := leasts_len
 have htll : (timesT l r.Signals r.Signals.length).length = l.Beams.length := timesT_len
 have hfn : fs17.length = l.Beams.length + 1 := by have := hfw.len; rw [show (watchL l r).n = l.Beams.length from leasts_len] at this; exact this
 have hbn : bs21.length = l.Beams.length + 1 := by have := hbw.len; rw [show (watchL l r).n = l.Beams.length from leasts_len] at this; exact this
 obtain ⟨hb0, hb1⟩ := beamE_zero hme
 obtain ⟨b, hbq⟩ : ∃ b : Nat, bq_ = ((b : Nat) : Int) := ⟨bq_.toNat, by omega⟩
 rw [hbq]
 refine rS (MV rfl) ?_
 refine rS (EX rfl) ?_
 refine rS (EX rfl) ?_
 refine rS (AG rfl) ?_
 refine rS (AG rfl) ?_
 refine RK hK6 ?_
 refine w_seq fun _ hK29 => ?_
 refine WS fun _ hK30 => ?_
 refine rS (MV rfl) ?_
 refine rS (SX (sd_bin (r := .bool false) rfl rfl rfl b_neq) rfl rfl) ?_
 refine RK hK30 ?_
 refine w_if_false rfl ?_
 refine WK hK29 ?_
 refine WS fun _ hK31 => ?_
 refine rS (SX (sd_build (xs := [(0, .const (Value.int .i64 1))]) (cs := (SpanV.cells (SpanV.mk 1 0))) rfl rfl (built_of tb34 rfl)) rfl rfl) ?_
 refine AL rfl tz34 fun b32 => ?_
 refine SW0 rfl ts34 rfl ?_
 refine RK hK31 ?_
 refine WS fun _ hK33 => ?_
 refine rS (LW 0 rfl tk34 rfl rfl) ?_
 refine AL rfl tz34 fun b34 => ?_
 refine SW0 rfl ts34 rfl ?_
 refine RK hK33 ?_
 refine w_seq fun _ hK35 => ?_
 refine WS fun _ hK36 => ?_
 refine rS (MV rfl) ?_
 refine rS (L1W 12 rfl tk3 rfl) ?_
 obtain ⟨mf, hm1⟩ : ∃ y_, fs17[b]? = some y_ := ⟨fs17[b]'(by omega), List.getElem?_eq_getElem _⟩
 obtain ⟨mb, hm2⟩ : ∃ y_, bs21[b + 1]? = some y_ := ⟨bs21[b + 1]'(by omega), List.getElem?_eq_getElem _⟩
 refine cX (passes_c gw11 b) (ha_nil) rfl fun y37 hy38 => ?_
 obtain ⟨x139, x240⟩ := y37
 try dsimp only
 refine RK hK36 ?_
 refine w_block ?_
 refine w_rangeG (L0 := [(3, (Value.pointer (some ⟨b2, 0, none⟩))), (4, (Value.pointer (some ⟨b3, 0, none⟩))), (5, (Value.pointer (some ⟨b4, 0, none⟩))), (6, (Value.pointer (some ⟨b5, 0, none⟩))), (7, (Value.int .i64 0)), (10, (Value.pointer (some ⟨b32, 0, none⟩))), (11, (Value.pointer (some ⟨b34, 0, none⟩)))]) (F := [(own eA12 eC13 3 1 ((leasts l l.Beams.length).map iC)), (own tA14 tC15 143 1 (List.zipWith mapC (timesT l r.Signals r.Signals.length) tb16)), (bund (nest tmR (timesT l r.Signals r.Signals.length) tb16)), (own fA19 fC20 144 1 (List.zipWith mapC fs17 fb18)), (bund (nest fmR fs17 fb18)), (own qA23 qC24 144 1 (List.zipWith mapC bs21 bb22)), (bund (nest fmR bs21 bb22)), (blk gw11 142 (WatchV.cells (WatchV.mk (LineV.mk (TrackV.mk (Slc.mk kA l.Track.length kC)) l.Fast (Slc.mk cA l.Clocks.length cC) (Slc.mk bA l.Beams.length bC) l.Finish l.Fakes l.Misses) (RideV.mk r.Start r.Now (Slc.mk sgA r.Signals.length sgC)) (Slc.mk eA12 ((leasts l l.Beams.length).length) eC13) (Slc.mk tA14 ((timesT l r.Signals r.Signals.length).length) tC15) (Slc.mk fA19 fs17.length fC20) (Slc.mk qA23 bs21.length qC24)))), (blk x139 107 [(Value.pointer (some ⟨gw11, 0, none⟩))]), (blk x240 3 [(Value.int .i64 ((b : Nat) : Int))])])  (fun k (y : SpanV) => (HullOk k y) ∧ (∀ q ∈ k, q ∈ passM (watchL l r) b mf mb)) (fun k y => [(blk b34 34 (SpanV.cells y)), (blk b32 34 (SpanV.cells (SpanV.mk 1 0))), (blk b5 34 (SpanV.cells (SpanV.mk 0 0))), (blk b4 3 [(Value.int .i64 ((b : Nat) : Int))]), (blk b3 69 (RideV.cells (RideV.mk r.Start r.Now (Slc.mk sgA r.Signals.length sgC)))), (blk b2 28 (LineV.cells (LineV.mk (TrackV.mk (Slc.mk kA l.Track.length kC)) l.Fast (Slc.mk cA l.Clocks.length cC) (Slc.mk bA l.Beams.length bC) l.Finish l.Fakes l.Misses))), (rd kA l.Track.length 9 (l.Track.map StretchV.cells)).ro, (rd cA l.Clocks.length 2 (List.zipWith ClockM.cells l.Clocks az)).ro, (bun (nest ClockM.rds l.Clocks az)).ro, (rd bA l.Beams.length 4 (l.Beams.map BeamV.cells)).ro, (rd sgA r.Signals.length 2 (r.Signals.map SignalV.cells)).ro]) (fun _ (_ : Unit) => False) (fun _ _ => []) [2, 3, 13, 14, 15, 16, 17, 18, 19, 20, 21] [5, 6, 7, 8, 9, 10, 11, 4, 0, 1] noneZ rfl rfl (passes1_c (LineV.mk (TrackV.mk (Slc.mk kA l.Track.length kC)) l.Fast (Slc.mk cA l.Clocks.length cC) (Slc.mk bA l.Beams.length bC) l.Finish l.Fakes l.Misses) (RideV.mk r.Start r.Now (Slc.mk sgA r.Signals.length sgC)) (leasts l l.Beams.length) (timesT l r.Signals r.Signals.length) eA12 eC13 tb16 tA14 tC15 fs17 bs21 fb18 fA19 fC20 bb22 qA23 qC24 gw11 b x139 x240 mf mb (by rw [hlel]; omega) (by exact hwo) (by rw [htll]; omega) (by exact hfw) (by omega) (by exact hbw) (by omega) (by show r.Signals.length ≤ 1000; omega) (by exact hm1) (by exact hm2)) rfl rfl rfl (by exact ⟨hull_nil, fun q hq => by cases hq⟩) (by simp only [List.forall_mem_cons, List.not_mem_nil, false_imp_iff, implies_true, and_true]; exact ⟨⟨_, List.mem_of_getElem? (i := 0) rfl, (cov_own_n (by simp))⟩, ⟨_, List.mem_of_getElem? (i := 1) rfl, (cov_own_n (by rw [List.length_zipWith]; omega))⟩, ⟨_, List.mem_of_getElem? (i := 2) rfl, cov_bund⟩, ⟨_, List.mem_of_getElem? (i := 3) rfl, (cov_own_n (by rw [List.length_zipWith]; omega))⟩, ⟨_, List.mem_of_getElem? (i := 4) rfl, cov_bund⟩, ⟨_, List.mem_of_getElem? (i := 5) rfl, (cov_own_n (by rw [List.length_zipWith]; omega))⟩, ⟨_, List.mem_of_getElem? (i := 6) rfl, cov_bund⟩, ⟨_, List.mem_of_getElem? (i := 7) rfl, (cov_refl _)⟩, ⟨_, List.mem_of_getElem? (i := 8) rfl, (cov_refl _)⟩, ⟨_, List.mem_of_getElem? (i := 9) rfl, (cov_refl _)⟩⟩) (by rintro k x k2 ⟨o, _, rfl, _⟩; rfl) rfl (Sub.cons rfl <| Sub.cons rfl <| Sub.cons rfl <| Sub.cons rfl <| Sub.cons rfl <| Sub.cons rfl <| Sub.cons rfl <| Sub.nil _) ?_ ?_ (fun _ _ _ h => h.elim) (fun _ _ h => h.elim)
 · rintro k x k2 h lr ra rb S w1 K41 Qr42 hsz hx hin43 hK41 hQr42 xQr42 yQr42
   obtain ⟨q, hq, rfl, rfl⟩ := hx
   obtain ⟨hr0, hr1⟩ := hin43
   try dsimp only
   refine w_region ?_
   refine AL rfl tz34 fun b44 => ?_
   refine SW0 rfl ts34 rfl ?_
   refine r_nil ?_
   refine k_sub (fun _ _ h => h) (fun w hs => St.sel [1, 0, 2, 3, 4, 5, 6, 7, 8, 9, 10, 11, 12] rfl rfl hs) ?_
   refine k_then (hK41 _ _ ?_)
   refine w_block ?_
   refine w_seq fun _ hK45 => ?_
   refine WS fun _ hK46 => ?_
   refine rS (LW 2 rfl tk34 rfl rfl) ?_
   refine rS (LW 3 rfl tk34 rfl rfl) ?_
   refine rS (BI rfl (nes34 _ _ h (SpanV.mk 1 0))) ?_
   refine RK hK46 ?_
   refine w_if rfl (fun h35 => ?_) (fun h35 => ?_)
   rotate_left 1
   · replace h35 := XF h35
     refine WK hK45 ?_
     refine w_region ?_
     refine rS (LW 1 rfl tk34 rfl rfl) ?_
     refine SW2 rfl ts34 rfl ?_
     refine r_nil ?_
     refine k_block ?_
     exact hQr42 q.2 _ _ (by refine ⟨hull_next hr0 (pass_le hq) ?_, fun z hz => ?_⟩; (first | exact if_neg h35 | exact if_pos h35); (rcases List.mem_append.1 hz with hz | hz; exact hr1 z hz; (rw [List.mem_singleton.1 hz]; exact hq))) (fun w hs => St.sel [0, 2, 3, 4, 5, 6, 7, 8, 9, 10, 11, 12] rfl rfl hs)
   replace h35 := XT h35
   refine w_region ?_
   refine rS (FA 0 rfl fo34_0 rfl) ?_
   refine rS (L1 (Value.int .i64 q.2.Lo) 1 rfl tk3 rfl rfl) ?_
   refine rS (FA 0 rfl fo34_0 rfl) ?_
   refine rS (L1 (Value.int .i64 h.Lo) 2 rfl tk3 rfl rfl) ?_
   refine rS (MN rfl) ?_
   refine rS (FA 1 rfl fo34_1 rfl) ?_
   refine rS (L1 (Value.int .i64 q.2.Hi) 1 rfl tk3 rfl rfl) ?_
   refine rS (FA 1 rfl fo34_1 rfl) ?_
   refine rS (L1 (Value.int .i64 h.Hi) 2 rfl tk3 rfl rfl) ?_
   refine rS (MX rfl) ?_
   refine rS (SX (sd_build (xs := [(0, .tmp 40), (1, .tmp 45)]) (cs := (SpanV.cells (SpanV.mk (min q.2.Lo h.Lo) (max q.2.Hi h.Hi)))) rfl rfl (built_of tb34 rfl)) rfl rfl) ?_
   refine SW1 rfl ts34 rfl ?_
   refine RK hK45 ?_
   refine w_region ?_
   refine rS (LW 1 rfl tk34 rfl rfl) ?_
   refine SW2 rfl ts34 rfl ?_
   refine r_nil ?_
   refine k_block ?_
   exact hQr42 (SpanV.mk (min q.2.Lo h.Lo) (max q.2.Hi h.Hi)) _ _ (by refine ⟨hull_next hr0 (pass_le hq) ?_, fun z hz => ?_⟩; (first | exact if_neg h35 | exact if_pos h35); (rcases List.mem_append.1 hz with hz | hz; exact hr1 z hz; (rw [List.mem_singleton.1 hz]; exact hq))) (fun w hs => St.sel [0, 2, 3, 4, 5, 6, 7, 8, 9, 10, 11, 12] rfl rfl hs)
 rintro r47 k h hfin hin48
 obtain ⟨hr0, hr1⟩ := hin48
 try dsimp only
 refine k_block ?_
 refine KK hK35 ?_
 refine w_seq fun _ hK49 => ?_
 refine WS fun _ hK50 => ?_
 refine rS (LW 11 rfl tk34 rfl rfl) ?_
 refine rS (LW 12 rfl tk34 rfl rfl) ?_
 refine rS (BI rfl (eqs34 _ _ h (SpanV.mk 1 0))) ?_
 refine RK hK50 ?_
 refine w_if rfl (fun h50 => ?_) (fun h50 => ?_)
 rotate_left 1
 · replace h50 := DF h50
   refine WK hK49 ?_
   refine WS fun _ hK52 => ?_
   refine rS (LW 11 rfl tk34 rfl rfl) ?_
   refine r_store (vs := (SpanV.cells h)) (cs' := (SpanV.cells h)) (C' := [_, _, _, _, _, _, _, _, _, _, _, _, _, (blk b5 34 (SpanV.cells h)), _, _, _, _, _, _, _, _]) 13 rfl rfl rfl ts34 rfl rfl rfl rfl rfl rfl rfl ?_
   refine rS (AG rfl) ?_
   refine RK hK52 ?_
   refine w_ret ?_
   refine hQ _ _ _ (l_mark 0 rfl rfl <| l_nil (vs := [(Value.agg (SpanV.cells h).toArray), (Value.int .i64 0)]) ⟨⟨_, rfl, .inl ⟨_, _, tk34, at_blk (vs := (SpanV.cells h)) 13 rfl rfl, rfl, rfl⟩⟩, rfl, trivial⟩ fun w hs => endV ?_ hs)
   show (Value.tuple [(Value.agg (SpanV.cells h).toArray), (Value.int .i64 0)].toArray) = (Value.tuple [(Value.agg (SpanV.cells (passedV l r bq_)).toArray), (Value.int .i64 (passedE l r bq_))].toArray)
   clear hs w hQ hN hK52 hK50 hK49 hK36 hK35 hK33 hK31 hK30 hK29 hK6 hK1
   first | (have e := passed_bad (b := bq_) he; rw [e.1, e.2] <;> rfl) | (rw [hbq] at he ⊢; have hh : h = hullW l r b := hull_maps (hfw.min _ _ hm1) (hbw.max _ _ hm2) (hfw.keys _ _ hm1) (hbw.keys _ _ hm2) hr1 hfin hr0; first | (have e := passed_none he (hh.symm.trans h50); rw [e.1, e.2] <;> rfl) | (have e := passed_some he (fun q => h50 (hh.trans q)); rw [e.1, e.2, hh] <;> rfl))
 replace h50 := DT h50
 refine WS fun _ hK51 => ?_
 refine rS (SX (sd_build (xs := []) (cs := (SpanV.cells (SpanV.mk 0 0))) rfl rfl (built_of tb34 rfl)) rfl rfl) ?_
 refine r_store (vs := (SpanV.cells (SpanV.mk 0 0))) (cs' := (SpanV.cells (SpanV.mk 0 0))) (C' := [_, _, _, _, _, _, _, _, _, _, _, _, _, (blk b5 34 (SpanV.cells (SpanV.mk 0 0))), _, _, _, _, _, _, _, _]) 13 rfl rfl rfl ts34 rfl rfl rfl rfl rfl rfl rfl ?_
 refine rS (AG rfl) ?_
 refine RK hK51 ?_
 refine w_ret ?_
 refine hQ _ _ _ (l_mark 0 rfl rfl <| l_nil (vs := [(Value.agg (SpanV.cells (SpanV.mk 0 0)).toArray), (Value.int .i64 6)]) ⟨⟨_, rfl, .inl ⟨_, _, tk34, at_blk (vs := (SpanV.cells (SpanV.mk 0 0))) 13 rfl rfl, rfl, rfl⟩⟩, rfl, trivial⟩ fun w hs => endV ?_ hs)
 show (Value.tuple [(Value.agg (SpanV.cells (SpanV.mk 0 0)).toArray), (Value.int .i64 6)].toArray) = (Value.tuple [(Value.agg (SpanV.cells (passedV l r bq_)).toArray), (Value.int .i64 (passedE l r bq_))].toArray)
 clear hs w hQ hN hK51 hK50 hK49 hK36 hK35 hK33 hK31 hK30 hK29 hK6 hK1
 first | (have e := passed_bad (b := bq_) he; rw [e.1, e.2] <;> rfl) | (rw [hbq] at he ⊢; have hh : h = hullW l r b := hull_maps (hfw.min _ _ hm1) (hbw.max _ _ hm2) (hfw.keys _ _ hm1) (hbw.keys _ _ hm2) hr1 hfin hr0; first | (have e := passed_none he (hh.symm.trans h50); rw [e.1, e.2] <;> rfl) | (have e := passed_some he (fun q => h50 (hh.trans q)); rw [e.1, e.2, hh] <;> rfl))
set_option maxRecDepth 100000 in
set_option maxHeartbeats 400000 in
theorem Ran_c (l : LineM) (kA : Option Addr) (kC : Nat) (az : List RA) (cA : Option Addr) (cC : Nat) (bA : Option Addr) (bC : Nat) (r : RideM) (sgA : Option Addr) (sgC : Nat) (hin : LineIn l az) (hsl : r.Signals.length ≤ 1000000) :
    FnV Try.prog 34 [(Value.agg (LineV.cells (LineV.mk (TrackV.mk (Slc.mk kA l.Track.length kC)) l.Fast (Slc.mk cA l.Clocks.length cC) (Slc.mk bA l.Beams.length bC) l.Finish l.Fakes l.Misses)).toArray), (Value.agg (RideV.cells (RideV.mk r.Start r.Now (Slc.mk sgA r.Signals.length sgC))).toArray)] [(rd kA l.Track.length 9 (l.Track.map StretchV.cells)), (rd cA l.Clocks.length 2 (List.zipWith ClockM.cells l.Clocks az)), (bun (nest ClockM.rds l.Clocks az)), (rd bA l.Beams.length 4 (l.Beams.map BeamV.cells)), (rd sgA r.Signals.length 2 (r.Signals.map SignalV.cells))] (Value.tuple [(Value.agg (SpanV.cells (ranV l r)).toArray), (Value.int .i64 (passedE l r l.Finish))].toArray) := by
 have htk := hin.trk
 have hck := hin.cks
 have has := hin.as_
 have hbm := hin.bms
 have hsd := hin.side
 refine fnV_of go34 Try.func34 rfl rfl fun w0 Q hQ hN => ?_
 try dsimp only
 refine WS fun _ hK1 => ?_
 refine BXA rfl fun b2 => ?_
 refine BXA rfl fun b3 => ?_
 refine AL rfl tz34 fun b4 => ?_
 refine rS (AG rfl) ?_
 refine RK hK1 ?_
 refine WS fun _ hK5 => ?_
 refine rS (LW 2 rfl tk28 rfl rfl) ?_
 refine rS (LW 1 rfl tk69 rfl rfl) ?_
 refine rS (FA 4 rfl fo28_4 rfl) ?_
 refine rS (L1 (Value.int .i64 l.Finish) 2 rfl tk3 rfl rfl) ?_
 refine rS (CL (Passed_c l kA kC az cA cC bA bC r sgA sgC l.Finish hin hsl) (ha_at 3 rfl rfl <| ha_at 4 rfl rfl <| ha_at 5 rfl rfl <| ha_at 6 rfl rfl <| ha_at 7 rfl rfl <| ha_nil) rfl) ?_
 refine rS (MV rfl) ?_
 refine rS (EX rfl) ?_
 refine rS (EX rfl) ?_
 refine AL rfl tz34 fun b6 => ?_
 refine SW0 rfl ts34 rfl ?_
 refine rS (AG rfl) ?_
 refine RK hK5 ?_
 refine w_seq fun _ hK7 => ?_
 refine WS fun _ hK8 => ?_
 refine rS (MV rfl) ?_
 refine rS (BI rfl b_neq) ?_
 refine RK hK8 ?_
 refine w_if rfl (fun h17 => ?_) (fun h17 => ?_)
 · replace h17 := XT h17
   refine WS fun _ hK9 => ?_
   refine rS (SX (sd_build (xs := []) (cs := (SpanV.cells (SpanV.mk 0 0))) rfl rfl (built_of tb34 rfl)) rfl rfl) ?_
   refine rS (MV rfl) ?_
   refine SW1 rfl ts34 rfl ?_
   refine rS (AG rfl) ?_
   refine RK hK9 ?_
   refine w_ret ?_
   refine hQ _ _ _ (l_nil (vs := [(Value.agg (SpanV.cells (SpanV.mk 0 0)).toArray), (Value.int .i64 (passedE l r l.Finish))]) ⟨⟨_, rfl, .inl ⟨_, _, tk34, at_blk (vs := (SpanV.cells (SpanV.mk 0 0))) 1 rfl rfl, rfl, rfl⟩⟩, rfl, trivial⟩ fun w hs => endV ?_ hs)
   show (Value.tuple [(Value.agg (SpanV.cells (SpanV.mk 0 0)).toArray), (Value.int .i64 (passedE l r l.Finish))].toArray) = (Value.tuple [(Value.agg (SpanV.cells (ranV l r)).toArray), (Value.int .i64 (passedE l r l.Finish))].toArray)
   clear hs w hQ hN hK9 hK8 hK7 hK5 hK1
   first | (rw [ran_no h17] <;> rfl) | (rw [ran_ok h17, h17] <;> rfl)
 replace h17 := XF h17
 refine WK hK7 ?_
 refine WS fun _ hK10 => ?_
 refine rS (FA 0 rfl fo34_0 rfl) ?_
 refine rS (L1 (Value.int .i64 ((passedV l r l.Finish).Lo)) 0 rfl tk3 rfl rfl) ?_
 refine rS (FA 0 rfl fo69_0 rfl) ?_
 refine rS (L1 (Value.int .i64 r.Start) 2 rfl tk3 rfl rfl) ?_
 have hpb := passed_b h17
 have hpr := (passed_ride h17).time
 refine rS (BI rfl (b_sub ⟨by omega, by omega⟩)) ?_
 refine rS (FA 1 rfl fo34_1 rfl) ?_
 refine rS (L1 (Value.int .i64 ((passedV l r l.Finish).Hi)) 0 rfl tk3 rfl rfl) ?_
 refine rS (FA 0 rfl fo69_0 rfl) ?_
 refine rS (L1 (Value.int .i64 r.Start) 2 rfl tk3 rfl rfl) ?_
 refine rS (BI rfl (b_sub ⟨by omega, by omega⟩)) ?_
 refine rS (SX (sd_build (xs := [(0, .tmp 24), (1, .tmp 29)]) (cs := (SpanV.cells (SpanV.mk (((passedV l r l.Finish).Lo) - r.Start) (((passedV l r l.Finish).Hi) - r.Start)))) rfl rfl (built_of tb34 rfl)) rfl rfl) ?_
 refine SW1 rfl ts34 rfl ?_
 refine rS (AG rfl) ?_
 refine RK hK10 ?_
 refine w_ret ?_
 refine hQ _ _ _ (l_nil (vs := [(Value.agg (SpanV.cells (SpanV.mk (((passedV l r l.Finish).Lo) - r.Start) (((passedV l r l.Finish).Hi) - r.Start))).toArray), (Value.int .i64 0)]) ⟨⟨_, rfl, .inl ⟨_, _, tk34, at_blk (vs := (SpanV.cells (SpanV.mk (((passedV l r l.Finish).Lo) - r.Start) (((passedV l r l.Finish).Hi) - r.Start)))) 1 rfl rfl, rfl, rfl⟩⟩, rfl, trivial⟩ fun w hs => endV ?_ hs)
 show (Value.tuple [(Value.agg (SpanV.cells (SpanV.mk (((passedV l r l.Finish).Lo) - r.Start) (((passedV l r l.Finish).Hi) - r.Start))).toArray), (Value.int .i64 0)].toArray) = (Value.tuple [(Value.agg (SpanV.cells (ranV l r)).toArray), (Value.int .i64 (passedE l r l.Finish))].toArray)
 clear hs w hQ hN hK10 hK8 hK7 hK5 hK1
 first | (rw [ran_no h17] <;> rfl) | (rw [ran_ok h17, h17] <;> rfl)
end
end Go.Proofs.Ytaehngpnlkokkaa
