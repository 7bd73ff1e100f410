/-
  The statement beamSnow_said, part 5 of 6: V4, V8, Wh2, MapD, S2, Wh3, Twin, A1, A2, B7.
  Conditions: none.
-/
import Derived.Test.YthiigjekcdjkkaaGreatSn1
import Derived.Test.YthiigjekcdjkkaaGreatSn2
import Derived.Test.YthiigjekcdjkkaaGreatSn3
import Derived.Test.YthiigjekcdjkkaaGreatSn4
namespace Go.Proofs.YthiigjekcdjkkaaGreat
section
open Go.RowKit
set_option linter.unusedVariables false
set_option maxRecDepth 100000 in
set_option maxHeartbeats 400000 in
theorem passes1_c (ln : LineV) (ri : RideV) (e : List Int) (tms : List TM) (e_A : Option Addr) (e_C : Nat) (tb : List Nat) (t_A : Option Addr) (t_C : Nat) (fs : List FM) (bs : List FM) (fb : List Nat) (f_A : Option Addr) (f_C : Nat) (bb : List Nat) (b_A : Option Addr) (b_C : Nat) (gw : Nat) (b : Nat) (g1 : Nat) (g2 : Nat) (mf : FM) (mb : FM) (hb : b < e.length) (hw : WOk (watchOf ln ri e tms)) (htb : tb.length = tms.length) (hfw : FwdOk (watchOf ln ri e tms) fs) (hfb : fb.length = fs.length) (hbw : BackOk (watchOf ln ri e tms) bs) (hbb : bb.length = bs.length) (hsg : ri.Signals.n ≤ 1000) (hm1 : fs[b]? = some mf) (hm2 : bs[b + 1]? = some mb) :
    SeqG Tryz.prog 67 [] [(Value.pointer (some ⟨g1, 0, none⟩)), (Value.pointer (some ⟨g2, 0, none⟩))] [(rd e_A e.length 1 (e.map iC)), (rd t_A tms.length 1 (List.zipWith mapC tms tb)), (bun (nest tmR tms tb)), (rd f_A fs.length 1 (List.zipWith mapC fs fb)), (bun (nest fmR fs fb)), (rd b_A bs.length 1 (List.zipWith mapC bs bb)), (bun (nest fmR bs bb)), (blk gw 117 (WatchV.cells (WatchV.mk ln ri (Slc.mk e_A e.length e_C) (Slc.mk t_A tms.length t_C) (Slc.mk f_A fs.length f_C) (Slc.mk b_A bs.length b_C)))), (blk g1 77 [(Value.pointer (some ⟨gw, 0, none⟩))]), (blk g2 3 [(Value.int .i64 ((b : Nat) : Int))])] ([] : List (Int × SpanV)) (fun ys x ys' => ∃ q, q ∈ passM (watchOf ln ri e tms) b mf mb ∧ x = itemV q ∧ ys' = ys ++ [q]) (fun ys => ∀ q ∈ passM (watchOf ln ri e tms) b mf mb, q ∈ ys) := by
 have hw6 : e.length ≤ 6 := hw.n
 have hwt : tms.length = e.length := hw.times
 have hfl : fs.length = e.length + 1 := hfw.len
 have hbl : bs.length = e.length + 1 := hbw.len
 refine seqG_of go67 Tryz.func67 rfl rfl fun l J Z A0 w0 Q hY hJ0 hF0 hQ hN => ?_
 try dsimp only
 refine WS fun _ hK1 => BX1 rfl rfl fun b2 => RK hK1 <| WS fun _ hK3 => rS (L1Q 10 rfl tk77 rfl) <| rS (L1Q 11 rfl tk3 rfl) <| cX (options_c gw b) (ha_nil) rfl fun y4 hy5 => ?_
 obtain ⟨x16, x27⟩ := y4
 try dsimp only
 refine RK hK3 <| w_block <| w_dup 4 rfl (by exact fun _ h => h) <| w_dup 6 rfl (by exact fun _ h => h) <| w_dup 8 rfl (by exact fun _ h => h) <| w_dup 14 rfl (by exact fun _ h => h) ?_
 refine w_rangeG (L0 := [(0, (Value.func (.yield l) #[] #[])), (1, (Value.pointer (some ⟨g1, 0, none⟩))), (2, (Value.pointer (some ⟨g2, 0, none⟩))), (3, (Value.pointer (some ⟨b2, 0, none⟩)))]) (F := [(rd e_A e.length 1 (e.map iC)).ro, (rd t_A tms.length 1 (List.zipWith mapC tms tb)).ro, (bun (nest tmR tms tb)).ro, (blk gw 117 (WatchV.cells (WatchV.mk ln ri (Slc.mk e_A e.length e_C) (Slc.mk t_A tms.length t_C) (Slc.mk f_A fs.length f_C) (Slc.mk b_A bs.length b_C)))).ro, (blk x16 77 [(Value.pointer (some ⟨gw, 0, none⟩))]), (blk x27 3 [(Value.int .i64 ((b : Nat) : Int))])])  (fun k (y : (List (Int × SpanV)) × Assn) => (PDone (watchOf ln ri e tms) b mf mb k y.1) ∧ (J y.1 y.2) ∧ (Fo A0 w0 y.2)) (fun k y => [(blk b2 134 [(Value.func (.yield l) #[] #[])]), y.2, (rd e_A e.length 1 (e.map iC)).ro, (rd t_A tms.length 1 (List.zipWith mapC tms tb)).ro, (bun (nest tmR tms tb)).ro, (rd f_A fs.length 1 (List.zipWith mapC fs fb)).ro, (bun (nest fmR fs fb)).ro, (rd b_A bs.length 1 (List.zipWith mapC bs bb)).ro, (bun (nest fmR bs bb)).ro, (blk gw 117 (WatchV.cells (WatchV.mk ln ri (Slc.mk e_A e.length e_C) (Slc.mk t_A tms.length t_C) (Slc.mk f_A fs.length f_C) (Slc.mk b_A bs.length b_C)))).ro, (blk g1 77 [(Value.pointer (some ⟨gw, 0, none⟩))]).ro, (blk g2 3 [(Value.int .i64 ((b : Nat) : Int))]).ro]) (fun c (z : Assn) => (c = .ret ∧ (Z z) ∧ (Fo A0 w0 z))) (fun _ z => [(blk b2 134 [(Value.func (.yield l) #[] #[])]), z, (rd e_A e.length 1 (e.map iC)).ro, (rd t_A tms.length 1 (List.zipWith mapC tms tb)).ro, (bun (nest tmR tms tb)).ro, (rd f_A fs.length 1 (List.zipWith mapC fs fb)).ro, (bun (nest fmR fs fb)).ro, (rd b_A bs.length 1 (List.zipWith mapC bs bb)).ro, (bun (nest fmR bs bb)).ro, (blk gw 117 (WatchV.cells (WatchV.mk ln ri (Slc.mk e_A e.length e_C) (Slc.mk t_A tms.length t_C) (Slc.mk f_A fs.length f_C) (Slc.mk b_A bs.length b_C)))).ro, (blk g1 77 [(Value.pointer (some ⟨gw, 0, none⟩))]).ro, (blk g2 3 [(Value.int .i64 ((b : Nat) : Int))]).ro]) [6, 7, 8, 9, 10, 11, 12, 13, 14, 15, 16, 17] [3, 2, 1, 0, 4, 5] (([] : List (Int × SpanV)), A0) rfl rfl (options1_c ln ri e tms e_A e_C tb t_A t_C f_A fs.length f_C b_A bs.length b_C gw b x16 x27 (by omega) (by omega)) rfl rfl rfl (by exact ⟨PDone.nil, hJ0, hF0⟩) (by simp only [List.forall_mem_cons, List.not_mem_nil, false_imp_iff, implies_true, and_true]; exact ⟨⟨_, List.mem_of_getElem? (i := 0) rfl, (cov_ro (cov_refl _))⟩, ⟨_, List.mem_of_getElem? (i := 1) rfl, (cov_ro (cov_refl _))⟩, ⟨_, List.mem_of_getElem? (i := 2) rfl, (cov_ro (cov_refl _))⟩, ⟨_, List.mem_of_getElem? (i := 3) rfl, (cov_ro (cov_refl _))⟩, ⟨_, List.mem_of_getElem? (i := 4) rfl, (cov_refl _)⟩, ⟨_, List.mem_of_getElem? (i := 5) rfl, (cov_refl _)⟩⟩) (by rintro k x k2 ⟨o, _, rfl, _⟩; rfl) rfl (Sub.cons rfl <| Sub.cons rfl <| Sub.cons rfl <| Sub.cons rfl <| Sub.nil _) ?_ ?_ ?_ ?_
 rotate_left 1
 · rintro r37 k ⟨ys, A⟩ hfin hin38
   obtain ⟨hr0, hr1, hr2⟩ := hin38
   try dsimp only at hr0 hr1 hr2
   try dsimp only
   refine k_block ?_
   refine hN _ _ _ (l_mark 0 rfl rfl <| l_nil (vs := []) trivial fun w hs => endG 8 rfl (by exact PDone.fin hr0 hfin) hr1 hr2 hs)
 · rintro r39 id A hx40
   simp at hx40
 · rintro r41 A hx42
   obtain ⟨hc, hq0, hq1⟩ := hx42
   try dsimp only
   refine hQ _ _ _ (l_mark 0 rfl rfl <| l_nil (vs := []) trivial fun w hs => endGz 8 rfl hq0 hq1 hs)
 rintro k x k2 ⟨ys, A⟩ lr ra rb S w1 K8 Qr9 hsz hx hin10 hK8 hQr9 xQr9 yQr9
 obtain ⟨o, ho, rfl, rfl⟩ := hx
 obtain ⟨hr0, hr1, hr2⟩ := hin10
 try dsimp only at hr0 hr1 hr2
 try dsimp only
 refine WS fun _ hK11 => rS (AG rfl) <| RK hK11 <| w_region <| AL rfl tz47 fun b12 => SW0 rfl ts47 rfl <| r_nil <| k_sub (fun _ _ h => h) (fun w hs => St.sel [1, 0, 2, 3, 4, 5, 6, 7, 8, 9, 10, 11, 12, 13] rfl rfl hs) ?_
 refine k_then (hK8 _ _ ?_)
 refine w_block <| w_seq fun _ hK13 => w_draw mixed 7 (by kernel_rfl) <| dS (L1Q 12 rfl tk77 rfl) <| dS (SX (sd_nil_p rfl rfl) rfl rfl) <| dS (FA 12 rfl fo117_4 rfl) <| dS (L1R (Value.slice f_A fs.length f_C) 11 rfl tk115 rfl rfl) <| dS (L1Q 13 rfl tk3 rfl) ?_
 obtain ⟨ga, hga⟩ : ∃ y_, fb[b]? = some y_ := ⟨fb[b]'(by omega), List.getElem?_eq_getElem _⟩
 have hgam : (List.zipWith mapC fs fb)[b]? = some (mapC mf ga) := zip_get hm1 hga
 refine dS (IA b rfl (has_at 7 rfl) te115 (by decide) (by omega) (by omega)) <| dS (LE1 b 0 (Value.map (some ga)) rfl tk122 (has_at 7 rfl) hgam rfl (by decide) rfl) <| d_end <| gr_mrangeR (kV := tallyU) (m := gmapV iV mf) 8 rfl rfl ut122 rfl ⟨⟨(gmp tallyU ga (gmapV iV mf)), (mem_nest hm1 hga (by simp [fmR])), rfl⟩, fun h => h⟩ (show Has _ (gmp tallyU ga (gmapV iV mf)).holds from has_inr 8 rfl (mem_nest hm1 hga (by simp [fmR]))) rfl fun r14 => ?_
 try dsimp only
 refine RK hK13 <| w_block ?_
 have hinit : (∀ p ∈ mf, p ∈ mf) ∧ (PLeft (watchOf ln ri e tms) b mf mb o mf ys) ∧ (PDone (watchOf ln ri e tms) b mf mb k ys) ∧ (J ys A) ∧ (Fo A0 w0 A) := by exact ⟨fun p hp => hp, PLeft.start, hr0, hr1, hr2⟩
 refine w_loop (ι := { z : FM × (List (Int × SpanV)) × Assn // (∀ p ∈ z.1, p ∈ mf) ∧ (PLeft (watchOf ln ri e tms) b mf mb o z.1 z.2.1) ∧ (PDone (watchOf ln ri e tms) b mf mb k z.2.1) ∧ (J z.2.1 z.2.2) ∧ (Fo A0 w0 z.2.2) }) (fun z => [(0, (Value.func (.yield l) #[] #[])), (1, (Value.pointer (some ⟨g1, 0, none⟩))), (2, (Value.pointer (some ⟨g2, 0, none⟩))), (3, (Value.pointer (some ⟨b2, 0, none⟩))), (4, (Value.int .i64 o.1)), (5, (Value.pointer (some ⟨b12, 0, none⟩))), (23, (Value.pointer (some ⟨r14, 0, none⟩)))]) (fun z => [(gmr tallyU r14 ga (gmapV iV mf) (gmapV iV z.1.1) none), (obj lr (.loop rb)), (blk b12 47 (SpanV.cells o.2)), (blk b2 134 [(Value.func (.yield l) #[] #[])]), z.1.2.2, (rd e_A e.length 1 (e.map iC)).ro, (rd t_A tms.length 1 (List.zipWith mapC tms tb)).ro, (bun (nest tmR tms tb)).ro, (rd f_A fs.length 1 (List.zipWith mapC fs fb)).ro, (bun (nest fmR fs fb)).ro, (rd b_A bs.length 1 (List.zipWith mapC bs bb)).ro, (bun (nest fmR bs bb)).ro, (blk gw 117 (WatchV.cells (WatchV.mk ln ri (Slc.mk e_A e.length e_C) (Slc.mk t_A tms.length t_C) (Slc.mk f_A fs.length f_C) (Slc.mk b_A bs.length b_C)))).ro, (blk g1 77 [(Value.pointer (some ⟨gw, 0, none⟩))]).ro, (blk g2 3 [(Value.int .i64 ((b : Nat) : Int))]).ro]) (fun z => z.1.1.length) ⟨(mf, ys, A), hinit⟩ (Sub.cons rfl <| Sub.cons rfl <| Sub.cons rfl <| Sub.cons rfl <| Sub.cons rfl <| Sub.cons rfl <| Sub.cons rfl <| Sub.nil _) (fun w hs => St.sel [0, 1, 2, 3, 4, 5, 6, 7, 8, 9, 10, 11, 12, 13, 14] rfl rfl hs) ?_
 clear hinit
 rintro ⟨⟨left, ys, A⟩, ⟨hl5_0, hl5_1, hl5_2, hl5_3, hl5_4⟩⟩ J15 hJ15
 try dsimp only at hl5_0 hl5_1 hl5_2 hl5_3 hl5_4
 try dsimp only
 refine WS fun _ hK16 => ?_
 refine gr_mnextR_v gk124.inj (f := iV) 0 rfl rfl rfl rfl (fun h24 => ?_) (fun t v hm hn => ?_)
 · refine rS (EX rfl) ?_
   refine RK hK16 <| w_seq fun _ hK17 => w_if_false rfl <| w_exit <| k_exit_then <| k_exit_then <| k_exit_same <| k_block ?_
   exact hQr9 (ys, A) _ _ (by exact ⟨PDone.next hl5_2 hl5_1 h24, hl5_3, hl5_4⟩) (fun w hs => St.sel [1, 3, 4, 5, 6, 7, 8, 9, 10, 11, 12, 13, 14] rfl rfl hs)
 try dsimp only
 refine rS (EX rfl) <| RK hK16 <| w_seq fun _ hK18 => w_if_true rfl <| WK hK18 <| w_block <| WS fun _ hK19 => rS (SX (gsd_mentryR 0 rfl rfl rfl) rfl rfl) <| rS (EX rfl) <| rS (EX rfl) ?_
 refine AL rfl tz124 fun b20 => SW0 rfl ts124 rfl <| rS (AG rfl) <| RK hK19 <| w_seq fun _ hK21 => w_draw mixed 8 (by kernel_rfl) <| dS (L1Q 14 rfl tk77 rfl) <| dS (SX (sd_nil_p rfl rfl) rfl rfl) <| dS (FA 13 rfl fo117_5 rfl) <| dS (L1R (Value.slice b_A bs.length b_C) 13 rfl tk115 rfl rfl) ?_
 refine dS (L1Q 15 rfl tk3 rfl) <| dS (BI rfl (b_add ⟨by omega, by omega⟩)) ?_
 obtain ⟨gb, hgb⟩ : ∃ y_, bb[(b + 1)]? = some y_ := ⟨bb[(b + 1)]'(by omega), List.getElem?_eq_getElem _⟩
 have hgbm : (List.zipWith mapC bs bb)[(b + 1)]? = some (mapC mb gb) := zip_get hm2 hgb
 refine dS (IA (b + 1) rfl (has_at 11 rfl) te115 (by decide) (by omega) (by omega)) <| dS (LE1 (b + 1) 0 (Value.map (some gb)) rfl tk122 (has_at 11 rfl) hgbm rfl (by decide) rfl) <| d_end <| gr_mrangeR (kV := tallyU) (m := gmapV iV mb) 12 rfl rfl ut122 rfl ⟨⟨(gmp tallyU gb (gmapV iV mb)), (mem_nest hm2 hgb (by simp [fmR])), rfl⟩, fun h => h⟩ (show Has _ (gmp tallyU gb (gmapV iV mb)).holds from has_inr 12 rfl (mem_nest hm2 hgb (by simp [fmR]))) rfl fun r22 => ?_
 try dsimp only
 refine RK hK21 <| w_block ?_
 have hinit : (∀ p ∈ mb, p ∈ mb) ∧ (QLeft (watchOf ln ri e tms) b mb o (t, v) mb ys) ∧ (PLeft (watchOf ln ri e tms) b mf mb o left ys) ∧ (PDone (watchOf ln ri e tms) b mf mb k ys) ∧ (J ys A) ∧ (Fo A0 w0 A) := by exact ⟨fun p hp => hp, QLeft.start, hl5_1, hl5_2, hl5_3, hl5_4⟩
 refine w_loop (ι := { z : FM × (List (Int × SpanV)) × Assn // (∀ p ∈ z.1, p ∈ mb) ∧ (QLeft (watchOf ln ri e tms) b mb o (t, v) z.1 z.2.1) ∧ (PLeft (watchOf ln ri e tms) b mf mb o left z.2.1) ∧ (PDone (watchOf ln ri e tms) b mf mb k z.2.1) ∧ (J z.2.1 z.2.2) ∧ (Fo A0 w0 z.2.2) }) (fun z => [(0, (Value.func (.yield l) #[] #[])), (1, (Value.pointer (some ⟨g1, 0, none⟩))), (2, (Value.pointer (some ⟨g2, 0, none⟩))), (3, (Value.pointer (some ⟨b2, 0, none⟩))), (4, (Value.int .i64 o.1)), (5, (Value.pointer (some ⟨b12, 0, none⟩))), (6, (Value.pointer (some ⟨b20, 0, none⟩))), (7, (Value.int .i64 v)), (23, (Value.pointer (some ⟨r14, 0, none⟩))), (37, (Value.pointer (some ⟨r22, 0, none⟩)))]) (fun z => [(gmr tallyU r22 gb (gmapV iV mb) (gmapV iV z.1.1) none), (blk b20 124 (TallyV.cells t)), (gmr tallyU r14 ga (gmapV iV mf) (gmapV iV (gdelK left t)) (some (t, (Value.int .i64 v)))), (obj lr (.loop rb)), (blk b12 47 (SpanV.cells o.2)), (blk b2 134 [(Value.func (.yield l) #[] #[])]), z.1.2.2, (rd e_A e.length 1 (e.map iC)).ro, (rd t_A tms.length 1 (List.zipWith mapC tms tb)).ro, (bun (nest tmR tms tb)).ro, (rd f_A fs.length 1 (List.zipWith mapC fs fb)).ro, (bun (nest fmR fs fb)).ro, (rd b_A bs.length 1 (List.zipWith mapC bs bb)).ro, (bun (nest fmR bs bb)).ro, (blk gw 117 (WatchV.cells (WatchV.mk ln ri (Slc.mk e_A e.length e_C) (Slc.mk t_A tms.length t_C) (Slc.mk f_A fs.length f_C) (Slc.mk b_A bs.length b_C)))).ro, (blk g1 77 [(Value.pointer (some ⟨gw, 0, none⟩))]).ro, (blk g2 3 [(Value.int .i64 ((b : Nat) : Int))]).ro]) (fun z => z.1.1.length) ⟨(mb, ys, A), hinit⟩ (Sub.cons rfl <| Sub.cons rfl <| Sub.cons rfl <| Sub.cons rfl <| Sub.cons rfl <| Sub.cons rfl <| Sub.cons rfl <| Sub.cons rfl <| Sub.cons rfl <| Sub.cons rfl <| Sub.nil _) (fun w hs => St.sel [0, 1, 2, 3, 4, 5, 6, 7, 8, 9, 10, 11, 12, 13, 14, 15, 16] rfl rfl hs) ?_
 clear hinit
 rintro ⟨⟨l2, ys2, A2⟩, ⟨hl8_0, hl8_1, hl8_2, hl8_3, hl8_4, hl8_5⟩⟩ J23 hJ23
 try dsimp only at hl8_0 hl8_1 hl8_2 hl8_3 hl8_4 hl8_5
 try dsimp only
 refine WS fun _ hK24 => ?_
 refine gr_mnextR_v gk124.inj (f := iV) 0 rfl rfl rfl rfl (fun h38 => ?_) (fun u z hmm hnn => ?_)
 · refine rS (EX rfl) ?_
   refine RK hK24 <| w_seq fun _ hK25 => w_if_false rfl <| w_exit <| k_exit_then <| k_exit_then <| k_exit_same <| k_block <| k_imp (C' := [(gmr tallyU r22 gb (gmapV iV mb) (gmapV iV l2) none), (blk b20 124 (TallyV.cells t)), (gmr tallyU r14 ga (gmapV iV mf) (gmapV iV (gdelK left t)) none), (obj lr (.loop rb)), (blk b12 47 (SpanV.cells o.2)), (blk b2 134 [(Value.func (.yield l) #[] #[])]), A2, (rd e_A e.length 1 (e.map iC)).ro, (rd t_A tms.length 1 (List.zipWith mapC tms tb)).ro, (bun (nest tmR tms tb)).ro, (rd f_A fs.length 1 (List.zipWith mapC fs fb)).ro, (bun (nest fmR fs fb)).ro, (rd b_A bs.length 1 (List.zipWith mapC bs bb)).ro, (bun (nest fmR bs bb)).ro, (blk gw 117 (WatchV.cells (WatchV.mk ln ri (Slc.mk e_A e.length e_C) (Slc.mk t_A tms.length t_C) (Slc.mk f_A fs.length f_C) (Slc.mk b_A bs.length b_C)))).ro, (blk g1 77 [(Value.pointer (some ⟨gw, 0, none⟩))]).ro, (blk g2 3 [(Value.int .i64 ((b : Nat) : Int))]).ro]) 2 rfl gmr_none rfl ?_
   refine k_then (hJ15 ⟨((gdelK left t), ys2, A2), ⟨left_sub hl5_0, PLeft.next hn hm hl8_2 hl8_1 h38, hl8_3, hl8_4, hl8_5⟩⟩ _ _ _ rfl (gdelK_lt hm) (Sub.cons rfl <| Sub.cons rfl <| Sub.cons rfl <| Sub.cons rfl <| Sub.cons rfl <| Sub.cons rfl <| Sub.cons rfl <| Sub.nil _) (fun w hs => St.sel [2, 3, 4, 5, 6, 7, 8, 9, 10, 11, 12, 13, 14, 15, 16] rfl rfl hs))
 try dsimp only
 refine rS (EX rfl) <| RK hK24 <| w_seq fun _ hK26 => w_if_true rfl <| WK hK26 <| w_block <| WS fun _ hK27 => rS (SX (gsd_mentryR 0 rfl rfl rfl) rfl rfl) <| rS (EX rfl) <| rS (EX rfl) ?_
 refine AL rfl tz124 fun b28 => SW0 rfl ts124 rfl <| rS (AG rfl) <| RK hK27 <| w_seq fun _ hK29 => w_draw4 mixed [0, 1, 2, 3, 4, 5, 6, 7, 8, 9, 10, 11, 12, 13, 14, 15, 16] [17, 18] [false, false, false, false, false, false, false, false, false, false, false, false, false, false, false, false, false] [false, false] [(blk b28 124 (TallyV.cells u)), (gmr tallyU r22 gb (gmapV iV mb) (gmapV iV (gdelK l2 u)) (some (u, (Value.int .i64 z)))), (blk b20 124 (TallyV.cells t)), (gmr tallyU r14 ga (gmapV iV mf) (gmapV iV (gdelK left t)) (some (t, (Value.int .i64 v)))), (obj lr (.loop rb)), (blk b12 47 (SpanV.cells o.2)), (blk b2 134 [(Value.func (.yield l) #[] #[])]), A2, (rd e_A e.length 1 (e.map iC)).ro, (rd t_A tms.length 1 (List.zipWith mapC tms tb)).ro, (bun (nest tmR tms tb)).ro, (rd f_A fs.length 1 (List.zipWith mapC fs fb)).ro, (bun (nest fmR fs fb)).ro, (rd b_A bs.length 1 (List.zipWith mapC bs bb)).ro, (bun (nest fmR bs bb)).ro, (blk gw 117 (WatchV.cells (WatchV.mk ln ri (Slc.mk e_A e.length e_C) (Slc.mk t_A tms.length t_C) (Slc.mk f_A fs.length f_C) (Slc.mk b_A bs.length b_C)))).ro, (blk g1 77 [(Value.pointer (some ⟨gw, 0, none⟩))]).ro, (blk g2 3 [(Value.int .i64 ((b : Nat) : Int))]).ro] [] (by kernel_rfl) (fun w hs => St.sel [0, 1, 2, 3, 4, 5, 6, 7, 8, 9, 10, 11, 12, 13, 14, 15, 16, 17] rfl rfl hs) (fun w hs => St.sel [] rfl rfl hs) <| eS rfl (MV rfl) <| eS rfl (L1Q 16 rfl tk77 rfl) <| eS rfl (SX (sd_nil_p rfl rfl) rfl rfl) <| eS rfl (FA 10 rfl fo117_2 rfl) ?_
 refine eS rfl (L1R (Value.slice e_A e.length e_C) 15 rfl tk35 rfl rfl) <| eS rfl (L1Q 17 rfl tk3 rfl) ?_
 obtain ⟨y, hy⟩ : ∃ y_, e[b]? = some y_ := ⟨e[b]'(by omega), List.getElem?_eq_getElem _⟩
 have hym : (e.map iC)[b]? = some (iC y) := by rw [List.getElem?_map, hy]; rfl
 refine eS rfl (IA b rfl (has_at 8 rfl) te35 (by decide) (by omega) (by omega)) <| eS rfl (LE1 b 0 (Value.int .i64 y) rfl tk3 (has_at 8 rfl) hym rfl (by decide) rfl) ?_
 have hlb := hw.least y (List.mem_of_getElem? hy)
 have hfp := fwd_b hw _ _ (hfw.mem hm1 (hl5_0 _ hm))
 have hbp := back_b hw (hbw.mem hm2 (hl8_0 _ hmm))
 have ho1 := oneT_b o.1
 have hob := hw.opt ho
 dsimp only at hfp hbp
 refine eS rfl (BI rfl (b_add ⟨by omega, by omega⟩)) <| eS rfl (FA 0 rfl fo47_0 rfl) <| eS rfl (L1 (Value.int .i64 o.2.Lo) 5 rfl tk3 rfl rfl) <| eS rfl (MX rfl) <| eS rfl (MV rfl) <| eS rfl (FA 1 rfl fo47_1 rfl) <| eS rfl (L1 (Value.int .i64 o.2.Hi) 5 rfl tk3 rfl rfl) <| eS rfl (MN rfl) <| eS rfl (SX (sd_build (xs := [(0, .tmp 54), (1, .tmp 58)]) (cs := (SpanV.cells (SpanV.mk (max (v + y) o.2.Lo) (min z o.2.Hi)))) rfl rfl (built_of tb47 rfl)) rfl rfl) <| d_fin rfl ?_
 refine t_cons rfl fun T30 hT30 => AL rfl tz47 fun b31 => RN hT30 [1, 2, 3, 4, 5, 6, 7, 8, 9, 10, 11, 12, 13, 14, 15, 16, 17, 18] rfl rfl <| t_cons rfl fun T32 hT32 => SW0 rfl ts47 rfl <| RN hT32 [1, 2, 3, 4, 5, 6, 7, 8, 9, 10, 11, 12, 13, 14, 15, 16, 17, 18] rfl rfl <| t_fin rfl <| KK hK29 <| w_seq fun _ hK33 => w_draw mixed 19 (by kernel_rfl) ?_
 refine dS (FA 0 rfl fo47_0 rfl) <| dS (L1 (Value.int .i64 (max (v + y) o.2.Lo)) 0 rfl tk3 rfl rfl) <| dS (FA 1 rfl fo47_1 rfl) <| dS (L1 (Value.int .i64 (min z o.2.Hi)) 0 rfl tk3 rfl rfl) <| dS (BI rfl b_leq) <| dS (MV rfl) ?_
 refine d_bool (t := 65) rfl (fun h65 => ?_) (fun h65 => ?_)
 rotate_left 1
 · replace h65 := DF h65
   refine dS (OX rfl) <| dS (OX rfl) <| dS (OX rfl) <| dS (OX rfl) <| dS (OX rfl) <| dS (OX rfl) <| dS (OX rfl) <| dS (OX rfl) <| dS (PK rfl) <| dS (MV rfl) ?_
   refine dS (OX rfl) <| dS (OX rfl) <| dS (OX rfl) <| d_end <| rS (OX rfl) <| rS (OX rfl) <| rS (PK rfl) <| RK hK33 <| w_if_false rfl <| w_skip ?_
   refine k_block <| k_imp (C' := [(blk b31 47 (SpanV.cells (SpanV.mk (max (v + y) o.2.Lo) (min z o.2.Hi)))), (blk b28 124 (TallyV.cells u)), (gmr tallyU r22 gb (gmapV iV mb) (gmapV iV (gdelK l2 u)) none), (blk b20 124 (TallyV.cells t)), (gmr tallyU r14 ga (gmapV iV mf) (gmapV iV (gdelK left t)) (some (t, (Value.int .i64 v)))), (obj lr (.loop rb)), (blk b12 47 (SpanV.cells o.2)), (blk b2 134 [(Value.func (.yield l) #[] #[])]), A2, (rd e_A e.length 1 (e.map iC)).ro, (rd t_A tms.length 1 (List.zipWith mapC tms tb)).ro, (bun (nest tmR tms tb)).ro, (rd f_A fs.length 1 (List.zipWith mapC fs fb)).ro, (bun (nest fmR fs fb)).ro, (rd b_A bs.length 1 (List.zipWith mapC bs bb)).ro, (bun (nest fmR bs bb)).ro, (blk gw 117 (WatchV.cells (WatchV.mk ln ri (Slc.mk e_A e.length e_C) (Slc.mk t_A tms.length t_C) (Slc.mk f_A fs.length f_C) (Slc.mk b_A bs.length b_C)))).ro, (blk g1 77 [(Value.pointer (some ⟨gw, 0, none⟩))]).ro, (blk g2 3 [(Value.int .i64 ((b : Nat) : Int))]).ro]) 2 rfl gmr_none rfl ?_
   refine k_then (hJ23 ⟨((gdelK l2 u), ys2, A2), ⟨left_sub hl8_0, QLeft.skip hnn hmm hl8_1 (by first | exact passO_off hy h65 | exact passO_not h75), hl8_2, hl8_3, hl8_4, hl8_5⟩⟩ _ _ _ rfl (gdelK_lt hmm) (Sub.cons rfl <| Sub.cons rfl <| Sub.cons rfl <| Sub.cons rfl <| Sub.cons rfl <| Sub.cons rfl <| Sub.cons rfl <| Sub.cons rfl <| Sub.cons rfl <| Sub.cons rfl <| Sub.nil _) (fun w hs => St.sel [2, 3, 4, 5, 6, 7, 8, 9, 10, 11, 12, 13, 14, 15, 16, 17, 18] rfl rfl hs))
 replace h65 := DT h65
 refine dS (L1Q 17 rfl tk77 rfl) <| dS (LW 3 rfl tk124 rfl rfl) <| dS (LW 1 rfl tk124 rfl rfl) ?_
 have hpu : (0 ≤ (addT t u).right ∧ (addT t u).right ≤ 1000) ∧ 0 ≤ (addT t u).missed ∧ (addT t u).missed ≤ 1000 := by simp only [addT]; omega
 have hpa : (0 ≤ (addT (addT t u) (oneT o.1)).right ∧ (addT (addT t u) (oneT o.1)).right ≤ 1000) ∧ 0 ≤ (addT (addT t u) (oneT o.1)).missed ∧ (addT (addT t u) (oneT o.1)).missed ≤ 1000 := by simp only [addT]; omega
 refine dS (CL (tplus_c t u (by first | assumption | omega | (simp; done) | (simp; omega)) (by first | assumption | omega | (simp; done) | (simp; omega))) (ha_nil) rfl) <| dS (MV rfl) <| dS (CL (one_c o.1) (ha_nil) rfl) <| dS (CL (tplus_c (addT t u) (oneT o.1) (by first | assumption | omega | (simp; done) | (simp; omega)) (by first | assumption | omega | (simp; done) | (simp; omega))) (ha_nil) rfl) <| dS (CL (may_c ln ri e tms e_A e_C tb t_A t_C fs bs fb f_A f_C bb b_A b_C gw (addT (addT t u) (oneT o.1)) (by first | assumption | omega | (simp; done) | (simp; omega)) hsg) (ha_at 9 rfl rfl <| ha_at 10 rfl rfl <| ha_at 11 rfl rfl <| ha_at 12 rfl rfl <| ha_at 13 rfl rfl <| ha_at 14 rfl rfl <| ha_at 15 rfl rfl <| ha_at 16 rfl rfl <| ha_nil) rfl) <| dS (PK rfl) <| dS (MV rfl) ?_
 refine d_bool (t := 75) rfl (fun h75 => ?_) (fun h75 => ?_)
 rotate_left 1
 · refine dS (OX rfl) ?_
   refine dS (OX rfl) <| dS (OX rfl) <| d_end <| rS (OX rfl) <| rS (OX rfl) <| rS (PK rfl) <| RK hK33 <| w_if_false rfl <| w_skip <| k_block ?_
   refine k_imp (C' := [(blk b31 47 (SpanV.cells (SpanV.mk (max (v + y) o.2.Lo) (min z o.2.Hi)))), (blk b28 124 (TallyV.cells u)), (gmr tallyU r22 gb (gmapV iV mb) (gmapV iV (gdelK l2 u)) none), (blk b20 124 (TallyV.cells t)), (gmr tallyU r14 ga (gmapV iV mf) (gmapV iV (gdelK left t)) (some (t, (Value.int .i64 v)))), (obj lr (.loop rb)), (blk b12 47 (SpanV.cells o.2)), (blk b2 134 [(Value.func (.yield l) #[] #[])]), A2, (rd e_A e.length 1 (e.map iC)).ro, (rd t_A tms.length 1 (List.zipWith mapC tms tb)).ro, (bun (nest tmR tms tb)).ro, (rd f_A fs.length 1 (List.zipWith mapC fs fb)).ro, (bun (nest fmR fs fb)).ro, (rd b_A bs.length 1 (List.zipWith mapC bs bb)).ro, (bun (nest fmR bs bb)).ro, (blk gw 117 (WatchV.cells (WatchV.mk ln ri (Slc.mk e_A e.length e_C) (Slc.mk t_A tms.length t_C) (Slc.mk f_A fs.length f_C) (Slc.mk b_A bs.length b_C)))).ro, (blk g1 77 [(Value.pointer (some ⟨gw, 0, none⟩))]).ro, (blk g2 3 [(Value.int .i64 ((b : Nat) : Int))]).ro]) 2 rfl gmr_none rfl ?_
   refine k_then (hJ23 ⟨((gdelK l2 u), ys2, A2), ⟨left_sub hl8_0, QLeft.skip hnn hmm hl8_1 (by first | exact passO_off hy h65 | exact passO_not h75), hl8_2, hl8_3, hl8_4, hl8_5⟩⟩ _ _ _ rfl (gdelK_lt hmm) (Sub.cons rfl <| Sub.cons rfl <| Sub.cons rfl <| Sub.cons rfl <| Sub.cons rfl <| Sub.cons rfl <| Sub.cons rfl <| Sub.cons rfl <| Sub.cons rfl <| Sub.cons rfl <| Sub.nil _) (fun w hs => St.sel [2, 3, 4, 5, 6, 7, 8, 9, 10, 11, 12, 13, 14, 15, 16, 17, 18] rfl rfl hs))
 refine dS (L1W 7 rfl tk134 rfl) <| dS (MV rfl) <| dS (LW 0 rfl tk47 rfl rfl) <| d_end ?_
 refine r_yieldG (k := ys2) (k' := (ys2 ++ [(o.1, (SpanV.mk (max (v + y) o.2.Lo) (min z o.2.Hi)))])) 8 (by first | exact hsz | exact Nat.le_refl _) hY hl8_4 hl8_5 rfl rfl rfl (by exact ⟨(o.1, _), mem_passM.2 ⟨o, ho, (t, v), hl5_0 _ hm, (u, z), hl8_0 _ hmm, (passO_at hy h65 h75)⟩, rfl, rfl⟩) rfl rfl (fun B34 hJ35 hF36 => ?_) (fun B34 hJ35 hF36 => ?_)
 rotate_left 1
 · refine rS (NT rfl) ?_
   refine rS (PK rfl) <| RK hK33 <| w_if_true rfl <| w_ret ?_
   exact yQr9 B34 _ _ (by exact ⟨rfl, hJ35, hF36⟩) (fun w hs => St.sel [5, 7, 8, 9, 10, 11, 12, 13, 14, 15, 16, 17, 18] rfl rfl hs)
 refine rS (NT rfl) <| rS (PK rfl) <| RK hK33 <| w_if_false rfl <| w_skip <| k_block <| k_imp (C' := [(blk b31 47 (SpanV.cells (SpanV.mk (max (v + y) o.2.Lo) (min z o.2.Hi)))), (blk b28 124 (TallyV.cells u)), (gmr tallyU r22 gb (gmapV iV mb) (gmapV iV (gdelK l2 u)) none), (blk b20 124 (TallyV.cells t)), (gmr tallyU r14 ga (gmapV iV mf) (gmapV iV (gdelK left t)) (some (t, (Value.int .i64 v)))), (obj lr (.loop rb)), (blk b12 47 (SpanV.cells o.2)), (blk b2 134 [(Value.func (.yield l) #[] #[])]), B34, (rd e_A e.length 1 (e.map iC)).ro, (rd t_A tms.length 1 (List.zipWith mapC tms tb)).ro, (bun (nest tmR tms tb)).ro, (rd f_A fs.length 1 (List.zipWith mapC fs fb)).ro, (bun (nest fmR fs fb)).ro, (rd b_A bs.length 1 (List.zipWith mapC bs bb)).ro, (bun (nest fmR bs bb)).ro, (blk gw 117 (WatchV.cells (WatchV.mk ln ri (Slc.mk e_A e.length e_C) (Slc.mk t_A tms.length t_C) (Slc.mk f_A fs.length f_C) (Slc.mk b_A bs.length b_C)))).ro, (blk g1 77 [(Value.pointer (some ⟨gw, 0, none⟩))]).ro, (blk g2 3 [(Value.int .i64 ((b : Nat) : Int))]).ro]) 2 rfl gmr_none rfl ?_
 refine k_then (hJ23 ⟨((gdelK l2 u), (ys2 ++ [(o.1, (SpanV.mk (max (v + y) o.2.Lo) (min z o.2.Hi)))]), B34), ⟨left_sub hl8_0, QLeft.took hnn hmm hl8_1 (passO_at hy h65 h75), hl8_2.app, hl8_3.app, hJ35, hF36⟩⟩ _ _ _ rfl (gdelK_lt hmm) (Sub.cons rfl <| Sub.cons rfl <| Sub.cons rfl <| Sub.cons rfl <| Sub.cons rfl <| Sub.cons rfl <| Sub.cons rfl <| Sub.cons rfl <| Sub.cons rfl <| Sub.cons rfl <| Sub.nil _) (fun w hs => St.sel [2, 3, 4, 5, 6, 7, 8, 9, 10, 11, 12, 13, 14, 15, 16, 17, 18] rfl rfl hs))
end
section
open Go.RowKit
set_option linter.unusedVariables false
set_option maxRecDepth 100000 in
set_option maxHeartbeats 400000 in
theorem open1_c (l : LineM) (kA : Option Addr) (kC : Nat) (az : List RA) (cA : Option Addr) (cC : Nat) (bA : Option Addr) (bC : Nat) (r : RideM) (sgA : Option Addr) (sgC : Nat) (f : Value) (X : Assn) (me : Int) (gm : Nat) (hf : Clo Tryz.prog f [] [X] (.int .i64 me)) (hin : LineIn l az) (hsl : r.Signals.length ≤ 1000000) :
    FnX Tryz.prog 33 [(Value.agg (LineV.cells (LineV.mk (TrackV.mk (Slc.mk kA l.Track.length kC)) l.Fast (Slc.mk cA l.Clocks.length cC) (Slc.mk bA l.Beams.length bC) l.Finish l.Fakes l.Misses)).toArray), (Value.agg (RideV.cells (RideV.mk r.Start r.Now (Slc.mk sgA r.Signals.length sgC))).toArray), (Value.slice (some ⟨gm, 0, none⟩) 1 1)] [(rd kA l.Track.length 9 (l.Track.map StretchV.cells)), (rd cA l.Clocks.length 2 (List.zipWith ClockM.cells l.Clocks az)), (bun (nest ClockM.rds l.Clocks az)), (rd bA l.Beams.length 4 (l.Beams.map BeamV.cells)), (rd sgA r.Signals.length 2 (r.Signals.map SignalV.cells)), X, (blk gm 88 [f])] (fun (x : Bool × Int × Nat × (Option Addr) × Nat × (Option Addr) × Nat × (List Nat) × (List FM) × (List Nat) × (Option Addr) × Nat × (List FM) × (List Nat) × (Option Addr) × Nat) => bif x.1 then (Value.tuple [(Value.pointer (some ⟨x.2.2.1, 0, none⟩)), (Value.int .i64 0)].toArray) else (Value.tuple [(Value.pointer none), (Value.int .i64 x.2.1)].toArray)) (fun (x : Bool × Int × Nat × (Option Addr) × Nat × (Option Addr) × Nat × (List Nat) × (List FM) × (List Nat) × (Option Addr) × Nat × (List FM) × (List Nat) × (Option Addr) × Nat) => (x.1 = true → (openE l r me = 0 ∧ FwdOk (watchL l r) x.2.2.2.2.2.2.2.2.1 ∧ BackOk (watchL l r) x.2.2.2.2.2.2.2.2.2.2.2.2.1 ∧ x.2.2.2.2.2.2.2.2.2.1.length = x.2.2.2.2.2.2.2.2.1.length ∧ x.2.2.2.2.2.2.2.2.2.2.2.2.2.1.length = x.2.2.2.2.2.2.2.2.2.2.2.2.1.length ∧ x.2.2.2.2.2.2.2.1.length = (timesT l r.Signals r.Signals.length).length)) ∧ (x.1 = false → (x.2.1 = openE l r me ∧ ¬ openE l r me = 0))) (fun (x : Bool × Int × Nat × (Option Addr) × Nat × (Option Addr) × Nat × (List Nat) × (List FM) × (List Nat) × (Option Addr) × Nat × (List FM) × (List Nat) × (Option Addr) × Nat) => bif x.1 then [(blk x.2.2.1 117 (WatchV.cells (WatchV.mk (LineV.mk (TrackV.mk (Slc.mk kA l.Track.length kC)) l.Fast (Slc.mk cA l.Clocks.length cC) (Slc.mk bA l.Beams.length bC) l.Finish l.Fakes l.Misses) (RideV.mk r.Start r.Now (Slc.mk sgA r.Signals.length sgC)) (Slc.mk x.2.2.2.1 ((leasts l l.Beams.length).length) x.2.2.2.2.1) (Slc.mk x.2.2.2.2.2.1 ((timesT l r.Signals r.Signals.length).length) x.2.2.2.2.2.2.1) (Slc.mk x.2.2.2.2.2.2.2.2.2.2.1 x.2.2.2.2.2.2.2.2.1.length x.2.2.2.2.2.2.2.2.2.2.2.1) (Slc.mk x.2.2.2.2.2.2.2.2.2.2.2.2.2.2.1 x.2.2.2.2.2.2.2.2.2.2.2.2.1.length x.2.2.2.2.2.2.2.2.2.2.2.2.2.2.2)))), (own x.2.2.2.1 x.2.2.2.2.1 3 1 ((leasts l l.Beams.length).map iC)), (own x.2.2.2.2.2.1 x.2.2.2.2.2.2.1 120 1 (List.zipWith mapC (timesT l r.Signals r.Signals.length) x.2.2.2.2.2.2.2.1)), (bund (nest tmR (timesT l r.Signals r.Signals.length) x.2.2.2.2.2.2.2.1)), (own x.2.2.2.2.2.2.2.2.2.2.1 x.2.2.2.2.2.2.2.2.2.2.2.1 122 1 (List.zipWith mapC x.2.2.2.2.2.2.2.2.1 x.2.2.2.2.2.2.2.2.2.1)), (bund (nest fmR x.2.2.2.2.2.2.2.2.1 x.2.2.2.2.2.2.2.2.2.1)), (own x.2.2.2.2.2.2.2.2.2.2.2.2.2.2.1 x.2.2.2.2.2.2.2.2.2.2.2.2.2.2.2 122 1 (List.zipWith mapC x.2.2.2.2.2.2.2.2.2.2.2.2.1 x.2.2.2.2.2.2.2.2.2.2.2.2.2.1)), (bund (nest fmR x.2.2.2.2.2.2.2.2.2.2.2.2.1 x.2.2.2.2.2.2.2.2.2.2.2.2.2.1))] else []) := by
 have htk := hin.trk
 have hck := hin.cks
 have has := hin.as_
 have hbm := hin.bms
 have hsd := hin.side
 refine fnX_of go33 Tryz.func33 rfl rfl fun w0 Q hQ hN => ?_
 try dsimp only
 refine WS fun _ hK1 => BXA rfl fun b2 => BXA rfl fun b3 => rS (AG rfl) <| rS (AG rfl) <| RK hK1 <| w_seq fun _ hK4 => WS fun _ hK5 => rS (LW 1 rfl tk28 rfl rfl) <| rS (CL (lcheck_c l kA kC az cA cC bA bC hin) (ha_at 2 rfl rfl <| ha_at 3 rfl rfl <| ha_at 4 rfl rfl <| ha_at 5 rfl rfl <| ha_nil) rfl) ?_
 refine rS (AG rfl) <| RK hK5 <| WS fun _ hK6 => rS (MV rfl) <| rS (BI rfl b_neq) <| RK hK6 ?_
 refine w_if rfl (fun h21 => ?_) (fun h21 => ?_)
 · replace h21 := XT h21
   refine WS fun _ hK7 => rS (MV rfl) <| rS (AG rfl) <| rS (AG rfl) <| RK hK7 <| w_ret ?_
   refine hQ _ _ _ (l_nil (vs := [(Value.pointer none), (Value.int .i64 (lineE l))]) ⟨rfl, rfl, trivial⟩ fun w hs => endX (false, (lineE l), 0, none, 0, none, 0, [], [], [], none, 0, [], [], none, 0) [] ?_ ?_ rfl rfl (by first | rfl | (show List.all _ _ = true; simp only [cond_true, List.all_cons, List.all_nil, fm_wr, tm_wr, Bool.and_true]; rfl)) hs)
   · rfl
   · refine ⟨fun q => Bool.noConfusion (show false = true from q), fun _ => ?_⟩; first | (have e := open_line_e (r := r) (me := me) h21; exact ⟨e.symm, fun q => h21 (e.symm.trans q)⟩) | (have e := open_ride_e (me := me) h10 (fun q : RideOk l r => by have q1 := q.time; have q2 := q.len; omega); exact ⟨e.symm, fun q => absurd (e.symm.trans q) (by decide)⟩) | (have e := open_ride_e (me := me) h10 (ride_no hx (by unfold SigOk SigIn; omega)); exact ⟨e.symm, fun q => absurd (e.symm.trans q) (by decide)⟩) | (have e := open_more_e h10 hro h156; exact ⟨e.symm, fun q => h156 (e.symm.trans q)⟩) | (have e := open_bad_e (me := me) h10 hro (by first | rfl | exact h156) (show numsF (watchL l r) = [] from List.eq_nil_of_length_eq_zero (Int.natCast_eq_zero.1 h164)); exact ⟨e.symm, fun q => absurd (e.symm.trans q) (by decide)⟩)
 replace h21 := XF h21
 refine WK hK4 <| w_seq fun _ hK8 => WS fun _ hK9 => ?_
 have h10 : lineE l = 0 := h21
 obtain ⟨htr, hok⟩ := lineE_zero h10
 have hhd := hok.head
 unfold HeadOk at hhd
 refine rS (FA 0 rfl fo31_0 rfl) <| rS (L1 (Value.int .i64 r.Start) 0 rfl tk3 rfl rfl) <| r_bs (xs := [.tmp 24]) (cs := [(Value.int .i64 r.Start)]) rfl te35 tz3 rfl rfl rfl rfl (by simp [Value.cells]) rfl rfl fun b10 => rS (CL (FnV.eq (in_beam 0 86400000 ([r.Start]) (some ⟨b10, 0, none⟩) 1 (by first | assumption | omega | (simp; done) | (simp; omega))) inAll_one) (ha_cons (has_rd_blk 0 rfl rfl (by simp [iC_length]) rfl) <| ha_nil) rfl) <| rS (NT rfl) <| rS (MV rfl) ?_
 refine r_bool (t := 28) rfl (fun h28 => ?_) (fun h28 => ?_)
 · replace h28 := XT h28
   refine rS (OX rfl) <| rS (OX rfl) <| rS (OX rfl) <| rS (OX rfl) <| rS (OX rfl) <| rS (OX rfl) <| rS (OX rfl) <| rS (PK rfl) <| rS (MV rfl) <| rS (OX rfl) ?_
   refine rS (OX rfl) <| rS (OX rfl) <| rS (OX rfl) <| rS (PK rfl) <| RK hK9 <| w_if_true rfl <| WS fun _ hK11 => rS (AG rfl) <| rS (AG rfl) <| RK hK11 ?_
   refine w_ret ?_
   refine hQ _ _ _ (l_nil (vs := [(Value.pointer none), (Value.int .i64 51)]) ⟨rfl, rfl, trivial⟩ fun w hs => endX (false, 51, 0, none, 0, none, 0, [], [], [], none, 0, [], [], none, 0) [] ?_ ?_ rfl rfl (by first | rfl | (show List.all _ _ = true; simp only [cond_true, List.all_cons, List.all_nil, fm_wr, tm_wr, Bool.and_true]; rfl)) hs)
   · rfl
   · refine ⟨fun q => Bool.noConfusion (show false = true from q), fun _ => ?_⟩; first | (have e := open_line_e (r := r) (me := me) h21; exact ⟨e.symm, fun q => h21 (e.symm.trans q)⟩) | (have e := open_ride_e (me := me) h10 (fun q : RideOk l r => by have q1 := q.time; have q2 := q.len; omega); exact ⟨e.symm, fun q => absurd (e.symm.trans q) (by decide)⟩) | (have e := open_ride_e (me := me) h10 (ride_no hx (by unfold SigOk SigIn; omega)); exact ⟨e.symm, fun q => absurd (e.symm.trans q) (by decide)⟩) | (have e := open_more_e h10 hro h156; exact ⟨e.symm, fun q => h156 (e.symm.trans q)⟩) | (have e := open_bad_e (me := me) h10 hro (by first | rfl | exact h156) (show numsF (watchL l r) = [] from List.eq_nil_of_length_eq_zero (Int.natCast_eq_zero.1 h164)); exact ⟨e.symm, fun q => absurd (e.symm.trans q) (by decide)⟩)
 replace h28 := XF h28
 refine rS (FA 0 rfl fo31_0 rfl) <| rS (L1 (Value.int .i64 r.Start) 1 rfl tk3 rfl rfl) <| rS (FA 1 rfl fo31_1 rfl) <| rS (L1 (Value.int .i64 r.Now) 1 rfl tk3 rfl rfl) <| r_bs (xs := [.tmp 32]) (cs := [(Value.int .i64 r.Now)]) rfl te35 tz3 rfl rfl rfl rfl (by simp [Value.cells]) rfl rfl fun b12 => rS (CL (FnV.eq (in_beam r.Start 86400000 ([r.Now]) (some ⟨b12, 0, none⟩) 1 (by first | assumption | omega | (simp; done) | (simp; omega))) inAll_one) (ha_cons (has_rd_blk 0 rfl rfl (by simp [iC_length]) rfl) <| ha_nil) rfl) <| rS (NT rfl) <| rS (PK rfl) <| rS (MV rfl) ?_
 refine r_bool (t := 37) rfl (fun h37 => ?_) (fun h37 => ?_)
 · replace h37 := XT h37
   refine rS (OX rfl) <| rS (OX rfl) <| rS (OX rfl) <| rS (OX rfl) <| rS (PK rfl) <| RK hK9 <| w_if_true rfl <| WS fun _ hK13 => rS (AG rfl) <| rS (AG rfl) ?_
   refine RK hK13 <| w_ret ?_
   refine hQ _ _ _ (l_nil (vs := [(Value.pointer none), (Value.int .i64 51)]) ⟨rfl, rfl, trivial⟩ fun w hs => endX (false, 51, 0, none, 0, none, 0, [], [], [], none, 0, [], [], none, 0) [] ?_ ?_ rfl rfl (by first | rfl | (show List.all _ _ = true; simp only [cond_true, List.all_cons, List.all_nil, fm_wr, tm_wr, Bool.and_true]; rfl)) hs)
   · rfl
   · refine ⟨fun q => Bool.noConfusion (show false = true from q), fun _ => ?_⟩; first | (have e := open_line_e (r := r) (me := me) h21; exact ⟨e.symm, fun q => h21 (e.symm.trans q)⟩) | (have e := open_ride_e (me := me) h10 (fun q : RideOk l r => by have q1 := q.time; have q2 := q.len; omega); exact ⟨e.symm, fun q => absurd (e.symm.trans q) (by decide)⟩) | (have e := open_ride_e (me := me) h10 (ride_no hx (by unfold SigOk SigIn; omega)); exact ⟨e.symm, fun q => absurd (e.symm.trans q) (by decide)⟩) | (have e := open_more_e h10 hro h156; exact ⟨e.symm, fun q => h156 (e.symm.trans q)⟩) | (have e := open_bad_e (me := me) h10 hro (by first | rfl | exact h156) (show numsF (watchL l r) = [] from List.eq_nil_of_length_eq_zero (Int.natCast_eq_zero.1 h164)); exact ⟨e.symm, fun q => absurd (e.symm.trans q) (by decide)⟩)
 replace h37 := XF h37
 refine rS (FA 2 rfl fo31_2 rfl) <| rS (L1 (Value.slice sgA r.Signals.length sgC) 2 rfl tk29 rfl rfl) <| rS (LN rfl ut29) <| rS (BI rfl b_gtr) <| rS (PK rfl) <| RK hK9 ?_
 refine w_if rfl (fun h42 => ?_) (fun h42 => ?_)
 · replace h42 := DT h42
   refine WS fun _ hK14 => rS (AG rfl) <| rS (AG rfl) <| RK hK14 <| w_ret ?_
   refine hQ _ _ _ (l_nil (vs := [(Value.pointer none), (Value.int .i64 51)]) ⟨rfl, rfl, trivial⟩ fun w hs => endX (false, 51, 0, none, 0, none, 0, [], [], [], none, 0, [], [], none, 0) [] ?_ ?_ rfl rfl (by first | rfl | (show List.all _ _ = true; simp only [cond_true, List.all_cons, List.all_nil, fm_wr, tm_wr, Bool.and_true]; rfl)) hs)
   · rfl
   · refine ⟨fun q => Bool.noConfusion (show false = true from q), fun _ => ?_⟩; first | (have e := open_line_e (r := r) (me := me) h21; exact ⟨e.symm, fun q => h21 (e.symm.trans q)⟩) | (have e := open_ride_e (me := me) h10 (fun q : RideOk l r => by have q1 := q.time; have q2 := q.len; omega); exact ⟨e.symm, fun q => absurd (e.symm.trans q) (by decide)⟩) | (have e := open_ride_e (me := me) h10 (ride_no hx (by unfold SigOk SigIn; omega)); exact ⟨e.symm, fun q => absurd (e.symm.trans q) (by decide)⟩) | (have e := open_more_e h10 hro h156; exact ⟨e.symm, fun q => h156 (e.symm.trans q)⟩) | (have e := open_bad_e (me := me) h10 hro (by first | rfl | exact h156) (show numsF (watchL l r) = [] from List.eq_nil_of_length_eq_zero (Int.natCast_eq_zero.1 h164)); exact ⟨e.symm, fun q => absurd (e.symm.trans q) (by decide)⟩)
 replace h42 := DF h42
 refine WK hK8 <| WS fun _ hK15 => rS (SX (sd_build (xs := [(0, .const (Value.int .i64 (-1)))]) (cs := (SignalV.cells (SignalV.mk (-1) 0))) rfl rfl (built_of tb67 rfl)) rfl rfl) <| AL rfl tz67 fun b16 => SW0 rfl ts67 rfl <| RK hK15 <| w_seq fun _ hK17 => w_draw4 mixed [0, 1, 2, 3, 4] [5, 6, 7, 8] [false, false, false, false, false] [false, false, false, false] [(blk b16 67 (SignalV.cells (SignalV.mk (-1) 0))), (blk b12 3 [(Value.int .i64 r.Now)]), (blk b10 3 [(Value.int .i64 r.Start)]), (blk b3 31 (RideV.cells (RideV.mk r.Start r.Now (Slc.mk sgA r.Signals.length sgC)))), (blk b2 28 (LineV.cells (LineV.mk (TrackV.mk (Slc.mk kA l.Track.length kC)) l.Fast (Slc.mk cA l.Clocks.length cC) (Slc.mk bA l.Beams.length bC) l.Finish l.Fakes l.Misses))), (rd kA l.Track.length 9 (l.Track.map StretchV.cells)).ro, (rd cA l.Clocks.length 2 (List.zipWith ClockM.cells l.Clocks az)).ro, (bun (nest ClockM.rds l.Clocks az)).ro, (rd bA l.Beams.length 4 (l.Beams.map BeamV.cells)).ro, (rd sgA r.Signals.length 2 (r.Signals.map SignalV.cells)).ro, X.ro, (blk gm 88 [f]).ro] [] (by kernel_rfl) (fun w hs => St.sel [0, 1, 2, 3, 4, 5, 6, 7, 8, 9, 10, 11] rfl rfl hs) (fun w hs => St.sel [] rfl rfl hs) <| eS rfl (LW 4 rfl tk28 rfl rfl) <| eS rfl (LW 3 rfl tk31 rfl rfl) ?_
 refine eS rfl (FA 3 rfl fo28_3 rfl) <| eS rfl (L1 (Value.slice bA l.Beams.length bC) 4 rfl tk26 rfl rfl) <| eS rfl (LN rfl ut26) <| d_fin rfl <| t_cons rfl fun T18 hT18 => r_mks (n := l.Beams.length) (es := (List.map oC (List.replicate l.Beams.length (none : Option Nat)))) rfl rfl rfl ta114 (by omega) (by omega) (by simp only [maxLen]; omega) (by rw [List.map_replicate]; rfl) rfl fun b19 => ?_
 try dsimp only
 refine RN hT18 [1, 2, 3, 4, 5, 6, 7, 8, 9, 10, 11, 12] rfl rfl <| t_cons rfl fun T20 hT20 => rS (SX (sd_build (xs := [(0, .tmp 44), (1, .tmp 45), (3, .tmp 49)]) (cs := (WatchV.cells (WatchV.mk (LineV.mk (TrackV.mk (Slc.mk kA l.Track.length kC)) l.Fast (Slc.mk cA l.Clocks.length cC) (Slc.mk bA l.Beams.length bC) l.Finish l.Fakes l.Misses) (RideV.mk r.Start r.Now (Slc.mk sgA r.Signals.length sgC)) (Slc.mk none 0 0) (Slc.mk (some ⟨b19, 0, none⟩) l.Beams.length l.Beams.length) (Slc.mk none 0 0) (Slc.mk none 0 0)))) rfl rfl (built_of tb117 rfl)) rfl rfl) <| RN hT20 [1, 2, 3, 4, 5, 6, 7, 8, 9, 10, 11, 12] rfl rfl <| t_cons rfl fun T21 hT21 => BXA rfl fun b22 => RN hT21 [2, 3, 4, 5, 6, 7, 8, 9, 10, 11, 12, 13] rfl rfl <| t_cons rfl fun T23 hT23 => rS (AG rfl) <| RN hT23 [2, 3, 4, 5, 6, 7, 8, 9, 10, 11, 12, 13] rfl rfl ?_
 refine t_fin rfl <| KK hK17 <| w_seq fun _ hK24 => WS fun _ hK25 => rS (FA 3 rfl fo28_3 rfl) <| rS (L1 (Value.slice bA l.Beams.length bC) 6 rfl tk26 rfl rfl) <| rS (LN rfl ut26) <| rS (MV rfl) <| RK hK25 <| w_block ?_
 rw [fillF_nil]
 refine w_own_nil 3 1 <| w_tie0 ?_
 have hinit : (0 ≤ l.Beams.length) ∧ (([] : List Nat).length = 0) := by exact ⟨Nat.zero_le _, rfl⟩
 refine w_loop (ι := { z : Nat × (Option Addr) × Nat × (List Nat) // (z.1 ≤ l.Beams.length) ∧ (z.2.2.2.length = z.1) }) (fun z => [(2, (Value.slice (some ⟨gm, 0, none⟩) 1 1)), (3, (Value.pointer (some ⟨b2, 0, none⟩))), (4, (Value.pointer (some ⟨b3, 0, none⟩))), (6, (Value.pointer none)), (7, (Value.int .i64 0)), (9, (Value.pointer (some ⟨b16, 0, none⟩))), (10, (Value.pointer (some ⟨b22, 0, none⟩))), (54, (Value.int .i64 ((l.Beams.length : Nat) : Int))), (55, (Value.int .i64 ((z.1.1 : Nat) : Int)))]) (fun z => [(bund (nest tmR (List.replicate z.1.1 ([] : TM)) z.1.2.2.2)), (own z.1.2.1 z.1.2.2.1 3 1 ((leasts l z.1.1).map iC)), (blk b22 117 (WatchV.cells (WatchV.mk (LineV.mk (TrackV.mk (Slc.mk kA l.Track.length kC)) l.Fast (Slc.mk cA l.Clocks.length cC) (Slc.mk bA l.Beams.length bC) l.Finish l.Fakes l.Misses) (RideV.mk r.Start r.Now (Slc.mk sgA r.Signals.length sgC)) (Slc.mk z.1.2.1 ((leasts l z.1.1).length) z.1.2.2.1) (Slc.mk (some ⟨b19, 0, none⟩) l.Beams.length l.Beams.length) (Slc.mk none 0 0) (Slc.mk none 0 0)))), (own (some ⟨b19, 0, none⟩) l.Beams.length 120 1 (List.map oC (fillF z.1.2.2.2 l.Beams.length))), (blk b16 67 (SignalV.cells (SignalV.mk (-1) 0))), (blk b3 31 (RideV.cells (RideV.mk r.Start r.Now (Slc.mk sgA r.Signals.length sgC)))), (blk b2 28 (LineV.cells (LineV.mk (TrackV.mk (Slc.mk kA l.Track.length kC)) l.Fast (Slc.mk cA l.Clocks.length cC) (Slc.mk bA l.Beams.length bC) l.Finish l.Fakes l.Misses))), (rd kA l.Track.length 9 (l.Track.map StretchV.cells)).ro, (rd cA l.Clocks.length 2 (List.zipWith ClockM.cells l.Clocks az)).ro, (bun (nest ClockM.rds l.Clocks az)).ro, (rd bA l.Beams.length 4 (l.Beams.map BeamV.cells)).ro, (rd sgA r.Signals.length 2 (r.Signals.map SignalV.cells)).ro, X.ro, (blk gm 88 [f]).ro]) (fun z => l.Beams.length - z.1.1) ⟨(0, none, 0, ([] : List Nat)), hinit⟩ (Sub.cons rfl <| Sub.cons rfl <| Sub.cons rfl <| Sub.cons rfl <| Sub.cons rfl <| Sub.cons rfl <| Sub.cons rfl <| Sub.cons rfl <| Sub.cons rfl <| Sub.nil _) (fun w hs => St.sel [0, 1, 2, 3, 4, 7, 8, 9, 10, 11, 12, 13, 14, 15] rfl rfl hs) ?_
 clear hinit
 rintro ⟨⟨b, a, c, fb⟩, ⟨hl9_0, hl9_1⟩⟩ J26 hJ26
 try dsimp only at hl9_0 hl9_1
 try dsimp only
 have hlf : (fillF fb l.Beams.length).length = l.Beams.length := fillF_len (by omega)
 refine WS fun _ hK27 => rS (BI rfl b_lss) <| RK hK27 <| w_seq fun _ hK28 => ?_
 refine w_if rfl (fun h29 => ?_) (fun h29 => ?_)
 · replace h29 := DT h29
   refine WK hK28 <| w_seq fun _ hK30 => w_block <| WS fun _ hK31 => rS (MV rfl) <| rS (AG rfl) <| RK hK31 <| w_seq fun _ hK32 => w_draw4 mixed [0, 1, 2, 3, 4, 5, 6, 7, 8, 9, 10, 11, 14, 15] [12, 13, 16] [false, false, false, false, true, false, false, false, false, false, false, false, false, false] [true, false, false] [(bund (nest tmR (List.replicate b ([] : TM)) fb)), (own (some ⟨b19, 0, none⟩) l.Beams.length 120 1 (List.map oC (fillF fb l.Beams.length))), (blk b16 67 (SignalV.cells (SignalV.mk (-1) 0))), (blk b3 31 (RideV.cells (RideV.mk r.Start r.Now (Slc.mk sgA r.Signals.length sgC)))), (blk b2 28 (LineV.cells (LineV.mk (TrackV.mk (Slc.mk kA l.Track.length kC)) l.Fast (Slc.mk cA l.Clocks.length cC) (Slc.mk bA l.Beams.length bC) l.Finish l.Fakes l.Misses))), (rd kA l.Track.length 9 (l.Track.map StretchV.cells)).ro, (rd cA l.Clocks.length 2 (List.zipWith ClockM.cells l.Clocks az)).ro, (bun (nest ClockM.rds l.Clocks az)).ro, (rd bA l.Beams.length 4 (l.Beams.map BeamV.cells)).ro, (rd sgA r.Signals.length 2 (r.Signals.map SignalV.cells)).ro, X.ro, (blk gm 88 [f]).ro] [(bund (nest tmR (List.replicate b ([] : TM)) fb)), (own a c 3 1 ((leasts l b).map iC)), (blk b22 117 (WatchV.cells (WatchV.mk (LineV.mk (TrackV.mk (Slc.mk kA l.Track.length kC)) l.Fast (Slc.mk cA l.Clocks.length cC) (Slc.mk bA l.Beams.length bC) l.Finish l.Fakes l.Misses) (RideV.mk r.Start r.Now (Slc.mk sgA r.Signals.length sgC)) (Slc.mk a ((leasts l b).length) c) (Slc.mk (some ⟨b19, 0, none⟩) l.Beams.length l.Beams.length) (Slc.mk none 0 0) (Slc.mk none 0 0)))), (own (some ⟨b19, 0, none⟩) l.Beams.length 120 1 (List.map oC (fillF fb l.Beams.length))), (blk b16 67 (SignalV.cells (SignalV.mk (-1) 0))), (blk b3 31 (RideV.cells (RideV.mk r.Start r.Now (Slc.mk sgA r.Signals.length sgC)))), (blk b2 28 (LineV.cells (LineV.mk (TrackV.mk (Slc.mk kA l.Track.length kC)) l.Fast (Slc.mk cA l.Clocks.length cC) (Slc.mk bA l.Beams.length bC) l.Finish l.Fakes l.Misses))), (rd kA l.Track.length 9 (l.Track.map StretchV.cells)).ro, (rd cA l.Clocks.length 2 (List.zipWith ClockM.cells l.Clocks az)).ro, (bun (nest ClockM.rds l.Clocks az)).ro, (rd bA l.Beams.length 4 (l.Beams.map BeamV.cells)).ro, (rd sgA r.Signals.length 2 (r.Signals.map SignalV.cells)).ro, X.ro, (blk gm 88 [f]).ro] (by kernel_rfl) (fun w hs => St.sel [0, 3, 4, 5, 6, 7, 8, 9, 10, 11, 12, 13] rfl rfl hs) (fun w hs => St.sel [0, 1, 2, 3, 4, 5, 6, 7, 8, 9, 10, 11, 12, 13] rfl rfl hs) <| eS rfl (MV rfl) ?_
   refine eS rfl (MV rfl) <| eS rfl (SX (sd_nil_p rfl rfl) rfl rfl) <| eS rfl (FA 10 rfl fo117_2 rfl) <| fS rfl (L1 (Value.slice a ((leasts l b).length) c) 2 rfl tk35 rfl rfl) <| eS rfl (LW 4 rfl tk28 rfl rfl) <| eS rfl (MV rfl) <| eS rfl (CL (way_c l kA kC az cA cC bA bC ((b : Nat) : Int) hin (by first | assumption | omega | (simp; done) | (simp; omega)) (by exact hok.beam) (by first | assumption | omega | (simp; done) | (simp; omega))) (ha_at 5 rfl rfl <| ha_at 6 rfl rfl <| ha_at 7 rfl rfl <| ha_at 8 rfl rfl <| ha_nil) rfl) ?_
   have hwb := way_b htr hok.beam b
   have hwy := hok.way b (by omega)
   simp only [Int.toNat_natCast]
   refine eS rfl (BI rfl (b_mul ⟨by omega, by omega⟩)) <| eS rfl (FA 1 rfl fo28_1 rfl) <| eS rfl (L1 (Value.int .i64 l.Fast) 4 rfl tk3 rfl rfl) <| eS rfl (CL (upd_c (1000 * (wayF l ((b : Nat) : Int).toNat)) l.Fast (by first | assumption | omega | (simp; done) | (simp; omega)) (by first | assumption | omega | (simp; done) | (simp; omega))) (ha_nil) rfl) <| eS rfl (SX (sd_nil_p rfl rfl) rfl rfl) <| eS rfl (FA 10 rfl fo117_2 rfl) <| d_fin rfl <| t5_cons rfl fun T33 hT33 => r_bs (xs := [.tmp 69]) (cs := [(Value.int .i64 (upD (1000 * (wayF l ((b : Nat) : Int).toNat)) l.Fast))]) rfl te35 tz3 rfl rfl rfl rfl (by simp [Value.cells]) rfl rfl fun b34 => ?_
   refine r_nil (hT33 _ _ (fun w hs => St.sel [1, 4, 5, 6, 7, 8, 9, 10, 11, 12, 13, 14] rfl rfl hs) (fun w hs => St.sel [1, 2, 3, 4, 5, 6, 7, 8, 9, 10, 11, 12, 13, 14] rfl rfl hs) ?_)
   refine t_cons rfl fun T35 hT35 => r_append (es2 := (List.map iC (leasts l (b + 1)))) (m' := (leasts l (b + 1)).length) 2 rfl rfl rfl ta35 rfl rfl (by simp [leasts_len]) (has_rd_blk (es := List.map iC [(upD (1000 * (wayF l ((b : Nat) : Int).toNat)) l.Fast)]) 0 rfl rfl (by simp [iC_length]) rfl) (one_iC _) (by have := leasts_len (l := l) (n := b); first | omega | (simp; omega)) (by simp only [maxLen, leasts_len]; omega) (by rw [leasts_succ]; simp [leastF]) (by simp [leasts_len]) rfl fun a36 c37 => ?_
   try dsimp only
   refine RN hT35 [1, 4, 5, 6, 7, 8, 9, 10, 11, 12, 13, 14] rfl rfl <| t_cons rfl fun T38 hT38 => ST3 (WatchV.cells (WatchV.mk (LineV.mk (TrackV.mk (Slc.mk kA l.Track.length kC)) l.Fast (Slc.mk cA l.Clocks.length cC) (Slc.mk bA l.Beams.length bC) l.Finish l.Fakes l.Misses) (RideV.mk r.Start r.Now (Slc.mk sgA r.Signals.length sgC)) (Slc.mk a36 ((leasts l (b + 1)).length) c37) (Slc.mk (some ⟨b19, 0, none⟩) l.Beams.length l.Beams.length) (Slc.mk none 0 0) (Slc.mk none 0 0))) rfl ts35 rfl rfl <| RN hT38 [1, 4, 5, 6, 7, 8, 9, 10, 11, 12, 13, 14] rfl rfl <| t_fin rfl <| KK hK32 <| w_region <| rS (MV rfl) <| rS (SX (sd_nil_p rfl rfl) rfl rfl) <| rS (FA 11 rfl fo117_3 rfl) ?_
   refine rS (L1 (Value.slice (some ⟨b19, 0, none⟩) l.Beams.length l.Beams.length) 3 rfl tk114 rfl rfl) <| rS (MV rfl) <| gr_mkmap (kV := iV) rfl rfl fun b39 => ?_
   try dsimp only
   obtain ⟨x40, hx41⟩ : ∃ y_, (fillF fb l.Beams.length)[b]? = some y_ := ⟨(fillF fb l.Beams.length)[b]'(by omega), List.getElem?_eq_getElem _⟩
   have hx41m : (List.map oC (fillF fb l.Beams.length))[b]? = some (oC x40) := by rw [List.getElem?_map, hx41]; rfl
   refine rS (IA b rfl (has_own_n (n := l.Beams.length) 5 rfl (by first | (simp; done) | (simp; omega))) te114 (by decide) (by omega) (by omega)) ?_
   have hb42 : ((fillF fb l.Beams.length).set b (some b39)) = (fillF (fb ++ [b39]) l.Beams.length) := by exact fillF_set (by omega) (by omega)
   refine r_store_own (k := b) (o := 0) (vs := [(Value.map (some b39))]) (es' := (List.map oC (fillF (fb ++ [b39]) l.Beams.length))) (C' := [_, _, _, _, _, (own (some ⟨b19, 0, none⟩) l.Beams.length 120 1 (List.map oC (fillF (fb ++ [b39]) l.Beams.length))), _, _, _, _, _, _, _, _, _, _]) 5 rfl rfl rfl ts120 rfl rfl rfl rfl hx41m rfl (by decide) (by exact (List.map_set (f := oC) (l := (fillF fb l.Beams.length)) (i := b) (a := (some b39))).symm.trans (congrArg _ hb42)) rfl <| r_nil <| k_block <| KK hK30 <| w_region <| rS (BI rfl (b_add ⟨by omega, by omega⟩)) <| rS (MV rfl) <| r_nil <| k_tie (X' := nest tmR (List.replicate (b + 1) ([] : TM)) (fb ++ [b39])) 2 0 rfl rfl (tm_snoc hl9_1) ?_
   try dsimp only
   have hb43 : (Value.int .i64 (((b + 1) : Nat) : Int)) = (Value.int .i64 (((b : Nat) : Int) + 1)) := by exact congrArg (Value.int .i64) (by omega)
   refine k_then (hJ26 ⟨((b + 1), a36, c37, (fb ++ [b39])), ⟨by omega, by simp; omega⟩⟩ _ _ _ rfl (by first | omega | (simp; omega)) (Sub.cons rfl <| Sub.cons rfl <| Sub.cons rfl <| Sub.cons rfl <| Sub.cons rfl <| Sub.cons rfl <| Sub.cons rfl <| Sub.cons rfl <| sub_val rfl hb43 <| Sub.nil _) (fun w hs => St.sel [0, 2, 3, 4, 5, 6, 7, 8, 9, 10, 11, 12, 13, 14] rfl rfl hs))
 replace h29 := DF h29
 refine w_exit <| k_exit_then <| k_exit_then <| k_exit_same <| KK hK24 <| w_seq fun _ hK44 => WS fun _ hK45 => rS (FA 2 rfl fo31_2 rfl) <| rS (L1 (Value.slice sgA r.Signals.length sgC) 5 rfl tk29 rfl rfl) <| rS (LN rfl ut29) ?_
 refine rS (MV rfl) <| RK hK45 <| w_block ?_
 rw [show (List.replicate b ([] : TM)) = timesT l r.Signals 0 from by rw [times_zero, show b = l.Beams.length by omega]]
 rw [show leasts l b = leasts l l.Beams.length from by rw [show b = l.Beams.length by omega]]
 have hinit : (0 ≤ r.Signals.length) ∧ (SigsTo l r.Signals 0) := by exact ⟨Nat.zero_le _, sigs_zero⟩
 refine w_loop (ι := { z : Nat // (z ≤ r.Signals.length) ∧ (SigsTo l r.Signals z) }) (fun z => [(2, (Value.slice (some ⟨gm, 0, none⟩) 1 1)), (3, (Value.pointer (some ⟨b2, 0, none⟩))), (4, (Value.pointer (some ⟨b3, 0, none⟩))), (6, (Value.pointer none)), (7, (Value.int .i64 0)), (9, (Value.pointer (some ⟨b16, 0, none⟩))), (10, (Value.pointer (some ⟨b22, 0, none⟩))), (83, (Value.slice sgA r.Signals.length sgC)), (84, (Value.int .i64 ((r.Signals.length : Nat) : Int))), (85, (Value.int .i64 ((z.1 : Nat) : Int)))]) (fun z => [(bund (nest tmR (timesT l r.Signals z.1) fb)), (own a c 3 1 ((leasts l l.Beams.length).map iC)), (blk b22 117 (WatchV.cells (WatchV.mk (LineV.mk (TrackV.mk (Slc.mk kA l.Track.length kC)) l.Fast (Slc.mk cA l.Clocks.length cC) (Slc.mk bA l.Beams.length bC) l.Finish l.Fakes l.Misses) (RideV.mk r.Start r.Now (Slc.mk sgA r.Signals.length sgC)) (Slc.mk a ((leasts l l.Beams.length).length) c) (Slc.mk (some ⟨b19, 0, none⟩) l.Beams.length l.Beams.length) (Slc.mk none 0 0) (Slc.mk none 0 0)))), (own (some ⟨b19, 0, none⟩) l.Beams.length 120 1 (List.map oC (fillF fb l.Beams.length))), (blk b16 67 (SignalV.cells (prevS r.Signals z.1))), (blk b3 31 (RideV.cells (RideV.mk r.Start r.Now (Slc.mk sgA r.Signals.length sgC)))), (blk b2 28 (LineV.cells (LineV.mk (TrackV.mk (Slc.mk kA l.Track.length kC)) l.Fast (Slc.mk cA l.Clocks.length cC) (Slc.mk bA l.Beams.length bC) l.Finish l.Fakes l.Misses))), (rd kA l.Track.length 9 (l.Track.map StretchV.cells)).ro, (rd cA l.Clocks.length 2 (List.zipWith ClockM.cells l.Clocks az)).ro, (bun (nest ClockM.rds l.Clocks az)).ro, (rd bA l.Beams.length 4 (l.Beams.map BeamV.cells)).ro, (rd sgA r.Signals.length 2 (r.Signals.map SignalV.cells)).ro, X.ro, (blk gm 88 [f]).ro]) (fun z => r.Signals.length - z.1) ⟨0, hinit⟩ (Sub.cons rfl <| Sub.cons rfl <| Sub.cons rfl <| Sub.cons rfl <| Sub.cons rfl <| Sub.cons rfl <| Sub.cons rfl <| Sub.cons rfl <| Sub.cons rfl <| Sub.cons rfl <| Sub.nil _) (fun w hs => St.sel [0, 1, 2, 3, 4, 5, 6, 7, 8, 9, 10, 11, 12, 13] rfl rfl hs) ?_
 clear hinit
 rintro ⟨i, ⟨hl15_0, hl15_1⟩⟩ J46 hJ46
 try dsimp only
 have htlen : (timesT l r.Signals i).length = l.Beams.length := timesT_len
 have hlf : (fillF fb l.Beams.length).length = l.Beams.length := fillF_len (by omega)
 refine WS fun _ hK47 => rS (BI rfl b_lss) <| RK hK47 <| w_seq fun _ hK48 => ?_
 refine w_if rfl (fun h49 => ?_) (fun h49 => ?_)
 rotate_left 1
 · replace h49 := DF h49
   refine w_exit <| k_exit_then <| k_exit_then <| k_exit_same <| KK hK44 <| w_seq fun _ hK79 => w_seq fun _ hK80 => ?_
   have hro : RideOk l r := ride_all (by omega) (by omega) hl15_1 (by omega)
   refine w_region <| rS (MV rfl) <| rS (LN rfl ut112) <| rS (MV rfl) <| RK hK80 <| w_block <| w_rounds 2 <| ro_succ fun R81 hR81 => WS fun _ hK82 => rS (SX (sd_bin (r := .bool true) rfl rfl rfl b_lss) rfl rfl) ?_
   refine RK hK82 <| w_seq fun _ hK83 => w_if_true rfl <| WK hK83 <| w_seq fun _ hK84 => w_block <| WS fun _ hK85 => rS (IAB 0 0 rfl te112 rfl (by decide) rfl) <| rS (L1Q 13 rfl tk88 rfl) <| rS (AG rfl) ?_
   refine RK hK85 <| WS fun _ hK86 => rS (MV rfl) <| rS (SX (sd_clo rfl rfl rfl (hf ) (ha_at 12 rfl rfl <| ha_nil)) rfl rfl) <| rS (AG rfl) <| RK hK86 <| WS fun _ hK87 => rS (MV rfl) <| rS (BI rfl b_neq) <| RK hK87 ?_
   refine w_if rfl (fun h156 => ?_) (fun h156 => ?_)
   · replace h156 := XT h156
     refine WS fun _ hK88 => rS (MV rfl) <| rS (AG rfl) <| rS (AG rfl) <| RK hK88 <| w_ret ?_
     refine hQ _ _ _ (l_nil (vs := [(Value.pointer none), (Value.int .i64 me)]) ⟨rfl, rfl, trivial⟩ fun w hs => endX (false, me, 0, none, 0, none, 0, [], [], [], none, 0, [], [], none, 0) [] ?_ ?_ rfl rfl (by first | rfl | (show List.all _ _ = true; simp only [cond_true, List.all_cons, List.all_nil, fm_wr, tm_wr, Bool.and_true]; rfl)) hs)
     · rfl
     · refine ⟨fun q => Bool.noConfusion (show false = true from q), fun _ => ?_⟩; first | (have e := open_line_e (r := r) (me := me) h21; exact ⟨e.symm, fun q => h21 (e.symm.trans q)⟩) | (have e := open_ride_e (me := me) h10 (fun q : RideOk l r => by have q1 := q.time; have q2 := q.len; omega); exact ⟨e.symm, fun q => absurd (e.symm.trans q) (by decide)⟩) | (have e := open_ride_e (me := me) h10 (ride_no hx (by unfold SigOk SigIn; omega)); exact ⟨e.symm, fun q => absurd (e.symm.trans q) (by decide)⟩) | (have e := open_more_e h10 hro h156; exact ⟨e.symm, fun q => h156 (e.symm.trans q)⟩) | (have e := open_bad_e (me := me) h10 hro (by first | rfl | exact h156) (show numsF (watchL l r) = [] from List.eq_nil_of_length_eq_zero (Int.natCast_eq_zero.1 h164)); exact ⟨e.symm, fun q => absurd (e.symm.trans q) (by decide)⟩)
   replace h156 := XF h156
   refine w_skip <| k_block <| KK hK84 <| w_region <| rS (SX (sd_bin (r := .int .i64 1) rfl rfl rfl (b_add ⟨by decide, by decide⟩)) rfl rfl) <| rS (MV rfl) <| RK hR81 <| ro_succ fun R89 hR89 => WS fun _ hK90 => rS (SX (sd_bin (r := .bool false) rfl rfl rfl b_lss) rfl rfl) ?_
   refine RK hK90 <| w_seq fun _ hK91 => w_if_false rfl <| w_exit <| k_exit_then <| k_exit_then <| k_exit_same <| KK hK79 <| w_seq fun _ hK92 => ?_
   rw [show timesT l r.Signals i = timesT l r.Signals r.Signals.length from by rw [show i = r.Signals.length by omega]]
   have htl : (timesT l r.Signals r.Signals.length).length = l.Beams.length := timesT_len
   rw [show (List.map oC (fillF fb l.Beams.length)) = (List.zipWith mapC (timesT l r.Signals r.Signals.length) fb) from zipF (by omega) htl]
   rw [show (blk b22 117 (WatchV.cells (WatchV.mk (LineV.mk (TrackV.mk (Slc.mk kA l.Track.length kC)) l.Fast (Slc.mk cA l.Clocks.length cC) (Slc.mk bA l.Beams.length bC) l.Finish l.Fakes l.Misses) (RideV.mk r.Start r.Now (Slc.mk sgA r.Signals.length sgC)) (Slc.mk a ((leasts l l.Beams.length).length) c) (Slc.mk (some ⟨b19, 0, none⟩) l.Beams.length l.Beams.length) (Slc.mk none 0 0) (Slc.mk none 0 0)))) = (blk b22 117 (WatchV.cells (WatchV.mk (LineV.mk (TrackV.mk (Slc.mk kA l.Track.length kC)) l.Fast (Slc.mk cA l.Clocks.length cC) (Slc.mk bA l.Beams.length bC) l.Finish l.Fakes l.Misses) (RideV.mk r.Start r.Now (Slc.mk sgA r.Signals.length sgC)) (Slc.mk a ((leasts l l.Beams.length).length) c) (Slc.mk (some ⟨b19, 0, none⟩) ((timesT l r.Signals r.Signals.length).length) l.Beams.length) (Slc.mk none 0 0) (Slc.mk none 0 0)))) from by rw [htl]]
   have hwo := watch_ok htr hok hro
   have hlel : (leasts l l.Beams.length).length = l.Beams.length := leasts_len
   refine w_region <| rS (MV rfl) ?_
   refine r_callm 2 rfl rfl rfl rfl (follow_c (LineV.mk (TrackV.mk (Slc.mk kA l.Track.length kC)) l.Fast (Slc.mk cA l.Clocks.length cC) (Slc.mk bA l.Beams.length bC) l.Finish l.Fakes l.Misses) (RideV.mk r.Start r.Now (Slc.mk sgA r.Signals.length sgC)) (leasts l l.Beams.length) (timesT l r.Signals r.Signals.length) a c fb (some ⟨b19, 0, none⟩) l.Beams.length b22 (by exact hwo) (by exact leasts_len.symm) (by rw [htl]; omega)) rfl (cv_cons 1 rfl rfl (cov_own_n (by simp)) (cv_cons 3 rfl rfl (cov_own_n (by rw [List.length_zipWith]; omega)) (cv_cons 0 rfl rfl cov_bund cv_nil))) rfl (fun y101 hfo => ?_)
   obtain ⟨fs93, fb94, fA95, fC96, bs97, bb98, bA99, bC100⟩ := y101
   refine r_untie (X := [(blk b22 117 (WatchV.cells (WatchV.mk (LineV.mk (TrackV.mk (Slc.mk kA l.Track.length kC)) l.Fast (Slc.mk cA l.Clocks.length cC) (Slc.mk bA l.Beams.length bC) l.Finish l.Fakes l.Misses) (RideV.mk r.Start r.Now (Slc.mk sgA r.Signals.length sgC)) (Slc.mk a ((leasts l l.Beams.length).length) c) (Slc.mk (some ⟨b19, 0, none⟩) ((timesT l r.Signals r.Signals.length).length) l.Beams.length) (Slc.mk fA95 fs93.length fC96) (Slc.mk bA99 bs97.length bC100)))), (own fA95 fC96 122 1 (List.zipWith mapC fs93 fb94)), (bund (nest fmR fs93 fb94)), (own bA99 bC100 122 1 (List.zipWith mapC bs97 bb98)), (bund (nest fmR bs97 bb98))]) 2 rfl rfl ?_
   try dsimp only
   obtain ⟨hq1, hq2, hq3, hq4⟩ := hfo
   dsimp only at hq1 hq2 hq3 hq4
   refine RK hK92 <| w_seq fun _ hK102 => WS fun _ hK103 => rS (MV rfl) <| cX (numbers_c (LineV.mk (TrackV.mk (Slc.mk kA l.Track.length kC)) l.Fast (Slc.mk cA l.Clocks.length cC) (Slc.mk bA l.Beams.length bC) l.Finish l.Fakes l.Misses) (RideV.mk r.Start r.Now (Slc.mk sgA r.Signals.length sgC)) (leasts l l.Beams.length) (timesT l r.Signals r.Signals.length) a c fb (some ⟨b19, 0, none⟩) l.Beams.length fs93 bs97 fb94 fA95 fC96 bb98 bA99 bC100 b22 (by exact hwo) (by first | assumption | omega | (simp; done) | (simp; omega)) (by exact leasts_len.symm) (by exact hq1) (by first | assumption | omega | (simp; done) | (simp; omega))) (ha_cons (has_own_n (n := (leasts l l.Beams.length).length) 6 rfl (by simp)) <| ha_cons (has_own_n (n := (timesT l r.Signals r.Signals.length).length) 7 rfl (by rw [List.length_zipWith]; omega)) <| ha_cons (bun_bund 5 rfl bun_same) <| ha_cons (has_own_n (n := fs93.length) 1 rfl (by rw [List.length_zipWith]; omega)) <| ha_cons (bun_bund 2 rfl bun_same) <| ha_cons (has_own_n (n := bs97.length) 3 rfl (by rw [List.length_zipWith]; omega)) <| ha_cons (bun_bund 4 rfl bun_same) <| ha_at 0 rfl rfl <| ha_nil) rfl fun y104 hy105 => ?_
   obtain ⟨a106, c107⟩ := y104
   try dsimp only
   refine rS (LN rfl ut35) <| rS (BI rfl b_eql) <| RK hK103 ?_
   refine w_if rfl (fun h164 => ?_) (fun h164 => ?_)
   rotate_left 1
   · replace h164 := DF h164
     refine WK hK102 <| WS fun _ hK109 => rS (MV rfl) <| rS (AG rfl) <| rS (AG rfl) <| RK hK109 <| w_ret ?_
     refine hQ _ _ _ (l_nil (vs := [(Value.pointer (some ⟨b22, 0, none⟩)), (Value.int .i64 0)]) ⟨rfl, rfl, trivial⟩ fun w hs => endX (true, 0, b22, a, c, (some ⟨b19, 0, none⟩), l.Beams.length, fb, fs93, fb94, fA95, fC96, bs97, bb98, bA99, bC100) [1, 7, 8, 6, 2, 3, 4, 5] ?_ ?_ rfl rfl (by first | rfl | (show List.all _ _ = true; simp only [cond_true, List.all_cons, List.all_nil, fm_wr, tm_wr, Bool.and_true]; rfl)) hs)
     · rfl
     · exact ⟨fun _ => ⟨open_ok_e h10 hro (by first | rfl | exact h156) (fun q => h164 (congrArg (fun z : List Int => ((z.length : Nat) : Int)) q)), hq1, hq2, hq3, hq4, by dsimp only; omega⟩, fun q => Bool.noConfusion (show true = false from q)⟩
   replace h164 := DT h164
   refine WS fun _ hK108 => rS (AG rfl) <| rS (AG rfl) <| RK hK108 <| w_ret ?_
   refine hQ _ _ _ (l_nil (vs := [(Value.pointer none), (Value.int .i64 8)]) ⟨rfl, rfl, trivial⟩ fun w hs => endX (false, 8, 0, none, 0, none, 0, [], [], [], none, 0, [], [], none, 0) [] ?_ ?_ rfl rfl (by first | rfl | (show List.all _ _ = true; simp only [cond_true, List.all_cons, List.all_nil, fm_wr, tm_wr, Bool.and_true]; rfl)) hs)
   · rfl
   · refine ⟨fun q => Bool.noConfusion (show false = true from q), fun _ => ?_⟩; first | (have e := open_line_e (r := r) (me := me) h21; exact ⟨e.symm, fun q => h21 (e.symm.trans q)⟩) | (have e := open_ride_e (me := me) h10 (fun q : RideOk l r => by have q1 := q.time; have q2 := q.len; omega); exact ⟨e.symm, fun q => absurd (e.symm.trans q) (by decide)⟩) | (have e := open_ride_e (me := me) h10 (ride_no hx (by unfold SigOk SigIn; omega)); exact ⟨e.symm, fun q => absurd (e.symm.trans q) (by decide)⟩) | (have e := open_more_e h10 hro h156; exact ⟨e.symm, fun q => h156 (e.symm.trans q)⟩) | (have e := open_bad_e (me := me) h10 hro (by first | rfl | exact h156) (show numsF (watchL l r) = [] from List.eq_nil_of_length_eq_zero (Int.natCast_eq_zero.1 h164)); exact ⟨e.symm, fun q => absurd (e.symm.trans q) (by decide)⟩)
 replace h49 := DT h49
 refine WK hK48 <| w_seq fun _ hK50 => w_block <| WS fun _ hK51 => rS (MV rfl) ?_
 obtain ⟨x, hx⟩ : ∃ y_, r.Signals[i]? = some y_ := ⟨r.Signals[i]'(by omega), List.getElem?_eq_getElem _⟩
 have hxm : (r.Signals.map SignalV.cells)[i]? = some (SignalV.cells x) := by rw [List.getElem?_map, hx]; rfl
 refine rS (IA i rfl (has_at 11 rfl) te29 (by decide) (by omega) (by omega)) <| rS (LEN i 0 (SignalV.cells x) rfl tk67 (has_at 11 rfl) hxm rfl (by decide) rfl rfl) <| AL rfl tz67 fun b52 => rS (AG rfl) <| SW0 rfl ts67 rfl <| RK hK51 <| w_seq fun _ hK53 => WS fun _ hK54 => rS (FA 3 rfl fo28_3 rfl) <| rS (L1 (Value.slice bA l.Beams.length bC) 7 rfl tk26 rfl rfl) ?_
 refine rS (LN rfl ut26) <| rS (BI rfl (b_sub ⟨by omega, by omega⟩)) <| rS (FA 0 rfl fo67_0 rfl) <| rS (L1 (Value.int .i64 x.Beam) 0 rfl tk3 rfl rfl) <| r_bs (xs := [.tmp 95]) (cs := [(Value.int .i64 x.Beam)]) rfl te35 tz3 rfl rfl rfl rfl (by simp [Value.cells]) rfl rfl fun b55 => rS (CL (FnV.eq (in_beam 0 (((l.Beams.length : Nat) : Int) - 1) ([x.Beam]) (some ⟨b55, 0, none⟩) 1 (by first | assumption | omega | (simp; done) | (simp; omega))) inAll_one) (ha_cons (has_rd_blk 0 rfl rfl (by simp [iC_length]) rfl) <| ha_nil) rfl) <| rS (NT rfl) <| rS (MV rfl) ?_
 refine r_bool (t := 99) rfl (fun h99 => ?_) (fun h99 => ?_)
 · replace h99 := XT h99
   refine rS (OX rfl) <| rS (OX rfl) <| rS (OX rfl) <| rS (OX rfl) <| rS (OX rfl) <| rS (PK rfl) <| rS (MV rfl) <| rS (OX rfl) <| rS (OX rfl) <| rS (OX rfl) ?_
   refine rS (OX rfl) <| rS (OX rfl) <| rS (PK rfl) <| rS (MV rfl) <| rS (OX rfl) <| rS (OX rfl) <| rS (OX rfl) <| rS (OX rfl) <| rS (OX rfl) <| rS (OX rfl) ?_
   refine rS (OX rfl) <| rS (OX rfl) <| rS (OX rfl) <| rS (OX rfl) <| rS (OX rfl) <| rS (OX rfl) <| rS (PK rfl) <| RK hK54 <| w_if_true rfl <| WS fun _ hK56 => ?_
   refine rS (AG rfl) <| rS (AG rfl) <| RK hK56 <| w_ret ?_
   refine hQ _ _ _ (l_nil (vs := [(Value.pointer none), (Value.int .i64 51)]) ⟨rfl, rfl, trivial⟩ fun w hs => endX (false, 51, 0, none, 0, none, 0, [], [], [], none, 0, [], [], none, 0) [] ?_ ?_ rfl rfl (by first | rfl | (show List.all _ _ = true; simp only [cond_true, List.all_cons, List.all_nil, fm_wr, tm_wr, Bool.and_true]; rfl)) hs)
   · rfl
   · refine ⟨fun q => Bool.noConfusion (show false = true from q), fun _ => ?_⟩; first | (have e := open_line_e (r := r) (me := me) h21; exact ⟨e.symm, fun q => h21 (e.symm.trans q)⟩) | (have e := open_ride_e (me := me) h10 (fun q : RideOk l r => by have q1 := q.time; have q2 := q.len; omega); exact ⟨e.symm, fun q => absurd (e.symm.trans q) (by decide)⟩) | (have e := open_ride_e (me := me) h10 (ride_no hx (by unfold SigOk SigIn; omega)); exact ⟨e.symm, fun q => absurd (e.symm.trans q) (by decide)⟩) | (have e := open_more_e h10 hro h156; exact ⟨e.symm, fun q => h156 (e.symm.trans q)⟩) | (have e := open_bad_e (me := me) h10 hro (by first | rfl | exact h156) (show numsF (watchL l r) = [] from List.eq_nil_of_length_eq_zero (Int.natCast_eq_zero.1 h164)); exact ⟨e.symm, fun q => absurd (e.symm.trans q) (by decide)⟩)
 replace h99 := XF h99
 refine rS (FA 1 rfl fo67_1 rfl) <| rS (L1 (Value.int .i64 x.Read) 1 rfl tk3 rfl rfl) <| r_bs (xs := [.tmp 101]) (cs := [(Value.int .i64 x.Read)]) rfl te35 tz3 rfl rfl rfl rfl (by simp [Value.cells]) rfl rfl fun b57 => rS (CL (FnV.eq (in_beam 0 86400000 ([x.Read]) (some ⟨b57, 0, none⟩) 1 (by first | assumption | omega | (simp; done) | (simp; omega))) inAll_one) (ha_cons (has_rd_blk 0 rfl rfl (by simp [iC_length]) rfl) <| ha_nil) rfl) <| rS (NT rfl) <| rS (PK rfl) <| rS (MV rfl) ?_
 refine r_bool (t := 106) rfl (fun h106 => ?_) (fun h106 => ?_)
 · replace h106 := XT h106
   refine rS (OX rfl) <| rS (OX rfl) <| rS (OX rfl) <| rS (OX rfl) <| rS (OX rfl) <| rS (PK rfl) <| rS (MV rfl) <| rS (OX rfl) <| rS (OX rfl) <| rS (OX rfl) ?_
   refine rS (OX rfl) <| rS (OX rfl) <| rS (OX rfl) <| rS (OX rfl) <| rS (OX rfl) <| rS (OX rfl) <| rS (OX rfl) <| rS (OX rfl) <| rS (OX rfl) <| rS (PK rfl) ?_
   refine RK hK54 <| w_if_true rfl <| WS fun _ hK58 => rS (AG rfl) <| rS (AG rfl) <| RK hK58 <| w_ret ?_
   refine hQ _ _ _ (l_nil (vs := [(Value.pointer none), (Value.int .i64 51)]) ⟨rfl, rfl, trivial⟩ fun w hs => endX (false, 51, 0, none, 0, none, 0, [], [], [], none, 0, [], [], none, 0) [] ?_ ?_ rfl rfl (by first | rfl | (show List.all _ _ = true; simp only [cond_true, List.all_cons, List.all_nil, fm_wr, tm_wr, Bool.and_true]; rfl)) hs)
   · rfl
   · refine ⟨fun q => Bool.noConfusion (show false = true from q), fun _ => ?_⟩; first | (have e := open_line_e (r := r) (me := me) h21; exact ⟨e.symm, fun q => h21 (e.symm.trans q)⟩) | (have e := open_ride_e (me := me) h10 (fun q : RideOk l r => by have q1 := q.time; have q2 := q.len; omega); exact ⟨e.symm, fun q => absurd (e.symm.trans q) (by decide)⟩) | (have e := open_ride_e (me := me) h10 (ride_no hx (by unfold SigOk SigIn; omega)); exact ⟨e.symm, fun q => absurd (e.symm.trans q) (by decide)⟩) | (have e := open_more_e h10 hro h156; exact ⟨e.symm, fun q => h156 (e.symm.trans q)⟩) | (have e := open_bad_e (me := me) h10 hro (by first | rfl | exact h156) (show numsF (watchL l r) = [] from List.eq_nil_of_length_eq_zero (Int.natCast_eq_zero.1 h164)); exact ⟨e.symm, fun q => absurd (e.symm.trans q) (by decide)⟩)
 replace h106 := XF h106
 refine rS (FA 0 rfl fo67_0 rfl) <| rS (L1 (Value.int .i64 x.Beam) 2 rfl tk3 rfl rfl) <| rS (FA 0 rfl fo67_0 rfl) <| rS (L1 (Value.int .i64 ((prevS r.Signals i).Beam)) 7 rfl tk3 rfl rfl) <| rS (BI rfl b_lss) <| rS (PK rfl) <| rS (MV rfl) ?_
 refine r_bool (t := 113) rfl (fun h113 => ?_) (fun h113 => ?_)
 · replace h113 := DT h113
   refine rS (OX rfl) <| rS (OX rfl) <| rS (OX rfl) <| rS (OX rfl) <| rS (OX rfl) <| rS (OX rfl) <| rS (OX rfl) <| rS (OX rfl) <| rS (OX rfl) <| rS (OX rfl) ?_
   refine rS (OX rfl) <| rS (OX rfl) <| rS (PK rfl) <| RK hK54 <| w_if_true rfl <| WS fun _ hK59 => rS (AG rfl) <| rS (AG rfl) <| RK hK59 <| w_ret ?_
   refine hQ _ _ _ (l_nil (vs := [(Value.pointer none), (Value.int .i64 51)]) ⟨rfl, rfl, trivial⟩ fun w hs => endX (false, 51, 0, none, 0, none, 0, [], [], [], none, 0, [], [], none, 0) [] ?_ ?_ rfl rfl (by first | rfl | (show List.all _ _ = true; simp only [cond_true, List.all_cons, List.all_nil, fm_wr, tm_wr, Bool.and_true]; rfl)) hs)
   · rfl
   · refine ⟨fun q => Bool.noConfusion (show false = true from q), fun _ => ?_⟩; first | (have e := open_line_e (r := r) (me := me) h21; exact ⟨e.symm, fun q => h21 (e.symm.trans q)⟩) | (have e := open_ride_e (me := me) h10 (fun q : RideOk l r => by have q1 := q.time; have q2 := q.len; omega); exact ⟨e.symm, fun q => absurd (e.symm.trans q) (by decide)⟩) | (have e := open_ride_e (me := me) h10 (ride_no hx (by unfold SigOk SigIn; omega)); exact ⟨e.symm, fun q => absurd (e.symm.trans q) (by decide)⟩) | (have e := open_more_e h10 hro h156; exact ⟨e.symm, fun q => h156 (e.symm.trans q)⟩) | (have e := open_bad_e (me := me) h10 hro (by first | rfl | exact h156) (show numsF (watchL l r) = [] from List.eq_nil_of_length_eq_zero (Int.natCast_eq_zero.1 h164)); exact ⟨e.symm, fun q => absurd (e.symm.trans q) (by decide)⟩)
 replace h113 := DF h113
 refine rS (FA 0 rfl fo67_0 rfl) <| rS (L1 (Value.int .i64 x.Beam) 2 rfl tk3 rfl rfl) <| rS (FA 0 rfl fo67_0 rfl) <| rS (L1 (Value.int .i64 ((prevS r.Signals i).Beam)) 7 rfl tk3 rfl rfl) <| rS (BI rfl b_eql) <| rS (MV rfl) ?_
 refine r_bool (t := 119) rfl (fun h119 => ?_) (fun h119 => ?_)
 rotate_left 1
 · replace h119 := DF h119
   refine rS (OX rfl) <| rS (OX rfl) <| rS (OX rfl) <| rS (OX rfl) <| rS (OX rfl) <| rS (PK rfl) <| rS (PK rfl) <| RK hK54 <| w_if_false rfl <| WK hK53 ?_
   refine w_seq fun _ hK70 => WS fun _ hK71 => rS (LW 9 rfl tk28 rfl rfl) <| rS (LW 2 rfl tk67 rfl rfl) <| rS (CL (when_c l kA kC az cA cC bA bC x hin (by first | assumption | omega | (simp; done) | (simp; omega)) (by first | assumption | omega | (simp; done) | (simp; omega))) (ha_at 10 rfl rfl <| ha_at 11 rfl rfl <| ha_at 12 rfl rfl <| ha_at 13 rfl rfl <| ha_nil) rfl) <| AL rfl tz47 fun b72 => SW0 rfl ts47 rfl <| RK hK71 <| WS fun _ hK73 => rS (FA 0 rfl fo47_0 rfl) ?_
   refine rS (L1 (Value.int .i64 ((whenF l x).Lo)) 0 rfl tk3 rfl rfl) <| rS (FA 1 rfl fo47_1 rfl) <| rS (L1 (Value.int .i64 ((whenF l x).Hi)) 0 rfl tk3 rfl rfl) <| rS (BI rfl b_leq) <| RK hK73 ?_
   refine w_if rfl (fun h134 => ?_) (fun h134 => ?_)
   rotate_left 1
   · replace h134 := DF h134
     refine WK hK70 <| w_region <| rS (LW 3 rfl tk67 rfl rfl) <| SW8 rfl ts67 rfl <| r_nil <| k_block <| KK hK50 ?_
     have hb77 : (SignalV.cells x) = (SignalV.cells (prevS r.Signals (i + 1))) := by rw [prevS_succ hx]
     rw [hb77]
     refine w_region <| rS (BI rfl (b_add ⟨by omega, by omega⟩)) <| rS (MV rfl) <| r_nil ?_
     rw [show (timesT l r.Signals i) = (timesT l r.Signals (i + 1)) from (times_skip hx h134).symm]
     have hb78 : (Value.int .i64 (((i + 1) : Nat) : Int)) = (Value.int .i64 (((i : Nat) : Int) + 1)) := by exact congrArg (Value.int .i64) (by omega)
     refine k_then (hJ46 ⟨(i + 1), ⟨by omega, sigs_succ hl15_1 hx (by unfold SigOk SigIn; omega)⟩⟩ _ _ _ rfl (by first | omega | (simp; omega)) (Sub.cons rfl <| Sub.cons rfl <| Sub.cons rfl <| Sub.cons rfl <| Sub.cons rfl <| Sub.cons rfl <| Sub.cons rfl <| Sub.cons rfl <| Sub.cons rfl <| sub_val rfl hb78 <| Sub.nil _) (fun w hs => St.sel [4, 5, 6, 7, 8, 9, 10, 11, 12, 13, 14, 15, 16, 17] rfl rfl hs))
   replace h134 := DT h134
   obtain ⟨mb, hmb⟩ : ∃ y_, (timesT l r.Signals i)[(x.Beam).toNat]? = some y_ := ⟨(timesT l r.Signals i)[(x.Beam).toNat]'(by omega), List.getElem?_eq_getElem _⟩
   obtain ⟨ga, hga⟩ : ∃ y_, fb[(x.Beam).toNat]? = some y_ := ⟨fb[(x.Beam).toNat]'(by omega), List.getElem?_eq_getElem _⟩
   refine w_out 4 hmb hga rfl rfl rfl ?_
   try dsimp only
   refine w_draw mixed 10 (by kernel_rfl) <| dS (MV rfl) <| dS (SX (sd_nil_p rfl rfl) rfl rfl) <| dS (FA 11 rfl fo117_3 rfl) <| dS (L1 (Value.slice (some ⟨b19, 0, none⟩) l.Beams.length l.Beams.length) 7 rfl tk114 rfl rfl) <| dS (FA 0 rfl fo67_0 rfl) <| dS (L1 (Value.int .i64 x.Beam) 5 rfl tk3 rfl rfl) ?_
   have hk74 : (List.map oC (fillF fb l.Beams.length))[(x.Beam).toNat]? = some (oC (some ga)) := oC_at (fillF_at hga)
   refine dS (IA ((x.Beam).toNat) rfl (has_own_n (n := l.Beams.length) 8 rfl (by first | (simp; done) | (simp; omega))) te114 (by decide) (by omega) (by omega)) <| dS (LE1 ((x.Beam).toNat) 0 (Value.map (some ga)) rfl tk120 (has_own_n (n := (fillF fb l.Beams.length).length) 8 rfl (by simp)) hk74 rfl (by decide) rfl) <| dS (MV rfl) <| dS (LW 2 rfl tk47 rfl rfl) <| d_end <| gr_mapset (kV := iV) (x := ((i : Nat) : Int)) (C' := [(gmp iV ga (gmapV spanU (gsetK mb ((i : Nat) : Int) (whenF l x)))), _, _, _, _, _, _, _, _, _, _, _, _, _, _, _, _, _, _]) 0 rfl rfl rfl rfl ut120 (gkey_int ut3) rfl (gmapV_setK _ _ _ _).symm rfl <| RK hK70 <| w_region <| rS (LW 5 rfl tk67 rfl rfl) <| SW9 rfl ts67 rfl ?_
   refine r_nil <| k_block <| KK hK50 ?_
   have hb75 : (SignalV.cells x) = (SignalV.cells (prevS r.Signals (i + 1))) := by rw [prevS_succ hx]
   rw [hb75]
   refine w_region <| rS (BI rfl (b_add ⟨by omega, by omega⟩)) <| rS (MV rfl) <| r_nil <| k_back (f := tmR) (ms := (timesT l r.Signals i)) (m := (gsetK mb ((i : Nat) : Int) (whenF l x))) 1 0 (by rw [timesT_len]; omega) hga rfl rfl rfl ?_
   rw [times_put hx (by omega) h134 hmb]
   have hb76 : (Value.int .i64 (((i + 1) : Nat) : Int)) = (Value.int .i64 (((i : Nat) : Int) + 1)) := by exact congrArg (Value.int .i64) (by omega)
   refine k_then (hJ46 ⟨(i + 1), ⟨by omega, sigs_succ hl15_1 hx (by unfold SigOk SigIn; omega)⟩⟩ _ _ _ rfl (by first | omega | (simp; omega)) (Sub.cons rfl <| Sub.cons rfl <| Sub.cons rfl <| Sub.cons rfl <| Sub.cons rfl <| Sub.cons rfl <| Sub.cons rfl <| Sub.cons rfl <| Sub.cons rfl <| sub_val rfl hb76 <| Sub.nil _) (fun w hs => St.sel [0, 5, 6, 7, 8, 9, 10, 11, 12, 13, 14, 15, 16, 17] rfl rfl hs))
 replace h119 := DT h119
 refine rS (FA 1 rfl fo67_1 rfl) <| rS (L1 (Value.int .i64 x.Read) 2 rfl tk3 rfl rfl) <| rS (FA 1 rfl fo67_1 rfl) <| rS (L1 (Value.int .i64 ((prevS r.Signals i).Read)) 7 rfl tk3 rfl rfl) <| rS (BI rfl b_leq) <| rS (PK rfl) <| rS (PK rfl) <| RK hK54 ?_
 refine w_if rfl (fun h126 => ?_) (fun h126 => ?_)
 · replace h126 := DT h126
   refine WS fun _ hK60 => rS (AG rfl) <| rS (AG rfl) <| RK hK60 <| w_ret ?_
   refine hQ _ _ _ (l_nil (vs := [(Value.pointer none), (Value.int .i64 51)]) ⟨rfl, rfl, trivial⟩ fun w hs => endX (false, 51, 0, none, 0, none, 0, [], [], [], none, 0, [], [], none, 0) [] ?_ ?_ rfl rfl (by first | rfl | (show List.all _ _ = true; simp only [cond_true, List.all_cons, List.all_nil, fm_wr, tm_wr, Bool.and_true]; rfl)) hs)
   · rfl
   · refine ⟨fun q => Bool.noConfusion (show false = true from q), fun _ => ?_⟩; first | (have e := open_line_e (r := r) (me := me) h21; exact ⟨e.symm, fun q => h21 (e.symm.trans q)⟩) | (have e := open_ride_e (me := me) h10 (fun q : RideOk l r => by have q1 := q.time; have q2 := q.len; omega); exact ⟨e.symm, fun q => absurd (e.symm.trans q) (by decide)⟩) | (have e := open_ride_e (me := me) h10 (ride_no hx (by unfold SigOk SigIn; omega)); exact ⟨e.symm, fun q => absurd (e.symm.trans q) (by decide)⟩) | (have e := open_more_e h10 hro h156; exact ⟨e.symm, fun q => h156 (e.symm.trans q)⟩) | (have e := open_bad_e (me := me) h10 hro (by first | rfl | exact h156) (show numsF (watchL l r) = [] from List.eq_nil_of_length_eq_zero (Int.natCast_eq_zero.1 h164)); exact ⟨e.symm, fun q => absurd (e.symm.trans q) (by decide)⟩)
 replace h126 := DF h126
 refine WK hK53 <| w_seq fun _ hK61 => WS fun _ hK62 => rS (LW 9 rfl tk28 rfl rfl) <| rS (LW 2 rfl tk67 rfl rfl) <| rS (CL (when_c l kA kC az cA cC bA bC x hin (by first | assumption | omega | (simp; done) | (simp; omega)) (by first | assumption | omega | (simp; done) | (simp; omega))) (ha_at 10 rfl rfl <| ha_at 11 rfl rfl <| ha_at 12 rfl rfl <| ha_at 13 rfl rfl <| ha_nil) rfl) <| AL rfl tz47 fun b63 => SW0 rfl ts47 rfl <| RK hK62 <| WS fun _ hK64 => ?_
 refine rS (FA 0 rfl fo47_0 rfl) <| rS (L1 (Value.int .i64 ((whenF l x).Lo)) 0 rfl tk3 rfl rfl) <| rS (FA 1 rfl fo47_1 rfl) <| rS (L1 (Value.int .i64 ((whenF l x).Hi)) 0 rfl tk3 rfl rfl) <| rS (BI rfl b_leq) <| RK hK64 ?_
 refine w_if rfl (fun h134 => ?_) (fun h134 => ?_)
 rotate_left 1
 · replace h134 := DF h134
   refine WK hK61 <| w_region <| rS (LW 3 rfl tk67 rfl rfl) <| SW8 rfl ts67 rfl <| r_nil <| k_block <| KK hK50 ?_
   have hb68 : (SignalV.cells x) = (SignalV.cells (prevS r.Signals (i + 1))) := by rw [prevS_succ hx]
   rw [hb68]
   refine w_region <| rS (BI rfl (b_add ⟨by omega, by omega⟩)) <| rS (MV rfl) <| r_nil ?_
   rw [show (timesT l r.Signals i) = (timesT l r.Signals (i + 1)) from (times_skip hx h134).symm]
   have hb69 : (Value.int .i64 (((i + 1) : Nat) : Int)) = (Value.int .i64 (((i : Nat) : Int) + 1)) := by exact congrArg (Value.int .i64) (by omega)
   refine k_then (hJ46 ⟨(i + 1), ⟨by omega, sigs_succ hl15_1 hx (by unfold SigOk SigIn; omega)⟩⟩ _ _ _ rfl (by first | omega | (simp; omega)) (Sub.cons rfl <| Sub.cons rfl <| Sub.cons rfl <| Sub.cons rfl <| Sub.cons rfl <| Sub.cons rfl <| Sub.cons rfl <| Sub.cons rfl <| Sub.cons rfl <| sub_val rfl hb69 <| Sub.nil _) (fun w hs => St.sel [4, 5, 6, 7, 8, 9, 10, 11, 12, 13, 14, 15, 16, 17] rfl rfl hs))
 replace h134 := DT h134
 obtain ⟨mb, hmb⟩ : ∃ y_, (timesT l r.Signals i)[(x.Beam).toNat]? = some y_ := ⟨(timesT l r.Signals i)[(x.Beam).toNat]'(by omega), List.getElem?_eq_getElem _⟩
 obtain ⟨ga, hga⟩ : ∃ y_, fb[(x.Beam).toNat]? = some y_ := ⟨fb[(x.Beam).toNat]'(by omega), List.getElem?_eq_getElem _⟩
 refine w_out 4 hmb hga rfl rfl rfl ?_
 try dsimp only
 refine w_draw mixed 10 (by kernel_rfl) <| dS (MV rfl) <| dS (SX (sd_nil_p rfl rfl) rfl rfl) <| dS (FA 11 rfl fo117_3 rfl) <| dS (L1 (Value.slice (some ⟨b19, 0, none⟩) l.Beams.length l.Beams.length) 7 rfl tk114 rfl rfl) <| dS (FA 0 rfl fo67_0 rfl) <| dS (L1 (Value.int .i64 x.Beam) 5 rfl tk3 rfl rfl) ?_
 have hk65 : (List.map oC (fillF fb l.Beams.length))[(x.Beam).toNat]? = some (oC (some ga)) := oC_at (fillF_at hga)
 refine dS (IA ((x.Beam).toNat) rfl (has_own_n (n := l.Beams.length) 8 rfl (by first | (simp; done) | (simp; omega))) te114 (by decide) (by omega) (by omega)) <| dS (LE1 ((x.Beam).toNat) 0 (Value.map (some ga)) rfl tk120 (has_own_n (n := (fillF fb l.Beams.length).length) 8 rfl (by simp)) hk65 rfl (by decide) rfl) <| dS (MV rfl) <| dS (LW 2 rfl tk47 rfl rfl) <| d_end <| gr_mapset (kV := iV) (x := ((i : Nat) : Int)) (C' := [(gmp iV ga (gmapV spanU (gsetK mb ((i : Nat) : Int) (whenF l x)))), _, _, _, _, _, _, _, _, _, _, _, _, _, _, _, _, _, _]) 0 rfl rfl rfl rfl ut120 (gkey_int ut3) rfl (gmapV_setK _ _ _ _).symm rfl <| RK hK61 <| w_region <| rS (LW 5 rfl tk67 rfl rfl) <| SW9 rfl ts67 rfl ?_
 refine r_nil <| k_block <| KK hK50 ?_
 have hb66 : (SignalV.cells x) = (SignalV.cells (prevS r.Signals (i + 1))) := by rw [prevS_succ hx]
 rw [hb66]
 refine w_region <| rS (BI rfl (b_add ⟨by omega, by omega⟩)) <| rS (MV rfl) <| r_nil <| k_back (f := tmR) (ms := (timesT l r.Signals i)) (m := (gsetK mb ((i : Nat) : Int) (whenF l x))) 1 0 (by rw [timesT_len]; omega) hga rfl rfl rfl ?_
 rw [times_put hx (by omega) h134 hmb]
 have hb67 : (Value.int .i64 (((i + 1) : Nat) : Int)) = (Value.int .i64 (((i : Nat) : Int) + 1)) := by exact congrArg (Value.int .i64) (by omega)
 refine k_then (hJ46 ⟨(i + 1), ⟨by omega, sigs_succ hl15_1 hx (by unfold SigOk SigIn; omega)⟩⟩ _ _ _ rfl (by first | omega | (simp; omega)) (Sub.cons rfl <| Sub.cons rfl <| Sub.cons rfl <| Sub.cons rfl <| Sub.cons rfl <| Sub.cons rfl <| Sub.cons rfl <| Sub.cons rfl <| Sub.cons rfl <| sub_val rfl hb67 <| Sub.nil _) (fun w hs => St.sel [0, 5, 6, 7, 8, 9, 10, 11, 12, 13, 14, 15, 16, 17] rfl rfl hs))
end
section
open Go.RowKit
set_option linter.unusedVariables false
set_option maxRecDepth 100000 in
set_option maxHeartbeats 400000 in
theorem Passed_c (l : LineM) (kA : Option Addr) (kC : Nat) (az : List RA) (cA : Option Addr) (cC : Nat) (bA : Option Addr) (bC : Nat) (r : RideM) (sgA : Option Addr) (sgC : Nat) (bq_ : Int) (hin : LineIn l az) (hsl : r.Signals.length ≤ 1000000) :
    FnV Tryz.prog 15 [(Value.agg (LineV.cells (LineV.mk (TrackV.mk (Slc.mk kA l.Track.length kC)) l.Fast (Slc.mk cA l.Clocks.length cC) (Slc.mk bA l.Beams.length bC) l.Finish l.Fakes l.Misses)).toArray), (Value.agg (RideV.cells (RideV.mk r.Start r.Now (Slc.mk sgA r.Signals.length sgC))).toArray), (Value.int .i64 bq_)] [(rd kA l.Track.length 9 (l.Track.map StretchV.cells)), (rd cA l.Clocks.length 2 (List.zipWith ClockM.cells l.Clocks az)), (bun (nest ClockM.rds l.Clocks az)), (rd bA l.Beams.length 4 (l.Beams.map BeamV.cells)), (rd sgA r.Signals.length 2 (r.Signals.map SignalV.cells))] (Value.tuple [(Value.agg (SpanV.cells (passedV l r bq_)).toArray), (Value.int .i64 (passedE l r bq_))].toArray) := by
 have htk := hin.trk
 have hck := hin.cks
 have has := hin.as_
 have hbm := hin.bms
 have hsd := hin.side
 refine fnV_of go15 Tryz.func15 rfl rfl fun w0 Q hQ hN => ?_
 try dsimp only
 refine WS fun _ hK1 => BXA rfl fun b2 => BXA rfl fun b3 => BX1 rfl rfl fun b4 => AL rfl tz47 fun b5 => rS (AG rfl) <| RK hK1 <| WS fun _ hK6 => rS (LW 3 rfl tk28 rfl rfl) <| rS (LW 2 rfl tk31 rfl rfl) ?_
 refine rS (FU rfl) <| r_bs (xs := [.tmp 17]) (cs := [(Value.func (.func 38) [].toArray [(Value.pointer (some ⟨b2, 0, none⟩)), (Value.pointer (some ⟨b4, 0, none⟩))].toArray)]) rfl te112 tz88 rfl rfl rfl rfl (by simp [Value.cells]) rfl rfl fun b7 => cX (open1_c l kA kC az cA cC bA bC r sgA sgC (Value.func (.func 38) [].toArray [(Value.pointer (some ⟨b2, 0, none⟩)), (Value.pointer (some ⟨b4, 0, none⟩))].toArray) (bun [(rd kA l.Track.length 9 (l.Track.map StretchV.cells)), (rd cA l.Clocks.length 2 (List.zipWith ClockM.cells l.Clocks az)), (bun (nest ClockM.rds l.Clocks az)), (rd bA l.Beams.length 4 (l.Beams.map BeamV.cells)), (blk b2 28 (LineV.cells (LineV.mk (TrackV.mk (Slc.mk kA l.Track.length kC)) l.Fast (Slc.mk cA l.Clocks.length cC) (Slc.mk bA l.Beams.length bC) l.Finish l.Fakes l.Misses))), (blk b4 3 [(Value.int .i64 bq_)])]) (beamE l bq_) b7 (by exact clo_of (fi := []) (ca := [(Value.pointer (some ⟨b2, 0, none⟩)), (Value.pointer (some ⟨b4, 0, none⟩))]) (fnV_bun (passed1f_c l kA kC az cA cC bA bC b2 bq_ b4 (by first | assumption | omega)) (ha_at 0 rfl rfl <| ha_at 1 rfl rfl <| ha_at 2 rfl rfl <| ha_at 3 rfl rfl <| ha_at 4 rfl rfl <| ha_at 5 rfl rfl <| ha_nil))) hin hsl) (ha_at 5 rfl rfl <| ha_at 6 rfl rfl <| ha_at 7 rfl rfl <| ha_at 8 rfl rfl <| ha_at 9 rfl rfl <| ha_cons (has_bun (ha_at 5 rfl rfl <| ha_at 6 rfl rfl <| ha_at 7 rfl rfl <| ha_at 8 rfl rfl <| ha_at 4 rfl rfl <| ha_at 2 rfl rfl <| ha_nil)) <| ha_at 0 rfl rfl <| ha_nil) rfl fun y8 hy9 => ?_
 obtain ⟨ok25, ec10, gw11, eA12, eC13, tA14, tC15, tb16, fs17, fb18, fA19, fC20, bs21, bb22, qA23, qC24⟩ := y8
 cases ok25
 · obtain ⟨hec, he⟩ := hy9.2 rfl
   try dsimp only at hec he
   subst hec
   try dsimp only [cond_true, cond_false, List.cons_append, List.nil_append]
   refine rS (MV rfl) <| rS (EX rfl) <| rS (EX rfl) <| rS (AG rfl) <| rS (AG rfl) <| RK hK6 <| w_seq fun _ hK26 => WS fun _ hK27 => rS (MV rfl) <| rS (BI rfl b_neq) ?_
   refine RK hK27 ?_
   refine w_if rfl (fun h23 => ?_) (fun h23 => ?_)
   rotate_left 1
   · replace h23 := XF h23
     exact absurd h23 he
   replace h23 := XT h23
   refine WS fun _ hK28 => rS (SX (sd_build (xs := []) (cs := (SpanV.cells (SpanV.mk 0 0))) rfl rfl (built_of tb47 rfl)) rfl rfl) <| rS (MV rfl) <| SW1 rfl ts47 rfl <| rS (AG rfl) <| RK hK28 <| w_ret ?_
   refine hQ _ _ _ (l_nil (vs := [(Value.agg (SpanV.cells (SpanV.mk 0 0)).toArray), (Value.int .i64 (openE l r (beamE l bq_)))]) ⟨⟨_, rfl, .inl ⟨_, _, tk47, at_blk (vs := (SpanV.cells (SpanV.mk 0 0))) 1 rfl rfl, rfl, rfl⟩⟩, rfl, trivial⟩ fun w hs => endV ?_ hs)
   show (Value.tuple [(Value.agg (SpanV.cells (SpanV.mk 0 0)).toArray), (Value.int .i64 (openE l r (beamE l bq_)))].toArray) = (Value.tuple [(Value.agg (SpanV.cells (passedV l r bq_)).toArray), (Value.int .i64 (passedE l r bq_))].toArray)
   clear hs w hQ hN hK28 hK27 hK26 hK6 hK1
   first | (have e := passed_bad (b := bq_) he; rw [e.1, e.2] <;> rfl) | (rw [hbq] at he ⊢; have hh : h = hullW l r b := hull_maps (hfw.min _ _ hm1) (hbw.max _ _ hm2) (hfw.keys _ _ hm1) (hbw.keys _ _ hm2) hr1 hfin hr0; first | (have e := passed_none he (hh.symm.trans h50); rw [e.1, e.2] <;> rfl) | (have e := passed_some he (fun q => h50 (hh.trans q)); rw [e.1, e.2, hh] <;> rfl))
 obtain ⟨he, hfw, hbw, hfl, hbl, htl⟩ := hy9.1 rfl
 try dsimp only [cond_true, cond_false, List.cons_append, List.nil_append]
 dsimp only at hfw hbw hfl hbl htl
 obtain ⟨h10, hro, hme, hnn⟩ := openE_zero he
 obtain ⟨htr, hok⟩ := lineE_zero h10
 have hhd := hok.head
 unfold HeadOk at hhd
 have hwo := watch_ok htr hok hro
 have hrt := hro.time
 have hrl := hro.len
 have hlel : (leasts l l.Beams.length).length = l.Beams.length := leasts_len
 have htll : (timesT l r.Signals r.Signals.length).length = l.Beams.length := timesT_len
 have hfn : fs17.length = l.Beams.length + 1 := by have := hfw.len; rw [show (watchL l r).n = l.Beams.length from leasts_len] at this; exact this
 have hbn : bs21.length = l.Beams.length + 1 := by have := hbw.len; rw [show (watchL l r).n = l.Beams.length from leasts_len] at this; exact this
 obtain ⟨hb0, hb1⟩ := beamE_zero hme
 obtain ⟨b, hbq⟩ : ∃ b : Nat, bq_ = ((b : Nat) : Int) := ⟨bq_.toNat, by omega⟩
 rw [hbq]
 refine rS (MV rfl) <| rS (EX rfl) <| rS (EX rfl) <| rS (AG rfl) <| rS (AG rfl) <| RK hK6 <| w_seq fun _ hK29 => WS fun _ hK30 => rS (MV rfl) <| rS (SX (sd_bin (r := .bool false) rfl rfl rfl b_neq) rfl rfl) ?_
 refine RK hK30 <| w_if_false rfl <| WK hK29 <| WS fun _ hK31 => rS (SX (sd_build (xs := [(0, .const (Value.int .i64 1))]) (cs := (SpanV.cells (SpanV.mk 1 0))) rfl rfl (built_of tb47 rfl)) rfl rfl) <| AL rfl tz47 fun b32 => SW0 rfl ts47 rfl <| RK hK31 <| WS fun _ hK33 => rS (LW 0 rfl tk47 rfl rfl) ?_
 refine AL rfl tz47 fun b34 => SW0 rfl ts47 rfl <| RK hK33 <| w_seq fun _ hK35 => WS fun _ hK36 => rS (MV rfl) <| rS (L1W 12 rfl tk3 rfl) ?_
 obtain ⟨mf, hm1⟩ : ∃ y_, fs17[b]? = some y_ := ⟨fs17[b]'(by omega), List.getElem?_eq_getElem _⟩
 obtain ⟨mb, hm2⟩ : ∃ y_, bs21[b + 1]? = some y_ := ⟨bs21[b + 1]'(by omega), List.getElem?_eq_getElem _⟩
 refine cX (passes_c gw11 b) (ha_nil) rfl fun y37 hy38 => ?_
 obtain ⟨x139, x240⟩ := y37
 try dsimp only
 refine RK hK36 <| w_block ?_
 refine w_rangeG (L0 := [(3, (Value.pointer (some ⟨b2, 0, none⟩))), (4, (Value.pointer (some ⟨b3, 0, none⟩))), (5, (Value.pointer (some ⟨b4, 0, none⟩))), (6, (Value.pointer (some ⟨b5, 0, none⟩))), (7, (Value.int .i64 0)), (10, (Value.pointer (some ⟨b32, 0, none⟩))), (11, (Value.pointer (some ⟨b34, 0, none⟩)))]) (F := [(own eA12 eC13 3 1 ((leasts l l.Beams.length).map iC)), (own tA14 tC15 120 1 (List.zipWith mapC (timesT l r.Signals r.Signals.length) tb16)), (bund (nest tmR (timesT l r.Signals r.Signals.length) tb16)), (own fA19 fC20 122 1 (List.zipWith mapC fs17 fb18)), (bund (nest fmR fs17 fb18)), (own qA23 qC24 122 1 (List.zipWith mapC bs21 bb22)), (bund (nest fmR bs21 bb22)), (blk gw11 117 (WatchV.cells (WatchV.mk (LineV.mk (TrackV.mk (Slc.mk kA l.Track.length kC)) l.Fast (Slc.mk cA l.Clocks.length cC) (Slc.mk bA l.Beams.length bC) l.Finish l.Fakes l.Misses) (RideV.mk r.Start r.Now (Slc.mk sgA r.Signals.length sgC)) (Slc.mk eA12 ((leasts l l.Beams.length).length) eC13) (Slc.mk tA14 ((timesT l r.Signals r.Signals.length).length) tC15) (Slc.mk fA19 fs17.length fC20) (Slc.mk qA23 bs21.length qC24)))), (blk x139 77 [(Value.pointer (some ⟨gw11, 0, none⟩))]), (blk x240 3 [(Value.int .i64 ((b : Nat) : Int))])])  (fun k (y : SpanV) => (HullOk k y) ∧ (∀ q ∈ k, q ∈ passM (watchL l r) b mf mb)) (fun k y => [(blk b34 47 (SpanV.cells y)), (blk b32 47 (SpanV.cells (SpanV.mk 1 0))), (blk b5 47 (SpanV.cells (SpanV.mk 0 0))), (blk b4 3 [(Value.int .i64 ((b : Nat) : Int))]), (blk b3 31 (RideV.cells (RideV.mk r.Start r.Now (Slc.mk sgA r.Signals.length sgC)))), (blk b2 28 (LineV.cells (LineV.mk (TrackV.mk (Slc.mk kA l.Track.length kC)) l.Fast (Slc.mk cA l.Clocks.length cC) (Slc.mk bA l.Beams.length bC) l.Finish l.Fakes l.Misses))), (rd kA l.Track.length 9 (l.Track.map StretchV.cells)).ro, (rd cA l.Clocks.length 2 (List.zipWith ClockM.cells l.Clocks az)).ro, (bun (nest ClockM.rds l.Clocks az)).ro, (rd bA l.Beams.length 4 (l.Beams.map BeamV.cells)).ro, (rd sgA r.Signals.length 2 (r.Signals.map SignalV.cells)).ro]) (fun _ (_ : Unit) => False) (fun _ _ => []) [2, 3, 13, 14, 15, 16, 17, 18, 19, 20, 21] [5, 6, 7, 8, 9, 10, 11, 4, 0, 1] noneZ rfl rfl (passes1_c (LineV.mk (TrackV.mk (Slc.mk kA l.Track.length kC)) l.Fast (Slc.mk cA l.Clocks.length cC) (Slc.mk bA l.Beams.length bC) l.Finish l.Fakes l.Misses) (RideV.mk r.Start r.Now (Slc.mk sgA r.Signals.length sgC)) (leasts l l.Beams.length) (timesT l r.Signals r.Signals.length) eA12 eC13 tb16 tA14 tC15 fs17 bs21 fb18 fA19 fC20 bb22 qA23 qC24 gw11 b x139 x240 mf mb (by rw [hlel]; omega) (by exact hwo) (by rw [htll]; omega) (by exact hfw) (by omega) (by exact hbw) (by omega) (by show r.Signals.length ≤ 1000; omega) (by exact hm1) (by exact hm2)) rfl rfl rfl (by exact ⟨hull_nil, fun q hq => by cases hq⟩) (by simp only [List.forall_mem_cons, List.not_mem_nil, false_imp_iff, implies_true, and_true]; exact ⟨⟨_, List.mem_of_getElem? (i := 0) rfl, (cov_own_n (by simp))⟩, ⟨_, List.mem_of_getElem? (i := 1) rfl, (cov_own_n (by rw [List.length_zipWith]; omega))⟩, ⟨_, List.mem_of_getElem? (i := 2) rfl, cov_bund⟩, ⟨_, List.mem_of_getElem? (i := 3) rfl, (cov_own_n (by rw [List.length_zipWith]; omega))⟩, ⟨_, List.mem_of_getElem? (i := 4) rfl, cov_bund⟩, ⟨_, List.mem_of_getElem? (i := 5) rfl, (cov_own_n (by rw [List.length_zipWith]; omega))⟩, ⟨_, List.mem_of_getElem? (i := 6) rfl, cov_bund⟩, ⟨_, List.mem_of_getElem? (i := 7) rfl, (cov_refl _)⟩, ⟨_, List.mem_of_getElem? (i := 8) rfl, (cov_refl _)⟩, ⟨_, List.mem_of_getElem? (i := 9) rfl, (cov_refl _)⟩⟩) (by rintro k x k2 ⟨o, _, rfl, _⟩; rfl) rfl (Sub.cons rfl <| Sub.cons rfl <| Sub.cons rfl <| Sub.cons rfl <| Sub.cons rfl <| Sub.cons rfl <| Sub.cons rfl <| Sub.nil _) ?_ ?_ (fun _ _ _ h => h.elim) (fun _ _ h => h.elim)
 · rintro k x k2 h lr ra rb S w1 K41 Qr42 hsz hx hin43 hK41 hQr42 xQr42 yQr42
   obtain ⟨q, hq, rfl, rfl⟩ := hx
   obtain ⟨hr0, hr1⟩ := hin43
   try dsimp only
   refine w_region <| AL rfl tz47 fun b44 => SW0 rfl ts47 rfl <| r_nil <| k_sub (fun _ _ h => h) (fun w hs => St.sel [1, 0, 2, 3, 4, 5, 6, 7, 8, 9, 10, 11, 12] rfl rfl hs) ?_
   refine k_then (hK41 _ _ ?_)
   refine w_block <| w_seq fun _ hK45 => WS fun _ hK46 => rS (LW 2 rfl tk47 rfl rfl) <| rS (LW 3 rfl tk47 rfl rfl) <| rS (BI rfl (nes47 _ _ h (SpanV.mk 1 0))) <| RK hK46 ?_
   refine w_if rfl (fun h35 => ?_) (fun h35 => ?_)
   rotate_left 1
   · replace h35 := XF h35
     refine WK hK45 <| w_region <| rS (LW 1 rfl tk47 rfl rfl) <| SW2 rfl ts47 rfl <| r_nil <| k_block ?_
     exact hQr42 q.2 _ _ (by refine ⟨hull_next hr0 (pass_le hq) ?_, fun z hz => ?_⟩; (first | exact if_neg h35 | exact if_pos h35); (rcases List.mem_append.1 hz with hz | hz; exact hr1 z hz; (rw [List.mem_singleton.1 hz]; exact hq))) (fun w hs => St.sel [0, 2, 3, 4, 5, 6, 7, 8, 9, 10, 11, 12] rfl rfl hs)
   replace h35 := XT h35
   refine w_region <| rS (FA 0 rfl fo47_0 rfl) <| rS (L1 (Value.int .i64 q.2.Lo) 1 rfl tk3 rfl rfl) <| rS (FA 0 rfl fo47_0 rfl) <| rS (L1 (Value.int .i64 h.Lo) 2 rfl tk3 rfl rfl) <| rS (MN rfl) <| rS (FA 1 rfl fo47_1 rfl) <| rS (L1 (Value.int .i64 q.2.Hi) 1 rfl tk3 rfl rfl) <| rS (FA 1 rfl fo47_1 rfl) <| rS (L1 (Value.int .i64 h.Hi) 2 rfl tk3 rfl rfl) ?_
   refine rS (MX rfl) <| rS (SX (sd_build (xs := [(0, .tmp 40), (1, .tmp 45)]) (cs := (SpanV.cells (SpanV.mk (min q.2.Lo h.Lo) (max q.2.Hi h.Hi)))) rfl rfl (built_of tb47 rfl)) rfl rfl) <| SW1 rfl ts47 rfl <| RK hK45 <| w_region <| rS (LW 1 rfl tk47 rfl rfl) <| SW2 rfl ts47 rfl <| r_nil <| k_block ?_
   exact hQr42 (SpanV.mk (min q.2.Lo h.Lo) (max q.2.Hi h.Hi)) _ _ (by refine ⟨hull_next hr0 (pass_le hq) ?_, fun z hz => ?_⟩; (first | exact if_neg h35 | exact if_pos h35); (rcases List.mem_append.1 hz with hz | hz; exact hr1 z hz; (rw [List.mem_singleton.1 hz]; exact hq))) (fun w hs => St.sel [0, 2, 3, 4, 5, 6, 7, 8, 9, 10, 11, 12] rfl rfl hs)
 rintro r47 k h hfin hin48
 obtain ⟨hr0, hr1⟩ := hin48
 try dsimp only
 refine k_block <| KK hK35 <| w_seq fun _ hK49 => WS fun _ hK50 => rS (LW 11 rfl tk47 rfl rfl) <| rS (LW 12 rfl tk47 rfl rfl) <| rS (BI rfl (eqs47 _ _ h (SpanV.mk 1 0))) <| RK hK50 ?_
 refine w_if rfl (fun h50 => ?_) (fun h50 => ?_)
 rotate_left 1
 · replace h50 := DF h50
   refine WK hK49 <| WS fun _ hK52 => rS (LW 11 rfl tk47 rfl rfl) <| r_store (vs := (SpanV.cells h)) (cs' := (SpanV.cells h)) (C' := [_, _, _, _, _, _, _, _, _, _, _, _, _, (blk b5 47 (SpanV.cells h)), _, _, _, _, _, _, _, _]) 13 rfl rfl rfl ts47 rfl rfl rfl rfl rfl rfl rfl <| rS (AG rfl) <| RK hK52 <| w_ret ?_
   refine hQ _ _ _ (l_mark 0 rfl rfl <| l_nil (vs := [(Value.agg (SpanV.cells h).toArray), (Value.int .i64 0)]) ⟨⟨_, rfl, .inl ⟨_, _, tk47, at_blk (vs := (SpanV.cells h)) 13 rfl rfl, rfl, rfl⟩⟩, rfl, trivial⟩ fun w hs => endV ?_ hs)
   show (Value.tuple [(Value.agg (SpanV.cells h).toArray), (Value.int .i64 0)].toArray) = (Value.tuple [(Value.agg (SpanV.cells (passedV l r bq_)).toArray), (Value.int .i64 (passedE l r bq_))].toArray)
   clear hs w hQ hN hK52 hK50 hK49 hK36 hK35 hK33 hK31 hK30 hK29 hK6 hK1
   first | (have e := passed_bad (b := bq_) he; rw [e.1, e.2] <;> rfl) | (rw [hbq] at he ⊢; have hh : h = hullW l r b := hull_maps (hfw.min _ _ hm1) (hbw.max _ _ hm2) (hfw.keys _ _ hm1) (hbw.keys _ _ hm2) hr1 hfin hr0; first | (have e := passed_none he (hh.symm.trans h50); rw [e.1, e.2] <;> rfl) | (have e := passed_some he (fun q => h50 (hh.trans q)); rw [e.1, e.2, hh] <;> rfl))
 replace h50 := DT h50
 refine WS fun _ hK51 => rS (SX (sd_build (xs := []) (cs := (SpanV.cells (SpanV.mk 0 0))) rfl rfl (built_of tb47 rfl)) rfl rfl) <| r_store (vs := (SpanV.cells (SpanV.mk 0 0))) (cs' := (SpanV.cells (SpanV.mk 0 0))) (C' := [_, _, _, _, _, _, _, _, _, _, _, _, _, (blk b5 47 (SpanV.cells (SpanV.mk 0 0))), _, _, _, _, _, _, _, _]) 13 rfl rfl rfl ts47 rfl rfl rfl rfl rfl rfl rfl <| rS (AG rfl) <| RK hK51 <| w_ret ?_
 refine hQ _ _ _ (l_mark 0 rfl rfl <| l_nil (vs := [(Value.agg (SpanV.cells (SpanV.mk 0 0)).toArray), (Value.int .i64 6)]) ⟨⟨_, rfl, .inl ⟨_, _, tk47, at_blk (vs := (SpanV.cells (SpanV.mk 0 0))) 13 rfl rfl, rfl, rfl⟩⟩, rfl, trivial⟩ fun w hs => endV ?_ hs)
 show (Value.tuple [(Value.agg (SpanV.cells (SpanV.mk 0 0)).toArray), (Value.int .i64 6)].toArray) = (Value.tuple [(Value.agg (SpanV.cells (passedV l r bq_)).toArray), (Value.int .i64 (passedE l r bq_))].toArray)
 clear hs w hQ hN hK51 hK50 hK49 hK36 hK35 hK33 hK31 hK30 hK29 hK6 hK1
 first | (have e := passed_bad (b := bq_) he; rw [e.1, e.2] <;> rfl) | (rw [hbq] at he ⊢; have hh : h = hullW l r b := hull_maps (hfw.min _ _ hm1) (hbw.max _ _ hm2) (hfw.keys _ _ hm1) (hbw.keys _ _ hm2) hr1 hfin hr0; first | (have e := passed_none he (hh.symm.trans h50); rw [e.1, e.2] <;> rfl) | (have e := passed_some he (fun q => h50 (hh.trans q)); rw [e.1, e.2, hh] <;> rfl))
set_option maxRecDepth 100000 in
set_option maxHeartbeats 400000 in
theorem Ran_c (l : LineM) (kA : Option Addr) (kC : Nat) (az : List RA) (cA : Option Addr) (cC : Nat) (bA : Option Addr) (bC : Nat) (r : RideM) (sgA : Option Addr) (sgC : Nat) (hin : LineIn l az) (hsl : r.Signals.length ≤ 1000000) :
    FnV Tryz.prog 17 [(Value.agg (LineV.cells (LineV.mk (TrackV.mk (Slc.mk kA l.Track.length kC)) l.Fast (Slc.mk cA l.Clocks.length cC) (Slc.mk bA l.Beams.length bC) l.Finish l.Fakes l.Misses)).toArray), (Value.agg (RideV.cells (RideV.mk r.Start r.Now (Slc.mk sgA r.Signals.length sgC))).toArray)] [(rd kA l.Track.length 9 (l.Track.map StretchV.cells)), (rd cA l.Clocks.length 2 (List.zipWith ClockM.cells l.Clocks az)), (bun (nest ClockM.rds l.Clocks az)), (rd bA l.Beams.length 4 (l.Beams.map BeamV.cells)), (rd sgA r.Signals.length 2 (r.Signals.map SignalV.cells))] (Value.tuple [(Value.agg (SpanV.cells (ranV l r)).toArray), (Value.int .i64 (passedE l r l.Finish))].toArray) := by
 have htk := hin.trk
 have hck := hin.cks
 have has := hin.as_
 have hbm := hin.bms
 have hsd := hin.side
 refine fnV_of go17 Tryz.func17 rfl rfl fun w0 Q hQ hN => ?_
 try dsimp only
 refine WS fun _ hK1 => BXA rfl fun b2 => BXA rfl fun b3 => AL rfl tz47 fun b4 => rS (AG rfl) <| RK hK1 <| WS fun _ hK5 => rS (LW 2 rfl tk28 rfl rfl) <| rS (LW 1 rfl tk31 rfl rfl) <| rS (FA 4 rfl fo28_4 rfl) ?_
 refine rS (L1 (Value.int .i64 l.Finish) 2 rfl tk3 rfl rfl) <| rS (CL (Passed_c l kA kC az cA cC bA bC r sgA sgC l.Finish hin hsl) (ha_at 3 rfl rfl <| ha_at 4 rfl rfl <| ha_at 5 rfl rfl <| ha_at 6 rfl rfl <| ha_at 7 rfl rfl <| ha_nil) rfl) <| rS (MV rfl) <| rS (EX rfl) <| rS (EX rfl) <| AL rfl tz47 fun b6 => SW0 rfl ts47 rfl <| rS (AG rfl) <| RK hK5 <| w_seq fun _ hK7 => ?_
 refine WS fun _ hK8 => rS (MV rfl) <| rS (BI rfl b_neq) <| RK hK8 ?_
 refine w_if rfl (fun h17 => ?_) (fun h17 => ?_)
 · replace h17 := XT h17
   refine WS fun _ hK9 => rS (SX (sd_build (xs := []) (cs := (SpanV.cells (SpanV.mk 0 0))) rfl rfl (built_of tb47 rfl)) rfl rfl) <| rS (MV rfl) <| SW1 rfl ts47 rfl <| rS (AG rfl) <| RK hK9 <| w_ret ?_
   refine hQ _ _ _ (l_nil (vs := [(Value.agg (SpanV.cells (SpanV.mk 0 0)).toArray), (Value.int .i64 (passedE l r l.Finish))]) ⟨⟨_, rfl, .inl ⟨_, _, tk47, at_blk (vs := (SpanV.cells (SpanV.mk 0 0))) 1 rfl rfl, rfl, rfl⟩⟩, rfl, trivial⟩ fun w hs => endV ?_ hs)
   show (Value.tuple [(Value.agg (SpanV.cells (SpanV.mk 0 0)).toArray), (Value.int .i64 (passedE l r l.Finish))].toArray) = (Value.tuple [(Value.agg (SpanV.cells (ranV l r)).toArray), (Value.int .i64 (passedE l r l.Finish))].toArray)
   clear hs w hQ hN hK9 hK8 hK7 hK5 hK1
   first | (rw [ran_no h17] <;> rfl) | (rw [ran_ok h17, h17] <;> rfl)
 replace h17 := XF h17
 refine WK hK7 <| WS fun _ hK10 => rS (FA 0 rfl fo47_0 rfl) <| rS (L1 (Value.int .i64 ((passedV l r l.Finish).Lo)) 0 rfl tk3 rfl rfl) <| rS (FA 0 rfl fo31_0 rfl) <| rS (L1 (Value.int .i64 r.Start) 2 rfl tk3 rfl rfl) ?_
 have hpb := passed_b h17
 have hpr := (passed_ride h17).time
 refine rS (BI rfl (b_sub ⟨by omega, by omega⟩)) <| rS (FA 1 rfl fo47_1 rfl) <| rS (L1 (Value.int .i64 ((passedV l r l.Finish).Hi)) 0 rfl tk3 rfl rfl) <| rS (FA 0 rfl fo31_0 rfl) <| rS (L1 (Value.int .i64 r.Start) 2 rfl tk3 rfl rfl) <| rS (BI rfl (b_sub ⟨by omega, by omega⟩)) <| rS (SX (sd_build (xs := [(0, .tmp 24), (1, .tmp 29)]) (cs := (SpanV.cells (SpanV.mk (((passedV l r l.Finish).Lo) - r.Start) (((passedV l r l.Finish).Hi) - r.Start)))) rfl rfl (built_of tb47 rfl)) rfl rfl) <| SW1 rfl ts47 rfl <| rS (AG rfl) <| RK hK10 ?_
 refine w_ret ?_
 refine hQ _ _ _ (l_nil (vs := [(Value.agg (SpanV.cells (SpanV.mk (((passedV l r l.Finish).Lo) - r.Start) (((passedV l r l.Finish).Hi) - r.Start))).toArray), (Value.int .i64 0)]) ⟨⟨_, rfl, .inl ⟨_, _, tk47, at_blk (vs := (SpanV.cells (SpanV.mk (((passedV l r l.Finish).Lo) - r.Start) (((passedV l r l.Finish).Hi) - r.Start)))) 1 rfl rfl, rfl, rfl⟩⟩, rfl, trivial⟩ fun w hs => endV ?_ hs)
 show (Value.tuple [(Value.agg (SpanV.cells (SpanV.mk (((passedV l r l.Finish).Lo) - r.Start) (((passedV l r l.Finish).Hi) - r.Start))).toArray), (Value.int .i64 0)].toArray) = (Value.tuple [(Value.agg (SpanV.cells (ranV l r)).toArray), (Value.int .i64 (passedE l r l.Finish))].toArray)
 clear hs w hQ hN hK10 hK8 hK7 hK5 hK1
 first | (rw [ran_no h17] <;> rfl) | (rw [ran_ok h17, h17] <;> rfl)
end
section
open Go.RowKit
set_option linter.unusedVariables false
section
variable {K : Type} [DecidableEq K] {kV : K → Value}
variable {E : Env} {ops : Array Oper} {Q : Post} {rest : List Oper} {D : List Deferred} {L : List (Nat × Value)} {C : List Assn}
variable {ty : TypeId} {ps : String} {af : Array Edge} {g : Option (Nat × Bool)}
theorem gr_mapdel0 {t kt et : TypeId} {xm xk : Operand} {ts : Array TypeId} {b : Nat} {x : K} {m m' : List (K × Value)} {C' : List Assn} (i : Nat) (hg : gOn ops L g = true) (hm : ev L xm = some (.map (some b))) (hk : ev L xk = some (kV x)) (hts : ts[0]? = some t)
    (ht : E.P.underlying t = some (.map kt et)) (hkt : GKey E.P kt kV) (hC : C[i]? = some (gmp kV b m)) (hm' : gdelK m x = m') (hC' : C.set i (gmp kV b m') = C') (k : RJ E ops Q rest D L C') :
    RJ E ops Q (⟨none, .call { callee := .builtin .delete, args := #[xm, xk], argTypes := ts }, ty, ps, af, g⟩ :: rest) D L C := by
  subst hm' hC'
  intro a w hfr hs
  unfold wpL
  rw [if_pos (gOn_wanted hfr hg)]
  obtain ⟨es, c, he, hi⟩ := hs.holds _ (List.mem_of_getElem? hC)
  have hget : (getObj b).run E.P w = .ok (.map es c) w := MapKept.run_getObj_map he
  rcases grun_find (P := E.P) (w := w) (x := x) hkt hi with ⟨h1, h2⟩ | ⟨j, v0, h1, h2, h3⟩
  · refine wp_value (v := .tuple #[]) (w' := { w with heap := w.heap.setIfInBounds b (.map es c) }) (by simp) ?_ ?_
    · simp [execOp, resolve, invoke, builtin, hfr.ev hm, hfr.ev hk, Builtin.delete_, hts, run_underlying ht, hget, grun_check hkt, h1, MapKept.run_setObj_map _ he]
    · refine k _ _ ⟨hfr.defers, hfr.size, hfr.at_⟩ (hs.upd (b := b) i hC rfl rfl (keeps_set _) (fun _ h => h) ⟨_, _, heap_set he, ?_⟩)
      rw [gdelK_self h2]; exact hi
  · refine wp_value (v := .tuple #[]) (w' := { w with heap := w.heap.setIfInBounds b (.map (es.eraseIdxIfInBounds j) c) }) (by simp) ?_ ?_
    · simp [execOp, resolve, invoke, builtin, hfr.ev hm, hfr.ev hk, Builtin.delete_, hts, run_underlying ht, hget, grun_check hkt, h1, MapKept.run_setObj_map _ he]
    · exact k _ _ ⟨hfr.defers, hfr.size, hfr.at_⟩ (hs.upd (b := b) i hC rfl rfl (keeps_set _) (fun _ h => h) ⟨_, _, heap_set he, hi.del h2⟩)
end
end
section
open Go.RowKit
set_option linter.unusedVariables false
set_option maxRecDepth 100000 in
set_option maxHeartbeats 400000 in
theorem isnan_c (x : Int) :
    FnV Tryz.prog 129 [(Value.int .i64 x)] [] (Value.bool false) := by
 refine fnV_of go129 Tryz.func129 rfl rfl fun w0 Q hQ hN => ?_
 try dsimp only
 refine WS fun _ hK1 => rS (AG rfl) <| RK hK1 <| WS fun _ hK2 => rS (MV rfl) <| rS (MV rfl) <| rS (BI rfl b_neq) <| rS (AG rfl) <| RK hK2 <| w_ret ?_
 refine Q1 hQ rfl rfl rfl ?_
 simp
set_option maxRecDepth 100000 in
set_option maxHeartbeats 400000 in
theorem cless_c (x : Int) (y : Int) :
    FnV Tryz.prog 99 [(Value.int .i64 x), (Value.int .i64 y)] [] (Value.bool (decide (x < y))) := by
 refine fnV_of go99 Tryz.func99 rfl rfl fun w0 Q hQ hN => ?_
 try dsimp only
 refine WS fun _ hK1 => rS (AG rfl) <| RK hK1 <| WS fun _ hK2 => rS (MV rfl) <| rS (CL (isnan_c x) (ha_nil) rfl) <| rS (MV rfl) <| rS (OX rfl) <| rS (OX rfl) <| rS (OX rfl) ?_
 refine rS (PK rfl) <| rS (MV rfl) <| rS (MV rfl) <| rS (MV rfl) <| rS (BI rfl b_lss) <| rS (PK rfl) <| rS (AG rfl) <| RK hK2 <| w_ret <| Q1 hQ rfl rfl rfl ?_
 exact congrArg Value.bool (decide_eq_decide.2 (by omega))
set_option maxRecDepth 100000 in
set_option maxHeartbeats 400000 in
theorem inssort_c (l : List Int) (lA : Option Addr) (lC : Nat) (hlen : l.length ≤ 1000000) :
    FnM Tryz.prog 93 [(Value.slice lA l.length lC), (Value.int .i64 0), (Value.int .i64 ((l.length : Nat) : Int))] [] (own lA lC 3 1 (l.map iC)) (fun (x : (List Int)) => (Value.tuple [].toArray)) (fun (x : (List Int)) => x.Perm l ∧ x.Pairwise (· ≤ ·)) (fun (x : (List Int)) => (own lA lC 3 1 (x.map iC))) := by
 refine fnM_of go93 Tryz.func93 rfl rfl fun w0 Q hQ hN => ?_
 try dsimp only
 refine WS fun _ hK1 => rS (MV rfl) <| rS (SX (sd_bin (r := .int .i64 1) rfl rfl rfl (b_add ⟨by decide, by decide⟩)) rfl rfl) <| rS (AG rfl) <| RK hK1 <| w_block ?_
 have hinit : (1 ≤ 1 ∧ (1 ≤ l.length ∨ 1 = 1)) ∧ (l.length = l.length) ∧ (l.Perm l) ∧ (Srt l 1) := by exact ⟨by omega, rfl, List.Perm.refl _, srt_one⟩
 refine w_loop (ι := { z : Nat × (List Int) // (1 ≤ z.1 ∧ (z.1 ≤ l.length ∨ z.1 = 1)) ∧ (z.2.length = l.length) ∧ (z.2.Perm l) ∧ (Srt z.2 z.1) }) (fun z => [(0, (Value.slice lA l.length lC)), (1, (Value.int .i64 0)), (2, (Value.int .i64 ((l.length : Nat) : Int))), (6, (Value.int .i64 (z.1.1 : Int)))]) (fun z => [(own lA lC 3 1 (z.1.2.map iC))]) (fun z => l.length - z.1.1) ⟨(1, l), hinit⟩ (Sub.cons rfl <| Sub.cons rfl <| Sub.cons rfl <| Sub.cons rfl <| Sub.nil _) (fun w hs => St.sel [0] rfl rfl hs) ?_
 clear hinit
 rintro ⟨⟨i, m⟩, ⟨hl1_0, hl1_1, hl1_2, hl1_3⟩⟩ J2 hJ2
 try dsimp only at hl1_0 hl1_1 hl1_2 hl1_3
 try dsimp only
 refine w_seq fun _ hK3 => WS fun _ hK4 => rS (MV rfl) <| rS (MV rfl) <| rS (BI rfl b_lss) <| RK hK4 ?_
 refine w_if rfl (fun h5 => ?_) (fun h5 => ?_)
 rotate_left 1
 · replace h5 := DF h5
   refine w_exit <| k_exit_then <| k_exit_then <| k_exit_same ?_
   refine hN _ _ _ (l_nil (vs := []) trivial fun w hs => endM m 0 ?_ ?_ rfl rfl hs)
   · clear hs w hQ hN hK4 hK3 hK1; rfl
   · clear hs w hQ hN hK4 hK3 hK1; exact ⟨hl1_2, srt_all hl1_3 (by omega)⟩
 replace h5 := DT h5
 refine WK hK3 <| w_seq fun _ hK6 => w_block <| WS fun _ hK7 => rS (MV rfl) <| rS (AG rfl) <| RK hK7 <| w_block ?_
 have hinit : (i ≤ i) ∧ (m.length = l.length) ∧ (m.Perm l) ∧ (Ins m i i) := by exact ⟨Nat.le_refl _, hl1_1, hl1_2, ins_start hl1_3 (by omega)⟩
 refine w_loop (ι := { z : Nat × (List Int) // (z.1 ≤ i) ∧ (z.2.length = l.length) ∧ (z.2.Perm l) ∧ (Ins z.2 i z.1) }) (fun z => [(0, (Value.slice lA l.length lC)), (1, (Value.int .i64 0)), (2, (Value.int .i64 ((l.length : Nat) : Int))), (6, (Value.int .i64 (i : Int))), (7, (Value.int .i64 ((z.1.1 : Nat) : Int)))]) (fun z => [(own lA lC 3 1 (z.1.2.map iC))]) (fun z => z.1.1) ⟨(i, m), hinit⟩ (Sub.cons rfl <| Sub.cons rfl <| Sub.cons rfl <| Sub.cons rfl <| Sub.cons rfl <| Sub.nil _) (fun w hs => St.sel [0] rfl rfl hs) ?_
 clear hinit
 rintro ⟨⟨j, q⟩, ⟨hl4_0, hl4_1, hl4_2, hl4_3⟩⟩ J8 hJ8
 try dsimp only at hl4_0 hl4_1 hl4_2 hl4_3
 try dsimp only
 refine w_seq fun _ hK9 => w_seq fun _ hK10 => w_draw mixed 15 (by kernel_rfl) <| dS (MV rfl) <| dS (MV rfl) <| dS (BI rfl b_gtr) <| dS (MV rfl) ?_
 refine d_bool (t := 19) rfl (fun hj => ?_) (fun hj => ?_)
 rotate_left 1
 · replace hj := DF hj
   refine dS (OX rfl) <| dS (OX rfl) <| dS (OX rfl) <| dS (OX rfl) <| dS (OX rfl) <| dS (OX rfl) <| dS (OX rfl) <| dS (OX rfl) <| dS (OX rfl) <| dS (OX rfl) ?_
   refine dS (PK rfl) <| d_end <| RK hK10 <| w_if_false rfl <| w_exit <| k_exit_then <| k_exit_then <| k_exit_same <| k_block <| KK hK6 ?_
   refine w_region <| rS (MV rfl) <| rS (BI rfl (b_add ⟨by omega, by omega⟩)) <| rS (AG rfl) <| r_nil ?_
   refine k_then (hJ2 ⟨((i + 1), q), ⟨by omega, hl4_1, hl4_2, by first | exact ins_zero (by omega) hl4_3 | exact ins_stop hx hy (by omega) hl4_0 hless hl4_3⟩⟩ _ _ _ rfl (by simp only []; omega) (Sub.cons rfl <| Sub.cons rfl <| Sub.cons rfl <| Sub.cons rfl <| Sub.nil _) (fun w hs => St.sel [0] rfl rfl hs))
 replace hj := DT hj
 refine dS (MV rfl) <| dS (MV rfl) ?_
 obtain ⟨x, hx⟩ : ∃ y_, q[j]? = some y_ := ⟨q[j]'(by omega), List.getElem?_eq_getElem _⟩
 have hxm : (q.map iC)[j]? = some (iC x) := by rw [List.getElem?_map, hx]; rfl
 refine dS (IA j rfl (has_own_n (n := l.length) 0 rfl (by first | (simp; done) | (simp; omega))) te35 (by decide) (by omega) (by omega)) <| dS (LE1 j 0 (Value.int .i64 x) rfl tk3 (has_own_n (n := q.length) 0 rfl (by simp)) hxm rfl (by decide) rfl) <| dS (MV rfl) <| dS (MV rfl) <| dS (BI rfl (b_sub ⟨by omega, by omega⟩)) ?_
 obtain ⟨y, hy⟩ : ∃ y_, q[(j - 1)]? = some y_ := ⟨q[(j - 1)]'(by omega), List.getElem?_eq_getElem _⟩
 have hym : (q.map iC)[(j - 1)]? = some (iC y) := by rw [List.getElem?_map, hy]; rfl
 refine dS (IA (j - 1) rfl (has_own_n (n := l.length) 0 rfl (by first | (simp; done) | (simp; omega))) te35 (by decide) (by omega) (by omega)) <| dS (LE1 (j - 1) 0 (Value.int .i64 y) rfl tk3 (has_own_n (n := q.length) 0 rfl (by simp)) hym rfl (by decide) rfl) <| dS (CL (cless_c x y) (ha_nil) rfl) <| dS (PK rfl) <| d_end <| RK hK10 ?_
 refine w_if rfl (fun hless => ?_) (fun hless => ?_)
 rotate_left 1
 · replace hless := DF hless
   refine w_exit <| k_exit_then <| k_exit_then <| k_exit_same <| k_block <| KK hK6 <| w_region <| rS (MV rfl) <| rS (BI rfl (b_add ⟨by omega, by omega⟩)) <| rS (AG rfl) ?_
   refine r_nil ?_
   refine k_then (hJ2 ⟨((i + 1), q), ⟨by omega, hl4_1, hl4_2, by first | exact ins_zero (by omega) hl4_3 | exact ins_stop hx hy (by omega) hl4_0 hless hl4_3⟩⟩ _ _ _ rfl (by simp only []; omega) (Sub.cons rfl <| Sub.cons rfl <| Sub.cons rfl <| Sub.cons rfl <| Sub.nil _) (fun w hs => St.sel [0] rfl rfl hs))
 replace hless := DT hless
 refine WK hK9 <| w_seq fun _ hK11 => w_block <| w_draw4 mixed [0, 1, 2, 3, 4, 5, 6, 7, 8, 9, 10, 11, 12, 13, 14] [15, 16, 17] [false, false, false, false, false, false, false, false, true, true, false, false, true, true, true] [false, false, false] [] [(own lA lC 3 1 (q.map iC))] (by kernel_rfl) (fun w hs => St.sel [] rfl rfl hs) (fun w hs => St.sel [0] rfl rfl hs) <| eS rfl (MV rfl) <| eS rfl (MV rfl) <| eS rfl (MV rfl) <| eS rfl (MV rfl) <| eS rfl (BI rfl (b_sub ⟨by omega, by omega⟩)) <| eS rfl (MV rfl) ?_
 refine eS rfl (MV rfl) <| eS rfl (BI rfl (b_sub ⟨by omega, by omega⟩)) <| fS rfl (IA (j - 1) rfl (has_own_n (n := l.length) 0 rfl (by first | (simp; done) | (simp; omega))) te35 (by decide) (by omega) (by omega)) <| fS rfl (LE1 (j - 1) 0 (Value.int .i64 y) rfl tk3 (has_own_n (n := q.length) 0 rfl (by simp)) hym rfl (by decide) rfl) <| eS rfl (MV rfl) <| eS rfl (MV rfl) <| fS rfl (IA j rfl (has_own_n (n := l.length) 0 rfl (by first | (simp; done) | (simp; omega))) te35 (by decide) (by omega) (by omega)) <| fS rfl (LE1 j 0 (Value.int .i64 x) rfl tk3 (has_own_n (n := q.length) 0 rfl (by simp)) hxm rfl (by decide) rfl) <| fS rfl (IA j rfl (has_own_n (n := l.length) 0 rfl (by first | (simp; done) | (simp; omega))) te35 (by decide) (by omega) (by omega)) <| d_fin rfl ?_
 refine t_cons rfl fun T12 hT12 => r_store_own (k := j) (o := 0) (vs := [(Value.int .i64 y)]) (es' := (List.map iC (q.set j y))) (C' := [(own lA lC 3 1 (List.map iC (q.set j y)))]) 0 rfl rfl rfl ts3 rfl rfl rfl rfl hxm rfl (by decide) (by exact (List.map_set (f := iC) (l := q) (i := j) (a := y)).symm) rfl <| RN hT12 [] rfl rfl <| t_cons rfl fun T13 hT13 => ?_
 obtain ⟨x14, hx15⟩ : ∃ y_, (q.set j y)[(j - 1)]? = some y_ := ⟨(q.set j y)[(j - 1)]'(by first | omega | (simp; omega)), List.getElem?_eq_getElem _⟩
 have hx15m : (List.map iC (q.set j y))[(j - 1)]? = some (iC x14) := by rw [List.getElem?_map, hx15]; rfl
 refine rS (IA (j - 1) rfl (has_own_n (n := l.length) 0 rfl (by first | (simp; done) | (simp; omega))) te35 (by decide) (by omega) (by omega)) <| RN hT13 [] rfl rfl <| t_cons rfl fun T16 hT16 => r_store_own (k := (j - 1)) (o := 0) (vs := [(Value.int .i64 x)]) (es' := (List.map iC ((q.set j y).set (j - 1) x))) (C' := [(own lA lC 3 1 (List.map iC ((q.set j y).set (j - 1) x)))]) 0 rfl rfl rfl ts3 rfl rfl rfl rfl hx15m rfl (by decide) (by exact (List.map_set (f := iC) (l := (q.set j y)) (i := (j - 1)) (a := x)).symm) rfl <| RN hT16 [] rfl rfl <| t_fin rfl <| k_block <| KK hK11 <| w_region <| rS (MV rfl) ?_
 refine rS (BI rfl (b_sub ⟨by omega, by omega⟩)) <| rS (AG rfl) <| r_nil ?_
 have hb17 : (Value.int .i64 (((j - 1) : Nat) : Int)) = (Value.int .i64 (((j : Nat) : Int) - 1)) := by exact congrArg (Value.int .i64) (by omega)
 refine k_then (hJ8 ⟨((j - 1), ((q.set j y).set (j - 1) x)), ⟨by omega, by simp; exact hl4_1, (swap_perm hx hy).trans hl4_2, ins_step hx hy (by omega) hl4_0 hless hl4_3⟩⟩ _ _ _ rfl (by simp only []; omega) (Sub.cons rfl <| Sub.cons rfl <| Sub.cons rfl <| Sub.cons rfl <| sub_val rfl hb17 <| Sub.nil _) (fun w hs => St.sel [0] rfl rfl hs))
set_option maxRecDepth 100000 in
set_option maxHeartbeats 400000 in
theorem len64_c (x : Int) (hx : 0 ≤ x ∧ x ≤ 100) :
    FnX Tryz.prog 103 [(Value.int .u64 x)] [] (fun (x : Int) => (Value.int .i64 x)) (fun (x : Int) => True) (fun (x : Int) => []) := by
 refine fnX_of go103 Tryz.func103 rfl rfl fun w0 Q hQ hN => ?_
 try dsimp only
 refine WS fun _ hK1 => rS (AG rfl) <| RK hK1 <| w_seq fun _ hK2 => WS fun _ hK3 => rS (MV rfl) <| rS (BI rfl b_geq) <| RK hK3 ?_
 refine w_if rfl (fun h4 => ?_) (fun h4 => ?_)
 · replace h4 := DT h4
   exfalso; omega
 replace h4 := DF h4
 refine WK hK2 <| w_seq fun _ hK5 => WS fun _ hK6 => rS (MV rfl) <| rS (BI rfl b_geq) <| RK hK6 ?_
 refine w_if rfl (fun h7 => ?_) (fun h7 => ?_)
 · replace h7 := DT h7
   exfalso; omega
 replace h7 := DF h7
 refine WK hK5 <| w_seq fun _ hK8 => WS fun _ hK9 => rS (MV rfl) <| rS (BI rfl b_geq) <| RK hK9 ?_
 refine w_if rfl (fun h10 => ?_) (fun h10 => ?_)
 · replace h10 := DT h10
   exfalso; omega
 replace h10 := DF h10
 refine WK hK8 <| WS fun _ hK11 => rS (MV rfl) <| rS (MV rfl) <| rS (SX (sd_conv (m := x) rfl rfl ut168 ut5 (wrap_u64_u8 (by first | assumption | omega))) rfl rfl) <| r_sidx (k := (x).toNat) rfl rfl rfl ut9 (by omega) (Nat.lt_of_lt_of_le (m := 200) (by omega) (of_decide_eq_true (by kernel_rfl))) rfl fun b12 hb13 => rS (SX (sd_conv (m := b12) rfl rfl ut5 ut3 (wrap_u8_i64 (by first | assumption | omega))) rfl rfl) <| rS (BI rfl (b_add ⟨by omega, by omega⟩)) <| rS (AG rfl) <| RK hK11 ?_
 refine w_ret ?_
 refine hQ _ _ _ (l_nil (vs := [(Value.int .i64 (0 + b12))]) ⟨rfl, trivial⟩ fun w hs => endX (0 + b12) [] ?_ ?_ rfl rfl rfl hs)
 · rfl
 · trivial
set_option maxRecDepth 100000 in
set_option maxHeartbeats 400000 in
theorem blen_c (x : Int) (hx : 0 ≤ x ∧ x ≤ 100) :
    FnX Tryz.prog 74 [(Value.int .u64 x)] [] (fun (x : Int) => (Value.int .i64 x)) (fun (x : Int) => True) (fun (x : Int) => []) := by
 refine fnX_of go74 Tryz.func74 rfl rfl fun w0 Q hQ hN => ?_
 try dsimp only
 refine WS fun _ hK1 => rS (AG rfl) <| RK hK1 <| w_seq fun _ hK2 => w_if_false rfl <| WK hK2 <| WS fun _ hK3 => rS (MV rfl) <| cX (len64_c x hx) (ha_nil) rfl fun n6 hy5 => ?_
 try dsimp only
 refine rS (AG rfl) <| RK hK3 <| w_ret ?_
 refine hQ _ _ _ (l_nil (vs := [(Value.int .i64 n6)]) ⟨rfl, trivial⟩ fun w hs => endX n6 [] ?_ ?_ rfl rfl rfl hs)
 · rfl
 · trivial
set_option maxRecDepth 100000 in
set_option maxHeartbeats 400000 in
theorem pdq_c (l : List Int) (lA : Option Addr) (lC : Nat) (u : Int) (hlen : l.length ≤ 12) :
    FnM Tryz.prog 73 [(Value.slice lA l.length lC), (Value.int .i64 0), (Value.int .i64 ((l.length : Nat) : Int)), (Value.int .i64 u)] [] (own lA lC 3 1 (l.map iC)) (fun (x : (List Int)) => (Value.tuple [].toArray)) (fun (x : (List Int)) => x.Perm l ∧ x.Pairwise (· ≤ ·)) (fun (x : (List Int)) => (own lA lC 3 1 (x.map iC))) := by
 refine fnM_of go73 Tryz.func73 rfl rfl fun w0 Q hQ hN => ?_
 try dsimp only
 refine WS fun _ hK1 => rS (AG rfl) <| RK hK1 <| WS fun _ hK2 => rS (AG rfl) <| RK hK2 <| w_block <| w_rounds 1 <| ro_succ fun R3 hR3 => w_block ?_
 refine WS fun _ hK4 => rS (MV rfl) <| rS (MV rfl) <| rS (BI rfl (b_sub ⟨by omega, by omega⟩)) <| rS (AG rfl) <| RK hK4 <| w_seq fun _ hK5 => WS fun _ hK6 => rS (MV rfl) <| rS (BI rfl b_leq) ?_
 refine RK hK6 ?_
 refine w_if rfl (fun h7 => ?_) (fun h7 => ?_)
 rotate_left 1
 · replace h7 := DF h7
   exfalso; omega
 replace h7 := DT h7
 refine WS fun _ hK8 => rS (MV rfl) <| rS (MV rfl) <| rS (MV rfl) ?_
 refine r_callm 0 rfl rfl rfl rfl (inssort_c l lA lC (by first | assumption | omega | (simp; done) | (simp; omega))) rfl cv_nil rfl (fun m9 hy11 => ?_)
 try dsimp only
 refine RK hK8 <| w_ret ?_
 refine hQ _ _ _ (l_nil (vs := []) trivial fun w hs => endM m9 0 ?_ ?_ rfl rfl hs)
 · clear hs w hQ hN hK8 hK6 hK5 hK4 hK2 hK1; rfl
 · clear hs w hQ hN hK8 hK6 hK5 hK4 hK2 hK1; assumption
set_option maxRecDepth 100000 in
set_option maxHeartbeats 400000 in
theorem sort_c (l : List Int) (lA : Option Addr) (lC : Nat) (hlen : l.length ≤ 12) :
    FnM Tryz.prog 45 [(Value.slice lA l.length lC)] [] (own lA lC 3 1 (l.map iC)) (fun (x : (List Int)) => (Value.tuple [].toArray)) (fun (x : (List Int)) => x.Perm l ∧ x.Pairwise (· ≤ ·)) (fun (x : (List Int)) => (own lA lC 3 1 (x.map iC))) := by
 refine fnM_of go45 Tryz.func45 rfl rfl fun w0 Q hQ hN => ?_
 try dsimp only
 refine WS fun _ hK1 => rS (MV rfl) <| rS (LN rfl ut35) <| rS (AG rfl) <| RK hK1 <| w_region <| rS (MV rfl) <| rS (MV rfl) <| rS (MV rfl) <| rS (SX (sd_conv (m := ((l.length : Nat) : Int)) rfl rfl ut3 ut139 (wrap_i64_u64 (by first | assumption | omega))) rfl rfl) ?_
 refine cX (blen_c ((l.length : Nat) : Int) (by first | assumption | omega | (simp; done) | (simp; omega))) (ha_nil) rfl fun n4 hy3 => ?_
 try dsimp only
 refine r_callm 0 rfl rfl rfl rfl (pdq_c l lA lC n4 hlen) rfl cv_nil rfl (fun m5 hy7 => ?_)
 try dsimp only
 refine r_nil ?_
 refine hN _ _ _ (l_nil (vs := []) trivial fun w hs => endM m5 0 ?_ ?_ rfl rfl hs)
 · clear hs w hQ hN hK1; rfl
 · clear hs w hQ hN hK1; assumption
end
section
open Go.RowKit
set_option linter.unusedVariables false
set_option maxRecDepth 100000 in
set_option maxHeartbeats 400000 in
theorem False_c (l : LineM) (kA : Option Addr) (kC : Nat) (az : List RA) (cA : Option Addr) (cC : Nat) (bA : Option Addr) (bC : Nat) (r : RideM) (sgA : Option Addr) (sgC : Nat) (hin : LineIn l az) (hsl : r.Signals.length ≤ 1000000) :
    FnX Tryz.prog 19 [(Value.agg (LineV.cells (LineV.mk (TrackV.mk (Slc.mk kA l.Track.length kC)) l.Fast (Slc.mk cA l.Clocks.length cC) (Slc.mk bA l.Beams.length bC) l.Finish l.Fakes l.Misses)).toArray), (Value.agg (RideV.cells (RideV.mk r.Start r.Now (Slc.mk sgA r.Signals.length sgC))).toArray)] [(rd kA l.Track.length 9 (l.Track.map StretchV.cells)), (rd cA l.Clocks.length 2 (List.zipWith ClockM.cells l.Clocks az)), (bun (nest ClockM.rds l.Clocks az)), (rd bA l.Beams.length 4 (l.Beams.map BeamV.cells)), (rd sgA r.Signals.length 2 (r.Signals.map SignalV.cells))] (fun (x : (Option Addr) × Nat) => (Value.tuple [(Value.slice x.1 ((falseV l r).length) x.2), (Value.int .i64 (openE l r 0))].toArray)) (fun (x : (Option Addr) × Nat) => True) (fun (x : (Option Addr) × Nat) => [(own x.1 x.2 3 1 ((falseV l r).map iC))]) := by
 have htk := hin.trk
 have hck := hin.cks
 have has := hin.as_
 have hbm := hin.bms
 have hsd := hin.side
 refine fnX_of go19 Tryz.func19 rfl rfl fun w0 Q hQ hN => ?_
 try dsimp only
 refine WS fun _ hK1 => BXA rfl fun b2 => BXA rfl fun b3 => rS (AG rfl) <| rS (AG rfl) <| RK hK1 <| WS fun _ hK4 => rS (LW 1 rfl tk28 rfl rfl) <| rS (LW 0 rfl tk31 rfl rfl) <| cX (open0_c l kA kC az cA cC bA bC r sgA sgC hin hsl) (ha_at 2 rfl rfl <| ha_at 3 rfl rfl <| ha_at 4 rfl rfl <| ha_at 5 rfl rfl <| ha_at 6 rfl rfl <| ha_nil) rfl fun y5 hy6 => ?_
 obtain ⟨ok22, ec7, gw8, eA9, eC10, tA11, tC12, tb13, fs14, fb15, fA16, fC17, bs18, bb19, qA20, qC21⟩ := y5
 cases ok22
 · obtain ⟨hec, he⟩ := hy6.2 rfl
   try dsimp only at hec he
   subst hec
   try dsimp only [cond_true, cond_false, List.cons_append, List.nil_append]
   refine rS (MV rfl) <| rS (EX rfl) <| rS (EX rfl) <| rS (AG rfl) <| rS (AG rfl) <| RK hK4 <| w_seq fun _ hK23 => WS fun _ hK24 => rS (MV rfl) <| rS (BI rfl b_neq) ?_
   refine RK hK24 ?_
   refine w_if rfl (fun h21 => ?_) (fun h21 => ?_)
   rotate_left 1
   · replace h21 := XF h21
     exact absurd h21 he
   replace h21 := XT h21
   refine WS fun _ hK25 => r_own_nil 3 1 ?_
   rw [show (own none 0 3 1 ([] : List (List Value))) = own none 0 3 1 ((falseV l r).map iC) from by rw [falseV_no he]; rfl]
   refine rS (MV rfl) <| rS (AG rfl) <| rS (AG rfl) <| RK hK25 <| w_ret ?_
   refine hQ _ _ _ (l_nil (vs := [(Value.slice none 0 0), (Value.int .i64 (openE l r 0))]) ⟨rfl, rfl, trivial⟩ fun w hs => endX (none, 0) [0] ?_ ?_ rfl rfl rfl hs)
   · first | (rw [falseV_no he]; rfl) | (rw [he, show (falseV l r).length = ys.length from by rw [← hsf]; exact hso.1.length_eq]; rfl)
   · trivial
 obtain ⟨he, hfw, hbw, hfl, hbl, htl⟩ := hy6.1 rfl
 try dsimp only [cond_true, cond_false, List.cons_append, List.nil_append]
 dsimp only at hfw hbw hfl hbl htl
 obtain ⟨h10, hro, hme, hnn⟩ := openE_zero he
 obtain ⟨htr, hok⟩ := lineE_zero h10
 have hhd := hok.head
 unfold HeadOk at hhd
 have hwo := watch_ok htr hok hro
 have hrt := hro.time
 have hrl := hro.len
 have hlel : (leasts l l.Beams.length).length = l.Beams.length := leasts_len
 have htll : (timesT l r.Signals r.Signals.length).length = l.Beams.length := timesT_len
 have hfn : fs14.length = l.Beams.length + 1 := by have := hfw.len; rw [show (watchL l r).n = l.Beams.length from leasts_len] at this; exact this
 have hbn : bs18.length = l.Beams.length + 1 := by have := hbw.len; rw [show (watchL l r).n = l.Beams.length from leasts_len] at this; exact this
 refine rS (MV rfl) <| rS (EX rfl) <| rS (EX rfl) <| rS (AG rfl) <| rS (AG rfl) <| RK hK4 <| w_seq fun _ hK26 => WS fun _ hK27 => rS (MV rfl) <| rS (SX (sd_bin (r := .bool false) rfl rfl rfl b_neq) rfl rfl) ?_
 refine RK hK27 <| w_if_false rfl <| WK hK26 <| WS fun _ hK28 => gr_mkmap (kV := iV) rfl rfl fun b29 => ?_
 try dsimp only
 refine AL rfl tz95 fun b30 => SO0 rfl ts95 rfl rfl <| RK hK28 <| w_seq fun _ hK31 => WS fun _ hK32 => rS (FA 2 rfl fo31_2 rfl) <| rS (L1 (Value.slice sgA r.Signals.length sgC) 10 rfl tk29 rfl rfl) <| rS (LN rfl ut29) <| rS (MV rfl) <| RK hK32 ?_
 refine w_block ?_
 have hinit : (0 ≤ r.Signals.length) := by exact Nat.zero_le _
 refine w_loop (ι := { z : Nat // (z ≤ r.Signals.length) }) (fun z => [(2, (Value.pointer (some ⟨b2, 0, none⟩))), (3, (Value.pointer (some ⟨b3, 0, none⟩))), (6, (Value.pointer (some ⟨gw8, 0, none⟩))), (8, (Value.pointer (some ⟨b30, 0, none⟩))), (26, (Value.int .i64 ((r.Signals.length : Nat) : Int))), (27, (Value.int .i64 ((z.1 : Nat) : Int)))]) (fun z => [(blk b30 95 [(Value.map (some b29))]), (gmp iV b29 (gmapV Value.bool (startM z.1))), (blk gw8 117 (WatchV.cells (WatchV.mk (LineV.mk (TrackV.mk (Slc.mk kA l.Track.length kC)) l.Fast (Slc.mk cA l.Clocks.length cC) (Slc.mk bA l.Beams.length bC) l.Finish l.Fakes l.Misses) (RideV.mk r.Start r.Now (Slc.mk sgA r.Signals.length sgC)) (Slc.mk eA9 ((leasts l l.Beams.length).length) eC10) (Slc.mk tA11 ((timesT l r.Signals r.Signals.length).length) tC12) (Slc.mk fA16 fs14.length fC17) (Slc.mk qA20 bs18.length qC21)))), (own eA9 eC10 3 1 ((leasts l l.Beams.length).map iC)), (own tA11 tC12 120 1 (List.zipWith mapC (timesT l r.Signals r.Signals.length) tb13)), (bund (nest tmR (timesT l r.Signals r.Signals.length) tb13)), (own fA16 fC17 122 1 (List.zipWith mapC fs14 fb15)), (bund (nest fmR fs14 fb15)), (own qA20 qC21 122 1 (List.zipWith mapC bs18 bb19)), (bund (nest fmR bs18 bb19)), (blk b3 31 (RideV.cells (RideV.mk r.Start r.Now (Slc.mk sgA r.Signals.length sgC)))), (blk b2 28 (LineV.cells (LineV.mk (TrackV.mk (Slc.mk kA l.Track.length kC)) l.Fast (Slc.mk cA l.Clocks.length cC) (Slc.mk bA l.Beams.length bC) l.Finish l.Fakes l.Misses))), (rd kA l.Track.length 9 (l.Track.map StretchV.cells)).ro, (rd cA l.Clocks.length 2 (List.zipWith ClockM.cells l.Clocks az)).ro, (bun (nest ClockM.rds l.Clocks az)).ro, (rd bA l.Beams.length 4 (l.Beams.map BeamV.cells)).ro, (rd sgA r.Signals.length 2 (r.Signals.map SignalV.cells)).ro]) (fun z => r.Signals.length - z.1) ⟨0, hinit⟩ (Sub.cons rfl <| Sub.cons rfl <| Sub.cons rfl <| Sub.cons rfl <| Sub.cons rfl <| Sub.cons rfl <| Sub.nil _) (fun w hs => St.sel [0, 1, 2, 3, 4, 5, 6, 7, 8, 9, 10, 11, 12, 13, 14, 15, 16] rfl rfl hs) ?_
 clear hinit
 rintro ⟨i, hl6_0⟩ J33 hJ33
 try dsimp only
 refine WS fun _ hK34 => rS (BI rfl b_lss) <| RK hK34 <| w_seq fun _ hK35 => ?_
 refine w_if rfl (fun h36 => ?_) (fun h36 => ?_)
 · replace h36 := DT h36
   refine WK hK35 <| w_seq fun _ hK37 => w_block <| WS fun _ hK38 => rS (MV rfl) <| rS (AG rfl) <| RK hK38 <| w_region <| rS (L1W 0 rfl tk95 rfl) <| rS (MV rfl) ?_
   have hb39 : (gsetK (startM i) ((i : Nat) : Int) true) = (startM (i + 1)) := by exact startM_succ
   refine gr_mapset (kV := iV) (x := ((i : Nat) : Int)) (C' := [_, (gmp iV b29 (gmapV Value.bool (startM (i + 1)))), _, _, _, _, _, _, _, _, _, _, _, _, _, _, _]) 1 rfl rfl rfl rfl ut95 (gkey_int ut3) rfl ((gmapV_setK _ _ _ _).symm.trans (congrArg _ hb39)) rfl <| r_nil <| k_block <| KK hK37 <| w_region <| rS (BI rfl (b_add ⟨by omega, by omega⟩)) <| rS (MV rfl) <| r_nil ?_
   have hb40 : (Value.int .i64 (((i + 1) : Nat) : Int)) = (Value.int .i64 (((i : Nat) : Int) + 1)) := by exact congrArg (Value.int .i64) (by omega)
   refine k_then (hJ33 ⟨(i + 1), (by first | omega | (simp only []; omega))⟩ _ _ _ rfl (by first | omega | (simp; omega)) (Sub.cons rfl <| Sub.cons rfl <| Sub.cons rfl <| Sub.cons rfl <| Sub.cons rfl <| sub_val rfl hb40 <| Sub.nil _) (fun w hs => St.sel [0, 1, 2, 3, 4, 5, 6, 7, 8, 9, 10, 11, 12, 13, 14, 15, 16] rfl rfl hs))
 replace h36 := DF h36
 refine w_exit <| k_exit_then <| k_exit_then <| k_exit_same <| KK hK31 <| w_seq fun _ hK41 => WS fun _ hK42 => rS (FA 3 rfl fo28_3 rfl) <| rS (L1 (Value.slice bA l.Beams.length bC) 11 rfl tk26 rfl rfl) <| rS (LN rfl ut26) ?_
 refine rS (MV rfl) <| RK hK42 <| w_block ?_
 rw [show startM i = startM r.Signals.length from by rw [show i = r.Signals.length by omega]]
 refine w_tie0 ?_
 have hinit : (0 ≤ l.Beams.length) ∧ (LeftOk r.Signals.length (startM r.Signals.length) (seenTo (watchL l r) 0)) := by exact ⟨Nat.zero_le _, left_iff left_start fun i => ⟨False.elim, fun q => (seen_zero q).elim⟩⟩
 refine w_loopD (ι := { z : Nat × BM × (List Nat) // (z.1 ≤ l.Beams.length) ∧ (LeftOk r.Signals.length z.2.1 (seenTo (watchL l r) z.1)) }) (fun z => z.1.2.2.map mark) (fun z => [(2, (Value.pointer (some ⟨b2, 0, none⟩))), (3, (Value.pointer (some ⟨b3, 0, none⟩))), (6, (Value.pointer (some ⟨gw8, 0, none⟩))), (8, (Value.pointer (some ⟨b30, 0, none⟩))), (35, (Value.int .i64 ((l.Beams.length : Nat) : Int))), (36, (Value.int .i64 ((z.1.1 : Nat) : Int)))]) (fun z => [(bund (z.1.2.2.map defd)), (blk b30 95 [(Value.map (some b29))]), (gmp iV b29 (gmapV Value.bool z.1.2.1)), (blk gw8 117 (WatchV.cells (WatchV.mk (LineV.mk (TrackV.mk (Slc.mk kA l.Track.length kC)) l.Fast (Slc.mk cA l.Clocks.length cC) (Slc.mk bA l.Beams.length bC) l.Finish l.Fakes l.Misses) (RideV.mk r.Start r.Now (Slc.mk sgA r.Signals.length sgC)) (Slc.mk eA9 ((leasts l l.Beams.length).length) eC10) (Slc.mk tA11 ((timesT l r.Signals r.Signals.length).length) tC12) (Slc.mk fA16 fs14.length fC17) (Slc.mk qA20 bs18.length qC21)))), (own eA9 eC10 3 1 ((leasts l l.Beams.length).map iC)), (own tA11 tC12 120 1 (List.zipWith mapC (timesT l r.Signals r.Signals.length) tb13)), (bund (nest tmR (timesT l r.Signals r.Signals.length) tb13)), (own fA16 fC17 122 1 (List.zipWith mapC fs14 fb15)), (bund (nest fmR fs14 fb15)), (own qA20 qC21 122 1 (List.zipWith mapC bs18 bb19)), (bund (nest fmR bs18 bb19)), (blk b3 31 (RideV.cells (RideV.mk r.Start r.Now (Slc.mk sgA r.Signals.length sgC)))), (blk b2 28 (LineV.cells (LineV.mk (TrackV.mk (Slc.mk kA l.Track.length kC)) l.Fast (Slc.mk cA l.Clocks.length cC) (Slc.mk bA l.Beams.length bC) l.Finish l.Fakes l.Misses))), (rd kA l.Track.length 9 (l.Track.map StretchV.cells)).ro, (rd cA l.Clocks.length 2 (List.zipWith ClockM.cells l.Clocks az)).ro, (bun (nest ClockM.rds l.Clocks az)).ro, (rd bA l.Beams.length 4 (l.Beams.map BeamV.cells)).ro, (rd sgA r.Signals.length 2 (r.Signals.map SignalV.cells)).ro]) (fun z => l.Beams.length - z.1.1) ⟨(0, (startM r.Signals.length), ([] : List Nat)), hinit⟩ rfl (Sub.cons rfl <| Sub.cons rfl <| Sub.cons rfl <| Sub.cons rfl <| Sub.cons rfl <| Sub.cons rfl <| Sub.nil _) (fun w hs => St.sel [0, 1, 2, 3, 4, 5, 6, 7, 8, 9, 10, 11, 12, 13, 14, 15, 16, 17] rfl rfl hs) ?_
 clear hinit
 rintro ⟨⟨b, m, rs11⟩, ⟨hl11_0, hl11_1⟩⟩ J43 hJ43
 try dsimp only at hl11_0 hl11_1
 try dsimp only
 refine WS fun _ hK44 => rS (BI rfl b_lss) <| RK hK44 <| w_seq fun _ hK45 => ?_
 refine w_if rfl (fun h46 => ?_) (fun h46 => ?_)
 · replace h46 := DT h46
   refine WK hK45 <| w_seq fun _ hK47 => w_block <| WS fun _ hK48 => rS (MV rfl) <| rS (AG rfl) <| RK hK48 <| WS fun _ hK49 => rS (MV rfl) <| rS (MV rfl) ?_
   obtain ⟨mf, hm1⟩ : ∃ y_, fs14[b]? = some y_ := ⟨fs14[b]'(by omega), List.getElem?_eq_getElem _⟩
   obtain ⟨mb, hm2⟩ : ∃ y_, bs18[b + 1]? = some y_ := ⟨bs18[b + 1]'(by omega), List.getElem?_eq_getElem _⟩
   refine cX (passes_c gw8 b) (ha_nil) rfl fun y50 hy51 => ?_
   obtain ⟨x152, x253⟩ := y50
   try dsimp only
   refine RK hK49 <| w_block ?_
   refine w_rangeG (L0 := [(2, (Value.pointer (some ⟨b2, 0, none⟩))), (3, (Value.pointer (some ⟨b3, 0, none⟩))), (6, (Value.pointer (some ⟨gw8, 0, none⟩))), (8, (Value.pointer (some ⟨b30, 0, none⟩))), (10, (Value.int .i64 ((b : Nat) : Int))), (35, (Value.int .i64 ((l.Beams.length : Nat) : Int))), (36, (Value.int .i64 ((b : Nat) : Int)))]) (F := [(own eA9 eC10 3 1 ((leasts l l.Beams.length).map iC)), (own tA11 tC12 120 1 (List.zipWith mapC (timesT l r.Signals r.Signals.length) tb13)), (bund (nest tmR (timesT l r.Signals r.Signals.length) tb13)), (own fA16 fC17 122 1 (List.zipWith mapC fs14 fb15)), (bund (nest fmR fs14 fb15)), (own qA20 qC21 122 1 (List.zipWith mapC bs18 bb19)), (bund (nest fmR bs18 bb19)), (blk gw8 117 (WatchV.cells (WatchV.mk (LineV.mk (TrackV.mk (Slc.mk kA l.Track.length kC)) l.Fast (Slc.mk cA l.Clocks.length cC) (Slc.mk bA l.Beams.length bC) l.Finish l.Fakes l.Misses) (RideV.mk r.Start r.Now (Slc.mk sgA r.Signals.length sgC)) (Slc.mk eA9 ((leasts l l.Beams.length).length) eC10) (Slc.mk tA11 ((timesT l r.Signals r.Signals.length).length) tC12) (Slc.mk fA16 fs14.length fC17) (Slc.mk qA20 bs18.length qC21)))), (blk x152 77 [(Value.pointer (some ⟨gw8, 0, none⟩))]), (blk x253 3 [(Value.int .i64 ((b : Nat) : Int))])])  (fun k (y : BM) => (LeftOk r.Signals.length y (fun i => seenTo (watchL l r) b i ∨ ∃ q ∈ k, q.1 = i)) ∧ (∀ q ∈ k, q ∈ passM (watchL l r) b mf mb)) (fun k y => [(bund (rs11.map defd)), (blk b30 95 [(Value.map (some b29))]), (gmp iV b29 (gmapV Value.bool y)), (blk b3 31 (RideV.cells (RideV.mk r.Start r.Now (Slc.mk sgA r.Signals.length sgC)))), (blk b2 28 (LineV.cells (LineV.mk (TrackV.mk (Slc.mk kA l.Track.length kC)) l.Fast (Slc.mk cA l.Clocks.length cC) (Slc.mk bA l.Beams.length bC) l.Finish l.Fakes l.Misses))), (rd kA l.Track.length 9 (l.Track.map StretchV.cells)).ro, (rd cA l.Clocks.length 2 (List.zipWith ClockM.cells l.Clocks az)).ro, (bun (nest ClockM.rds l.Clocks az)).ro, (rd bA l.Beams.length 4 (l.Beams.map BeamV.cells)).ro, (rd sgA r.Signals.length 2 (r.Signals.map SignalV.cells)).ro]) (fun _ (_ : Unit) => False) (fun _ _ => []) [2, 3, 4, 13, 14, 15, 16, 17, 18, 19] [6, 7, 8, 9, 10, 11, 12, 5, 0, 1] m rfl rfl (passes1_c (LineV.mk (TrackV.mk (Slc.mk kA l.Track.length kC)) l.Fast (Slc.mk cA l.Clocks.length cC) (Slc.mk bA l.Beams.length bC) l.Finish l.Fakes l.Misses) (RideV.mk r.Start r.Now (Slc.mk sgA r.Signals.length sgC)) (leasts l l.Beams.length) (timesT l r.Signals r.Signals.length) eA9 eC10 tb13 tA11 tC12 fs14 bs18 fb15 fA16 fC17 bb19 qA20 qC21 gw8 b x152 x253 mf mb (by rw [hlel]; omega) (by exact hwo) (by rw [htll]; omega) (by exact hfw) (by omega) (by exact hbw) (by omega) (by show r.Signals.length ≤ 1000; omega) (by exact hm1) (by exact hm2)) rfl rfl rfl (by exact ⟨left_iff hl11_1 fun i => ⟨.inl, fun q => q.elim id fun ⟨z, hz, _⟩ => by cases hz⟩, fun q hq => by cases hq⟩) (by simp only [List.forall_mem_cons, List.not_mem_nil, false_imp_iff, implies_true, and_true]; exact ⟨⟨_, List.mem_of_getElem? (i := 0) rfl, (cov_own_n (by simp))⟩, ⟨_, List.mem_of_getElem? (i := 1) rfl, (cov_own_n (by rw [List.length_zipWith]; omega))⟩, ⟨_, List.mem_of_getElem? (i := 2) rfl, cov_bund⟩, ⟨_, List.mem_of_getElem? (i := 3) rfl, (cov_own_n (by rw [List.length_zipWith]; omega))⟩, ⟨_, List.mem_of_getElem? (i := 4) rfl, cov_bund⟩, ⟨_, List.mem_of_getElem? (i := 5) rfl, (cov_own_n (by rw [List.length_zipWith]; omega))⟩, ⟨_, List.mem_of_getElem? (i := 6) rfl, cov_bund⟩, ⟨_, List.mem_of_getElem? (i := 7) rfl, (cov_refl _)⟩, ⟨_, List.mem_of_getElem? (i := 8) rfl, (cov_refl _)⟩, ⟨_, List.mem_of_getElem? (i := 9) rfl, (cov_refl _)⟩⟩) (by rintro k x k2 ⟨o, _, rfl, _⟩; rfl) rfl (Sub.cons rfl <| Sub.cons rfl <| Sub.cons rfl <| Sub.cons rfl <| Sub.cons rfl <| Sub.cons rfl <| Sub.cons rfl <| Sub.nil _) ?_ ?_ (fun _ _ _ h => h.elim) (fun _ _ h => h.elim)
   · rintro k x k2 m2 lr ra rb S w1 K54 Qr55 hsz hx hin56 hK54 hQr55 xQr55 yQr55
     obtain ⟨q, hq, rfl, rfl⟩ := hx
     obtain ⟨hr0, hr1⟩ := hin56
     try dsimp only
     refine w_region <| rS (AG rfl) <| r_nil ?_
     refine k_then (hK54 _ _ ?_)
     refine w_block <| w_region <| rS (L1W 2 rfl tk95 rfl) <| rS (MV rfl) <| gr_mapdel0 (kV := iV) (x := q.1) (C' := [_, _, _, (gmp iV b29 (gmapV Value.bool (gdelK m2 q.1))), _, _, _, _, _, _, _]) 3 rfl rfl rfl rfl ut95 (gkey_int ut3) rfl (gmapV_delK _ _ _).symm rfl <| r_nil <| k_block ?_
     exact hQr55 (gdelK m2 q.1) _ _ (by refine ⟨left_iff (left_del hr0) fun i => seen_snoc, fun z hz => ?_⟩; (rcases List.mem_append.1 hz with hz | hz; exact hr1 z hz; (rw [List.mem_singleton.1 hz]; exact hq))) (fun w hs => St.sel [0, 1, 2, 3, 4, 5, 6, 7, 8, 9, 10] rfl rfl hs)
   rintro r57 k m2 hfin hin58
   obtain ⟨hr0, hr1⟩ := hin58
   try dsimp only
   refine k_block <| k_block <| KK hK47 <| w_region <| rS (BI rfl (b_add ⟨by omega, by omega⟩)) <| rS (MV rfl) <| r_nil <| k_tief (X := rs11.map defd) 11 0 rfl rfl ?_
   try dsimp only
   have hb59 : (Value.int .i64 (((b + 1) : Nat) : Int)) = (Value.int .i64 (((b : Nat) : Int) + 1)) := by exact congrArg (Value.int .i64) (by omega)
   refine k_then (hJ43 ⟨((b + 1), m2, (r57 :: rs11)), ⟨by omega, left_iff hr0 fun i => by rw [seen_succ, (seen_pass (hfw.min _ _ hm1) (hbw.max _ _ hm2) (hfw.keys _ _ hm1) (hbw.keys _ _ hm2) hr1 hfin (fun z => z = i))]⟩⟩ _ _ _ rfl (by first | omega | (simp; omega)) (Sub.cons rfl <| Sub.cons rfl <| Sub.cons rfl <| Sub.cons rfl <| Sub.cons rfl <| sub_val rfl hb59 <| Sub.nil _) (fun w hs => St.sel [0, 11, 12, 8, 1, 2, 3, 4, 5, 6, 7, 13, 14, 15, 16, 17, 18, 19] rfl rfl hs))
 replace h46 := DF h46
 refine w_exit <| k_exit_then <| k_exit_then <| k_exit_same <| KK hK41 <| WS fun _ hK60 => rS (AG rfl) <| RK hK60 <| w_seq fun _ hK61 => WS fun _ hK62 => ?_
 refine rS (L1W 1 rfl tk95 rfl) <| gr_mrange 2 rfl rfl ut95 rfl rfl fun r63 => ?_
 try dsimp only
 refine RK hK62 <| w_block <| w_own_nil 3 1 ?_
 have hinit : ((([] : List Int) ++ m.map (·.1)).Perm (m.map (·.1))) := by exact List.Perm.refl _
 refine w_loop (ι := { z : BM × (List Int) × (Option Addr) × Nat // ((z.2.1 ++ z.1.map (·.1)).Perm (m.map (·.1))) }) (fun z => [(2, (Value.pointer (some ⟨b2, 0, none⟩))), (3, (Value.pointer (some ⟨b3, 0, none⟩))), (6, (Value.pointer (some ⟨gw8, 0, none⟩))), (8, (Value.pointer (some ⟨b30, 0, none⟩))), (12, (Value.slice z.1.2.2.1 z.1.2.1.length z.1.2.2.2)), (48, (Value.pointer (some ⟨r63, 0, none⟩)))]) (fun z => [(own z.1.2.2.1 z.1.2.2.2 3 1 (z.1.2.1.map iC)), (bund (rs11.map defd)), (blk b30 95 [(Value.map (some b29))]), (gmi iV r63 b29 (gmapV Value.bool m) (gmapV Value.bool z.1.1) none), (blk gw8 117 (WatchV.cells (WatchV.mk (LineV.mk (TrackV.mk (Slc.mk kA l.Track.length kC)) l.Fast (Slc.mk cA l.Clocks.length cC) (Slc.mk bA l.Beams.length bC) l.Finish l.Fakes l.Misses) (RideV.mk r.Start r.Now (Slc.mk sgA r.Signals.length sgC)) (Slc.mk eA9 ((leasts l l.Beams.length).length) eC10) (Slc.mk tA11 ((timesT l r.Signals r.Signals.length).length) tC12) (Slc.mk fA16 fs14.length fC17) (Slc.mk qA20 bs18.length qC21)))), (own eA9 eC10 3 1 ((leasts l l.Beams.length).map iC)), (own tA11 tC12 120 1 (List.zipWith mapC (timesT l r.Signals r.Signals.length) tb13)), (bund (nest tmR (timesT l r.Signals r.Signals.length) tb13)), (own fA16 fC17 122 1 (List.zipWith mapC fs14 fb15)), (bund (nest fmR fs14 fb15)), (own qA20 qC21 122 1 (List.zipWith mapC bs18 bb19)), (bund (nest fmR bs18 bb19)), (blk b3 31 (RideV.cells (RideV.mk r.Start r.Now (Slc.mk sgA r.Signals.length sgC)))), (blk b2 28 (LineV.cells (LineV.mk (TrackV.mk (Slc.mk kA l.Track.length kC)) l.Fast (Slc.mk cA l.Clocks.length cC) (Slc.mk bA l.Beams.length bC) l.Finish l.Fakes l.Misses))), (rd kA l.Track.length 9 (l.Track.map StretchV.cells)).ro, (rd cA l.Clocks.length 2 (List.zipWith ClockM.cells l.Clocks az)).ro, (bun (nest ClockM.rds l.Clocks az)).ro, (rd bA l.Beams.length 4 (l.Beams.map BeamV.cells)).ro, (rd sgA r.Signals.length 2 (r.Signals.map SignalV.cells)).ro]) (fun z => z.1.1.length) ⟨(m, ([] : List Int), none, 0), hinit⟩ (Sub.cons rfl <| Sub.cons rfl <| Sub.cons rfl <| Sub.cons rfl <| Sub.cons rfl <| Sub.cons rfl <| Sub.nil _) (fun w hs => St.sel [0, 1, 2, 3, 4, 5, 6, 7, 8, 9, 10, 11, 12, 13, 14, 15, 16, 17, 18] rfl rfl hs) ?_
 clear hinit
 rintro ⟨⟨left, ys, a, c⟩, hl19_0⟩ J64 hJ64
 try dsimp only at hl19_0
 try dsimp only
 refine WS fun _ hK65 => ?_
 refine gr_mnext_v (gkey_int ut3).inj (f := Value.bool) 3 rfl rfl rfl rfl (fun h49 => ?_) (fun x y hm hn => ?_)
 · refine rS (EX rfl) ?_
   refine RK hK65 <| w_seq fun _ hK66 => w_if_false rfl <| w_exit <| k_exit_then <| k_exit_then <| k_exit_same <| KK hK61 <| WS fun _ hK67 => rS (MV rfl) ?_
   refine r_callm 0 rfl rfl rfl rfl (sort_c ys a c (by have h1 := hl19_0.length_eq; have h2 := left_len hl11_1; simp at h1; omega)) rfl cv_nil rfl (fun srtd hso => ?_)
   try dsimp only
   refine RK hK67 <| WS fun _ hK69 => rS (MV rfl) ?_
   have hsf : srtd = falseV l r := by rw [falseV_ok he]; exact false_done (left_iff hl11_1 fun i => by rw [show b = (watchL l r).n from by rw [show (watchL l r).n = l.Beams.length from leasts_len]; omega]) (by have := hl19_0; rw [h49] at this; simpa using this) hso.1 hso.2
   rw [hsf]
   refine rS (AG rfl) <| rS (AG rfl) <| RK hK69 <| w_ret ?_
   refine hQ _ _ _ (l_marks0 1 rfl rfl <| l_nil (vs := [(Value.slice a ys.length c), (Value.int .i64 0)]) ⟨rfl, rfl, trivial⟩ fun w hs => endX (a, c) [0] ?_ ?_ rfl rfl rfl hs)
   · first | (rw [falseV_no he]; rfl) | (rw [he, show (falseV l r).length = ys.length from by rw [← hsf]; exact hso.1.length_eq]; rfl)
   · trivial
 try dsimp only
 refine rS (EX rfl) <| RK hK65 <| w_seq fun _ hK70 => w_if_true rfl <| WK hK70 <| w_block <| WS fun _ hK71 => rS (SX (gsd_mentry 3 rfl rfl rfl) rfl rfl) <| rS (EX rfl) <| rS (AG rfl) ?_
 refine RK hK71 <| w_region <| rS (MV rfl) <| rS (MV rfl) <| r_bs (xs := [.tmp 54]) (cs := [(Value.int .i64 x)]) rfl te35 tz3 rfl rfl rfl rfl (by simp [Value.cells]) rfl rfl fun b72 => r_append (es2 := (List.map iC (ys ++ [x]))) (m' := (ys ++ [x]).length) 1 rfl rfl rfl ta35 rfl rfl (by simp) (has_rd_blk (es := List.map iC [x]) 0 rfl rfl (by simp [iC_length]) rfl) (one_iC _) (by have h1 := hl19_0.length_eq; have h2 := left_len hl11_1; simp at h1; simp; omega) (by have h1 := hl19_0.length_eq; have h2 := left_len hl11_1; simp at h1; simp only [maxLen]; simp; omega) (by simp) (by simp) rfl fun a73 c74 => ?_
 try dsimp only
 refine rS (AG rfl) <| r_nil <| k_block <| k_imp (C' := [(blk b72 3 [(Value.int .i64 x)]), (own a73 c74 3 1 (List.map iC (ys ++ [x]))), (bund (rs11.map defd)), (blk b30 95 [(Value.map (some b29))]), (gmi iV r63 b29 (gmapV Value.bool m) (gmapV Value.bool (gdelK left x)) none), (blk gw8 117 (WatchV.cells (WatchV.mk (LineV.mk (TrackV.mk (Slc.mk kA l.Track.length kC)) l.Fast (Slc.mk cA l.Clocks.length cC) (Slc.mk bA l.Beams.length bC) l.Finish l.Fakes l.Misses) (RideV.mk r.Start r.Now (Slc.mk sgA r.Signals.length sgC)) (Slc.mk eA9 ((leasts l l.Beams.length).length) eC10) (Slc.mk tA11 ((timesT l r.Signals r.Signals.length).length) tC12) (Slc.mk fA16 fs14.length fC17) (Slc.mk qA20 bs18.length qC21)))), (own eA9 eC10 3 1 ((leasts l l.Beams.length).map iC)), (own tA11 tC12 120 1 (List.zipWith mapC (timesT l r.Signals r.Signals.length) tb13)), (bund (nest tmR (timesT l r.Signals r.Signals.length) tb13)), (own fA16 fC17 122 1 (List.zipWith mapC fs14 fb15)), (bund (nest fmR fs14 fb15)), (own qA20 qC21 122 1 (List.zipWith mapC bs18 bb19)), (bund (nest fmR bs18 bb19)), (blk b3 31 (RideV.cells (RideV.mk r.Start r.Now (Slc.mk sgA r.Signals.length sgC)))), (blk b2 28 (LineV.cells (LineV.mk (TrackV.mk (Slc.mk kA l.Track.length kC)) l.Fast (Slc.mk cA l.Clocks.length cC) (Slc.mk bA l.Beams.length bC) l.Finish l.Fakes l.Misses))), (rd kA l.Track.length 9 (l.Track.map StretchV.cells)).ro, (rd cA l.Clocks.length 2 (List.zipWith ClockM.cells l.Clocks az)).ro, (bun (nest ClockM.rds l.Clocks az)).ro, (rd bA l.Beams.length 4 (l.Beams.map BeamV.cells)).ro, (rd sgA r.Signals.length 2 (r.Signals.map SignalV.cells)).ro]) 4 rfl gmi_none rfl ?_
 refine k_then (hJ64 ⟨((gdelK left x), (ys ++ [x]), a73, c74), take_key hn hm hl19_0⟩ _ _ _ rfl (gdelK_lt hm) (Sub.cons rfl <| Sub.cons rfl <| Sub.cons rfl <| Sub.cons rfl <| Sub.cons rfl <| Sub.cons rfl <| Sub.nil _) (fun w hs => St.sel [1, 2, 3, 4, 5, 6, 7, 8, 9, 10, 11, 12, 13, 14, 15, 16, 17, 18, 19] rfl rfl hs))
end
section
open Go.RowKit
set_option linter.unusedVariables false
theorem zip_len {l : List ClockM} {az : List RA} (h : az.length = l.length) : (List.zipWith ClockM.cells l az).length = l.length := by simp [h]
theorem bund_owns_wr {l : List ClockM} {bz : List RA} : (bund (nest ClockM.owns l bz)).wr = true := by
  show (nest ClockM.owns l bz).all (·.wr) = true
  rw [List.all_eq_true]
  intro X hX
  obtain ⟨k, m, a, _, _, h⟩ := nest_mem hX
  simp only [ClockM.owns, List.mem_singleton] at h
  subst h; rfl
theorem owns_rds : ∀ (m : ClockM) (a : RA) (w : World), (∀ X ∈ ClockM.owns m a, X.holds w) → ∀ X ∈ ClockM.rds m a, X.holds w := fun m a w h X hX => by
  simp only [ClockM.rds, List.mem_singleton] at hX
  subst hX
  have := own_rd (h _ (List.mem_singleton.2 rfl))
  simpa using this
section
variable {E : Env} {ops : Array Oper} {Q : Post} {rest : List Oper} {D : List Deferred} {L : List (Nat × Value)} {C : List Assn}
end
end
section
open Go.RowKit
set_option linter.unusedVariables false
set_option maxRecDepth 100000 in
set_option maxHeartbeats 400000 in
theorem lspan_c (x : Int) (y : Int) :
    FnV Tryz.prog 28 [(Value.int .i64 x), (Value.int .i64 y)] [] (Value.agg (SpanV.cells (SpanV.mk x y)).toArray) := by
 refine fnV_of go28 Tryz.func28 rfl rfl fun w0 Q hQ hN => ?_
 try dsimp only
 refine WS fun _ hK1 => AL rfl tz47 fun b2 => RK hK1 <| WS fun _ hK3 => rS (MV rfl) <| rS (MV rfl) <| rS (SX (sd_build (xs := [(0, .tmp 5), (1, .tmp 6)]) (cs := (SpanV.cells (SpanV.mk x y))) rfl rfl (built_of tb47 rfl)) rfl rfl) <| SW0 rfl ts47 rfl <| RK hK3 <| w_ret ?_
 refine hQ _ _ _ (l_nil (vs := [(Value.agg (SpanV.cells (SpanV.mk x y)).toArray)]) ⟨⟨_, rfl, .inl ⟨_, _, tk47, at_blk (vs := (SpanV.cells (SpanV.mk x y))) 0 rfl rfl, rfl, rfl⟩⟩, trivial⟩ fun w hs => endV ?_ hs)
 show (Value.agg (SpanV.cells (SpanV.mk x y)).toArray) = (Value.agg (SpanV.cells (SpanV.mk x y)).toArray)
 clear hs w hQ hN hK3 hK1
 rfl
set_option maxRecDepth 100000 in
set_option maxHeartbeats 400000 in
theorem line1_c  :
    FnX Tryz.prog 49 [(Value.int .i64 1)] [] (fun (x : (Option Addr) × Nat × (Option Addr) × Nat × (List RA) × (Option Addr) × Nat) => (Value.agg (LineV.cells (LineV.mk (TrackV.mk (Slc.mk x.1 exL1.Track.length x.2.1)) exL1.Fast (Slc.mk x.2.2.1 exL1.Clocks.length x.2.2.2.1) (Slc.mk x.2.2.2.2.2.1 exL1.Beams.length x.2.2.2.2.2.2) exL1.Finish exL1.Fakes exL1.Misses)).toArray)) (fun (x : (Option Addr) × Nat × (Option Addr) × Nat × (List RA) × (Option Addr) × Nat) => x.2.2.2.2.1.length = exL1.Clocks.length ∧ LineIn exL1 x.2.2.2.2.1) (fun (x : (Option Addr) × Nat × (Option Addr) × Nat × (List RA) × (Option Addr) × Nat) => [(own x.1 x.2.1 141 9 (exL1.Track.map StretchV.cells)), (own x.2.2.1 x.2.2.2.1 63 2 (List.zipWith ClockM.cells exL1.Clocks x.2.2.2.2.1)), (bund (nest ClockM.owns exL1.Clocks x.2.2.2.2.1)), (own x.2.2.2.2.2.1 x.2.2.2.2.2.2 101 4 (exL1.Beams.map BeamV.cells))]) := by
 refine fnX_of go49 Tryz.func49 rfl rfl fun w0 Q hQ hN => ?_
 try dsimp only
 refine WS fun _ hK1 => AL rfl tz28 fun b2 => RK hK1 <| WS fun _ hK3 => rS (CL (lspan_c 10000 10200) (ha_nil) rfl) <| rS (SX (sd_build (xs := [(0, .const (Value.int .i64 1)), (1, .tmp 3)]) (cs := (StretchV.cells (StretchV.mk 1 (SpanV.mk 10000 10200) (SpanV.mk 0 0) (SpanV.mk 0 0) 0 0))) rfl rfl (built_of tb141 rfl)) rfl rfl) <| r_bs (xs := [.tmp 4]) (cs := (StretchV.cells (StretchV.mk 1 (SpanV.mk 10000 10200) (SpanV.mk 0 0) (SpanV.mk 0 0) 0 0))) rfl te22 tz141 rfl rfl rfl rfl (by simp [Value.cells, StretchV.cells_length]) rfl rfl fun b4 => rS (SX (sd_build (xs := [(0, .tmp 5)]) (cs := (TrackV.cells (TrackV.mk (Slc.mk (some ⟨b4, 0, none⟩) 1 1)))) rfl rfl (built_of tb24 rfl)) rfl rfl) <| rS (MV rfl) <| rS (CL (lspan_c 0 2) (ha_nil) rfl) ?_
 refine rS (SX (sd_build (xs := [(0, .const (Value.int .i64 0)), (1, .tmp 8)]) (cs := (SyncV.cells (SyncV.mk 0 (SpanV.mk 0 2)))) rfl rfl (built_of tb65 rfl)) rfl rfl) <| rS (CL (lspan_c 5 6) (ha_nil) rfl) <| rS (SX (sd_build (xs := [(0, .const (Value.int .i64 100000)), (1, .tmp 10)]) (cs := (SyncV.cells (SyncV.mk 100000 (SpanV.mk 5 6)))) rfl rfl (built_of tb65 rfl)) rfl rfl) <| r_bs (xs := [.tmp 9, .tmp 11]) (cs := ((SyncV.cells (SyncV.mk 0 (SpanV.mk 0 2))) ++ (SyncV.cells (SyncV.mk 100000 (SpanV.mk 5 6))))) rfl te61 tz65 rfl rfl rfl rfl (by simp [Value.cells, SyncV.cells_length]) rfl rfl fun b5 => rS (SX (sd_build (xs := [(0, .const (Value.int .i64 100)), (1, .tmp 12)]) (cs := (ClockV.cells (ClockV.mk 100 (Slc.mk (some ⟨b5, 0, none⟩) 2 2)))) rfl rfl (built_of tb63 rfl)) rfl rfl) <| r_bs (xs := [.tmp 13]) (cs := (ClockV.cells (ClockV.mk 100 (Slc.mk (some ⟨b5, 0, none⟩) 2 2)))) rfl te25 tz63 rfl rfl rfl rfl (by simp [Value.cells, ClockV.cells_length]) rfl rfl fun b6 => rS (CL (lspan_c 1000 1000) (ha_nil) rfl) <| rS (SX (sd_build (xs := [(1, .tmp 15)]) (cs := (SpotV.cells (SpotV.mk 0 (SpanV.mk 1000 1000)))) rfl rfl (built_of tb99 rfl)) rfl rfl) <| rS (SX (sd_build (xs := [(0, .tmp 16)]) (cs := (BeamV.cells (BeamV.mk (SpotV.mk 0 (SpanV.mk 1000 1000)) 0))) rfl rfl (built_of tb101 rfl)) rfl rfl) <| rS (CL (lspan_c 4000 4000) (ha_nil) rfl) ?_
 refine rS (SX (sd_build (xs := [(1, .tmp 18)]) (cs := (SpotV.cells (SpotV.mk 0 (SpanV.mk 4000 4000)))) rfl rfl (built_of tb99 rfl)) rfl rfl) <| rS (SX (sd_build (xs := [(0, .tmp 19)]) (cs := (BeamV.cells (BeamV.mk (SpotV.mk 0 (SpanV.mk 4000 4000)) 0))) rfl rfl (built_of tb101 rfl)) rfl rfl) <| rS (CL (lspan_c 9000 9000) (ha_nil) rfl) <| rS (SX (sd_build (xs := [(1, .tmp 21)]) (cs := (SpotV.cells (SpotV.mk 0 (SpanV.mk 9000 9000)))) rfl rfl (built_of tb99 rfl)) rfl rfl) <| rS (SX (sd_build (xs := [(0, .tmp 22)]) (cs := (BeamV.cells (BeamV.mk (SpotV.mk 0 (SpanV.mk 9000 9000)) 0))) rfl rfl (built_of tb101 rfl)) rfl rfl) <| r_bs (xs := [.tmp 17, .tmp 20, .tmp 23]) (cs := ((BeamV.cells (BeamV.mk (SpotV.mk 0 (SpanV.mk 1000 1000)) 0)) ++ (BeamV.cells (BeamV.mk (SpotV.mk 0 (SpanV.mk 4000 4000)) 0)) ++ (BeamV.cells (BeamV.mk (SpotV.mk 0 (SpanV.mk 9000 9000)) 0)))) rfl te26 tz101 rfl rfl rfl rfl (by simp [Value.cells, BeamV.cells_length]) rfl rfl fun b7 => rS (SX (sd_build (xs := [(0, .tmp 6), (1, .const (Value.int .i64 2000)), (4, .const (Value.int .i64 1)), (5, .tmp 7), (6, .const (Value.int .i64 1)), (2, .tmp 14), (3, .tmp 24)]) (cs := (LineV.cells (LineV.mk (TrackV.mk (Slc.mk (some ⟨b4, 0, none⟩) 1 1)) 2000 (Slc.mk (some ⟨b6, 0, none⟩) 1 1) (Slc.mk (some ⟨b7, 0, none⟩) 3 3) 1 1 1))) rfl rfl (built_of tb28 rfl)) rfl rfl) <| r_blk_own (es := (exL1.Track.map StretchV.cells)) (C' := [_, _, _, (own (some ⟨b4, 0, none⟩) 1 141 9 (exL1.Track.map StretchV.cells)), _]) 3 rfl (map_len StretchV.cells_length _) rfl (by show _ ≤ maxLen; exact Nat.le_trans (m := 10) (by first | decide | (show (1 : Nat) ≤ 10; decide)) (by decide)) rfl <| r_blk_own (es := (exC.Syncs.map SyncV.cells)) (C' := [_, _, (own (some ⟨b5, 0, none⟩) 2 65 3 (exC.Syncs.map SyncV.cells)), _, _]) 2 rfl (map_len SyncV.cells_length _) rfl (by show _ ≤ maxLen; exact Nat.le_trans (m := 10) (by first | decide | (show (1 : Nat) ≤ 10; decide)) (by decide)) rfl <| r_blk_own (es := (List.zipWith ClockM.cells exL1.Clocks [((some ⟨b5, 0, none⟩), 2)])) (C' := [_, (own (some ⟨b6, 0, none⟩) 1 63 2 (List.zipWith ClockM.cells exL1.Clocks [((some ⟨b5, 0, none⟩), 2)])), _, _, _]) 1 rfl (by intro x hx; change x ∈ [ClockM.cells exC ((some ⟨b5, 0, none⟩), 2)] at hx; rw [List.mem_singleton.1 hx]; rfl) rfl (by show _ ≤ maxLen; exact Nat.le_trans (m := 10) (by first | decide | (show (1 : Nat) ≤ 10; decide)) (by decide)) rfl ?_
 refine r_blk_own (es := (exL1.Beams.map BeamV.cells)) (C' := [(own (some ⟨b7, 0, none⟩) 3 101 4 (exL1.Beams.map BeamV.cells)), _, _, _, _]) 0 rfl (map_len BeamV.cells_length _) rfl (by show _ ≤ maxLen; exact Nat.le_trans (m := 10) (by first | decide | (show (1 : Nat) ≤ 10; decide)) (by decide)) rfl <| r_tie0 <| r_tie (X := []) (X' := nest ClockM.owns exL1.Clocks [((some ⟨b5, 0, none⟩), 2)]) 0 3 rfl rfl rfl <| SW4 rfl ts28 rfl <| RK hK3 <| w_ret ?_
 refine hQ _ _ _ (l_nil (vs := [(Value.agg (LineV.cells (LineV.mk (TrackV.mk (Slc.mk (some ⟨b4, 0, none⟩) 1 1)) 2000 (Slc.mk (some ⟨b6, 0, none⟩) 1 1) (Slc.mk (some ⟨b7, 0, none⟩) 3 3) 1 1 1)).toArray)]) ⟨⟨_, rfl, .inl ⟨_, _, tk28, at_blk (vs := (LineV.cells (LineV.mk (TrackV.mk (Slc.mk (some ⟨b4, 0, none⟩) 1 1)) 2000 (Slc.mk (some ⟨b6, 0, none⟩) 1 1) (Slc.mk (some ⟨b7, 0, none⟩) 3 3) 1 1 1))) 4 rfl rfl, rfl, rfl⟩⟩, trivial⟩ fun w hs => endX ((some ⟨b4, 0, none⟩), 1, (some ⟨b6, 0, none⟩), 1, [((some ⟨b5, 0, none⟩), 2)], (some ⟨b7, 0, none⟩), 3) [3, 2, 0, 1] ?_ ?_ rfl rfl (by simp only [List.all_cons, List.all_nil, bund_owns_wr, Bool.and_true]; rfl) hs)
 · rfl
 · exact ⟨rfl, ex_in _ (by decide)⟩
set_option maxRecDepth 100000 in
set_option maxHeartbeats 400000 in
theorem line0_c  :
    FnX Tryz.prog 49 [(Value.int .i64 0)] [] (fun (x : (Option Addr) × Nat × (Option Addr) × Nat × (List RA) × (Option Addr) × Nat) => (Value.agg (LineV.cells (LineV.mk (TrackV.mk (Slc.mk x.1 exL0.Track.length x.2.1)) exL0.Fast (Slc.mk x.2.2.1 exL0.Clocks.length x.2.2.2.1) (Slc.mk x.2.2.2.2.2.1 exL0.Beams.length x.2.2.2.2.2.2) exL0.Finish exL0.Fakes exL0.Misses)).toArray)) (fun (x : (Option Addr) × Nat × (Option Addr) × Nat × (List RA) × (Option Addr) × Nat) => x.2.2.2.2.1.length = exL0.Clocks.length ∧ LineIn exL0 x.2.2.2.2.1) (fun (x : (Option Addr) × Nat × (Option Addr) × Nat × (List RA) × (Option Addr) × Nat) => [(own x.1 x.2.1 141 9 (exL0.Track.map StretchV.cells)), (own x.2.2.1 x.2.2.2.1 63 2 (List.zipWith ClockM.cells exL0.Clocks x.2.2.2.2.1)), (bund (nest ClockM.owns exL0.Clocks x.2.2.2.2.1)), (own x.2.2.2.2.2.1 x.2.2.2.2.2.2 101 4 (exL0.Beams.map BeamV.cells))]) := by
 refine fnX_of go49 Tryz.func49 rfl rfl fun w0 Q hQ hN => ?_
 try dsimp only
 refine WS fun _ hK1 => AL rfl tz28 fun b2 => RK hK1 <| WS fun _ hK3 => rS (CL (lspan_c 10000 10200) (ha_nil) rfl) <| rS (SX (sd_build (xs := [(0, .const (Value.int .i64 1)), (1, .tmp 3)]) (cs := (StretchV.cells (StretchV.mk 1 (SpanV.mk 10000 10200) (SpanV.mk 0 0) (SpanV.mk 0 0) 0 0))) rfl rfl (built_of tb141 rfl)) rfl rfl) <| r_bs (xs := [.tmp 4]) (cs := (StretchV.cells (StretchV.mk 1 (SpanV.mk 10000 10200) (SpanV.mk 0 0) (SpanV.mk 0 0) 0 0))) rfl te22 tz141 rfl rfl rfl rfl (by simp [Value.cells, StretchV.cells_length]) rfl rfl fun b4 => rS (SX (sd_build (xs := [(0, .tmp 5)]) (cs := (TrackV.cells (TrackV.mk (Slc.mk (some ⟨b4, 0, none⟩) 1 1)))) rfl rfl (built_of tb24 rfl)) rfl rfl) <| rS (MV rfl) <| rS (CL (lspan_c 0 2) (ha_nil) rfl) ?_
 refine rS (SX (sd_build (xs := [(0, .const (Value.int .i64 0)), (1, .tmp 8)]) (cs := (SyncV.cells (SyncV.mk 0 (SpanV.mk 0 2)))) rfl rfl (built_of tb65 rfl)) rfl rfl) <| rS (CL (lspan_c 5 6) (ha_nil) rfl) <| rS (SX (sd_build (xs := [(0, .const (Value.int .i64 100000)), (1, .tmp 10)]) (cs := (SyncV.cells (SyncV.mk 100000 (SpanV.mk 5 6)))) rfl rfl (built_of tb65 rfl)) rfl rfl) <| r_bs (xs := [.tmp 9, .tmp 11]) (cs := ((SyncV.cells (SyncV.mk 0 (SpanV.mk 0 2))) ++ (SyncV.cells (SyncV.mk 100000 (SpanV.mk 5 6))))) rfl te61 tz65 rfl rfl rfl rfl (by simp [Value.cells, SyncV.cells_length]) rfl rfl fun b5 => rS (SX (sd_build (xs := [(0, .const (Value.int .i64 100)), (1, .tmp 12)]) (cs := (ClockV.cells (ClockV.mk 100 (Slc.mk (some ⟨b5, 0, none⟩) 2 2)))) rfl rfl (built_of tb63 rfl)) rfl rfl) <| r_bs (xs := [.tmp 13]) (cs := (ClockV.cells (ClockV.mk 100 (Slc.mk (some ⟨b5, 0, none⟩) 2 2)))) rfl te25 tz63 rfl rfl rfl rfl (by simp [Value.cells, ClockV.cells_length]) rfl rfl fun b6 => rS (CL (lspan_c 1000 1000) (ha_nil) rfl) <| rS (SX (sd_build (xs := [(1, .tmp 15)]) (cs := (SpotV.cells (SpotV.mk 0 (SpanV.mk 1000 1000)))) rfl rfl (built_of tb99 rfl)) rfl rfl) <| rS (SX (sd_build (xs := [(0, .tmp 16)]) (cs := (BeamV.cells (BeamV.mk (SpotV.mk 0 (SpanV.mk 1000 1000)) 0))) rfl rfl (built_of tb101 rfl)) rfl rfl) <| rS (CL (lspan_c 4000 4000) (ha_nil) rfl) ?_
 refine rS (SX (sd_build (xs := [(1, .tmp 18)]) (cs := (SpotV.cells (SpotV.mk 0 (SpanV.mk 4000 4000)))) rfl rfl (built_of tb99 rfl)) rfl rfl) <| rS (SX (sd_build (xs := [(0, .tmp 19)]) (cs := (BeamV.cells (BeamV.mk (SpotV.mk 0 (SpanV.mk 4000 4000)) 0))) rfl rfl (built_of tb101 rfl)) rfl rfl) <| rS (CL (lspan_c 9000 9000) (ha_nil) rfl) <| rS (SX (sd_build (xs := [(1, .tmp 21)]) (cs := (SpotV.cells (SpotV.mk 0 (SpanV.mk 9000 9000)))) rfl rfl (built_of tb99 rfl)) rfl rfl) <| rS (SX (sd_build (xs := [(0, .tmp 22)]) (cs := (BeamV.cells (BeamV.mk (SpotV.mk 0 (SpanV.mk 9000 9000)) 0))) rfl rfl (built_of tb101 rfl)) rfl rfl) <| r_bs (xs := [.tmp 17, .tmp 20, .tmp 23]) (cs := ((BeamV.cells (BeamV.mk (SpotV.mk 0 (SpanV.mk 1000 1000)) 0)) ++ (BeamV.cells (BeamV.mk (SpotV.mk 0 (SpanV.mk 4000 4000)) 0)) ++ (BeamV.cells (BeamV.mk (SpotV.mk 0 (SpanV.mk 9000 9000)) 0)))) rfl te26 tz101 rfl rfl rfl rfl (by simp [Value.cells, BeamV.cells_length]) rfl rfl fun b7 => rS (SX (sd_build (xs := [(0, .tmp 6), (1, .const (Value.int .i64 2000)), (4, .const (Value.int .i64 1)), (5, .tmp 7), (6, .const (Value.int .i64 1)), (2, .tmp 14), (3, .tmp 24)]) (cs := (LineV.cells (LineV.mk (TrackV.mk (Slc.mk (some ⟨b4, 0, none⟩) 1 1)) 2000 (Slc.mk (some ⟨b6, 0, none⟩) 1 1) (Slc.mk (some ⟨b7, 0, none⟩) 3 3) 1 0 1))) rfl rfl (built_of tb28 rfl)) rfl rfl) <| r_blk_own (es := (exL0.Track.map StretchV.cells)) (C' := [_, _, _, (own (some ⟨b4, 0, none⟩) 1 141 9 (exL0.Track.map StretchV.cells)), _]) 3 rfl (map_len StretchV.cells_length _) rfl (by show _ ≤ maxLen; exact Nat.le_trans (m := 10) (by first | decide | (show (1 : Nat) ≤ 10; decide)) (by decide)) rfl <| r_blk_own (es := (exC.Syncs.map SyncV.cells)) (C' := [_, _, (own (some ⟨b5, 0, none⟩) 2 65 3 (exC.Syncs.map SyncV.cells)), _, _]) 2 rfl (map_len SyncV.cells_length _) rfl (by show _ ≤ maxLen; exact Nat.le_trans (m := 10) (by first | decide | (show (1 : Nat) ≤ 10; decide)) (by decide)) rfl <| r_blk_own (es := (List.zipWith ClockM.cells exL0.Clocks [((some ⟨b5, 0, none⟩), 2)])) (C' := [_, (own (some ⟨b6, 0, none⟩) 1 63 2 (List.zipWith ClockM.cells exL0.Clocks [((some ⟨b5, 0, none⟩), 2)])), _, _, _]) 1 rfl (by intro x hx; change x ∈ [ClockM.cells exC ((some ⟨b5, 0, none⟩), 2)] at hx; rw [List.mem_singleton.1 hx]; rfl) rfl (by show _ ≤ maxLen; exact Nat.le_trans (m := 10) (by first | decide | (show (1 : Nat) ≤ 10; decide)) (by decide)) rfl ?_
 refine r_blk_own (es := (exL0.Beams.map BeamV.cells)) (C' := [(own (some ⟨b7, 0, none⟩) 3 101 4 (exL0.Beams.map BeamV.cells)), _, _, _, _]) 0 rfl (map_len BeamV.cells_length _) rfl (by show _ ≤ maxLen; exact Nat.le_trans (m := 10) (by first | decide | (show (1 : Nat) ≤ 10; decide)) (by decide)) rfl <| r_tie0 <| r_tie (X := []) (X' := nest ClockM.owns exL0.Clocks [((some ⟨b5, 0, none⟩), 2)]) 0 3 rfl rfl rfl <| SW4 rfl ts28 rfl <| RK hK3 <| w_ret ?_
 refine hQ _ _ _ (l_nil (vs := [(Value.agg (LineV.cells (LineV.mk (TrackV.mk (Slc.mk (some ⟨b4, 0, none⟩) 1 1)) 2000 (Slc.mk (some ⟨b6, 0, none⟩) 1 1) (Slc.mk (some ⟨b7, 0, none⟩) 3 3) 1 0 1)).toArray)]) ⟨⟨_, rfl, .inl ⟨_, _, tk28, at_blk (vs := (LineV.cells (LineV.mk (TrackV.mk (Slc.mk (some ⟨b4, 0, none⟩) 1 1)) 2000 (Slc.mk (some ⟨b6, 0, none⟩) 1 1) (Slc.mk (some ⟨b7, 0, none⟩) 3 3) 1 0 1))) 4 rfl rfl, rfl, rfl⟩⟩, trivial⟩ fun w hs => endX ((some ⟨b4, 0, none⟩), 1, (some ⟨b6, 0, none⟩), 1, [((some ⟨b5, 0, none⟩), 2)], (some ⟨b7, 0, none⟩), 3) [3, 2, 0, 1] ?_ ?_ rfl rfl (by simp only [List.all_cons, List.all_nil, bund_owns_wr, Bool.and_true]; rfl) hs)
 · rfl
 · exact ⟨rfl, ex_in _ (by decide)⟩
set_option maxRecDepth 100000 in
set_option maxHeartbeats 400000 in
theorem exride_c  :
    FnX Tryz.prog 50 [] [] (fun (x : (Option Addr) × Nat) => (Value.agg (RideV.cells (RideV.mk exR.Start exR.Now (Slc.mk x.1 exR.Signals.length x.2))).toArray)) (fun (x : (Option Addr) × Nat) => True) (fun (x : (Option Addr) × Nat) => [(own x.1 x.2 67 2 (exR.Signals.map SignalV.cells))]) := by
 refine fnX_of go50 Tryz.func50 rfl rfl fun w0 Q hQ hN => ?_
 try dsimp only
 refine WS fun _ hK1 => AL rfl tz31 fun b2 => RK hK1 <| WS fun _ hK3 => rS (SX (sd_build (xs := [(0, .const (Value.int .i64 0)), (1, .const (Value.int .i64 10600))]) (cs := (SignalV.cells (SignalV.mk 0 10600))) rfl rfl (built_of tb67 rfl)) rfl rfl) <| rS (SX (sd_build (xs := [(0, .const (Value.int .i64 0)), (1, .const (Value.int .i64 11000))]) (cs := (SignalV.cells (SignalV.mk 0 11000))) rfl rfl (built_of tb67 rfl)) rfl rfl) <| rS (SX (sd_build (xs := [(0, .const (Value.int .i64 1)), (1, .const (Value.int .i64 12600))]) (cs := (SignalV.cells (SignalV.mk 1 12600))) rfl rfl (built_of tb67 rfl)) rfl rfl) <| r_bs (xs := [.tmp 1, .tmp 2, .tmp 3]) (cs := ((SignalV.cells (SignalV.mk 0 10600)) ++ (SignalV.cells (SignalV.mk 0 11000)) ++ (SignalV.cells (SignalV.mk 1 12600)))) rfl te29 tz67 rfl rfl rfl rfl (by simp [Value.cells, SignalV.cells_length]) rfl rfl fun b4 => rS (SX (sd_build (xs := [(0, .const (Value.int .i64 10000)), (1, .const (Value.int .i64 20000)), (2, .tmp 4)]) (cs := (RideV.cells (RideV.mk 10000 20000 (Slc.mk (some ⟨b4, 0, none⟩) 3 3)))) rfl rfl (built_of tb31 rfl)) rfl rfl) <| r_blk_own (es := (exR.Signals.map SignalV.cells)) (C' := [(own (some ⟨b4, 0, none⟩) 3 67 2 (exR.Signals.map SignalV.cells)), _]) 0 rfl (map_len SignalV.cells_length _) rfl (by decide) rfl ?_
 refine SW1 rfl ts31 rfl <| RK hK3 <| w_ret ?_
 refine hQ _ _ _ (l_nil (vs := [(Value.agg (RideV.cells (RideV.mk 10000 20000 (Slc.mk (some ⟨b4, 0, none⟩) 3 3))).toArray)]) ⟨⟨_, rfl, .inl ⟨_, _, tk31, at_blk (vs := (RideV.cells (RideV.mk 10000 20000 (Slc.mk (some ⟨b4, 0, none⟩) 3 3)))) 1 rfl rfl, rfl, rfl⟩⟩, trivial⟩ fun w hs => endX ((some ⟨b4, 0, none⟩), 3) [0] ?_ ?_ rfl rfl rfl hs)
 · rfl
 · trivial
end
section
open Go.RowKit
set_option linter.unusedVariables false
set_option maxRecDepth 100000 in
set_option maxHeartbeats 400000 in
theorem exahead_c (x : Int) (lo : Int) (hi : Int) :
    FnV Tryz.prog 51 [(Value.int .i64 x), (Value.int .i64 lo), (Value.int .i64 hi)] [] (Value.bool (decide (aheadE exL1 0 x = 0 ∧ aheadV exL1 0 x = SpanV.mk lo hi))) := by
 refine fnV_of go51 Tryz.func51 rfl rfl fun w0 Q hQ hN => ?_
 try dsimp only
 refine WS fun _ hK1 => rS (AG rfl) <| RK hK1 <| WS fun _ hK2 => cX line1_c (ha_nil) rfl fun y3 hy4 => ?_
 obtain ⟨a15, c16, a27, c28, bz9, a310, c311⟩ := y3
 try dsimp only
 obtain ⟨hbz, hlin⟩ := hy4
 refine rS (MV rfl) <| rS (CL (Ahead_c exL1 a15 c16 bz9 a27 c28 a310 c311 0 x (by exact hlin)) (ha_cons (has_own_n (n := exL1.Track.length) 0 rfl (by simp)) <| ha_cons (has_own_n (n := exL1.Clocks.length) 1 rfl (zip_len (by first | exact hbz | assumption))) <| ha_cons (bun_bund 2 rfl owns_rds) <| ha_cons (has_own_n (n := exL1.Beams.length) 3 rfl (by simp)) <| ha_nil) rfl) <| rS (MV rfl) <| rS (EX rfl) <| rS (EX rfl) <| AL rfl tz47 fun b12 => SW0 rfl ts47 rfl <| rS (AG rfl) <| RK hK2 <| w_seq fun _ hK13 => ?_
 refine w_draw mixed 10 (by kernel_rfl) <| dS (MV rfl) <| dS (BI rfl b_eql) <| dS (MV rfl) ?_
 refine d_bool (t := 17) rfl (fun h17 => ?_) (fun h17 => ?_)
 rotate_left 1
 · replace h17 := DF h17
   refine dS (OX rfl) <| dS (OX rfl) <| dS (OX rfl) <| dS (OX rfl) <| dS (OX rfl) <| dS (PK rfl) <| dS (AG rfl) <| d_end <| RK hK13 <| w_ret ?_
   refine Q1 hQ rfl rfl rfl ?_
   first | exact congrArg Value.bool (decide_eq_false fun q => h17 q.1).symm | exact congrArg Value.bool (decide_eq_decide.2 ⟨fun q => ⟨h17, q⟩, fun q => q.2⟩)
 replace h17 := DT h17
 refine dS (LW 0 rfl tk47 rfl rfl) <| dS (MV rfl) <| dS (MV rfl) <| dS (CL (lspan_c lo hi) (ha_nil) rfl) <| dS (BI rfl (eqs47 _ _ (aheadV exL1 0 x) (SpanV.mk lo hi))) <| dS (PK rfl) <| dS (AG rfl) <| d_end <| RK hK13 <| w_ret ?_
 refine Q1 hQ rfl rfl rfl ?_
 first | exact congrArg Value.bool (decide_eq_false fun q => h17 q.1).symm | exact congrArg Value.bool (decide_eq_decide.2 ⟨fun q => ⟨h17, q⟩, fun q => q.2⟩)
set_option maxRecDepth 100000 in
set_option maxHeartbeats 400000 in
theorem expassed_c (x : Int) (lo : Int) (hi : Int) :
    FnV Tryz.prog 52 [(Value.int .i64 x), (Value.int .i64 lo), (Value.int .i64 hi)] [] (Value.bool (decide (passedE exL1 exR x = 0 ∧ passedV exL1 exR x = SpanV.mk lo hi))) := by
 refine fnV_of go52 Tryz.func52 rfl rfl fun w0 Q hQ hN => ?_
 try dsimp only
 refine WS fun _ hK1 => rS (AG rfl) <| RK hK1 <| WS fun _ hK2 => cX line1_c (ha_nil) rfl fun y3 hy4 => ?_
 obtain ⟨a15, c16, a27, c28, bz9, a310, c311⟩ := y3
 try dsimp only
 obtain ⟨hbz, hlin⟩ := hy4
 refine cX exride_c (ha_nil) rfl fun y12 hy13 => ?_
 obtain ⟨a14, c15⟩ := y12
 try dsimp only
 refine rS (MV rfl) <| rS (CL (Passed_c exL1 a15 c16 bz9 a27 c28 a310 c311 exR a14 c15 x (by exact hlin) (by decide)) (ha_cons (has_own_n (n := exL1.Track.length) 1 rfl (by simp)) <| ha_cons (has_own_n (n := exL1.Clocks.length) 2 rfl (zip_len (by first | exact hbz | assumption))) <| ha_cons (bun_bund 3 rfl owns_rds) <| ha_cons (has_own_n (n := exL1.Beams.length) 4 rfl (by simp)) <| ha_cons (has_own_n (n := exR.Signals.length) 0 rfl (by simp)) <| ha_nil) rfl) <| rS (MV rfl) <| rS (EX rfl) <| rS (EX rfl) <| AL rfl tz47 fun b16 => SW0 rfl ts47 rfl <| rS (AG rfl) <| RK hK2 <| w_seq fun _ hK17 => ?_
 refine w_draw mixed 10 (by kernel_rfl) <| dS (MV rfl) <| dS (BI rfl b_eql) <| dS (MV rfl) ?_
 refine d_bool (t := 18) rfl (fun h18 => ?_) (fun h18 => ?_)
 rotate_left 1
 · replace h18 := DF h18
   refine dS (OX rfl) <| dS (OX rfl) <| dS (OX rfl) <| dS (OX rfl) <| dS (OX rfl) <| dS (PK rfl) <| dS (AG rfl) <| d_end <| RK hK17 <| w_ret ?_
   refine Q1 hQ rfl rfl rfl ?_
   first | exact congrArg Value.bool (decide_eq_false fun q => h18 q.1).symm | exact congrArg Value.bool (decide_eq_decide.2 ⟨fun q => ⟨h18, q⟩, fun q => q.2⟩)
 replace h18 := DT h18
 refine dS (LW 0 rfl tk47 rfl rfl) <| dS (MV rfl) <| dS (MV rfl) <| dS (CL (lspan_c lo hi) (ha_nil) rfl) <| dS (BI rfl (eqs47 _ _ (passedV exL1 exR x) (SpanV.mk lo hi))) <| dS (PK rfl) <| dS (AG rfl) <| d_end <| RK hK17 <| w_ret ?_
 refine Q1 hQ rfl rfl rfl ?_
 first | exact congrArg Value.bool (decide_eq_false fun q => h18 q.1).symm | exact congrArg Value.bool (decide_eq_decide.2 ⟨fun q => ⟨h18, q⟩, fun q => q.2⟩)
set_option maxRecDepth 100000 in
set_option maxHeartbeats 400000 in
theorem alive_c  :
    FnV Tryz.prog 25 [] [] (Value.bool true) := by
 have hxl : exR.Signals.length = 3 := rfl
 refine fnV_of go25 Tryz.func25 rfl rfl fun w0 Q hQ hN => ?_
 try dsimp only
 refine WS fun _ hK1 => rS (AG rfl) <| RK hK1 <| WS fun _ hK2 => cX line1_c (ha_nil) rfl fun y3 hy4 => ?_
 obtain ⟨a15, c16, a27, c28, bz9, a310, c311⟩ := y3
 try dsimp only
 obtain ⟨hbz, hlin⟩ := hy4
 refine cX exride_c (ha_nil) rfl fun y12 hy13 => ?_
 obtain ⟨a14, c15⟩ := y12
 try dsimp only
 refine rS (SX (sd_field1 (v := (Value.slice a14 exR.Signals.length c15)) rfl rfl fo31_2 tf31_2 rfl) rfl rfl) ?_
 obtain ⟨x, hx⟩ : ∃ y_, exR.Signals[0]? = some y_ := ⟨exR.Signals[0]'(by omega), List.getElem?_eq_getElem _⟩
 have hxm : (exR.Signals.map SignalV.cells)[0]? = some (SignalV.cells x) := by rw [List.getElem?_map, hx]; rfl
 refine rS (IA 0 rfl (has_own_n (n := exR.Signals.length) 0 rfl (by simp)) te29 (by decide) rfl (by omega)) <| rS (LEN 0 0 (SignalV.cells x) rfl tk67 (has_own_n (n := exR.Signals.length) 0 rfl (by simp)) hxm rfl (by decide) rfl rfl) <| rS (CL (When_c exL1 a15 c16 bz9 a27 c28 a310 c311 x (by exact hlin)) (ha_cons (has_own_n (n := exL1.Track.length) 1 rfl (by simp)) <| ha_cons (has_own_n (n := exL1.Clocks.length) 2 rfl (zip_len (by first | exact hbz | assumption))) <| ha_cons (bun_bund 3 rfl owns_rds) <| ha_cons (has_own_n (n := exL1.Beams.length) 4 rfl (by simp)) <| ha_nil) rfl) <| rS (MV rfl) <| rS (EX rfl) <| rS (EX rfl) <| AL rfl tz47 fun b16 => SW0 rfl ts47 rfl <| rS (AG rfl) <| RK hK2 ?_
 refine WS fun _ hK17 => cX line1_c (ha_nil) rfl fun y18 hy19 => ?_
 obtain ⟨a120, c121, a222, c223, bz24, a325, c326⟩ := y18
 try dsimp only
 obtain ⟨hbz, hlin⟩ := hy19
 refine cX exride_c (ha_nil) rfl fun y27 hy28 => ?_
 obtain ⟨a29, c30⟩ := y27
 try dsimp only
 refine cX (Where_c exL1 a120 c121 bz24 a222 c223 a325 c326 exR a29 c30 (by exact hlin) (by decide)) (ha_cons (has_own_n (n := exL1.Track.length) 1 rfl (by simp)) <| ha_cons (has_own_n (n := exL1.Clocks.length) 2 rfl (zip_len (by first | exact hbz | assumption))) <| ha_cons (bun_bund 3 rfl owns_rds) <| ha_cons (has_own_n (n := exL1.Beams.length) 4 rfl (by simp)) <| ha_cons (has_own_n (n := exR.Signals.length) 0 rfl (by simp)) <| ha_nil) rfl fun y31 hy32 => ?_
 obtain ⟨a33, c34⟩ := y31
 try dsimp only
 refine rS (MV rfl) <| rS (EX rfl) <| rS (EX rfl) <| rS (AG rfl) <| rS (AG rfl) <| RK hK17 <| WS fun _ hK35 => cX line1_c (ha_nil) rfl fun y36 hy37 => ?_
 obtain ⟨a138, c139, a240, c241, bz42, a343, c344⟩ := y36
 try dsimp only
 obtain ⟨hbz, hlin⟩ := hy37
 refine cX exride_c (ha_nil) rfl fun y45 hy46 => ?_
 obtain ⟨a47, c48⟩ := y45
 try dsimp only
 refine rS (CL (Clear_c exL1 a138 c139 bz42 a240 c241 a343 c344 exR a47 c48 (by exact hlin) (by decide)) (ha_cons (has_own_n (n := exL1.Track.length) 1 rfl (by simp)) <| ha_cons (has_own_n (n := exL1.Clocks.length) 2 rfl (zip_len (by first | exact hbz | assumption))) <| ha_cons (bun_bund 3 rfl owns_rds) <| ha_cons (has_own_n (n := exL1.Beams.length) 4 rfl (by simp)) <| ha_cons (has_own_n (n := exR.Signals.length) 0 rfl (by simp)) <| ha_nil) rfl) <| rS (MV rfl) <| rS (EX rfl) <| rS (EX rfl) <| rS (AG rfl) <| rS (AG rfl) <| RK hK35 <| WS fun _ hK49 => cX line1_c (ha_nil) rfl fun y50 hy51 => ?_
 obtain ⟨a152, c153, a254, c255, bz56, a357, c358⟩ := y50
 try dsimp only
 obtain ⟨hbz, hlin⟩ := hy51
 refine cX exride_c (ha_nil) rfl fun y59 hy60 => ?_
 obtain ⟨a61, c62⟩ := y59
 try dsimp only
 refine rS (CL (Ran_c exL1 a152 c153 bz56 a254 c255 a357 c358 exR a61 c62 (by exact hlin) (by decide)) (ha_cons (has_own_n (n := exL1.Track.length) 1 rfl (by simp)) <| ha_cons (has_own_n (n := exL1.Clocks.length) 2 rfl (zip_len (by first | exact hbz | assumption))) <| ha_cons (bun_bund 3 rfl owns_rds) <| ha_cons (has_own_n (n := exL1.Beams.length) 4 rfl (by simp)) <| ha_cons (has_own_n (n := exR.Signals.length) 0 rfl (by simp)) <| ha_nil) rfl) <| rS (MV rfl) <| rS (EX rfl) <| rS (EX rfl) <| AL rfl tz47 fun b63 => SW0 rfl ts47 rfl <| rS (AG rfl) <| RK hK49 <| WS fun _ hK64 => cX line0_c (ha_nil) rfl fun y65 hy66 => ?_
 obtain ⟨a167, c168, a269, c270, bz71, a372, c373⟩ := y65
 try dsimp only
 obtain ⟨hbz, hlin⟩ := hy66
 refine cX exride_c (ha_nil) rfl fun y74 hy75 => ?_
 obtain ⟨a76, c77⟩ := y74
 try dsimp only
 refine cX (Where_c exL0 a167 c168 bz71 a269 c270 a372 c373 exR a76 c77 (by exact hlin) (by decide)) (ha_cons (has_own_n (n := exL0.Track.length) 1 rfl (by simp)) <| ha_cons (has_own_n (n := exL0.Clocks.length) 2 rfl (zip_len (by first | exact hbz | assumption))) <| ha_cons (bun_bund 3 rfl owns_rds) <| ha_cons (has_own_n (n := exL0.Beams.length) 4 rfl (by simp)) <| ha_cons (has_own_n (n := exR.Signals.length) 0 rfl (by simp)) <| ha_nil) rfl fun y78 hy79 => ?_
 obtain ⟨a80, c81⟩ := y78
 try dsimp only
 refine rS (MV rfl) <| rS (EX rfl) <| rS (EX rfl) <| rS (AG rfl) <| rS (AG rfl) <| RK hK64 <| w_seq fun _ hK82 => w_drawN mixed [0, 1, 2, 3, 4, 5, 6, 7, 8, 9, 10, 11, 12, 13, 14, 15] [16, 17, 18, 19, 20, 21, 22, 23, 24, 25, 26, 27, 28, 29, 30, 31, 32, 33, 34, 35, 36, 37, 38, 39, 40, 41, 42, 43, 44, 45, 46] [false, false, false, false, false, false, false, false, false, false, false, false, false, false, false, false] [] [(own a80 c81 3 1 ((whereV exL0 exR).map iC)), (own a76 c77 67 2 (exR.Signals.map SignalV.cells)), (own a167 c168 141 9 (exL0.Track.map StretchV.cells)), (own a269 c270 63 2 (List.zipWith ClockM.cells exL0.Clocks bz71)), (bund (nest ClockM.owns exL0.Clocks bz71)), (own a372 c373 101 4 (exL0.Beams.map BeamV.cells)), (blk b63 47 (SpanV.cells (ranV exL1 exR))), (own a61 c62 67 2 (exR.Signals.map SignalV.cells)), (own a152 c153 141 9 (exL1.Track.map StretchV.cells)), (own a254 c255 63 2 (List.zipWith ClockM.cells exL1.Clocks bz56)), (bund (nest ClockM.owns exL1.Clocks bz56)), (own a357 c358 101 4 (exL1.Beams.map BeamV.cells)), (own a47 c48 67 2 (exR.Signals.map SignalV.cells)), (own a138 c139 141 9 (exL1.Track.map StretchV.cells)), (own a240 c241 63 2 (List.zipWith ClockM.cells exL1.Clocks bz42)), (bund (nest ClockM.owns exL1.Clocks bz42)), (own a343 c344 101 4 (exL1.Beams.map BeamV.cells)), (own a33 c34 3 1 ((whereV exL1 exR).map iC)), (own a29 c30 67 2 (exR.Signals.map SignalV.cells)), (own a120 c121 141 9 (exL1.Track.map StretchV.cells)), (own a222 c223 63 2 (List.zipWith ClockM.cells exL1.Clocks bz24)), (bund (nest ClockM.owns exL1.Clocks bz24)), (own a325 c326 101 4 (exL1.Beams.map BeamV.cells)), (blk b16 47 (SpanV.cells (whenV exL1 x))), (own a14 c15 67 2 (exR.Signals.map SignalV.cells)), (own a15 c16 141 9 (exL1.Track.map StretchV.cells)), (own a27 c28 63 2 (List.zipWith ClockM.cells exL1.Clocks bz9)), (bund (nest ClockM.owns exL1.Clocks bz9)), (own a310 c311 101 4 (exL1.Beams.map BeamV.cells))] [] (by kernel_rfl) (fun w hs => St.sel [0, 1, 2, 3, 4, 5, 6, 7, 8, 9, 10, 11, 12, 13, 14, 15, 16, 17, 18, 19, 20, 21, 22, 23, 24, 25, 26, 27, 28] rfl rfl hs) (fun w hs => St.sel [] rfl rfl hs) <| eS rfl (CL (exahead_c 10000 (-1) 3) (ha_nil) rfl) <| eS rfl (MV rfl) ?_
 refine d_boolN (t := 45) rfl (fun h45 => ?_) (fun h45 => ?_)
 rotate_left 1
 · replace h45 := DF h45
   exact absurd (ex_ahead) h45
 replace h45 := DT h45
 refine eS rfl (MV rfl) <| eS rfl (BI rfl b_eql) <| eS rfl (PK rfl) <| eS rfl (MV rfl) ?_
 refine d_boolN (t := 49) rfl (fun h49 => ?_) (fun h49 => ?_)
 rotate_left 1
 · replace h49 := DF h49
   exact absurd (by rw [ex_sig hx]; exact ex_when.1) h49
 replace h49 := DT h49
 refine eS rfl (LW 23 rfl tk47 rfl rfl) <| eS rfl (CL (lspan_c 10596 10602) (ha_nil) rfl) <| eS rfl (BI rfl (eqs47 _ _ (whenV exL1 x) (SpanV.mk 10596 10602))) <| eS rfl (PK rfl) <| eS rfl (MV rfl) ?_
 refine d_boolN (t := 54) rfl (fun h54 => ?_) (fun h54 => ?_)
 rotate_left 1
 · replace h54 := DF h54
   exact absurd (by rw [ex_sig hx]; exact ex_when.2) h54
 replace h54 := DT h54
 refine eS rfl (MV rfl) <| eS rfl (BI rfl b_eql) <| eS rfl (PK rfl) <| eS rfl (MV rfl) ?_
 refine d_boolN (t := 58) rfl (fun h58 => ?_) (fun h58 => ?_)
 rotate_left 1
 · replace h58 := DF h58
   exact absurd (ex_open1) h58
 replace h58 := DT h58
 refine eS rfl (MV rfl) <| d_fin rfl <| N1 16 <| NO rfl rfl [17,18,19,20,21,22,23,24,25,26,27,28,29,30,31,32,33,34,35,36,37,38,39,40,41,42,43,44,45,46] fun T83 hT83 => r_bs (xs := [.const (Value.int .i64 2), .const (Value.int .i64 3)]) (cs := [(Value.int .i64 2), (Value.int .i64 3)]) rfl te35 tz3 rfl rfl rfl rfl (by simp [Value.cells]) rfl rfl fun b84 => RD hT83 1 rfl <| n_pure [61, 62, 63, 64, 65, 66, 67, 68, 69, 70, 71, 72, 73, 74, 75, 76, 77, 78, 79, 80, 81, 82, 83, 84, 85, 86, 87, 88, 89, 0] (by kernel_rfl) (by kernel_rfl) rfl _ rfl rfl (fun w hs => St.sel [1, 2, 3, 4, 5, 6, 7, 8, 9, 10, 11, 12, 13, 14, 15, 16, 17, 18, 19, 20, 21, 22, 23, 24, 25, 26, 27, 28, 29] rfl rfl hs) <| dS (CL (sameints_c (whereV exL1 exR) a33 c34 ([2, 3]) (some ⟨b84, 0, none⟩) 2 (by rw [ex_where]; decide) (by decide)) (ha_cons (has_own_n (n := (whereV exL1 exR).length) 18 rfl (by simp)) <| ha_cons (has_rd_blk 0 rfl rfl (by simp [iC_length]) rfl) <| ha_nil) rfl) <| dS (PK rfl) <| dS (MV rfl) ?_
 refine d_bool (t := 63) rfl (fun h63 => ?_) (fun h63 => ?_)
 rotate_left 1
 · replace h63 := DF h63
   exact absurd (ex_where) h63
 replace h63 := DT h63
 refine dS (MV rfl) <| dS (BI rfl b_eql) <| dS (PK rfl) <| dS (MV rfl) ?_
 refine d_bool (t := 67) rfl (fun h67 => ?_) (fun h67 => ?_)
 rotate_left 1
 · replace h67 := DF h67
   exact absurd (ex_open1) h67
 replace h67 := DT h67
 refine dS (MV rfl) <| dS (BI rfl b_eql) <| dS (PK rfl) <| dS (MV rfl) ?_
 refine d_bool (t := 71) rfl (fun h71 => ?_) (fun h71 => ?_)
 rotate_left 1
 · replace h71 := DF h71
   exact absurd (ex_clear) h71
 replace h71 := DT h71
 refine dS (CL (expassed_c 0 10596 11002) (ha_nil) rfl) <| dS (PK rfl) <| dS (MV rfl) ?_
 refine d_bool (t := 74) rfl (fun h74 => ?_) (fun h74 => ?_)
 rotate_left 1
 · replace h74 := DF h74
   exact absurd (ex_pass0) h74
 replace h74 := DT h74
 refine dS (CL (expassed_c 1 12596 12602) (ha_nil) rfl) <| dS (PK rfl) <| dS (MV rfl) ?_
 refine d_bool (t := 77) rfl (fun h77 => ?_) (fun h77 => ?_)
 rotate_left 1
 · replace h77 := DF h77
   exact absurd (ex_pass1) h77
 replace h77 := DT h77
 refine dS (MV rfl) <| dS (BI rfl b_eql) <| dS (PK rfl) <| dS (MV rfl) ?_
 refine d_bool (t := 81) rfl (fun h81 => ?_) (fun h81 => ?_)
 rotate_left 1
 · replace h81 := DF h81
   exact absurd (ex_ran.1) h81
 replace h81 := DT h81
 refine dS (LW 7 rfl tk47 rfl rfl) <| dS (CL (lspan_c 2596 2602) (ha_nil) rfl) <| dS (BI rfl (eqs47 _ _ (ranV exL1 exR) (SpanV.mk 2596 2602))) <| dS (PK rfl) <| dS (MV rfl) ?_
 refine d_bool (t := 86) rfl (fun h86 => ?_) (fun h86 => ?_)
 rotate_left 1
 · replace h86 := DF h86
   exact absurd (ex_ran.2) h86
 replace h86 := DT h86
 refine dS (MV rfl) <| dS (BI rfl b_eql) <| dS (PK rfl) <| dS (AG rfl) <| d_end <| RK hK82 <| w_ret <| Q1 hQ rfl rfl rfl ?_
 exact congrArg Value.bool (decide_eq_true ex_open0)
end
section
open Go.RowKit
set_option linter.unusedVariables false
set_option maxRecDepth 100000 in
set_option maxHeartbeats 400000 in
theorem within_5 (n : Int) (lo : Int) (hi : Int) :
    FnV Tryz.prog 43 [(Value.int .i64 n), (Value.int .i64 lo), (Value.int .i64 hi)] [] (Value.bool (decide (lo ≤ n ∧ n ≤ hi))) := by
 refine fnV_of go43 Tryz.func43 rfl rfl fun w0 Q hQ hN => ?_
 try dsimp only
 refine WS fun _ hK1 => rS (AG rfl) <| RK hK1 <| WS fun _ hK2 => rS (MV rfl) <| rS (MV rfl) <| rS (BI rfl b_geq) <| rS (MV rfl) ?_
 refine r_bool (t := 10) rfl (fun h3 => ?_) (fun h3 => ?_)
 rotate_left 1
 · replace h3 := DF h3
   refine rS (OX rfl) <| rS (OX rfl) <| rS (OX rfl) <| rS (PK rfl) <| rS (AG rfl) <| RK hK2 <| w_ret <| Q1 hQ rfl rfl rfl ?_
   exact congrArg Value.bool (decide_eq_false (by omega)).symm
 replace h3 := DT h3
 refine rS (MV rfl) <| rS (MV rfl) <| rS (BI rfl b_leq) <| rS (PK rfl) <| rS (AG rfl) <| RK hK2 <| w_ret <| Q1 hQ rfl rfl rfl ?_
 exact congrArg Value.bool (decide_eq_decide.2 (by omega))
set_option maxRecDepth 100000 in
set_option maxHeartbeats 400000 in
theorem rmarks_c (ts : List StretchV) (tsA : Option Addr) (tsC : Nat) (hst : ∀ x ∈ ts, StretchOk x) (hlen : ts.length ≤ 12) :
    FnX Tryz.prog 136 [(Value.agg (TrackV.cells (TrackV.mk (Slc.mk tsA ts.length tsC))).toArray)] [(rd tsA ts.length 9 (ts.map StretchV.cells))] (fun (x : (Option Addr) × Nat) => (Value.slice x.1 ((marksS ts (ts.length + 1)).length) x.2)) (fun (x : (Option Addr) × Nat) => True) (fun (x : (Option Addr) × Nat) => [(own x.1 x.2 47 2 ((marksS ts (ts.length + 1)).map SpanV.cells))]) := by
 refine fnX_of go136 Tryz.func136 rfl rfl fun w0 Q hQ hN => ?_
 try dsimp only
 refine WS fun _ hK1 => BXA rfl fun b2 => rS (AG rfl) <| RK hK1 <| WS fun _ hK3 => rS (AG rfl) <| RK hK3 <| w_seq fun _ hK4 => WS fun _ hK5 => rS (AG rfl) ?_
 refine RK hK5 <| w_block <| w_own_nil 47 2 ?_
 have hinit : (0 ≤ ts.length + 1) := by exact Nat.zero_le _
 refine w_loop (ι := { z : Nat × (Option Addr) × Nat // (z.1 ≤ ts.length + 1) }) (fun z => [(1, (Value.pointer (some ⟨b2, 0, none⟩))), (3, (Value.slice z.1.2.1 ((marksS ts z.1.1).length) z.1.2.2)), (4, (Value.int .i64 ((z.1.1 : Nat) : Int)))]) (fun z => [(own z.1.2.1 z.1.2.2 47 2 ((marksS ts z.1.1).map SpanV.cells)), (blk b2 24 (TrackV.cells (TrackV.mk (Slc.mk tsA ts.length tsC)))), (rd tsA ts.length 9 (ts.map StretchV.cells)).ro]) (fun z => ts.length + 1 - z.1.1) ⟨(0, none, 0), hinit⟩ (Sub.cons rfl <| Sub.cons rfl <| Sub.cons rfl <| Sub.nil _) (fun w hs => St.sel [0, 1, 2] rfl rfl hs) ?_
 clear hinit
 rintro ⟨⟨i, a, c⟩, hl0_0⟩ J6 hJ6
 try dsimp only at hl0_0
 try dsimp only
 refine w_seq fun _ hK7 => WS fun _ hK8 => rS (MV rfl) <| rS (FA 0 rfl fo24_0 rfl) <| rS (L1 (Value.slice tsA ts.length tsC) 1 rfl tk22 rfl rfl) <| rS (LN rfl ut22) <| rS (BI rfl b_leq) <| RK hK8 ?_
 refine w_if rfl (fun h9 => ?_) (fun h9 => ?_)
 rotate_left 1
 · replace h9 := DF h9
   refine w_exit <| k_exit_then <| k_exit_then <| k_exit_same <| KK hK4 <| WS fun _ hK18 => ?_
   obtain rfl : i = ts.length + 1 := by omega
   refine rS (MV rfl) <| rS (AG rfl) <| RK hK18 <| w_ret ?_
   refine hQ _ _ _ (l_nil (vs := [(Value.slice a ((marksS ts (ts.length + 1)).length) c)]) ⟨rfl, trivial⟩ fun w hs => endX (a, c) [0] ?_ ?_ rfl rfl rfl hs)
   · rfl
   · trivial
 replace h9 := DT h9
 refine WK hK7 <| w_seq fun _ hK10 => w_block <| WS fun _ hK11 => rS (LW 1 rfl tk24 rfl rfl) <| rS (MV rfl) <| rS (CL (rdrop_c ts tsA tsC 0 ((i : Nat) : Int) hst hlen (by omega)) (ha_at 2 rfl rfl <| ha_nil) rfl) <| rS (MV rfl) <| rS (EX rfl) <| rS (EX rfl) ?_
 refine AL rfl tz47 fun b12 => AL rfl tz47 fun b13 => SW1 rfl ts47 rfl <| SW0 rfl ts47 rfl <| RK hK11 <| w_region <| rS (MV rfl) <| rS (LW 1 rfl tk47 rfl rfl) <| r_bs (xs := [.tmp 21]) (cs := (SpanV.cells (longF ts (0 : Int).toNat (((i : Nat) : Int) - 0).toNat))) rfl te127 tz47 rfl rfl rfl rfl (by simp [Value.cells, SpanV.cells_length]) rfl rfl fun b14 => r_append (es2 := (List.map SpanV.cells (marksS ts (i + 1)))) (m' := (marksS ts (i + 1)).length) 3 rfl rfl rfl ta127 rfl rfl (by simp) (has_rd_blk (es := List.map SpanV.cells [(longF ts (0 : Int).toNat (((i : Nat) : Int) - 0).toNat)]) 0 rfl rfl (by simp [SpanV.cells_length]) rfl) (one_SpanV_cells _) (by simp only [marksS_length]; omega) (by simp only [maxLen, marksS_length]; omega) (by rw [marksS_succ]; simp) (by simp) rfl fun a15 c16 => ?_
 try dsimp only
 refine rS (AG rfl) <| r_nil <| k_block <| KK hK10 <| w_region <| rS (MV rfl) <| rS (BI rfl (b_add ⟨by omega, by omega⟩)) <| rS (AG rfl) <| r_nil ?_
 have hb17 : (Value.int .i64 (((i + 1) : Nat) : Int)) = (Value.int .i64 (((i : Nat) : Int) + 1)) := by exact congrArg (Value.int .i64) (by omega)
 refine k_then (hJ6 ⟨((i + 1), a15, c16), (by first | omega | (simp only []; omega))⟩ _ _ _ rfl (by first | omega | (simp; omega)) (Sub.cons rfl <| Sub.cons rfl <| sub_val rfl hb17 <| Sub.nil _) (fun w hs => St.sel [3, 4, 5] rfl rfl hs))
set_option maxRecDepth 100000 in
set_option maxHeartbeats 400000 in
theorem rat_c (ts : List StretchV) (tsA : Option Addr) (tsC : Nat) (s : SpotV) (hlen : ts.length ≤ 1000000) (hside : ∀ x ∈ ts, 0 ≤ x.Side ∧ x.Side ≤ 255) :
    FnV Tryz.prog 122 [(Value.agg (TrackV.cells (TrackV.mk (Slc.mk tsA ts.length tsC))).toArray), (Value.agg (SpotV.cells s).toArray)] [(rd tsA ts.length 9 (ts.map StretchV.cells))] (Value.tuple [(Value.agg (SpanV.cells (atV ts s)).toArray), (Value.int .i64 (atE ts s))].toArray) := by
 refine fnV_of go122 Tryz.func122 rfl rfl fun w0 Q hQ hN => ?_
 try dsimp only
 refine WS fun _ hK1 => BXA rfl fun b2 => BXA rfl fun b3 => AL rfl tz47 fun b4 => rS (AG rfl) <| RK hK1 <| w_seq fun _ hK5 => WS fun _ hK6 => rS (LW 2 rfl tk24 rfl rfl) <| rS (CL (track_c ts tsA tsC hlen) (ha_at 3 rfl rfl <| ha_nil) rfl) ?_
 refine rS (NT rfl) <| RK hK6 ?_
 refine w_if rfl (fun h9 => ?_) (fun h9 => ?_)
 · rw [Bool.not_eq_true'] at h9
   refine WS fun _ hK7 => rS (SX (sd_build (xs := []) (cs := (SpanV.cells (SpanV.mk 0 0))) rfl rfl (built_of tb47 rfl)) rfl rfl) <| SW0 rfl ts47 rfl <| rS (AG rfl) <| RK hK7 <| w_ret ?_
   refine hQ _ _ _ (l_nil (vs := [(Value.agg (SpanV.cells (SpanV.mk 0 0)).toArray), (Value.int .i64 10)]) ⟨⟨_, rfl, .inl ⟨_, _, tk47, at_blk (vs := (SpanV.cells (SpanV.mk 0 0))) 0 rfl rfl, rfl, rfl⟩⟩, rfl, trivial⟩ fun w hs => endV ?_ hs)
   show (Value.tuple [(Value.agg (SpanV.cells (SpanV.mk 0 0)).toArray), (Value.int .i64 10)].toArray) = (Value.tuple [(Value.agg (SpanV.cells (atV ts s)).toArray), (Value.int .i64 (atE ts s))].toArray)
   clear hs w hQ hN hK7 hK6 hK5 hK1
   first | (have e := at_bad (s := s) (by simpa using h9); rw [e.1, e.2] <;> rfl) | (have e := at_out h9 h14; rw [e.1, e.2] <;> rfl) | (have e := at_in h9 h14; subst hzm; rw [e.1, e.2] <;> rfl)
 rw [Bool.not_eq_false'] at h9
 refine WK hK5 <| w_seq fun _ hK8 => WS fun _ hK9 => ?_
 have hst := trackOk_all h9
 have hl12 := trackOk_le h9
 refine rS (LW 2 rfl tk24 rfl rfl) <| rS (LW 1 rfl tk99 rfl rfl) <| rS (CL (rspot_c ts tsA tsC s (by first | assumption | omega | (simp; done) | (simp; omega)) (by first | assumption | omega | (simp; done) | (simp; omega))) (ha_at 3 rfl rfl <| ha_nil) rfl) <| rS (NT rfl) <| RK hK9 ?_
 refine w_if rfl (fun h14 => ?_) (fun h14 => ?_)
 · replace h14 := XT h14
   refine WS fun _ hK10 => rS (SX (sd_build (xs := []) (cs := (SpanV.cells (SpanV.mk 0 0))) rfl rfl (built_of tb47 rfl)) rfl rfl) <| SW0 rfl ts47 rfl <| rS (AG rfl) <| RK hK10 <| w_ret ?_
   refine hQ _ _ _ (l_nil (vs := [(Value.agg (SpanV.cells (SpanV.mk 0 0)).toArray), (Value.int .i64 12)]) ⟨⟨_, rfl, .inl ⟨_, _, tk47, at_blk (vs := (SpanV.cells (SpanV.mk 0 0))) 0 rfl rfl, rfl, rfl⟩⟩, rfl, trivial⟩ fun w hs => endV ?_ hs)
   show (Value.tuple [(Value.agg (SpanV.cells (SpanV.mk 0 0)).toArray), (Value.int .i64 12)].toArray) = (Value.tuple [(Value.agg (SpanV.cells (atV ts s)).toArray), (Value.int .i64 (atE ts s))].toArray)
   clear hs w hQ hN hK10 hK9 hK8 hK6 hK5 hK1
   first | (have e := at_bad (s := s) (by simpa using h9); rw [e.1, e.2] <;> rfl) | (have e := at_out h9 h14; rw [e.1, e.2] <;> rfl) | (have e := at_in h9 h14; subst hzm; rw [e.1, e.2] <;> rfl)
 replace h14 := XF h14
 refine WK hK8 <| w_seq fun _ hK11 => w_drawN mixed [0, 2, 3] [1, 4, 5, 6, 7] [false, false, false] [] [(blk b4 47 (SpanV.cells (SpanV.mk 0 0))), (blk b3 99 (SpotV.cells s)), (blk b2 24 (TrackV.cells (TrackV.mk (Slc.mk tsA ts.length tsC)))), (rd tsA ts.length 9 (ts.map StretchV.cells)).ro] [] (by kernel_rfl) (fun w hs => St.sel [0, 1, 2, 3] rfl rfl hs) (fun w hs => St.sel [] rfl rfl hs) ?_
 have hsb := h14.1
 have hof := off_in hst h14
 have hml : (marksS ts (ts.length + 1)).length = ts.length + 1 := marksS_length
 refine eS rfl (LW 2 rfl tk24 rfl rfl) <| eS rfl (FA 0 rfl fo99_0 rfl) <| eS rfl (L1 (Value.int .i64 s.Stretch) 1 rfl tk3 rfl rfl) <| d_fin rfl ?_
 refine n_step [1, 6] (by kernel_rfl) (n_cons ?_ <| n_cons ?_ <| n_nil)
 rotate_left 1
 · refine NO rfl rfl [1,4,5,7] fun T12 hT12 => ?_
   refine AL rfl tz47 fun b13 => RD hT12 1 rfl <| N1 1 <| NO rfl rfl [4,5,7] fun T14 hT14 => cX (rmarks_c ts tsA tsC (by first | assumption | omega | (simp; done) | (simp; omega)) (by first | assumption | omega | (simp; done) | (simp; omega))) (ha_at 4 rfl rfl <| ha_nil) rfl fun y15 hy16 => ?_
   obtain ⟨a17, c18⟩ := y15
   try dsimp only
   refine RD hT14 2 rfl <| N1 4 <| NO rfl rfl [5,7] fun T19 hT19 => ?_
   obtain ⟨z, hz⟩ : ∃ y_, (marksS ts (ts.length + 1))[(s.Stretch).toNat]? = some y_ := ⟨(marksS ts (ts.length + 1))[(s.Stretch).toNat]'(by omega), List.getElem?_eq_getElem _⟩
   have hzm : ((marksS ts (ts.length + 1)).map SpanV.cells)[(s.Stretch).toNat]? = some (SpanV.cells z) := by rw [List.getElem?_map, hz]; rfl
   refine rS (IA ((s.Stretch).toNat) rfl (has_own_n (n := (marksS ts (ts.length + 1)).length) 0 rfl (by simp)) te127 (by decide) (by omega) (by omega)) <| RD hT19 2 rfl <| N1 5 <| NO rfl rfl [7] fun T20 hT20 => rS (LEN ((s.Stretch).toNat) 0 (SpanV.cells z) rfl tk47 (has_own_n (n := (marksS ts (ts.length + 1)).length) 0 rfl (by simp)) hzm rfl (by decide) rfl rfl) <| RD hT20 2 rfl <| N1 7 <| NO rfl rfl [] fun T21 hT21 => SW1 rfl ts47 rfl <| RD hT21 2 rfl ?_
   refine n_fin <| KK hK11 <| WS fun _ hK22 => rS (FA 0 rfl fo47_0 rfl) ?_
   have hzm := marksS_get hz
   have hlb := longF_b hst 0 s.Stretch.toNat
   unfold In12 at hof
   rw [← hzm] at hlb
   refine rS (L1 (Value.int .i64 z.Lo) 1 rfl tk3 rfl rfl) <| rS (FA 1 rfl fo99_1 rfl) <| rS (FA 1 rfl fo47_0 rfl) <| rS (L1 (Value.int .i64 s.Off.Lo) 3 rfl tk3 rfl rfl) <| rS (BI rfl (b_add ⟨by omega, by omega⟩)) <| rS (FA 1 rfl fo47_1 rfl) <| rS (L1 (Value.int .i64 z.Hi) 1 rfl tk3 rfl rfl) <| rS (FA 1 rfl fo99_1 rfl) <| rS (FA 2 rfl fo47_1 rfl) <| rS (L1 (Value.int .i64 s.Off.Hi) 3 rfl tk3 rfl rfl) ?_
   refine rS (BI rfl (b_add ⟨by omega, by omega⟩)) <| rS (SX (sd_build (xs := [(0, .tmp 27), (1, .tmp 33)]) (cs := (SpanV.cells (SpanV.mk (z.Lo + s.Off.Lo) (z.Hi + s.Off.Hi)))) rfl rfl (built_of tb47 rfl)) rfl rfl) <| SW2 rfl ts47 rfl <| rS (AG rfl) <| RK hK22 <| w_ret ?_
   refine hQ _ _ _ (l_nil (vs := [(Value.agg (SpanV.cells (SpanV.mk (z.Lo + s.Off.Lo) (z.Hi + s.Off.Hi))).toArray), (Value.int .i64 0)]) ⟨⟨_, rfl, .inl ⟨_, _, tk47, at_blk (vs := (SpanV.cells (SpanV.mk (z.Lo + s.Off.Lo) (z.Hi + s.Off.Hi)))) 2 rfl rfl, rfl, rfl⟩⟩, rfl, trivial⟩ fun w hs => endV ?_ hs)
   show (Value.tuple [(Value.agg (SpanV.cells (SpanV.mk (z.Lo + s.Off.Lo) (z.Hi + s.Off.Hi))).toArray), (Value.int .i64 0)].toArray) = (Value.tuple [(Value.agg (SpanV.cells (atV ts s)).toArray), (Value.int .i64 (atE ts s))].toArray)
   clear hs w hQ hN hK22 hT21 T21 hT20 T20 hT19 T19 hT14 T14 hT12 T12 hK11 hK9 hK8 hK6 hK5 hK1
   first | (have e := at_bad (s := s) (by simpa using h9); rw [e.1, e.2] <;> rfl) | (have e := at_out h9 h14; rw [e.1, e.2] <;> rfl) | (have e := at_in h9 h14; subst hzm; rw [e.1, e.2] <;> rfl)
 refine NO rfl rfl [4,5,6,7] fun T12 hT12 => cX (rmarks_c ts tsA tsC (by first | assumption | omega | (simp; done) | (simp; omega)) (by first | assumption | omega | (simp; done) | (simp; omega))) (ha_at 3 rfl rfl <| ha_nil) rfl fun y13 hy14 => ?_
 obtain ⟨a15, c16⟩ := y13
 try dsimp only
 refine RD hT12 1 rfl ?_
 refine n_step [4, 6] (by kernel_rfl) (n_cons ?_ <| n_cons ?_ <| n_nil)
 rotate_left 1
 · refine NO rfl rfl [4,5,7] fun T17 hT17 => ?_
   refine AL rfl tz47 fun b18 => RD hT17 2 rfl <| N1 4 <| NO rfl rfl [5,7] fun T19 hT19 => ?_
   obtain ⟨z, hz⟩ : ∃ y_, (marksS ts (ts.length + 1))[(s.Stretch).toNat]? = some y_ := ⟨(marksS ts (ts.length + 1))[(s.Stretch).toNat]'(by omega), List.getElem?_eq_getElem _⟩
   have hzm : ((marksS ts (ts.length + 1)).map SpanV.cells)[(s.Stretch).toNat]? = some (SpanV.cells z) := by rw [List.getElem?_map, hz]; rfl
   refine rS (IA ((s.Stretch).toNat) rfl (has_own_n (n := (marksS ts (ts.length + 1)).length) 1 rfl (by simp)) te127 (by decide) (by omega) (by omega)) <| RD hT19 2 rfl <| N1 5 <| NO rfl rfl [7] fun T20 hT20 => rS (LEN ((s.Stretch).toNat) 0 (SpanV.cells z) rfl tk47 (has_own_n (n := (marksS ts (ts.length + 1)).length) 1 rfl (by simp)) hzm rfl (by decide) rfl rfl) <| RD hT20 2 rfl <| N1 7 <| NO rfl rfl [] fun T21 hT21 => SW0 rfl ts47 rfl <| RD hT21 2 rfl ?_
   refine n_fin <| KK hK11 <| WS fun _ hK22 => rS (FA 0 rfl fo47_0 rfl) ?_
   have hzm := marksS_get hz
   have hlb := longF_b hst 0 s.Stretch.toNat
   unfold In12 at hof
   rw [← hzm] at hlb
   refine rS (L1 (Value.int .i64 z.Lo) 0 rfl tk3 rfl rfl) <| rS (FA 1 rfl fo99_1 rfl) <| rS (FA 1 rfl fo47_0 rfl) <| rS (L1 (Value.int .i64 s.Off.Lo) 3 rfl tk3 rfl rfl) <| rS (BI rfl (b_add ⟨by omega, by omega⟩)) <| rS (FA 1 rfl fo47_1 rfl) <| rS (L1 (Value.int .i64 z.Hi) 0 rfl tk3 rfl rfl) <| rS (FA 1 rfl fo99_1 rfl) <| rS (FA 2 rfl fo47_1 rfl) <| rS (L1 (Value.int .i64 s.Off.Hi) 3 rfl tk3 rfl rfl) ?_
   refine rS (BI rfl (b_add ⟨by omega, by omega⟩)) <| rS (SX (sd_build (xs := [(0, .tmp 27), (1, .tmp 33)]) (cs := (SpanV.cells (SpanV.mk (z.Lo + s.Off.Lo) (z.Hi + s.Off.Hi)))) rfl rfl (built_of tb47 rfl)) rfl rfl) <| SW2 rfl ts47 rfl <| rS (AG rfl) <| RK hK22 <| w_ret ?_
   refine hQ _ _ _ (l_nil (vs := [(Value.agg (SpanV.cells (SpanV.mk (z.Lo + s.Off.Lo) (z.Hi + s.Off.Hi))).toArray), (Value.int .i64 0)]) ⟨⟨_, rfl, .inl ⟨_, _, tk47, at_blk (vs := (SpanV.cells (SpanV.mk (z.Lo + s.Off.Lo) (z.Hi + s.Off.Hi)))) 2 rfl rfl, rfl, rfl⟩⟩, rfl, trivial⟩ fun w hs => endV ?_ hs)
   show (Value.tuple [(Value.agg (SpanV.cells (SpanV.mk (z.Lo + s.Off.Lo) (z.Hi + s.Off.Hi))).toArray), (Value.int .i64 0)].toArray) = (Value.tuple [(Value.agg (SpanV.cells (atV ts s)).toArray), (Value.int .i64 (atE ts s))].toArray)
   clear hs w hQ hN hK22 hT21 T21 hT20 T20 hT19 T19 hT17 T17 hT12 T12 hK11 hK9 hK8 hK6 hK5 hK1
   first | (have e := at_bad (s := s) (by simpa using h9); rw [e.1, e.2] <;> rfl) | (have e := at_out h9 h14; rw [e.1, e.2] <;> rfl) | (have e := at_in h9 h14; subst hzm; rw [e.1, e.2] <;> rfl)
 refine NO rfl rfl [5,6,7] fun T17 hT17 => ?_
 obtain ⟨z, hz⟩ : ∃ y_, (marksS ts (ts.length + 1))[(s.Stretch).toNat]? = some y_ := ⟨(marksS ts (ts.length + 1))[(s.Stretch).toNat]'(by omega), List.getElem?_eq_getElem _⟩
 have hzm : ((marksS ts (ts.length + 1)).map SpanV.cells)[(s.Stretch).toNat]? = some (SpanV.cells z) := by rw [List.getElem?_map, hz]; rfl
 refine rS (IA ((s.Stretch).toNat) rfl (has_own_n (n := (marksS ts (ts.length + 1)).length) 0 rfl (by simp)) te127 (by decide) (by omega) (by omega)) <| RD hT17 1 rfl ?_
 refine n_step [5, 6] (by kernel_rfl) (n_cons ?_ <| n_cons ?_ <| n_nil)
 rotate_left 1
 · refine NO rfl rfl [5,7] fun T18 hT18 => ?_
   refine AL rfl tz47 fun b19 => RD hT18 2 rfl <| N1 5 <| NO rfl rfl [7] fun T20 hT20 => rS (LEN ((s.Stretch).toNat) 0 (SpanV.cells z) rfl tk47 (has_own_n (n := (marksS ts (ts.length + 1)).length) 1 rfl (by simp)) hzm rfl (by decide) rfl rfl) <| RD hT20 2 rfl <| N1 7 <| NO rfl rfl [] fun T21 hT21 => SW0 rfl ts47 rfl <| RD hT21 2 rfl ?_
   refine n_fin <| KK hK11 <| WS fun _ hK22 => rS (FA 0 rfl fo47_0 rfl) ?_
   have hzm := marksS_get hz
   have hlb := longF_b hst 0 s.Stretch.toNat
   unfold In12 at hof
   rw [← hzm] at hlb
   refine rS (L1 (Value.int .i64 z.Lo) 0 rfl tk3 rfl rfl) <| rS (FA 1 rfl fo99_1 rfl) <| rS (FA 1 rfl fo47_0 rfl) <| rS (L1 (Value.int .i64 s.Off.Lo) 3 rfl tk3 rfl rfl) <| rS (BI rfl (b_add ⟨by omega, by omega⟩)) <| rS (FA 1 rfl fo47_1 rfl) <| rS (L1 (Value.int .i64 z.Hi) 0 rfl tk3 rfl rfl) <| rS (FA 1 rfl fo99_1 rfl) <| rS (FA 2 rfl fo47_1 rfl) <| rS (L1 (Value.int .i64 s.Off.Hi) 3 rfl tk3 rfl rfl) ?_
   refine rS (BI rfl (b_add ⟨by omega, by omega⟩)) <| rS (SX (sd_build (xs := [(0, .tmp 27), (1, .tmp 33)]) (cs := (SpanV.cells (SpanV.mk (z.Lo + s.Off.Lo) (z.Hi + s.Off.Hi)))) rfl rfl (built_of tb47 rfl)) rfl rfl) <| SW2 rfl ts47 rfl <| rS (AG rfl) <| RK hK22 <| w_ret ?_
   refine hQ _ _ _ (l_nil (vs := [(Value.agg (SpanV.cells (SpanV.mk (z.Lo + s.Off.Lo) (z.Hi + s.Off.Hi))).toArray), (Value.int .i64 0)]) ⟨⟨_, rfl, .inl ⟨_, _, tk47, at_blk (vs := (SpanV.cells (SpanV.mk (z.Lo + s.Off.Lo) (z.Hi + s.Off.Hi)))) 2 rfl rfl, rfl, rfl⟩⟩, rfl, trivial⟩ fun w hs => endV ?_ hs)
   show (Value.tuple [(Value.agg (SpanV.cells (SpanV.mk (z.Lo + s.Off.Lo) (z.Hi + s.Off.Hi))).toArray), (Value.int .i64 0)].toArray) = (Value.tuple [(Value.agg (SpanV.cells (atV ts s)).toArray), (Value.int .i64 (atE ts s))].toArray)
   clear hs w hQ hN hK22 hT21 T21 hT20 T20 hT18 T18 hT17 T17 hT12 T12 hK11 hK9 hK8 hK6 hK5 hK1
   first | (have e := at_bad (s := s) (by simpa using h9); rw [e.1, e.2] <;> rfl) | (have e := at_out h9 h14; rw [e.1, e.2] <;> rfl) | (have e := at_in h9 h14; subst hzm; rw [e.1, e.2] <;> rfl)
 refine NO rfl rfl [6,7] fun T18 hT18 => rS (LEN ((s.Stretch).toNat) 0 (SpanV.cells z) rfl tk47 (has_own_n (n := (marksS ts (ts.length + 1)).length) 0 rfl (by simp)) hzm rfl (by decide) rfl rfl) <| RD hT18 1 rfl <| N1 6 <| NO rfl rfl [7] fun T19 hT19 => AL rfl tz47 fun b20 => RD hT19 2 rfl <| N1 7 <| NO rfl rfl [] fun T21 hT21 => SW0 rfl ts47 rfl ?_
 refine RD hT21 2 rfl <| n_fin <| KK hK11 <| WS fun _ hK22 => rS (FA 0 rfl fo47_0 rfl) ?_
 have hzm := marksS_get hz
 have hlb := longF_b hst 0 s.Stretch.toNat
 unfold In12 at hof
 rw [← hzm] at hlb
 refine rS (L1 (Value.int .i64 z.Lo) 0 rfl tk3 rfl rfl) <| rS (FA 1 rfl fo99_1 rfl) <| rS (FA 1 rfl fo47_0 rfl) <| rS (L1 (Value.int .i64 s.Off.Lo) 3 rfl tk3 rfl rfl) <| rS (BI rfl (b_add ⟨by omega, by omega⟩)) <| rS (FA 1 rfl fo47_1 rfl) <| rS (L1 (Value.int .i64 z.Hi) 0 rfl tk3 rfl rfl) <| rS (FA 1 rfl fo99_1 rfl) <| rS (FA 2 rfl fo47_1 rfl) <| rS (L1 (Value.int .i64 s.Off.Hi) 3 rfl tk3 rfl rfl) ?_
 refine rS (BI rfl (b_add ⟨by omega, by omega⟩)) <| rS (SX (sd_build (xs := [(0, .tmp 27), (1, .tmp 33)]) (cs := (SpanV.cells (SpanV.mk (z.Lo + s.Off.Lo) (z.Hi + s.Off.Hi)))) rfl rfl (built_of tb47 rfl)) rfl rfl) <| SW2 rfl ts47 rfl <| rS (AG rfl) <| RK hK22 <| w_ret ?_
 refine hQ _ _ _ (l_nil (vs := [(Value.agg (SpanV.cells (SpanV.mk (z.Lo + s.Off.Lo) (z.Hi + s.Off.Hi))).toArray), (Value.int .i64 0)]) ⟨⟨_, rfl, .inl ⟨_, _, tk47, at_blk (vs := (SpanV.cells (SpanV.mk (z.Lo + s.Off.Lo) (z.Hi + s.Off.Hi)))) 2 rfl rfl, rfl, rfl⟩⟩, rfl, trivial⟩ fun w hs => endV ?_ hs)
 show (Value.tuple [(Value.agg (SpanV.cells (SpanV.mk (z.Lo + s.Off.Lo) (z.Hi + s.Off.Hi))).toArray), (Value.int .i64 0)].toArray) = (Value.tuple [(Value.agg (SpanV.cells (atV ts s)).toArray), (Value.int .i64 (atE ts s))].toArray)
 clear hs w hQ hN hK22 hT21 T21 hT19 T19 hT18 T18 hT17 T17 hT12 T12 hK11 hK9 hK8 hK6 hK5 hK1
 first | (have e := at_bad (s := s) (by simpa using h9); rw [e.1, e.2] <;> rfl) | (have e := at_out h9 h14; rw [e.1, e.2] <;> rfl) | (have e := at_in h9 h14; subst hzm; rw [e.1, e.2] <;> rfl)
set_option maxRecDepth 100000 in
set_option maxHeartbeats 400000 in
theorem rapart1_c (ts : List StretchV) (tsA : Option Addr) (tsC : Nat) (p : SpotV) (q : SpotV) (hlen : ts.length ≤ 1000000) (hside : ∀ x ∈ ts, 0 ≤ x.Side ∧ x.Side ≤ 255) (hord : ¬ q.Stretch < p.Stretch) :
    FnV Tryz.prog 123 [(Value.agg (TrackV.cells (TrackV.mk (Slc.mk tsA ts.length tsC))).toArray), (Value.agg (SpotV.cells p).toArray), (Value.agg (SpotV.cells q).toArray)] [(rd tsA ts.length 9 (ts.map StretchV.cells))] (Value.tuple [(Value.agg (SpanV.cells (apartV ts p q)).toArray), (Value.int .i64 (apartE ts p q))].toArray) := by
 refine fnV_of go123 Tryz.func123 rfl rfl fun w0 Q hQ hN => ?_
 try dsimp only
 refine WS fun _ hK1 => BXA rfl fun b2 => BXA rfl fun b3 => BXA rfl fun b4 => AL rfl tz47 fun b5 => rS (AG rfl) <| RK hK1 <| w_seq fun _ hK6 => WS fun _ hK7 => rS (LW 3 rfl tk24 rfl rfl) ?_
 refine rS (CL (track_c ts tsA tsC hlen) (ha_at 4 rfl rfl <| ha_nil) rfl) <| rS (NT rfl) <| RK hK7 ?_
 refine w_if rfl (fun h14 => ?_) (fun h14 => ?_)
 · rw [Bool.not_eq_true'] at h14
   refine WS fun _ hK8 => rS (SX (sd_build (xs := []) (cs := (SpanV.cells (SpanV.mk 0 0))) rfl rfl (built_of tb47 rfl)) rfl rfl) <| SW0 rfl ts47 rfl <| rS (AG rfl) <| RK hK8 <| w_ret ?_
   refine hQ _ _ _ (l_nil (vs := [(Value.agg (SpanV.cells (SpanV.mk 0 0)).toArray), (Value.int .i64 10)]) ⟨⟨_, rfl, .inl ⟨_, _, tk47, at_blk (vs := (SpanV.cells (SpanV.mk 0 0))) 0 rfl rfl, rfl, rfl⟩⟩, rfl, trivial⟩ fun w hs => endV ?_ hs)
   show (Value.tuple [(Value.agg (SpanV.cells (SpanV.mk 0 0)).toArray), (Value.int .i64 10)].toArray) = (Value.tuple [(Value.agg (SpanV.cells (apartV ts p q)).toArray), (Value.int .i64 (apartE ts p q))].toArray)
   clear hs w hQ hN hK8 hK7 hK6 hK1
   first | (have e := apart_bad (a := p) (b := q) (by simpa using h14); rw [e.1, e.2] <;> rfl) | (have e := apart_in h14 hq1; rw [e.1, e.2, apart_straight h31] <;> rfl) | (have e := apart_in h14 hq1; have e2 := apart_in h14 ⟨h25, h20⟩; rw [e.1, e.2, e2.2, apart_swap h31] <;> rfl) | (have e := apart_out (a := p) (b := q) h14 (fun h => by first | exact h20 h.1 | exact h25 h.2); rw [e.1, e.2] <;> rfl)
 rw [Bool.not_eq_false'] at h14
 refine WK hK6 <| w_seq fun _ hK9 => WS fun _ hK10 => ?_
 have hst := trackOk_all h14
 have hl12 := trackOk_le h14
 refine rS (LW 3 rfl tk24 rfl rfl) <| rS (LW 2 rfl tk99 rfl rfl) <| rS (CL (rspot_c ts tsA tsC p (by first | assumption | omega | (simp; done) | (simp; omega)) (by first | assumption | omega | (simp; done) | (simp; omega))) (ha_at 4 rfl rfl <| ha_nil) rfl) <| rS (NT rfl) <| rS (MV rfl) ?_
 refine r_bool (t := 20) rfl (fun h20 => ?_) (fun h20 => ?_)
 · replace h20 := XT h20
   refine rS (OX rfl) <| rS (OX rfl) <| rS (OX rfl) <| rS (OX rfl) <| rS (PK rfl) <| RK hK10 <| w_if_true rfl <| WS fun _ hK11 => rS (SX (sd_build (xs := []) (cs := (SpanV.cells (SpanV.mk 0 0))) rfl rfl (built_of tb47 rfl)) rfl rfl) <| SW0 rfl ts47 rfl ?_
   refine rS (AG rfl) <| RK hK11 <| w_ret ?_
   refine hQ _ _ _ (l_nil (vs := [(Value.agg (SpanV.cells (SpanV.mk 0 0)).toArray), (Value.int .i64 12)]) ⟨⟨_, rfl, .inl ⟨_, _, tk47, at_blk (vs := (SpanV.cells (SpanV.mk 0 0))) 0 rfl rfl, rfl, rfl⟩⟩, rfl, trivial⟩ fun w hs => endV ?_ hs)
   show (Value.tuple [(Value.agg (SpanV.cells (SpanV.mk 0 0)).toArray), (Value.int .i64 12)].toArray) = (Value.tuple [(Value.agg (SpanV.cells (apartV ts p q)).toArray), (Value.int .i64 (apartE ts p q))].toArray)
   clear hs w hQ hN hK11 hK10 hK9 hK7 hK6 hK1
   first | (have e := apart_bad (a := p) (b := q) (by simpa using h14); rw [e.1, e.2] <;> rfl) | (have e := apart_in h14 hq1; rw [e.1, e.2, apart_straight h31] <;> rfl) | (have e := apart_in h14 hq1; have e2 := apart_in h14 ⟨h25, h20⟩; rw [e.1, e.2, e2.2, apart_swap h31] <;> rfl) | (have e := apart_out (a := p) (b := q) h14 (fun h => by first | exact h20 h.1 | exact h25 h.2); rw [e.1, e.2] <;> rfl)
 replace h20 := XF h20
 refine rS (LW 3 rfl tk24 rfl rfl) <| rS (LW 1 rfl tk99 rfl rfl) <| rS (CL (rspot_c ts tsA tsC q (by first | assumption | omega | (simp; done) | (simp; omega)) (by first | assumption | omega | (simp; done) | (simp; omega))) (ha_at 4 rfl rfl <| ha_nil) rfl) <| rS (NT rfl) <| rS (PK rfl) <| RK hK10 ?_
 refine w_if rfl (fun h25 => ?_) (fun h25 => ?_)
 · replace h25 := XT h25
   refine WS fun _ hK12 => rS (SX (sd_build (xs := []) (cs := (SpanV.cells (SpanV.mk 0 0))) rfl rfl (built_of tb47 rfl)) rfl rfl) <| SW0 rfl ts47 rfl <| rS (AG rfl) <| RK hK12 <| w_ret ?_
   refine hQ _ _ _ (l_nil (vs := [(Value.agg (SpanV.cells (SpanV.mk 0 0)).toArray), (Value.int .i64 12)]) ⟨⟨_, rfl, .inl ⟨_, _, tk47, at_blk (vs := (SpanV.cells (SpanV.mk 0 0))) 0 rfl rfl, rfl, rfl⟩⟩, rfl, trivial⟩ fun w hs => endV ?_ hs)
   show (Value.tuple [(Value.agg (SpanV.cells (SpanV.mk 0 0)).toArray), (Value.int .i64 12)].toArray) = (Value.tuple [(Value.agg (SpanV.cells (apartV ts p q)).toArray), (Value.int .i64 (apartE ts p q))].toArray)
   clear hs w hQ hN hK12 hK10 hK9 hK7 hK6 hK1
   first | (have e := apart_bad (a := p) (b := q) (by simpa using h14); rw [e.1, e.2] <;> rfl) | (have e := apart_in h14 hq1; rw [e.1, e.2, apart_straight h31] <;> rfl) | (have e := apart_in h14 hq1; have e2 := apart_in h14 ⟨h25, h20⟩; rw [e.1, e.2, e2.2, apart_swap h31] <;> rfl) | (have e := apart_out (a := p) (b := q) h14 (fun h => by first | exact h20 h.1 | exact h25 h.2); rw [e.1, e.2] <;> rfl)
 replace h25 := XF h25
 refine WK hK9 <| w_seq fun _ hK13 => WS fun _ hK14 => ?_
 have hq1 : SpotOk ts p ∧ SpotOk ts q := ⟨h20, h25⟩
 have hpo := off_in hst h20
 have hqo := off_in hst h25
 have hpb := h20.1
 have hqb := h25.1
 have hab := apartF_b hst hl12 h25 h20
 unfold In12 at hpo hqo
 refine rS (FA 0 rfl fo99_0 rfl) <| rS (L1 (Value.int .i64 q.Stretch) 1 rfl tk3 rfl rfl) <| rS (FA 0 rfl fo99_0 rfl) <| rS (L1 (Value.int .i64 p.Stretch) 2 rfl tk3 rfl rfl) <| rS (BI rfl b_lss) <| RK hK14 ?_
 refine w_if rfl (fun h31 => ?_) (fun h31 => ?_)
 · replace h31 := DT h31
   exfalso; omega
 replace h31 := DF h31
 refine WK hK13 <| WS fun _ hK15 => rS (LW 3 rfl tk24 rfl rfl) <| rS (FA 0 rfl fo99_0 rfl) ?_
 have hlb := longF_b hst p.Stretch.toNat (q.Stretch - p.Stretch).toNat
 refine rS (L1 (Value.int .i64 p.Stretch) 2 rfl tk3 rfl rfl) <| rS (FA 0 rfl fo99_0 rfl) <| rS (L1 (Value.int .i64 q.Stretch) 1 rfl tk3 rfl rfl) <| rS (CL (rdrop_c ts tsA tsC p.Stretch q.Stretch (by first | assumption | omega | (simp; done) | (simp; omega)) (by first | assumption | omega | (simp; done) | (simp; omega)) (by omega)) (ha_at 4 rfl rfl <| ha_nil) rfl) <| rS (MV rfl) <| rS (EX rfl) <| rS (EX rfl) <| AL rfl tz47 fun b16 => AL rfl tz47 fun b17 => SW1 rfl ts47 rfl ?_
 refine SW0 rfl ts47 rfl <| RK hK15 <| WS fun _ hK18 => rS (FA 0 rfl fo47_0 rfl) <| rS (L1 (Value.int .i64 ((longF ts p.Stretch.toNat (q.Stretch - p.Stretch).toNat).Lo)) 1 rfl tk3 rfl rfl) <| rS (FA 1 rfl fo99_1 rfl) <| rS (FA 1 rfl fo47_0 rfl) <| rS (L1 (Value.int .i64 q.Off.Lo) 3 rfl tk3 rfl rfl) <| rS (BI rfl (b_add ⟨by omega, by omega⟩)) <| rS (FA 1 rfl fo99_1 rfl) ?_
 refine rS (FA 2 rfl fo47_1 rfl) <| rS (L1 (Value.int .i64 p.Off.Hi) 4 rfl tk3 rfl rfl) <| rS (BI rfl (b_sub ⟨by omega, by omega⟩)) <| rS (FA 1 rfl fo47_1 rfl) <| rS (L1 (Value.int .i64 ((longF ts p.Stretch.toNat (q.Stretch - p.Stretch).toNat).Hi)) 1 rfl tk3 rfl rfl) <| rS (FA 1 rfl fo99_1 rfl) <| rS (FA 2 rfl fo47_1 rfl) <| rS (L1 (Value.int .i64 q.Off.Hi) 3 rfl tk3 rfl rfl) <| rS (BI rfl (b_add ⟨by omega, by omega⟩)) <| rS (FA 1 rfl fo99_1 rfl) ?_
 refine rS (FA 1 rfl fo47_0 rfl) <| rS (L1 (Value.int .i64 p.Off.Lo) 4 rfl tk3 rfl rfl) <| rS (BI rfl (b_sub ⟨by omega, by omega⟩)) <| rS (SX (sd_build (xs := [(0, .tmp 64), (1, .tmp 74)]) (cs := (SpanV.cells (SpanV.mk ((((longF ts p.Stretch.toNat (q.Stretch - p.Stretch).toNat).Lo) + q.Off.Lo) - p.Off.Hi) ((((longF ts p.Stretch.toNat (q.Stretch - p.Stretch).toNat).Hi) + q.Off.Hi) - p.Off.Lo)))) rfl rfl (built_of tb47 rfl)) rfl rfl) <| SW2 rfl ts47 rfl <| rS (AG rfl) <| RK hK18 <| w_ret ?_
 refine hQ _ _ _ (l_nil (vs := [(Value.agg (SpanV.cells (SpanV.mk ((((longF ts p.Stretch.toNat (q.Stretch - p.Stretch).toNat).Lo) + q.Off.Lo) - p.Off.Hi) ((((longF ts p.Stretch.toNat (q.Stretch - p.Stretch).toNat).Hi) + q.Off.Hi) - p.Off.Lo))).toArray), (Value.int .i64 0)]) ⟨⟨_, rfl, .inl ⟨_, _, tk47, at_blk (vs := (SpanV.cells (SpanV.mk ((((longF ts p.Stretch.toNat (q.Stretch - p.Stretch).toNat).Lo) + q.Off.Lo) - p.Off.Hi) ((((longF ts p.Stretch.toNat (q.Stretch - p.Stretch).toNat).Hi) + q.Off.Hi) - p.Off.Lo)))) 2 rfl rfl, rfl, rfl⟩⟩, rfl, trivial⟩ fun w hs => endV ?_ hs)
 show (Value.tuple [(Value.agg (SpanV.cells (SpanV.mk ((((longF ts p.Stretch.toNat (q.Stretch - p.Stretch).toNat).Lo) + q.Off.Lo) - p.Off.Hi) ((((longF ts p.Stretch.toNat (q.Stretch - p.Stretch).toNat).Hi) + q.Off.Hi) - p.Off.Lo))).toArray), (Value.int .i64 0)].toArray) = (Value.tuple [(Value.agg (SpanV.cells (apartV ts p q)).toArray), (Value.int .i64 (apartE ts p q))].toArray)
 clear hs w hQ hN hK18 hK15 hK14 hK13 hK10 hK9 hK7 hK6 hK1
 first | (have e := apart_bad (a := p) (b := q) (by simpa using h14); rw [e.1, e.2] <;> rfl) | (have e := apart_in h14 hq1; rw [e.1, e.2, apart_straight h31] <;> rfl) | (have e := apart_in h14 hq1; have e2 := apart_in h14 ⟨h25, h20⟩; rw [e.1, e.2, e2.2, apart_swap h31] <;> rfl) | (have e := apart_out (a := p) (b := q) h14 (fun h => by first | exact h20 h.1 | exact h25 h.2); rw [e.1, e.2] <;> rfl)
set_option maxRecDepth 100000 in
set_option maxHeartbeats 400000 in
theorem rapart_c (ts : List StretchV) (tsA : Option Addr) (tsC : Nat) (p : SpotV) (q : SpotV) (hlen : ts.length ≤ 1000000) (hside : ∀ x ∈ ts, 0 ≤ x.Side ∧ x.Side ≤ 255) :
    FnV Tryz.prog 123 [(Value.agg (TrackV.cells (TrackV.mk (Slc.mk tsA ts.length tsC))).toArray), (Value.agg (SpotV.cells p).toArray), (Value.agg (SpotV.cells q).toArray)] [(rd tsA ts.length 9 (ts.map StretchV.cells))] (Value.tuple [(Value.agg (SpanV.cells (apartV ts p q)).toArray), (Value.int .i64 (apartE ts p q))].toArray) := by
 refine fnV_of go123 Tryz.func123 rfl rfl fun w0 Q hQ hN => ?_
 try dsimp only
 refine WS fun _ hK1 => BXA rfl fun b2 => BXA rfl fun b3 => BXA rfl fun b4 => AL rfl tz47 fun b5 => rS (AG rfl) <| RK hK1 <| w_seq fun _ hK6 => WS fun _ hK7 => rS (LW 3 rfl tk24 rfl rfl) ?_
 refine rS (CL (track_c ts tsA tsC hlen) (ha_at 4 rfl rfl <| ha_nil) rfl) <| rS (NT rfl) <| RK hK7 ?_
 refine w_if rfl (fun h14 => ?_) (fun h14 => ?_)
 · rw [Bool.not_eq_true'] at h14
   refine WS fun _ hK8 => rS (SX (sd_build (xs := []) (cs := (SpanV.cells (SpanV.mk 0 0))) rfl rfl (built_of tb47 rfl)) rfl rfl) <| SW0 rfl ts47 rfl <| rS (AG rfl) <| RK hK8 <| w_ret ?_
   refine hQ _ _ _ (l_nil (vs := [(Value.agg (SpanV.cells (SpanV.mk 0 0)).toArray), (Value.int .i64 10)]) ⟨⟨_, rfl, .inl ⟨_, _, tk47, at_blk (vs := (SpanV.cells (SpanV.mk 0 0))) 0 rfl rfl, rfl, rfl⟩⟩, rfl, trivial⟩ fun w hs => endV ?_ hs)
   show (Value.tuple [(Value.agg (SpanV.cells (SpanV.mk 0 0)).toArray), (Value.int .i64 10)].toArray) = (Value.tuple [(Value.agg (SpanV.cells (apartV ts p q)).toArray), (Value.int .i64 (apartE ts p q))].toArray)
   clear hs w hQ hN hK8 hK7 hK6 hK1
   first | (have e := apart_bad (a := p) (b := q) (by simpa using h14); rw [e.1, e.2] <;> rfl) | (have e := apart_in h14 hq1; rw [e.1, e.2, apart_straight h31] <;> rfl) | (have e := apart_in h14 hq1; have e2 := apart_in h14 ⟨h25, h20⟩; rw [e.1, e.2, e2.2, apart_swap h31] <;> rfl) | (have e := apart_out (a := p) (b := q) h14 (fun h => by first | exact h20 h.1 | exact h25 h.2); rw [e.1, e.2] <;> rfl)
 rw [Bool.not_eq_false'] at h14
 refine WK hK6 <| w_seq fun _ hK9 => WS fun _ hK10 => ?_
 have hst := trackOk_all h14
 have hl12 := trackOk_le h14
 refine rS (LW 3 rfl tk24 rfl rfl) <| rS (LW 2 rfl tk99 rfl rfl) <| rS (CL (rspot_c ts tsA tsC p (by first | assumption | omega | (simp; done) | (simp; omega)) (by first | assumption | omega | (simp; done) | (simp; omega))) (ha_at 4 rfl rfl <| ha_nil) rfl) <| rS (NT rfl) <| rS (MV rfl) ?_
 refine r_bool (t := 20) rfl (fun h20 => ?_) (fun h20 => ?_)
 · replace h20 := XT h20
   refine rS (OX rfl) <| rS (OX rfl) <| rS (OX rfl) <| rS (OX rfl) <| rS (PK rfl) <| RK hK10 <| w_if_true rfl <| WS fun _ hK11 => rS (SX (sd_build (xs := []) (cs := (SpanV.cells (SpanV.mk 0 0))) rfl rfl (built_of tb47 rfl)) rfl rfl) <| SW0 rfl ts47 rfl ?_
   refine rS (AG rfl) <| RK hK11 <| w_ret ?_
   refine hQ _ _ _ (l_nil (vs := [(Value.agg (SpanV.cells (SpanV.mk 0 0)).toArray), (Value.int .i64 12)]) ⟨⟨_, rfl, .inl ⟨_, _, tk47, at_blk (vs := (SpanV.cells (SpanV.mk 0 0))) 0 rfl rfl, rfl, rfl⟩⟩, rfl, trivial⟩ fun w hs => endV ?_ hs)
   show (Value.tuple [(Value.agg (SpanV.cells (SpanV.mk 0 0)).toArray), (Value.int .i64 12)].toArray) = (Value.tuple [(Value.agg (SpanV.cells (apartV ts p q)).toArray), (Value.int .i64 (apartE ts p q))].toArray)
   clear hs w hQ hN hK11 hK10 hK9 hK7 hK6 hK1
   first | (have e := apart_bad (a := p) (b := q) (by simpa using h14); rw [e.1, e.2] <;> rfl) | (have e := apart_in h14 hq1; rw [e.1, e.2, apart_straight h31] <;> rfl) | (have e := apart_in h14 hq1; have e2 := apart_in h14 ⟨h25, h20⟩; rw [e.1, e.2, e2.2, apart_swap h31] <;> rfl) | (have e := apart_out (a := p) (b := q) h14 (fun h => by first | exact h20 h.1 | exact h25 h.2); rw [e.1, e.2] <;> rfl)
 replace h20 := XF h20
 refine rS (LW 3 rfl tk24 rfl rfl) <| rS (LW 1 rfl tk99 rfl rfl) <| rS (CL (rspot_c ts tsA tsC q (by first | assumption | omega | (simp; done) | (simp; omega)) (by first | assumption | omega | (simp; done) | (simp; omega))) (ha_at 4 rfl rfl <| ha_nil) rfl) <| rS (NT rfl) <| rS (PK rfl) <| RK hK10 ?_
 refine w_if rfl (fun h25 => ?_) (fun h25 => ?_)
 · replace h25 := XT h25
   refine WS fun _ hK12 => rS (SX (sd_build (xs := []) (cs := (SpanV.cells (SpanV.mk 0 0))) rfl rfl (built_of tb47 rfl)) rfl rfl) <| SW0 rfl ts47 rfl <| rS (AG rfl) <| RK hK12 <| w_ret ?_
   refine hQ _ _ _ (l_nil (vs := [(Value.agg (SpanV.cells (SpanV.mk 0 0)).toArray), (Value.int .i64 12)]) ⟨⟨_, rfl, .inl ⟨_, _, tk47, at_blk (vs := (SpanV.cells (SpanV.mk 0 0))) 0 rfl rfl, rfl, rfl⟩⟩, rfl, trivial⟩ fun w hs => endV ?_ hs)
   show (Value.tuple [(Value.agg (SpanV.cells (SpanV.mk 0 0)).toArray), (Value.int .i64 12)].toArray) = (Value.tuple [(Value.agg (SpanV.cells (apartV ts p q)).toArray), (Value.int .i64 (apartE ts p q))].toArray)
   clear hs w hQ hN hK12 hK10 hK9 hK7 hK6 hK1
   first | (have e := apart_bad (a := p) (b := q) (by simpa using h14); rw [e.1, e.2] <;> rfl) | (have e := apart_in h14 hq1; rw [e.1, e.2, apart_straight h31] <;> rfl) | (have e := apart_in h14 hq1; have e2 := apart_in h14 ⟨h25, h20⟩; rw [e.1, e.2, e2.2, apart_swap h31] <;> rfl) | (have e := apart_out (a := p) (b := q) h14 (fun h => by first | exact h20 h.1 | exact h25 h.2); rw [e.1, e.2] <;> rfl)
 replace h25 := XF h25
 refine WK hK9 <| w_seq fun _ hK13 => WS fun _ hK14 => ?_
 have hq1 : SpotOk ts p ∧ SpotOk ts q := ⟨h20, h25⟩
 have hpo := off_in hst h20
 have hqo := off_in hst h25
 have hpb := h20.1
 have hqb := h25.1
 have hab := apartF_b hst hl12 h25 h20
 unfold In12 at hpo hqo
 refine rS (FA 0 rfl fo99_0 rfl) <| rS (L1 (Value.int .i64 q.Stretch) 1 rfl tk3 rfl rfl) <| rS (FA 0 rfl fo99_0 rfl) <| rS (L1 (Value.int .i64 p.Stretch) 2 rfl tk3 rfl rfl) <| rS (BI rfl b_lss) <| RK hK14 ?_
 refine w_if rfl (fun h31 => ?_) (fun h31 => ?_)
 · replace h31 := DT h31
   refine WS fun _ hK15 => rS (LW 3 rfl tk24 rfl rfl) <| rS (LW 1 rfl tk99 rfl rfl) <| rS (LW 2 rfl tk99 rfl rfl) <| rS (CL (rapart1_c ts tsA tsC q p hlen hside (by first | assumption | omega | (simp; done) | (simp; omega))) (ha_at 4 rfl rfl <| ha_nil) rfl) <| rS (MV rfl) <| rS (EX rfl) <| rS (EX rfl) <| AL rfl tz47 fun b16 => SW0 rfl ts47 rfl ?_
   refine rS (AG rfl) <| RK hK15 <| WS fun _ hK17 => rS (FA 1 rfl fo47_1 rfl) <| rS (L1 (Value.int .i64 ((apartV ts q p).Hi)) 0 rfl tk3 rfl rfl) ?_
   have hav : apartV ts q p = apartF ts q p := (apart_in h14 ⟨h25, h20⟩).2
   have hav1 : -400000 ≤ (apartV ts q p).Lo ∧ (apartV ts q p).Hi ≤ 400000 := by rw [hav]; omega
   have hav2 : (apartV ts q p).Lo ≤ (apartV ts q p).Hi := by rw [hav]; omega
   refine rS (NG rfl ⟨by omega, by omega⟩) <| rS (FA 0 rfl fo47_0 rfl) <| rS (L1 (Value.int .i64 ((apartV ts q p).Lo)) 0 rfl tk3 rfl rfl) <| rS (NG rfl ⟨by omega, by omega⟩) <| rS (SX (sd_build (xs := [(0, .tmp 41), (1, .tmp 44)]) (cs := (SpanV.cells (SpanV.mk (-((apartV ts q p).Hi)) (-((apartV ts q p).Lo))))) rfl rfl (built_of tb47 rfl)) rfl rfl) <| SW1 rfl ts47 rfl <| rS (AG rfl) <| RK hK17 <| w_ret ?_
   refine hQ _ _ _ (l_nil (vs := [(Value.agg (SpanV.cells (SpanV.mk (-((apartV ts q p).Hi)) (-((apartV ts q p).Lo)))).toArray), (Value.int .i64 0)]) ⟨⟨_, rfl, .inl ⟨_, _, tk47, at_blk (vs := (SpanV.cells (SpanV.mk (-((apartV ts q p).Hi)) (-((apartV ts q p).Lo))))) 1 rfl rfl, rfl, rfl⟩⟩, rfl, trivial⟩ fun w hs => endV ?_ hs)
   show (Value.tuple [(Value.agg (SpanV.cells (SpanV.mk (-((apartV ts q p).Hi)) (-((apartV ts q p).Lo)))).toArray), (Value.int .i64 0)].toArray) = (Value.tuple [(Value.agg (SpanV.cells (apartV ts p q)).toArray), (Value.int .i64 (apartE ts p q))].toArray)
   clear hs w hQ hN hK17 hK15 hK14 hK13 hK10 hK9 hK7 hK6 hK1
   first | (have e := apart_bad (a := p) (b := q) (by simpa using h14); rw [e.1, e.2] <;> rfl) | (have e := apart_in h14 hq1; rw [e.1, e.2, apart_straight h31] <;> rfl) | (have e := apart_in h14 hq1; have e2 := apart_in h14 ⟨h25, h20⟩; rw [e.1, e.2, e2.2, apart_swap h31] <;> rfl) | (have e := apart_out (a := p) (b := q) h14 (fun h => by first | exact h20 h.1 | exact h25 h.2); rw [e.1, e.2] <;> rfl)
 replace h31 := DF h31
 refine WK hK13 <| WS fun _ hK18 => rS (LW 3 rfl tk24 rfl rfl) <| rS (FA 0 rfl fo99_0 rfl) ?_
 have hlb := longF_b hst p.Stretch.toNat (q.Stretch - p.Stretch).toNat
 refine rS (L1 (Value.int .i64 p.Stretch) 2 rfl tk3 rfl rfl) <| rS (FA 0 rfl fo99_0 rfl) <| rS (L1 (Value.int .i64 q.Stretch) 1 rfl tk3 rfl rfl) <| rS (CL (rdrop_c ts tsA tsC p.Stretch q.Stretch (by first | assumption | omega | (simp; done) | (simp; omega)) (by first | assumption | omega | (simp; done) | (simp; omega)) (by omega)) (ha_at 4 rfl rfl <| ha_nil) rfl) <| rS (MV rfl) <| rS (EX rfl) <| rS (EX rfl) <| AL rfl tz47 fun b19 => AL rfl tz47 fun b20 => SW1 rfl ts47 rfl ?_
 refine SW0 rfl ts47 rfl <| RK hK18 <| WS fun _ hK21 => rS (FA 0 rfl fo47_0 rfl) <| rS (L1 (Value.int .i64 ((longF ts p.Stretch.toNat (q.Stretch - p.Stretch).toNat).Lo)) 1 rfl tk3 rfl rfl) <| rS (FA 1 rfl fo99_1 rfl) <| rS (FA 1 rfl fo47_0 rfl) <| rS (L1 (Value.int .i64 q.Off.Lo) 3 rfl tk3 rfl rfl) <| rS (BI rfl (b_add ⟨by omega, by omega⟩)) <| rS (FA 1 rfl fo99_1 rfl) ?_
 refine rS (FA 2 rfl fo47_1 rfl) <| rS (L1 (Value.int .i64 p.Off.Hi) 4 rfl tk3 rfl rfl) <| rS (BI rfl (b_sub ⟨by omega, by omega⟩)) <| rS (FA 1 rfl fo47_1 rfl) <| rS (L1 (Value.int .i64 ((longF ts p.Stretch.toNat (q.Stretch - p.Stretch).toNat).Hi)) 1 rfl tk3 rfl rfl) <| rS (FA 1 rfl fo99_1 rfl) <| rS (FA 2 rfl fo47_1 rfl) <| rS (L1 (Value.int .i64 q.Off.Hi) 3 rfl tk3 rfl rfl) <| rS (BI rfl (b_add ⟨by omega, by omega⟩)) <| rS (FA 1 rfl fo99_1 rfl) ?_
 refine rS (FA 1 rfl fo47_0 rfl) <| rS (L1 (Value.int .i64 p.Off.Lo) 4 rfl tk3 rfl rfl) <| rS (BI rfl (b_sub ⟨by omega, by omega⟩)) <| rS (SX (sd_build (xs := [(0, .tmp 64), (1, .tmp 74)]) (cs := (SpanV.cells (SpanV.mk ((((longF ts p.Stretch.toNat (q.Stretch - p.Stretch).toNat).Lo) + q.Off.Lo) - p.Off.Hi) ((((longF ts p.Stretch.toNat (q.Stretch - p.Stretch).toNat).Hi) + q.Off.Hi) - p.Off.Lo)))) rfl rfl (built_of tb47 rfl)) rfl rfl) <| SW2 rfl ts47 rfl <| rS (AG rfl) <| RK hK21 <| w_ret ?_
 refine hQ _ _ _ (l_nil (vs := [(Value.agg (SpanV.cells (SpanV.mk ((((longF ts p.Stretch.toNat (q.Stretch - p.Stretch).toNat).Lo) + q.Off.Lo) - p.Off.Hi) ((((longF ts p.Stretch.toNat (q.Stretch - p.Stretch).toNat).Hi) + q.Off.Hi) - p.Off.Lo))).toArray), (Value.int .i64 0)]) ⟨⟨_, rfl, .inl ⟨_, _, tk47, at_blk (vs := (SpanV.cells (SpanV.mk ((((longF ts p.Stretch.toNat (q.Stretch - p.Stretch).toNat).Lo) + q.Off.Lo) - p.Off.Hi) ((((longF ts p.Stretch.toNat (q.Stretch - p.Stretch).toNat).Hi) + q.Off.Hi) - p.Off.Lo)))) 2 rfl rfl, rfl, rfl⟩⟩, rfl, trivial⟩ fun w hs => endV ?_ hs)
 show (Value.tuple [(Value.agg (SpanV.cells (SpanV.mk ((((longF ts p.Stretch.toNat (q.Stretch - p.Stretch).toNat).Lo) + q.Off.Lo) - p.Off.Hi) ((((longF ts p.Stretch.toNat (q.Stretch - p.Stretch).toNat).Hi) + q.Off.Hi) - p.Off.Lo))).toArray), (Value.int .i64 0)].toArray) = (Value.tuple [(Value.agg (SpanV.cells (apartV ts p q)).toArray), (Value.int .i64 (apartE ts p q))].toArray)
 clear hs w hQ hN hK21 hK18 hK14 hK13 hK10 hK9 hK7 hK6 hK1
 first | (have e := apart_bad (a := p) (b := q) (by simpa using h14); rw [e.1, e.2] <;> rfl) | (have e := apart_in h14 hq1; rw [e.1, e.2, apart_straight h31] <;> rfl) | (have e := apart_in h14 hq1; have e2 := apart_in h14 ⟨h25, h20⟩; rw [e.1, e.2, e2.2, apart_swap h31] <;> rfl) | (have e := apart_out (a := p) (b := q) h14 (fun h => by first | exact h20 h.1 | exact h25 h.2); rw [e.1, e.2] <;> rfl)
end
end Go.Proofs.YthiigjekcdjkkaaGreat
