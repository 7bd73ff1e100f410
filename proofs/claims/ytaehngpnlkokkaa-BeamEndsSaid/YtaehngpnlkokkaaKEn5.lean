/-
  The statement beamEnds_said, part 5 of 6: V4, V8, Wh2, Twin, A1, A2, B7, B8, B9, R1.
  Conditions: none.
-/
import Derived.Test.YtaehngpnlkokkaaKEn1
import Derived.Test.YtaehngpnlkokkaaKEn2
import Derived.Test.YtaehngpnlkokkaaKEn3
import Derived.Test.YtaehngpnlkokkaaKEn4
namespace Go.Proofs.Ytaehngpnlkokkaa
section
open Go.RowKit
set_option linter.unusedVariables false
set_option maxRecDepth 100000 in
set_option maxHeartbeats 400000 in
theorem passes1_c (ln : LineV) (ri : RideV) (e : List Int) (tms : List TM) (e_A : Option Addr) (e_C : Nat) (tb : List Nat) (t_A : Option Addr) (t_C : Nat) (fs : List FM) (bs : List FM) (fb : List Nat) (f_A : Option Addr) (f_C : Nat) (bb : List Nat) (b_A : Option Addr) (b_C : Nat) (gw : Nat) (b : Nat) (g1 : Nat) (g2 : Nat) (mf : FM) (mb : FM) (hb : b < e.length) (hw : WOk (watchOf ln ri e tms)) (htb : tb.length = tms.length) (hfw : FwdOk (watchOf ln ri e tms) fs) (hfb : fb.length = fs.length) (hbw : BackOk (watchOf ln ri e tms) bs) (hbb : bb.length = bs.length) (hsg : ri.Signals.n ≤ 1000) (hm1 : fs[b]? = some mf) (hm2 : bs[b + 1]? = some mb) :
    SeqG Try.prog 96 [] [(Value.pointer (some ⟨g1, 0, none⟩)), (Value.pointer (some ⟨g2, 0, none⟩))] [(rd e_A e.length 1 (e.map iC)), (rd t_A tms.length 1 (List.zipWith mapC tms tb)), (bun (nest tmR tms tb)), (rd f_A fs.length 1 (List.zipWith mapC fs fb)), (bun (nest fmR fs fb)), (rd b_A bs.length 1 (List.zipWith mapC bs bb)), (bun (nest fmR bs bb)), (blk gw 142 (WatchV.cells (WatchV.mk ln ri (Slc.mk e_A e.length e_C) (Slc.mk t_A tms.length t_C) (Slc.mk f_A fs.length f_C) (Slc.mk b_A bs.length b_C)))), (blk g1 107 [(Value.pointer (some ⟨gw, 0, none⟩))]), (blk g2 3 [(Value.int .i64 ((b : Nat) : Int))])] ([] : List (Int × SpanV)) (fun ys x ys' => ∃ q, q ∈ passM (watchOf ln ri e tms) b mf mb ∧ x = itemV q ∧ ys' = ys ++ [q]) (fun ys => ∀ q ∈ passM (watchOf ln ri e tms) b mf mb, q ∈ ys) := by
 have hw6 : e.length ≤ 6 := hw.n
 have hwt : tms.length = e.length := hw.times
 have hfl : fs.length = e.length + 1 := hfw.len
 have hbl : bs.length = e.length + 1 := hbw.len
 refine seqG_of go96 Try.func96 rfl rfl fun l J Z A0 w0 Q hY hJ0 hF0 hQ hN => ?_
 try dsimp only
 refine WS fun _ hK1 => BX1 rfl rfl fun b2 => RK hK1 <| WS fun _ hK3 => rS (L1Q 10 rfl tk107 rfl) <| rS (L1Q 11 rfl tk3 rfl) <| cX (options_c gw b) (ha_nil) rfl fun y4 hy5 => ?_
 obtain ⟨x16, x27⟩ := y4
 try dsimp only
 refine RK hK3 <| w_block <| w_dup 4 rfl (by exact fun _ h => h) <| w_dup 6 rfl (by exact fun _ h => h) <| w_dup 8 rfl (by exact fun _ h => h) <| w_dup 14 rfl (by exact fun _ h => h) ?_
 refine w_rangeG (L0 := [(0, (Value.func (.yield l) #[] #[])), (1, (Value.pointer (some ⟨g1, 0, none⟩))), (2, (Value.pointer (some ⟨g2, 0, none⟩))), (3, (Value.pointer (some ⟨b2, 0, none⟩)))]) (F := [(rd e_A e.length 1 (e.map iC)).ro, (rd t_A tms.length 1 (List.zipWith mapC tms tb)).ro, (bun (nest tmR tms tb)).ro, (blk gw 142 (WatchV.cells (WatchV.mk ln ri (Slc.mk e_A e.length e_C) (Slc.mk t_A tms.length t_C) (Slc.mk f_A fs.length f_C) (Slc.mk b_A bs.length b_C)))).ro, (blk x16 107 [(Value.pointer (some ⟨gw, 0, none⟩))]), (blk x27 3 [(Value.int .i64 ((b : Nat) : Int))])])  (fun k (y : (List (Int × SpanV)) × Assn) => (PDone (watchOf ln ri e tms) b mf mb k y.1) ∧ (J y.1 y.2) ∧ (Fo A0 w0 y.2)) (fun k y => [(blk b2 148 [(Value.func (.yield l) #[] #[])]), y.2, (rd e_A e.length 1 (e.map iC)).ro, (rd t_A tms.length 1 (List.zipWith mapC tms tb)).ro, (bun (nest tmR tms tb)).ro, (rd f_A fs.length 1 (List.zipWith mapC fs fb)).ro, (bun (nest fmR fs fb)).ro, (rd b_A bs.length 1 (List.zipWith mapC bs bb)).ro, (bun (nest fmR bs bb)).ro, (blk gw 142 (WatchV.cells (WatchV.mk ln ri (Slc.mk e_A e.length e_C) (Slc.mk t_A tms.length t_C) (Slc.mk f_A fs.length f_C) (Slc.mk b_A bs.length b_C)))).ro, (blk g1 107 [(Value.pointer (some ⟨gw, 0, none⟩))]).ro, (blk g2 3 [(Value.int .i64 ((b : Nat) : Int))]).ro]) (fun c (z : Assn) => (c = .ret ∧ (Z z) ∧ (Fo A0 w0 z))) (fun _ z => [(blk b2 148 [(Value.func (.yield l) #[] #[])]), z, (rd e_A e.length 1 (e.map iC)).ro, (rd t_A tms.length 1 (List.zipWith mapC tms tb)).ro, (bun (nest tmR tms tb)).ro, (rd f_A fs.length 1 (List.zipWith mapC fs fb)).ro, (bun (nest fmR fs fb)).ro, (rd b_A bs.length 1 (List.zipWith mapC bs bb)).ro, (bun (nest fmR bs bb)).ro, (blk gw 142 (WatchV.cells (WatchV.mk ln ri (Slc.mk e_A e.length e_C) (Slc.mk t_A tms.length t_C) (Slc.mk f_A fs.length f_C) (Slc.mk b_A bs.length b_C)))).ro, (blk g1 107 [(Value.pointer (some ⟨gw, 0, none⟩))]).ro, (blk g2 3 [(Value.int .i64 ((b : Nat) : Int))]).ro]) [6, 7, 8, 9, 10, 11, 12, 13, 14, 15, 16, 17] [3, 2, 1, 0, 4, 5] (([] : List (Int × SpanV)), A0) rfl rfl (options1_c ln ri e tms e_A e_C tb t_A t_C f_A fs.length f_C b_A bs.length b_C gw b x16 x27 (by omega) (by omega)) rfl rfl rfl (by exact ⟨PDone.nil, hJ0, hF0⟩) (by simp only [List.forall_mem_cons, List.not_mem_nil, false_imp_iff, implies_true, and_true]; exact ⟨⟨_, List.mem_of_getElem? (i := 0) rfl, (cov_ro (cov_refl _))⟩, ⟨_, List.mem_of_getElem? (i := 1) rfl, (cov_ro (cov_refl _))⟩, ⟨_, List.mem_of_getElem? (i := 2) rfl, (cov_ro (cov_refl _))⟩, ⟨_, List.mem_of_getElem? (i := 3) rfl, (cov_ro (cov_refl _))⟩, ⟨_, List.mem_of_getElem? (i := 4) rfl, (cov_refl _)⟩, ⟨_, List.mem_of_getElem? (i := 5) rfl, (cov_refl _)⟩⟩) (by rintro k x k2 ⟨o, _, rfl, _⟩; rfl) rfl (Sub.cons rfl <| Sub.cons rfl <| Sub.cons rfl <| Sub.cons rfl <| Sub.nil _) ?_ ?_ ?_ ?_
 rotate_left 1
 · rintro r37 k ⟨ys, A⟩ hfin hin38
   obtain ⟨hr0, hr1, hr2⟩ := hin38
   try dsimp only at hr0 hr1 hr2
   try dsimp only
   refine k_block ?_
   refine hN _ _ _ (l_mark 0 rfl rfl <| l_nil (vs := []) trivial fun w hs => endG 8 rfl (by exact PDone.fin hr0 hfin) hr1 hr2 hs)
 · rintro r39 id A hx40
   simp at hx40
 · rintro r41 A hx42
   obtain ⟨hc, hq0, hq1⟩ := hx42
   try dsimp only
   refine hQ _ _ _ (l_mark 0 rfl rfl <| l_nil (vs := []) trivial fun w hs => endGz 8 rfl hq0 hq1 hs)
 rintro k x k2 ⟨ys, A⟩ lr ra rb S w1 K8 Qr9 hsz hx hin10 hK8 hQr9 xQr9 yQr9
 obtain ⟨o, ho, rfl, rfl⟩ := hx
 obtain ⟨hr0, hr1, hr2⟩ := hin10
 try dsimp only at hr0 hr1 hr2
 try dsimp only
 refine WS fun _ hK11 => rS (AG rfl) <| RK hK11 <| w_region <| AL rfl tz34 fun b12 => SW0 rfl ts34 rfl <| r_nil <| k_sub (fun _ _ h => h) (fun w hs => St.sel [1, 0, 2, 3, 4, 5, 6, 7, 8, 9, 10, 11, 12, 13] rfl rfl hs) ?_
 refine k_then (hK8 _ _ ?_)
 refine w_block <| w_seq fun _ hK13 => w_draw mixed 7 (by kernel_rfl) <| dS (L1Q 12 rfl tk107 rfl) <| dS (SX (sd_nil_p rfl rfl) rfl rfl) <| dS (FA 12 rfl fo142_4 rfl) <| dS (L1R (Value.slice f_A fs.length f_C) 11 rfl tk140 rfl rfl) <| dS (L1Q 13 rfl tk3 rfl) ?_
 obtain ⟨ga, hga⟩ : ∃ y_, fb[b]? = some y_ := ⟨fb[b]'(by omega), List.getElem?_eq_getElem _⟩
 have hgam : (List.zipWith mapC fs fb)[b]? = some (mapC mf ga) := zip_get hm1 hga
 refine dS (IA b rfl (has_at 7 rfl) te140 (by decide) (by omega) (by omega)) <| dS (LE1 b 0 (Value.map (some ga)) rfl tk144 (has_at 7 rfl) hgam rfl (by decide) rfl) <| d_end <| gr_mrangeR (kV := tallyU) (m := gmapV iV mf) 8 rfl rfl ut144 rfl ⟨⟨(gmp tallyU ga (gmapV iV mf)), (mem_nest hm1 hga (by simp [fmR])), rfl⟩, fun h => h⟩ (show Has _ (gmp tallyU ga (gmapV iV mf)).holds from has_inr 8 rfl (mem_nest hm1 hga (by simp [fmR]))) rfl fun r14 => ?_
 try dsimp only
 refine RK hK13 <| w_block ?_
 have hinit : (∀ p ∈ mf, p ∈ mf) ∧ (PLeft (watchOf ln ri e tms) b mf mb o mf ys) ∧ (PDone (watchOf ln ri e tms) b mf mb k ys) ∧ (J ys A) ∧ (Fo A0 w0 A) := by exact ⟨fun p hp => hp, PLeft.start, hr0, hr1, hr2⟩
 refine w_loop (ι := { z : FM × (List (Int × SpanV)) × Assn // (∀ p ∈ z.1, p ∈ mf) ∧ (PLeft (watchOf ln ri e tms) b mf mb o z.1 z.2.1) ∧ (PDone (watchOf ln ri e tms) b mf mb k z.2.1) ∧ (J z.2.1 z.2.2) ∧ (Fo A0 w0 z.2.2) }) (fun z => [(0, (Value.func (.yield l) #[] #[])), (1, (Value.pointer (some ⟨g1, 0, none⟩))), (2, (Value.pointer (some ⟨g2, 0, none⟩))), (3, (Value.pointer (some ⟨b2, 0, none⟩))), (4, (Value.int .i64 o.1)), (5, (Value.pointer (some ⟨b12, 0, none⟩))), (23, (Value.pointer (some ⟨r14, 0, none⟩)))]) (fun z => [(gmr tallyU r14 ga (gmapV iV mf) (gmapV iV z.1.1) none), (obj lr (.loop rb)), (blk b12 34 (SpanV.cells o.2)), (blk b2 148 [(Value.func (.yield l) #[] #[])]), z.1.2.2, (rd e_A e.length 1 (e.map iC)).ro, (rd t_A tms.length 1 (List.zipWith mapC tms tb)).ro, (bun (nest tmR tms tb)).ro, (rd f_A fs.length 1 (List.zipWith mapC fs fb)).ro, (bun (nest fmR fs fb)).ro, (rd b_A bs.length 1 (List.zipWith mapC bs bb)).ro, (bun (nest fmR bs bb)).ro, (blk gw 142 (WatchV.cells (WatchV.mk ln ri (Slc.mk e_A e.length e_C) (Slc.mk t_A tms.length t_C) (Slc.mk f_A fs.length f_C) (Slc.mk b_A bs.length b_C)))).ro, (blk g1 107 [(Value.pointer (some ⟨gw, 0, none⟩))]).ro, (blk g2 3 [(Value.int .i64 ((b : Nat) : Int))]).ro]) (fun z => z.1.1.length) ⟨(mf, ys, A), hinit⟩ (Sub.cons rfl <| Sub.cons rfl <| Sub.cons rfl <| Sub.cons rfl <| Sub.cons rfl <| Sub.cons rfl <| Sub.cons rfl <| Sub.nil _) (fun w hs => St.sel [0, 1, 2, 3, 4, 5, 6, 7, 8, 9, 10, 11, 12, 13, 14] rfl rfl hs) ?_
 clear hinit
 rintro ⟨⟨left, ys, A⟩, ⟨hl5_0, hl5_1, hl5_2, hl5_3, hl5_4⟩⟩ J15 hJ15
 try dsimp only at hl5_0 hl5_1 hl5_2 hl5_3 hl5_4
 try dsimp only
 refine WS fun _ hK16 => ?_
 refine gr_mnextR_v gk146.inj (f := iV) 0 rfl rfl rfl rfl (fun h24 => ?_) (fun t v hm hn => ?_)
 · refine rS (EX rfl) ?_
   refine RK hK16 <| w_seq fun _ hK17 => w_if_false rfl <| w_exit <| k_exit_then <| k_exit_then <| k_exit_same <| k_block ?_
   exact hQr9 (ys, A) _ _ (by exact ⟨PDone.next hl5_2 hl5_1 h24, hl5_3, hl5_4⟩) (fun w hs => St.sel [1, 3, 4, 5, 6, 7, 8, 9, 10, 11, 12, 13, 14] rfl rfl hs)
 try dsimp only
 refine rS (EX rfl) <| RK hK16 <| w_seq fun _ hK18 => w_if_true rfl <| WK hK18 <| w_block <| WS fun _ hK19 => rS (SX (gsd_mentryR 0 rfl rfl rfl) rfl rfl) <| rS (EX rfl) <| rS (EX rfl) ?_
 refine AL rfl tz146 fun b20 => SW0 rfl ts146 rfl <| rS (AG rfl) <| RK hK19 <| w_seq fun _ hK21 => w_draw mixed 8 (by kernel_rfl) <| dS (L1Q 14 rfl tk107 rfl) <| dS (SX (sd_nil_p rfl rfl) rfl rfl) <| dS (FA 13 rfl fo142_5 rfl) <| dS (L1R (Value.slice b_A bs.length b_C) 13 rfl tk140 rfl rfl) ?_
 refine dS (L1Q 15 rfl tk3 rfl) <| dS (BI rfl (b_add ⟨by omega, by omega⟩)) ?_
 obtain ⟨gb, hgb⟩ : ∃ y_, bb[(b + 1)]? = some y_ := ⟨bb[(b + 1)]'(by omega), List.getElem?_eq_getElem _⟩
 have hgbm : (List.zipWith mapC bs bb)[(b + 1)]? = some (mapC mb gb) := zip_get hm2 hgb
 refine dS (IA (b + 1) rfl (has_at 11 rfl) te140 (by decide) (by omega) (by omega)) <| dS (LE1 (b + 1) 0 (Value.map (some gb)) rfl tk144 (has_at 11 rfl) hgbm rfl (by decide) rfl) <| d_end <| gr_mrangeR (kV := tallyU) (m := gmapV iV mb) 12 rfl rfl ut144 rfl ⟨⟨(gmp tallyU gb (gmapV iV mb)), (mem_nest hm2 hgb (by simp [fmR])), rfl⟩, fun h => h⟩ (show Has _ (gmp tallyU gb (gmapV iV mb)).holds from has_inr 12 rfl (mem_nest hm2 hgb (by simp [fmR]))) rfl fun r22 => ?_
 try dsimp only
 refine RK hK21 <| w_block ?_
 have hinit : (∀ p ∈ mb, p ∈ mb) ∧ (QLeft (watchOf ln ri e tms) b mb o (t, v) mb ys) ∧ (PLeft (watchOf ln ri e tms) b mf mb o left ys) ∧ (PDone (watchOf ln ri e tms) b mf mb k ys) ∧ (J ys A) ∧ (Fo A0 w0 A) := by exact ⟨fun p hp => hp, QLeft.start, hl5_1, hl5_2, hl5_3, hl5_4⟩
 refine w_loop (ι := { z : FM × (List (Int × SpanV)) × Assn // (∀ p ∈ z.1, p ∈ mb) ∧ (QLeft (watchOf ln ri e tms) b mb o (t, v) z.1 z.2.1) ∧ (PLeft (watchOf ln ri e tms) b mf mb o left z.2.1) ∧ (PDone (watchOf ln ri e tms) b mf mb k z.2.1) ∧ (J z.2.1 z.2.2) ∧ (Fo A0 w0 z.2.2) }) (fun z => [(0, (Value.func (.yield l) #[] #[])), (1, (Value.pointer (some ⟨g1, 0, none⟩))), (2, (Value.pointer (some ⟨g2, 0, none⟩))), (3, (Value.pointer (some ⟨b2, 0, none⟩))), (4, (Value.int .i64 o.1)), (5, (Value.pointer (some ⟨b12, 0, none⟩))), (6, (Value.pointer (some ⟨b20, 0, none⟩))), (7, (Value.int .i64 v)), (23, (Value.pointer (some ⟨r14, 0, none⟩))), (37, (Value.pointer (some ⟨r22, 0, none⟩)))]) (fun z => [(gmr tallyU r22 gb (gmapV iV mb) (gmapV iV z.1.1) none), (blk b20 146 (TallyV.cells t)), (gmr tallyU r14 ga (gmapV iV mf) (gmapV iV (gdelK left t)) (some (t, (Value.int .i64 v)))), (obj lr (.loop rb)), (blk b12 34 (SpanV.cells o.2)), (blk b2 148 [(Value.func (.yield l) #[] #[])]), z.1.2.2, (rd e_A e.length 1 (e.map iC)).ro, (rd t_A tms.length 1 (List.zipWith mapC tms tb)).ro, (bun (nest tmR tms tb)).ro, (rd f_A fs.length 1 (List.zipWith mapC fs fb)).ro, (bun (nest fmR fs fb)).ro, (rd b_A bs.length 1 (List.zipWith mapC bs bb)).ro, (bun (nest fmR bs bb)).ro, (blk gw 142 (WatchV.cells (WatchV.mk ln ri (Slc.mk e_A e.length e_C) (Slc.mk t_A tms.length t_C) (Slc.mk f_A fs.length f_C) (Slc.mk b_A bs.length b_C)))).ro, (blk g1 107 [(Value.pointer (some ⟨gw, 0, none⟩))]).ro, (blk g2 3 [(Value.int .i64 ((b : Nat) : Int))]).ro]) (fun z => z.1.1.length) ⟨(mb, ys, A), hinit⟩ (Sub.cons rfl <| Sub.cons rfl <| Sub.cons rfl <| Sub.cons rfl <| Sub.cons rfl <| Sub.cons rfl <| Sub.cons rfl <| Sub.cons rfl <| Sub.cons rfl <| Sub.cons rfl <| Sub.nil _) (fun w hs => St.sel [0, 1, 2, 3, 4, 5, 6, 7, 8, 9, 10, 11, 12, 13, 14, 15, 16] rfl rfl hs) ?_
 clear hinit
 rintro ⟨⟨l2, ys2, A2⟩, ⟨hl8_0, hl8_1, hl8_2, hl8_3, hl8_4, hl8_5⟩⟩ J23 hJ23
 try dsimp only at hl8_0 hl8_1 hl8_2 hl8_3 hl8_4 hl8_5
 try dsimp only
 refine WS fun _ hK24 => ?_
 refine gr_mnextR_v gk146.inj (f := iV) 0 rfl rfl rfl rfl (fun h38 => ?_) (fun u z hmm hnn => ?_)
 · refine rS (EX rfl) ?_
   refine RK hK24 <| w_seq fun _ hK25 => w_if_false rfl <| w_exit <| k_exit_then <| k_exit_then <| k_exit_same <| k_block <| k_imp (C' := [(gmr tallyU r22 gb (gmapV iV mb) (gmapV iV l2) none), (blk b20 146 (TallyV.cells t)), (gmr tallyU r14 ga (gmapV iV mf) (gmapV iV (gdelK left t)) none), (obj lr (.loop rb)), (blk b12 34 (SpanV.cells o.2)), (blk b2 148 [(Value.func (.yield l) #[] #[])]), A2, (rd e_A e.length 1 (e.map iC)).ro, (rd t_A tms.length 1 (List.zipWith mapC tms tb)).ro, (bun (nest tmR tms tb)).ro, (rd f_A fs.length 1 (List.zipWith mapC fs fb)).ro, (bun (nest fmR fs fb)).ro, (rd b_A bs.length 1 (List.zipWith mapC bs bb)).ro, (bun (nest fmR bs bb)).ro, (blk gw 142 (WatchV.cells (WatchV.mk ln ri (Slc.mk e_A e.length e_C) (Slc.mk t_A tms.length t_C) (Slc.mk f_A fs.length f_C) (Slc.mk b_A bs.length b_C)))).ro, (blk g1 107 [(Value.pointer (some ⟨gw, 0, none⟩))]).ro, (blk g2 3 [(Value.int .i64 ((b : Nat) : Int))]).ro]) 2 rfl gmr_none rfl ?_
   refine k_then (hJ15 ⟨((gdelK left t), ys2, A2), ⟨left_sub hl5_0, PLeft.next hn hm hl8_2 hl8_1 h38, hl8_3, hl8_4, hl8_5⟩⟩ _ _ _ rfl (gdelK_lt hm) (Sub.cons rfl <| Sub.cons rfl <| Sub.cons rfl <| Sub.cons rfl <| Sub.cons rfl <| Sub.cons rfl <| Sub.cons rfl <| Sub.nil _) (fun w hs => St.sel [2, 3, 4, 5, 6, 7, 8, 9, 10, 11, 12, 13, 14, 15, 16] rfl rfl hs))
 try dsimp only
 refine rS (EX rfl) <| RK hK24 <| w_seq fun _ hK26 => w_if_true rfl <| WK hK26 <| w_block <| WS fun _ hK27 => rS (SX (gsd_mentryR 0 rfl rfl rfl) rfl rfl) <| rS (EX rfl) <| rS (EX rfl) ?_
 refine AL rfl tz146 fun b28 => SW0 rfl ts146 rfl <| rS (AG rfl) <| RK hK27 <| w_seq fun _ hK29 => w_draw4 mixed [0, 1, 2, 3, 4, 5, 6, 7, 8, 9, 10, 11, 12, 13, 14, 15, 16] [17, 18] [false, false, false, false, false, false, false, false, false, false, false, false, false, false, false, false, false] [false, false] [(blk b28 146 (TallyV.cells u)), (gmr tallyU r22 gb (gmapV iV mb) (gmapV iV (gdelK l2 u)) (some (u, (Value.int .i64 z)))), (blk b20 146 (TallyV.cells t)), (gmr tallyU r14 ga (gmapV iV mf) (gmapV iV (gdelK left t)) (some (t, (Value.int .i64 v)))), (obj lr (.loop rb)), (blk b12 34 (SpanV.cells o.2)), (blk b2 148 [(Value.func (.yield l) #[] #[])]), A2, (rd e_A e.length 1 (e.map iC)).ro, (rd t_A tms.length 1 (List.zipWith mapC tms tb)).ro, (bun (nest tmR tms tb)).ro, (rd f_A fs.length 1 (List.zipWith mapC fs fb)).ro, (bun (nest fmR fs fb)).ro, (rd b_A bs.length 1 (List.zipWith mapC bs bb)).ro, (bun (nest fmR bs bb)).ro, (blk gw 142 (WatchV.cells (WatchV.mk ln ri (Slc.mk e_A e.length e_C) (Slc.mk t_A tms.length t_C) (Slc.mk f_A fs.length f_C) (Slc.mk b_A bs.length b_C)))).ro, (blk g1 107 [(Value.pointer (some ⟨gw, 0, none⟩))]).ro, (blk g2 3 [(Value.int .i64 ((b : Nat) : Int))]).ro] [] (by kernel_rfl) (fun w hs => St.sel [0, 1, 2, 3, 4, 5, 6, 7, 8, 9, 10, 11, 12, 13, 14, 15, 16, 17] rfl rfl hs) (fun w hs => St.sel [] rfl rfl hs) <| eS rfl (MV rfl) <| eS rfl (L1Q 16 rfl tk107 rfl) <| eS rfl (SX (sd_nil_p rfl rfl) rfl rfl) <| eS rfl (FA 10 rfl fo142_2 rfl) ?_
 refine eS rfl (L1R (Value.slice e_A e.length e_C) 15 rfl tk57 rfl rfl) <| eS rfl (L1Q 17 rfl tk3 rfl) ?_
 obtain ⟨y, hy⟩ : ∃ y_, e[b]? = some y_ := ⟨e[b]'(by omega), List.getElem?_eq_getElem _⟩
 have hym : (e.map iC)[b]? = some (iC y) := by rw [List.getElem?_map, hy]; rfl
 refine eS rfl (IA b rfl (has_at 8 rfl) te57 (by decide) (by omega) (by omega)) <| eS rfl (LE1 b 0 (Value.int .i64 y) rfl tk3 (has_at 8 rfl) hym rfl (by decide) rfl) ?_
 have hlb := hw.least y (List.mem_of_getElem? hy)
 have hfp := fwd_b hw _ _ (hfw.mem hm1 (hl5_0 _ hm))
 have hbp := back_b hw (hbw.mem hm2 (hl8_0 _ hmm))
 have ho1 := oneT_b o.1
 have hob := hw.opt ho
 dsimp only at hfp hbp
 refine eS rfl (BI rfl (b_add ⟨by omega, by omega⟩)) <| eS rfl (FA 0 rfl fo34_0 rfl) <| eS rfl (L1 (Value.int .i64 o.2.Lo) 5 rfl tk3 rfl rfl) <| eS rfl (MX rfl) <| eS rfl (MV rfl) <| eS rfl (FA 1 rfl fo34_1 rfl) <| eS rfl (L1 (Value.int .i64 o.2.Hi) 5 rfl tk3 rfl rfl) <| eS rfl (MN rfl) <| eS rfl (SX (sd_build (xs := [(0, .tmp 54), (1, .tmp 58)]) (cs := (SpanV.cells (SpanV.mk (max (v + y) o.2.Lo) (min z o.2.Hi)))) rfl rfl (built_of tb34 rfl)) rfl rfl) <| d_fin rfl ?_
 refine t_cons rfl fun T30 hT30 => AL rfl tz34 fun b31 => ?_
 refine r_nil (hT30 _ _ (fun w hs => St.sel [1, 2, 3, 4, 5, 6, 7, 8, 9, 10, 11, 12, 13, 14, 15, 16, 17, 18] rfl rfl hs) ?_)
 refine t_cons rfl fun T32 hT32 => SW0 rfl ts34 rfl ?_
 refine r_nil (hT32 _ _ (fun w hs => St.sel [1, 2, 3, 4, 5, 6, 7, 8, 9, 10, 11, 12, 13, 14, 15, 16, 17, 18] rfl rfl hs) ?_)
 refine t_fin rfl <| KK hK29 <| w_seq fun _ hK33 => w_draw mixed 19 (by kernel_rfl) <| dS (FA 0 rfl fo34_0 rfl) <| dS (L1 (Value.int .i64 (max (v + y) o.2.Lo)) 0 rfl tk3 rfl rfl) <| dS (FA 1 rfl fo34_1 rfl) <| dS (L1 (Value.int .i64 (min z o.2.Hi)) 0 rfl tk3 rfl rfl) <| dS (BI rfl b_leq) <| dS (MV rfl) ?_
 refine d_bool (t := 65) rfl (fun h65 => ?_) (fun h65 => ?_)
 rotate_left 1
 · replace h65 := DF h65
   refine dS (OX rfl) <| dS (OX rfl) <| dS (OX rfl) <| dS (OX rfl) <| dS (OX rfl) <| dS (OX rfl) <| dS (OX rfl) <| dS (OX rfl) <| dS (PK rfl) <| dS (MV rfl) ?_
   refine dS (OX rfl) <| dS (OX rfl) <| dS (OX rfl) <| d_end <| rS (OX rfl) <| rS (OX rfl) <| rS (PK rfl) <| RK hK33 <| w_if_false rfl <| w_skip ?_
   refine k_block <| k_imp (C' := [(blk b31 34 (SpanV.cells (SpanV.mk (max (v + y) o.2.Lo) (min z o.2.Hi)))), (blk b28 146 (TallyV.cells u)), (gmr tallyU r22 gb (gmapV iV mb) (gmapV iV (gdelK l2 u)) none), (blk b20 146 (TallyV.cells t)), (gmr tallyU r14 ga (gmapV iV mf) (gmapV iV (gdelK left t)) (some (t, (Value.int .i64 v)))), (obj lr (.loop rb)), (blk b12 34 (SpanV.cells o.2)), (blk b2 148 [(Value.func (.yield l) #[] #[])]), A2, (rd e_A e.length 1 (e.map iC)).ro, (rd t_A tms.length 1 (List.zipWith mapC tms tb)).ro, (bun (nest tmR tms tb)).ro, (rd f_A fs.length 1 (List.zipWith mapC fs fb)).ro, (bun (nest fmR fs fb)).ro, (rd b_A bs.length 1 (List.zipWith mapC bs bb)).ro, (bun (nest fmR bs bb)).ro, (blk gw 142 (WatchV.cells (WatchV.mk ln ri (Slc.mk e_A e.length e_C) (Slc.mk t_A tms.length t_C) (Slc.mk f_A fs.length f_C) (Slc.mk b_A bs.length b_C)))).ro, (blk g1 107 [(Value.pointer (some ⟨gw, 0, none⟩))]).ro, (blk g2 3 [(Value.int .i64 ((b : Nat) : Int))]).ro]) 2 rfl gmr_none rfl ?_
   refine k_then (hJ23 ⟨((gdelK l2 u), ys2, A2), ⟨left_sub hl8_0, QLeft.skip hnn hmm hl8_1 (by first | exact passO_off hy h65 | exact passO_not h75), hl8_2, hl8_3, hl8_4, hl8_5⟩⟩ _ _ _ rfl (gdelK_lt hmm) (Sub.cons rfl <| Sub.cons rfl <| Sub.cons rfl <| Sub.cons rfl <| Sub.cons rfl <| Sub.cons rfl <| Sub.cons rfl <| Sub.cons rfl <| Sub.cons rfl <| Sub.cons rfl <| Sub.nil _) (fun w hs => St.sel [2, 3, 4, 5, 6, 7, 8, 9, 10, 11, 12, 13, 14, 15, 16, 17, 18] rfl rfl hs))
 replace h65 := DT h65
 refine dS (L1Q 17 rfl tk107 rfl) <| dS (LW 3 rfl tk146 rfl rfl) <| dS (LW 1 rfl tk146 rfl rfl) ?_
 have hpu : (0 ≤ (addT t u).right ∧ (addT t u).right ≤ 1000) ∧ 0 ≤ (addT t u).missed ∧ (addT t u).missed ≤ 1000 := by simp only [addT]; omega
 have hpa : (0 ≤ (addT (addT t u) (oneT o.1)).right ∧ (addT (addT t u) (oneT o.1)).right ≤ 1000) ∧ 0 ≤ (addT (addT t u) (oneT o.1)).missed ∧ (addT (addT t u) (oneT o.1)).missed ≤ 1000 := by simp only [addT]; omega
 refine dS (CL (tplus_c t u (by first | assumption | omega | (simp; done) | (simp; omega)) (by first | assumption | omega | (simp; done) | (simp; omega))) (ha_nil) rfl) <| dS (MV rfl) <| dS (CL (one_c o.1) (ha_nil) rfl) <| dS (CL (tplus_c (addT t u) (oneT o.1) (by first | assumption | omega | (simp; done) | (simp; omega)) (by first | assumption | omega | (simp; done) | (simp; omega))) (ha_nil) rfl) <| dS (CL (may_c ln ri e tms e_A e_C tb t_A t_C fs bs fb f_A f_C bb b_A b_C gw (addT (addT t u) (oneT o.1)) (by first | assumption | omega | (simp; done) | (simp; omega)) hsg) (ha_at 9 rfl rfl <| ha_at 10 rfl rfl <| ha_at 11 rfl rfl <| ha_at 12 rfl rfl <| ha_at 13 rfl rfl <| ha_at 14 rfl rfl <| ha_at 15 rfl rfl <| ha_at 16 rfl rfl <| ha_nil) rfl) <| dS (PK rfl) <| dS (MV rfl) ?_
 refine d_bool (t := 75) rfl (fun h75 => ?_) (fun h75 => ?_)
 rotate_left 1
 · refine dS (OX rfl) ?_
   refine dS (OX rfl) <| dS (OX rfl) <| d_end <| rS (OX rfl) <| rS (OX rfl) <| rS (PK rfl) <| RK hK33 <| w_if_false rfl <| w_skip <| k_block ?_
   refine k_imp (C' := [(blk b31 34 (SpanV.cells (SpanV.mk (max (v + y) o.2.Lo) (min z o.2.Hi)))), (blk b28 146 (TallyV.cells u)), (gmr tallyU r22 gb (gmapV iV mb) (gmapV iV (gdelK l2 u)) none), (blk b20 146 (TallyV.cells t)), (gmr tallyU r14 ga (gmapV iV mf) (gmapV iV (gdelK left t)) (some (t, (Value.int .i64 v)))), (obj lr (.loop rb)), (blk b12 34 (SpanV.cells o.2)), (blk b2 148 [(Value.func (.yield l) #[] #[])]), A2, (rd e_A e.length 1 (e.map iC)).ro, (rd t_A tms.length 1 (List.zipWith mapC tms tb)).ro, (bun (nest tmR tms tb)).ro, (rd f_A fs.length 1 (List.zipWith mapC fs fb)).ro, (bun (nest fmR fs fb)).ro, (rd b_A bs.length 1 (List.zipWith mapC bs bb)).ro, (bun (nest fmR bs bb)).ro, (blk gw 142 (WatchV.cells (WatchV.mk ln ri (Slc.mk e_A e.length e_C) (Slc.mk t_A tms.length t_C) (Slc.mk f_A fs.length f_C) (Slc.mk b_A bs.length b_C)))).ro, (blk g1 107 [(Value.pointer (some ⟨gw, 0, none⟩))]).ro, (blk g2 3 [(Value.int .i64 ((b : Nat) : Int))]).ro]) 2 rfl gmr_none rfl ?_
   refine k_then (hJ23 ⟨((gdelK l2 u), ys2, A2), ⟨left_sub hl8_0, QLeft.skip hnn hmm hl8_1 (by first | exact passO_off hy h65 | exact passO_not h75), hl8_2, hl8_3, hl8_4, hl8_5⟩⟩ _ _ _ rfl (gdelK_lt hmm) (Sub.cons rfl <| Sub.cons rfl <| Sub.cons rfl <| Sub.cons rfl <| Sub.cons rfl <| Sub.cons rfl <| Sub.cons rfl <| Sub.cons rfl <| Sub.cons rfl <| Sub.cons rfl <| Sub.nil _) (fun w hs => St.sel [2, 3, 4, 5, 6, 7, 8, 9, 10, 11, 12, 13, 14, 15, 16, 17, 18] rfl rfl hs))
 refine dS (L1W 7 rfl tk148 rfl) <| dS (MV rfl) <| dS (LW 0 rfl tk34 rfl rfl) <| d_end ?_
 refine r_yieldG (k := ys2) (k' := (ys2 ++ [(o.1, (SpanV.mk (max (v + y) o.2.Lo) (min z o.2.Hi)))])) 8 (by first | exact hsz | exact Nat.le_refl _) hY hl8_4 hl8_5 rfl rfl rfl (by exact ⟨(o.1, _), mem_passM.2 ⟨o, ho, (t, v), hl5_0 _ hm, (u, z), hl8_0 _ hmm, (passO_at hy h65 h75)⟩, rfl, rfl⟩) rfl rfl (fun B34 hJ35 hF36 => ?_) (fun B34 hJ35 hF36 => ?_)
 rotate_left 1
 · refine rS (NT rfl) ?_
   refine rS (PK rfl) <| RK hK33 <| w_if_true rfl <| w_ret ?_
   exact yQr9 B34 _ _ (by exact ⟨rfl, hJ35, hF36⟩) (fun w hs => St.sel [5, 7, 8, 9, 10, 11, 12, 13, 14, 15, 16, 17, 18] rfl rfl hs)
 refine rS (NT rfl) <| rS (PK rfl) <| RK hK33 <| w_if_false rfl <| w_skip <| k_block <| k_imp (C' := [(blk b31 34 (SpanV.cells (SpanV.mk (max (v + y) o.2.Lo) (min z o.2.Hi)))), (blk b28 146 (TallyV.cells u)), (gmr tallyU r22 gb (gmapV iV mb) (gmapV iV (gdelK l2 u)) none), (blk b20 146 (TallyV.cells t)), (gmr tallyU r14 ga (gmapV iV mf) (gmapV iV (gdelK left t)) (some (t, (Value.int .i64 v)))), (obj lr (.loop rb)), (blk b12 34 (SpanV.cells o.2)), (blk b2 148 [(Value.func (.yield l) #[] #[])]), B34, (rd e_A e.length 1 (e.map iC)).ro, (rd t_A tms.length 1 (List.zipWith mapC tms tb)).ro, (bun (nest tmR tms tb)).ro, (rd f_A fs.length 1 (List.zipWith mapC fs fb)).ro, (bun (nest fmR fs fb)).ro, (rd b_A bs.length 1 (List.zipWith mapC bs bb)).ro, (bun (nest fmR bs bb)).ro, (blk gw 142 (WatchV.cells (WatchV.mk ln ri (Slc.mk e_A e.length e_C) (Slc.mk t_A tms.length t_C) (Slc.mk f_A fs.length f_C) (Slc.mk b_A bs.length b_C)))).ro, (blk g1 107 [(Value.pointer (some ⟨gw, 0, none⟩))]).ro, (blk g2 3 [(Value.int .i64 ((b : Nat) : Int))]).ro]) 2 rfl gmr_none rfl ?_
 refine k_then (hJ23 ⟨((gdelK l2 u), (ys2 ++ [(o.1, (SpanV.mk (max (v + y) o.2.Lo) (min z o.2.Hi)))]), B34), ⟨left_sub hl8_0, QLeft.took hnn hmm hl8_1 (passO_at hy h65 h75), hl8_2.app, hl8_3.app, hJ35, hF36⟩⟩ _ _ _ rfl (gdelK_lt hmm) (Sub.cons rfl <| Sub.cons rfl <| Sub.cons rfl <| Sub.cons rfl <| Sub.cons rfl <| Sub.cons rfl <| Sub.cons rfl <| Sub.cons rfl <| Sub.cons rfl <| Sub.cons rfl <| Sub.nil _) (fun w hs => St.sel [2, 3, 4, 5, 6, 7, 8, 9, 10, 11, 12, 13, 14, 15, 16, 17, 18] rfl rfl hs))
end
section
open Go.RowKit
set_option linter.unusedVariables false
set_option maxRecDepth 100000 in
set_option maxHeartbeats 400000 in
theorem open1_c (l : LineM) (kA : Option Addr) (kC : Nat) (az : List RA) (cA : Option Addr) (cC : Nat) (bA : Option Addr) (bC : Nat) (r : RideM) (sgA : Option Addr) (sgC : Nat) (f : Value) (X : Assn) (me : Int) (gm : Nat) (hf : Clo Try.prog f [] [X] (.int .i64 me)) (hin : LineIn l az) (hsl : r.Signals.length ≤ 1000000) :
    FnX Try.prog 61 [(Value.agg (LineV.cells (LineV.mk (TrackV.mk (Slc.mk kA l.Track.length kC)) l.Fast (Slc.mk cA l.Clocks.length cC) (Slc.mk bA l.Beams.length bC) l.Finish l.Fakes l.Misses)).toArray), (Value.agg (RideV.cells (RideV.mk r.Start r.Now (Slc.mk sgA r.Signals.length sgC))).toArray), (Value.slice (some ⟨gm, 0, none⟩) 1 1)] [(rd kA l.Track.length 9 (l.Track.map StretchV.cells)), (rd cA l.Clocks.length 2 (List.zipWith ClockM.cells l.Clocks az)), (bun (nest ClockM.rds l.Clocks az)), (rd bA l.Beams.length 4 (l.Beams.map BeamV.cells)), (rd sgA r.Signals.length 2 (r.Signals.map SignalV.cells)), X, (blk gm 111 [f])] (fun (x : Bool × Int × Nat × (Option Addr) × Nat × (Option Addr) × Nat × (List Nat) × (List FM) × (List Nat) × (Option Addr) × Nat × (List FM) × (List Nat) × (Option Addr) × Nat) => bif x.1 then (Value.tuple [(Value.pointer (some ⟨x.2.2.1, 0, none⟩)), (Value.int .i64 0)].toArray) else (Value.tuple [(Value.pointer none), (Value.int .i64 x.2.1)].toArray)) (fun (x : Bool × Int × Nat × (Option Addr) × Nat × (Option Addr) × Nat × (List Nat) × (List FM) × (List Nat) × (Option Addr) × Nat × (List FM) × (List Nat) × (Option Addr) × Nat) => (x.1 = true → (openE l r me = 0 ∧ FwdOk (watchL l r) x.2.2.2.2.2.2.2.2.1 ∧ BackOk (watchL l r) x.2.2.2.2.2.2.2.2.2.2.2.2.1 ∧ x.2.2.2.2.2.2.2.2.2.1.length = x.2.2.2.2.2.2.2.2.1.length ∧ x.2.2.2.2.2.2.2.2.2.2.2.2.2.1.length = x.2.2.2.2.2.2.2.2.2.2.2.2.1.length ∧ x.2.2.2.2.2.2.2.1.length = (timesT l r.Signals r.Signals.length).length)) ∧ (x.1 = false → (x.2.1 = openE l r me ∧ ¬ openE l r me = 0))) (fun (x : Bool × Int × Nat × (Option Addr) × Nat × (Option Addr) × Nat × (List Nat) × (List FM) × (List Nat) × (Option Addr) × Nat × (List FM) × (List Nat) × (Option Addr) × Nat) => bif x.1 then [(blk x.2.2.1 142 (WatchV.cells (WatchV.mk (LineV.mk (TrackV.mk (Slc.mk kA l.Track.length kC)) l.Fast (Slc.mk cA l.Clocks.length cC) (Slc.mk bA l.Beams.length bC) l.Finish l.Fakes l.Misses) (RideV.mk r.Start r.Now (Slc.mk sgA r.Signals.length sgC)) (Slc.mk x.2.2.2.1 ((leasts l l.Beams.length).length) x.2.2.2.2.1) (Slc.mk x.2.2.2.2.2.1 ((timesT l r.Signals r.Signals.length).length) x.2.2.2.2.2.2.1) (Slc.mk x.2.2.2.2.2.2.2.2.2.2.1 x.2.2.2.2.2.2.2.2.1.length x.2.2.2.2.2.2.2.2.2.2.2.1) (Slc.mk x.2.2.2.2.2.2.2.2.2.2.2.2.2.2.1 x.2.2.2.2.2.2.2.2.2.2.2.2.1.length x.2.2.2.2.2.2.2.2.2.2.2.2.2.2.2)))), (own x.2.2.2.1 x.2.2.2.2.1 3 1 ((leasts l l.Beams.length).map iC)), (own x.2.2.2.2.2.1 x.2.2.2.2.2.2.1 143 1 (List.zipWith mapC (timesT l r.Signals r.Signals.length) x.2.2.2.2.2.2.2.1)), (bund (nest tmR (timesT l r.Signals r.Signals.length) x.2.2.2.2.2.2.2.1)), (own x.2.2.2.2.2.2.2.2.2.2.1 x.2.2.2.2.2.2.2.2.2.2.2.1 144 1 (List.zipWith mapC x.2.2.2.2.2.2.2.2.1 x.2.2.2.2.2.2.2.2.2.1)), (bund (nest fmR x.2.2.2.2.2.2.2.2.1 x.2.2.2.2.2.2.2.2.2.1)), (own x.2.2.2.2.2.2.2.2.2.2.2.2.2.2.1 x.2.2.2.2.2.2.2.2.2.2.2.2.2.2.2 144 1 (List.zipWith mapC x.2.2.2.2.2.2.2.2.2.2.2.2.1 x.2.2.2.2.2.2.2.2.2.2.2.2.2.1)), (bund (nest fmR x.2.2.2.2.2.2.2.2.2.2.2.2.1 x.2.2.2.2.2.2.2.2.2.2.2.2.2.1))] else []) := by
 have htk := hin.trk
 have hck := hin.cks
 have has := hin.as_
 have hbm := hin.bms
 have hsd := hin.side
 refine fnX_of go61 Try.func61 rfl rfl fun w0 Q hQ hN => ?_
 try dsimp only
 refine WS fun _ hK1 => BXA rfl fun b2 => BXA rfl fun b3 => rS (AG rfl) <| rS (AG rfl) <| RK hK1 <| w_seq fun _ hK4 => WS fun _ hK5 => rS (LW 1 rfl tk28 rfl rfl) <| rS (CL (lcheck_c l kA kC az cA cC bA bC hin) (ha_at 2 rfl rfl <| ha_at 3 rfl rfl <| ha_at 4 rfl rfl <| ha_at 5 rfl rfl <| ha_nil) rfl) ?_
 refine rS (AG rfl) <| RK hK5 <| WS fun _ hK6 => rS (MV rfl) <| rS (BI rfl b_neq) <| RK hK6 ?_
 refine w_if rfl (fun h21 => ?_) (fun h21 => ?_)
 · replace h21 := XT h21
   refine WS fun _ hK7 => rS (MV rfl) <| rS (AG rfl) <| rS (AG rfl) <| RK hK7 <| w_ret ?_
   refine hQ _ _ _ (l_nil (vs := [(Value.pointer none), (Value.int .i64 (lineE l))]) ⟨rfl, rfl, trivial⟩ fun w hs => endX (false, (lineE l), 0, none, 0, none, 0, [], [], [], none, 0, [], [], none, 0) [] ?_ ?_ rfl rfl (by first | rfl | (show List.all _ _ = true; simp only [cond_true, List.all_cons, List.all_nil, fm_wr, tm_wr, Bool.and_true]; rfl)) hs)
   · rfl
   · refine ⟨fun q => Bool.noConfusion (show false = true from q), fun _ => ?_⟩; first | (have e := open_line_e (r := r) (me := me) h21; exact ⟨e.symm, fun q => h21 (e.symm.trans q)⟩) | (have e := open_ride_e (me := me) h10 (fun q : RideOk l r => by have q1 := q.time; have q2 := q.len; omega); exact ⟨e.symm, fun q => absurd (e.symm.trans q) (by decide)⟩) | (have e := open_ride_e (me := me) h10 (ride_no hx (by unfold SigOk SigIn; omega)); exact ⟨e.symm, fun q => absurd (e.symm.trans q) (by decide)⟩) | (have e := open_more_e h10 hro h156; exact ⟨e.symm, fun q => h156 (e.symm.trans q)⟩) | (have e := open_bad_e (me := me) h10 hro (by first | rfl | exact h156) (show numsF (watchL l r) = [] from List.eq_nil_of_length_eq_zero (Int.natCast_eq_zero.1 h164)); exact ⟨e.symm, fun q => absurd (e.symm.trans q) (by decide)⟩)
 replace h21 := XF h21
 refine WK hK4 <| w_seq fun _ hK8 => WS fun _ hK9 => ?_
 have h10 : lineE l = 0 := h21
 obtain ⟨htr, hok⟩ := lineE_zero h10
 have hhd := hok.head
 unfold HeadOk at hhd
 refine rS (FA 0 rfl fo69_0 rfl) <| rS (L1 (Value.int .i64 r.Start) 0 rfl tk3 rfl rfl) <| r_bs (xs := [.tmp 24]) (cs := [(Value.int .i64 r.Start)]) rfl te57 tz3 rfl rfl rfl rfl (by simp [Value.cells]) rfl rfl fun b10 => rS (CL (FnV.eq (in_beam 0 86400000 ([r.Start]) (some ⟨b10, 0, none⟩) 1 (by first | assumption | omega | (simp; done) | (simp; omega))) inAll_one) (ha_cons (has_rd_blk 0 rfl rfl (by simp [iC_length]) rfl) <| ha_nil) rfl) <| rS (NT rfl) <| rS (MV rfl) ?_
 refine r_bool (t := 28) rfl (fun h28 => ?_) (fun h28 => ?_)
 · replace h28 := XT h28
   refine rS (OX rfl) <| rS (OX rfl) <| rS (OX rfl) <| rS (OX rfl) <| rS (OX rfl) <| rS (OX rfl) <| rS (OX rfl) <| rS (PK rfl) <| rS (MV rfl) <| rS (OX rfl) ?_
   refine rS (OX rfl) <| rS (OX rfl) <| rS (OX rfl) <| rS (PK rfl) <| RK hK9 <| w_if_true rfl <| WS fun _ hK11 => rS (AG rfl) <| rS (AG rfl) <| RK hK11 ?_
   refine w_ret ?_
   refine hQ _ _ _ (l_nil (vs := [(Value.pointer none), (Value.int .i64 51)]) ⟨rfl, rfl, trivial⟩ fun w hs => endX (false, 51, 0, none, 0, none, 0, [], [], [], none, 0, [], [], none, 0) [] ?_ ?_ rfl rfl (by first | rfl | (show List.all _ _ = true; simp only [cond_true, List.all_cons, List.all_nil, fm_wr, tm_wr, Bool.and_true]; rfl)) hs)
   · rfl
   · refine ⟨fun q => Bool.noConfusion (show false = true from q), fun _ => ?_⟩; first | (have e := open_line_e (r := r) (me := me) h21; exact ⟨e.symm, fun q => h21 (e.symm.trans q)⟩) | (have e := open_ride_e (me := me) h10 (fun q : RideOk l r => by have q1 := q.time; have q2 := q.len; omega); exact ⟨e.symm, fun q => absurd (e.symm.trans q) (by decide)⟩) | (have e := open_ride_e (me := me) h10 (ride_no hx (by unfold SigOk SigIn; omega)); exact ⟨e.symm, fun q => absurd (e.symm.trans q) (by decide)⟩) | (have e := open_more_e h10 hro h156; exact ⟨e.symm, fun q => h156 (e.symm.trans q)⟩) | (have e := open_bad_e (me := me) h10 hro (by first | rfl | exact h156) (show numsF (watchL l r) = [] from List.eq_nil_of_length_eq_zero (Int.natCast_eq_zero.1 h164)); exact ⟨e.symm, fun q => absurd (e.symm.trans q) (by decide)⟩)
 replace h28 := XF h28
 refine rS (FA 0 rfl fo69_0 rfl) <| rS (L1 (Value.int .i64 r.Start) 1 rfl tk3 rfl rfl) <| rS (FA 1 rfl fo69_1 rfl) <| rS (L1 (Value.int .i64 r.Now) 1 rfl tk3 rfl rfl) <| r_bs (xs := [.tmp 32]) (cs := [(Value.int .i64 r.Now)]) rfl te57 tz3 rfl rfl rfl rfl (by simp [Value.cells]) rfl rfl fun b12 => rS (CL (FnV.eq (in_beam r.Start 86400000 ([r.Now]) (some ⟨b12, 0, none⟩) 1 (by first | assumption | omega | (simp; done) | (simp; omega))) inAll_one) (ha_cons (has_rd_blk 0 rfl rfl (by simp [iC_length]) rfl) <| ha_nil) rfl) <| rS (NT rfl) <| rS (PK rfl) <| rS (MV rfl) ?_
 refine r_bool (t := 37) rfl (fun h37 => ?_) (fun h37 => ?_)
 · replace h37 := XT h37
   refine rS (OX rfl) <| rS (OX rfl) <| rS (OX rfl) <| rS (OX rfl) <| rS (PK rfl) <| RK hK9 <| w_if_true rfl <| WS fun _ hK13 => rS (AG rfl) <| rS (AG rfl) ?_
   refine RK hK13 <| w_ret ?_
   refine hQ _ _ _ (l_nil (vs := [(Value.pointer none), (Value.int .i64 51)]) ⟨rfl, rfl, trivial⟩ fun w hs => endX (false, 51, 0, none, 0, none, 0, [], [], [], none, 0, [], [], none, 0) [] ?_ ?_ rfl rfl (by first | rfl | (show List.all _ _ = true; simp only [cond_true, List.all_cons, List.all_nil, fm_wr, tm_wr, Bool.and_true]; rfl)) hs)
   · rfl
   · refine ⟨fun q => Bool.noConfusion (show false = true from q), fun _ => ?_⟩; first | (have e := open_line_e (r := r) (me := me) h21; exact ⟨e.symm, fun q => h21 (e.symm.trans q)⟩) | (have e := open_ride_e (me := me) h10 (fun q : RideOk l r => by have q1 := q.time; have q2 := q.len; omega); exact ⟨e.symm, fun q => absurd (e.symm.trans q) (by decide)⟩) | (have e := open_ride_e (me := me) h10 (ride_no hx (by unfold SigOk SigIn; omega)); exact ⟨e.symm, fun q => absurd (e.symm.trans q) (by decide)⟩) | (have e := open_more_e h10 hro h156; exact ⟨e.symm, fun q => h156 (e.symm.trans q)⟩) | (have e := open_bad_e (me := me) h10 hro (by first | rfl | exact h156) (show numsF (watchL l r) = [] from List.eq_nil_of_length_eq_zero (Int.natCast_eq_zero.1 h164)); exact ⟨e.symm, fun q => absurd (e.symm.trans q) (by decide)⟩)
 replace h37 := XF h37
 refine rS (FA 2 rfl fo69_2 rfl) <| rS (L1 (Value.slice sgA r.Signals.length sgC) 2 rfl tk67 rfl rfl) <| rS (LN rfl ut67) <| rS (BI rfl b_gtr) <| rS (PK rfl) <| RK hK9 ?_
 refine w_if rfl (fun h42 => ?_) (fun h42 => ?_)
 · replace h42 := DT h42
   refine WS fun _ hK14 => rS (AG rfl) <| rS (AG rfl) <| RK hK14 <| w_ret ?_
   refine hQ _ _ _ (l_nil (vs := [(Value.pointer none), (Value.int .i64 51)]) ⟨rfl, rfl, trivial⟩ fun w hs => endX (false, 51, 0, none, 0, none, 0, [], [], [], none, 0, [], [], none, 0) [] ?_ ?_ rfl rfl (by first | rfl | (show List.all _ _ = true; simp only [cond_true, List.all_cons, List.all_nil, fm_wr, tm_wr, Bool.and_true]; rfl)) hs)
   · rfl
   · refine ⟨fun q => Bool.noConfusion (show false = true from q), fun _ => ?_⟩; first | (have e := open_line_e (r := r) (me := me) h21; exact ⟨e.symm, fun q => h21 (e.symm.trans q)⟩) | (have e := open_ride_e (me := me) h10 (fun q : RideOk l r => by have q1 := q.time; have q2 := q.len; omega); exact ⟨e.symm, fun q => absurd (e.symm.trans q) (by decide)⟩) | (have e := open_ride_e (me := me) h10 (ride_no hx (by unfold SigOk SigIn; omega)); exact ⟨e.symm, fun q => absurd (e.symm.trans q) (by decide)⟩) | (have e := open_more_e h10 hro h156; exact ⟨e.symm, fun q => h156 (e.symm.trans q)⟩) | (have e := open_bad_e (me := me) h10 hro (by first | rfl | exact h156) (show numsF (watchL l r) = [] from List.eq_nil_of_length_eq_zero (Int.natCast_eq_zero.1 h164)); exact ⟨e.symm, fun q => absurd (e.symm.trans q) (by decide)⟩)
 replace h42 := DF h42
 refine WK hK8 <| WS fun _ hK15 => rS (SX (sd_build (xs := [(0, .const (Value.int .i64 (-1)))]) (cs := (SignalV.cells (SignalV.mk (-1) 0))) rfl rfl (built_of tb30 rfl)) rfl rfl) <| AL rfl tz30 fun b16 => SW0 rfl ts30 rfl <| RK hK15 <| w_seq fun _ hK17 => w_draw4 mixed [0, 1, 2, 3, 4] [5, 6, 7, 8] [false, false, false, false, false] [false, false, false, false] [(blk b16 30 (SignalV.cells (SignalV.mk (-1) 0))), (blk b12 3 [(Value.int .i64 r.Now)]), (blk b10 3 [(Value.int .i64 r.Start)]), (blk b3 69 (RideV.cells (RideV.mk r.Start r.Now (Slc.mk sgA r.Signals.length sgC)))), (blk b2 28 (LineV.cells (LineV.mk (TrackV.mk (Slc.mk kA l.Track.length kC)) l.Fast (Slc.mk cA l.Clocks.length cC) (Slc.mk bA l.Beams.length bC) l.Finish l.Fakes l.Misses))), (rd kA l.Track.length 9 (l.Track.map StretchV.cells)).ro, (rd cA l.Clocks.length 2 (List.zipWith ClockM.cells l.Clocks az)).ro, (bun (nest ClockM.rds l.Clocks az)).ro, (rd bA l.Beams.length 4 (l.Beams.map BeamV.cells)).ro, (rd sgA r.Signals.length 2 (r.Signals.map SignalV.cells)).ro, X.ro, (blk gm 111 [f]).ro] [] (by kernel_rfl) (fun w hs => St.sel [0, 1, 2, 3, 4, 5, 6, 7, 8, 9, 10, 11] rfl rfl hs) (fun w hs => St.sel [] rfl rfl hs) <| eS rfl (LW 4 rfl tk28 rfl rfl) <| eS rfl (LW 3 rfl tk69 rfl rfl) ?_
 refine eS rfl (FA 3 rfl fo28_3 rfl) <| eS rfl (L1 (Value.slice bA l.Beams.length bC) 4 rfl tk26 rfl rfl) <| eS rfl (LN rfl ut26) <| d_fin rfl <| t_cons rfl fun T18 hT18 => r_mks (n := l.Beams.length) (es := (List.map oC (List.replicate l.Beams.length (none : Option Nat)))) rfl rfl rfl ta139 (by omega) (by omega) (by simp only [maxLen]; omega) (by rw [List.map_replicate]; rfl) rfl fun b19 => ?_
 try dsimp only
 refine r_nil (hT18 _ _ (fun w hs => St.sel [1, 2, 3, 4, 5, 6, 7, 8, 9, 10, 11, 12] rfl rfl hs) ?_)
 refine t_cons rfl fun T20 hT20 => rS (SX (sd_build (xs := [(0, .tmp 44), (1, .tmp 45), (3, .tmp 49)]) (cs := (WatchV.cells (WatchV.mk (LineV.mk (TrackV.mk (Slc.mk kA l.Track.length kC)) l.Fast (Slc.mk cA l.Clocks.length cC) (Slc.mk bA l.Beams.length bC) l.Finish l.Fakes l.Misses) (RideV.mk r.Start r.Now (Slc.mk sgA r.Signals.length sgC)) (Slc.mk none 0 0) (Slc.mk (some ⟨b19, 0, none⟩) l.Beams.length l.Beams.length) (Slc.mk none 0 0) (Slc.mk none 0 0)))) rfl rfl (built_of tb142 rfl)) rfl rfl) ?_
 refine r_nil (hT20 _ _ (fun w hs => St.sel [1, 2, 3, 4, 5, 6, 7, 8, 9, 10, 11, 12] rfl rfl hs) ?_)
 refine t_cons rfl fun T21 hT21 => BXA rfl fun b22 => ?_
 refine r_nil (hT21 _ _ (fun w hs => St.sel [2, 3, 4, 5, 6, 7, 8, 9, 10, 11, 12, 13] rfl rfl hs) ?_)
 refine t_cons rfl fun T23 hT23 => rS (AG rfl) ?_
 refine r_nil (hT23 _ _ (fun w hs => St.sel [2, 3, 4, 5, 6, 7, 8, 9, 10, 11, 12, 13] rfl rfl hs) ?_)
 refine t_fin rfl <| KK hK17 <| w_seq fun _ hK24 => WS fun _ hK25 => rS (FA 3 rfl fo28_3 rfl) <| rS (L1 (Value.slice bA l.Beams.length bC) 6 rfl tk26 rfl rfl) <| rS (LN rfl ut26) <| rS (MV rfl) <| RK hK25 <| w_block ?_
 rw [fillF_nil]
 refine w_own_nil 3 1 <| w_tie0 ?_
 have hinit : (0 ≤ l.Beams.length) ∧ (([] : List Nat).length = 0) := by exact ⟨Nat.zero_le _, rfl⟩
 refine w_loop (ι := { z : Nat × (Option Addr) × Nat × (List Nat) // (z.1 ≤ l.Beams.length) ∧ (z.2.2.2.length = z.1) }) (fun z => [(2, (Value.slice (some ⟨gm, 0, none⟩) 1 1)), (3, (Value.pointer (some ⟨b2, 0, none⟩))), (4, (Value.pointer (some ⟨b3, 0, none⟩))), (6, (Value.pointer none)), (7, (Value.int .i64 0)), (9, (Value.pointer (some ⟨b16, 0, none⟩))), (10, (Value.pointer (some ⟨b22, 0, none⟩))), (54, (Value.int .i64 ((l.Beams.length : Nat) : Int))), (55, (Value.int .i64 ((z.1.1 : Nat) : Int)))]) (fun z => [(bund (nest tmR (List.replicate z.1.1 ([] : TM)) z.1.2.2.2)), (own z.1.2.1 z.1.2.2.1 3 1 ((leasts l z.1.1).map iC)), (blk b22 142 (WatchV.cells (WatchV.mk (LineV.mk (TrackV.mk (Slc.mk kA l.Track.length kC)) l.Fast (Slc.mk cA l.Clocks.length cC) (Slc.mk bA l.Beams.length bC) l.Finish l.Fakes l.Misses) (RideV.mk r.Start r.Now (Slc.mk sgA r.Signals.length sgC)) (Slc.mk z.1.2.1 ((leasts l z.1.1).length) z.1.2.2.1) (Slc.mk (some ⟨b19, 0, none⟩) l.Beams.length l.Beams.length) (Slc.mk none 0 0) (Slc.mk none 0 0)))), (own (some ⟨b19, 0, none⟩) l.Beams.length 143 1 (List.map oC (fillF z.1.2.2.2 l.Beams.length))), (blk b16 30 (SignalV.cells (SignalV.mk (-1) 0))), (blk b3 69 (RideV.cells (RideV.mk r.Start r.Now (Slc.mk sgA r.Signals.length sgC)))), (blk b2 28 (LineV.cells (LineV.mk (TrackV.mk (Slc.mk kA l.Track.length kC)) l.Fast (Slc.mk cA l.Clocks.length cC) (Slc.mk bA l.Beams.length bC) l.Finish l.Fakes l.Misses))), (rd kA l.Track.length 9 (l.Track.map StretchV.cells)).ro, (rd cA l.Clocks.length 2 (List.zipWith ClockM.cells l.Clocks az)).ro, (bun (nest ClockM.rds l.Clocks az)).ro, (rd bA l.Beams.length 4 (l.Beams.map BeamV.cells)).ro, (rd sgA r.Signals.length 2 (r.Signals.map SignalV.cells)).ro, X.ro, (blk gm 111 [f]).ro]) (fun z => l.Beams.length - z.1.1) ⟨(0, none, 0, ([] : List Nat)), hinit⟩ (Sub.cons rfl <| Sub.cons rfl <| Sub.cons rfl <| Sub.cons rfl <| Sub.cons rfl <| Sub.cons rfl <| Sub.cons rfl <| Sub.cons rfl <| Sub.cons rfl <| Sub.nil _) (fun w hs => St.sel [0, 1, 2, 3, 4, 7, 8, 9, 10, 11, 12, 13, 14, 15] rfl rfl hs) ?_
 clear hinit
 rintro ⟨⟨b, a, c, fb⟩, ⟨hl9_0, hl9_1⟩⟩ J26 hJ26
 try dsimp only at hl9_0 hl9_1
 try dsimp only
 have hlf : (fillF fb l.Beams.length).length = l.Beams.length := fillF_len (by omega)
 refine WS fun _ hK27 => rS (BI rfl b_lss) <| RK hK27 <| w_seq fun _ hK28 => ?_
 refine w_if rfl (fun h29 => ?_) (fun h29 => ?_)
 · replace h29 := DT h29
   refine WK hK28 <| w_seq fun _ hK30 => w_block <| WS fun _ hK31 => rS (MV rfl) <| rS (AG rfl) <| RK hK31 <| w_seq fun _ hK32 => w_draw4 mixed [0, 1, 2, 3, 4, 5, 6, 7, 8, 9, 10, 11, 14, 15] [12, 13, 16] [false, false, false, false, true, false, false, false, false, false, false, false, false, false] [true, false, false] [(bund (nest tmR (List.replicate b ([] : TM)) fb)), (own (some ⟨b19, 0, none⟩) l.Beams.length 143 1 (List.map oC (fillF fb l.Beams.length))), (blk b16 30 (SignalV.cells (SignalV.mk (-1) 0))), (blk b3 69 (RideV.cells (RideV.mk r.Start r.Now (Slc.mk sgA r.Signals.length sgC)))), (blk b2 28 (LineV.cells (LineV.mk (TrackV.mk (Slc.mk kA l.Track.length kC)) l.Fast (Slc.mk cA l.Clocks.length cC) (Slc.mk bA l.Beams.length bC) l.Finish l.Fakes l.Misses))), (rd kA l.Track.length 9 (l.Track.map StretchV.cells)).ro, (rd cA l.Clocks.length 2 (List.zipWith ClockM.cells l.Clocks az)).ro, (bun (nest ClockM.rds l.Clocks az)).ro, (rd bA l.Beams.length 4 (l.Beams.map BeamV.cells)).ro, (rd sgA r.Signals.length 2 (r.Signals.map SignalV.cells)).ro, X.ro, (blk gm 111 [f]).ro] [(bund (nest tmR (List.replicate b ([] : TM)) fb)), (own a c 3 1 ((leasts l b).map iC)), (blk b22 142 (WatchV.cells (WatchV.mk (LineV.mk (TrackV.mk (Slc.mk kA l.Track.length kC)) l.Fast (Slc.mk cA l.Clocks.length cC) (Slc.mk bA l.Beams.length bC) l.Finish l.Fakes l.Misses) (RideV.mk r.Start r.Now (Slc.mk sgA r.Signals.length sgC)) (Slc.mk a ((leasts l b).length) c) (Slc.mk (some ⟨b19, 0, none⟩) l.Beams.length l.Beams.length) (Slc.mk none 0 0) (Slc.mk none 0 0)))), (own (some ⟨b19, 0, none⟩) l.Beams.length 143 1 (List.map oC (fillF fb l.Beams.length))), (blk b16 30 (SignalV.cells (SignalV.mk (-1) 0))), (blk b3 69 (RideV.cells (RideV.mk r.Start r.Now (Slc.mk sgA r.Signals.length sgC)))), (blk b2 28 (LineV.cells (LineV.mk (TrackV.mk (Slc.mk kA l.Track.length kC)) l.Fast (Slc.mk cA l.Clocks.length cC) (Slc.mk bA l.Beams.length bC) l.Finish l.Fakes l.Misses))), (rd kA l.Track.length 9 (l.Track.map StretchV.cells)).ro, (rd cA l.Clocks.length 2 (List.zipWith ClockM.cells l.Clocks az)).ro, (bun (nest ClockM.rds l.Clocks az)).ro, (rd bA l.Beams.length 4 (l.Beams.map BeamV.cells)).ro, (rd sgA r.Signals.length 2 (r.Signals.map SignalV.cells)).ro, X.ro, (blk gm 111 [f]).ro] (by kernel_rfl) (fun w hs => St.sel [0, 3, 4, 5, 6, 7, 8, 9, 10, 11, 12, 13] rfl rfl hs) (fun w hs => St.sel [0, 1, 2, 3, 4, 5, 6, 7, 8, 9, 10, 11, 12, 13] rfl rfl hs) <| eS rfl (MV rfl) ?_
   refine eS rfl (MV rfl) <| eS rfl (SX (sd_nil_p rfl rfl) rfl rfl) <| eS rfl (FA 10 rfl fo142_2 rfl) <| fS rfl (L1 (Value.slice a ((leasts l b).length) c) 2 rfl tk57 rfl rfl) <| eS rfl (LW 4 rfl tk28 rfl rfl) <| eS rfl (MV rfl) <| eS rfl (CL (way_c l kA kC az cA cC bA bC ((b : Nat) : Int) hin (by first | assumption | omega | (simp; done) | (simp; omega)) (by exact hok.beam) (by first | assumption | omega | (simp; done) | (simp; omega))) (ha_at 5 rfl rfl <| ha_at 6 rfl rfl <| ha_at 7 rfl rfl <| ha_at 8 rfl rfl <| ha_nil) rfl) ?_
   have hwb := way_b htr hok.beam b
   have hwy := hok.way b (by omega)
   simp only [Int.toNat_natCast]
   refine eS rfl (BI rfl (b_mul ⟨by omega, by omega⟩)) <| eS rfl (FA 1 rfl fo28_1 rfl) <| eS rfl (L1 (Value.int .i64 l.Fast) 4 rfl tk3 rfl rfl) <| eS rfl (CL (upd_c (1000 * (wayF l ((b : Nat) : Int).toNat)) l.Fast (by first | assumption | omega | (simp; done) | (simp; omega)) (by first | assumption | omega | (simp; done) | (simp; omega))) (ha_nil) rfl) <| eS rfl (SX (sd_nil_p rfl rfl) rfl rfl) <| eS rfl (FA 10 rfl fo142_2 rfl) <| d_fin rfl <| t5_cons rfl fun T33 hT33 => r_bs (xs := [.tmp 69]) (cs := [(Value.int .i64 (upD (1000 * (wayF l ((b : Nat) : Int).toNat)) l.Fast))]) rfl te57 tz3 rfl rfl rfl rfl (by simp [Value.cells]) rfl rfl fun b34 => ?_
   refine r_nil (hT33 _ _ (fun w hs => St.sel [1, 4, 5, 6, 7, 8, 9, 10, 11, 12, 13, 14] rfl rfl hs) (fun w hs => St.sel [1, 2, 3, 4, 5, 6, 7, 8, 9, 10, 11, 12, 13, 14] rfl rfl hs) ?_)
   refine t_cons rfl fun T35 hT35 => r_append (es2 := (List.map iC (leasts l (b + 1)))) (m' := (leasts l (b + 1)).length) 2 rfl rfl rfl ta57 rfl rfl (by simp [leasts_len]) (has_rd_blk (es := List.map iC [(upD (1000 * (wayF l ((b : Nat) : Int).toNat)) l.Fast)]) 0 rfl rfl (by simp [iC_length]) rfl) (one_iC _) (by have := leasts_len (l := l) (n := b); first | omega | (simp; omega)) (by simp only [maxLen, leasts_len]; omega) (by rw [leasts_succ]; simp [leastF]) (by simp [leasts_len]) rfl fun a36 c37 => ?_
   try dsimp only
   refine r_nil (hT35 _ _ (fun w hs => St.sel [1, 4, 5, 6, 7, 8, 9, 10, 11, 12, 13, 14] rfl rfl hs) ?_)
   refine t_cons rfl fun T38 hT38 => ST3 (WatchV.cells (WatchV.mk (LineV.mk (TrackV.mk (Slc.mk kA l.Track.length kC)) l.Fast (Slc.mk cA l.Clocks.length cC) (Slc.mk bA l.Beams.length bC) l.Finish l.Fakes l.Misses) (RideV.mk r.Start r.Now (Slc.mk sgA r.Signals.length sgC)) (Slc.mk a36 ((leasts l (b + 1)).length) c37) (Slc.mk (some ⟨b19, 0, none⟩) l.Beams.length l.Beams.length) (Slc.mk none 0 0) (Slc.mk none 0 0))) rfl ts57 rfl rfl ?_
   refine r_nil (hT38 _ _ (fun w hs => St.sel [1, 4, 5, 6, 7, 8, 9, 10, 11, 12, 13, 14] rfl rfl hs) ?_)
   refine t_fin rfl <| KK hK32 <| w_region <| rS (MV rfl) <| rS (SX (sd_nil_p rfl rfl) rfl rfl) <| rS (FA 11 rfl fo142_3 rfl) <| rS (L1 (Value.slice (some ⟨b19, 0, none⟩) l.Beams.length l.Beams.length) 3 rfl tk139 rfl rfl) <| rS (MV rfl) <| gr_mkmap (kV := iV) rfl rfl fun b39 => ?_
   try dsimp only
   obtain ⟨x40, hx41⟩ : ∃ y_, (fillF fb l.Beams.length)[b]? = some y_ := ⟨(fillF fb l.Beams.length)[b]'(by omega), List.getElem?_eq_getElem _⟩
   have hx41m : (List.map oC (fillF fb l.Beams.length))[b]? = some (oC x40) := by rw [List.getElem?_map, hx41]; rfl
   refine rS (IA b rfl (has_own_n (n := l.Beams.length) 5 rfl (by first | (simp; done) | (simp; omega))) te139 (by decide) (by omega) (by omega)) ?_
   have hb42 : ((fillF fb l.Beams.length).set b (some b39)) = (fillF (fb ++ [b39]) l.Beams.length) := by exact fillF_set (by omega) (by omega)
   refine r_store_own (k := b) (o := 0) (vs := [(Value.map (some b39))]) (es' := (List.map oC (fillF (fb ++ [b39]) l.Beams.length))) (C' := [_, _, _, _, _, (own (some ⟨b19, 0, none⟩) l.Beams.length 143 1 (List.map oC (fillF (fb ++ [b39]) l.Beams.length))), _, _, _, _, _, _, _, _, _, _]) 5 rfl rfl rfl ts143 rfl rfl rfl rfl hx41m rfl (by decide) (by exact (List.map_set (f := oC) (l := (fillF fb l.Beams.length)) (i := b) (a := (some b39))).symm.trans (congrArg _ hb42)) rfl <| r_nil <| k_block <| KK hK30 <| w_region <| rS (BI rfl (b_add ⟨by omega, by omega⟩)) <| rS (MV rfl) <| r_nil <| k_tie (X' := nest tmR (List.replicate (b + 1) ([] : TM)) (fb ++ [b39])) 2 0 rfl rfl (tm_snoc hl9_1) ?_
   try dsimp only
   have hb43 : (Value.int .i64 (((b + 1) : Nat) : Int)) = (Value.int .i64 (((b : Nat) : Int) + 1)) := by exact congrArg (Value.int .i64) (by omega)
   refine k_then (hJ26 ⟨((b + 1), a36, c37, (fb ++ [b39])), ⟨by omega, by simp; omega⟩⟩ _ _ _ rfl (by first | omega | (simp; omega)) (Sub.cons rfl <| Sub.cons rfl <| Sub.cons rfl <| Sub.cons rfl <| Sub.cons rfl <| Sub.cons rfl <| Sub.cons rfl <| Sub.cons rfl <| sub_val rfl hb43 <| Sub.nil _) (fun w hs => St.sel [0, 2, 3, 4, 5, 6, 7, 8, 9, 10, 11, 12, 13, 14] rfl rfl hs))
 replace h29 := DF h29
 refine w_exit <| k_exit_then <| k_exit_then <| k_exit_same <| KK hK24 <| w_seq fun _ hK44 => WS fun _ hK45 => rS (FA 2 rfl fo69_2 rfl) <| rS (L1 (Value.slice sgA r.Signals.length sgC) 5 rfl tk67 rfl rfl) <| rS (LN rfl ut67) ?_
 refine rS (MV rfl) <| RK hK45 <| w_block ?_
 rw [show (List.replicate b ([] : TM)) = timesT l r.Signals 0 from by rw [times_zero, show b = l.Beams.length by omega]]
 rw [show leasts l b = leasts l l.Beams.length from by rw [show b = l.Beams.length by omega]]
 have hinit : (0 ≤ r.Signals.length) ∧ (SigsTo l r.Signals 0) := by exact ⟨Nat.zero_le _, sigs_zero⟩
 refine w_loop (ι := { z : Nat // (z ≤ r.Signals.length) ∧ (SigsTo l r.Signals z) }) (fun z => [(2, (Value.slice (some ⟨gm, 0, none⟩) 1 1)), (3, (Value.pointer (some ⟨b2, 0, none⟩))), (4, (Value.pointer (some ⟨b3, 0, none⟩))), (6, (Value.pointer none)), (7, (Value.int .i64 0)), (9, (Value.pointer (some ⟨b16, 0, none⟩))), (10, (Value.pointer (some ⟨b22, 0, none⟩))), (83, (Value.slice sgA r.Signals.length sgC)), (84, (Value.int .i64 ((r.Signals.length : Nat) : Int))), (85, (Value.int .i64 ((z.1 : Nat) : Int)))]) (fun z => [(bund (nest tmR (timesT l r.Signals z.1) fb)), (own a c 3 1 ((leasts l l.Beams.length).map iC)), (blk b22 142 (WatchV.cells (WatchV.mk (LineV.mk (TrackV.mk (Slc.mk kA l.Track.length kC)) l.Fast (Slc.mk cA l.Clocks.length cC) (Slc.mk bA l.Beams.length bC) l.Finish l.Fakes l.Misses) (RideV.mk r.Start r.Now (Slc.mk sgA r.Signals.length sgC)) (Slc.mk a ((leasts l l.Beams.length).length) c) (Slc.mk (some ⟨b19, 0, none⟩) l.Beams.length l.Beams.length) (Slc.mk none 0 0) (Slc.mk none 0 0)))), (own (some ⟨b19, 0, none⟩) l.Beams.length 143 1 (List.map oC (fillF fb l.Beams.length))), (blk b16 30 (SignalV.cells (prevS r.Signals z.1))), (blk b3 69 (RideV.cells (RideV.mk r.Start r.Now (Slc.mk sgA r.Signals.length sgC)))), (blk b2 28 (LineV.cells (LineV.mk (TrackV.mk (Slc.mk kA l.Track.length kC)) l.Fast (Slc.mk cA l.Clocks.length cC) (Slc.mk bA l.Beams.length bC) l.Finish l.Fakes l.Misses))), (rd kA l.Track.length 9 (l.Track.map StretchV.cells)).ro, (rd cA l.Clocks.length 2 (List.zipWith ClockM.cells l.Clocks az)).ro, (bun (nest ClockM.rds l.Clocks az)).ro, (rd bA l.Beams.length 4 (l.Beams.map BeamV.cells)).ro, (rd sgA r.Signals.length 2 (r.Signals.map SignalV.cells)).ro, X.ro, (blk gm 111 [f]).ro]) (fun z => r.Signals.length - z.1) ⟨0, hinit⟩ (Sub.cons rfl <| Sub.cons rfl <| Sub.cons rfl <| Sub.cons rfl <| Sub.cons rfl <| Sub.cons rfl <| Sub.cons rfl <| Sub.cons rfl <| Sub.cons rfl <| Sub.cons rfl <| Sub.nil _) (fun w hs => St.sel [0, 1, 2, 3, 4, 5, 6, 7, 8, 9, 10, 11, 12, 13] rfl rfl hs) ?_
 clear hinit
 rintro ⟨i, ⟨hl15_0, hl15_1⟩⟩ J46 hJ46
 try dsimp only
 have htlen : (timesT l r.Signals i).length = l.Beams.length := timesT_len
 have hlf : (fillF fb l.Beams.length).length = l.Beams.length := fillF_len (by omega)
 refine WS fun _ hK47 => rS (BI rfl b_lss) <| RK hK47 <| w_seq fun _ hK48 => ?_
 refine w_if rfl (fun h49 => ?_) (fun h49 => ?_)
 rotate_left 1
 · replace h49 := DF h49
   refine w_exit <| k_exit_then <| k_exit_then <| k_exit_same <| KK hK44 <| w_seq fun _ hK79 => w_seq fun _ hK80 => ?_
   have hro : RideOk l r := ride_all (by omega) (by omega) hl15_1 (by omega)
   refine w_region <| rS (MV rfl) <| rS (LN rfl ut138) <| rS (MV rfl) <| RK hK80 <| w_block <| w_rounds 2 <| ro_succ fun R81 hR81 => WS fun _ hK82 => rS (SX (sd_bin (r := .bool true) rfl rfl rfl b_lss) rfl rfl) ?_
   refine RK hK82 <| w_seq fun _ hK83 => w_if_true rfl <| WK hK83 <| w_seq fun _ hK84 => w_block <| WS fun _ hK85 => rS (IAB 0 0 rfl te138 rfl (by decide) rfl) <| rS (L1Q 13 rfl tk111 rfl) <| rS (AG rfl) ?_
   refine RK hK85 <| WS fun _ hK86 => rS (MV rfl) <| rS (SX (sd_clo rfl rfl rfl (hf ) (ha_at 12 rfl rfl <| ha_nil)) rfl rfl) <| rS (AG rfl) <| RK hK86 <| WS fun _ hK87 => rS (MV rfl) <| rS (BI rfl b_neq) <| RK hK87 ?_
   refine w_if rfl (fun h156 => ?_) (fun h156 => ?_)
   · replace h156 := XT h156
     refine WS fun _ hK88 => rS (MV rfl) <| rS (AG rfl) <| rS (AG rfl) <| RK hK88 <| w_ret ?_
     refine hQ _ _ _ (l_nil (vs := [(Value.pointer none), (Value.int .i64 me)]) ⟨rfl, rfl, trivial⟩ fun w hs => endX (false, me, 0, none, 0, none, 0, [], [], [], none, 0, [], [], none, 0) [] ?_ ?_ rfl rfl (by first | rfl | (show List.all _ _ = true; simp only [cond_true, List.all_cons, List.all_nil, fm_wr, tm_wr, Bool.and_true]; rfl)) hs)
     · rfl
     · refine ⟨fun q => Bool.noConfusion (show false = true from q), fun _ => ?_⟩; first | (have e := open_line_e (r := r) (me := me) h21; exact ⟨e.symm, fun q => h21 (e.symm.trans q)⟩) | (have e := open_ride_e (me := me) h10 (fun q : RideOk l r => by have q1 := q.time; have q2 := q.len; omega); exact ⟨e.symm, fun q => absurd (e.symm.trans q) (by decide)⟩) | (have e := open_ride_e (me := me) h10 (ride_no hx (by unfold SigOk SigIn; omega)); exact ⟨e.symm, fun q => absurd (e.symm.trans q) (by decide)⟩) | (have e := open_more_e h10 hro h156; exact ⟨e.symm, fun q => h156 (e.symm.trans q)⟩) | (have e := open_bad_e (me := me) h10 hro (by first | rfl | exact h156) (show numsF (watchL l r) = [] from List.eq_nil_of_length_eq_zero (Int.natCast_eq_zero.1 h164)); exact ⟨e.symm, fun q => absurd (e.symm.trans q) (by decide)⟩)
   replace h156 := XF h156
   refine w_skip <| k_block <| KK hK84 <| w_region <| rS (SX (sd_bin (r := .int .i64 1) rfl rfl rfl (b_add ⟨by decide, by decide⟩)) rfl rfl) <| rS (MV rfl) <| RK hR81 <| ro_succ fun R89 hR89 => WS fun _ hK90 => rS (SX (sd_bin (r := .bool false) rfl rfl rfl b_lss) rfl rfl) ?_
   refine RK hK90 <| w_seq fun _ hK91 => w_if_false rfl <| w_exit <| k_exit_then <| k_exit_then <| k_exit_same <| KK hK79 <| w_seq fun _ hK92 => ?_
   rw [show timesT l r.Signals i = timesT l r.Signals r.Signals.length from by rw [show i = r.Signals.length by omega]]
   have htl : (timesT l r.Signals r.Signals.length).length = l.Beams.length := timesT_len
   rw [show (List.map oC (fillF fb l.Beams.length)) = (List.zipWith mapC (timesT l r.Signals r.Signals.length) fb) from zipF (by omega) htl]
   rw [show (blk b22 142 (WatchV.cells (WatchV.mk (LineV.mk (TrackV.mk (Slc.mk kA l.Track.length kC)) l.Fast (Slc.mk cA l.Clocks.length cC) (Slc.mk bA l.Beams.length bC) l.Finish l.Fakes l.Misses) (RideV.mk r.Start r.Now (Slc.mk sgA r.Signals.length sgC)) (Slc.mk a ((leasts l l.Beams.length).length) c) (Slc.mk (some ⟨b19, 0, none⟩) l.Beams.length l.Beams.length) (Slc.mk none 0 0) (Slc.mk none 0 0)))) = (blk b22 142 (WatchV.cells (WatchV.mk (LineV.mk (TrackV.mk (Slc.mk kA l.Track.length kC)) l.Fast (Slc.mk cA l.Clocks.length cC) (Slc.mk bA l.Beams.length bC) l.Finish l.Fakes l.Misses) (RideV.mk r.Start r.Now (Slc.mk sgA r.Signals.length sgC)) (Slc.mk a ((leasts l l.Beams.length).length) c) (Slc.mk (some ⟨b19, 0, none⟩) ((timesT l r.Signals r.Signals.length).length) l.Beams.length) (Slc.mk none 0 0) (Slc.mk none 0 0)))) from by rw [htl]]
   have hwo := watch_ok htr hok hro
   have hlel : (leasts l l.Beams.length).length = l.Beams.length := leasts_len
   refine w_region <| rS (MV rfl) ?_
   refine r_callm 2 rfl rfl rfl rfl (follow_c (LineV.mk (TrackV.mk (Slc.mk kA l.Track.length kC)) l.Fast (Slc.mk cA l.Clocks.length cC) (Slc.mk bA l.Beams.length bC) l.Finish l.Fakes l.Misses) (RideV.mk r.Start r.Now (Slc.mk sgA r.Signals.length sgC)) (leasts l l.Beams.length) (timesT l r.Signals r.Signals.length) a c fb (some ⟨b19, 0, none⟩) l.Beams.length b22 (by exact hwo) (by exact leasts_len.symm) (by rw [htl]; omega)) rfl (cv_cons 1 rfl rfl (cov_own_n (by simp)) (cv_cons 3 rfl rfl (cov_own_n (by rw [List.length_zipWith]; omega)) (cv_cons 0 rfl rfl cov_bund cv_nil))) rfl (fun y101 hfo => ?_)
   obtain ⟨fs93, fb94, fA95, fC96, bs97, bb98, bA99, bC100⟩ := y101
   refine r_untie (X := [(blk b22 142 (WatchV.cells (WatchV.mk (LineV.mk (TrackV.mk (Slc.mk kA l.Track.length kC)) l.Fast (Slc.mk cA l.Clocks.length cC) (Slc.mk bA l.Beams.length bC) l.Finish l.Fakes l.Misses) (RideV.mk r.Start r.Now (Slc.mk sgA r.Signals.length sgC)) (Slc.mk a ((leasts l l.Beams.length).length) c) (Slc.mk (some ⟨b19, 0, none⟩) ((timesT l r.Signals r.Signals.length).length) l.Beams.length) (Slc.mk fA95 fs93.length fC96) (Slc.mk bA99 bs97.length bC100)))), (own fA95 fC96 144 1 (List.zipWith mapC fs93 fb94)), (bund (nest fmR fs93 fb94)), (own bA99 bC100 144 1 (List.zipWith mapC bs97 bb98)), (bund (nest fmR bs97 bb98))]) 2 rfl rfl ?_
   try dsimp only
   obtain ⟨hq1, hq2, hq3, hq4⟩ := hfo
   dsimp only at hq1 hq2 hq3 hq4
   refine RK hK92 <| w_seq fun _ hK102 => WS fun _ hK103 => rS (MV rfl) <| cX (numbers_c (LineV.mk (TrackV.mk (Slc.mk kA l.Track.length kC)) l.Fast (Slc.mk cA l.Clocks.length cC) (Slc.mk bA l.Beams.length bC) l.Finish l.Fakes l.Misses) (RideV.mk r.Start r.Now (Slc.mk sgA r.Signals.length sgC)) (leasts l l.Beams.length) (timesT l r.Signals r.Signals.length) a c fb (some ⟨b19, 0, none⟩) l.Beams.length fs93 bs97 fb94 fA95 fC96 bb98 bA99 bC100 b22 (by exact hwo) (by first | assumption | omega | (simp; done) | (simp; omega)) (by exact leasts_len.symm) (by exact hq1) (by first | assumption | omega | (simp; done) | (simp; omega))) (ha_cons (has_own_n (n := (leasts l l.Beams.length).length) 6 rfl (by simp)) <| ha_cons (has_own_n (n := (timesT l r.Signals r.Signals.length).length) 7 rfl (by rw [List.length_zipWith]; omega)) <| ha_cons (bun_bund 5 rfl bun_same) <| ha_cons (has_own_n (n := fs93.length) 1 rfl (by rw [List.length_zipWith]; omega)) <| ha_cons (bun_bund 2 rfl bun_same) <| ha_cons (has_own_n (n := bs97.length) 3 rfl (by rw [List.length_zipWith]; omega)) <| ha_cons (bun_bund 4 rfl bun_same) <| ha_at 0 rfl rfl <| ha_nil) rfl fun y104 hy105 => ?_
   obtain ⟨a106, c107⟩ := y104
   try dsimp only
   refine rS (LN rfl ut57) <| rS (BI rfl b_eql) <| RK hK103 ?_
   refine w_if rfl (fun h164 => ?_) (fun h164 => ?_)
   rotate_left 1
   · replace h164 := DF h164
     refine WK hK102 <| WS fun _ hK109 => rS (MV rfl) <| rS (AG rfl) <| rS (AG rfl) <| RK hK109 <| w_ret ?_
     refine hQ _ _ _ (l_nil (vs := [(Value.pointer (some ⟨b22, 0, none⟩)), (Value.int .i64 0)]) ⟨rfl, rfl, trivial⟩ fun w hs => endX (true, 0, b22, a, c, (some ⟨b19, 0, none⟩), l.Beams.length, fb, fs93, fb94, fA95, fC96, bs97, bb98, bA99, bC100) [1, 7, 8, 6, 2, 3, 4, 5] ?_ ?_ rfl rfl (by first | rfl | (show List.all _ _ = true; simp only [cond_true, List.all_cons, List.all_nil, fm_wr, tm_wr, Bool.and_true]; rfl)) hs)
     · rfl
     · exact ⟨fun _ => ⟨open_ok_e h10 hro (by first | rfl | exact h156) (fun q => h164 (congrArg (fun z : List Int => ((z.length : Nat) : Int)) q)), hq1, hq2, hq3, hq4, by dsimp only; omega⟩, fun q => Bool.noConfusion (show true = false from q)⟩
   replace h164 := DT h164
   refine WS fun _ hK108 => rS (AG rfl) <| rS (AG rfl) <| RK hK108 <| w_ret ?_
   refine hQ _ _ _ (l_nil (vs := [(Value.pointer none), (Value.int .i64 8)]) ⟨rfl, rfl, trivial⟩ fun w hs => endX (false, 8, 0, none, 0, none, 0, [], [], [], none, 0, [], [], none, 0) [] ?_ ?_ rfl rfl (by first | rfl | (show List.all _ _ = true; simp only [cond_true, List.all_cons, List.all_nil, fm_wr, tm_wr, Bool.and_true]; rfl)) hs)
   · rfl
   · refine ⟨fun q => Bool.noConfusion (show false = true from q), fun _ => ?_⟩; first | (have e := open_line_e (r := r) (me := me) h21; exact ⟨e.symm, fun q => h21 (e.symm.trans q)⟩) | (have e := open_ride_e (me := me) h10 (fun q : RideOk l r => by have q1 := q.time; have q2 := q.len; omega); exact ⟨e.symm, fun q => absurd (e.symm.trans q) (by decide)⟩) | (have e := open_ride_e (me := me) h10 (ride_no hx (by unfold SigOk SigIn; omega)); exact ⟨e.symm, fun q => absurd (e.symm.trans q) (by decide)⟩) | (have e := open_more_e h10 hro h156; exact ⟨e.symm, fun q => h156 (e.symm.trans q)⟩) | (have e := open_bad_e (me := me) h10 hro (by first | rfl | exact h156) (show numsF (watchL l r) = [] from List.eq_nil_of_length_eq_zero (Int.natCast_eq_zero.1 h164)); exact ⟨e.symm, fun q => absurd (e.symm.trans q) (by decide)⟩)
 replace h49 := DT h49
 refine WK hK48 <| w_seq fun _ hK50 => w_block <| WS fun _ hK51 => rS (MV rfl) ?_
 obtain ⟨x, hx⟩ : ∃ y_, r.Signals[i]? = some y_ := ⟨r.Signals[i]'(by omega), List.getElem?_eq_getElem _⟩
 have hxm : (r.Signals.map SignalV.cells)[i]? = some (SignalV.cells x) := by rw [List.getElem?_map, hx]; rfl
 refine rS (IA i rfl (has_at 11 rfl) te67 (by decide) (by omega) (by omega)) <| rS (LEN i 0 (SignalV.cells x) rfl tk30 (has_at 11 rfl) hxm rfl (by decide) rfl rfl) <| AL rfl tz30 fun b52 => rS (AG rfl) <| SW0 rfl ts30 rfl <| RK hK51 <| w_seq fun _ hK53 => WS fun _ hK54 => rS (FA 3 rfl fo28_3 rfl) <| rS (L1 (Value.slice bA l.Beams.length bC) 7 rfl tk26 rfl rfl) ?_
 refine rS (LN rfl ut26) <| rS (BI rfl (b_sub ⟨by omega, by omega⟩)) <| rS (FA 0 rfl fo30_0 rfl) <| rS (L1 (Value.int .i64 x.Beam) 0 rfl tk3 rfl rfl) <| r_bs (xs := [.tmp 95]) (cs := [(Value.int .i64 x.Beam)]) rfl te57 tz3 rfl rfl rfl rfl (by simp [Value.cells]) rfl rfl fun b55 => rS (CL (FnV.eq (in_beam 0 (((l.Beams.length : Nat) : Int) - 1) ([x.Beam]) (some ⟨b55, 0, none⟩) 1 (by first | assumption | omega | (simp; done) | (simp; omega))) inAll_one) (ha_cons (has_rd_blk 0 rfl rfl (by simp [iC_length]) rfl) <| ha_nil) rfl) <| rS (NT rfl) <| rS (MV rfl) ?_
 refine r_bool (t := 99) rfl (fun h99 => ?_) (fun h99 => ?_)
 · replace h99 := XT h99
   refine rS (OX rfl) <| rS (OX rfl) <| rS (OX rfl) <| rS (OX rfl) <| rS (OX rfl) <| rS (PK rfl) <| rS (MV rfl) <| rS (OX rfl) <| rS (OX rfl) <| rS (OX rfl) ?_
   refine rS (OX rfl) <| rS (OX rfl) <| rS (PK rfl) <| rS (MV rfl) <| rS (OX rfl) <| rS (OX rfl) <| rS (OX rfl) <| rS (OX rfl) <| rS (OX rfl) <| rS (OX rfl) ?_
   refine rS (OX rfl) <| rS (OX rfl) <| rS (OX rfl) <| rS (OX rfl) <| rS (OX rfl) <| rS (OX rfl) <| rS (PK rfl) <| RK hK54 <| w_if_true rfl <| WS fun _ hK56 => ?_
   refine rS (AG rfl) <| rS (AG rfl) <| RK hK56 <| w_ret ?_
   refine hQ _ _ _ (l_nil (vs := [(Value.pointer none), (Value.int .i64 51)]) ⟨rfl, rfl, trivial⟩ fun w hs => endX (false, 51, 0, none, 0, none, 0, [], [], [], none, 0, [], [], none, 0) [] ?_ ?_ rfl rfl (by first | rfl | (show List.all _ _ = true; simp only [cond_true, List.all_cons, List.all_nil, fm_wr, tm_wr, Bool.and_true]; rfl)) hs)
   · rfl
   · refine ⟨fun q => Bool.noConfusion (show false = true from q), fun _ => ?_⟩; first | (have e := open_line_e (r := r) (me := me) h21; exact ⟨e.symm, fun q => h21 (e.symm.trans q)⟩) | (have e := open_ride_e (me := me) h10 (fun q : RideOk l r => by have q1 := q.time; have q2 := q.len; omega); exact ⟨e.symm, fun q => absurd (e.symm.trans q) (by decide)⟩) | (have e := open_ride_e (me := me) h10 (ride_no hx (by unfold SigOk SigIn; omega)); exact ⟨e.symm, fun q => absurd (e.symm.trans q) (by decide)⟩) | (have e := open_more_e h10 hro h156; exact ⟨e.symm, fun q => h156 (e.symm.trans q)⟩) | (have e := open_bad_e (me := me) h10 hro (by first | rfl | exact h156) (show numsF (watchL l r) = [] from List.eq_nil_of_length_eq_zero (Int.natCast_eq_zero.1 h164)); exact ⟨e.symm, fun q => absurd (e.symm.trans q) (by decide)⟩)
 replace h99 := XF h99
 refine rS (FA 1 rfl fo30_1 rfl) <| rS (L1 (Value.int .i64 x.Read) 1 rfl tk3 rfl rfl) <| r_bs (xs := [.tmp 101]) (cs := [(Value.int .i64 x.Read)]) rfl te57 tz3 rfl rfl rfl rfl (by simp [Value.cells]) rfl rfl fun b57 => rS (CL (FnV.eq (in_beam 0 86400000 ([x.Read]) (some ⟨b57, 0, none⟩) 1 (by first | assumption | omega | (simp; done) | (simp; omega))) inAll_one) (ha_cons (has_rd_blk 0 rfl rfl (by simp [iC_length]) rfl) <| ha_nil) rfl) <| rS (NT rfl) <| rS (PK rfl) <| rS (MV rfl) ?_
 refine r_bool (t := 106) rfl (fun h106 => ?_) (fun h106 => ?_)
 · replace h106 := XT h106
   refine rS (OX rfl) <| rS (OX rfl) <| rS (OX rfl) <| rS (OX rfl) <| rS (OX rfl) <| rS (PK rfl) <| rS (MV rfl) <| rS (OX rfl) <| rS (OX rfl) <| rS (OX rfl) ?_
   refine rS (OX rfl) <| rS (OX rfl) <| rS (OX rfl) <| rS (OX rfl) <| rS (OX rfl) <| rS (OX rfl) <| rS (OX rfl) <| rS (OX rfl) <| rS (OX rfl) <| rS (PK rfl) ?_
   refine RK hK54 <| w_if_true rfl <| WS fun _ hK58 => rS (AG rfl) <| rS (AG rfl) <| RK hK58 <| w_ret ?_
   refine hQ _ _ _ (l_nil (vs := [(Value.pointer none), (Value.int .i64 51)]) ⟨rfl, rfl, trivial⟩ fun w hs => endX (false, 51, 0, none, 0, none, 0, [], [], [], none, 0, [], [], none, 0) [] ?_ ?_ rfl rfl (by first | rfl | (show List.all _ _ = true; simp only [cond_true, List.all_cons, List.all_nil, fm_wr, tm_wr, Bool.and_true]; rfl)) hs)
   · rfl
   · refine ⟨fun q => Bool.noConfusion (show false = true from q), fun _ => ?_⟩; first | (have e := open_line_e (r := r) (me := me) h21; exact ⟨e.symm, fun q => h21 (e.symm.trans q)⟩) | (have e := open_ride_e (me := me) h10 (fun q : RideOk l r => by have q1 := q.time; have q2 := q.len; omega); exact ⟨e.symm, fun q => absurd (e.symm.trans q) (by decide)⟩) | (have e := open_ride_e (me := me) h10 (ride_no hx (by unfold SigOk SigIn; omega)); exact ⟨e.symm, fun q => absurd (e.symm.trans q) (by decide)⟩) | (have e := open_more_e h10 hro h156; exact ⟨e.symm, fun q => h156 (e.symm.trans q)⟩) | (have e := open_bad_e (me := me) h10 hro (by first | rfl | exact h156) (show numsF (watchL l r) = [] from List.eq_nil_of_length_eq_zero (Int.natCast_eq_zero.1 h164)); exact ⟨e.symm, fun q => absurd (e.symm.trans q) (by decide)⟩)
 replace h106 := XF h106
 refine rS (FA 0 rfl fo30_0 rfl) <| rS (L1 (Value.int .i64 x.Beam) 2 rfl tk3 rfl rfl) <| rS (FA 0 rfl fo30_0 rfl) <| rS (L1 (Value.int .i64 ((prevS r.Signals i).Beam)) 7 rfl tk3 rfl rfl) <| rS (BI rfl b_lss) <| rS (PK rfl) <| rS (MV rfl) ?_
 refine r_bool (t := 113) rfl (fun h113 => ?_) (fun h113 => ?_)
 · replace h113 := DT h113
   refine rS (OX rfl) <| rS (OX rfl) <| rS (OX rfl) <| rS (OX rfl) <| rS (OX rfl) <| rS (OX rfl) <| rS (OX rfl) <| rS (OX rfl) <| rS (OX rfl) <| rS (OX rfl) ?_
   refine rS (OX rfl) <| rS (OX rfl) <| rS (PK rfl) <| RK hK54 <| w_if_true rfl <| WS fun _ hK59 => rS (AG rfl) <| rS (AG rfl) <| RK hK59 <| w_ret ?_
   refine hQ _ _ _ (l_nil (vs := [(Value.pointer none), (Value.int .i64 51)]) ⟨rfl, rfl, trivial⟩ fun w hs => endX (false, 51, 0, none, 0, none, 0, [], [], [], none, 0, [], [], none, 0) [] ?_ ?_ rfl rfl (by first | rfl | (show List.all _ _ = true; simp only [cond_true, List.all_cons, List.all_nil, fm_wr, tm_wr, Bool.and_true]; rfl)) hs)
   · rfl
   · refine ⟨fun q => Bool.noConfusion (show false = true from q), fun _ => ?_⟩; first | (have e := open_line_e (r := r) (me := me) h21; exact ⟨e.symm, fun q => h21 (e.symm.trans q)⟩) | (have e := open_ride_e (me := me) h10 (fun q : RideOk l r => by have q1 := q.time; have q2 := q.len; omega); exact ⟨e.symm, fun q => absurd (e.symm.trans q) (by decide)⟩) | (have e := open_ride_e (me := me) h10 (ride_no hx (by unfold SigOk SigIn; omega)); exact ⟨e.symm, fun q => absurd (e.symm.trans q) (by decide)⟩) | (have e := open_more_e h10 hro h156; exact ⟨e.symm, fun q => h156 (e.symm.trans q)⟩) | (have e := open_bad_e (me := me) h10 hro (by first | rfl | exact h156) (show numsF (watchL l r) = [] from List.eq_nil_of_length_eq_zero (Int.natCast_eq_zero.1 h164)); exact ⟨e.symm, fun q => absurd (e.symm.trans q) (by decide)⟩)
 replace h113 := DF h113
 refine rS (FA 0 rfl fo30_0 rfl) <| rS (L1 (Value.int .i64 x.Beam) 2 rfl tk3 rfl rfl) <| rS (FA 0 rfl fo30_0 rfl) <| rS (L1 (Value.int .i64 ((prevS r.Signals i).Beam)) 7 rfl tk3 rfl rfl) <| rS (BI rfl b_eql) <| rS (MV rfl) ?_
 refine r_bool (t := 119) rfl (fun h119 => ?_) (fun h119 => ?_)
 rotate_left 1
 · replace h119 := DF h119
   refine rS (OX rfl) <| rS (OX rfl) <| rS (OX rfl) <| rS (OX rfl) <| rS (OX rfl) <| rS (PK rfl) <| rS (PK rfl) <| RK hK54 <| w_if_false rfl <| WK hK53 ?_
   refine w_seq fun _ hK70 => WS fun _ hK71 => rS (LW 9 rfl tk28 rfl rfl) <| rS (LW 2 rfl tk30 rfl rfl) <| rS (CL (when_c l kA kC az cA cC bA bC x hin (by first | assumption | omega | (simp; done) | (simp; omega)) (by first | assumption | omega | (simp; done) | (simp; omega))) (ha_at 10 rfl rfl <| ha_at 11 rfl rfl <| ha_at 12 rfl rfl <| ha_at 13 rfl rfl <| ha_nil) rfl) <| AL rfl tz34 fun b72 => SW0 rfl ts34 rfl <| RK hK71 <| WS fun _ hK73 => rS (FA 0 rfl fo34_0 rfl) ?_
   refine rS (L1 (Value.int .i64 ((whenF l x).Lo)) 0 rfl tk3 rfl rfl) <| rS (FA 1 rfl fo34_1 rfl) <| rS (L1 (Value.int .i64 ((whenF l x).Hi)) 0 rfl tk3 rfl rfl) <| rS (BI rfl b_leq) <| RK hK73 ?_
   refine w_if rfl (fun h134 => ?_) (fun h134 => ?_)
   rotate_left 1
   · replace h134 := DF h134
     refine WK hK70 <| w_region <| rS (LW 3 rfl tk30 rfl rfl) <| SW8 rfl ts30 rfl <| r_nil <| k_block <| KK hK50 ?_
     have hb77 : (SignalV.cells x) = (SignalV.cells (prevS r.Signals (i + 1))) := by rw [prevS_succ hx]
     rw [hb77]
     refine w_region <| rS (BI rfl (b_add ⟨by omega, by omega⟩)) <| rS (MV rfl) <| r_nil ?_
     rw [show (timesT l r.Signals i) = (timesT l r.Signals (i + 1)) from (times_skip hx h134).symm]
     have hb78 : (Value.int .i64 (((i + 1) : Nat) : Int)) = (Value.int .i64 (((i : Nat) : Int) + 1)) := by exact congrArg (Value.int .i64) (by omega)
     refine k_then (hJ46 ⟨(i + 1), ⟨by omega, sigs_succ hl15_1 hx (by unfold SigOk SigIn; omega)⟩⟩ _ _ _ rfl (by first | omega | (simp; omega)) (Sub.cons rfl <| Sub.cons rfl <| Sub.cons rfl <| Sub.cons rfl <| Sub.cons rfl <| Sub.cons rfl <| Sub.cons rfl <| Sub.cons rfl <| Sub.cons rfl <| sub_val rfl hb78 <| Sub.nil _) (fun w hs => St.sel [4, 5, 6, 7, 8, 9, 10, 11, 12, 13, 14, 15, 16, 17] rfl rfl hs))
   replace h134 := DT h134
   obtain ⟨mb, hmb⟩ : ∃ y_, (timesT l r.Signals i)[(x.Beam).toNat]? = some y_ := ⟨(timesT l r.Signals i)[(x.Beam).toNat]'(by omega), List.getElem?_eq_getElem _⟩
   obtain ⟨ga, hga⟩ : ∃ y_, fb[(x.Beam).toNat]? = some y_ := ⟨fb[(x.Beam).toNat]'(by omega), List.getElem?_eq_getElem _⟩
   refine w_out 4 hmb hga rfl rfl rfl ?_
   try dsimp only
   refine w_draw mixed 10 (by kernel_rfl) <| dS (MV rfl) <| dS (SX (sd_nil_p rfl rfl) rfl rfl) <| dS (FA 11 rfl fo142_3 rfl) <| dS (L1 (Value.slice (some ⟨b19, 0, none⟩) l.Beams.length l.Beams.length) 7 rfl tk139 rfl rfl) <| dS (FA 0 rfl fo30_0 rfl) <| dS (L1 (Value.int .i64 x.Beam) 5 rfl tk3 rfl rfl) ?_
   have hk74 : (List.map oC (fillF fb l.Beams.length))[(x.Beam).toNat]? = some (oC (some ga)) := oC_at (fillF_at hga)
   refine dS (IA ((x.Beam).toNat) rfl (has_own_n (n := l.Beams.length) 8 rfl (by first | (simp; done) | (simp; omega))) te139 (by decide) (by omega) (by omega)) <| dS (LE1 ((x.Beam).toNat) 0 (Value.map (some ga)) rfl tk143 (has_own_n (n := (fillF fb l.Beams.length).length) 8 rfl (by simp)) hk74 rfl (by decide) rfl) <| dS (MV rfl) <| dS (LW 2 rfl tk34 rfl rfl) <| d_end <| gr_mapset (kV := iV) (x := ((i : Nat) : Int)) (C' := [(gmp iV ga (gmapV spanU (gsetK mb ((i : Nat) : Int) (whenF l x)))), _, _, _, _, _, _, _, _, _, _, _, _, _, _, _, _, _, _]) 0 rfl rfl rfl rfl ut143 (gkey_int ut3) rfl (gmapV_setK _ _ _ _).symm rfl <| RK hK70 <| w_region <| rS (LW 5 rfl tk30 rfl rfl) <| SW9 rfl ts30 rfl ?_
   refine r_nil <| k_block <| KK hK50 ?_
   have hb75 : (SignalV.cells x) = (SignalV.cells (prevS r.Signals (i + 1))) := by rw [prevS_succ hx]
   rw [hb75]
   refine w_region <| rS (BI rfl (b_add ⟨by omega, by omega⟩)) <| rS (MV rfl) <| r_nil <| k_back (f := tmR) (ms := (timesT l r.Signals i)) (m := (gsetK mb ((i : Nat) : Int) (whenF l x))) 1 0 (by rw [timesT_len]; omega) hga rfl rfl rfl ?_
   rw [times_put hx (by omega) h134 hmb]
   have hb76 : (Value.int .i64 (((i + 1) : Nat) : Int)) = (Value.int .i64 (((i : Nat) : Int) + 1)) := by exact congrArg (Value.int .i64) (by omega)
   refine k_then (hJ46 ⟨(i + 1), ⟨by omega, sigs_succ hl15_1 hx (by unfold SigOk SigIn; omega)⟩⟩ _ _ _ rfl (by first | omega | (simp; omega)) (Sub.cons rfl <| Sub.cons rfl <| Sub.cons rfl <| Sub.cons rfl <| Sub.cons rfl <| Sub.cons rfl <| Sub.cons rfl <| Sub.cons rfl <| Sub.cons rfl <| sub_val rfl hb76 <| Sub.nil _) (fun w hs => St.sel [0, 5, 6, 7, 8, 9, 10, 11, 12, 13, 14, 15, 16, 17] rfl rfl hs))
 replace h119 := DT h119
 refine rS (FA 1 rfl fo30_1 rfl) <| rS (L1 (Value.int .i64 x.Read) 2 rfl tk3 rfl rfl) <| rS (FA 1 rfl fo30_1 rfl) <| rS (L1 (Value.int .i64 ((prevS r.Signals i).Read)) 7 rfl tk3 rfl rfl) <| rS (BI rfl b_leq) <| rS (PK rfl) <| rS (PK rfl) <| RK hK54 ?_
 refine w_if rfl (fun h126 => ?_) (fun h126 => ?_)
 · replace h126 := DT h126
   refine WS fun _ hK60 => rS (AG rfl) <| rS (AG rfl) <| RK hK60 <| w_ret ?_
   refine hQ _ _ _ (l_nil (vs := [(Value.pointer none), (Value.int .i64 51)]) ⟨rfl, rfl, trivial⟩ fun w hs => endX (false, 51, 0, none, 0, none, 0, [], [], [], none, 0, [], [], none, 0) [] ?_ ?_ rfl rfl (by first | rfl | (show List.all _ _ = true; simp only [cond_true, List.all_cons, List.all_nil, fm_wr, tm_wr, Bool.and_true]; rfl)) hs)
   · rfl
   · refine ⟨fun q => Bool.noConfusion (show false = true from q), fun _ => ?_⟩; first | (have e := open_line_e (r := r) (me := me) h21; exact ⟨e.symm, fun q => h21 (e.symm.trans q)⟩) | (have e := open_ride_e (me := me) h10 (fun q : RideOk l r => by have q1 := q.time; have q2 := q.len; omega); exact ⟨e.symm, fun q => absurd (e.symm.trans q) (by decide)⟩) | (have e := open_ride_e (me := me) h10 (ride_no hx (by unfold SigOk SigIn; omega)); exact ⟨e.symm, fun q => absurd (e.symm.trans q) (by decide)⟩) | (have e := open_more_e h10 hro h156; exact ⟨e.symm, fun q => h156 (e.symm.trans q)⟩) | (have e := open_bad_e (me := me) h10 hro (by first | rfl | exact h156) (show numsF (watchL l r) = [] from List.eq_nil_of_length_eq_zero (Int.natCast_eq_zero.1 h164)); exact ⟨e.symm, fun q => absurd (e.symm.trans q) (by decide)⟩)
 replace h126 := DF h126
 refine WK hK53 <| w_seq fun _ hK61 => WS fun _ hK62 => rS (LW 9 rfl tk28 rfl rfl) <| rS (LW 2 rfl tk30 rfl rfl) <| rS (CL (when_c l kA kC az cA cC bA bC x hin (by first | assumption | omega | (simp; done) | (simp; omega)) (by first | assumption | omega | (simp; done) | (simp; omega))) (ha_at 10 rfl rfl <| ha_at 11 rfl rfl <| ha_at 12 rfl rfl <| ha_at 13 rfl rfl <| ha_nil) rfl) <| AL rfl tz34 fun b63 => SW0 rfl ts34 rfl <| RK hK62 <| WS fun _ hK64 => ?_
 refine rS (FA 0 rfl fo34_0 rfl) <| rS (L1 (Value.int .i64 ((whenF l x).Lo)) 0 rfl tk3 rfl rfl) <| rS (FA 1 rfl fo34_1 rfl) <| rS (L1 (Value.int .i64 ((whenF l x).Hi)) 0 rfl tk3 rfl rfl) <| rS (BI rfl b_leq) <| RK hK64 ?_
 refine w_if rfl (fun h134 => ?_) (fun h134 => ?_)
 rotate_left 1
 · replace h134 := DF h134
   refine WK hK61 <| w_region <| rS (LW 3 rfl tk30 rfl rfl) <| SW8 rfl ts30 rfl <| r_nil <| k_block <| KK hK50 ?_
   have hb68 : (SignalV.cells x) = (SignalV.cells (prevS r.Signals (i + 1))) := by rw [prevS_succ hx]
   rw [hb68]
   refine w_region <| rS (BI rfl (b_add ⟨by omega, by omega⟩)) <| rS (MV rfl) <| r_nil ?_
   rw [show (timesT l r.Signals i) = (timesT l r.Signals (i + 1)) from (times_skip hx h134).symm]
   have hb69 : (Value.int .i64 (((i + 1) : Nat) : Int)) = (Value.int .i64 (((i : Nat) : Int) + 1)) := by exact congrArg (Value.int .i64) (by omega)
   refine k_then (hJ46 ⟨(i + 1), ⟨by omega, sigs_succ hl15_1 hx (by unfold SigOk SigIn; omega)⟩⟩ _ _ _ rfl (by first | omega | (simp; omega)) (Sub.cons rfl <| Sub.cons rfl <| Sub.cons rfl <| Sub.cons rfl <| Sub.cons rfl <| Sub.cons rfl <| Sub.cons rfl <| Sub.cons rfl <| Sub.cons rfl <| sub_val rfl hb69 <| Sub.nil _) (fun w hs => St.sel [4, 5, 6, 7, 8, 9, 10, 11, 12, 13, 14, 15, 16, 17] rfl rfl hs))
 replace h134 := DT h134
 obtain ⟨mb, hmb⟩ : ∃ y_, (timesT l r.Signals i)[(x.Beam).toNat]? = some y_ := ⟨(timesT l r.Signals i)[(x.Beam).toNat]'(by omega), List.getElem?_eq_getElem _⟩
 obtain ⟨ga, hga⟩ : ∃ y_, fb[(x.Beam).toNat]? = some y_ := ⟨fb[(x.Beam).toNat]'(by omega), List.getElem?_eq_getElem _⟩
 refine w_out 4 hmb hga rfl rfl rfl ?_
 try dsimp only
 refine w_draw mixed 10 (by kernel_rfl) <| dS (MV rfl) <| dS (SX (sd_nil_p rfl rfl) rfl rfl) <| dS (FA 11 rfl fo142_3 rfl) <| dS (L1 (Value.slice (some ⟨b19, 0, none⟩) l.Beams.length l.Beams.length) 7 rfl tk139 rfl rfl) <| dS (FA 0 rfl fo30_0 rfl) <| dS (L1 (Value.int .i64 x.Beam) 5 rfl tk3 rfl rfl) ?_
 have hk65 : (List.map oC (fillF fb l.Beams.length))[(x.Beam).toNat]? = some (oC (some ga)) := oC_at (fillF_at hga)
 refine dS (IA ((x.Beam).toNat) rfl (has_own_n (n := l.Beams.length) 8 rfl (by first | (simp; done) | (simp; omega))) te139 (by decide) (by omega) (by omega)) <| dS (LE1 ((x.Beam).toNat) 0 (Value.map (some ga)) rfl tk143 (has_own_n (n := (fillF fb l.Beams.length).length) 8 rfl (by simp)) hk65 rfl (by decide) rfl) <| dS (MV rfl) <| dS (LW 2 rfl tk34 rfl rfl) <| d_end <| gr_mapset (kV := iV) (x := ((i : Nat) : Int)) (C' := [(gmp iV ga (gmapV spanU (gsetK mb ((i : Nat) : Int) (whenF l x)))), _, _, _, _, _, _, _, _, _, _, _, _, _, _, _, _, _, _]) 0 rfl rfl rfl rfl ut143 (gkey_int ut3) rfl (gmapV_setK _ _ _ _).symm rfl <| RK hK61 <| w_region <| rS (LW 5 rfl tk30 rfl rfl) <| SW9 rfl ts30 rfl ?_
 refine r_nil <| k_block <| KK hK50 ?_
 have hb66 : (SignalV.cells x) = (SignalV.cells (prevS r.Signals (i + 1))) := by rw [prevS_succ hx]
 rw [hb66]
 refine w_region <| rS (BI rfl (b_add ⟨by omega, by omega⟩)) <| rS (MV rfl) <| r_nil <| k_back (f := tmR) (ms := (timesT l r.Signals i)) (m := (gsetK mb ((i : Nat) : Int) (whenF l x))) 1 0 (by rw [timesT_len]; omega) hga rfl rfl rfl ?_
 rw [times_put hx (by omega) h134 hmb]
 have hb67 : (Value.int .i64 (((i + 1) : Nat) : Int)) = (Value.int .i64 (((i : Nat) : Int) + 1)) := by exact congrArg (Value.int .i64) (by omega)
 refine k_then (hJ46 ⟨(i + 1), ⟨by omega, sigs_succ hl15_1 hx (by unfold SigOk SigIn; omega)⟩⟩ _ _ _ rfl (by first | omega | (simp; omega)) (Sub.cons rfl <| Sub.cons rfl <| Sub.cons rfl <| Sub.cons rfl <| Sub.cons rfl <| Sub.cons rfl <| Sub.cons rfl <| Sub.cons rfl <| Sub.cons rfl <| sub_val rfl hb67 <| Sub.nil _) (fun w hs => St.sel [0, 5, 6, 7, 8, 9, 10, 11, 12, 13, 14, 15, 16, 17] rfl rfl hs))
end
section
open Go.RowKit
set_option linter.unusedVariables false
set_option maxRecDepth 100000 in
set_option maxHeartbeats 400000 in
theorem Passed_c (l : LineM) (kA : Option Addr) (kC : Nat) (az : List RA) (cA : Option Addr) (cC : Nat) (bA : Option Addr) (bC : Nat) (r : RideM) (sgA : Option Addr) (sgC : Nat) (bq_ : Int) (hin : LineIn l az) (hsl : r.Signals.length ≤ 1000000) :
    FnV Try.prog 29 [(Value.agg (LineV.cells (LineV.mk (TrackV.mk (Slc.mk kA l.Track.length kC)) l.Fast (Slc.mk cA l.Clocks.length cC) (Slc.mk bA l.Beams.length bC) l.Finish l.Fakes l.Misses)).toArray), (Value.agg (RideV.cells (RideV.mk r.Start r.Now (Slc.mk sgA r.Signals.length sgC))).toArray), (Value.int .i64 bq_)] [(rd kA l.Track.length 9 (l.Track.map StretchV.cells)), (rd cA l.Clocks.length 2 (List.zipWith ClockM.cells l.Clocks az)), (bun (nest ClockM.rds l.Clocks az)), (rd bA l.Beams.length 4 (l.Beams.map BeamV.cells)), (rd sgA r.Signals.length 2 (r.Signals.map SignalV.cells))] (Value.tuple [(Value.agg (SpanV.cells (passedV l r bq_)).toArray), (Value.int .i64 (passedE l r bq_))].toArray) := by
 have htk := hin.trk
 have hck := hin.cks
 have has := hin.as_
 have hbm := hin.bms
 have hsd := hin.side
 refine fnV_of go29 Try.func29 rfl rfl fun w0 Q hQ hN => ?_
 try dsimp only
 refine WS fun _ hK1 => BXA rfl fun b2 => BXA rfl fun b3 => BX1 rfl rfl fun b4 => AL rfl tz34 fun b5 => rS (AG rfl) <| RK hK1 <| WS fun _ hK6 => rS (LW 3 rfl tk28 rfl rfl) <| rS (LW 2 rfl tk69 rfl rfl) ?_
 refine rS (FU rfl) <| r_bs (xs := [.tmp 17]) (cs := [(Value.func (.func 63) [].toArray [(Value.pointer (some ⟨b2, 0, none⟩)), (Value.pointer (some ⟨b4, 0, none⟩))].toArray)]) rfl te138 tz111 rfl rfl rfl rfl (by simp [Value.cells]) rfl rfl fun b7 => cX (open1_c l kA kC az cA cC bA bC r sgA sgC (Value.func (.func 63) [].toArray [(Value.pointer (some ⟨b2, 0, none⟩)), (Value.pointer (some ⟨b4, 0, none⟩))].toArray) (bun [(rd kA l.Track.length 9 (l.Track.map StretchV.cells)), (rd cA l.Clocks.length 2 (List.zipWith ClockM.cells l.Clocks az)), (bun (nest ClockM.rds l.Clocks az)), (rd bA l.Beams.length 4 (l.Beams.map BeamV.cells)), (blk b2 28 (LineV.cells (LineV.mk (TrackV.mk (Slc.mk kA l.Track.length kC)) l.Fast (Slc.mk cA l.Clocks.length cC) (Slc.mk bA l.Beams.length bC) l.Finish l.Fakes l.Misses))), (blk b4 3 [(Value.int .i64 bq_)])]) (beamE l bq_) b7 (by exact clo_of (fi := []) (ca := [(Value.pointer (some ⟨b2, 0, none⟩)), (Value.pointer (some ⟨b4, 0, none⟩))]) (fnV_bun (passed1f_c l kA kC az cA cC bA bC b2 bq_ b4 (by first | assumption | omega)) (ha_at 0 rfl rfl <| ha_at 1 rfl rfl <| ha_at 2 rfl rfl <| ha_at 3 rfl rfl <| ha_at 4 rfl rfl <| ha_at 5 rfl rfl <| ha_nil))) hin hsl) (ha_at 5 rfl rfl <| ha_at 6 rfl rfl <| ha_at 7 rfl rfl <| ha_at 8 rfl rfl <| ha_at 9 rfl rfl <| ha_cons (has_bun (ha_at 5 rfl rfl <| ha_at 6 rfl rfl <| ha_at 7 rfl rfl <| ha_at 8 rfl rfl <| ha_at 4 rfl rfl <| ha_at 2 rfl rfl <| ha_nil)) <| ha_at 0 rfl rfl <| ha_nil) rfl fun y8 hy9 => ?_
 obtain ⟨ok25, ec10, gw11, eA12, eC13, tA14, tC15, tb16, fs17, fb18, fA19, fC20, bs21, bb22, qA23, qC24⟩ := y8
 cases ok25
 · obtain ⟨hec, he⟩ := hy9.2 rfl
   try dsimp only at hec he
   subst hec
   try dsimp only [cond_true, cond_false, List.cons_append, List.nil_append]
   refine rS (MV rfl) <| rS (EX rfl) <| rS (EX rfl) <| rS (AG rfl) <| rS (AG rfl) <| RK hK6 <| w_seq fun _ hK26 => WS fun _ hK27 => rS (MV rfl) <| rS (BI rfl b_neq) ?_
   refine RK hK27 ?_
   refine w_if rfl (fun h23 => ?_) (fun h23 => ?_)
   rotate_left 1
   · replace h23 := XF h23
     exact absurd h23 he
   replace h23 := XT h23
   refine WS fun _ hK28 => rS (SX (sd_build (xs := []) (cs := (SpanV.cells (SpanV.mk 0 0))) rfl rfl (built_of tb34 rfl)) rfl rfl) <| rS (MV rfl) <| SW1 rfl ts34 rfl <| rS (AG rfl) <| RK hK28 <| w_ret ?_
   refine hQ _ _ _ (l_nil (vs := [(Value.agg (SpanV.cells (SpanV.mk 0 0)).toArray), (Value.int .i64 (openE l r (beamE l bq_)))]) ⟨⟨_, rfl, .inl ⟨_, _, tk34, at_blk (vs := (SpanV.cells (SpanV.mk 0 0))) 1 rfl rfl, rfl, rfl⟩⟩, rfl, trivial⟩ fun w hs => endV ?_ hs)
   show (Value.tuple [(Value.agg (SpanV.cells (SpanV.mk 0 0)).toArray), (Value.int .i64 (openE l r (beamE l bq_)))].toArray) = (Value.tuple [(Value.agg (SpanV.cells (passedV l r bq_)).toArray), (Value.int .i64 (passedE l r bq_))].toArray)
   clear hs w hQ hN hK28 hK27 hK26 hK6 hK1
   first | (have e := passed_bad (b := bq_) he; rw [e.1, e.2] <;> rfl) | (rw [hbq] at he ⊢; have hh : h = hullW l r b := hull_maps (hfw.min _ _ hm1) (hbw.max _ _ hm2) (hfw.keys _ _ hm1) (hbw.keys _ _ hm2) hr1 hfin hr0; first | (have e := passed_none he (hh.symm.trans h50); rw [e.1, e.2] <;> rfl) | (have e := passed_some he (fun q => h50 (hh.trans q)); rw [e.1, e.2, hh] <;> rfl))
 obtain ⟨he, hfw, hbw, hfl, hbl, htl⟩ := hy9.1 rfl
 try dsimp only [cond_true, cond_false, List.cons_append, List.nil_append]
 dsimp only at hfw hbw hfl hbl htl
 obtain ⟨h10, hro, hme, hnn⟩ := openE_zero he
 obtain ⟨htr, hok⟩ := lineE_zero h10
 have hhd := hok.head
 unfold HeadOk at hhd
 have hwo := watch_ok htr hok hro
 have hrt := hro.time
 have hrl := hro.len
 have hlel : (leasts l l.Beams.length).length = l.Beams.length := leasts_len
 have htll : (timesT l r.Signals r.Signals.length).length = l.Beams.length := timesT_len
 have hfn : fs17.length = l.Beams.length + 1 := by have := hfw.len; rw [show (watchL l r).n = l.Beams.length from leasts_len] at this; exact this
 have hbn : bs21.length = l.Beams.length + 1 := by have := hbw.len; rw [show (watchL l r).n = l.Beams.length from leasts_len] at this; exact this
 obtain ⟨hb0, hb1⟩ := beamE_zero hme
 obtain ⟨b, hbq⟩ : ∃ b : Nat, bq_ = ((b : Nat) : Int) := ⟨bq_.toNat, by omega⟩
 rw [hbq]
 refine rS (MV rfl) <| rS (EX rfl) <| rS (EX rfl) <| rS (AG rfl) <| rS (AG rfl) <| RK hK6 <| w_seq fun _ hK29 => WS fun _ hK30 => rS (MV rfl) <| rS (SX (sd_bin (r := .bool false) rfl rfl rfl b_neq) rfl rfl) ?_
 refine RK hK30 <| w_if_false rfl <| WK hK29 <| WS fun _ hK31 => rS (SX (sd_build (xs := [(0, .const (Value.int .i64 1))]) (cs := (SpanV.cells (SpanV.mk 1 0))) rfl rfl (built_of tb34 rfl)) rfl rfl) <| AL rfl tz34 fun b32 => SW0 rfl ts34 rfl <| RK hK31 <| WS fun _ hK33 => rS (LW 0 rfl tk34 rfl rfl) ?_
 refine AL rfl tz34 fun b34 => SW0 rfl ts34 rfl <| RK hK33 <| w_seq fun _ hK35 => WS fun _ hK36 => rS (MV rfl) <| rS (L1W 12 rfl tk3 rfl) ?_
 obtain ⟨mf, hm1⟩ : ∃ y_, fs17[b]? = some y_ := ⟨fs17[b]'(by omega), List.getElem?_eq_getElem _⟩
 obtain ⟨mb, hm2⟩ : ∃ y_, bs21[b + 1]? = some y_ := ⟨bs21[b + 1]'(by omega), List.getElem?_eq_getElem _⟩
 refine cX (passes_c gw11 b) (ha_nil) rfl fun y37 hy38 => ?_
 obtain ⟨x139, x240⟩ := y37
 try dsimp only
 refine RK hK36 <| w_block ?_
 refine w_rangeG (L0 := [(3, (Value.pointer (some ⟨b2, 0, none⟩))), (4, (Value.pointer (some ⟨b3, 0, none⟩))), (5, (Value.pointer (some ⟨b4, 0, none⟩))), (6, (Value.pointer (some ⟨b5, 0, none⟩))), (7, (Value.int .i64 0)), (10, (Value.pointer (some ⟨b32, 0, none⟩))), (11, (Value.pointer (some ⟨b34, 0, none⟩)))]) (F := [(own eA12 eC13 3 1 ((leasts l l.Beams.length).map iC)), (own tA14 tC15 143 1 (List.zipWith mapC (timesT l r.Signals r.Signals.length) tb16)), (bund (nest tmR (timesT l r.Signals r.Signals.length) tb16)), (own fA19 fC20 144 1 (List.zipWith mapC fs17 fb18)), (bund (nest fmR fs17 fb18)), (own qA23 qC24 144 1 (List.zipWith mapC bs21 bb22)), (bund (nest fmR bs21 bb22)), (blk gw11 142 (WatchV.cells (WatchV.mk (LineV.mk (TrackV.mk (Slc.mk kA l.Track.length kC)) l.Fast (Slc.mk cA l.Clocks.length cC) (Slc.mk bA l.Beams.length bC) l.Finish l.Fakes l.Misses) (RideV.mk r.Start r.Now (Slc.mk sgA r.Signals.length sgC)) (Slc.mk eA12 ((leasts l l.Beams.length).length) eC13) (Slc.mk tA14 ((timesT l r.Signals r.Signals.length).length) tC15) (Slc.mk fA19 fs17.length fC20) (Slc.mk qA23 bs21.length qC24)))), (blk x139 107 [(Value.pointer (some ⟨gw11, 0, none⟩))]), (blk x240 3 [(Value.int .i64 ((b : Nat) : Int))])])  (fun k (y : SpanV) => (HullOk k y) ∧ (∀ q ∈ k, q ∈ passM (watchL l r) b mf mb)) (fun k y => [(blk b34 34 (SpanV.cells y)), (blk b32 34 (SpanV.cells (SpanV.mk 1 0))), (blk b5 34 (SpanV.cells (SpanV.mk 0 0))), (blk b4 3 [(Value.int .i64 ((b : Nat) : Int))]), (blk b3 69 (RideV.cells (RideV.mk r.Start r.Now (Slc.mk sgA r.Signals.length sgC)))), (blk b2 28 (LineV.cells (LineV.mk (TrackV.mk (Slc.mk kA l.Track.length kC)) l.Fast (Slc.mk cA l.Clocks.length cC) (Slc.mk bA l.Beams.length bC) l.Finish l.Fakes l.Misses))), (rd kA l.Track.length 9 (l.Track.map StretchV.cells)).ro, (rd cA l.Clocks.length 2 (List.zipWith ClockM.cells l.Clocks az)).ro, (bun (nest ClockM.rds l.Clocks az)).ro, (rd bA l.Beams.length 4 (l.Beams.map BeamV.cells)).ro, (rd sgA r.Signals.length 2 (r.Signals.map SignalV.cells)).ro]) (fun _ (_ : Unit) => False) (fun _ _ => []) [2, 3, 13, 14, 15, 16, 17, 18, 19, 20, 21] [5, 6, 7, 8, 9, 10, 11, 4, 0, 1] noneZ rfl rfl (passes1_c (LineV.mk (TrackV.mk (Slc.mk kA l.Track.length kC)) l.Fast (Slc.mk cA l.Clocks.length cC) (Slc.mk bA l.Beams.length bC) l.Finish l.Fakes l.Misses) (RideV.mk r.Start r.Now (Slc.mk sgA r.Signals.length sgC)) (leasts l l.Beams.length) (timesT l r.Signals r.Signals.length) eA12 eC13 tb16 tA14 tC15 fs17 bs21 fb18 fA19 fC20 bb22 qA23 qC24 gw11 b x139 x240 mf mb (by rw [hlel]; omega) (by exact hwo) (by rw [htll]; omega) (by exact hfw) (by omega) (by exact hbw) (by omega) (by show r.Signals.length ≤ 1000; omega) (by exact hm1) (by exact hm2)) rfl rfl rfl (by exact ⟨hull_nil, fun q hq => by cases hq⟩) (by simp only [List.forall_mem_cons, List.not_mem_nil, false_imp_iff, implies_true, and_true]; exact ⟨⟨_, List.mem_of_getElem? (i := 0) rfl, (cov_own_n (by simp))⟩, ⟨_, List.mem_of_getElem? (i := 1) rfl, (cov_own_n (by rw [List.length_zipWith]; omega))⟩, ⟨_, List.mem_of_getElem? (i := 2) rfl, cov_bund⟩, ⟨_, List.mem_of_getElem? (i := 3) rfl, (cov_own_n (by rw [List.length_zipWith]; omega))⟩, ⟨_, List.mem_of_getElem? (i := 4) rfl, cov_bund⟩, ⟨_, List.mem_of_getElem? (i := 5) rfl, (cov_own_n (by rw [List.length_zipWith]; omega))⟩, ⟨_, List.mem_of_getElem? (i := 6) rfl, cov_bund⟩, ⟨_, List.mem_of_getElem? (i := 7) rfl, (cov_refl _)⟩, ⟨_, List.mem_of_getElem? (i := 8) rfl, (cov_refl _)⟩, ⟨_, List.mem_of_getElem? (i := 9) rfl, (cov_refl _)⟩⟩) (by rintro k x k2 ⟨o, _, rfl, _⟩; rfl) rfl (Sub.cons rfl <| Sub.cons rfl <| Sub.cons rfl <| Sub.cons rfl <| Sub.cons rfl <| Sub.cons rfl <| Sub.cons rfl <| Sub.nil _) ?_ ?_ (fun _ _ _ h => h.elim) (fun _ _ h => h.elim)
 · rintro k x k2 h lr ra rb S w1 K41 Qr42 hsz hx hin43 hK41 hQr42 xQr42 yQr42
   obtain ⟨q, hq, rfl, rfl⟩ := hx
   obtain ⟨hr0, hr1⟩ := hin43
   try dsimp only
   refine w_region <| AL rfl tz34 fun b44 => SW0 rfl ts34 rfl <| r_nil <| k_sub (fun _ _ h => h) (fun w hs => St.sel [1, 0, 2, 3, 4, 5, 6, 7, 8, 9, 10, 11, 12] rfl rfl hs) ?_
   refine k_then (hK41 _ _ ?_)
   refine w_block <| w_seq fun _ hK45 => WS fun _ hK46 => rS (LW 2 rfl tk34 rfl rfl) <| rS (LW 3 rfl tk34 rfl rfl) <| rS (BI rfl (nes34 _ _ h (SpanV.mk 1 0))) <| RK hK46 ?_
   refine w_if rfl (fun h35 => ?_) (fun h35 => ?_)
   rotate_left 1
   · replace h35 := XF h35
     refine WK hK45 <| w_region <| rS (LW 1 rfl tk34 rfl rfl) <| SW2 rfl ts34 rfl <| r_nil <| k_block ?_
     exact hQr42 q.2 _ _ (by refine ⟨hull_next hr0 (pass_le hq) ?_, fun z hz => ?_⟩; (first | exact if_neg h35 | exact if_pos h35); (rcases List.mem_append.1 hz with hz | hz; exact hr1 z hz; (rw [List.mem_singleton.1 hz]; exact hq))) (fun w hs => St.sel [0, 2, 3, 4, 5, 6, 7, 8, 9, 10, 11, 12] rfl rfl hs)
   replace h35 := XT h35
   refine w_region <| rS (FA 0 rfl fo34_0 rfl) <| rS (L1 (Value.int .i64 q.2.Lo) 1 rfl tk3 rfl rfl) <| rS (FA 0 rfl fo34_0 rfl) <| rS (L1 (Value.int .i64 h.Lo) 2 rfl tk3 rfl rfl) <| rS (MN rfl) <| rS (FA 1 rfl fo34_1 rfl) <| rS (L1 (Value.int .i64 q.2.Hi) 1 rfl tk3 rfl rfl) <| rS (FA 1 rfl fo34_1 rfl) <| rS (L1 (Value.int .i64 h.Hi) 2 rfl tk3 rfl rfl) ?_
   refine rS (MX rfl) <| rS (SX (sd_build (xs := [(0, .tmp 40), (1, .tmp 45)]) (cs := (SpanV.cells (SpanV.mk (min q.2.Lo h.Lo) (max q.2.Hi h.Hi)))) rfl rfl (built_of tb34 rfl)) rfl rfl) <| SW1 rfl ts34 rfl <| RK hK45 <| w_region <| rS (LW 1 rfl tk34 rfl rfl) <| SW2 rfl ts34 rfl <| r_nil <| k_block ?_
   exact hQr42 (SpanV.mk (min q.2.Lo h.Lo) (max q.2.Hi h.Hi)) _ _ (by refine ⟨hull_next hr0 (pass_le hq) ?_, fun z hz => ?_⟩; (first | exact if_neg h35 | exact if_pos h35); (rcases List.mem_append.1 hz with hz | hz; exact hr1 z hz; (rw [List.mem_singleton.1 hz]; exact hq))) (fun w hs => St.sel [0, 2, 3, 4, 5, 6, 7, 8, 9, 10, 11, 12] rfl rfl hs)
 rintro r47 k h hfin hin48
 obtain ⟨hr0, hr1⟩ := hin48
 try dsimp only
 refine k_block <| KK hK35 <| w_seq fun _ hK49 => WS fun _ hK50 => rS (LW 11 rfl tk34 rfl rfl) <| rS (LW 12 rfl tk34 rfl rfl) <| rS (BI rfl (eqs34 _ _ h (SpanV.mk 1 0))) <| RK hK50 ?_
 refine w_if rfl (fun h50 => ?_) (fun h50 => ?_)
 rotate_left 1
 · replace h50 := DF h50
   refine WK hK49 <| WS fun _ hK52 => rS (LW 11 rfl tk34 rfl rfl) <| r_store (vs := (SpanV.cells h)) (cs' := (SpanV.cells h)) (C' := [_, _, _, _, _, _, _, _, _, _, _, _, _, (blk b5 34 (SpanV.cells h)), _, _, _, _, _, _, _, _]) 13 rfl rfl rfl ts34 rfl rfl rfl rfl rfl rfl rfl <| rS (AG rfl) <| RK hK52 <| w_ret ?_
   refine hQ _ _ _ (l_mark 0 rfl rfl <| l_nil (vs := [(Value.agg (SpanV.cells h).toArray), (Value.int .i64 0)]) ⟨⟨_, rfl, .inl ⟨_, _, tk34, at_blk (vs := (SpanV.cells h)) 13 rfl rfl, rfl, rfl⟩⟩, rfl, trivial⟩ fun w hs => endV ?_ hs)
   show (Value.tuple [(Value.agg (SpanV.cells h).toArray), (Value.int .i64 0)].toArray) = (Value.tuple [(Value.agg (SpanV.cells (passedV l r bq_)).toArray), (Value.int .i64 (passedE l r bq_))].toArray)
   clear hs w hQ hN hK52 hK50 hK49 hK36 hK35 hK33 hK31 hK30 hK29 hK6 hK1
   first | (have e := passed_bad (b := bq_) he; rw [e.1, e.2] <;> rfl) | (rw [hbq] at he ⊢; have hh : h = hullW l r b := hull_maps (hfw.min _ _ hm1) (hbw.max _ _ hm2) (hfw.keys _ _ hm1) (hbw.keys _ _ hm2) hr1 hfin hr0; first | (have e := passed_none he (hh.symm.trans h50); rw [e.1, e.2] <;> rfl) | (have e := passed_some he (fun q => h50 (hh.trans q)); rw [e.1, e.2, hh] <;> rfl))
 replace h50 := DT h50
 refine WS fun _ hK51 => rS (SX (sd_build (xs := []) (cs := (SpanV.cells (SpanV.mk 0 0))) rfl rfl (built_of tb34 rfl)) rfl rfl) <| r_store (vs := (SpanV.cells (SpanV.mk 0 0))) (cs' := (SpanV.cells (SpanV.mk 0 0))) (C' := [_, _, _, _, _, _, _, _, _, _, _, _, _, (blk b5 34 (SpanV.cells (SpanV.mk 0 0))), _, _, _, _, _, _, _, _]) 13 rfl rfl rfl ts34 rfl rfl rfl rfl rfl rfl rfl <| rS (AG rfl) <| RK hK51 <| w_ret ?_
 refine hQ _ _ _ (l_mark 0 rfl rfl <| l_nil (vs := [(Value.agg (SpanV.cells (SpanV.mk 0 0)).toArray), (Value.int .i64 6)]) ⟨⟨_, rfl, .inl ⟨_, _, tk34, at_blk (vs := (SpanV.cells (SpanV.mk 0 0))) 13 rfl rfl, rfl, rfl⟩⟩, rfl, trivial⟩ fun w hs => endV ?_ hs)
 show (Value.tuple [(Value.agg (SpanV.cells (SpanV.mk 0 0)).toArray), (Value.int .i64 6)].toArray) = (Value.tuple [(Value.agg (SpanV.cells (passedV l r bq_)).toArray), (Value.int .i64 (passedE l r bq_))].toArray)
 clear hs w hQ hN hK51 hK50 hK49 hK36 hK35 hK33 hK31 hK30 hK29 hK6 hK1
 first | (have e := passed_bad (b := bq_) he; rw [e.1, e.2] <;> rfl) | (rw [hbq] at he ⊢; have hh : h = hullW l r b := hull_maps (hfw.min _ _ hm1) (hbw.max _ _ hm2) (hfw.keys _ _ hm1) (hbw.keys _ _ hm2) hr1 hfin hr0; first | (have e := passed_none he (hh.symm.trans h50); rw [e.1, e.2] <;> rfl) | (have e := passed_some he (fun q => h50 (hh.trans q)); rw [e.1, e.2, hh] <;> rfl))
set_option maxRecDepth 100000 in
set_option maxHeartbeats 400000 in
theorem Ran_c (l : LineM) (kA : Option Addr) (kC : Nat) (az : List RA) (cA : Option Addr) (cC : Nat) (bA : Option Addr) (bC : Nat) (r : RideM) (sgA : Option Addr) (sgC : Nat) (hin : LineIn l az) (hsl : r.Signals.length ≤ 1000000) :
    FnV Try.prog 34 [(Value.agg (LineV.cells (LineV.mk (TrackV.mk (Slc.mk kA l.Track.length kC)) l.Fast (Slc.mk cA l.Clocks.length cC) (Slc.mk bA l.Beams.length bC) l.Finish l.Fakes l.Misses)).toArray), (Value.agg (RideV.cells (RideV.mk r.Start r.Now (Slc.mk sgA r.Signals.length sgC))).toArray)] [(rd kA l.Track.length 9 (l.Track.map StretchV.cells)), (rd cA l.Clocks.length 2 (List.zipWith ClockM.cells l.Clocks az)), (bun (nest ClockM.rds l.Clocks az)), (rd bA l.Beams.length 4 (l.Beams.map BeamV.cells)), (rd sgA r.Signals.length 2 (r.Signals.map SignalV.cells))] (Value.tuple [(Value.agg (SpanV.cells (ranV l r)).toArray), (Value.int .i64 (passedE l r l.Finish))].toArray) := by
 have htk := hin.trk
 have hck := hin.cks
 have has := hin.as_
 have hbm := hin.bms
 have hsd := hin.side
 refine fnV_of go34 Try.func34 rfl rfl fun w0 Q hQ hN => ?_
 try dsimp only
 refine WS fun _ hK1 => BXA rfl fun b2 => BXA rfl fun b3 => AL rfl tz34 fun b4 => rS (AG rfl) <| RK hK1 <| WS fun _ hK5 => rS (LW 2 rfl tk28 rfl rfl) <| rS (LW 1 rfl tk69 rfl rfl) <| rS (FA 4 rfl fo28_4 rfl) ?_
 refine rS (L1 (Value.int .i64 l.Finish) 2 rfl tk3 rfl rfl) <| rS (CL (Passed_c l kA kC az cA cC bA bC r sgA sgC l.Finish hin hsl) (ha_at 3 rfl rfl <| ha_at 4 rfl rfl <| ha_at 5 rfl rfl <| ha_at 6 rfl rfl <| ha_at 7 rfl rfl <| ha_nil) rfl) <| rS (MV rfl) <| rS (EX rfl) <| rS (EX rfl) <| AL rfl tz34 fun b6 => SW0 rfl ts34 rfl <| rS (AG rfl) <| RK hK5 <| w_seq fun _ hK7 => ?_
 refine WS fun _ hK8 => rS (MV rfl) <| rS (BI rfl b_neq) <| RK hK8 ?_
 refine w_if rfl (fun h17 => ?_) (fun h17 => ?_)
 · replace h17 := XT h17
   refine WS fun _ hK9 => rS (SX (sd_build (xs := []) (cs := (SpanV.cells (SpanV.mk 0 0))) rfl rfl (built_of tb34 rfl)) rfl rfl) <| rS (MV rfl) <| SW1 rfl ts34 rfl <| rS (AG rfl) <| RK hK9 <| w_ret ?_
   refine hQ _ _ _ (l_nil (vs := [(Value.agg (SpanV.cells (SpanV.mk 0 0)).toArray), (Value.int .i64 (passedE l r l.Finish))]) ⟨⟨_, rfl, .inl ⟨_, _, tk34, at_blk (vs := (SpanV.cells (SpanV.mk 0 0))) 1 rfl rfl, rfl, rfl⟩⟩, rfl, trivial⟩ fun w hs => endV ?_ hs)
   show (Value.tuple [(Value.agg (SpanV.cells (SpanV.mk 0 0)).toArray), (Value.int .i64 (passedE l r l.Finish))].toArray) = (Value.tuple [(Value.agg (SpanV.cells (ranV l r)).toArray), (Value.int .i64 (passedE l r l.Finish))].toArray)
   clear hs w hQ hN hK9 hK8 hK7 hK5 hK1
   first | (rw [ran_no h17] <;> rfl) | (rw [ran_ok h17, h17] <;> rfl)
 replace h17 := XF h17
 refine WK hK7 <| WS fun _ hK10 => rS (FA 0 rfl fo34_0 rfl) <| rS (L1 (Value.int .i64 ((passedV l r l.Finish).Lo)) 0 rfl tk3 rfl rfl) <| rS (FA 0 rfl fo69_0 rfl) <| rS (L1 (Value.int .i64 r.Start) 2 rfl tk3 rfl rfl) ?_
 have hpb := passed_b h17
 have hpr := (passed_ride h17).time
 refine rS (BI rfl (b_sub ⟨by omega, by omega⟩)) <| rS (FA 1 rfl fo34_1 rfl) <| rS (L1 (Value.int .i64 ((passedV l r l.Finish).Hi)) 0 rfl tk3 rfl rfl) <| rS (FA 0 rfl fo69_0 rfl) <| rS (L1 (Value.int .i64 r.Start) 2 rfl tk3 rfl rfl) <| rS (BI rfl (b_sub ⟨by omega, by omega⟩)) <| rS (SX (sd_build (xs := [(0, .tmp 24), (1, .tmp 29)]) (cs := (SpanV.cells (SpanV.mk (((passedV l r l.Finish).Lo) - r.Start) (((passedV l r l.Finish).Hi) - r.Start)))) rfl rfl (built_of tb34 rfl)) rfl rfl) <| SW1 rfl ts34 rfl <| rS (AG rfl) <| RK hK10 ?_
 refine w_ret ?_
 refine hQ _ _ _ (l_nil (vs := [(Value.agg (SpanV.cells (SpanV.mk (((passedV l r l.Finish).Lo) - r.Start) (((passedV l r l.Finish).Hi) - r.Start))).toArray), (Value.int .i64 0)]) ⟨⟨_, rfl, .inl ⟨_, _, tk34, at_blk (vs := (SpanV.cells (SpanV.mk (((passedV l r l.Finish).Lo) - r.Start) (((passedV l r l.Finish).Hi) - r.Start)))) 1 rfl rfl, rfl, rfl⟩⟩, rfl, trivial⟩ fun w hs => endV ?_ hs)
 show (Value.tuple [(Value.agg (SpanV.cells (SpanV.mk (((passedV l r l.Finish).Lo) - r.Start) (((passedV l r l.Finish).Hi) - r.Start))).toArray), (Value.int .i64 0)].toArray) = (Value.tuple [(Value.agg (SpanV.cells (ranV l r)).toArray), (Value.int .i64 (passedE l r l.Finish))].toArray)
 clear hs w hQ hN hK10 hK8 hK7 hK5 hK1
 first | (rw [ran_no h17] <;> rfl) | (rw [ran_ok h17, h17] <;> rfl)
end
section
open Go.RowKit
set_option linter.unusedVariables false
theorem zip_len {l : List ClockM} {az : List RA} (h : az.length = l.length) : (List.zipWith ClockM.cells l az).length = l.length := by simp [h]
theorem bund_owns_wr {l : List ClockM} {bz : List RA} : (bund (nest ClockM.owns l bz)).wr = true := by
  show (nest ClockM.owns l bz).all (·.wr) = true
  rw [List.all_eq_true]
  intro X hX
  obtain ⟨k, m, a, _, _, h⟩ := nest_mem hX
  simp only [ClockM.owns, List.mem_singleton] at h
  subst h; rfl
theorem owns_rds : ∀ (m : ClockM) (a : RA) (w : World), (∀ X ∈ ClockM.owns m a, X.holds w) → ∀ X ∈ ClockM.rds m a, X.holds w := fun m a w h X hX => by
  simp only [ClockM.rds, List.mem_singleton] at hX
  subst hX
  have := own_rd (h _ (List.mem_singleton.2 rfl))
  simpa using this
section
variable {E : Env} {ops : Array Oper} {Q : Post} {rest : List Oper} {D : List Deferred} {L : List (Nat × Value)} {C : List Assn}
end
end
section
open Go.RowKit
set_option linter.unusedVariables false
set_option maxRecDepth 100000 in
set_option maxHeartbeats 400000 in
theorem lspan_c (x : Int) (y : Int) :
    FnV Try.prog 35 [(Value.int .i64 x), (Value.int .i64 y)] [] (Value.agg (SpanV.cells (SpanV.mk x y)).toArray) := by
 refine fnV_of go35 Try.func35 rfl rfl fun w0 Q hQ hN => ?_
 try dsimp only
 refine WS fun _ hK1 => AL rfl tz34 fun b2 => RK hK1 <| WS fun _ hK3 => rS (MV rfl) <| rS (MV rfl) <| rS (SX (sd_build (xs := [(0, .tmp 5), (1, .tmp 6)]) (cs := (SpanV.cells (SpanV.mk x y))) rfl rfl (built_of tb34 rfl)) rfl rfl) <| SW0 rfl ts34 rfl <| RK hK3 <| w_ret ?_
 refine hQ _ _ _ (l_nil (vs := [(Value.agg (SpanV.cells (SpanV.mk x y)).toArray)]) ⟨⟨_, rfl, .inl ⟨_, _, tk34, at_blk (vs := (SpanV.cells (SpanV.mk x y))) 0 rfl rfl, rfl, rfl⟩⟩, trivial⟩ fun w hs => endV ?_ hs)
 show (Value.agg (SpanV.cells (SpanV.mk x y)).toArray) = (Value.agg (SpanV.cells (SpanV.mk x y)).toArray)
 clear hs w hQ hN hK3 hK1
 rfl
set_option maxRecDepth 100000 in
set_option maxHeartbeats 400000 in
theorem line1_c  :
    FnX Try.prog 39 [(Value.int .i64 1)] [] (fun (x : (Option Addr) × Nat × (Option Addr) × Nat × (List RA) × (Option Addr) × Nat) => (Value.agg (LineV.cells (LineV.mk (TrackV.mk (Slc.mk x.1 exL1.Track.length x.2.1)) exL1.Fast (Slc.mk x.2.2.1 exL1.Clocks.length x.2.2.2.1) (Slc.mk x.2.2.2.2.2.1 exL1.Beams.length x.2.2.2.2.2.2) exL1.Finish exL1.Fakes exL1.Misses)).toArray)) (fun (x : (Option Addr) × Nat × (Option Addr) × Nat × (List RA) × (Option Addr) × Nat) => x.2.2.2.2.1.length = exL1.Clocks.length ∧ LineIn exL1 x.2.2.2.2.1) (fun (x : (Option Addr) × Nat × (Option Addr) × Nat × (List RA) × (Option Addr) × Nat) => [(own x.1 x.2.1 126 9 (exL1.Track.map StretchV.cells)), (own x.2.2.1 x.2.2.2.1 64 2 (List.zipWith ClockM.cells exL1.Clocks x.2.2.2.2.1)), (bund (nest ClockM.owns exL1.Clocks x.2.2.2.2.1)), (own x.2.2.2.2.2.1 x.2.2.2.2.2.2 55 4 (exL1.Beams.map BeamV.cells))]) := by
 refine fnX_of go39 Try.func39 rfl rfl fun w0 Q hQ hN => ?_
 try dsimp only
 refine WS fun _ hK1 => AL rfl tz28 fun b2 => RK hK1 <| WS fun _ hK3 => rS (CL (lspan_c 10000 10200) (ha_nil) rfl) <| rS (SX (sd_build (xs := [(0, .const (Value.int .i64 1)), (1, .tmp 3)]) (cs := (StretchV.cells (StretchV.mk 1 (SpanV.mk 10000 10200) (SpanV.mk 0 0) (SpanV.mk 0 0) 0 0))) rfl rfl (built_of tb126 rfl)) rfl rfl) <| r_bs (xs := [.tmp 4]) (cs := (StretchV.cells (StretchV.mk 1 (SpanV.mk 10000 10200) (SpanV.mk 0 0) (SpanV.mk 0 0) 0 0))) rfl te22 tz126 rfl rfl rfl rfl (by simp [Value.cells, StretchV.cells_length]) rfl rfl fun b4 => rS (SX (sd_build (xs := [(0, .tmp 5)]) (cs := (TrackV.cells (TrackV.mk (Slc.mk (some ⟨b4, 0, none⟩) 1 1)))) rfl rfl (built_of tb24 rfl)) rfl rfl) <| rS (MV rfl) <| rS (CL (lspan_c 0 2) (ha_nil) rfl) ?_
 refine rS (SX (sd_build (xs := [(0, .const (Value.int .i64 0)), (1, .tmp 8)]) (cs := (SyncV.cells (SyncV.mk 0 (SpanV.mk 0 2)))) rfl rfl (built_of tb61 rfl)) rfl rfl) <| rS (CL (lspan_c 5 6) (ha_nil) rfl) <| rS (SX (sd_build (xs := [(0, .const (Value.int .i64 100000)), (1, .tmp 10)]) (cs := (SyncV.cells (SyncV.mk 100000 (SpanV.mk 5 6)))) rfl rfl (built_of tb61 rfl)) rfl rfl) <| r_bs (xs := [.tmp 9, .tmp 11]) (cs := ((SyncV.cells (SyncV.mk 0 (SpanV.mk 0 2))) ++ (SyncV.cells (SyncV.mk 100000 (SpanV.mk 5 6))))) rfl te62 tz61 rfl rfl rfl rfl (by simp [Value.cells, SyncV.cells_length]) rfl rfl fun b5 => rS (SX (sd_build (xs := [(0, .const (Value.int .i64 100)), (1, .tmp 12)]) (cs := (ClockV.cells (ClockV.mk 100 (Slc.mk (some ⟨b5, 0, none⟩) 2 2)))) rfl rfl (built_of tb64 rfl)) rfl rfl) <| r_bs (xs := [.tmp 13]) (cs := (ClockV.cells (ClockV.mk 100 (Slc.mk (some ⟨b5, 0, none⟩) 2 2)))) rfl te25 tz64 rfl rfl rfl rfl (by simp [Value.cells, ClockV.cells_length]) rfl rfl fun b6 => rS (CL (lspan_c 1000 1000) (ha_nil) rfl) <| rS (SX (sd_build (xs := [(1, .tmp 15)]) (cs := (SpotV.cells (SpotV.mk 0 (SpanV.mk 1000 1000)))) rfl rfl (built_of tb53 rfl)) rfl rfl) <| rS (SX (sd_build (xs := [(0, .tmp 16)]) (cs := (BeamV.cells (BeamV.mk (SpotV.mk 0 (SpanV.mk 1000 1000)) 0))) rfl rfl (built_of tb55 rfl)) rfl rfl) <| rS (CL (lspan_c 4000 4000) (ha_nil) rfl) ?_
 refine rS (SX (sd_build (xs := [(1, .tmp 18)]) (cs := (SpotV.cells (SpotV.mk 0 (SpanV.mk 4000 4000)))) rfl rfl (built_of tb53 rfl)) rfl rfl) <| rS (SX (sd_build (xs := [(0, .tmp 19)]) (cs := (BeamV.cells (BeamV.mk (SpotV.mk 0 (SpanV.mk 4000 4000)) 0))) rfl rfl (built_of tb55 rfl)) rfl rfl) <| rS (CL (lspan_c 9000 9000) (ha_nil) rfl) <| rS (SX (sd_build (xs := [(1, .tmp 21)]) (cs := (SpotV.cells (SpotV.mk 0 (SpanV.mk 9000 9000)))) rfl rfl (built_of tb53 rfl)) rfl rfl) <| rS (SX (sd_build (xs := [(0, .tmp 22)]) (cs := (BeamV.cells (BeamV.mk (SpotV.mk 0 (SpanV.mk 9000 9000)) 0))) rfl rfl (built_of tb55 rfl)) rfl rfl) <| r_bs (xs := [.tmp 17, .tmp 20, .tmp 23]) (cs := ((BeamV.cells (BeamV.mk (SpotV.mk 0 (SpanV.mk 1000 1000)) 0)) ++ (BeamV.cells (BeamV.mk (SpotV.mk 0 (SpanV.mk 4000 4000)) 0)) ++ (BeamV.cells (BeamV.mk (SpotV.mk 0 (SpanV.mk 9000 9000)) 0)))) rfl te26 tz55 rfl rfl rfl rfl (by simp [Value.cells, BeamV.cells_length]) rfl rfl fun b7 => rS (SX (sd_build (xs := [(0, .tmp 6), (1, .const (Value.int .i64 2000)), (4, .const (Value.int .i64 1)), (5, .tmp 7), (6, .const (Value.int .i64 1)), (2, .tmp 14), (3, .tmp 24)]) (cs := (LineV.cells (LineV.mk (TrackV.mk (Slc.mk (some ⟨b4, 0, none⟩) 1 1)) 2000 (Slc.mk (some ⟨b6, 0, none⟩) 1 1) (Slc.mk (some ⟨b7, 0, none⟩) 3 3) 1 1 1))) rfl rfl (built_of tb28 rfl)) rfl rfl) <| r_blk_own (es := (exL1.Track.map StretchV.cells)) (C' := [_, _, _, (own (some ⟨b4, 0, none⟩) 1 126 9 (exL1.Track.map StretchV.cells)), _]) 3 rfl (map_len StretchV.cells_length _) rfl (by show _ ≤ maxLen; exact Nat.le_trans (m := 10) (by first | decide | (show (1 : Nat) ≤ 10; decide)) (by decide)) rfl <| r_blk_own (es := (exC.Syncs.map SyncV.cells)) (C' := [_, _, (own (some ⟨b5, 0, none⟩) 2 61 3 (exC.Syncs.map SyncV.cells)), _, _]) 2 rfl (map_len SyncV.cells_length _) rfl (by show _ ≤ maxLen; exact Nat.le_trans (m := 10) (by first | decide | (show (1 : Nat) ≤ 10; decide)) (by decide)) rfl <| r_blk_own (es := (List.zipWith ClockM.cells exL1.Clocks [((some ⟨b5, 0, none⟩), 2)])) (C' := [_, (own (some ⟨b6, 0, none⟩) 1 64 2 (List.zipWith ClockM.cells exL1.Clocks [((some ⟨b5, 0, none⟩), 2)])), _, _, _]) 1 rfl (by intro x hx; change x ∈ [ClockM.cells exC ((some ⟨b5, 0, none⟩), 2)] at hx; rw [List.mem_singleton.1 hx]; rfl) rfl (by show _ ≤ maxLen; exact Nat.le_trans (m := 10) (by first | decide | (show (1 : Nat) ≤ 10; decide)) (by decide)) rfl ?_
 refine r_blk_own (es := (exL1.Beams.map BeamV.cells)) (C' := [(own (some ⟨b7, 0, none⟩) 3 55 4 (exL1.Beams.map BeamV.cells)), _, _, _, _]) 0 rfl (map_len BeamV.cells_length _) rfl (by show _ ≤ maxLen; exact Nat.le_trans (m := 10) (by first | decide | (show (1 : Nat) ≤ 10; decide)) (by decide)) rfl <| r_tie0 <| r_tie (X := []) (X' := nest ClockM.owns exL1.Clocks [((some ⟨b5, 0, none⟩), 2)]) 0 3 rfl rfl rfl <| SW4 rfl ts28 rfl <| RK hK3 <| w_ret ?_
 refine hQ _ _ _ (l_nil (vs := [(Value.agg (LineV.cells (LineV.mk (TrackV.mk (Slc.mk (some ⟨b4, 0, none⟩) 1 1)) 2000 (Slc.mk (some ⟨b6, 0, none⟩) 1 1) (Slc.mk (some ⟨b7, 0, none⟩) 3 3) 1 1 1)).toArray)]) ⟨⟨_, rfl, .inl ⟨_, _, tk28, at_blk (vs := (LineV.cells (LineV.mk (TrackV.mk (Slc.mk (some ⟨b4, 0, none⟩) 1 1)) 2000 (Slc.mk (some ⟨b6, 0, none⟩) 1 1) (Slc.mk (some ⟨b7, 0, none⟩) 3 3) 1 1 1))) 4 rfl rfl, rfl, rfl⟩⟩, trivial⟩ fun w hs => endX ((some ⟨b4, 0, none⟩), 1, (some ⟨b6, 0, none⟩), 1, [((some ⟨b5, 0, none⟩), 2)], (some ⟨b7, 0, none⟩), 3) [3, 2, 0, 1] ?_ ?_ rfl rfl (by simp only [List.all_cons, List.all_nil, bund_owns_wr, Bool.and_true]; rfl) hs)
 · rfl
 · exact ⟨rfl, ex_in _ (by decide)⟩
set_option maxRecDepth 100000 in
set_option maxHeartbeats 400000 in
theorem line0_c  :
    FnX Try.prog 39 [(Value.int .i64 0)] [] (fun (x : (Option Addr) × Nat × (Option Addr) × Nat × (List RA) × (Option Addr) × Nat) => (Value.agg (LineV.cells (LineV.mk (TrackV.mk (Slc.mk x.1 exL0.Track.length x.2.1)) exL0.Fast (Slc.mk x.2.2.1 exL0.Clocks.length x.2.2.2.1) (Slc.mk x.2.2.2.2.2.1 exL0.Beams.length x.2.2.2.2.2.2) exL0.Finish exL0.Fakes exL0.Misses)).toArray)) (fun (x : (Option Addr) × Nat × (Option Addr) × Nat × (List RA) × (Option Addr) × Nat) => x.2.2.2.2.1.length = exL0.Clocks.length ∧ LineIn exL0 x.2.2.2.2.1) (fun (x : (Option Addr) × Nat × (Option Addr) × Nat × (List RA) × (Option Addr) × Nat) => [(own x.1 x.2.1 126 9 (exL0.Track.map StretchV.cells)), (own x.2.2.1 x.2.2.2.1 64 2 (List.zipWith ClockM.cells exL0.Clocks x.2.2.2.2.1)), (bund (nest ClockM.owns exL0.Clocks x.2.2.2.2.1)), (own x.2.2.2.2.2.1 x.2.2.2.2.2.2 55 4 (exL0.Beams.map BeamV.cells))]) := by
 refine fnX_of go39 Try.func39 rfl rfl fun w0 Q hQ hN => ?_
 try dsimp only
 refine WS fun _ hK1 => AL rfl tz28 fun b2 => RK hK1 <| WS fun _ hK3 => rS (CL (lspan_c 10000 10200) (ha_nil) rfl) <| rS (SX (sd_build (xs := [(0, .const (Value.int .i64 1)), (1, .tmp 3)]) (cs := (StretchV.cells (StretchV.mk 1 (SpanV.mk 10000 10200) (SpanV.mk 0 0) (SpanV.mk 0 0) 0 0))) rfl rfl (built_of tb126 rfl)) rfl rfl) <| r_bs (xs := [.tmp 4]) (cs := (StretchV.cells (StretchV.mk 1 (SpanV.mk 10000 10200) (SpanV.mk 0 0) (SpanV.mk 0 0) 0 0))) rfl te22 tz126 rfl rfl rfl rfl (by simp [Value.cells, StretchV.cells_length]) rfl rfl fun b4 => rS (SX (sd_build (xs := [(0, .tmp 5)]) (cs := (TrackV.cells (TrackV.mk (Slc.mk (some ⟨b4, 0, none⟩) 1 1)))) rfl rfl (built_of tb24 rfl)) rfl rfl) <| rS (MV rfl) <| rS (CL (lspan_c 0 2) (ha_nil) rfl) ?_
 refine rS (SX (sd_build (xs := [(0, .const (Value.int .i64 0)), (1, .tmp 8)]) (cs := (SyncV.cells (SyncV.mk 0 (SpanV.mk 0 2)))) rfl rfl (built_of tb61 rfl)) rfl rfl) <| rS (CL (lspan_c 5 6) (ha_nil) rfl) <| rS (SX (sd_build (xs := [(0, .const (Value.int .i64 100000)), (1, .tmp 10)]) (cs := (SyncV.cells (SyncV.mk 100000 (SpanV.mk 5 6)))) rfl rfl (built_of tb61 rfl)) rfl rfl) <| r_bs (xs := [.tmp 9, .tmp 11]) (cs := ((SyncV.cells (SyncV.mk 0 (SpanV.mk 0 2))) ++ (SyncV.cells (SyncV.mk 100000 (SpanV.mk 5 6))))) rfl te62 tz61 rfl rfl rfl rfl (by simp [Value.cells, SyncV.cells_length]) rfl rfl fun b5 => rS (SX (sd_build (xs := [(0, .const (Value.int .i64 100)), (1, .tmp 12)]) (cs := (ClockV.cells (ClockV.mk 100 (Slc.mk (some ⟨b5, 0, none⟩) 2 2)))) rfl rfl (built_of tb64 rfl)) rfl rfl) <| r_bs (xs := [.tmp 13]) (cs := (ClockV.cells (ClockV.mk 100 (Slc.mk (some ⟨b5, 0, none⟩) 2 2)))) rfl te25 tz64 rfl rfl rfl rfl (by simp [Value.cells, ClockV.cells_length]) rfl rfl fun b6 => rS (CL (lspan_c 1000 1000) (ha_nil) rfl) <| rS (SX (sd_build (xs := [(1, .tmp 15)]) (cs := (SpotV.cells (SpotV.mk 0 (SpanV.mk 1000 1000)))) rfl rfl (built_of tb53 rfl)) rfl rfl) <| rS (SX (sd_build (xs := [(0, .tmp 16)]) (cs := (BeamV.cells (BeamV.mk (SpotV.mk 0 (SpanV.mk 1000 1000)) 0))) rfl rfl (built_of tb55 rfl)) rfl rfl) <| rS (CL (lspan_c 4000 4000) (ha_nil) rfl) ?_
 refine rS (SX (sd_build (xs := [(1, .tmp 18)]) (cs := (SpotV.cells (SpotV.mk 0 (SpanV.mk 4000 4000)))) rfl rfl (built_of tb53 rfl)) rfl rfl) <| rS (SX (sd_build (xs := [(0, .tmp 19)]) (cs := (BeamV.cells (BeamV.mk (SpotV.mk 0 (SpanV.mk 4000 4000)) 0))) rfl rfl (built_of tb55 rfl)) rfl rfl) <| rS (CL (lspan_c 9000 9000) (ha_nil) rfl) <| rS (SX (sd_build (xs := [(1, .tmp 21)]) (cs := (SpotV.cells (SpotV.mk 0 (SpanV.mk 9000 9000)))) rfl rfl (built_of tb53 rfl)) rfl rfl) <| rS (SX (sd_build (xs := [(0, .tmp 22)]) (cs := (BeamV.cells (BeamV.mk (SpotV.mk 0 (SpanV.mk 9000 9000)) 0))) rfl rfl (built_of tb55 rfl)) rfl rfl) <| r_bs (xs := [.tmp 17, .tmp 20, .tmp 23]) (cs := ((BeamV.cells (BeamV.mk (SpotV.mk 0 (SpanV.mk 1000 1000)) 0)) ++ (BeamV.cells (BeamV.mk (SpotV.mk 0 (SpanV.mk 4000 4000)) 0)) ++ (BeamV.cells (BeamV.mk (SpotV.mk 0 (SpanV.mk 9000 9000)) 0)))) rfl te26 tz55 rfl rfl rfl rfl (by simp [Value.cells, BeamV.cells_length]) rfl rfl fun b7 => rS (SX (sd_build (xs := [(0, .tmp 6), (1, .const (Value.int .i64 2000)), (4, .const (Value.int .i64 1)), (5, .tmp 7), (6, .const (Value.int .i64 1)), (2, .tmp 14), (3, .tmp 24)]) (cs := (LineV.cells (LineV.mk (TrackV.mk (Slc.mk (some ⟨b4, 0, none⟩) 1 1)) 2000 (Slc.mk (some ⟨b6, 0, none⟩) 1 1) (Slc.mk (some ⟨b7, 0, none⟩) 3 3) 1 0 1))) rfl rfl (built_of tb28 rfl)) rfl rfl) <| r_blk_own (es := (exL0.Track.map StretchV.cells)) (C' := [_, _, _, (own (some ⟨b4, 0, none⟩) 1 126 9 (exL0.Track.map StretchV.cells)), _]) 3 rfl (map_len StretchV.cells_length _) rfl (by show _ ≤ maxLen; exact Nat.le_trans (m := 10) (by first | decide | (show (1 : Nat) ≤ 10; decide)) (by decide)) rfl <| r_blk_own (es := (exC.Syncs.map SyncV.cells)) (C' := [_, _, (own (some ⟨b5, 0, none⟩) 2 61 3 (exC.Syncs.map SyncV.cells)), _, _]) 2 rfl (map_len SyncV.cells_length _) rfl (by show _ ≤ maxLen; exact Nat.le_trans (m := 10) (by first | decide | (show (1 : Nat) ≤ 10; decide)) (by decide)) rfl <| r_blk_own (es := (List.zipWith ClockM.cells exL0.Clocks [((some ⟨b5, 0, none⟩), 2)])) (C' := [_, (own (some ⟨b6, 0, none⟩) 1 64 2 (List.zipWith ClockM.cells exL0.Clocks [((some ⟨b5, 0, none⟩), 2)])), _, _, _]) 1 rfl (by intro x hx; change x ∈ [ClockM.cells exC ((some ⟨b5, 0, none⟩), 2)] at hx; rw [List.mem_singleton.1 hx]; rfl) rfl (by show _ ≤ maxLen; exact Nat.le_trans (m := 10) (by first | decide | (show (1 : Nat) ≤ 10; decide)) (by decide)) rfl ?_
 refine r_blk_own (es := (exL0.Beams.map BeamV.cells)) (C' := [(own (some ⟨b7, 0, none⟩) 3 55 4 (exL0.Beams.map BeamV.cells)), _, _, _, _]) 0 rfl (map_len BeamV.cells_length _) rfl (by show _ ≤ maxLen; exact Nat.le_trans (m := 10) (by first | decide | (show (1 : Nat) ≤ 10; decide)) (by decide)) rfl <| r_tie0 <| r_tie (X := []) (X' := nest ClockM.owns exL0.Clocks [((some ⟨b5, 0, none⟩), 2)]) 0 3 rfl rfl rfl <| SW4 rfl ts28 rfl <| RK hK3 <| w_ret ?_
 refine hQ _ _ _ (l_nil (vs := [(Value.agg (LineV.cells (LineV.mk (TrackV.mk (Slc.mk (some ⟨b4, 0, none⟩) 1 1)) 2000 (Slc.mk (some ⟨b6, 0, none⟩) 1 1) (Slc.mk (some ⟨b7, 0, none⟩) 3 3) 1 0 1)).toArray)]) ⟨⟨_, rfl, .inl ⟨_, _, tk28, at_blk (vs := (LineV.cells (LineV.mk (TrackV.mk (Slc.mk (some ⟨b4, 0, none⟩) 1 1)) 2000 (Slc.mk (some ⟨b6, 0, none⟩) 1 1) (Slc.mk (some ⟨b7, 0, none⟩) 3 3) 1 0 1))) 4 rfl rfl, rfl, rfl⟩⟩, trivial⟩ fun w hs => endX ((some ⟨b4, 0, none⟩), 1, (some ⟨b6, 0, none⟩), 1, [((some ⟨b5, 0, none⟩), 2)], (some ⟨b7, 0, none⟩), 3) [3, 2, 0, 1] ?_ ?_ rfl rfl (by simp only [List.all_cons, List.all_nil, bund_owns_wr, Bool.and_true]; rfl) hs)
 · rfl
 · exact ⟨rfl, ex_in _ (by decide)⟩
set_option maxRecDepth 100000 in
set_option maxHeartbeats 400000 in
theorem exride_c  :
    FnX Try.prog 41 [] [] (fun (x : (Option Addr) × Nat) => (Value.agg (RideV.cells (RideV.mk exR.Start exR.Now (Slc.mk x.1 exR.Signals.length x.2))).toArray)) (fun (x : (Option Addr) × Nat) => True) (fun (x : (Option Addr) × Nat) => [(own x.1 x.2 30 2 (exR.Signals.map SignalV.cells))]) := by
 refine fnX_of go41 Try.func41 rfl rfl fun w0 Q hQ hN => ?_
 try dsimp only
 refine WS fun _ hK1 => AL rfl tz69 fun b2 => RK hK1 <| WS fun _ hK3 => rS (SX (sd_build (xs := [(0, .const (Value.int .i64 0)), (1, .const (Value.int .i64 10600))]) (cs := (SignalV.cells (SignalV.mk 0 10600))) rfl rfl (built_of tb30 rfl)) rfl rfl) <| rS (SX (sd_build (xs := [(0, .const (Value.int .i64 0)), (1, .const (Value.int .i64 11000))]) (cs := (SignalV.cells (SignalV.mk 0 11000))) rfl rfl (built_of tb30 rfl)) rfl rfl) <| rS (SX (sd_build (xs := [(0, .const (Value.int .i64 1)), (1, .const (Value.int .i64 12600))]) (cs := (SignalV.cells (SignalV.mk 1 12600))) rfl rfl (built_of tb30 rfl)) rfl rfl) <| r_bs (xs := [.tmp 1, .tmp 2, .tmp 3]) (cs := ((SignalV.cells (SignalV.mk 0 10600)) ++ (SignalV.cells (SignalV.mk 0 11000)) ++ (SignalV.cells (SignalV.mk 1 12600)))) rfl te67 tz30 rfl rfl rfl rfl (by simp [Value.cells, SignalV.cells_length]) rfl rfl fun b4 => rS (SX (sd_build (xs := [(0, .const (Value.int .i64 10000)), (1, .const (Value.int .i64 20000)), (2, .tmp 4)]) (cs := (RideV.cells (RideV.mk 10000 20000 (Slc.mk (some ⟨b4, 0, none⟩) 3 3)))) rfl rfl (built_of tb69 rfl)) rfl rfl) <| r_blk_own (es := (exR.Signals.map SignalV.cells)) (C' := [(own (some ⟨b4, 0, none⟩) 3 30 2 (exR.Signals.map SignalV.cells)), _]) 0 rfl (map_len SignalV.cells_length _) rfl (by decide) rfl ?_
 refine SW1 rfl ts69 rfl <| RK hK3 <| w_ret ?_
 refine hQ _ _ _ (l_nil (vs := [(Value.agg (RideV.cells (RideV.mk 10000 20000 (Slc.mk (some ⟨b4, 0, none⟩) 3 3))).toArray)]) ⟨⟨_, rfl, .inl ⟨_, _, tk69, at_blk (vs := (RideV.cells (RideV.mk 10000 20000 (Slc.mk (some ⟨b4, 0, none⟩) 3 3)))) 1 rfl rfl, rfl, rfl⟩⟩, trivial⟩ fun w hs => endX ((some ⟨b4, 0, none⟩), 3) [0] ?_ ?_ rfl rfl rfl hs)
 · rfl
 · trivial
end
section
open Go.RowKit
set_option linter.unusedVariables false
set_option maxRecDepth 100000 in
set_option maxHeartbeats 400000 in
theorem exahead_c (x : Int) (lo : Int) (hi : Int) :
    FnV Try.prog 38 [(Value.int .i64 x), (Value.int .i64 lo), (Value.int .i64 hi)] [] (Value.bool (decide (aheadE exL1 0 x = 0 ∧ aheadV exL1 0 x = SpanV.mk lo hi))) := by
 refine fnV_of go38 Try.func38 rfl rfl fun w0 Q hQ hN => ?_
 try dsimp only
 refine WS fun _ hK1 => rS (AG rfl) <| RK hK1 <| WS fun _ hK2 => cX line1_c (ha_nil) rfl fun y3 hy4 => ?_
 obtain ⟨a15, c16, a27, c28, bz9, a310, c311⟩ := y3
 try dsimp only
 obtain ⟨hbz, hlin⟩ := hy4
 refine rS (MV rfl) <| rS (CL (Ahead_c exL1 a15 c16 bz9 a27 c28 a310 c311 0 x (by exact hlin)) (ha_cons (has_own_n (n := exL1.Track.length) 0 rfl (by simp)) <| ha_cons (has_own_n (n := exL1.Clocks.length) 1 rfl (zip_len (by first | exact hbz | assumption))) <| ha_cons (bun_bund 2 rfl owns_rds) <| ha_cons (has_own_n (n := exL1.Beams.length) 3 rfl (by simp)) <| ha_nil) rfl) <| rS (MV rfl) <| rS (EX rfl) <| rS (EX rfl) <| AL rfl tz34 fun b12 => SW0 rfl ts34 rfl <| rS (AG rfl) <| RK hK2 <| w_seq fun _ hK13 => ?_
 refine w_draw mixed 10 (by kernel_rfl) <| dS (MV rfl) <| dS (BI rfl b_eql) <| dS (MV rfl) ?_
 refine d_bool (t := 17) rfl (fun h17 => ?_) (fun h17 => ?_)
 rotate_left 1
 · replace h17 := DF h17
   refine dS (OX rfl) <| dS (OX rfl) <| dS (OX rfl) <| dS (OX rfl) <| dS (OX rfl) <| dS (PK rfl) <| dS (AG rfl) <| d_end <| RK hK13 <| w_ret ?_
   refine Q1 hQ rfl rfl rfl ?_
   first | exact congrArg Value.bool (decide_eq_false fun q => h17 q.1).symm | exact congrArg Value.bool (decide_eq_decide.2 ⟨fun q => ⟨h17, q⟩, fun q => q.2⟩)
 replace h17 := DT h17
 refine dS (LW 0 rfl tk34 rfl rfl) <| dS (MV rfl) <| dS (MV rfl) <| dS (CL (lspan_c lo hi) (ha_nil) rfl) <| dS (BI rfl (eqs34 _ _ (aheadV exL1 0 x) (SpanV.mk lo hi))) <| dS (PK rfl) <| dS (AG rfl) <| d_end <| RK hK13 <| w_ret ?_
 refine Q1 hQ rfl rfl rfl ?_
 first | exact congrArg Value.bool (decide_eq_false fun q => h17 q.1).symm | exact congrArg Value.bool (decide_eq_decide.2 ⟨fun q => ⟨h17, q⟩, fun q => q.2⟩)
set_option maxRecDepth 100000 in
set_option maxHeartbeats 400000 in
theorem expassed_c (x : Int) (lo : Int) (hi : Int) :
    FnV Try.prog 59 [(Value.int .i64 x), (Value.int .i64 lo), (Value.int .i64 hi)] [] (Value.bool (decide (passedE exL1 exR x = 0 ∧ passedV exL1 exR x = SpanV.mk lo hi))) := by
 refine fnV_of go59 Try.func59 rfl rfl fun w0 Q hQ hN => ?_
 try dsimp only
 refine WS fun _ hK1 => rS (AG rfl) <| RK hK1 <| WS fun _ hK2 => cX line1_c (ha_nil) rfl fun y3 hy4 => ?_
 obtain ⟨a15, c16, a27, c28, bz9, a310, c311⟩ := y3
 try dsimp only
 obtain ⟨hbz, hlin⟩ := hy4
 refine cX exride_c (ha_nil) rfl fun y12 hy13 => ?_
 obtain ⟨a14, c15⟩ := y12
 try dsimp only
 refine rS (MV rfl) <| rS (CL (Passed_c exL1 a15 c16 bz9 a27 c28 a310 c311 exR a14 c15 x (by exact hlin) (by decide)) (ha_cons (has_own_n (n := exL1.Track.length) 1 rfl (by simp)) <| ha_cons (has_own_n (n := exL1.Clocks.length) 2 rfl (zip_len (by first | exact hbz | assumption))) <| ha_cons (bun_bund 3 rfl owns_rds) <| ha_cons (has_own_n (n := exL1.Beams.length) 4 rfl (by simp)) <| ha_cons (has_own_n (n := exR.Signals.length) 0 rfl (by simp)) <| ha_nil) rfl) <| rS (MV rfl) <| rS (EX rfl) <| rS (EX rfl) <| AL rfl tz34 fun b16 => SW0 rfl ts34 rfl <| rS (AG rfl) <| RK hK2 <| w_seq fun _ hK17 => ?_
 refine w_draw mixed 10 (by kernel_rfl) <| dS (MV rfl) <| dS (BI rfl b_eql) <| dS (MV rfl) ?_
 refine d_bool (t := 18) rfl (fun h18 => ?_) (fun h18 => ?_)
 rotate_left 1
 · replace h18 := DF h18
   refine dS (OX rfl) <| dS (OX rfl) <| dS (OX rfl) <| dS (OX rfl) <| dS (OX rfl) <| dS (PK rfl) <| dS (AG rfl) <| d_end <| RK hK17 <| w_ret ?_
   refine Q1 hQ rfl rfl rfl ?_
   first | exact congrArg Value.bool (decide_eq_false fun q => h18 q.1).symm | exact congrArg Value.bool (decide_eq_decide.2 ⟨fun q => ⟨h18, q⟩, fun q => q.2⟩)
 replace h18 := DT h18
 refine dS (LW 0 rfl tk34 rfl rfl) <| dS (MV rfl) <| dS (MV rfl) <| dS (CL (lspan_c lo hi) (ha_nil) rfl) <| dS (BI rfl (eqs34 _ _ (passedV exL1 exR x) (SpanV.mk lo hi))) <| dS (PK rfl) <| dS (AG rfl) <| d_end <| RK hK17 <| w_ret ?_
 refine Q1 hQ rfl rfl rfl ?_
 first | exact congrArg Value.bool (decide_eq_false fun q => h18 q.1).symm | exact congrArg Value.bool (decide_eq_decide.2 ⟨fun q => ⟨h18, q⟩, fun q => q.2⟩)
set_option maxRecDepth 100000 in
set_option maxHeartbeats 400000 in
theorem alive_c  :
    FnV Try.prog 22 [] [] (Value.bool true) := by
 have hxl : exR.Signals.length = 3 := rfl
 refine fnV_of go22 Try.func22 rfl rfl fun w0 Q hQ hN => ?_
 try dsimp only
 refine WS fun _ hK1 => rS (AG rfl) <| RK hK1 <| WS fun _ hK2 => cX line1_c (ha_nil) rfl fun y3 hy4 => ?_
 obtain ⟨a15, c16, a27, c28, bz9, a310, c311⟩ := y3
 try dsimp only
 obtain ⟨hbz, hlin⟩ := hy4
 refine cX exride_c (ha_nil) rfl fun y12 hy13 => ?_
 obtain ⟨a14, c15⟩ := y12
 try dsimp only
 refine rS (SX (sd_field1 (v := (Value.slice a14 exR.Signals.length c15)) rfl rfl fo69_2 tf69_2 rfl) rfl rfl) ?_
 obtain ⟨x, hx⟩ : ∃ y_, exR.Signals[0]? = some y_ := ⟨exR.Signals[0]'(by omega), List.getElem?_eq_getElem _⟩
 have hxm : (exR.Signals.map SignalV.cells)[0]? = some (SignalV.cells x) := by rw [List.getElem?_map, hx]; rfl
 refine rS (IA 0 rfl (has_own_n (n := exR.Signals.length) 0 rfl (by simp)) te67 (by decide) rfl (by omega)) <| rS (LEN 0 0 (SignalV.cells x) rfl tk30 (has_own_n (n := exR.Signals.length) 0 rfl (by simp)) hxm rfl (by decide) rfl rfl) <| rS (CL (When_c exL1 a15 c16 bz9 a27 c28 a310 c311 x (by exact hlin)) (ha_cons (has_own_n (n := exL1.Track.length) 1 rfl (by simp)) <| ha_cons (has_own_n (n := exL1.Clocks.length) 2 rfl (zip_len (by first | exact hbz | assumption))) <| ha_cons (bun_bund 3 rfl owns_rds) <| ha_cons (has_own_n (n := exL1.Beams.length) 4 rfl (by simp)) <| ha_nil) rfl) <| rS (MV rfl) <| rS (EX rfl) <| rS (EX rfl) <| AL rfl tz34 fun b16 => SW0 rfl ts34 rfl <| rS (AG rfl) <| RK hK2 ?_
 refine WS fun _ hK17 => cX line1_c (ha_nil) rfl fun y18 hy19 => ?_
 obtain ⟨a120, c121, a222, c223, bz24, a325, c326⟩ := y18
 try dsimp only
 obtain ⟨hbz, hlin⟩ := hy19
 refine cX exride_c (ha_nil) rfl fun y27 hy28 => ?_
 obtain ⟨a29, c30⟩ := y27
 try dsimp only
 refine cX (Where_c exL1 a120 c121 bz24 a222 c223 a325 c326 exR a29 c30 (by exact hlin) (by decide)) (ha_cons (has_own_n (n := exL1.Track.length) 1 rfl (by simp)) <| ha_cons (has_own_n (n := exL1.Clocks.length) 2 rfl (zip_len (by first | exact hbz | assumption))) <| ha_cons (bun_bund 3 rfl owns_rds) <| ha_cons (has_own_n (n := exL1.Beams.length) 4 rfl (by simp)) <| ha_cons (has_own_n (n := exR.Signals.length) 0 rfl (by simp)) <| ha_nil) rfl fun y31 hy32 => ?_
 obtain ⟨a33, c34⟩ := y31
 try dsimp only
 refine rS (MV rfl) <| rS (EX rfl) <| rS (EX rfl) <| rS (AG rfl) <| rS (AG rfl) <| RK hK17 <| WS fun _ hK35 => cX line1_c (ha_nil) rfl fun y36 hy37 => ?_
 obtain ⟨a138, c139, a240, c241, bz42, a343, c344⟩ := y36
 try dsimp only
 obtain ⟨hbz, hlin⟩ := hy37
 refine cX exride_c (ha_nil) rfl fun y45 hy46 => ?_
 obtain ⟨a47, c48⟩ := y45
 try dsimp only
 refine rS (CL (Clear_c exL1 a138 c139 bz42 a240 c241 a343 c344 exR a47 c48 (by exact hlin) (by decide)) (ha_cons (has_own_n (n := exL1.Track.length) 1 rfl (by simp)) <| ha_cons (has_own_n (n := exL1.Clocks.length) 2 rfl (zip_len (by first | exact hbz | assumption))) <| ha_cons (bun_bund 3 rfl owns_rds) <| ha_cons (has_own_n (n := exL1.Beams.length) 4 rfl (by simp)) <| ha_cons (has_own_n (n := exR.Signals.length) 0 rfl (by simp)) <| ha_nil) rfl) <| rS (MV rfl) <| rS (EX rfl) <| rS (EX rfl) <| rS (AG rfl) <| rS (AG rfl) <| RK hK35 <| WS fun _ hK49 => cX line1_c (ha_nil) rfl fun y50 hy51 => ?_
 obtain ⟨a152, c153, a254, c255, bz56, a357, c358⟩ := y50
 try dsimp only
 obtain ⟨hbz, hlin⟩ := hy51
 refine cX exride_c (ha_nil) rfl fun y59 hy60 => ?_
 obtain ⟨a61, c62⟩ := y59
 try dsimp only
 refine rS (CL (Ran_c exL1 a152 c153 bz56 a254 c255 a357 c358 exR a61 c62 (by exact hlin) (by decide)) (ha_cons (has_own_n (n := exL1.Track.length) 1 rfl (by simp)) <| ha_cons (has_own_n (n := exL1.Clocks.length) 2 rfl (zip_len (by first | exact hbz | assumption))) <| ha_cons (bun_bund 3 rfl owns_rds) <| ha_cons (has_own_n (n := exL1.Beams.length) 4 rfl (by simp)) <| ha_cons (has_own_n (n := exR.Signals.length) 0 rfl (by simp)) <| ha_nil) rfl) <| rS (MV rfl) <| rS (EX rfl) <| rS (EX rfl) <| AL rfl tz34 fun b63 => SW0 rfl ts34 rfl <| rS (AG rfl) <| RK hK49 <| WS fun _ hK64 => cX line0_c (ha_nil) rfl fun y65 hy66 => ?_
 obtain ⟨a167, c168, a269, c270, bz71, a372, c373⟩ := y65
 try dsimp only
 obtain ⟨hbz, hlin⟩ := hy66
 refine cX exride_c (ha_nil) rfl fun y74 hy75 => ?_
 obtain ⟨a76, c77⟩ := y74
 try dsimp only
 refine cX (Where_c exL0 a167 c168 bz71 a269 c270 a372 c373 exR a76 c77 (by exact hlin) (by decide)) (ha_cons (has_own_n (n := exL0.Track.length) 1 rfl (by simp)) <| ha_cons (has_own_n (n := exL0.Clocks.length) 2 rfl (zip_len (by first | exact hbz | assumption))) <| ha_cons (bun_bund 3 rfl owns_rds) <| ha_cons (has_own_n (n := exL0.Beams.length) 4 rfl (by simp)) <| ha_cons (has_own_n (n := exR.Signals.length) 0 rfl (by simp)) <| ha_nil) rfl fun y78 hy79 => ?_
 obtain ⟨a80, c81⟩ := y78
 try dsimp only
 refine rS (MV rfl) <| rS (EX rfl) <| rS (EX rfl) <| rS (AG rfl) <| rS (AG rfl) <| RK hK64 <| w_seq fun _ hK82 => w_drawN mixed [0, 1, 2, 3, 4, 5, 6, 7, 8, 9, 10, 11, 12, 13, 14, 15] [16, 17, 18, 19, 20, 21, 22, 23, 24, 25, 26, 27, 28, 29, 30, 31, 32, 33, 34, 35, 36, 37, 38, 39, 40, 41, 42, 43, 44, 45, 46] [false, false, false, false, false, false, false, false, false, false, false, false, false, false, false, false] [] [(own a80 c81 3 1 ((whereV exL0 exR).map iC)), (own a76 c77 30 2 (exR.Signals.map SignalV.cells)), (own a167 c168 126 9 (exL0.Track.map StretchV.cells)), (own a269 c270 64 2 (List.zipWith ClockM.cells exL0.Clocks bz71)), (bund (nest ClockM.owns exL0.Clocks bz71)), (own a372 c373 55 4 (exL0.Beams.map BeamV.cells)), (blk b63 34 (SpanV.cells (ranV exL1 exR))), (own a61 c62 30 2 (exR.Signals.map SignalV.cells)), (own a152 c153 126 9 (exL1.Track.map StretchV.cells)), (own a254 c255 64 2 (List.zipWith ClockM.cells exL1.Clocks bz56)), (bund (nest ClockM.owns exL1.Clocks bz56)), (own a357 c358 55 4 (exL1.Beams.map BeamV.cells)), (own a47 c48 30 2 (exR.Signals.map SignalV.cells)), (own a138 c139 126 9 (exL1.Track.map StretchV.cells)), (own a240 c241 64 2 (List.zipWith ClockM.cells exL1.Clocks bz42)), (bund (nest ClockM.owns exL1.Clocks bz42)), (own a343 c344 55 4 (exL1.Beams.map BeamV.cells)), (own a33 c34 3 1 ((whereV exL1 exR).map iC)), (own a29 c30 30 2 (exR.Signals.map SignalV.cells)), (own a120 c121 126 9 (exL1.Track.map StretchV.cells)), (own a222 c223 64 2 (List.zipWith ClockM.cells exL1.Clocks bz24)), (bund (nest ClockM.owns exL1.Clocks bz24)), (own a325 c326 55 4 (exL1.Beams.map BeamV.cells)), (blk b16 34 (SpanV.cells (whenV exL1 x))), (own a14 c15 30 2 (exR.Signals.map SignalV.cells)), (own a15 c16 126 9 (exL1.Track.map StretchV.cells)), (own a27 c28 64 2 (List.zipWith ClockM.cells exL1.Clocks bz9)), (bund (nest ClockM.owns exL1.Clocks bz9)), (own a310 c311 55 4 (exL1.Beams.map BeamV.cells))] [] (by kernel_rfl) (fun w hs => St.sel [0, 1, 2, 3, 4, 5, 6, 7, 8, 9, 10, 11, 12, 13, 14, 15, 16, 17, 18, 19, 20, 21, 22, 23, 24, 25, 26, 27, 28] rfl rfl hs) (fun w hs => St.sel [] rfl rfl hs) <| eS rfl (CL (exahead_c 10000 (-1) 3) (ha_nil) rfl) <| eS rfl (MV rfl) ?_
 refine d_boolN (t := 45) rfl (fun h45 => ?_) (fun h45 => ?_)
 rotate_left 1
 · replace h45 := DF h45
   exact absurd (ex_ahead) h45
 replace h45 := DT h45
 refine eS rfl (MV rfl) <| eS rfl (BI rfl b_eql) <| eS rfl (PK rfl) <| eS rfl (MV rfl) ?_
 refine d_boolN (t := 49) rfl (fun h49 => ?_) (fun h49 => ?_)
 rotate_left 1
 · replace h49 := DF h49
   exact absurd (by rw [ex_sig hx]; exact ex_when.1) h49
 replace h49 := DT h49
 refine eS rfl (LW 23 rfl tk34 rfl rfl) <| eS rfl (CL (lspan_c 10596 10602) (ha_nil) rfl) <| eS rfl (BI rfl (eqs34 _ _ (whenV exL1 x) (SpanV.mk 10596 10602))) <| eS rfl (PK rfl) <| eS rfl (MV rfl) ?_
 refine d_boolN (t := 54) rfl (fun h54 => ?_) (fun h54 => ?_)
 rotate_left 1
 · replace h54 := DF h54
   exact absurd (by rw [ex_sig hx]; exact ex_when.2) h54
 replace h54 := DT h54
 refine eS rfl (MV rfl) <| eS rfl (BI rfl b_eql) <| eS rfl (PK rfl) <| eS rfl (MV rfl) ?_
 refine d_boolN (t := 58) rfl (fun h58 => ?_) (fun h58 => ?_)
 rotate_left 1
 · replace h58 := DF h58
   exact absurd (ex_open1) h58
 replace h58 := DT h58
 refine eS rfl (MV rfl) <| d_fin rfl ?_
 refine n_step [16] (by kernel_rfl) (n_cons ?_ <| n_nil)
 refine n_op (rem' := [17, 18, 19, 20, 21, 22, 23, 24, 25, 26, 27, 28, 29, 30, 31, 32, 33, 34, 35, 36, 37, 38, 39, 40, 41, 42, 43, 44, 45, 46]) rfl (by kernel_rfl) rfl fun T83 hT83 => r_bs (xs := [.const (Value.int .i64 2), .const (Value.int .i64 3)]) (cs := [(Value.int .i64 2), (Value.int .i64 3)]) rfl te57 tz3 rfl rfl rfl rfl (by simp [Value.cells]) rfl rfl fun b84 => ?_
 refine r_nil (hT83 _ _ (fun w hs => St.sel [1, 2, 3, 4, 5, 6, 7, 8, 9, 10, 11, 12, 13, 14, 15, 16, 17, 18, 19, 20, 21, 22, 23, 24, 25, 26, 27, 28, 29] rfl rfl hs) ?_)
 refine n_pure [61, 62, 63, 64, 65, 66, 67, 68, 69, 70, 71, 72, 73, 74, 75, 76, 77, 78, 79, 80, 81, 82, 83, 84, 85, 86, 87, 88, 89, 0] (by kernel_rfl) (by kernel_rfl) rfl _ rfl rfl (fun w hs => St.sel [1, 2, 3, 4, 5, 6, 7, 8, 9, 10, 11, 12, 13, 14, 15, 16, 17, 18, 19, 20, 21, 22, 23, 24, 25, 26, 27, 28, 29] rfl rfl hs) <| dS (CL (sameints_c (whereV exL1 exR) a33 c34 ([2, 3]) (some ⟨b84, 0, none⟩) 2 (by rw [ex_where]; decide) (by decide)) (ha_cons (has_own_n (n := (whereV exL1 exR).length) 18 rfl (by simp)) <| ha_cons (has_rd_blk 0 rfl rfl (by simp [iC_length]) rfl) <| ha_nil) rfl) <| dS (PK rfl) <| dS (MV rfl) ?_
 refine d_bool (t := 63) rfl (fun h63 => ?_) (fun h63 => ?_)
 rotate_left 1
 · replace h63 := DF h63
   exact absurd (ex_where) h63
 replace h63 := DT h63
 refine dS (MV rfl) <| dS (BI rfl b_eql) <| dS (PK rfl) <| dS (MV rfl) ?_
 refine d_bool (t := 67) rfl (fun h67 => ?_) (fun h67 => ?_)
 rotate_left 1
 · replace h67 := DF h67
   exact absurd (ex_open1) h67
 replace h67 := DT h67
 refine dS (MV rfl) <| dS (BI rfl b_eql) <| dS (PK rfl) <| dS (MV rfl) ?_
 refine d_bool (t := 71) rfl (fun h71 => ?_) (fun h71 => ?_)
 rotate_left 1
 · replace h71 := DF h71
   exact absurd (ex_clear) h71
 replace h71 := DT h71
 refine dS (CL (expassed_c 0 10596 11002) (ha_nil) rfl) <| dS (PK rfl) <| dS (MV rfl) ?_
 refine d_bool (t := 74) rfl (fun h74 => ?_) (fun h74 => ?_)
 rotate_left 1
 · replace h74 := DF h74
   exact absurd (ex_pass0) h74
 replace h74 := DT h74
 refine dS (CL (expassed_c 1 12596 12602) (ha_nil) rfl) <| dS (PK rfl) <| dS (MV rfl) ?_
 refine d_bool (t := 77) rfl (fun h77 => ?_) (fun h77 => ?_)
 rotate_left 1
 · replace h77 := DF h77
   exact absurd (ex_pass1) h77
 replace h77 := DT h77
 refine dS (MV rfl) <| dS (BI rfl b_eql) <| dS (PK rfl) <| dS (MV rfl) ?_
 refine d_bool (t := 81) rfl (fun h81 => ?_) (fun h81 => ?_)
 rotate_left 1
 · replace h81 := DF h81
   exact absurd (ex_ran.1) h81
 replace h81 := DT h81
 refine dS (LW 7 rfl tk34 rfl rfl) <| dS (CL (lspan_c 2596 2602) (ha_nil) rfl) <| dS (BI rfl (eqs34 _ _ (ranV exL1 exR) (SpanV.mk 2596 2602))) <| dS (PK rfl) <| dS (MV rfl) ?_
 refine d_bool (t := 86) rfl (fun h86 => ?_) (fun h86 => ?_)
 rotate_left 1
 · replace h86 := DF h86
   exact absurd (ex_ran.2) h86
 replace h86 := DT h86
 refine dS (MV rfl) <| dS (BI rfl b_eql) <| dS (PK rfl) <| dS (AG rfl) <| d_end <| RK hK82 <| w_ret <| Q1 hQ rfl rfl rfl ?_
 exact congrArg Value.bool (decide_eq_true ex_open0)
end
section
open Go.RowKit
set_option linter.unusedVariables false
set_option maxRecDepth 100000 in
set_option maxHeartbeats 400000 in
theorem within_5 (n : Int) (lo : Int) (hi : Int) :
    FnV Try.prog 47 [(Value.int .i64 n), (Value.int .i64 lo), (Value.int .i64 hi)] [] (Value.bool (decide (lo ≤ n ∧ n ≤ hi))) := by
 refine fnV_of go47 Try.func47 rfl rfl fun w0 Q hQ hN => ?_
 try dsimp only
 refine WS fun _ hK1 => rS (AG rfl) <| RK hK1 <| WS fun _ hK2 => rS (MV rfl) <| rS (MV rfl) <| rS (BI rfl b_geq) <| rS (MV rfl) ?_
 refine r_bool (t := 10) rfl (fun h3 => ?_) (fun h3 => ?_)
 rotate_left 1
 · replace h3 := DF h3
   refine rS (OX rfl) <| rS (OX rfl) <| rS (OX rfl) <| rS (PK rfl) <| rS (AG rfl) <| RK hK2 <| w_ret <| Q1 hQ rfl rfl rfl ?_
   exact congrArg Value.bool (decide_eq_false (by omega)).symm
 replace h3 := DT h3
 refine rS (MV rfl) <| rS (MV rfl) <| rS (BI rfl b_leq) <| rS (PK rfl) <| rS (AG rfl) <| RK hK2 <| w_ret <| Q1 hQ rfl rfl rfl ?_
 exact congrArg Value.bool (decide_eq_decide.2 (by omega))
set_option maxRecDepth 100000 in
set_option maxHeartbeats 400000 in
theorem rmarks_c (ts : List StretchV) (tsA : Option Addr) (tsC : Nat) (hst : ∀ x ∈ ts, StretchOk x) (hlen : ts.length ≤ 12) :
    FnX Try.prog 124 [(Value.agg (TrackV.cells (TrackV.mk (Slc.mk tsA ts.length tsC))).toArray)] [(rd tsA ts.length 9 (ts.map StretchV.cells))] (fun (x : (Option Addr) × Nat) => (Value.slice x.1 ((marksS ts (ts.length + 1)).length) x.2)) (fun (x : (Option Addr) × Nat) => True) (fun (x : (Option Addr) × Nat) => [(own x.1 x.2 34 2 ((marksS ts (ts.length + 1)).map SpanV.cells))]) := by
 refine fnX_of go124 Try.func124 rfl rfl fun w0 Q hQ hN => ?_
 try dsimp only
 refine WS fun _ hK1 => BXA rfl fun b2 => rS (AG rfl) <| RK hK1 <| WS fun _ hK3 => rS (AG rfl) <| RK hK3 <| w_seq fun _ hK4 => WS fun _ hK5 => rS (AG rfl) ?_
 refine RK hK5 <| w_block <| w_own_nil 34 2 ?_
 have hinit : (0 ≤ ts.length + 1) := by exact Nat.zero_le _
 refine w_loop (ι := { z : Nat × (Option Addr) × Nat // (z.1 ≤ ts.length + 1) }) (fun z => [(1, (Value.pointer (some ⟨b2, 0, none⟩))), (3, (Value.slice z.1.2.1 ((marksS ts z.1.1).length) z.1.2.2)), (4, (Value.int .i64 ((z.1.1 : Nat) : Int)))]) (fun z => [(own z.1.2.1 z.1.2.2 34 2 ((marksS ts z.1.1).map SpanV.cells)), (blk b2 24 (TrackV.cells (TrackV.mk (Slc.mk tsA ts.length tsC)))), (rd tsA ts.length 9 (ts.map StretchV.cells)).ro]) (fun z => ts.length + 1 - z.1.1) ⟨(0, none, 0), hinit⟩ (Sub.cons rfl <| Sub.cons rfl <| Sub.cons rfl <| Sub.nil _) (fun w hs => St.sel [0, 1, 2] rfl rfl hs) ?_
 clear hinit
 rintro ⟨⟨i, a, c⟩, hl0_0⟩ J6 hJ6
 try dsimp only at hl0_0
 try dsimp only
 refine w_seq fun _ hK7 => WS fun _ hK8 => rS (MV rfl) <| rS (FA 0 rfl fo24_0 rfl) <| rS (L1 (Value.slice tsA ts.length tsC) 1 rfl tk22 rfl rfl) <| rS (LN rfl ut22) <| rS (BI rfl b_leq) <| RK hK8 ?_
 refine w_if rfl (fun h9 => ?_) (fun h9 => ?_)
 rotate_left 1
 · replace h9 := DF h9
   refine w_exit <| k_exit_then <| k_exit_then <| k_exit_same <| KK hK4 <| WS fun _ hK18 => ?_
   obtain rfl : i = ts.length + 1 := by omega
   refine rS (MV rfl) <| rS (AG rfl) <| RK hK18 <| w_ret ?_
   refine hQ _ _ _ (l_nil (vs := [(Value.slice a ((marksS ts (ts.length + 1)).length) c)]) ⟨rfl, trivial⟩ fun w hs => endX (a, c) [0] ?_ ?_ rfl rfl rfl hs)
   · rfl
   · trivial
 replace h9 := DT h9
 refine WK hK7 <| w_seq fun _ hK10 => w_block <| WS fun _ hK11 => rS (LW 1 rfl tk24 rfl rfl) <| rS (MV rfl) <| rS (CL (rdrop_c ts tsA tsC 0 ((i : Nat) : Int) hst hlen (by omega)) (ha_at 2 rfl rfl <| ha_nil) rfl) <| rS (MV rfl) <| rS (EX rfl) <| rS (EX rfl) ?_
 refine AL rfl tz34 fun b12 => AL rfl tz34 fun b13 => SW1 rfl ts34 rfl <| SW0 rfl ts34 rfl <| RK hK11 <| w_region <| rS (MV rfl) <| rS (LW 1 rfl tk34 rfl rfl) <| r_bs (xs := [.tmp 21]) (cs := (SpanV.cells (longF ts (0 : Int).toNat (((i : Nat) : Int) - 0).toNat))) rfl te81 tz34 rfl rfl rfl rfl (by simp [Value.cells, SpanV.cells_length]) rfl rfl fun b14 => r_append (es2 := (List.map SpanV.cells (marksS ts (i + 1)))) (m' := (marksS ts (i + 1)).length) 3 rfl rfl rfl ta81 rfl rfl (by simp) (has_rd_blk (es := List.map SpanV.cells [(longF ts (0 : Int).toNat (((i : Nat) : Int) - 0).toNat)]) 0 rfl rfl (by simp [SpanV.cells_length]) rfl) (one_SpanV_cells _) (by simp only [marksS_length]; omega) (by simp only [maxLen, marksS_length]; omega) (by rw [marksS_succ]; simp) (by simp) rfl fun a15 c16 => ?_
 try dsimp only
 refine rS (AG rfl) <| r_nil <| k_block <| KK hK10 <| w_region <| rS (MV rfl) <| rS (BI rfl (b_add ⟨by omega, by omega⟩)) <| rS (AG rfl) <| r_nil ?_
 have hb17 : (Value.int .i64 (((i + 1) : Nat) : Int)) = (Value.int .i64 (((i : Nat) : Int) + 1)) := by exact congrArg (Value.int .i64) (by omega)
 refine k_then (hJ6 ⟨((i + 1), a15, c16), (by first | omega | (simp only []; omega))⟩ _ _ _ rfl (by first | omega | (simp; omega)) (Sub.cons rfl <| Sub.cons rfl <| sub_val rfl hb17 <| Sub.nil _) (fun w hs => St.sel [3, 4, 5] rfl rfl hs))
set_option maxRecDepth 100000 in
set_option maxHeartbeats 400000 in
theorem rat_c (ts : List StretchV) (tsA : Option Addr) (tsC : Nat) (s : SpotV) (hlen : ts.length ≤ 1000000) (hside : ∀ x ∈ ts, 0 ≤ x.Side ∧ x.Side ≤ 255) :
    FnV Try.prog 106 [(Value.agg (TrackV.cells (TrackV.mk (Slc.mk tsA ts.length tsC))).toArray), (Value.agg (SpotV.cells s).toArray)] [(rd tsA ts.length 9 (ts.map StretchV.cells))] (Value.tuple [(Value.agg (SpanV.cells (atV ts s)).toArray), (Value.int .i64 (atE ts s))].toArray) := by
 refine fnV_of go106 Try.func106 rfl rfl fun w0 Q hQ hN => ?_
 try dsimp only
 refine WS fun _ hK1 => BXA rfl fun b2 => BXA rfl fun b3 => AL rfl tz34 fun b4 => rS (AG rfl) <| RK hK1 <| w_seq fun _ hK5 => WS fun _ hK6 => rS (LW 2 rfl tk24 rfl rfl) <| rS (CL (track_c ts tsA tsC hlen) (ha_at 3 rfl rfl <| ha_nil) rfl) ?_
 refine rS (NT rfl) <| RK hK6 ?_
 refine w_if rfl (fun h9 => ?_) (fun h9 => ?_)
 · rw [Bool.not_eq_true'] at h9
   refine WS fun _ hK7 => rS (SX (sd_build (xs := []) (cs := (SpanV.cells (SpanV.mk 0 0))) rfl rfl (built_of tb34 rfl)) rfl rfl) <| SW0 rfl ts34 rfl <| rS (AG rfl) <| RK hK7 <| w_ret ?_
   refine hQ _ _ _ (l_nil (vs := [(Value.agg (SpanV.cells (SpanV.mk 0 0)).toArray), (Value.int .i64 10)]) ⟨⟨_, rfl, .inl ⟨_, _, tk34, at_blk (vs := (SpanV.cells (SpanV.mk 0 0))) 0 rfl rfl, rfl, rfl⟩⟩, rfl, trivial⟩ fun w hs => endV ?_ hs)
   show (Value.tuple [(Value.agg (SpanV.cells (SpanV.mk 0 0)).toArray), (Value.int .i64 10)].toArray) = (Value.tuple [(Value.agg (SpanV.cells (atV ts s)).toArray), (Value.int .i64 (atE ts s))].toArray)
   clear hs w hQ hN hK7 hK6 hK5 hK1
   first | (have e := at_bad (s := s) (by simpa using h9); rw [e.1, e.2] <;> rfl) | (have e := at_out h9 h14; rw [e.1, e.2] <;> rfl) | (have e := at_in h9 h14; subst hzm; rw [e.1, e.2] <;> rfl)
 rw [Bool.not_eq_false'] at h9
 refine WK hK5 <| w_seq fun _ hK8 => WS fun _ hK9 => ?_
 have hst := trackOk_all h9
 have hl12 := trackOk_le h9
 refine rS (LW 2 rfl tk24 rfl rfl) <| rS (LW 1 rfl tk53 rfl rfl) <| rS (CL (rspot_c ts tsA tsC s (by first | assumption | omega | (simp; done) | (simp; omega)) (by first | assumption | omega | (simp; done) | (simp; omega))) (ha_at 3 rfl rfl <| ha_nil) rfl) <| rS (NT rfl) <| RK hK9 ?_
 refine w_if rfl (fun h14 => ?_) (fun h14 => ?_)
 · replace h14 := XT h14
   refine WS fun _ hK10 => rS (SX (sd_build (xs := []) (cs := (SpanV.cells (SpanV.mk 0 0))) rfl rfl (built_of tb34 rfl)) rfl rfl) <| SW0 rfl ts34 rfl <| rS (AG rfl) <| RK hK10 <| w_ret ?_
   refine hQ _ _ _ (l_nil (vs := [(Value.agg (SpanV.cells (SpanV.mk 0 0)).toArray), (Value.int .i64 12)]) ⟨⟨_, rfl, .inl ⟨_, _, tk34, at_blk (vs := (SpanV.cells (SpanV.mk 0 0))) 0 rfl rfl, rfl, rfl⟩⟩, rfl, trivial⟩ fun w hs => endV ?_ hs)
   show (Value.tuple [(Value.agg (SpanV.cells (SpanV.mk 0 0)).toArray), (Value.int .i64 12)].toArray) = (Value.tuple [(Value.agg (SpanV.cells (atV ts s)).toArray), (Value.int .i64 (atE ts s))].toArray)
   clear hs w hQ hN hK10 hK9 hK8 hK6 hK5 hK1
   first | (have e := at_bad (s := s) (by simpa using h9); rw [e.1, e.2] <;> rfl) | (have e := at_out h9 h14; rw [e.1, e.2] <;> rfl) | (have e := at_in h9 h14; subst hzm; rw [e.1, e.2] <;> rfl)
 replace h14 := XF h14
 refine WK hK8 <| w_seq fun _ hK11 => w_drawN mixed [0, 2, 3] [1, 4, 5, 6, 7] [false, false, false] [] [(blk b4 34 (SpanV.cells (SpanV.mk 0 0))), (blk b3 53 (SpotV.cells s)), (blk b2 24 (TrackV.cells (TrackV.mk (Slc.mk tsA ts.length tsC)))), (rd tsA ts.length 9 (ts.map StretchV.cells)).ro] [] (by kernel_rfl) (fun w hs => St.sel [0, 1, 2, 3] rfl rfl hs) (fun w hs => St.sel [] rfl rfl hs) ?_
 have hsb := h14.1
 have hof := off_in hst h14
 have hml : (marksS ts (ts.length + 1)).length = ts.length + 1 := marksS_length
 refine eS rfl (LW 2 rfl tk24 rfl rfl) <| eS rfl (FA 0 rfl fo53_0 rfl) <| eS rfl (L1 (Value.int .i64 s.Stretch) 1 rfl tk3 rfl rfl) <| d_fin rfl ?_
 refine n_step [1, 6] (by kernel_rfl) (n_cons ?_ <| n_cons ?_ <| n_nil)
 rotate_left 1
 · refine n_op (rem' := [1, 4, 5, 7]) rfl (by kernel_rfl) rfl fun T34 hT34 => ?_
   refine AL rfl tz34 fun b35 => ?_
   refine r_nil (hT34 _ _ (fun w hs => St.sel [1, 2, 3, 4] rfl rfl hs) ?_)
   refine n_step [1] (by kernel_rfl) (n_cons ?_ <| n_nil)
   refine n_op (rem' := [4, 5, 7]) rfl (by kernel_rfl) rfl fun T36 hT36 => cX (rmarks_c ts tsA tsC (by first | assumption | omega | (simp; done) | (simp; omega)) (by first | assumption | omega | (simp; done) | (simp; omega))) (ha_at 4 rfl rfl <| ha_nil) rfl fun y37 hy38 => ?_
   obtain ⟨a39, c40⟩ := y37
   try dsimp only
   refine r_nil (hT36 _ _ (fun w hs => St.sel [2, 3, 4, 5] rfl rfl hs) ?_)
   refine n_step [4] (by kernel_rfl) (n_cons ?_ <| n_nil)
   refine n_op (rem' := [5, 7]) rfl (by kernel_rfl) rfl fun T41 hT41 => ?_
   obtain ⟨z, hz⟩ : ∃ y_, (marksS ts (ts.length + 1))[(s.Stretch).toNat]? = some y_ := ⟨(marksS ts (ts.length + 1))[(s.Stretch).toNat]'(by omega), List.getElem?_eq_getElem _⟩
   have hzm : ((marksS ts (ts.length + 1)).map SpanV.cells)[(s.Stretch).toNat]? = some (SpanV.cells z) := by rw [List.getElem?_map, hz]; rfl
   refine rS (IA ((s.Stretch).toNat) rfl (has_own_n (n := (marksS ts (ts.length + 1)).length) 0 rfl (by simp)) te81 (by decide) (by omega) (by omega)) ?_
   refine r_nil (hT41 _ _ (fun w hs => St.sel [2, 3, 4, 5] rfl rfl hs) ?_)
   refine n_step [5] (by kernel_rfl) (n_cons ?_ <| n_nil)
   refine n_op (rem' := [7]) rfl (by kernel_rfl) rfl fun T42 hT42 => rS (LEN ((s.Stretch).toNat) 0 (SpanV.cells z) rfl tk34 (has_own_n (n := (marksS ts (ts.length + 1)).length) 0 rfl (by simp)) hzm rfl (by decide) rfl rfl) ?_
   refine r_nil (hT42 _ _ (fun w hs => St.sel [2, 3, 4, 5] rfl rfl hs) ?_)
   refine n_step [7] (by kernel_rfl) (n_cons ?_ <| n_nil)
   refine n_op (rem' := []) rfl (by kernel_rfl) rfl fun T43 hT43 => SW1 rfl ts34 rfl ?_
   refine r_nil (hT43 _ _ (fun w hs => St.sel [2, 3, 4, 5] rfl rfl hs) ?_)
   refine n_fin <| KK hK11 <| WS fun _ hK44 => rS (FA 0 rfl fo34_0 rfl) ?_
   have hzm := marksS_get hz
   have hlb := longF_b hst 0 s.Stretch.toNat
   unfold In12 at hof
   rw [← hzm] at hlb
   refine rS (L1 (Value.int .i64 z.Lo) 1 rfl tk3 rfl rfl) <| rS (FA 1 rfl fo53_1 rfl) <| rS (FA 1 rfl fo34_0 rfl) <| rS (L1 (Value.int .i64 s.Off.Lo) 3 rfl tk3 rfl rfl) <| rS (BI rfl (b_add ⟨by omega, by omega⟩)) <| rS (FA 1 rfl fo34_1 rfl) <| rS (L1 (Value.int .i64 z.Hi) 1 rfl tk3 rfl rfl) <| rS (FA 1 rfl fo53_1 rfl) <| rS (FA 2 rfl fo34_1 rfl) <| rS (L1 (Value.int .i64 s.Off.Hi) 3 rfl tk3 rfl rfl) ?_
   refine rS (BI rfl (b_add ⟨by omega, by omega⟩)) <| rS (SX (sd_build (xs := [(0, .tmp 27), (1, .tmp 33)]) (cs := (SpanV.cells (SpanV.mk (z.Lo + s.Off.Lo) (z.Hi + s.Off.Hi)))) rfl rfl (built_of tb34 rfl)) rfl rfl) <| SW2 rfl ts34 rfl <| rS (AG rfl) <| RK hK44 <| w_ret ?_
   refine hQ _ _ _ (l_nil (vs := [(Value.agg (SpanV.cells (SpanV.mk (z.Lo + s.Off.Lo) (z.Hi + s.Off.Hi))).toArray), (Value.int .i64 0)]) ⟨⟨_, rfl, .inl ⟨_, _, tk34, at_blk (vs := (SpanV.cells (SpanV.mk (z.Lo + s.Off.Lo) (z.Hi + s.Off.Hi)))) 2 rfl rfl, rfl, rfl⟩⟩, rfl, trivial⟩ fun w hs => endV ?_ hs)
   show (Value.tuple [(Value.agg (SpanV.cells (SpanV.mk (z.Lo + s.Off.Lo) (z.Hi + s.Off.Hi))).toArray), (Value.int .i64 0)].toArray) = (Value.tuple [(Value.agg (SpanV.cells (atV ts s)).toArray), (Value.int .i64 (atE ts s))].toArray)
   clear hs w hQ hN hK44 hT43 T43 hT42 T42 hT41 T41 hT36 T36 hT34 T34 hK11 hK9 hK8 hK6 hK5 hK1
   first | (have e := at_bad (s := s) (by simpa using h9); rw [e.1, e.2] <;> rfl) | (have e := at_out h9 h14; rw [e.1, e.2] <;> rfl) | (have e := at_in h9 h14; subst hzm; rw [e.1, e.2] <;> rfl)
 refine n_op (rem' := [4, 5, 6, 7]) rfl (by kernel_rfl) rfl fun T12 hT12 => cX (rmarks_c ts tsA tsC (by first | assumption | omega | (simp; done) | (simp; omega)) (by first | assumption | omega | (simp; done) | (simp; omega))) (ha_at 3 rfl rfl <| ha_nil) rfl fun y13 hy14 => ?_
 obtain ⟨a15, c16⟩ := y13
 try dsimp only
 refine r_nil (hT12 _ _ (fun w hs => St.sel [1, 2, 3, 4] rfl rfl hs) ?_)
 refine n_step [4, 6] (by kernel_rfl) (n_cons ?_ <| n_cons ?_ <| n_nil)
 rotate_left 1
 · refine n_op (rem' := [4, 5, 7]) rfl (by kernel_rfl) rfl fun T28 hT28 => ?_
   refine AL rfl tz34 fun b29 => ?_
   refine r_nil (hT28 _ _ (fun w hs => St.sel [2, 3, 4, 5] rfl rfl hs) ?_)
   refine n_step [4] (by kernel_rfl) (n_cons ?_ <| n_nil)
   refine n_op (rem' := [5, 7]) rfl (by kernel_rfl) rfl fun T30 hT30 => ?_
   obtain ⟨z, hz⟩ : ∃ y_, (marksS ts (ts.length + 1))[(s.Stretch).toNat]? = some y_ := ⟨(marksS ts (ts.length + 1))[(s.Stretch).toNat]'(by omega), List.getElem?_eq_getElem _⟩
   have hzm : ((marksS ts (ts.length + 1)).map SpanV.cells)[(s.Stretch).toNat]? = some (SpanV.cells z) := by rw [List.getElem?_map, hz]; rfl
   refine rS (IA ((s.Stretch).toNat) rfl (has_own_n (n := (marksS ts (ts.length + 1)).length) 1 rfl (by simp)) te81 (by decide) (by omega) (by omega)) ?_
   refine r_nil (hT30 _ _ (fun w hs => St.sel [2, 3, 4, 5] rfl rfl hs) ?_)
   refine n_step [5] (by kernel_rfl) (n_cons ?_ <| n_nil)
   refine n_op (rem' := [7]) rfl (by kernel_rfl) rfl fun T31 hT31 => rS (LEN ((s.Stretch).toNat) 0 (SpanV.cells z) rfl tk34 (has_own_n (n := (marksS ts (ts.length + 1)).length) 1 rfl (by simp)) hzm rfl (by decide) rfl rfl) ?_
   refine r_nil (hT31 _ _ (fun w hs => St.sel [2, 3, 4, 5] rfl rfl hs) ?_)
   refine n_step [7] (by kernel_rfl) (n_cons ?_ <| n_nil)
   refine n_op (rem' := []) rfl (by kernel_rfl) rfl fun T32 hT32 => SW0 rfl ts34 rfl ?_
   refine r_nil (hT32 _ _ (fun w hs => St.sel [2, 3, 4, 5] rfl rfl hs) ?_)
   refine n_fin <| KK hK11 <| WS fun _ hK33 => rS (FA 0 rfl fo34_0 rfl) ?_
   have hzm := marksS_get hz
   have hlb := longF_b hst 0 s.Stretch.toNat
   unfold In12 at hof
   rw [← hzm] at hlb
   refine rS (L1 (Value.int .i64 z.Lo) 0 rfl tk3 rfl rfl) <| rS (FA 1 rfl fo53_1 rfl) <| rS (FA 1 rfl fo34_0 rfl) <| rS (L1 (Value.int .i64 s.Off.Lo) 3 rfl tk3 rfl rfl) <| rS (BI rfl (b_add ⟨by omega, by omega⟩)) <| rS (FA 1 rfl fo34_1 rfl) <| rS (L1 (Value.int .i64 z.Hi) 0 rfl tk3 rfl rfl) <| rS (FA 1 rfl fo53_1 rfl) <| rS (FA 2 rfl fo34_1 rfl) <| rS (L1 (Value.int .i64 s.Off.Hi) 3 rfl tk3 rfl rfl) ?_
   refine rS (BI rfl (b_add ⟨by omega, by omega⟩)) <| rS (SX (sd_build (xs := [(0, .tmp 27), (1, .tmp 33)]) (cs := (SpanV.cells (SpanV.mk (z.Lo + s.Off.Lo) (z.Hi + s.Off.Hi)))) rfl rfl (built_of tb34 rfl)) rfl rfl) <| SW2 rfl ts34 rfl <| rS (AG rfl) <| RK hK33 <| w_ret ?_
   refine hQ _ _ _ (l_nil (vs := [(Value.agg (SpanV.cells (SpanV.mk (z.Lo + s.Off.Lo) (z.Hi + s.Off.Hi))).toArray), (Value.int .i64 0)]) ⟨⟨_, rfl, .inl ⟨_, _, tk34, at_blk (vs := (SpanV.cells (SpanV.mk (z.Lo + s.Off.Lo) (z.Hi + s.Off.Hi)))) 2 rfl rfl, rfl, rfl⟩⟩, rfl, trivial⟩ fun w hs => endV ?_ hs)
   show (Value.tuple [(Value.agg (SpanV.cells (SpanV.mk (z.Lo + s.Off.Lo) (z.Hi + s.Off.Hi))).toArray), (Value.int .i64 0)].toArray) = (Value.tuple [(Value.agg (SpanV.cells (atV ts s)).toArray), (Value.int .i64 (atE ts s))].toArray)
   clear hs w hQ hN hK33 hT32 T32 hT31 T31 hT30 T30 hT28 T28 hT12 T12 hK11 hK9 hK8 hK6 hK5 hK1
   first | (have e := at_bad (s := s) (by simpa using h9); rw [e.1, e.2] <;> rfl) | (have e := at_out h9 h14; rw [e.1, e.2] <;> rfl) | (have e := at_in h9 h14; subst hzm; rw [e.1, e.2] <;> rfl)
 refine n_op (rem' := [5, 6, 7]) rfl (by kernel_rfl) rfl fun T17 hT17 => ?_
 obtain ⟨z, hz⟩ : ∃ y_, (marksS ts (ts.length + 1))[(s.Stretch).toNat]? = some y_ := ⟨(marksS ts (ts.length + 1))[(s.Stretch).toNat]'(by omega), List.getElem?_eq_getElem _⟩
 have hzm : ((marksS ts (ts.length + 1)).map SpanV.cells)[(s.Stretch).toNat]? = some (SpanV.cells z) := by rw [List.getElem?_map, hz]; rfl
 refine rS (IA ((s.Stretch).toNat) rfl (has_own_n (n := (marksS ts (ts.length + 1)).length) 0 rfl (by simp)) te81 (by decide) (by omega) (by omega)) ?_
 refine r_nil (hT17 _ _ (fun w hs => St.sel [1, 2, 3, 4] rfl rfl hs) ?_)
 refine n_step [5, 6] (by kernel_rfl) (n_cons ?_ <| n_cons ?_ <| n_nil)
 rotate_left 1
 · refine n_op (rem' := [5, 7]) rfl (by kernel_rfl) rfl fun T23 hT23 => ?_
   refine AL rfl tz34 fun b24 => ?_
   refine r_nil (hT23 _ _ (fun w hs => St.sel [2, 3, 4, 5] rfl rfl hs) ?_)
   refine n_step [5] (by kernel_rfl) (n_cons ?_ <| n_nil)
   refine n_op (rem' := [7]) rfl (by kernel_rfl) rfl fun T25 hT25 => rS (LEN ((s.Stretch).toNat) 0 (SpanV.cells z) rfl tk34 (has_own_n (n := (marksS ts (ts.length + 1)).length) 1 rfl (by simp)) hzm rfl (by decide) rfl rfl) ?_
   refine r_nil (hT25 _ _ (fun w hs => St.sel [2, 3, 4, 5] rfl rfl hs) ?_)
   refine n_step [7] (by kernel_rfl) (n_cons ?_ <| n_nil)
   refine n_op (rem' := []) rfl (by kernel_rfl) rfl fun T26 hT26 => SW0 rfl ts34 rfl ?_
   refine r_nil (hT26 _ _ (fun w hs => St.sel [2, 3, 4, 5] rfl rfl hs) ?_)
   refine n_fin <| KK hK11 <| WS fun _ hK27 => rS (FA 0 rfl fo34_0 rfl) ?_
   have hzm := marksS_get hz
   have hlb := longF_b hst 0 s.Stretch.toNat
   unfold In12 at hof
   rw [← hzm] at hlb
   refine rS (L1 (Value.int .i64 z.Lo) 0 rfl tk3 rfl rfl) <| rS (FA 1 rfl fo53_1 rfl) <| rS (FA 1 rfl fo34_0 rfl) <| rS (L1 (Value.int .i64 s.Off.Lo) 3 rfl tk3 rfl rfl) <| rS (BI rfl (b_add ⟨by omega, by omega⟩)) <| rS (FA 1 rfl fo34_1 rfl) <| rS (L1 (Value.int .i64 z.Hi) 0 rfl tk3 rfl rfl) <| rS (FA 1 rfl fo53_1 rfl) <| rS (FA 2 rfl fo34_1 rfl) <| rS (L1 (Value.int .i64 s.Off.Hi) 3 rfl tk3 rfl rfl) ?_
   refine rS (BI rfl (b_add ⟨by omega, by omega⟩)) <| rS (SX (sd_build (xs := [(0, .tmp 27), (1, .tmp 33)]) (cs := (SpanV.cells (SpanV.mk (z.Lo + s.Off.Lo) (z.Hi + s.Off.Hi)))) rfl rfl (built_of tb34 rfl)) rfl rfl) <| SW2 rfl ts34 rfl <| rS (AG rfl) <| RK hK27 <| w_ret ?_
   refine hQ _ _ _ (l_nil (vs := [(Value.agg (SpanV.cells (SpanV.mk (z.Lo + s.Off.Lo) (z.Hi + s.Off.Hi))).toArray), (Value.int .i64 0)]) ⟨⟨_, rfl, .inl ⟨_, _, tk34, at_blk (vs := (SpanV.cells (SpanV.mk (z.Lo + s.Off.Lo) (z.Hi + s.Off.Hi)))) 2 rfl rfl, rfl, rfl⟩⟩, rfl, trivial⟩ fun w hs => endV ?_ hs)
   show (Value.tuple [(Value.agg (SpanV.cells (SpanV.mk (z.Lo + s.Off.Lo) (z.Hi + s.Off.Hi))).toArray), (Value.int .i64 0)].toArray) = (Value.tuple [(Value.agg (SpanV.cells (atV ts s)).toArray), (Value.int .i64 (atE ts s))].toArray)
   clear hs w hQ hN hK27 hT26 T26 hT25 T25 hT23 T23 hT17 T17 hT12 T12 hK11 hK9 hK8 hK6 hK5 hK1
   first | (have e := at_bad (s := s) (by simpa using h9); rw [e.1, e.2] <;> rfl) | (have e := at_out h9 h14; rw [e.1, e.2] <;> rfl) | (have e := at_in h9 h14; subst hzm; rw [e.1, e.2] <;> rfl)
 refine n_op (rem' := [6, 7]) rfl (by kernel_rfl) rfl fun T18 hT18 => rS (LEN ((s.Stretch).toNat) 0 (SpanV.cells z) rfl tk34 (has_own_n (n := (marksS ts (ts.length + 1)).length) 0 rfl (by simp)) hzm rfl (by decide) rfl rfl) ?_
 refine r_nil (hT18 _ _ (fun w hs => St.sel [1, 2, 3, 4] rfl rfl hs) ?_)
 refine n_step [6] (by kernel_rfl) (n_cons ?_ <| n_nil)
 refine n_op (rem' := [7]) rfl (by kernel_rfl) rfl fun T19 hT19 => AL rfl tz34 fun b20 => ?_
 refine r_nil (hT19 _ _ (fun w hs => St.sel [2, 3, 4, 5] rfl rfl hs) ?_)
 refine n_step [7] (by kernel_rfl) (n_cons ?_ <| n_nil)
 refine n_op (rem' := []) rfl (by kernel_rfl) rfl fun T21 hT21 => SW0 rfl ts34 rfl ?_
 refine r_nil (hT21 _ _ (fun w hs => St.sel [2, 3, 4, 5] rfl rfl hs) ?_)
 refine n_fin <| KK hK11 <| WS fun _ hK22 => rS (FA 0 rfl fo34_0 rfl) ?_
 have hzm := marksS_get hz
 have hlb := longF_b hst 0 s.Stretch.toNat
 unfold In12 at hof
 rw [← hzm] at hlb
 refine rS (L1 (Value.int .i64 z.Lo) 0 rfl tk3 rfl rfl) <| rS (FA 1 rfl fo53_1 rfl) <| rS (FA 1 rfl fo34_0 rfl) <| rS (L1 (Value.int .i64 s.Off.Lo) 3 rfl tk3 rfl rfl) <| rS (BI rfl (b_add ⟨by omega, by omega⟩)) <| rS (FA 1 rfl fo34_1 rfl) <| rS (L1 (Value.int .i64 z.Hi) 0 rfl tk3 rfl rfl) <| rS (FA 1 rfl fo53_1 rfl) <| rS (FA 2 rfl fo34_1 rfl) <| rS (L1 (Value.int .i64 s.Off.Hi) 3 rfl tk3 rfl rfl) ?_
 refine rS (BI rfl (b_add ⟨by omega, by omega⟩)) <| rS (SX (sd_build (xs := [(0, .tmp 27), (1, .tmp 33)]) (cs := (SpanV.cells (SpanV.mk (z.Lo + s.Off.Lo) (z.Hi + s.Off.Hi)))) rfl rfl (built_of tb34 rfl)) rfl rfl) <| SW2 rfl ts34 rfl <| rS (AG rfl) <| RK hK22 <| w_ret ?_
 refine hQ _ _ _ (l_nil (vs := [(Value.agg (SpanV.cells (SpanV.mk (z.Lo + s.Off.Lo) (z.Hi + s.Off.Hi))).toArray), (Value.int .i64 0)]) ⟨⟨_, rfl, .inl ⟨_, _, tk34, at_blk (vs := (SpanV.cells (SpanV.mk (z.Lo + s.Off.Lo) (z.Hi + s.Off.Hi)))) 2 rfl rfl, rfl, rfl⟩⟩, rfl, trivial⟩ fun w hs => endV ?_ hs)
 show (Value.tuple [(Value.agg (SpanV.cells (SpanV.mk (z.Lo + s.Off.Lo) (z.Hi + s.Off.Hi))).toArray), (Value.int .i64 0)].toArray) = (Value.tuple [(Value.agg (SpanV.cells (atV ts s)).toArray), (Value.int .i64 (atE ts s))].toArray)
 clear hs w hQ hN hK22 hT21 T21 hT19 T19 hT18 T18 hT17 T17 hT12 T12 hK11 hK9 hK8 hK6 hK5 hK1
 first | (have e := at_bad (s := s) (by simpa using h9); rw [e.1, e.2] <;> rfl) | (have e := at_out h9 h14; rw [e.1, e.2] <;> rfl) | (have e := at_in h9 h14; subst hzm; rw [e.1, e.2] <;> rfl)
set_option maxRecDepth 100000 in
set_option maxHeartbeats 400000 in
theorem rapart1_c (ts : List StretchV) (tsA : Option Addr) (tsC : Nat) (p : SpotV) (q : SpotV) (hlen : ts.length ≤ 1000000) (hside : ∀ x ∈ ts, 0 ≤ x.Side ∧ x.Side ≤ 255) (hord : ¬ q.Stretch < p.Stretch) :
    FnV Try.prog 107 [(Value.agg (TrackV.cells (TrackV.mk (Slc.mk tsA ts.length tsC))).toArray), (Value.agg (SpotV.cells p).toArray), (Value.agg (SpotV.cells q).toArray)] [(rd tsA ts.length 9 (ts.map StretchV.cells))] (Value.tuple [(Value.agg (SpanV.cells (apartV ts p q)).toArray), (Value.int .i64 (apartE ts p q))].toArray) := by
 refine fnV_of go107 Try.func107 rfl rfl fun w0 Q hQ hN => ?_
 try dsimp only
 refine WS fun _ hK1 => BXA rfl fun b2 => BXA rfl fun b3 => BXA rfl fun b4 => AL rfl tz34 fun b5 => rS (AG rfl) <| RK hK1 <| w_seq fun _ hK6 => WS fun _ hK7 => rS (LW 3 rfl tk24 rfl rfl) ?_
 refine rS (CL (track_c ts tsA tsC hlen) (ha_at 4 rfl rfl <| ha_nil) rfl) <| rS (NT rfl) <| RK hK7 ?_
 refine w_if rfl (fun h14 => ?_) (fun h14 => ?_)
 · rw [Bool.not_eq_true'] at h14
   refine WS fun _ hK8 => rS (SX (sd_build (xs := []) (cs := (SpanV.cells (SpanV.mk 0 0))) rfl rfl (built_of tb34 rfl)) rfl rfl) <| SW0 rfl ts34 rfl <| rS (AG rfl) <| RK hK8 <| w_ret ?_
   refine hQ _ _ _ (l_nil (vs := [(Value.agg (SpanV.cells (SpanV.mk 0 0)).toArray), (Value.int .i64 10)]) ⟨⟨_, rfl, .inl ⟨_, _, tk34, at_blk (vs := (SpanV.cells (SpanV.mk 0 0))) 0 rfl rfl, rfl, rfl⟩⟩, rfl, trivial⟩ fun w hs => endV ?_ hs)
   show (Value.tuple [(Value.agg (SpanV.cells (SpanV.mk 0 0)).toArray), (Value.int .i64 10)].toArray) = (Value.tuple [(Value.agg (SpanV.cells (apartV ts p q)).toArray), (Value.int .i64 (apartE ts p q))].toArray)
   clear hs w hQ hN hK8 hK7 hK6 hK1
   first | (have e := apart_bad (a := p) (b := q) (by simpa using h14); rw [e.1, e.2] <;> rfl) | (have e := apart_in h14 hq1; rw [e.1, e.2, apart_straight h31] <;> rfl) | (have e := apart_in h14 hq1; have e2 := apart_in h14 ⟨h25, h20⟩; rw [e.1, e.2, e2.2, apart_swap h31] <;> rfl) | (have e := apart_out (a := p) (b := q) h14 (fun h => by first | exact h20 h.1 | exact h25 h.2); rw [e.1, e.2] <;> rfl)
 rw [Bool.not_eq_false'] at h14
 refine WK hK6 <| w_seq fun _ hK9 => WS fun _ hK10 => ?_
 have hst := trackOk_all h14
 have hl12 := trackOk_le h14
 refine rS (LW 3 rfl tk24 rfl rfl) <| rS (LW 2 rfl tk53 rfl rfl) <| rS (CL (rspot_c ts tsA tsC p (by first | assumption | omega | (simp; done) | (simp; omega)) (by first | assumption | omega | (simp; done) | (simp; omega))) (ha_at 4 rfl rfl <| ha_nil) rfl) <| rS (NT rfl) <| rS (MV rfl) ?_
 refine r_bool (t := 20) rfl (fun h20 => ?_) (fun h20 => ?_)
 · replace h20 := XT h20
   refine rS (OX rfl) <| rS (OX rfl) <| rS (OX rfl) <| rS (OX rfl) <| rS (PK rfl) <| RK hK10 <| w_if_true rfl <| WS fun _ hK11 => rS (SX (sd_build (xs := []) (cs := (SpanV.cells (SpanV.mk 0 0))) rfl rfl (built_of tb34 rfl)) rfl rfl) <| SW0 rfl ts34 rfl ?_
   refine rS (AG rfl) <| RK hK11 <| w_ret ?_
   refine hQ _ _ _ (l_nil (vs := [(Value.agg (SpanV.cells (SpanV.mk 0 0)).toArray), (Value.int .i64 12)]) ⟨⟨_, rfl, .inl ⟨_, _, tk34, at_blk (vs := (SpanV.cells (SpanV.mk 0 0))) 0 rfl rfl, rfl, rfl⟩⟩, rfl, trivial⟩ fun w hs => endV ?_ hs)
   show (Value.tuple [(Value.agg (SpanV.cells (SpanV.mk 0 0)).toArray), (Value.int .i64 12)].toArray) = (Value.tuple [(Value.agg (SpanV.cells (apartV ts p q)).toArray), (Value.int .i64 (apartE ts p q))].toArray)
   clear hs w hQ hN hK11 hK10 hK9 hK7 hK6 hK1
   first | (have e := apart_bad (a := p) (b := q) (by simpa using h14); rw [e.1, e.2] <;> rfl) | (have e := apart_in h14 hq1; rw [e.1, e.2, apart_straight h31] <;> rfl) | (have e := apart_in h14 hq1; have e2 := apart_in h14 ⟨h25, h20⟩; rw [e.1, e.2, e2.2, apart_swap h31] <;> rfl) | (have e := apart_out (a := p) (b := q) h14 (fun h => by first | exact h20 h.1 | exact h25 h.2); rw [e.1, e.2] <;> rfl)
 replace h20 := XF h20
 refine rS (LW 3 rfl tk24 rfl rfl) <| rS (LW 1 rfl tk53 rfl rfl) <| rS (CL (rspot_c ts tsA tsC q (by first | assumption | omega | (simp; done) | (simp; omega)) (by first | assumption | omega | (simp; done) | (simp; omega))) (ha_at 4 rfl rfl <| ha_nil) rfl) <| rS (NT rfl) <| rS (PK rfl) <| RK hK10 ?_
 refine w_if rfl (fun h25 => ?_) (fun h25 => ?_)
 · replace h25 := XT h25
   refine WS fun _ hK12 => rS (SX (sd_build (xs := []) (cs := (SpanV.cells (SpanV.mk 0 0))) rfl rfl (built_of tb34 rfl)) rfl rfl) <| SW0 rfl ts34 rfl <| rS (AG rfl) <| RK hK12 <| w_ret ?_
   refine hQ _ _ _ (l_nil (vs := [(Value.agg (SpanV.cells (SpanV.mk 0 0)).toArray), (Value.int .i64 12)]) ⟨⟨_, rfl, .inl ⟨_, _, tk34, at_blk (vs := (SpanV.cells (SpanV.mk 0 0))) 0 rfl rfl, rfl, rfl⟩⟩, rfl, trivial⟩ fun w hs => endV ?_ hs)
   show (Value.tuple [(Value.agg (SpanV.cells (SpanV.mk 0 0)).toArray), (Value.int .i64 12)].toArray) = (Value.tuple [(Value.agg (SpanV.cells (apartV ts p q)).toArray), (Value.int .i64 (apartE ts p q))].toArray)
   clear hs w hQ hN hK12 hK10 hK9 hK7 hK6 hK1
   first | (have e := apart_bad (a := p) (b := q) (by simpa using h14); rw [e.1, e.2] <;> rfl) | (have e := apart_in h14 hq1; rw [e.1, e.2, apart_straight h31] <;> rfl) | (have e := apart_in h14 hq1; have e2 := apart_in h14 ⟨h25, h20⟩; rw [e.1, e.2, e2.2, apart_swap h31] <;> rfl) | (have e := apart_out (a := p) (b := q) h14 (fun h => by first | exact h20 h.1 | exact h25 h.2); rw [e.1, e.2] <;> rfl)
 replace h25 := XF h25
 refine WK hK9 <| w_seq fun _ hK13 => WS fun _ hK14 => ?_
 have hq1 : SpotOk ts p ∧ SpotOk ts q := ⟨h20, h25⟩
 have hpo := off_in hst h20
 have hqo := off_in hst h25
 have hpb := h20.1
 have hqb := h25.1
 have hab := apartF_b hst hl12 h25 h20
 unfold In12 at hpo hqo
 refine rS (FA 0 rfl fo53_0 rfl) <| rS (L1 (Value.int .i64 q.Stretch) 1 rfl tk3 rfl rfl) <| rS (FA 0 rfl fo53_0 rfl) <| rS (L1 (Value.int .i64 p.Stretch) 2 rfl tk3 rfl rfl) <| rS (BI rfl b_lss) <| RK hK14 ?_
 refine w_if rfl (fun h31 => ?_) (fun h31 => ?_)
 · replace h31 := DT h31
   exfalso; omega
 replace h31 := DF h31
 refine WK hK13 <| WS fun _ hK15 => rS (LW 3 rfl tk24 rfl rfl) <| rS (FA 0 rfl fo53_0 rfl) ?_
 have hlb := longF_b hst p.Stretch.toNat (q.Stretch - p.Stretch).toNat
 refine rS (L1 (Value.int .i64 p.Stretch) 2 rfl tk3 rfl rfl) <| rS (FA 0 rfl fo53_0 rfl) <| rS (L1 (Value.int .i64 q.Stretch) 1 rfl tk3 rfl rfl) <| rS (CL (rdrop_c ts tsA tsC p.Stretch q.Stretch (by first | assumption | omega | (simp; done) | (simp; omega)) (by first | assumption | omega | (simp; done) | (simp; omega)) (by omega)) (ha_at 4 rfl rfl <| ha_nil) rfl) <| rS (MV rfl) <| rS (EX rfl) <| rS (EX rfl) <| AL rfl tz34 fun b16 => AL rfl tz34 fun b17 => SW1 rfl ts34 rfl ?_
 refine SW0 rfl ts34 rfl <| RK hK15 <| WS fun _ hK18 => rS (FA 0 rfl fo34_0 rfl) <| rS (L1 (Value.int .i64 ((longF ts p.Stretch.toNat (q.Stretch - p.Stretch).toNat).Lo)) 1 rfl tk3 rfl rfl) <| rS (FA 1 rfl fo53_1 rfl) <| rS (FA 1 rfl fo34_0 rfl) <| rS (L1 (Value.int .i64 q.Off.Lo) 3 rfl tk3 rfl rfl) <| rS (BI rfl (b_add ⟨by omega, by omega⟩)) <| rS (FA 1 rfl fo53_1 rfl) ?_
 refine rS (FA 2 rfl fo34_1 rfl) <| rS (L1 (Value.int .i64 p.Off.Hi) 4 rfl tk3 rfl rfl) <| rS (BI rfl (b_sub ⟨by omega, by omega⟩)) <| rS (FA 1 rfl fo34_1 rfl) <| rS (L1 (Value.int .i64 ((longF ts p.Stretch.toNat (q.Stretch - p.Stretch).toNat).Hi)) 1 rfl tk3 rfl rfl) <| rS (FA 1 rfl fo53_1 rfl) <| rS (FA 2 rfl fo34_1 rfl) <| rS (L1 (Value.int .i64 q.Off.Hi) 3 rfl tk3 rfl rfl) <| rS (BI rfl (b_add ⟨by omega, by omega⟩)) <| rS (FA 1 rfl fo53_1 rfl) ?_
 refine rS (FA 1 rfl fo34_0 rfl) <| rS (L1 (Value.int .i64 p.Off.Lo) 4 rfl tk3 rfl rfl) <| rS (BI rfl (b_sub ⟨by omega, by omega⟩)) <| rS (SX (sd_build (xs := [(0, .tmp 64), (1, .tmp 74)]) (cs := (SpanV.cells (SpanV.mk ((((longF ts p.Stretch.toNat (q.Stretch - p.Stretch).toNat).Lo) + q.Off.Lo) - p.Off.Hi) ((((longF ts p.Stretch.toNat (q.Stretch - p.Stretch).toNat).Hi) + q.Off.Hi) - p.Off.Lo)))) rfl rfl (built_of tb34 rfl)) rfl rfl) <| SW2 rfl ts34 rfl <| rS (AG rfl) <| RK hK18 <| w_ret ?_
 refine hQ _ _ _ (l_nil (vs := [(Value.agg (SpanV.cells (SpanV.mk ((((longF ts p.Stretch.toNat (q.Stretch - p.Stretch).toNat).Lo) + q.Off.Lo) - p.Off.Hi) ((((longF ts p.Stretch.toNat (q.Stretch - p.Stretch).toNat).Hi) + q.Off.Hi) - p.Off.Lo))).toArray), (Value.int .i64 0)]) ⟨⟨_, rfl, .inl ⟨_, _, tk34, at_blk (vs := (SpanV.cells (SpanV.mk ((((longF ts p.Stretch.toNat (q.Stretch - p.Stretch).toNat).Lo) + q.Off.Lo) - p.Off.Hi) ((((longF ts p.Stretch.toNat (q.Stretch - p.Stretch).toNat).Hi) + q.Off.Hi) - p.Off.Lo)))) 2 rfl rfl, rfl, rfl⟩⟩, rfl, trivial⟩ fun w hs => endV ?_ hs)
 show (Value.tuple [(Value.agg (SpanV.cells (SpanV.mk ((((longF ts p.Stretch.toNat (q.Stretch - p.Stretch).toNat).Lo) + q.Off.Lo) - p.Off.Hi) ((((longF ts p.Stretch.toNat (q.Stretch - p.Stretch).toNat).Hi) + q.Off.Hi) - p.Off.Lo))).toArray), (Value.int .i64 0)].toArray) = (Value.tuple [(Value.agg (SpanV.cells (apartV ts p q)).toArray), (Value.int .i64 (apartE ts p q))].toArray)
 clear hs w hQ hN hK18 hK15 hK14 hK13 hK10 hK9 hK7 hK6 hK1
 first | (have e := apart_bad (a := p) (b := q) (by simpa using h14); rw [e.1, e.2] <;> rfl) | (have e := apart_in h14 hq1; rw [e.1, e.2, apart_straight h31] <;> rfl) | (have e := apart_in h14 hq1; have e2 := apart_in h14 ⟨h25, h20⟩; rw [e.1, e.2, e2.2, apart_swap h31] <;> rfl) | (have e := apart_out (a := p) (b := q) h14 (fun h => by first | exact h20 h.1 | exact h25 h.2); rw [e.1, e.2] <;> rfl)
set_option maxRecDepth 100000 in
set_option maxHeartbeats 400000 in
theorem rapart_c (ts : List StretchV) (tsA : Option Addr) (tsC : Nat) (p : SpotV) (q : SpotV) (hlen : ts.length ≤ 1000000) (hside : ∀ x ∈ ts, 0 ≤ x.Side ∧ x.Side ≤ 255) :
    FnV Try.prog 107 [(Value.agg (TrackV.cells (TrackV.mk (Slc.mk tsA ts.length tsC))).toArray), (Value.agg (SpotV.cells p).toArray), (Value.agg (SpotV.cells q).toArray)] [(rd tsA ts.length 9 (ts.map StretchV.cells))] (Value.tuple [(Value.agg (SpanV.cells (apartV ts p q)).toArray), (Value.int .i64 (apartE ts p q))].toArray) := by
 refine fnV_of go107 Try.func107 rfl rfl fun w0 Q hQ hN => ?_
 try dsimp only
 refine WS fun _ hK1 => BXA rfl fun b2 => BXA rfl fun b3 => BXA rfl fun b4 => AL rfl tz34 fun b5 => rS (AG rfl) <| RK hK1 <| w_seq fun _ hK6 => WS fun _ hK7 => rS (LW 3 rfl tk24 rfl rfl) ?_
 refine rS (CL (track_c ts tsA tsC hlen) (ha_at 4 rfl rfl <| ha_nil) rfl) <| rS (NT rfl) <| RK hK7 ?_
 refine w_if rfl (fun h14 => ?_) (fun h14 => ?_)
 · rw [Bool.not_eq_true'] at h14
   refine WS fun _ hK8 => rS (SX (sd_build (xs := []) (cs := (SpanV.cells (SpanV.mk 0 0))) rfl rfl (built_of tb34 rfl)) rfl rfl) <| SW0 rfl ts34 rfl <| rS (AG rfl) <| RK hK8 <| w_ret ?_
   refine hQ _ _ _ (l_nil (vs := [(Value.agg (SpanV.cells (SpanV.mk 0 0)).toArray), (Value.int .i64 10)]) ⟨⟨_, rfl, .inl ⟨_, _, tk34, at_blk (vs := (SpanV.cells (SpanV.mk 0 0))) 0 rfl rfl, rfl, rfl⟩⟩, rfl, trivial⟩ fun w hs => endV ?_ hs)
   show (Value.tuple [(Value.agg (SpanV.cells (SpanV.mk 0 0)).toArray), (Value.int .i64 10)].toArray) = (Value.tuple [(Value.agg (SpanV.cells (apartV ts p q)).toArray), (Value.int .i64 (apartE ts p q))].toArray)
   clear hs w hQ hN hK8 hK7 hK6 hK1
   first | (have e := apart_bad (a := p) (b := q) (by simpa using h14); rw [e.1, e.2] <;> rfl) | (have e := apart_in h14 hq1; rw [e.1, e.2, apart_straight h31] <;> rfl) | (have e := apart_in h14 hq1; have e2 := apart_in h14 ⟨h25, h20⟩; rw [e.1, e.2, e2.2, apart_swap h31] <;> rfl) | (have e := apart_out (a := p) (b := q) h14 (fun h => by first | exact h20 h.1 | exact h25 h.2); rw [e.1, e.2] <;> rfl)
 rw [Bool.not_eq_false'] at h14
 refine WK hK6 <| w_seq fun _ hK9 => WS fun _ hK10 => ?_
 have hst := trackOk_all h14
 have hl12 := trackOk_le h14
 refine rS (LW 3 rfl tk24 rfl rfl) <| rS (LW 2 rfl tk53 rfl rfl) <| rS (CL (rspot_c ts tsA tsC p (by first | assumption | omega | (simp; done) | (simp; omega)) (by first | assumption | omega | (simp; done) | (simp; omega))) (ha_at 4 rfl rfl <| ha_nil) rfl) <| rS (NT rfl) <| rS (MV rfl) ?_
 refine r_bool (t := 20) rfl (fun h20 => ?_) (fun h20 => ?_)
 · replace h20 := XT h20
   refine rS (OX rfl) <| rS (OX rfl) <| rS (OX rfl) <| rS (OX rfl) <| rS (PK rfl) <| RK hK10 <| w_if_true rfl <| WS fun _ hK11 => rS (SX (sd_build (xs := []) (cs := (SpanV.cells (SpanV.mk 0 0))) rfl rfl (built_of tb34 rfl)) rfl rfl) <| SW0 rfl ts34 rfl ?_
   refine rS (AG rfl) <| RK hK11 <| w_ret ?_
   refine hQ _ _ _ (l_nil (vs := [(Value.agg (SpanV.cells (SpanV.mk 0 0)).toArray), (Value.int .i64 12)]) ⟨⟨_, rfl, .inl ⟨_, _, tk34, at_blk (vs := (SpanV.cells (SpanV.mk 0 0))) 0 rfl rfl, rfl, rfl⟩⟩, rfl, trivial⟩ fun w hs => endV ?_ hs)
   show (Value.tuple [(Value.agg (SpanV.cells (SpanV.mk 0 0)).toArray), (Value.int .i64 12)].toArray) = (Value.tuple [(Value.agg (SpanV.cells (apartV ts p q)).toArray), (Value.int .i64 (apartE ts p q))].toArray)
   clear hs w hQ hN hK11 hK10 hK9 hK7 hK6 hK1
   first | (have e := apart_bad (a := p) (b := q) (by simpa using h14); rw [e.1, e.2] <;> rfl) | (have e := apart_in h14 hq1; rw [e.1, e.2, apart_straight h31] <;> rfl) | (have e := apart_in h14 hq1; have e2 := apart_in h14 ⟨h25, h20⟩; rw [e.1, e.2, e2.2, apart_swap h31] <;> rfl) | (have e := apart_out (a := p) (b := q) h14 (fun h => by first | exact h20 h.1 | exact h25 h.2); rw [e.1, e.2] <;> rfl)
 replace h20 := XF h20
 refine rS (LW 3 rfl tk24 rfl rfl) <| rS (LW 1 rfl tk53 rfl rfl) <| rS (CL (rspot_c ts tsA tsC q (by first | assumption | omega | (simp; done) | (simp; omega)) (by first | assumption | omega | (simp; done) | (simp; omega))) (ha_at 4 rfl rfl <| ha_nil) rfl) <| rS (NT rfl) <| rS (PK rfl) <| RK hK10 ?_
 refine w_if rfl (fun h25 => ?_) (fun h25 => ?_)
 · replace h25 := XT h25
   refine WS fun _ hK12 => rS (SX (sd_build (xs := []) (cs := (SpanV.cells (SpanV.mk 0 0))) rfl rfl (built_of tb34 rfl)) rfl rfl) <| SW0 rfl ts34 rfl <| rS (AG rfl) <| RK hK12 <| w_ret ?_
   refine hQ _ _ _ (l_nil (vs := [(Value.agg (SpanV.cells (SpanV.mk 0 0)).toArray), (Value.int .i64 12)]) ⟨⟨_, rfl, .inl ⟨_, _, tk34, at_blk (vs := (SpanV.cells (SpanV.mk 0 0))) 0 rfl rfl, rfl, rfl⟩⟩, rfl, trivial⟩ fun w hs => endV ?_ hs)
   show (Value.tuple [(Value.agg (SpanV.cells (SpanV.mk 0 0)).toArray), (Value.int .i64 12)].toArray) = (Value.tuple [(Value.agg (SpanV.cells (apartV ts p q)).toArray), (Value.int .i64 (apartE ts p q))].toArray)
   clear hs w hQ hN hK12 hK10 hK9 hK7 hK6 hK1
   first | (have e := apart_bad (a := p) (b := q) (by simpa using h14); rw [e.1, e.2] <;> rfl) | (have e := apart_in h14 hq1; rw [e.1, e.2, apart_straight h31] <;> rfl) | (have e := apart_in h14 hq1; have e2 := apart_in h14 ⟨h25, h20⟩; rw [e.1, e.2, e2.2, apart_swap h31] <;> rfl) | (have e := apart_out (a := p) (b := q) h14 (fun h => by first | exact h20 h.1 | exact h25 h.2); rw [e.1, e.2] <;> rfl)
 replace h25 := XF h25
 refine WK hK9 <| w_seq fun _ hK13 => WS fun _ hK14 => ?_
 have hq1 : SpotOk ts p ∧ SpotOk ts q := ⟨h20, h25⟩
 have hpo := off_in hst h20
 have hqo := off_in hst h25
 have hpb := h20.1
 have hqb := h25.1
 have hab := apartF_b hst hl12 h25 h20
 unfold In12 at hpo hqo
 refine rS (FA 0 rfl fo53_0 rfl) <| rS (L1 (Value.int .i64 q.Stretch) 1 rfl tk3 rfl rfl) <| rS (FA 0 rfl fo53_0 rfl) <| rS (L1 (Value.int .i64 p.Stretch) 2 rfl tk3 rfl rfl) <| rS (BI rfl b_lss) <| RK hK14 ?_
 refine w_if rfl (fun h31 => ?_) (fun h31 => ?_)
 · replace h31 := DT h31
   refine WS fun _ hK15 => rS (LW 3 rfl tk24 rfl rfl) <| rS (LW 1 rfl tk53 rfl rfl) <| rS (LW 2 rfl tk53 rfl rfl) <| rS (CL (rapart1_c ts tsA tsC q p hlen hside (by first | assumption | omega | (simp; done) | (simp; omega))) (ha_at 4 rfl rfl <| ha_nil) rfl) <| rS (MV rfl) <| rS (EX rfl) <| rS (EX rfl) <| AL rfl tz34 fun b16 => SW0 rfl ts34 rfl ?_
   refine rS (AG rfl) <| RK hK15 <| WS fun _ hK17 => rS (FA 1 rfl fo34_1 rfl) <| rS (L1 (Value.int .i64 ((apartV ts q p).Hi)) 0 rfl tk3 rfl rfl) ?_
   have hav : apartV ts q p = apartF ts q p := (apart_in h14 ⟨h25, h20⟩).2
   have hav1 : -400000 ≤ (apartV ts q p).Lo ∧ (apartV ts q p).Hi ≤ 400000 := by rw [hav]; omega
   have hav2 : (apartV ts q p).Lo ≤ (apartV ts q p).Hi := by rw [hav]; omega
   refine rS (NG rfl ⟨by omega, by omega⟩) <| rS (FA 0 rfl fo34_0 rfl) <| rS (L1 (Value.int .i64 ((apartV ts q p).Lo)) 0 rfl tk3 rfl rfl) <| rS (NG rfl ⟨by omega, by omega⟩) <| rS (SX (sd_build (xs := [(0, .tmp 41), (1, .tmp 44)]) (cs := (SpanV.cells (SpanV.mk (-((apartV ts q p).Hi)) (-((apartV ts q p).Lo))))) rfl rfl (built_of tb34 rfl)) rfl rfl) <| SW1 rfl ts34 rfl <| rS (AG rfl) <| RK hK17 <| w_ret ?_
   refine hQ _ _ _ (l_nil (vs := [(Value.agg (SpanV.cells (SpanV.mk (-((apartV ts q p).Hi)) (-((apartV ts q p).Lo)))).toArray), (Value.int .i64 0)]) ⟨⟨_, rfl, .inl ⟨_, _, tk34, at_blk (vs := (SpanV.cells (SpanV.mk (-((apartV ts q p).Hi)) (-((apartV ts q p).Lo))))) 1 rfl rfl, rfl, rfl⟩⟩, rfl, trivial⟩ fun w hs => endV ?_ hs)
   show (Value.tuple [(Value.agg (SpanV.cells (SpanV.mk (-((apartV ts q p).Hi)) (-((apartV ts q p).Lo)))).toArray), (Value.int .i64 0)].toArray) = (Value.tuple [(Value.agg (SpanV.cells (apartV ts p q)).toArray), (Value.int .i64 (apartE ts p q))].toArray)
   clear hs w hQ hN hK17 hK15 hK14 hK13 hK10 hK9 hK7 hK6 hK1
   first | (have e := apart_bad (a := p) (b := q) (by simpa using h14); rw [e.1, e.2] <;> rfl) | (have e := apart_in h14 hq1; rw [e.1, e.2, apart_straight h31] <;> rfl) | (have e := apart_in h14 hq1; have e2 := apart_in h14 ⟨h25, h20⟩; rw [e.1, e.2, e2.2, apart_swap h31] <;> rfl) | (have e := apart_out (a := p) (b := q) h14 (fun h => by first | exact h20 h.1 | exact h25 h.2); rw [e.1, e.2] <;> rfl)
 replace h31 := DF h31
 refine WK hK13 <| WS fun _ hK18 => rS (LW 3 rfl tk24 rfl rfl) <| rS (FA 0 rfl fo53_0 rfl) ?_
 have hlb := longF_b hst p.Stretch.toNat (q.Stretch - p.Stretch).toNat
 refine rS (L1 (Value.int .i64 p.Stretch) 2 rfl tk3 rfl rfl) <| rS (FA 0 rfl fo53_0 rfl) <| rS (L1 (Value.int .i64 q.Stretch) 1 rfl tk3 rfl rfl) <| rS (CL (rdrop_c ts tsA tsC p.Stretch q.Stretch (by first | assumption | omega | (simp; done) | (simp; omega)) (by first | assumption | omega | (simp; done) | (simp; omega)) (by omega)) (ha_at 4 rfl rfl <| ha_nil) rfl) <| rS (MV rfl) <| rS (EX rfl) <| rS (EX rfl) <| AL rfl tz34 fun b19 => AL rfl tz34 fun b20 => SW1 rfl ts34 rfl ?_
 refine SW0 rfl ts34 rfl <| RK hK18 <| WS fun _ hK21 => rS (FA 0 rfl fo34_0 rfl) <| rS (L1 (Value.int .i64 ((longF ts p.Stretch.toNat (q.Stretch - p.Stretch).toNat).Lo)) 1 rfl tk3 rfl rfl) <| rS (FA 1 rfl fo53_1 rfl) <| rS (FA 1 rfl fo34_0 rfl) <| rS (L1 (Value.int .i64 q.Off.Lo) 3 rfl tk3 rfl rfl) <| rS (BI rfl (b_add ⟨by omega, by omega⟩)) <| rS (FA 1 rfl fo53_1 rfl) ?_
 refine rS (FA 2 rfl fo34_1 rfl) <| rS (L1 (Value.int .i64 p.Off.Hi) 4 rfl tk3 rfl rfl) <| rS (BI rfl (b_sub ⟨by omega, by omega⟩)) <| rS (FA 1 rfl fo34_1 rfl) <| rS (L1 (Value.int .i64 ((longF ts p.Stretch.toNat (q.Stretch - p.Stretch).toNat).Hi)) 1 rfl tk3 rfl rfl) <| rS (FA 1 rfl fo53_1 rfl) <| rS (FA 2 rfl fo34_1 rfl) <| rS (L1 (Value.int .i64 q.Off.Hi) 3 rfl tk3 rfl rfl) <| rS (BI rfl (b_add ⟨by omega, by omega⟩)) <| rS (FA 1 rfl fo53_1 rfl) ?_
 refine rS (FA 1 rfl fo34_0 rfl) <| rS (L1 (Value.int .i64 p.Off.Lo) 4 rfl tk3 rfl rfl) <| rS (BI rfl (b_sub ⟨by omega, by omega⟩)) <| rS (SX (sd_build (xs := [(0, .tmp 64), (1, .tmp 74)]) (cs := (SpanV.cells (SpanV.mk ((((longF ts p.Stretch.toNat (q.Stretch - p.Stretch).toNat).Lo) + q.Off.Lo) - p.Off.Hi) ((((longF ts p.Stretch.toNat (q.Stretch - p.Stretch).toNat).Hi) + q.Off.Hi) - p.Off.Lo)))) rfl rfl (built_of tb34 rfl)) rfl rfl) <| SW2 rfl ts34 rfl <| rS (AG rfl) <| RK hK21 <| w_ret ?_
 refine hQ _ _ _ (l_nil (vs := [(Value.agg (SpanV.cells (SpanV.mk ((((longF ts p.Stretch.toNat (q.Stretch - p.Stretch).toNat).Lo) + q.Off.Lo) - p.Off.Hi) ((((longF ts p.Stretch.toNat (q.Stretch - p.Stretch).toNat).Hi) + q.Off.Hi) - p.Off.Lo))).toArray), (Value.int .i64 0)]) ⟨⟨_, rfl, .inl ⟨_, _, tk34, at_blk (vs := (SpanV.cells (SpanV.mk ((((longF ts p.Stretch.toNat (q.Stretch - p.Stretch).toNat).Lo) + q.Off.Lo) - p.Off.Hi) ((((longF ts p.Stretch.toNat (q.Stretch - p.Stretch).toNat).Hi) + q.Off.Hi) - p.Off.Lo)))) 2 rfl rfl, rfl, rfl⟩⟩, rfl, trivial⟩ fun w hs => endV ?_ hs)
 show (Value.tuple [(Value.agg (SpanV.cells (SpanV.mk ((((longF ts p.Stretch.toNat (q.Stretch - p.Stretch).toNat).Lo) + q.Off.Lo) - p.Off.Hi) ((((longF ts p.Stretch.toNat (q.Stretch - p.Stretch).toNat).Hi) + q.Off.Hi) - p.Off.Lo))).toArray), (Value.int .i64 0)].toArray) = (Value.tuple [(Value.agg (SpanV.cells (apartV ts p q)).toArray), (Value.int .i64 (apartE ts p q))].toArray)
 clear hs w hQ hN hK21 hK18 hK14 hK13 hK10 hK9 hK7 hK6 hK1
 first | (have e := apart_bad (a := p) (b := q) (by simpa using h14); rw [e.1, e.2] <;> rfl) | (have e := apart_in h14 hq1; rw [e.1, e.2, apart_straight h31] <;> rfl) | (have e := apart_in h14 hq1; have e2 := apart_in h14 ⟨h25, h20⟩; rw [e.1, e.2, e2.2, apart_swap h31] <;> rfl) | (have e := apart_out (a := p) (b := q) h14 (fun h => by first | exact h20 h.1 | exact h25 h.2); rw [e.1, e.2] <;> rfl)
end
section
open Go.RowKit
set_option linter.unusedVariables false
set_option maxRecDepth 100000 in
set_option maxHeartbeats 400000 in
theorem lgreat_c (l : LineM) (kA : Option Addr) (kC : Nat) (az : List RA) (cA : Option Addr) (cC : Nat) (bA : Option Addr) (bC : Nat) (hraw : LineRaw l az) :
    FnV Try.prog 11 [(Value.agg (LineV.cells (LineV.mk (TrackV.mk (Slc.mk kA l.Track.length kC)) l.Fast (Slc.mk cA l.Clocks.length cC) (Slc.mk bA l.Beams.length bC) l.Finish l.Fakes l.Misses)).toArray)] [(rd kA l.Track.length 9 (l.Track.map StretchV.cells)), (rd cA l.Clocks.length 2 (List.zipWith ClockM.cells l.Clocks az)), (bun (nest ClockM.rds l.Clocks az)), (rd bA l.Beams.length 4 (l.Beams.map BeamV.cells))] (Value.bool (decide (GreatL l))) := by
 have htk := hraw.trk
 have hck := hraw.cks
 have has := hraw.as_
 have hbm := hraw.bms
 refine fnV_of go11 Try.func11 rfl rfl fun w0 Q hQ hN => ?_
 try dsimp only
 refine WS fun _ hK1 => BXA rfl fun b2 => rS (AG rfl) <| RK hK1 <| w_seq fun _ hK3 => WS fun _ hK4 => rS (FA 0 rfl fo28_0 rfl) <| rS (LP (TrackV.cells (TrackV.mk (Slc.mk kA l.Track.length kC))) 0 rfl tk24 rfl rfl rfl) <| rS (CL (great_c l.Track kA kC) (ha_at 1 rfl rfl <| ha_nil) rfl) <| rS (MV rfl) ?_
 refine r_bool (t := 7) rfl (fun h7 => ?_) (fun h7 => ?_)
 · replace h7 := DT h7
   refine rS (OX rfl) <| rS (OX rfl) <| rS (OX rfl) <| rS (OX rfl) <| rS (PK rfl) <| rS (MV rfl) <| rS (OX rfl) <| rS (OX rfl) <| rS (OX rfl) <| rS (OX rfl) ?_
   refine rS (PK rfl) <| RK hK4 <| w_if_true rfl <| WS fun _ hK5 => rS (AG rfl) <| RK hK5 <| w_ret <| Q1 hQ rfl rfl rfl ?_
   first | exact congrArg Value.bool (decide_eq_true (.inl (by omega))).symm | exact congrArg Value.bool (decide_eq_true (great_at hx h33)).symm | exact congrArg Value.bool (decide_eq_false (great_no (by omega) (by omega) hl0_1)).symm
 replace h7 := DF h7
 refine rS (FA 2 rfl fo28_2 rfl) <| rS (L1 (Value.slice cA l.Clocks.length cC) 0 rfl tk25 rfl rfl) <| rS (LN rfl ut25) <| rS (BI rfl b_gtr) <| rS (PK rfl) <| rS (MV rfl) ?_
 refine r_bool (t := 13) rfl (fun h13 => ?_) (fun h13 => ?_)
 · replace h13 := DT h13
   refine rS (OX rfl) <| rS (OX rfl) <| rS (OX rfl) <| rS (OX rfl) <| rS (PK rfl) <| RK hK4 <| w_if_true rfl <| WS fun _ hK6 => rS (AG rfl) <| RK hK6 ?_
   refine w_ret <| Q1 hQ rfl rfl rfl ?_
   first | exact congrArg Value.bool (decide_eq_true (.inl (by omega))).symm | exact congrArg Value.bool (decide_eq_true (great_at hx h33)).symm | exact congrArg Value.bool (decide_eq_false (great_no (by omega) (by omega) hl0_1)).symm
 replace h13 := DF h13
 refine rS (FA 3 rfl fo28_3 rfl) <| rS (L1 (Value.slice bA l.Beams.length bC) 0 rfl tk26 rfl rfl) <| rS (LN rfl ut26) <| rS (BI rfl b_gtr) <| rS (PK rfl) <| RK hK4 ?_
 refine w_if rfl (fun h18 => ?_) (fun h18 => ?_)
 · replace h18 := DT h18
   refine WS fun _ hK7 => rS (AG rfl) <| RK hK7 <| w_ret <| Q1 hQ rfl rfl rfl ?_
   first | exact congrArg Value.bool (decide_eq_true (.inl (by omega))).symm | exact congrArg Value.bool (decide_eq_true (great_at hx h33)).symm | exact congrArg Value.bool (decide_eq_false (great_no (by omega) (by omega) hl0_1)).symm
 replace h18 := DF h18
 refine WK hK3 <| w_seq fun _ hK8 => WS fun _ hK9 => rS (AG rfl) <| RK hK9 <| w_block ?_
 have hinit : (0 ≤ l.Clocks.length) ∧ (SyncsTo l 0) := by exact ⟨Nat.zero_le _, fun j c hj => absurd hj (Nat.not_lt_zero _)⟩
 refine w_loop (ι := { z : Nat // (z ≤ l.Clocks.length) ∧ (SyncsTo l z) }) (fun z => [(1, (Value.pointer (some ⟨b2, 0, none⟩))), (3, (Value.int .i64 ((z.1 : Nat) : Int)))]) (fun z => [(blk b2 28 (LineV.cells (LineV.mk (TrackV.mk (Slc.mk kA l.Track.length kC)) l.Fast (Slc.mk cA l.Clocks.length cC) (Slc.mk bA l.Beams.length bC) l.Finish l.Fakes l.Misses))), (rd kA l.Track.length 9 (l.Track.map StretchV.cells)).ro, (rd cA l.Clocks.length 2 (List.zipWith ClockM.cells l.Clocks az)).ro, (bun (nest ClockM.rds l.Clocks az)).ro, (rd bA l.Beams.length 4 (l.Beams.map BeamV.cells)).ro]) (fun z => l.Clocks.length - z.1) ⟨0, hinit⟩ (Sub.cons rfl <| Sub.cons rfl <| Sub.nil _) (fun w hs => St.sel [0, 1, 2, 3, 4] rfl rfl hs) ?_
 clear hinit
 rintro ⟨i, ⟨hl0_0, hl0_1⟩⟩ J10 hJ10
 try dsimp only
 refine w_seq fun _ hK11 => WS fun _ hK12 => rS (MV rfl) <| rS (FA 2 rfl fo28_2 rfl) <| rS (L1 (Value.slice cA l.Clocks.length cC) 0 rfl tk25 rfl rfl) <| rS (LN rfl ut25) <| rS (BI rfl b_lss) <| RK hK12 ?_
 refine w_if rfl (fun h13 => ?_) (fun h13 => ?_)
 rotate_left 1
 · replace h13 := DF h13
   refine w_exit <| k_exit_then <| k_exit_then <| k_exit_same <| KK hK8 <| WS fun _ hK18 => rS (AG rfl) <| RK hK18 <| w_ret <| Q1 hQ rfl rfl rfl ?_
   first | exact congrArg Value.bool (decide_eq_true (.inl (by omega))).symm | exact congrArg Value.bool (decide_eq_true (great_at hx h33)).symm | exact congrArg Value.bool (decide_eq_false (great_no (by omega) (by omega) hl0_1)).symm
 replace h13 := DT h13
 refine WK hK11 <| w_seq fun _ hK14 => w_block <| WS fun _ hK15 => rS (FA 2 rfl fo28_2 rfl) <| rS (L1 (Value.slice cA l.Clocks.length cC) 0 rfl tk25 rfl rfl) <| rS (MV rfl) ?_
 obtain ⟨x, hx⟩ : ∃ y_, l.Clocks[i]? = some y_ := ⟨l.Clocks[i]'(by omega), List.getElem?_eq_getElem _⟩
 obtain ⟨xa, hxa⟩ : ∃ y_, az[i]? = some y_ := ⟨az[i]'(by omega), List.getElem?_eq_getElem _⟩
 have hxm : (List.zipWith ClockM.cells l.Clocks az)[i]? = some (ClockM.cells x xa) := zip_get hx hxa
 refine rS (IA i rfl (has_at 2 rfl) te25 (by decide) (by omega) (by omega)) <| rS (FAR ((i * 2) + 1) rfl (has_at 2 rfl) (Nat.mul_pos (by omega) (by decide)) fo64_1 rfl) <| rS (LE1 i 1 (Value.slice xa.1 x.Syncs.length xa.2) rfl tk62 (has_at 2 rfl) hxm rfl (by decide) rfl) <| rS (LN rfl ut62) <| rS (BI rfl b_gtr) <| RK hK15 ?_
 refine w_if rfl (fun h33 => ?_) (fun h33 => ?_)
 · replace h33 := DT h33
   refine WS fun _ hK16 => rS (AG rfl) <| RK hK16 <| w_ret <| Q1 hQ rfl rfl rfl ?_
   first | exact congrArg Value.bool (decide_eq_true (.inl (by omega))).symm | exact congrArg Value.bool (decide_eq_true (great_at hx h33)).symm | exact congrArg Value.bool (decide_eq_false (great_no (by omega) (by omega) hl0_1)).symm
 replace h33 := DF h33
 refine w_skip <| k_block <| KK hK14 <| w_region <| rS (MV rfl) <| rS (BI rfl (b_add ⟨by omega, by omega⟩)) <| rS (AG rfl) <| r_nil ?_
 have hb17 : (Value.int .i64 (((i + 1) : Nat) : Int)) = (Value.int .i64 (((i : Nat) : Int) + 1)) := by exact congrArg (Value.int .i64) (by omega)
 refine k_then (hJ10 ⟨(i + 1), ⟨by omega, upto_succ hl0_1 hx (by omega)⟩⟩ _ _ _ rfl (by first | omega | (simp; omega)) (Sub.cons rfl <| sub_val rfl hb17 <| Sub.nil _) (fun w hs => St.sel [0, 1, 2, 3, 4] rfl rfl hs))
set_option maxRecDepth 100000 in
set_option maxHeartbeats 400000 in
theorem drifts_c (d : Int) (m : Int) (hd : 0 ≤ d ∧ d ≤ 1000) (hm : 0 ≤ m ∧ m ≤ 90000000) :
    FnV Try.prog 25 [(Value.int .i64 d), (Value.int .i64 m)] [] (Value.int .i64 (upD (d * m) 1000000)) := by
 have hdm := mulb (a := d) (b := m) (A := 1000) (B := 90000000) hd.1 hd.2 hm.1 hm.2
 refine fnV_of go25 Try.func25 rfl rfl fun w0 Q hQ hN => ?_
 try dsimp only
 refine WS fun _ hK1 => rS (AG rfl) <| RK hK1 <| WS fun _ hK2 => rS (MV rfl) <| rS (MV rfl) <| rS (BI rfl (b_mul ⟨by omega, by omega⟩)) <| rS (AG rfl) <| RK hK2 <| w_seq fun _ hK3 => ?_
 refine WS fun _ hK4 => rS (MV rfl) <| rS (BI rfl (b_rem (by omega) (by omega))) <| rS (BI rfl b_gtr) <| RK hK4 ?_
 refine w_if rfl (fun h5 => ?_) (fun h5 => ?_)
 rotate_left 1
 · replace h5 := DF h5
   refine WK hK3 <| WS fun _ hK7 => rS (MV rfl) <| rS (BI rfl (b_quo (by omega) (by omega) (by omega))) <| rS (AG rfl) <| RK hK7 <| w_ret <| Q1 hQ rfl rfl rfl ?_
   exact congrArg (Value.int .i64) (by unfold upD; omega)
 replace h5 := DT h5
 refine WS fun _ hK6 => rS (MV rfl) <| rS (BI rfl (b_quo (by omega) (by omega) (by omega))) <| rS (BI rfl (b_add ⟨by omega, by omega⟩)) <| rS (AG rfl) <| RK hK6 <| w_ret <| Q1 hQ rfl rfl rfl ?_
 exact congrArg (Value.int .i64) (by unfold upD; omega)
set_option maxRecDepth 100000 in
set_option maxHeartbeats 400000 in
theorem rclock_c (c : ClockM) (sA : Option Addr) (sC : Nat) (hlen : c.Syncs.length ≤ 1000000) :
    FnV Try.prog 92 [(Value.agg (ClockV.cells (ClockV.mk c.Drift (Slc.mk sA c.Syncs.length sC))).toArray)] [(rd sA c.Syncs.length 3 (c.Syncs.map SyncV.cells))] (Value.bool (decide (ClockOk c))) := by
 refine fnV_of go92 Try.func92 rfl rfl fun w0 Q hQ hN => ?_
 try dsimp only
 refine WS fun _ hK1 => BXA rfl fun b2 => rS (AG rfl) <| RK hK1 <| w_seq fun _ hK3 => WS fun _ hK4 => rS (FA 0 rfl fo64_0 rfl) <| rS (L1 (Value.int .i64 c.Drift) 0 rfl tk3 rfl rfl) <| rS (CL (within_5 c.Drift 0 1000) (ha_nil) rfl) <| rS (NT rfl) ?_
 refine rS (MV rfl) ?_
 refine r_bool (t := 14) rfl (fun h14 => ?_) (fun h14 => ?_)
 · replace h14 := XT h14
   refine rS (OX rfl) <| rS (OX rfl) <| rS (OX rfl) <| rS (OX rfl) <| rS (OX rfl) <| rS (PK rfl) <| RK hK4 <| w_if_true rfl <| WS fun _ hK5 => rS (AG rfl) ?_
   refine RK hK5 <| w_ret <| Q1 hQ rfl rfl rfl ?_
   first | exact congrArg Value.bool (decide_eq_false fun h => by have q1 := h.drift; have q2 := h.len; omega).symm | exact congrArg Value.bool (decide_eq_false fun h => by have q := h.sync i x hx; unfold SyncOk at q; first | (rw [prevAt_zero (by omega)] at q; omega) | (rw [prevAt_pos (by omega) hy] at q; omega) | omega).symm | exact congrArg Value.bool (decide_eq_false fun h => by have q := h.pair m k y x hy (by omega) hx; unfold PairOk at q; omega).symm | exact congrArg Value.bool (decide_eq_true (clock_ok (by omega) (by omega) (upto_all (by omega) hl4_1) (by omega) hl10_1)).symm
 replace h14 := XF h14
 refine rS (FA 1 rfl fo64_1 rfl) <| rS (L1 (Value.slice sA c.Syncs.length sC) 0 rfl tk62 rfl rfl) <| rS (LN rfl ut62) <| rS (CL (within_5 ((c.Syncs.length : Nat) : Int) 1 5) (ha_nil) rfl) <| rS (NT rfl) <| rS (PK rfl) <| RK hK4 ?_
 refine w_if rfl (fun h20 => ?_) (fun h20 => ?_)
 · replace h20 := XT h20
   refine WS fun _ hK6 => rS (AG rfl) <| RK hK6 <| w_ret <| Q1 hQ rfl rfl rfl ?_
   first | exact congrArg Value.bool (decide_eq_false fun h => by have q1 := h.drift; have q2 := h.len; omega).symm | exact congrArg Value.bool (decide_eq_false fun h => by have q := h.sync i x hx; unfold SyncOk at q; first | (rw [prevAt_zero (by omega)] at q; omega) | (rw [prevAt_pos (by omega) hy] at q; omega) | omega).symm | exact congrArg Value.bool (decide_eq_false fun h => by have q := h.pair m k y x hy (by omega) hx; unfold PairOk at q; omega).symm | exact congrArg Value.bool (decide_eq_true (clock_ok (by omega) (by omega) (upto_all (by omega) hl4_1) (by omega) hl10_1)).symm
 replace h20 := XF h20
 refine WK hK3 <| w_seq fun _ hK7 => WS fun _ hK8 => rS (AG rfl) <| RK hK8 <| w_block ?_
 have hinit : (0 ≤ c.Syncs.length) ∧ (∀ (j : Nat) y, j < 0 → c.Syncs[j]? = some y → SyncOk c j y) := by exact ⟨Nat.zero_le _, fun j y hj => absurd hj (Nat.not_lt_zero _)⟩
 refine w_loop (ι := { z : Nat // (z ≤ c.Syncs.length) ∧ (∀ (j : Nat) y, j < z → c.Syncs[j]? = some y → SyncOk c j y) }) (fun z => [(1, (Value.pointer (some ⟨b2, 0, none⟩))), (3, (Value.int .i64 ((z.1 : Nat) : Int)))]) (fun z => [(blk b2 64 (ClockV.cells (ClockV.mk c.Drift (Slc.mk sA c.Syncs.length sC)))), (rd sA c.Syncs.length 3 (c.Syncs.map SyncV.cells)).ro]) (fun z => c.Syncs.length - z.1) ⟨0, hinit⟩ (Sub.cons rfl <| Sub.cons rfl <| Sub.nil _) (fun w hs => St.sel [0, 1] rfl rfl hs) ?_
 clear hinit
 rintro ⟨i, ⟨hl4_0, hl4_1⟩⟩ J9 hJ9
 try dsimp only
 have hpv := prev_s hl4_0 hl4_1
 refine w_seq fun _ hK10 => WS fun _ hK11 => rS (MV rfl) <| rS (FA 1 rfl fo64_1 rfl) <| rS (L1 (Value.slice sA c.Syncs.length sC) 0 rfl tk62 rfl rfl) <| rS (LN rfl ut62) <| rS (BI rfl b_lss) <| RK hK11 ?_
 refine w_if rfl (fun h25 => ?_) (fun h25 => ?_)
 · replace h25 := DT h25
   refine WK hK10 <| w_seq fun _ hK12 => w_block <| WS fun _ hK13 => rS (FA 1 rfl fo64_1 rfl) <| rS (L1 (Value.slice sA c.Syncs.length sC) 0 rfl tk62 rfl rfl) <| rS (MV rfl) ?_
   obtain ⟨x, hx⟩ : ∃ y_, c.Syncs[i]? = some y_ := ⟨c.Syncs[i]'(by omega), List.getElem?_eq_getElem _⟩
   have hxm : (c.Syncs.map SyncV.cells)[i]? = some (SyncV.cells x) := by rw [List.getElem?_map, hx]; rfl
   refine rS (IA i rfl (has_at 1 rfl) te62 (by decide) (by omega) (by omega)) <| rS (LEN i 0 (SyncV.cells x) rfl tk61 (has_at 1 rfl) hxm rfl (by decide) rfl rfl) <| AL rfl tz61 fun b14 => SW0 rfl ts61 rfl <| RK hK13 <| w_seq fun _ hK15 => w_draw mixed 41 (by kernel_rfl) <| dS (FA 0 rfl fo61_0 rfl) <| dS (L1 (Value.int .i64 x.At) 0 rfl tk3 rfl rfl) <| dS (CL (within_5 x.At 0 86400000) (ha_nil) rfl) ?_
   refine dS (NT rfl) <| dS (MV rfl) ?_
   refine d_bool (t := 37) rfl (fun h37 => ?_) (fun h37 => ?_)
   · replace h37 := XT h37
     refine dS (OX rfl) <| dS (OX rfl) <| dS (OX rfl) <| dS (OX rfl) <| dS (OX rfl) <| dS (OX rfl) <| dS (OX rfl) <| dS (OX rfl) <| dS (OX rfl) <| dS (OX rfl) ?_
     refine dS (OX rfl) <| dS (OX rfl) <| dS (OX rfl) <| dS (OX rfl) <| dS (PK rfl) <| dS (MV rfl) <| dS (OX rfl) <| dS (OX rfl) <| dS (OX rfl) <| dS (OX rfl) ?_
     refine dS (PK rfl) <| dS (MV rfl) <| dS (OX rfl) <| dS (OX rfl) <| dS (OX rfl) <| dS (OX rfl) <| dS (OX rfl) <| dS (OX rfl) <| dS (OX rfl) <| dS (PK rfl) ?_
     refine dS (MV rfl) <| dS (OX rfl) <| dS (OX rfl) <| dS (OX rfl) <| dS (OX rfl) <| dS (PK rfl) <| d_end <| RK hK15 <| w_if_true rfl <| WS fun _ hK16 => ?_
     refine rS (AG rfl) <| RK hK16 <| w_ret <| Q1 hQ rfl rfl rfl ?_
     first | exact congrArg Value.bool (decide_eq_false fun h => by have q1 := h.drift; have q2 := h.len; omega).symm | exact congrArg Value.bool (decide_eq_false fun h => by have q := h.sync i x hx; unfold SyncOk at q; first | (rw [prevAt_zero (by omega)] at q; omega) | (rw [prevAt_pos (by omega) hy] at q; omega) | omega).symm | exact congrArg Value.bool (decide_eq_false fun h => by have q := h.pair m k y x hy (by omega) hx; unfold PairOk at q; omega).symm | exact congrArg Value.bool (decide_eq_true (clock_ok (by omega) (by omega) (upto_all (by omega) hl4_1) (by omega) hl10_1)).symm
   replace h37 := XF h37
   refine dS (MV rfl) <| dS (BI rfl b_gtr) <| dS (MV rfl) ?_
   refine d_bool (t := 40) rfl (fun h40 => ?_) (fun h40 => ?_)
   rotate_left 1
   · replace h40 := DF h40
     refine dS (OX rfl) <| dS (OX rfl) <| dS (OX rfl) <| dS (OX rfl) <| dS (OX rfl) <| dS (OX rfl) <| dS (OX rfl) <| dS (OX rfl) <| dS (OX rfl) <| dS (OX rfl) ?_
     refine dS (PK rfl) <| dS (PK rfl) <| dS (MV rfl) <| dS (FA 1 rfl fo61_1 rfl) <| dS (FA 1 rfl fo34_0 rfl) <| dS (L1 (Value.int .i64 x.Ahead.Lo) 0 rfl tk3 rfl rfl) <| dS (BI rfl b_lss) <| dS (PK rfl) <| dS (MV rfl) ?_
     refine d_bool (t := 59) rfl (fun h59 => ?_) (fun h59 => ?_)
     · replace h59 := DT h59
       refine dS (OX rfl) <| dS (OX rfl) <| dS (OX rfl) <| dS (OX rfl) <| dS (OX rfl) <| dS (OX rfl) <| dS (OX rfl) <| dS (PK rfl) <| dS (MV rfl) <| dS (OX rfl) ?_
       refine dS (OX rfl) <| dS (OX rfl) <| dS (OX rfl) <| dS (PK rfl) <| d_end <| RK hK15 <| w_if_true rfl <| WS fun _ hK22 => rS (AG rfl) <| RK hK22 ?_
       refine w_ret <| Q1 hQ rfl rfl rfl ?_
       first | exact congrArg Value.bool (decide_eq_false fun h => by have q1 := h.drift; have q2 := h.len; omega).symm | exact congrArg Value.bool (decide_eq_false fun h => by have q := h.sync i x hx; unfold SyncOk at q; first | (rw [prevAt_zero (by omega)] at q; omega) | (rw [prevAt_pos (by omega) hy] at q; omega) | omega).symm | exact congrArg Value.bool (decide_eq_false fun h => by have q := h.pair m k y x hy (by omega) hx; unfold PairOk at q; omega).symm | exact congrArg Value.bool (decide_eq_true (clock_ok (by omega) (by omega) (upto_all (by omega) hl4_1) (by omega) hl10_1)).symm
     replace h59 := DF h59
     refine dS (FA 1 rfl fo61_1 rfl) <| dS (FA 1 rfl fo34_0 rfl) <| dS (L1 (Value.int .i64 x.Ahead.Lo) 0 rfl tk3 rfl rfl) <| dS (FA 1 rfl fo61_1 rfl) <| dS (FA 2 rfl fo34_1 rfl) <| dS (L1 (Value.int .i64 x.Ahead.Hi) 0 rfl tk3 rfl rfl) <| dS (BI rfl b_gtr) <| dS (PK rfl) <| dS (MV rfl) ?_
     refine d_bool (t := 68) rfl (fun h68 => ?_) (fun h68 => ?_)
     · replace h68 := DT h68
       refine dS (OX rfl) <| dS (OX rfl) <| dS (OX rfl) <| dS (OX rfl) <| dS (PK rfl) <| d_end <| RK hK15 <| w_if_true rfl <| WS fun _ hK23 => rS (AG rfl) ?_
       refine RK hK23 <| w_ret <| Q1 hQ rfl rfl rfl ?_
       first | exact congrArg Value.bool (decide_eq_false fun h => by have q1 := h.drift; have q2 := h.len; omega).symm | exact congrArg Value.bool (decide_eq_false fun h => by have q := h.sync i x hx; unfold SyncOk at q; first | (rw [prevAt_zero (by omega)] at q; omega) | (rw [prevAt_pos (by omega) hy] at q; omega) | omega).symm | exact congrArg Value.bool (decide_eq_false fun h => by have q := h.pair m k y x hy (by omega) hx; unfold PairOk at q; omega).symm | exact congrArg Value.bool (decide_eq_true (clock_ok (by omega) (by omega) (upto_all (by omega) hl4_1) (by omega) hl10_1)).symm
     replace h68 := DF h68
     refine dS (FA 1 rfl fo61_1 rfl) <| dS (FA 2 rfl fo34_1 rfl) <| dS (L1 (Value.int .i64 x.Ahead.Hi) 0 rfl tk3 rfl rfl) <| dS (BI rfl b_gtr) <| dS (PK rfl) <| d_end <| RK hK15 ?_
     refine w_if rfl (fun h73 => ?_) (fun h73 => ?_)
     rotate_left 1
     · replace h73 := DF h73
       refine w_skip <| k_block <| KK hK12 <| w_region <| rS (MV rfl) <| rS (BI rfl (b_add ⟨by omega, by omega⟩)) <| rS (AG rfl) <| r_nil ?_
       have hb25 : (Value.int .i64 (((i + 1) : Nat) : Int)) = (Value.int .i64 (((i : Nat) : Int) + 1)) := by exact congrArg (Value.int .i64) (by omega)
       refine k_then (hJ9 ⟨(i + 1), ⟨by omega, upto_succ hl4_1 hx (by unfold SyncOk; first | (rw [prevAt_zero (by omega)]; omega) | (rw [prevAt_pos (by omega) hy]; omega))⟩⟩ _ _ _ rfl (by first | omega | (simp; omega)) (Sub.cons rfl <| sub_val rfl hb25 <| Sub.nil _) (fun w hs => St.sel [1, 2] rfl rfl hs))
     replace h73 := DT h73
     refine WS fun _ hK24 => rS (AG rfl) <| RK hK24 <| w_ret <| Q1 hQ rfl rfl rfl ?_
     first | exact congrArg Value.bool (decide_eq_false fun h => by have q1 := h.drift; have q2 := h.len; omega).symm | exact congrArg Value.bool (decide_eq_false fun h => by have q := h.sync i x hx; unfold SyncOk at q; first | (rw [prevAt_zero (by omega)] at q; omega) | (rw [prevAt_pos (by omega) hy] at q; omega) | omega).symm | exact congrArg Value.bool (decide_eq_false fun h => by have q := h.pair m k y x hy (by omega) hx; unfold PairOk at q; omega).symm | exact congrArg Value.bool (decide_eq_true (clock_ok (by omega) (by omega) (upto_all (by omega) hl4_1) (by omega) hl10_1)).symm
   replace h40 := DT h40
   refine dS (FA 0 rfl fo61_0 rfl) <| dS (L1 (Value.int .i64 x.At) 0 rfl tk3 rfl rfl) <| dS (FA 1 rfl fo64_1 rfl) <| dS (L1 (Value.slice sA c.Syncs.length sC) 1 rfl tk62 rfl rfl) <| dS (MV rfl) <| dS (BI rfl (b_sub ⟨by omega, by omega⟩)) ?_
   obtain ⟨y, hy⟩ : ∃ y_, c.Syncs[(i - 1)]? = some y_ := ⟨c.Syncs[(i - 1)]'(by omega), List.getElem?_eq_getElem _⟩
   have hym : (c.Syncs.map SyncV.cells)[(i - 1)]? = some (SyncV.cells y) := by rw [List.getElem?_map, hy]; rfl
   refine dS (IA (i - 1) rfl (has_at 2 rfl) te62 (by decide) (by omega) (by omega)) <| dS (FAR ((i - 1) * 3) rfl (has_at 2 rfl) (Nat.mul_pos (by omega) (by decide)) fo61_0 rfl) <| dS (LE1 (i - 1) 0 (Value.int .i64 y.At) rfl tk3 (has_at 2 rfl) hym rfl (by decide) rfl) <| dS (BI rfl b_leq) <| dS (PK rfl) <| dS (PK rfl) <| dS (MV rfl) ?_
   refine d_bool (t := 53) rfl (fun h53 => ?_) (fun h53 => ?_)
   · replace h53 := DT h53
     refine dS (OX rfl) <| dS (OX rfl) <| dS (OX rfl) <| dS (OX rfl) <| dS (PK rfl) <| dS (MV rfl) <| dS (OX rfl) <| dS (OX rfl) <| dS (OX rfl) <| dS (OX rfl) ?_
     refine dS (OX rfl) <| dS (OX rfl) <| dS (OX rfl) <| dS (PK rfl) <| dS (MV rfl) <| dS (OX rfl) <| dS (OX rfl) <| dS (OX rfl) <| dS (OX rfl) <| dS (PK rfl) ?_
     refine d_end <| RK hK15 <| w_if_true rfl <| WS fun _ hK17 => rS (AG rfl) <| RK hK17 <| w_ret <| Q1 hQ rfl rfl rfl ?_
     first | exact congrArg Value.bool (decide_eq_false fun h => by have q1 := h.drift; have q2 := h.len; omega).symm | exact congrArg Value.bool (decide_eq_false fun h => by have q := h.sync i x hx; unfold SyncOk at q; first | (rw [prevAt_zero (by omega)] at q; omega) | (rw [prevAt_pos (by omega) hy] at q; omega) | omega).symm | exact congrArg Value.bool (decide_eq_false fun h => by have q := h.pair m k y x hy (by omega) hx; unfold PairOk at q; omega).symm | exact congrArg Value.bool (decide_eq_true (clock_ok (by omega) (by omega) (upto_all (by omega) hl4_1) (by omega) hl10_1)).symm
   replace h53 := DF h53
   refine dS (FA 1 rfl fo61_1 rfl) <| dS (FA 1 rfl fo34_0 rfl) <| dS (L1 (Value.int .i64 x.Ahead.Lo) 0 rfl tk3 rfl rfl) <| dS (BI rfl b_lss) <| dS (PK rfl) <| dS (MV rfl) ?_
   refine d_bool (t := 59) rfl (fun h59 => ?_) (fun h59 => ?_)
   · replace h59 := DT h59
     refine dS (OX rfl) <| dS (OX rfl) <| dS (OX rfl) <| dS (OX rfl) <| dS (OX rfl) <| dS (OX rfl) <| dS (OX rfl) <| dS (PK rfl) <| dS (MV rfl) <| dS (OX rfl) ?_
     refine dS (OX rfl) <| dS (OX rfl) <| dS (OX rfl) <| dS (PK rfl) <| d_end <| RK hK15 <| w_if_true rfl <| WS fun _ hK18 => rS (AG rfl) <| RK hK18 ?_
     refine w_ret <| Q1 hQ rfl rfl rfl ?_
     first | exact congrArg Value.bool (decide_eq_false fun h => by have q1 := h.drift; have q2 := h.len; omega).symm | exact congrArg Value.bool (decide_eq_false fun h => by have q := h.sync i x hx; unfold SyncOk at q; first | (rw [prevAt_zero (by omega)] at q; omega) | (rw [prevAt_pos (by omega) hy] at q; omega) | omega).symm | exact congrArg Value.bool (decide_eq_false fun h => by have q := h.pair m k y x hy (by omega) hx; unfold PairOk at q; omega).symm | exact congrArg Value.bool (decide_eq_true (clock_ok (by omega) (by omega) (upto_all (by omega) hl4_1) (by omega) hl10_1)).symm
   replace h59 := DF h59
   refine dS (FA 1 rfl fo61_1 rfl) <| dS (FA 1 rfl fo34_0 rfl) <| dS (L1 (Value.int .i64 x.Ahead.Lo) 0 rfl tk3 rfl rfl) <| dS (FA 1 rfl fo61_1 rfl) <| dS (FA 2 rfl fo34_1 rfl) <| dS (L1 (Value.int .i64 x.Ahead.Hi) 0 rfl tk3 rfl rfl) <| dS (BI rfl b_gtr) <| dS (PK rfl) <| dS (MV rfl) ?_
   refine d_bool (t := 68) rfl (fun h68 => ?_) (fun h68 => ?_)
   · replace h68 := DT h68
     refine dS (OX rfl) <| dS (OX rfl) <| dS (OX rfl) <| dS (OX rfl) <| dS (PK rfl) <| d_end <| RK hK15 <| w_if_true rfl <| WS fun _ hK19 => rS (AG rfl) ?_
     refine RK hK19 <| w_ret <| Q1 hQ rfl rfl rfl ?_
     first | exact congrArg Value.bool (decide_eq_false fun h => by have q1 := h.drift; have q2 := h.len; omega).symm | exact congrArg Value.bool (decide_eq_false fun h => by have q := h.sync i x hx; unfold SyncOk at q; first | (rw [prevAt_zero (by omega)] at q; omega) | (rw [prevAt_pos (by omega) hy] at q; omega) | omega).symm | exact congrArg Value.bool (decide_eq_false fun h => by have q := h.pair m k y x hy (by omega) hx; unfold PairOk at q; omega).symm | exact congrArg Value.bool (decide_eq_true (clock_ok (by omega) (by omega) (upto_all (by omega) hl4_1) (by omega) hl10_1)).symm
   replace h68 := DF h68
   refine dS (FA 1 rfl fo61_1 rfl) <| dS (FA 2 rfl fo34_1 rfl) <| dS (L1 (Value.int .i64 x.Ahead.Hi) 0 rfl tk3 rfl rfl) <| dS (BI rfl b_gtr) <| dS (PK rfl) <| d_end <| RK hK15 ?_
   refine w_if rfl (fun h73 => ?_) (fun h73 => ?_)
   rotate_left 1
   · replace h73 := DF h73
     refine w_skip <| k_block <| KK hK12 <| w_region <| rS (MV rfl) <| rS (BI rfl (b_add ⟨by omega, by omega⟩)) <| rS (AG rfl) <| r_nil ?_
     have hb21 : (Value.int .i64 (((i + 1) : Nat) : Int)) = (Value.int .i64 (((i : Nat) : Int) + 1)) := by exact congrArg (Value.int .i64) (by omega)
     refine k_then (hJ9 ⟨(i + 1), ⟨by omega, upto_succ hl4_1 hx (by unfold SyncOk; first | (rw [prevAt_zero (by omega)]; omega) | (rw [prevAt_pos (by omega) hy]; omega))⟩⟩ _ _ _ rfl (by first | omega | (simp; omega)) (Sub.cons rfl <| sub_val rfl hb21 <| Sub.nil _) (fun w hs => St.sel [1, 2] rfl rfl hs))
   replace h73 := DT h73
   refine WS fun _ hK20 => rS (AG rfl) <| RK hK20 <| w_ret <| Q1 hQ rfl rfl rfl ?_
   first | exact congrArg Value.bool (decide_eq_false fun h => by have q1 := h.drift; have q2 := h.len; omega).symm | exact congrArg Value.bool (decide_eq_false fun h => by have q := h.sync i x hx; unfold SyncOk at q; first | (rw [prevAt_zero (by omega)] at q; omega) | (rw [prevAt_pos (by omega) hy] at q; omega) | omega).symm | exact congrArg Value.bool (decide_eq_false fun h => by have q := h.pair m k y x hy (by omega) hx; unfold PairOk at q; omega).symm | exact congrArg Value.bool (decide_eq_true (clock_ok (by omega) (by omega) (upto_all (by omega) hl4_1) (by omega) hl10_1)).symm
 replace h25 := DF h25
 refine w_exit <| k_exit_then <| k_exit_then <| k_exit_same <| KK hK7 <| w_seq fun _ hK26 => WS fun _ hK27 => rS (AG rfl) <| RK hK27 <| w_block ?_
 have hinit : (0 ≤ c.Syncs.length) ∧ (PairsOk c 0) := by exact ⟨Nat.zero_le _, fun j y hj => absurd hj (Nat.not_lt_zero _)⟩
 refine w_loop (ι := { z : Nat // (z ≤ c.Syncs.length) ∧ (PairsOk c z) }) (fun z => [(1, (Value.pointer (some ⟨b2, 0, none⟩))), (5, (Value.int .i64 ((z.1 : Nat) : Int)))]) (fun z => [(blk b2 64 (ClockV.cells (ClockV.mk c.Drift (Slc.mk sA c.Syncs.length sC)))), (rd sA c.Syncs.length 3 (c.Syncs.map SyncV.cells)).ro]) (fun z => c.Syncs.length - z.1) ⟨0, hinit⟩ (Sub.cons rfl <| Sub.cons rfl <| Sub.nil _) (fun w hs => St.sel [0, 1] rfl rfl hs) ?_
 clear hinit
 rintro ⟨m, ⟨hl10_0, hl10_1⟩⟩ J28 hJ28
 try dsimp only
 have hall := upto_all (P := SyncOk c) (by omega) hl4_1
 refine w_seq fun _ hK29 => WS fun _ hK30 => rS (MV rfl) <| rS (FA 1 rfl fo64_1 rfl) <| rS (L1 (Value.slice sA c.Syncs.length sC) 0 rfl tk62 rfl rfl) <| rS (LN rfl ut62) <| rS (BI rfl b_lss) <| RK hK30 ?_
 refine w_if rfl (fun h78 => ?_) (fun h78 => ?_)
 rotate_left 1
 · replace h78 := DF h78
   refine w_exit <| k_exit_then <| k_exit_then <| k_exit_same <| KK hK26 <| WS fun _ hK61 => rS (AG rfl) <| RK hK61 <| w_ret <| Q1 hQ rfl rfl rfl ?_
   first | exact congrArg Value.bool (decide_eq_false fun h => by have q1 := h.drift; have q2 := h.len; omega).symm | exact congrArg Value.bool (decide_eq_false fun h => by have q := h.sync i x hx; unfold SyncOk at q; first | (rw [prevAt_zero (by omega)] at q; omega) | (rw [prevAt_pos (by omega) hy] at q; omega) | omega).symm | exact congrArg Value.bool (decide_eq_false fun h => by have q := h.pair m k y x hy (by omega) hx; unfold PairOk at q; omega).symm | exact congrArg Value.bool (decide_eq_true (clock_ok (by omega) (by omega) (upto_all (by omega) hl4_1) (by omega) hl10_1)).symm
 replace h78 := DT h78
 refine WK hK29 <| w_seq fun _ hK31 => w_block <| WS fun _ hK32 => rS (AG rfl) <| RK hK32 <| w_block ?_
 have hinit : (0 ≤ m) ∧ (∀ y, c.Syncs[m]? = some y → PairK c y 0) := by exact ⟨Nat.zero_le _, fun y _ j o hj => absurd hj (Nat.not_lt_zero _)⟩
 refine w_loop (ι := { z : Nat // (z ≤ m) ∧ (∀ y, c.Syncs[m]? = some y → PairK c y z) }) (fun z => [(1, (Value.pointer (some ⟨b2, 0, none⟩))), (5, (Value.int .i64 ((m : Nat) : Int))), (6, (Value.int .i64 ((z.1 : Nat) : Int)))]) (fun z => [(blk b2 64 (ClockV.cells (ClockV.mk c.Drift (Slc.mk sA c.Syncs.length sC)))), (rd sA c.Syncs.length 3 (c.Syncs.map SyncV.cells)).ro]) (fun z => m - z.1) ⟨0, hinit⟩ (Sub.cons rfl <| Sub.cons rfl <| Sub.cons rfl <| Sub.nil _) (fun w hs => St.sel [0, 1] rfl rfl hs) ?_
 clear hinit
 rintro ⟨k, ⟨hl13_0, hl13_1⟩⟩ J33 hJ33
 try dsimp only
 refine w_seq fun _ hK34 => WS fun _ hK35 => rS (MV rfl) <| rS (MV rfl) <| rS (BI rfl b_lss) <| RK hK35 ?_
 refine w_if rfl (fun h83 => ?_) (fun h83 => ?_)
 rotate_left 1
 · replace h83 := DF h83
   refine w_exit <| k_exit_then <| k_exit_then <| k_exit_same <| k_block <| KK hK31 <| w_region <| rS (MV rfl) <| rS (BI rfl (b_add ⟨by omega, by omega⟩)) <| rS (AG rfl) ?_
   refine r_nil ?_
   have hb60 : (Value.int .i64 (((m + 1) : Nat) : Int)) = (Value.int .i64 (((m : Nat) : Int) + 1)) := by exact congrArg (Value.int .i64) (by omega)
   refine k_then (hJ28 ⟨(m + 1), ⟨by omega, pairs_succ hl10_1 hl13_1 (by omega)⟩⟩ _ _ _ rfl (by first | omega | (simp; omega)) (Sub.cons rfl <| sub_val rfl hb60 <| Sub.nil _) (fun w hs => St.sel [0, 1] rfl rfl hs))
 replace h83 := DT h83
 refine WK hK34 <| w_seq fun _ hK36 => w_block <| w_seq fun _ hK37 => w_drawN mixed [0, 1, 2, 3, 4, 5, 6, 7, 8, 9] [10, 11, 12, 13] [false, false, false, false, false, false, false, false, false, false] [] [(blk b2 64 (ClockV.cells (ClockV.mk c.Drift (Slc.mk sA c.Syncs.length sC)))), (rd sA c.Syncs.length 3 (c.Syncs.map SyncV.cells)).ro] [] (by kernel_rfl) (fun w hs => St.sel [0, 1] rfl rfl hs) (fun w hs => St.sel [] rfl rfl hs) <| eS rfl (FA 1 rfl fo64_1 rfl) <| eS rfl (L1 (Value.slice sA c.Syncs.length sC) 0 rfl tk62 rfl rfl) <| eS rfl (MV rfl) ?_
 obtain ⟨x, hx⟩ : ∃ y_, c.Syncs[k]? = some y_ := ⟨c.Syncs[k]'(by omega), List.getElem?_eq_getElem _⟩
 have hxm : (c.Syncs.map SyncV.cells)[k]? = some (SyncV.cells x) := by rw [List.getElem?_map, hx]; rfl
 refine eS rfl (IA k rfl (has_at 1 rfl) te62 (by decide) (by omega) (by omega)) <| eS rfl (LEN k 0 (SyncV.cells x) rfl tk61 (has_at 1 rfl) hxm rfl (by decide) rfl rfl) <| eS rfl (FA 1 rfl fo64_1 rfl) <| eS rfl (L1 (Value.slice sA c.Syncs.length sC) 0 rfl tk62 rfl rfl) <| eS rfl (MV rfl) ?_
 obtain ⟨y, hy⟩ : ∃ y_, c.Syncs[m]? = some y_ := ⟨c.Syncs[m]'(by omega), List.getElem?_eq_getElem _⟩
 have hym : (c.Syncs.map SyncV.cells)[m]? = some (SyncV.cells y) := by rw [List.getElem?_map, hy]; rfl
 refine eS rfl (IA m rfl (has_at 1 rfl) te62 (by decide) (by omega) (by omega)) <| eS rfl (LEN m 0 (SyncV.cells y) rfl tk61 (has_at 1 rfl) hym rfl (by decide) rfl rfl) <| d_fin rfl ?_
 refine n_step [10, 11] (by kernel_rfl) (n_cons ?_ <| n_cons ?_ <| n_nil)
 rotate_left 1
 · refine n_op (rem' := [10, 12, 13]) rfl (by kernel_rfl) rfl fun T49 hT49 => ?_
   refine AL rfl tz61 fun b50 => ?_
   refine r_nil (hT49 _ _ (fun w hs => St.sel [1, 2] rfl rfl hs) ?_)
   refine n_step [10] (by kernel_rfl) (n_cons ?_ <| n_nil)
   refine n_op (rem' := [12, 13]) rfl (by kernel_rfl) rfl fun T51 hT51 => AL rfl tz61 fun b52 => ?_
   refine r_nil (hT51 _ _ (fun w hs => St.sel [2, 3] rfl rfl hs) ?_)
   refine n_step [12] (by kernel_rfl) (n_cons ?_ <| n_nil)
   refine n_op (rem' := [13]) rfl (by kernel_rfl) rfl fun T53 hT53 => SW0 rfl ts61 rfl ?_
   refine r_nil (hT53 _ _ (fun w hs => St.sel [2, 3] rfl rfl hs) ?_)
   refine n_step [13] (by kernel_rfl) (n_cons ?_ <| n_nil)
   refine n_op (rem' := []) rfl (by kernel_rfl) rfl fun T54 hT54 => SW1 rfl ts61 rfl ?_
   refine r_nil (hT54 _ _ (fun w hs => St.sel [2, 3] rfl rfl hs) ?_)
   refine n_fin <| KK hK37 <| WS fun _ hK55 => rS (FA 0 rfl fo64_0 rfl) <| rS (L1 (Value.int .i64 c.Drift) 2 rfl tk3 rfl rfl) <| rS (FA 0 rfl fo61_0 rfl) <| rS (L1 (Value.int .i64 y.At) 1 rfl tk3 rfl rfl) <| rS (FA 0 rfl fo61_0 rfl) <| rS (L1 (Value.int .i64 x.At) 0 rfl tk3 rfl rfl) ?_
   obtain ⟨hq1, hq2, hq3⟩ := sync_pair (fun j z _ hz => hall j z hz) hy (hall _ _ hy) (show k < m by omega) hx
   refine rS (BI rfl (b_sub ⟨by omega, by omega⟩)) <| rS (CL (drifts_c c.Drift (y.At - x.At) (by omega) (by first | assumption | omega | (simp; done) | (simp; omega))) (ha_nil) rfl) <| rS (AG rfl) <| RK hK55 <| WS fun _ hK56 => rS (FA 1 rfl fo61_1 rfl) <| rS (FA 1 rfl fo34_0 rfl) <| rS (L1 (Value.int .i64 x.Ahead.Lo) 0 rfl tk3 rfl rfl) <| rS (FA 1 rfl fo61_1 rfl) <| rS (FA 2 rfl fo34_1 rfl) ?_
   refine rS (L1 (Value.int .i64 y.Ahead.Hi) 1 rfl tk3 rfl rfl) <| rS (BI rfl (b_sub ⟨by omega, by omega⟩)) <| rS (MV rfl) <| rS (BI rfl b_gtr) <| rS (MV rfl) ?_
   refine r_bool (t := 113) rfl (fun h113 => ?_) (fun h113 => ?_)
   · replace h113 := DT h113
     refine rS (OX rfl) <| rS (OX rfl) <| rS (OX rfl) <| rS (OX rfl) <| rS (OX rfl) <| rS (OX rfl) <| rS (OX rfl) <| rS (OX rfl) <| rS (OX rfl) <| rS (PK rfl) ?_
     refine RK hK56 <| w_if_true rfl <| WS fun _ hK57 => rS (AG rfl) <| RK hK57 <| w_ret <| Q1 hQ rfl rfl rfl ?_
     first | exact congrArg Value.bool (decide_eq_false fun h => by have q1 := h.drift; have q2 := h.len; omega).symm | exact congrArg Value.bool (decide_eq_false fun h => by have q := h.sync i x hx; unfold SyncOk at q; first | (rw [prevAt_zero (by omega)] at q; omega) | (rw [prevAt_pos (by omega) hy] at q; omega) | omega).symm | exact congrArg Value.bool (decide_eq_false fun h => by have q := h.pair m k y x hy (by omega) hx; unfold PairOk at q; omega).symm | exact congrArg Value.bool (decide_eq_true (clock_ok (by omega) (by omega) (upto_all (by omega) hl4_1) (by omega) hl10_1)).symm
   replace h113 := DF h113
   refine rS (FA 1 rfl fo61_1 rfl) <| rS (FA 1 rfl fo34_0 rfl) <| rS (L1 (Value.int .i64 y.Ahead.Lo) 1 rfl tk3 rfl rfl) <| rS (FA 1 rfl fo61_1 rfl) <| rS (FA 2 rfl fo34_1 rfl) <| rS (L1 (Value.int .i64 x.Ahead.Hi) 0 rfl tk3 rfl rfl) <| rS (BI rfl (b_sub ⟨by omega, by omega⟩)) <| rS (MV rfl) <| rS (BI rfl b_gtr) <| rS (PK rfl) ?_
   refine RK hK56 ?_
   refine w_if rfl (fun h123 => ?_) (fun h123 => ?_)
   rotate_left 1
   · replace h123 := DF h123
     refine w_skip <| k_block <| KK hK36 <| w_region <| rS (MV rfl) <| rS (BI rfl (b_add ⟨by omega, by omega⟩)) <| rS (AG rfl) <| r_nil ?_
     have hb59 : (Value.int .i64 (((k + 1) : Nat) : Int)) = (Value.int .i64 (((k : Nat) : Int) + 1)) := by exact congrArg (Value.int .i64) (by omega)
     refine k_then (hJ33 ⟨(k + 1), ⟨by omega, fun z hz => by rw [hy] at hz; cases hz; exact upto_succ (hl13_1 _ hy) hx (by unfold PairOk; omega)⟩⟩ _ _ _ rfl (by first | omega | (simp; omega)) (Sub.cons rfl <| Sub.cons rfl <| sub_val rfl hb59 <| Sub.nil _) (fun w hs => St.sel [2, 3] rfl rfl hs))
   replace h123 := DT h123
   refine WS fun _ hK58 => rS (AG rfl) <| RK hK58 <| w_ret <| Q1 hQ rfl rfl rfl ?_
   first | exact congrArg Value.bool (decide_eq_false fun h => by have q1 := h.drift; have q2 := h.len; omega).symm | exact congrArg Value.bool (decide_eq_false fun h => by have q := h.sync i x hx; unfold SyncOk at q; first | (rw [prevAt_zero (by omega)] at q; omega) | (rw [prevAt_pos (by omega) hy] at q; omega) | omega).symm | exact congrArg Value.bool (decide_eq_false fun h => by have q := h.pair m k y x hy (by omega) hx; unfold PairOk at q; omega).symm | exact congrArg Value.bool (decide_eq_true (clock_ok (by omega) (by omega) (upto_all (by omega) hl4_1) (by omega) hl10_1)).symm
 refine n_op (rem' := [11, 12, 13]) rfl (by kernel_rfl) rfl fun T38 hT38 => AL rfl tz61 fun b39 => ?_
 refine r_nil (hT38 _ _ (fun w hs => St.sel [1, 2] rfl rfl hs) ?_)
 refine n_step [11] (by kernel_rfl) (n_cons ?_ <| n_nil)
 refine n_op (rem' := [12, 13]) rfl (by kernel_rfl) rfl fun T40 hT40 => AL rfl tz61 fun b41 => ?_
 refine r_nil (hT40 _ _ (fun w hs => St.sel [2, 3] rfl rfl hs) ?_)
 refine n_step [12] (by kernel_rfl) (n_cons ?_ <| n_nil)
 refine n_op (rem' := [13]) rfl (by kernel_rfl) rfl fun T42 hT42 => SW1 rfl ts61 rfl ?_
 refine r_nil (hT42 _ _ (fun w hs => St.sel [2, 3] rfl rfl hs) ?_)
 refine n_step [13] (by kernel_rfl) (n_cons ?_ <| n_nil)
 refine n_op (rem' := []) rfl (by kernel_rfl) rfl fun T43 hT43 => SW0 rfl ts61 rfl ?_
 refine r_nil (hT43 _ _ (fun w hs => St.sel [2, 3] rfl rfl hs) ?_)
 refine n_fin <| KK hK37 <| WS fun _ hK44 => rS (FA 0 rfl fo64_0 rfl) <| rS (L1 (Value.int .i64 c.Drift) 2 rfl tk3 rfl rfl) <| rS (FA 0 rfl fo61_0 rfl) <| rS (L1 (Value.int .i64 y.At) 0 rfl tk3 rfl rfl) <| rS (FA 0 rfl fo61_0 rfl) <| rS (L1 (Value.int .i64 x.At) 1 rfl tk3 rfl rfl) ?_
 obtain ⟨hq1, hq2, hq3⟩ := sync_pair (fun j z _ hz => hall j z hz) hy (hall _ _ hy) (show k < m by omega) hx
 refine rS (BI rfl (b_sub ⟨by omega, by omega⟩)) <| rS (CL (drifts_c c.Drift (y.At - x.At) (by omega) (by first | assumption | omega | (simp; done) | (simp; omega))) (ha_nil) rfl) <| rS (AG rfl) <| RK hK44 <| WS fun _ hK45 => rS (FA 1 rfl fo61_1 rfl) <| rS (FA 1 rfl fo34_0 rfl) <| rS (L1 (Value.int .i64 x.Ahead.Lo) 1 rfl tk3 rfl rfl) <| rS (FA 1 rfl fo61_1 rfl) <| rS (FA 2 rfl fo34_1 rfl) ?_
 refine rS (L1 (Value.int .i64 y.Ahead.Hi) 0 rfl tk3 rfl rfl) <| rS (BI rfl (b_sub ⟨by omega, by omega⟩)) <| rS (MV rfl) <| rS (BI rfl b_gtr) <| rS (MV rfl) ?_
 refine r_bool (t := 113) rfl (fun h113 => ?_) (fun h113 => ?_)
 · replace h113 := DT h113
   refine rS (OX rfl) <| rS (OX rfl) <| rS (OX rfl) <| rS (OX rfl) <| rS (OX rfl) <| rS (OX rfl) <| rS (OX rfl) <| rS (OX rfl) <| rS (OX rfl) <| rS (PK rfl) ?_
   refine RK hK45 <| w_if_true rfl <| WS fun _ hK46 => rS (AG rfl) <| RK hK46 <| w_ret <| Q1 hQ rfl rfl rfl ?_
   first | exact congrArg Value.bool (decide_eq_false fun h => by have q1 := h.drift; have q2 := h.len; omega).symm | exact congrArg Value.bool (decide_eq_false fun h => by have q := h.sync i x hx; unfold SyncOk at q; first | (rw [prevAt_zero (by omega)] at q; omega) | (rw [prevAt_pos (by omega) hy] at q; omega) | omega).symm | exact congrArg Value.bool (decide_eq_false fun h => by have q := h.pair m k y x hy (by omega) hx; unfold PairOk at q; omega).symm | exact congrArg Value.bool (decide_eq_true (clock_ok (by omega) (by omega) (upto_all (by omega) hl4_1) (by omega) hl10_1)).symm
 replace h113 := DF h113
 refine rS (FA 1 rfl fo61_1 rfl) <| rS (FA 1 rfl fo34_0 rfl) <| rS (L1 (Value.int .i64 y.Ahead.Lo) 0 rfl tk3 rfl rfl) <| rS (FA 1 rfl fo61_1 rfl) <| rS (FA 2 rfl fo34_1 rfl) <| rS (L1 (Value.int .i64 x.Ahead.Hi) 1 rfl tk3 rfl rfl) <| rS (BI rfl (b_sub ⟨by omega, by omega⟩)) <| rS (MV rfl) <| rS (BI rfl b_gtr) <| rS (PK rfl) ?_
 refine RK hK45 ?_
 refine w_if rfl (fun h123 => ?_) (fun h123 => ?_)
 rotate_left 1
 · replace h123 := DF h123
   refine w_skip <| k_block <| KK hK36 <| w_region <| rS (MV rfl) <| rS (BI rfl (b_add ⟨by omega, by omega⟩)) <| rS (AG rfl) <| r_nil ?_
   have hb48 : (Value.int .i64 (((k + 1) : Nat) : Int)) = (Value.int .i64 (((k : Nat) : Int) + 1)) := by exact congrArg (Value.int .i64) (by omega)
   refine k_then (hJ33 ⟨(k + 1), ⟨by omega, fun z hz => by rw [hy] at hz; cases hz; exact upto_succ (hl13_1 _ hy) hx (by unfold PairOk; omega)⟩⟩ _ _ _ rfl (by first | omega | (simp; omega)) (Sub.cons rfl <| Sub.cons rfl <| sub_val rfl hb48 <| Sub.nil _) (fun w hs => St.sel [2, 3] rfl rfl hs))
 replace h123 := DT h123
 refine WS fun _ hK47 => rS (AG rfl) <| RK hK47 <| w_ret <| Q1 hQ rfl rfl rfl ?_
 first | exact congrArg Value.bool (decide_eq_false fun h => by have q1 := h.drift; have q2 := h.len; omega).symm | exact congrArg Value.bool (decide_eq_false fun h => by have q := h.sync i x hx; unfold SyncOk at q; first | (rw [prevAt_zero (by omega)] at q; omega) | (rw [prevAt_pos (by omega) hy] at q; omega) | omega).symm | exact congrArg Value.bool (decide_eq_false fun h => by have q := h.pair m k y x hy (by omega) hx; unfold PairOk at q; omega).symm | exact congrArg Value.bool (decide_eq_true (clock_ok (by omega) (by omega) (upto_all (by omega) hl4_1) (by omega) hl10_1)).symm
set_option maxRecDepth 100000 in
set_option maxHeartbeats 400000 in
theorem rway_c (l : LineM) (kA : Option Addr) (kC : Nat) (az : List RA) (cA : Option Addr) (cC : Nat) (bA : Option Addr) (bC : Nat) (n : Int) (hin : LineIn l az) (htr : trackOk l.Track = true) (hbk : ∀ b ∈ l.Beams, BeamOk l b) (hn : 0 ≤ n ∧ n < (l.Beams.length : Int)) :
    FnV Try.prog 78 [(Value.agg (LineV.cells (LineV.mk (TrackV.mk (Slc.mk kA l.Track.length kC)) l.Fast (Slc.mk cA l.Clocks.length cC) (Slc.mk bA l.Beams.length bC) l.Finish l.Fakes l.Misses)).toArray), (Value.int .i64 n)] [(rd kA l.Track.length 9 (l.Track.map StretchV.cells)), (rd cA l.Clocks.length 2 (List.zipWith ClockM.cells l.Clocks az)), (bun (nest ClockM.rds l.Clocks az)), (rd bA l.Beams.length 4 (l.Beams.map BeamV.cells))] (Value.int .i64 (wayF l n.toNat)) := by
 have htk := hin.trk
 have hck := hin.cks
 have has := hin.as_
 have hbm := hin.bms
 have hsd := hin.side
 refine fnV_of go78 Try.func78 rfl rfl fun w0 Q hQ hN => ?_
 try dsimp only
 refine WS fun _ hK1 => BXA rfl fun b2 => rS (AG rfl) <| RK hK1 <| w_seq fun _ hK3 => WS fun _ hK4 => rS (MV rfl) <| rS (BI rfl b_eql) <| RK hK4 ?_
 refine w_if rfl (fun h10 => ?_) (fun h10 => ?_)
 · replace h10 := DT h10
   refine w_seq fun _ hK5 => w_draw4 mixed [0, 1, 2, 3, 4, 5, 6, 7, 8, 9, 10, 13] [11, 12] [false, false, false, false, false, false, false, false, false, false, false, false] [false, false] [(blk b2 28 (LineV.cells (LineV.mk (TrackV.mk (Slc.mk kA l.Track.length kC)) l.Fast (Slc.mk cA l.Clocks.length cC) (Slc.mk bA l.Beams.length bC) l.Finish l.Fakes l.Misses))), (rd kA l.Track.length 9 (l.Track.map StretchV.cells)).ro, (rd cA l.Clocks.length 2 (List.zipWith ClockM.cells l.Clocks az)).ro, (bun (nest ClockM.rds l.Clocks az)).ro, (rd bA l.Beams.length 4 (l.Beams.map BeamV.cells)).ro] [] (by kernel_rfl) (fun w hs => St.sel [0, 1, 2, 3, 4] rfl rfl hs) (fun w hs => St.sel [] rfl rfl hs) <| eS rfl (FA 0 rfl fo28_0 rfl) <| eS rfl (LP (TrackV.cells (TrackV.mk (Slc.mk kA l.Track.length kC))) 0 rfl tk24 rfl rfl rfl) <| eS rfl (FA 3 rfl fo28_3 rfl) <| eS rfl (L1 (Value.slice bA l.Beams.length bC) 0 rfl tk26 rfl rfl) ?_
   obtain ⟨y, hy⟩ : ∃ y_, l.Beams[0]? = some y_ := ⟨l.Beams[0]'(by omega), List.getElem?_eq_getElem _⟩
   have hym : (l.Beams.map BeamV.cells)[0]? = some (BeamV.cells y) := by rw [List.getElem?_map, hy]; rfl
   refine eS rfl (IA 0 rfl (has_at 4 rfl) te26 (by decide) rfl (by omega)) <| eS rfl (FAR (0 * 4) rfl (has_at 4 rfl) (Nat.mul_pos (by omega) (by decide)) fo55_0 rfl) <| eS rfl (LEN 0 0 (SpotV.cells y.Spot) rfl tk53 (has_at 4 rfl) hym rfl (by decide) rfl rfl) <| eS rfl (CL (rat_c l.Track kA kC y.Spot (by first | assumption | omega | (simp; done) | (simp; omega)) (by first | assumption | omega | (simp; done) | (simp; omega))) (ha_at 1 rfl rfl <| ha_nil) rfl) <| eS rfl (MV rfl) <| eS rfl (EX rfl) <| eS rfl (EX rfl) <| eS rfl (AG rfl) <| d_fin rfl <| t_cons rfl fun T6 hT6 => ?_
   refine AL rfl tz34 fun b7 => ?_
   refine r_nil (hT6 _ _ (fun w hs => St.sel [1, 2, 3, 4, 5] rfl rfl hs) ?_)
   refine t_cons rfl fun T8 hT8 => SW0 rfl ts34 rfl ?_
   refine r_nil (hT8 _ _ (fun w hs => St.sel [1, 2, 3, 4, 5] rfl rfl hs) ?_)
   refine t_fin rfl <| KK hK5 <| WS fun _ hK9 => rS (FA 0 rfl fo34_0 rfl) <| rS (L1 (Value.int .i64 ((atV l.Track y.Spot).Lo)) 0 rfl tk3 rfl rfl) <| rS (AG rfl) <| RK hK9 <| w_ret <| Q1 hQ rfl rfl rfl ?_
   first | (refine congrArg (Value.int .i64) ?_; rw [show n.toNat = 0 by omega]; rw [wayF_zero hy, (at_in htr (hbk _ (List.mem_of_getElem? hy)).1).2]) | (refine congrArg (Value.int .i64) ?_; rw [wayF_pos (by omega) hx (by rw [show n.toNat - 1 = (n - 1).toNat by omega]; exact hy), (apart_in htr ⟨(hbk _ (List.mem_of_getElem? hy)).1, (hbk _ (List.mem_of_getElem? hx)).1⟩).2])
 replace h10 := DF h10
 refine WK hK3 <| w_seq fun _ hK10 => w_draw4 mixed [0, 1, 2, 3, 4, 5, 6, 7, 8, 9, 10, 11, 12, 13, 14, 15, 16, 17, 18, 21] [19, 20] [false, false, false, false, false, false, false, false, false, false, false, false, false, false, false, false, false, false, false, false] [false, false] [(blk b2 28 (LineV.cells (LineV.mk (TrackV.mk (Slc.mk kA l.Track.length kC)) l.Fast (Slc.mk cA l.Clocks.length cC) (Slc.mk bA l.Beams.length bC) l.Finish l.Fakes l.Misses))), (rd kA l.Track.length 9 (l.Track.map StretchV.cells)).ro, (rd cA l.Clocks.length 2 (List.zipWith ClockM.cells l.Clocks az)).ro, (bun (nest ClockM.rds l.Clocks az)).ro, (rd bA l.Beams.length 4 (l.Beams.map BeamV.cells)).ro] [] (by kernel_rfl) (fun w hs => St.sel [0, 1, 2, 3, 4] rfl rfl hs) (fun w hs => St.sel [] rfl rfl hs) <| eS rfl (FA 0 rfl fo28_0 rfl) <| eS rfl (LP (TrackV.cells (TrackV.mk (Slc.mk kA l.Track.length kC))) 0 rfl tk24 rfl rfl rfl) <| eS rfl (FA 3 rfl fo28_3 rfl) <| eS rfl (L1 (Value.slice bA l.Beams.length bC) 0 rfl tk26 rfl rfl) <| eS rfl (MV rfl) <| eS rfl (BI rfl (b_sub ⟨by omega, by omega⟩)) ?_
 obtain ⟨y, hy⟩ : ∃ y_, l.Beams[((n - 1)).toNat]? = some y_ := ⟨l.Beams[((n - 1)).toNat]'(by omega), List.getElem?_eq_getElem _⟩
 have hym : (l.Beams.map BeamV.cells)[((n - 1)).toNat]? = some (BeamV.cells y) := by rw [List.getElem?_map, hy]; rfl
 refine eS rfl (IA (((n - 1)).toNat) rfl (has_at 4 rfl) te26 (by decide) (by omega) (by omega)) <| eS rfl (FAR ((((n - 1)).toNat) * 4) rfl (has_at 4 rfl) (Nat.mul_pos (by omega) (by decide)) fo55_0 rfl) <| eS rfl (LEN (((n - 1)).toNat) 0 (SpotV.cells y.Spot) rfl tk53 (has_at 4 rfl) hym rfl (by decide) rfl rfl) <| eS rfl (FA 3 rfl fo28_3 rfl) <| eS rfl (L1 (Value.slice bA l.Beams.length bC) 0 rfl tk26 rfl rfl) <| eS rfl (MV rfl) ?_
 obtain ⟨x, hx⟩ : ∃ y_, l.Beams[(n).toNat]? = some y_ := ⟨l.Beams[(n).toNat]'(by omega), List.getElem?_eq_getElem _⟩
 have hxm : (l.Beams.map BeamV.cells)[(n).toNat]? = some (BeamV.cells x) := by rw [List.getElem?_map, hx]; rfl
 refine eS rfl (IA ((n).toNat) rfl (has_at 4 rfl) te26 (by decide) (by omega) (by omega)) <| eS rfl (FAR (((n).toNat) * 4) rfl (has_at 4 rfl) (Nat.mul_pos (by omega) (by decide)) fo55_0 rfl) <| eS rfl (LEN ((n).toNat) 0 (SpotV.cells x.Spot) rfl tk53 (has_at 4 rfl) hxm rfl (by decide) rfl rfl) <| eS rfl (CL (rapart_c l.Track kA kC y.Spot x.Spot (by first | assumption | omega | (simp; done) | (simp; omega)) (by first | assumption | omega | (simp; done) | (simp; omega))) (ha_at 1 rfl rfl <| ha_nil) rfl) <| eS rfl (MV rfl) <| eS rfl (EX rfl) <| eS rfl (EX rfl) <| eS rfl (AG rfl) <| d_fin rfl <| t_cons rfl fun T11 hT11 => ?_
 refine AL rfl tz34 fun b12 => ?_
 refine r_nil (hT11 _ _ (fun w hs => St.sel [1, 2, 3, 4, 5] rfl rfl hs) ?_)
 refine t_cons rfl fun T13 hT13 => SW0 rfl ts34 rfl ?_
 refine r_nil (hT13 _ _ (fun w hs => St.sel [1, 2, 3, 4, 5] rfl rfl hs) ?_)
 refine t_fin rfl <| KK hK10 <| WS fun _ hK14 => rS (FA 0 rfl fo34_0 rfl) <| rS (L1 (Value.int .i64 ((apartV l.Track y.Spot x.Spot).Lo)) 0 rfl tk3 rfl rfl) <| rS (AG rfl) <| RK hK14 <| w_ret <| Q1 hQ rfl rfl rfl ?_
 first | (refine congrArg (Value.int .i64) ?_; rw [show n.toNat = 0 by omega]; rw [wayF_zero hy, (at_in htr (hbk _ (List.mem_of_getElem? hy)).1).2]) | (refine congrArg (Value.int .i64) ?_; rw [wayF_pos (by omega) hx (by rw [show n.toNat - 1 = (n - 1).toNat by omega]; exact hy), (apart_in htr ⟨(hbk _ (List.mem_of_getElem? hy)).1, (hbk _ (List.mem_of_getElem? hx)).1⟩).2])
set_option maxRecDepth 100000 in
set_option maxHeartbeats 400000 in
theorem rline_c (l : LineM) (kA : Option Addr) (kC : Nat) (az : List RA) (cA : Option Addr) (cC : Nat) (bA : Option Addr) (bC : Nat) (hin : LineIn l az) (htr : trackOk l.Track = true) :
    FnV Try.prog 57 [(Value.agg (LineV.cells (LineV.mk (TrackV.mk (Slc.mk kA l.Track.length kC)) l.Fast (Slc.mk cA l.Clocks.length cC) (Slc.mk bA l.Beams.length bC) l.Finish l.Fakes l.Misses)).toArray)] [(rd kA l.Track.length 9 (l.Track.map StretchV.cells)), (rd cA l.Clocks.length 2 (List.zipWith ClockM.cells l.Clocks az)), (bun (nest ClockM.rds l.Clocks az)), (rd bA l.Beams.length 4 (l.Beams.map BeamV.cells))] (Value.bool (decide (LineOk l))) := by
 have htk := hin.trk
 have hck := hin.cks
 have has := hin.as_
 have hbm := hin.bms
 have hsd := hin.side
 have hst := trackOk_all htr
 have hl12 := trackOk_le htr
 refine fnV_of go57 Try.func57 rfl rfl fun w0 Q hQ hN => ?_
 try dsimp only
 refine WS fun _ hK1 => BXA rfl fun b2 => rS (AG rfl) <| RK hK1 <| w_seq fun _ hK3 => WS fun _ hK4 => rS (FA 1 rfl fo28_1 rfl) <| rS (L1 (Value.int .i64 l.Fast) 0 rfl tk3 rfl rfl) <| rS (CL (within_5 l.Fast 1 5000) (ha_nil) rfl) <| rS (NT rfl) ?_
 refine rS (MV rfl) ?_
 refine r_bool (t := 10) rfl (fun h10 => ?_) (fun h10 => ?_)
 · replace h10 := XT h10
   refine rS (OX rfl) <| rS (OX rfl) <| rS (OX rfl) <| rS (OX rfl) <| rS (OX rfl) <| rS (PK rfl) <| rS (MV rfl) <| rS (OX rfl) <| rS (OX rfl) <| rS (OX rfl) ?_
   refine rS (OX rfl) <| rS (OX rfl) <| rS (PK rfl) <| rS (MV rfl) <| rS (OX rfl) <| rS (OX rfl) <| rS (OX rfl) <| rS (OX rfl) <| rS (OX rfl) <| rS (OX rfl) ?_
   refine rS (OX rfl) <| rS (OX rfl) <| rS (PK rfl) <| rS (MV rfl) <| rS (OX rfl) <| rS (OX rfl) <| rS (OX rfl) <| rS (OX rfl) <| rS (PK rfl) <| rS (MV rfl) ?_
   refine rS (OX rfl) <| rS (OX rfl) <| rS (OX rfl) <| rS (OX rfl) <| rS (PK rfl) <| RK hK4 <| w_if_true rfl <| WS fun _ hK5 => rS (AG rfl) <| RK hK5 ?_
   refine w_ret <| Q1 hQ rfl rfl rfl ?_
   first | exact congrArg Value.bool (decide_eq_false fun h => by have q := h.head; unfold HeadOk at q; omega).symm | exact congrArg Value.bool (decide_eq_false fun h => h59 (h.clock _ (List.mem_of_getElem? hx))).symm | exact congrArg Value.bool (decide_eq_false fun h => by have q := h.beam _ (List.mem_of_getElem? hy); have q2 := q.2; first | exact h77 q.1 | omega).symm | exact congrArg Value.bool (decide_eq_false fun h => by have q := h.way n (by omega); simp only [Int.toNat_natCast] at h101; omega).symm | exact congrArg Value.bool (decide_eq_true (line_head (by unfold HeadOk; omega) (upto_mem (by omega) hl4_1) (upto_mem (by omega) hl9_1) (fun j hj => hl14_1 j (by omega)))).symm
 replace h10 := XF h10
 refine rS (FA 2 rfl fo28_2 rfl) <| rS (L1 (Value.slice cA l.Clocks.length cC) 0 rfl tk25 rfl rfl) <| rS (LN rfl ut25) <| rS (CL (within_5 ((l.Clocks.length : Nat) : Int) 1 4) (ha_nil) rfl) <| rS (NT rfl) <| rS (PK rfl) <| rS (MV rfl) ?_
 refine r_bool (t := 17) rfl (fun h17 => ?_) (fun h17 => ?_)
 · replace h17 := XT h17
   refine rS (OX rfl) <| rS (OX rfl) <| rS (OX rfl) <| rS (OX rfl) <| rS (OX rfl) <| rS (PK rfl) <| rS (MV rfl) <| rS (OX rfl) <| rS (OX rfl) <| rS (OX rfl) ?_
   refine rS (OX rfl) <| rS (OX rfl) <| rS (OX rfl) <| rS (OX rfl) <| rS (OX rfl) <| rS (PK rfl) <| rS (MV rfl) <| rS (OX rfl) <| rS (OX rfl) <| rS (OX rfl) ?_
   refine rS (OX rfl) <| rS (PK rfl) <| rS (MV rfl) <| rS (OX rfl) <| rS (OX rfl) <| rS (OX rfl) <| rS (OX rfl) <| rS (PK rfl) <| RK hK4 <| w_if_true rfl ?_
   refine WS fun _ hK6 => rS (AG rfl) <| RK hK6 <| w_ret <| Q1 hQ rfl rfl rfl ?_
   first | exact congrArg Value.bool (decide_eq_false fun h => by have q := h.head; unfold HeadOk at q; omega).symm | exact congrArg Value.bool (decide_eq_false fun h => h59 (h.clock _ (List.mem_of_getElem? hx))).symm | exact congrArg Value.bool (decide_eq_false fun h => by have q := h.beam _ (List.mem_of_getElem? hy); have q2 := q.2; first | exact h77 q.1 | omega).symm | exact congrArg Value.bool (decide_eq_false fun h => by have q := h.way n (by omega); simp only [Int.toNat_natCast] at h101; omega).symm | exact congrArg Value.bool (decide_eq_true (line_head (by unfold HeadOk; omega) (upto_mem (by omega) hl4_1) (upto_mem (by omega) hl9_1) (fun j hj => hl14_1 j (by omega)))).symm
 replace h17 := XF h17
 refine rS (FA 3 rfl fo28_3 rfl) <| rS (L1 (Value.slice bA l.Beams.length bC) 0 rfl tk26 rfl rfl) <| rS (LN rfl ut26) <| rS (CL (within_5 ((l.Beams.length : Nat) : Int) 1 6) (ha_nil) rfl) <| rS (NT rfl) <| rS (PK rfl) <| rS (MV rfl) ?_
 refine r_bool (t := 24) rfl (fun h24 => ?_) (fun h24 => ?_)
 · replace h24 := XT h24
   refine rS (OX rfl) <| rS (OX rfl) <| rS (OX rfl) <| rS (OX rfl) <| rS (OX rfl) <| rS (OX rfl) <| rS (OX rfl) <| rS (OX rfl) <| rS (PK rfl) <| rS (MV rfl) ?_
   refine rS (OX rfl) <| rS (OX rfl) <| rS (OX rfl) <| rS (OX rfl) <| rS (PK rfl) <| rS (MV rfl) <| rS (OX rfl) <| rS (OX rfl) <| rS (OX rfl) <| rS (OX rfl) ?_
   refine rS (PK rfl) <| RK hK4 <| w_if_true rfl <| WS fun _ hK7 => rS (AG rfl) <| RK hK7 <| w_ret <| Q1 hQ rfl rfl rfl ?_
   first | exact congrArg Value.bool (decide_eq_false fun h => by have q := h.head; unfold HeadOk at q; omega).symm | exact congrArg Value.bool (decide_eq_false fun h => h59 (h.clock _ (List.mem_of_getElem? hx))).symm | exact congrArg Value.bool (decide_eq_false fun h => by have q := h.beam _ (List.mem_of_getElem? hy); have q2 := q.2; first | exact h77 q.1 | omega).symm | exact congrArg Value.bool (decide_eq_false fun h => by have q := h.way n (by omega); simp only [Int.toNat_natCast] at h101; omega).symm | exact congrArg Value.bool (decide_eq_true (line_head (by unfold HeadOk; omega) (upto_mem (by omega) hl4_1) (upto_mem (by omega) hl9_1) (fun j hj => hl14_1 j (by omega)))).symm
 replace h24 := XF h24
 refine rS (FA 4 rfl fo28_4 rfl) <| rS (L1 (Value.int .i64 l.Finish) 0 rfl tk3 rfl rfl) <| rS (FA 3 rfl fo28_3 rfl) <| rS (L1 (Value.slice bA l.Beams.length bC) 0 rfl tk26 rfl rfl) <| rS (LN rfl ut26) <| rS (BI rfl (b_sub ⟨by omega, by omega⟩)) <| rS (CL (within_5 l.Finish 0 (((l.Beams.length : Nat) : Int) - 1)) (ha_nil) rfl) <| rS (NT rfl) <| rS (PK rfl) <| rS (MV rfl) ?_
 refine r_bool (t := 34) rfl (fun h34 => ?_) (fun h34 => ?_)
 · replace h34 := XT h34
   refine rS (OX rfl) <| rS (OX rfl) <| rS (OX rfl) <| rS (OX rfl) <| rS (PK rfl) <| rS (MV rfl) <| rS (OX rfl) <| rS (OX rfl) <| rS (OX rfl) <| rS (OX rfl) ?_
   refine rS (PK rfl) <| RK hK4 <| w_if_true rfl <| WS fun _ hK8 => rS (AG rfl) <| RK hK8 <| w_ret <| Q1 hQ rfl rfl rfl ?_
   first | exact congrArg Value.bool (decide_eq_false fun h => by have q := h.head; unfold HeadOk at q; omega).symm | exact congrArg Value.bool (decide_eq_false fun h => h59 (h.clock _ (List.mem_of_getElem? hx))).symm | exact congrArg Value.bool (decide_eq_false fun h => by have q := h.beam _ (List.mem_of_getElem? hy); have q2 := q.2; first | exact h77 q.1 | omega).symm | exact congrArg Value.bool (decide_eq_false fun h => by have q := h.way n (by omega); simp only [Int.toNat_natCast] at h101; omega).symm | exact congrArg Value.bool (decide_eq_true (line_head (by unfold HeadOk; omega) (upto_mem (by omega) hl4_1) (upto_mem (by omega) hl9_1) (fun j hj => hl14_1 j (by omega)))).symm
 replace h34 := XF h34
 refine rS (FA 5 rfl fo28_5 rfl) <| rS (L1 (Value.int .i64 l.Fakes) 0 rfl tk3 rfl rfl) <| rS (CL (within_5 l.Fakes 0 3) (ha_nil) rfl) <| rS (NT rfl) <| rS (PK rfl) <| rS (MV rfl) ?_
 refine r_bool (t := 40) rfl (fun h40 => ?_) (fun h40 => ?_)
 · replace h40 := XT h40
   refine rS (OX rfl) <| rS (OX rfl) <| rS (OX rfl) <| rS (OX rfl) <| rS (PK rfl) <| RK hK4 <| w_if_true rfl <| WS fun _ hK9 => rS (AG rfl) <| RK hK9 ?_
   refine w_ret <| Q1 hQ rfl rfl rfl ?_
   first | exact congrArg Value.bool (decide_eq_false fun h => by have q := h.head; unfold HeadOk at q; omega).symm | exact congrArg Value.bool (decide_eq_false fun h => h59 (h.clock _ (List.mem_of_getElem? hx))).symm | exact congrArg Value.bool (decide_eq_false fun h => by have q := h.beam _ (List.mem_of_getElem? hy); have q2 := q.2; first | exact h77 q.1 | omega).symm | exact congrArg Value.bool (decide_eq_false fun h => by have q := h.way n (by omega); simp only [Int.toNat_natCast] at h101; omega).symm | exact congrArg Value.bool (decide_eq_true (line_head (by unfold HeadOk; omega) (upto_mem (by omega) hl4_1) (upto_mem (by omega) hl9_1) (fun j hj => hl14_1 j (by omega)))).symm
 replace h40 := XF h40
 refine rS (FA 6 rfl fo28_6 rfl) <| rS (L1 (Value.int .i64 l.Misses) 0 rfl tk3 rfl rfl) <| rS (CL (within_5 l.Misses 0 3) (ha_nil) rfl) <| rS (NT rfl) <| rS (PK rfl) <| RK hK4 ?_
 refine w_if rfl (fun h45 => ?_) (fun h45 => ?_)
 · replace h45 := XT h45
   refine WS fun _ hK10 => rS (AG rfl) <| RK hK10 <| w_ret <| Q1 hQ rfl rfl rfl ?_
   first | exact congrArg Value.bool (decide_eq_false fun h => by have q := h.head; unfold HeadOk at q; omega).symm | exact congrArg Value.bool (decide_eq_false fun h => h59 (h.clock _ (List.mem_of_getElem? hx))).symm | exact congrArg Value.bool (decide_eq_false fun h => by have q := h.beam _ (List.mem_of_getElem? hy); have q2 := q.2; first | exact h77 q.1 | omega).symm | exact congrArg Value.bool (decide_eq_false fun h => by have q := h.way n (by omega); simp only [Int.toNat_natCast] at h101; omega).symm | exact congrArg Value.bool (decide_eq_true (line_head (by unfold HeadOk; omega) (upto_mem (by omega) hl4_1) (upto_mem (by omega) hl9_1) (fun j hj => hl14_1 j (by omega)))).symm
 replace h45 := XF h45
 refine WK hK3 <| w_seq fun _ hK11 => WS fun _ hK12 => rS (AG rfl) <| RK hK12 <| w_block ?_
 have hinit : (0 ≤ l.Clocks.length) ∧ (∀ (j : Nat) y, j < 0 → l.Clocks[j]? = some y → ClockOk y) := by exact ⟨Nat.zero_le _, fun j y hj => absurd hj (Nat.not_lt_zero _)⟩
 refine w_loop (ι := { z : Nat // (z ≤ l.Clocks.length) ∧ (∀ (j : Nat) y, j < z → l.Clocks[j]? = some y → ClockOk y) }) (fun z => [(1, (Value.pointer (some ⟨b2, 0, none⟩))), (3, (Value.int .i64 ((z.1 : Nat) : Int)))]) (fun z => [(blk b2 28 (LineV.cells (LineV.mk (TrackV.mk (Slc.mk kA l.Track.length kC)) l.Fast (Slc.mk cA l.Clocks.length cC) (Slc.mk bA l.Beams.length bC) l.Finish l.Fakes l.Misses))), (rd kA l.Track.length 9 (l.Track.map StretchV.cells)).ro, (rd cA l.Clocks.length 2 (List.zipWith ClockM.cells l.Clocks az)).ro, (bun (nest ClockM.rds l.Clocks az)).ro, (rd bA l.Beams.length 4 (l.Beams.map BeamV.cells)).ro]) (fun z => l.Clocks.length - z.1) ⟨0, hinit⟩ (Sub.cons rfl <| Sub.cons rfl <| Sub.nil _) (fun w hs => St.sel [0, 1, 2, 3, 4] rfl rfl hs) ?_
 clear hinit
 rintro ⟨i, ⟨hl4_0, hl4_1⟩⟩ J13 hJ13
 try dsimp only
 refine w_seq fun _ hK14 => WS fun _ hK15 => rS (MV rfl) <| rS (FA 2 rfl fo28_2 rfl) <| rS (L1 (Value.slice cA l.Clocks.length cC) 0 rfl tk25 rfl rfl) <| rS (LN rfl ut25) <| rS (BI rfl b_lss) <| RK hK15 ?_
 refine w_if rfl (fun h50 => ?_) (fun h50 => ?_)
 · replace h50 := DT h50
   refine WK hK14 <| w_seq fun _ hK16 => w_block <| WS fun _ hK17 => rS (FA 2 rfl fo28_2 rfl) <| rS (L1 (Value.slice cA l.Clocks.length cC) 0 rfl tk25 rfl rfl) <| rS (MV rfl) ?_
   obtain ⟨x, hx⟩ : ∃ y_, l.Clocks[i]? = some y_ := ⟨l.Clocks[i]'(by omega), List.getElem?_eq_getElem _⟩
   obtain ⟨xa, hxa⟩ : ∃ y_, az[i]? = some y_ := ⟨az[i]'(by omega), List.getElem?_eq_getElem _⟩
   have hxm : (List.zipWith ClockM.cells l.Clocks az)[i]? = some (ClockM.cells x xa) := zip_get hx hxa
   refine rS (IA i rfl (has_at 2 rfl) te25 (by decide) (by omega) (by omega)) <| rS (LEN i 0 (ClockV.cells (ClockV.mk x.Drift (Slc.mk xa.1 x.Syncs.length xa.2))) rfl tk64 (has_at 2 rfl) hxm rfl (by decide) rfl rfl) ?_
   have hsy := (hin.syn _ _ _ hx hxa).2
   refine rS (CL (rclock_c x xa.1 xa.2 (by first | assumption | omega | (simp; done) | (simp; omega))) (ha_cons (show Has _ (rd xa.1 x.Syncs.length 3 (x.Syncs.map SyncV.cells)).holds from (has_inr 3 rfl (mem_nest hx hxa (by simp [ClockM.rds])))) <| ha_nil) rfl) <| rS (NT rfl) <| RK hK17 ?_
   refine w_if rfl (fun h59 => ?_) (fun h59 => ?_)
   rotate_left 1
   · replace h59 := XF h59
     refine w_skip <| k_block <| KK hK16 <| w_region <| rS (MV rfl) <| rS (BI rfl (b_add ⟨by omega, by omega⟩)) <| rS (AG rfl) <| r_nil ?_
     have hb19 : (Value.int .i64 (((i + 1) : Nat) : Int)) = (Value.int .i64 (((i : Nat) : Int) + 1)) := by exact congrArg (Value.int .i64) (by omega)
     refine k_then (hJ13 ⟨(i + 1), ⟨by omega, upto_succ (P := fun _ y => ClockOk y) hl4_1 hx h59⟩⟩ _ _ _ rfl (by first | omega | (simp; omega)) (Sub.cons rfl <| sub_val rfl hb19 <| Sub.nil _) (fun w hs => St.sel [0, 1, 2, 3, 4] rfl rfl hs))
   replace h59 := XT h59
   refine WS fun _ hK18 => rS (AG rfl) <| RK hK18 <| w_ret <| Q1 hQ rfl rfl rfl ?_
   first | exact congrArg Value.bool (decide_eq_false fun h => by have q := h.head; unfold HeadOk at q; omega).symm | exact congrArg Value.bool (decide_eq_false fun h => h59 (h.clock _ (List.mem_of_getElem? hx))).symm | exact congrArg Value.bool (decide_eq_false fun h => by have q := h.beam _ (List.mem_of_getElem? hy); have q2 := q.2; first | exact h77 q.1 | omega).symm | exact congrArg Value.bool (decide_eq_false fun h => by have q := h.way n (by omega); simp only [Int.toNat_natCast] at h101; omega).symm | exact congrArg Value.bool (decide_eq_true (line_head (by unfold HeadOk; omega) (upto_mem (by omega) hl4_1) (upto_mem (by omega) hl9_1) (fun j hj => hl14_1 j (by omega)))).symm
 replace h50 := DF h50
 refine w_exit <| k_exit_then <| k_exit_then <| k_exit_same <| KK hK11 <| w_seq fun _ hK20 => WS fun _ hK21 => rS (AG rfl) <| RK hK21 <| w_block ?_
 have hinit : (0 ≤ l.Beams.length) ∧ (∀ (j : Nat) y, j < 0 → l.Beams[j]? = some y → BeamOk l y) := by exact ⟨Nat.zero_le _, fun j y hj => absurd hj (Nat.not_lt_zero _)⟩
 refine w_loop (ι := { z : Nat // (z ≤ l.Beams.length) ∧ (∀ (j : Nat) y, j < z → l.Beams[j]? = some y → BeamOk l y) }) (fun z => [(1, (Value.pointer (some ⟨b2, 0, none⟩))), (4, (Value.int .i64 ((z.1 : Nat) : Int)))]) (fun z => [(blk b2 28 (LineV.cells (LineV.mk (TrackV.mk (Slc.mk kA l.Track.length kC)) l.Fast (Slc.mk cA l.Clocks.length cC) (Slc.mk bA l.Beams.length bC) l.Finish l.Fakes l.Misses))), (rd kA l.Track.length 9 (l.Track.map StretchV.cells)).ro, (rd cA l.Clocks.length 2 (List.zipWith ClockM.cells l.Clocks az)).ro, (bun (nest ClockM.rds l.Clocks az)).ro, (rd bA l.Beams.length 4 (l.Beams.map BeamV.cells)).ro]) (fun z => l.Beams.length - z.1) ⟨0, hinit⟩ (Sub.cons rfl <| Sub.cons rfl <| Sub.nil _) (fun w hs => St.sel [0, 1, 2, 3, 4] rfl rfl hs) ?_
 clear hinit
 rintro ⟨m, ⟨hl9_0, hl9_1⟩⟩ J22 hJ22
 try dsimp only
 refine w_seq fun _ hK23 => WS fun _ hK24 => rS (MV rfl) <| rS (FA 3 rfl fo28_3 rfl) <| rS (L1 (Value.slice bA l.Beams.length bC) 0 rfl tk26 rfl rfl) <| rS (LN rfl ut26) <| rS (BI rfl b_lss) <| RK hK24 ?_
 refine w_if rfl (fun h64 => ?_) (fun h64 => ?_)
 rotate_left 1
 · replace h64 := DF h64
   refine w_exit <| k_exit_then <| k_exit_then <| k_exit_same <| KK hK20 <| w_seq fun _ hK30 => WS fun _ hK31 => rS (AG rfl) <| RK hK31 <| w_block ?_
   have hinit : (0 ≤ l.Beams.length) ∧ (∀ j, j < 0 → 1 ≤ wayF l j) := by exact ⟨Nat.zero_le _, fun j hj => absurd hj (Nat.not_lt_zero _)⟩
   refine w_loop (ι := { z : Nat // (z ≤ l.Beams.length) ∧ (∀ j, j < z → 1 ≤ wayF l j) }) (fun z => [(1, (Value.pointer (some ⟨b2, 0, none⟩))), (5, (Value.int .i64 ((z.1 : Nat) : Int)))]) (fun z => [(blk b2 28 (LineV.cells (LineV.mk (TrackV.mk (Slc.mk kA l.Track.length kC)) l.Fast (Slc.mk cA l.Clocks.length cC) (Slc.mk bA l.Beams.length bC) l.Finish l.Fakes l.Misses))), (rd kA l.Track.length 9 (l.Track.map StretchV.cells)).ro, (rd cA l.Clocks.length 2 (List.zipWith ClockM.cells l.Clocks az)).ro, (bun (nest ClockM.rds l.Clocks az)).ro, (rd bA l.Beams.length 4 (l.Beams.map BeamV.cells)).ro]) (fun z => l.Beams.length - z.1) ⟨0, hinit⟩ (Sub.cons rfl <| Sub.cons rfl <| Sub.nil _) (fun w hs => St.sel [0, 1, 2, 3, 4] rfl rfl hs) ?_
   clear hinit
   rintro ⟨n, ⟨hl14_0, hl14_1⟩⟩ J32 hJ32
   try dsimp only
   have hbk := upto_mem (P := BeamOk l) (by omega) hl9_1
   refine w_seq fun _ hK33 => WS fun _ hK34 => rS (MV rfl) <| rS (FA 3 rfl fo28_3 rfl) <| rS (L1 (Value.slice bA l.Beams.length bC) 0 rfl tk26 rfl rfl) <| rS (LN rfl ut26) <| rS (BI rfl b_lss) <| RK hK34 ?_
   refine w_if rfl (fun h95 => ?_) (fun h95 => ?_)
   rotate_left 1
   · replace h95 := DF h95
     refine w_exit <| k_exit_then <| k_exit_then <| k_exit_same <| KK hK30 <| WS fun _ hK39 => rS (AG rfl) <| RK hK39 <| w_ret <| Q1 hQ rfl rfl rfl ?_
     first | exact congrArg Value.bool (decide_eq_false fun h => by have q := h.head; unfold HeadOk at q; omega).symm | exact congrArg Value.bool (decide_eq_false fun h => h59 (h.clock _ (List.mem_of_getElem? hx))).symm | exact congrArg Value.bool (decide_eq_false fun h => by have q := h.beam _ (List.mem_of_getElem? hy); have q2 := q.2; first | exact h77 q.1 | omega).symm | exact congrArg Value.bool (decide_eq_false fun h => by have q := h.way n (by omega); simp only [Int.toNat_natCast] at h101; omega).symm | exact congrArg Value.bool (decide_eq_true (line_head (by unfold HeadOk; omega) (upto_mem (by omega) hl4_1) (upto_mem (by omega) hl9_1) (fun j hj => hl14_1 j (by omega)))).symm
   replace h95 := DT h95
   refine WK hK33 <| w_seq fun _ hK35 => w_block <| WS fun _ hK36 => rS (LW 0 rfl tk28 rfl rfl) <| rS (MV rfl) <| rS (CL (rway_c l kA kC az cA cC bA bC ((n : Nat) : Int) hin htr (by first | assumption | omega | (simp; done) | (simp; omega)) (by first | assumption | omega | (simp; done) | (simp; omega))) (ha_at 1 rfl rfl <| ha_at 2 rfl rfl <| ha_at 3 rfl rfl <| ha_at 4 rfl rfl <| ha_nil) rfl) <| rS (BI rfl b_lss) <| RK hK36 ?_
   refine w_if rfl (fun h101 => ?_) (fun h101 => ?_)
   rotate_left 1
   · replace h101 := DF h101
     refine w_skip <| k_block <| KK hK35 <| w_region <| rS (MV rfl) <| rS (BI rfl (b_add ⟨by omega, by omega⟩)) <| rS (AG rfl) <| r_nil ?_
     have hb38 : (Value.int .i64 (((n + 1) : Nat) : Int)) = (Value.int .i64 (((n : Nat) : Int) + 1)) := by exact congrArg (Value.int .i64) (by omega)
     refine k_then (hJ32 ⟨(n + 1), ⟨by omega, fun j hj => by rcases Nat.lt_or_ge j n with q | q; exact hl14_1 j q; (obtain rfl : j = n := by omega); simp only [Int.toNat_natCast] at h101; omega⟩⟩ _ _ _ rfl (by first | omega | (simp; omega)) (Sub.cons rfl <| sub_val rfl hb38 <| Sub.nil _) (fun w hs => St.sel [0, 1, 2, 3, 4] rfl rfl hs))
   replace h101 := DT h101
   refine WS fun _ hK37 => rS (AG rfl) <| RK hK37 <| w_ret <| Q1 hQ rfl rfl rfl ?_
   first | exact congrArg Value.bool (decide_eq_false fun h => by have q := h.head; unfold HeadOk at q; omega).symm | exact congrArg Value.bool (decide_eq_false fun h => h59 (h.clock _ (List.mem_of_getElem? hx))).symm | exact congrArg Value.bool (decide_eq_false fun h => by have q := h.beam _ (List.mem_of_getElem? hy); have q2 := q.2; first | exact h77 q.1 | omega).symm | exact congrArg Value.bool (decide_eq_false fun h => by have q := h.way n (by omega); simp only [Int.toNat_natCast] at h101; omega).symm | exact congrArg Value.bool (decide_eq_true (line_head (by unfold HeadOk; omega) (upto_mem (by omega) hl4_1) (upto_mem (by omega) hl9_1) (fun j hj => hl14_1 j (by omega)))).symm
 replace h64 := DT h64
 refine WK hK23 <| w_seq fun _ hK25 => w_block <| w_seq fun _ hK26 => w_draw mixed 24 (by kernel_rfl) <| dS (FA 0 rfl fo28_0 rfl) <| dS (LP (TrackV.cells (TrackV.mk (Slc.mk kA l.Track.length kC))) 0 rfl tk24 rfl rfl rfl) <| dS (FA 3 rfl fo28_3 rfl) <| dS (L1 (Value.slice bA l.Beams.length bC) 0 rfl tk26 rfl rfl) <| dS (MV rfl) ?_
 obtain ⟨y, hy⟩ : ∃ y_, l.Beams[m]? = some y_ := ⟨l.Beams[m]'(by omega), List.getElem?_eq_getElem _⟩
 have hym : (l.Beams.map BeamV.cells)[m]? = some (BeamV.cells y) := by rw [List.getElem?_map, hy]; rfl
 refine dS (IA m rfl (has_at 4 rfl) te26 (by decide) (by omega) (by omega)) <| dS (FAR (m * 4) rfl (has_at 4 rfl) (Nat.mul_pos (by omega) (by decide)) fo55_0 rfl) <| dS (LEN m 0 (SpotV.cells y.Spot) rfl tk53 (has_at 4 rfl) hym rfl (by decide) rfl rfl) <| dS (CL (rspot_c l.Track kA kC y.Spot (by first | assumption | omega | (simp; done) | (simp; omega)) (by first | assumption | omega | (simp; done) | (simp; omega))) (ha_at 1 rfl rfl <| ha_nil) rfl) <| dS (NT rfl) <| dS (MV rfl) ?_
 refine d_bool (t := 77) rfl (fun h77 => ?_) (fun h77 => ?_)
 · replace h77 := XT h77
   refine dS (OX rfl) <| dS (OX rfl) <| dS (OX rfl) <| dS (OX rfl) <| dS (OX rfl) <| dS (OX rfl) <| dS (OX rfl) <| dS (OX rfl) <| dS (OX rfl) <| dS (OX rfl) ?_
   refine dS (OX rfl) <| dS (OX rfl) <| dS (PK rfl) <| d_end <| RK hK26 <| w_if_true rfl <| WS fun _ hK27 => rS (AG rfl) <| RK hK27 <| w_ret ?_
   refine Q1 hQ rfl rfl rfl ?_
   first | exact congrArg Value.bool (decide_eq_false fun h => by have q := h.head; unfold HeadOk at q; omega).symm | exact congrArg Value.bool (decide_eq_false fun h => h59 (h.clock _ (List.mem_of_getElem? hx))).symm | exact congrArg Value.bool (decide_eq_false fun h => by have q := h.beam _ (List.mem_of_getElem? hy); have q2 := q.2; first | exact h77 q.1 | omega).symm | exact congrArg Value.bool (decide_eq_false fun h => by have q := h.way n (by omega); simp only [Int.toNat_natCast] at h101; omega).symm | exact congrArg Value.bool (decide_eq_true (line_head (by unfold HeadOk; omega) (upto_mem (by omega) hl4_1) (upto_mem (by omega) hl9_1) (fun j hj => hl14_1 j (by omega)))).symm
 replace h77 := XF h77
 refine dS (FA 3 rfl fo28_3 rfl) <| dS (L1 (Value.slice bA l.Beams.length bC) 0 rfl tk26 rfl rfl) <| dS (MV rfl) <| dS (IA m rfl (has_at 4 rfl) te26 (by decide) (by omega) (by omega)) <| dS (FAR ((m * 4) + 3) rfl (has_at 4 rfl) (Nat.mul_pos (by omega) (by decide)) fo55_1 rfl) <| dS (LE1 m 3 (Value.int .i64 y.Clock) rfl tk3 (has_at 4 rfl) hym rfl (by decide) rfl) <| dS (FA 2 rfl fo28_2 rfl) <| dS (L1 (Value.slice cA l.Clocks.length cC) 0 rfl tk25 rfl rfl) <| dS (LN rfl ut25) <| dS (BI rfl (b_sub ⟨by omega, by omega⟩)) ?_
 refine dS (CL (within_5 y.Clock 0 (((l.Clocks.length : Nat) : Int) - 1)) (ha_nil) rfl) <| dS (NT rfl) <| dS (PK rfl) <| d_end <| RK hK26 ?_
 refine w_if rfl (fun h90 => ?_) (fun h90 => ?_)
 rotate_left 1
 · replace h90 := XF h90
   refine w_skip <| k_block <| KK hK25 <| w_region <| rS (MV rfl) <| rS (BI rfl (b_add ⟨by omega, by omega⟩)) <| rS (AG rfl) <| r_nil ?_
   have hb29 : (Value.int .i64 (((m + 1) : Nat) : Int)) = (Value.int .i64 (((m : Nat) : Int) + 1)) := by exact congrArg (Value.int .i64) (by omega)
   refine k_then (hJ22 ⟨(m + 1), ⟨by omega, upto_succ (P := fun _ y => BeamOk l y) hl9_1 hy ⟨h77, by omega, by omega⟩⟩⟩ _ _ _ rfl (by first | omega | (simp; omega)) (Sub.cons rfl <| sub_val rfl hb29 <| Sub.nil _) (fun w hs => St.sel [0, 1, 2, 3, 4] rfl rfl hs))
 replace h90 := XT h90
 refine WS fun _ hK28 => rS (AG rfl) <| RK hK28 <| w_ret <| Q1 hQ rfl rfl rfl ?_
 first | exact congrArg Value.bool (decide_eq_false fun h => by have q := h.head; unfold HeadOk at q; omega).symm | exact congrArg Value.bool (decide_eq_false fun h => h59 (h.clock _ (List.mem_of_getElem? hx))).symm | exact congrArg Value.bool (decide_eq_false fun h => by have q := h.beam _ (List.mem_of_getElem? hy); have q2 := q.2; first | exact h77 q.1 | omega).symm | exact congrArg Value.bool (decide_eq_false fun h => by have q := h.way n (by omega); simp only [Int.toNat_natCast] at h101; omega).symm | exact congrArg Value.bool (decide_eq_true (line_head (by unfold HeadOk; omega) (upto_mem (by omega) hl4_1) (upto_mem (by omega) hl9_1) (fun j hj => hl14_1 j (by omega)))).symm
end
section
open Go.RowKit
set_option linter.unusedVariables false
set_option maxRecDepth 100000 in
set_option maxHeartbeats 400000 in
theorem rcheck_c (l : LineM) (kA : Option Addr) (kC : Nat) (az : List RA) (cA : Option Addr) (cC : Nat) (bA : Option Addr) (bC : Nat) (hin : LineIn l az) :
    FnV Try.prog 20 [(Value.agg (LineV.cells (LineV.mk (TrackV.mk (Slc.mk kA l.Track.length kC)) l.Fast (Slc.mk cA l.Clocks.length cC) (Slc.mk bA l.Beams.length bC) l.Finish l.Fakes l.Misses)).toArray)] [(rd kA l.Track.length 9 (l.Track.map StretchV.cells)), (rd cA l.Clocks.length 2 (List.zipWith ClockM.cells l.Clocks az)), (bun (nest ClockM.rds l.Clocks az)), (rd bA l.Beams.length 4 (l.Beams.map BeamV.cells))] (Value.int .i64 (lineE l)) := by
 have htk := hin.trk
 have hck := hin.cks
 have has := hin.as_
 have hbm := hin.bms
 refine fnV_of go20 Try.func20 rfl rfl fun w0 Q hQ hN => ?_
 try dsimp only
 refine WS fun _ hK1 => BXA rfl fun b2 => rS (AG rfl) <| RK hK1 <| w_seq fun _ hK3 => WS fun _ hK4 => rS (FA 0 rfl fo28_0 rfl) <| rS (LP (TrackV.cells (TrackV.mk (Slc.mk kA l.Track.length kC))) 0 rfl tk24 rfl rfl rfl) <| rS (CL (track_c l.Track kA kC (by first | assumption | omega | (simp; done) | (simp; omega))) (ha_at 1 rfl rfl <| ha_nil) rfl) <| rS (NT rfl) ?_
 refine RK hK4 ?_
 refine w_if rfl (fun h6 => ?_) (fun h6 => ?_)
 · rw [Bool.not_eq_true'] at h6
   refine WS fun _ hK5 => rS (AG rfl) <| RK hK5 <| w_ret <| Q1 hQ rfl rfl rfl ?_
   first | exact congrArg (Value.int .i64) (lineE_bad (by simpa using h6)).symm | exact congrArg (Value.int .i64) (lineE_no h6 h9).symm | exact congrArg (Value.int .i64) (lineE_ok h6 h9).symm
 rw [Bool.not_eq_false'] at h6
 refine WK hK3 <| w_seq fun _ hK6 => WS fun _ hK7 => rS (LW 0 rfl tk28 rfl rfl) <| rS (CL (rline_c l kA kC az cA cC bA bC hin (by first | assumption | omega | (simp; done) | (simp; omega))) (ha_at 1 rfl rfl <| ha_at 2 rfl rfl <| ha_at 3 rfl rfl <| ha_at 4 rfl rfl <| ha_nil) rfl) <| rS (NT rfl) <| RK hK7 ?_
 refine w_if rfl (fun h9 => ?_) (fun h9 => ?_)
 · replace h9 := XT h9
   refine WS fun _ hK8 => rS (AG rfl) <| RK hK8 <| w_ret <| Q1 hQ rfl rfl rfl ?_
   first | exact congrArg (Value.int .i64) (lineE_bad (by simpa using h6)).symm | exact congrArg (Value.int .i64) (lineE_no h6 h9).symm | exact congrArg (Value.int .i64) (lineE_ok h6 h9).symm
 replace h9 := XF h9
 refine WK hK6 <| WS fun _ hK9 => rS (AG rfl) <| RK hK9 <| w_ret <| Q1 hQ rfl rfl rfl ?_
 first | exact congrArg (Value.int .i64) (lineE_bad (by simpa using h6)).symm | exact congrArg (Value.int .i64) (lineE_no h6 h9).symm | exact congrArg (Value.int .i64) (lineE_ok h6 h9).symm
end
section
open Go.RowKit
set_option linter.unusedVariables false
set_option maxRecDepth 100000 in
set_option maxHeartbeats 400000 in
theorem ready_c (l : LineM) (kA : Option Addr) (kC : Nat) (az : List RA) (cA : Option Addr) (cC : Nat) (bA : Option Addr) (bC : Nat) (hraw : LineRaw l az) :
    FnV Try.prog 23 [(Value.agg (LineV.cells (LineV.mk (TrackV.mk (Slc.mk kA l.Track.length kC)) l.Fast (Slc.mk cA l.Clocks.length cC) (Slc.mk bA l.Beams.length bC) l.Finish l.Fakes l.Misses)).toArray)] [(rd kA l.Track.length 9 (l.Track.map StretchV.cells)), (rd cA l.Clocks.length 2 (List.zipWith ClockM.cells l.Clocks az)), (bun (nest ClockM.rds l.Clocks az)), (rd bA l.Beams.length 4 (l.Beams.map BeamV.cells))] (Value.bool (decide (ReadyL l))) := by
 refine fnV_of go23 Try.func23 rfl rfl fun w0 Q hQ hN => ?_
 try dsimp only
 refine WS fun _ hK1 => BXA rfl fun b2 => rS (AG rfl) <| RK hK1 <| WS fun _ hK3 => rS (LW 0 rfl tk28 rfl rfl) <| rS (CL (lgreat_c l kA kC az cA cC bA bC hraw) (ha_at 1 rfl rfl <| ha_at 2 rfl rfl <| ha_at 3 rfl rfl <| ha_at 4 rfl rfl <| ha_nil) rfl) <| rS (NT rfl) <| rS (MV rfl) ?_
 refine r_bool (t := 6) rfl (fun h6 => ?_) (fun h6 => ?_)
 rotate_left 1
 · replace h6 := XF h6
   refine rS (OX rfl) <| rS (OX rfl) <| rS (OX rfl) <| rS (PK rfl) <| rS (AG rfl) <| RK hK3 <| w_ret <| Q1 hQ rfl rfl rfl ?_
   first | exact congrArg Value.bool (decide_eq_false fun q => q.1 h6).symm | exact congrArg Value.bool (decide_eq_decide.2 ⟨fun q => ⟨h6, q⟩, fun q => q.2⟩)
 replace h6 := XT h6
 refine rS (LW 0 rfl tk28 rfl rfl) ?_
 have hin := hraw.small h6
 refine rS (CL (rcheck_c l kA kC az cA cC bA bC (by first | assumption | omega | (simp; done) | (simp; omega))) (ha_at 1 rfl rfl <| ha_at 2 rfl rfl <| ha_at 3 rfl rfl <| ha_at 4 rfl rfl <| ha_nil) rfl) <| rS (BI rfl b_eql) <| rS (PK rfl) <| rS (AG rfl) <| RK hK3 <| w_ret <| Q1 hQ rfl rfl rfl ?_
 first | exact congrArg Value.bool (decide_eq_false fun q => q.1 h6).symm | exact congrArg Value.bool (decide_eq_decide.2 ⟨fun q => ⟨h6, q⟩, fun q => q.2⟩)
set_option maxRecDepth 100000 in
set_option maxHeartbeats 400000 in
theorem rride_c (l : LineM) (kA : Option Addr) (kC : Nat) (az : List RA) (cA : Option Addr) (cC : Nat) (bA : Option Addr) (bC : Nat) (r : RideM) (sgA : Option Addr) (sgC : Nat) (hin : LineIn l az) (hsl : r.Signals.length ≤ 1000000) :
    FnV Try.prog 60 [(Value.agg (LineV.cells (LineV.mk (TrackV.mk (Slc.mk kA l.Track.length kC)) l.Fast (Slc.mk cA l.Clocks.length cC) (Slc.mk bA l.Beams.length bC) l.Finish l.Fakes l.Misses)).toArray), (Value.agg (RideV.cells (RideV.mk r.Start r.Now (Slc.mk sgA r.Signals.length sgC))).toArray)] [(rd kA l.Track.length 9 (l.Track.map StretchV.cells)), (rd cA l.Clocks.length 2 (List.zipWith ClockM.cells l.Clocks az)), (bun (nest ClockM.rds l.Clocks az)), (rd bA l.Beams.length 4 (l.Beams.map BeamV.cells)), (rd sgA r.Signals.length 2 (r.Signals.map SignalV.cells))] (Value.bool (decide (RideOk l r))) := by
 have htk := hin.trk
 have hck := hin.cks
 have has := hin.as_
 have hbm := hin.bms
 refine fnV_of go60 Try.func60 rfl rfl fun w0 Q hQ hN => ?_
 try dsimp only
 refine WS fun _ hK1 => BXA rfl fun b2 => BXA rfl fun b3 => rS (AG rfl) <| RK hK1 <| w_seq fun _ hK4 => WS fun _ hK5 => rS (FA 0 rfl fo69_0 rfl) <| rS (L1 (Value.int .i64 r.Start) 0 rfl tk3 rfl rfl) <| rS (CL (within_5 r.Start 0 86400000) (ha_nil) rfl) ?_
 refine rS (NT rfl) <| rS (MV rfl) ?_
 refine r_bool (t := 11) rfl (fun h11 => ?_) (fun h11 => ?_)
 · replace h11 := XT h11
   refine rS (OX rfl) <| rS (OX rfl) <| rS (OX rfl) <| rS (OX rfl) <| rS (OX rfl) <| rS (OX rfl) <| rS (PK rfl) <| rS (MV rfl) <| rS (OX rfl) <| rS (OX rfl) ?_
   refine rS (OX rfl) <| rS (OX rfl) <| rS (PK rfl) <| RK hK5 <| w_if_true rfl <| WS fun _ hK6 => rS (AG rfl) <| RK hK6 <| w_ret <| Q1 hQ rfl rfl rfl ?_
   first | exact congrArg Value.bool (decide_eq_false fun q => by have q1 := q.time; have q2 := q.len; omega).symm | exact congrArg Value.bool (decide_eq_true (ride_all (by omega) (by omega) hl4_1 (by omega))).symm | exact congrArg Value.bool (decide_eq_false fun q => by have q1 := q.sig i x hx; unfold SigOk SigIn at q1; first | omega | (rw [prevS_pos (by omega) hy] at q1; omega)).symm
 replace h11 := XF h11
 refine rS (FA 1 rfl fo69_1 rfl) <| rS (L1 (Value.int .i64 r.Now) 0 rfl tk3 rfl rfl) <| rS (FA 0 rfl fo69_0 rfl) <| rS (L1 (Value.int .i64 r.Start) 0 rfl tk3 rfl rfl) <| rS (CL (within_5 r.Now r.Start 86400000) (ha_nil) rfl) <| rS (NT rfl) <| rS (PK rfl) <| rS (MV rfl) ?_
 refine r_bool (t := 19) rfl (fun h19 => ?_) (fun h19 => ?_)
 · replace h19 := XT h19
   refine rS (OX rfl) <| rS (OX rfl) <| rS (OX rfl) <| rS (OX rfl) <| rS (PK rfl) <| RK hK5 <| w_if_true rfl <| WS fun _ hK7 => rS (AG rfl) <| RK hK7 ?_
   refine w_ret <| Q1 hQ rfl rfl rfl ?_
   first | exact congrArg Value.bool (decide_eq_false fun q => by have q1 := q.time; have q2 := q.len; omega).symm | exact congrArg Value.bool (decide_eq_true (ride_all (by omega) (by omega) hl4_1 (by omega))).symm | exact congrArg Value.bool (decide_eq_false fun q => by have q1 := q.sig i x hx; unfold SigOk SigIn at q1; first | omega | (rw [prevS_pos (by omega) hy] at q1; omega)).symm
 replace h19 := XF h19
 refine rS (FA 2 rfl fo69_2 rfl) <| rS (L1 (Value.slice sgA r.Signals.length sgC) 0 rfl tk67 rfl rfl) <| rS (LN rfl ut67) <| rS (BI rfl b_gtr) <| rS (PK rfl) <| RK hK5 ?_
 refine w_if rfl (fun h24 => ?_) (fun h24 => ?_)
 · replace h24 := DT h24
   refine WS fun _ hK8 => rS (AG rfl) <| RK hK8 <| w_ret <| Q1 hQ rfl rfl rfl ?_
   first | exact congrArg Value.bool (decide_eq_false fun q => by have q1 := q.time; have q2 := q.len; omega).symm | exact congrArg Value.bool (decide_eq_true (ride_all (by omega) (by omega) hl4_1 (by omega))).symm | exact congrArg Value.bool (decide_eq_false fun q => by have q1 := q.sig i x hx; unfold SigOk SigIn at q1; first | omega | (rw [prevS_pos (by omega) hy] at q1; omega)).symm
 replace h24 := DF h24
 refine WK hK4 <| w_seq fun _ hK9 => WS fun _ hK10 => rS (AG rfl) <| RK hK10 <| w_block ?_
 have hinit : (0 ≤ r.Signals.length) ∧ (SigsTo l r.Signals 0) := by exact ⟨Nat.zero_le _, sigs_zero⟩
 refine w_loop (ι := { z : Nat // (z ≤ r.Signals.length) ∧ (SigsTo l r.Signals z) }) (fun z => [(2, (Value.pointer (some ⟨b2, 0, none⟩))), (3, (Value.pointer (some ⟨b3, 0, none⟩))), (5, (Value.int .i64 ((z.1 : Nat) : Int)))]) (fun z => [(blk b3 69 (RideV.cells (RideV.mk r.Start r.Now (Slc.mk sgA r.Signals.length sgC)))), (blk b2 28 (LineV.cells (LineV.mk (TrackV.mk (Slc.mk kA l.Track.length kC)) l.Fast (Slc.mk cA l.Clocks.length cC) (Slc.mk bA l.Beams.length bC) l.Finish l.Fakes l.Misses))), (rd kA l.Track.length 9 (l.Track.map StretchV.cells)).ro, (rd cA l.Clocks.length 2 (List.zipWith ClockM.cells l.Clocks az)).ro, (bun (nest ClockM.rds l.Clocks az)).ro, (rd bA l.Beams.length 4 (l.Beams.map BeamV.cells)).ro, (rd sgA r.Signals.length 2 (r.Signals.map SignalV.cells)).ro]) (fun z => r.Signals.length - z.1) ⟨0, hinit⟩ (Sub.cons rfl <| Sub.cons rfl <| Sub.cons rfl <| Sub.nil _) (fun w hs => St.sel [0, 1, 2, 3, 4, 5, 6] rfl rfl hs) ?_
 clear hinit
 rintro ⟨i, ⟨hl4_0, hl4_1⟩⟩ J11 hJ11
 try dsimp only
 refine w_seq fun _ hK12 => WS fun _ hK13 => rS (MV rfl) <| rS (FA 2 rfl fo69_2 rfl) <| rS (L1 (Value.slice sgA r.Signals.length sgC) 0 rfl tk67 rfl rfl) <| rS (LN rfl ut67) <| rS (BI rfl b_lss) <| RK hK13 ?_
 refine w_if rfl (fun h14 => ?_) (fun h14 => ?_)
 rotate_left 1
 · replace h14 := DF h14
   refine w_exit <| k_exit_then <| k_exit_then <| k_exit_same <| KK hK9 <| WS fun _ hK28 => rS (AG rfl) <| RK hK28 <| w_ret <| Q1 hQ rfl rfl rfl ?_
   first | exact congrArg Value.bool (decide_eq_false fun q => by have q1 := q.time; have q2 := q.len; omega).symm | exact congrArg Value.bool (decide_eq_true (ride_all (by omega) (by omega) hl4_1 (by omega))).symm | exact congrArg Value.bool (decide_eq_false fun q => by have q1 := q.sig i x hx; unfold SigOk SigIn at q1; first | omega | (rw [prevS_pos (by omega) hy] at q1; omega)).symm
 replace h14 := DT h14
 refine WK hK12 <| w_seq fun _ hK15 => w_block <| WS fun _ hK16 => rS (FA 2 rfl fo69_2 rfl) <| rS (L1 (Value.slice sgA r.Signals.length sgC) 0 rfl tk67 rfl rfl) <| rS (MV rfl) ?_
 obtain ⟨x, hx⟩ : ∃ y_, r.Signals[i]? = some y_ := ⟨r.Signals[i]'(by omega), List.getElem?_eq_getElem _⟩
 have hxm : (r.Signals.map SignalV.cells)[i]? = some (SignalV.cells x) := by rw [List.getElem?_map, hx]; rfl
 refine rS (IA i rfl (has_at 6 rfl) te67 (by decide) (by omega) (by omega)) <| rS (LEN i 0 (SignalV.cells x) rfl tk30 (has_at 6 rfl) hxm rfl (by decide) rfl rfl) <| AL rfl tz30 fun b17 => SW0 rfl ts30 rfl <| RK hK16 <| w_seq fun _ hK18 => WS fun _ hK19 => rS (FA 0 rfl fo30_0 rfl) <| rS (L1 (Value.int .i64 x.Beam) 0 rfl tk3 rfl rfl) <| rS (FA 3 rfl fo28_3 rfl) ?_
 refine rS (L1 (Value.slice bA l.Beams.length bC) 2 rfl tk26 rfl rfl) <| rS (LN rfl ut26) <| rS (BI rfl (b_sub ⟨by omega, by omega⟩)) <| rS (CL (within_5 x.Beam 0 (((l.Beams.length : Nat) : Int) - 1)) (ha_nil) rfl) <| rS (NT rfl) <| rS (MV rfl) ?_
 refine r_bool (t := 45) rfl (fun h45 => ?_) (fun h45 => ?_)
 · replace h45 := XT h45
   refine rS (OX rfl) <| rS (OX rfl) <| rS (OX rfl) <| rS (OX rfl) <| rS (PK rfl) <| RK hK19 <| w_if_true rfl <| WS fun _ hK20 => rS (AG rfl) <| RK hK20 ?_
   refine w_ret <| Q1 hQ rfl rfl rfl ?_
   first | exact congrArg Value.bool (decide_eq_false fun q => by have q1 := q.time; have q2 := q.len; omega).symm | exact congrArg Value.bool (decide_eq_true (ride_all (by omega) (by omega) hl4_1 (by omega))).symm | exact congrArg Value.bool (decide_eq_false fun q => by have q1 := q.sig i x hx; unfold SigOk SigIn at q1; first | omega | (rw [prevS_pos (by omega) hy] at q1; omega)).symm
 replace h45 := XF h45
 refine rS (FA 1 rfl fo30_1 rfl) <| rS (L1 (Value.int .i64 x.Read) 0 rfl tk3 rfl rfl) <| rS (CL (within_5 x.Read 0 86400000) (ha_nil) rfl) <| rS (NT rfl) <| rS (PK rfl) <| RK hK19 ?_
 refine w_if rfl (fun h50 => ?_) (fun h50 => ?_)
 · replace h50 := XT h50
   refine WS fun _ hK21 => rS (AG rfl) <| RK hK21 <| w_ret <| Q1 hQ rfl rfl rfl ?_
   first | exact congrArg Value.bool (decide_eq_false fun q => by have q1 := q.time; have q2 := q.len; omega).symm | exact congrArg Value.bool (decide_eq_true (ride_all (by omega) (by omega) hl4_1 (by omega))).symm | exact congrArg Value.bool (decide_eq_false fun q => by have q1 := q.sig i x hx; unfold SigOk SigIn at q1; first | omega | (rw [prevS_pos (by omega) hy] at q1; omega)).symm
 replace h50 := XF h50
 refine WK hK18 <| w_seq fun _ hK22 => w_draw mixed 38 (by kernel_rfl) <| dS (MV rfl) <| dS (BI rfl b_gtr) <| dS (MV rfl) ?_
 refine d_bool (t := 53) rfl (fun h53 => ?_) (fun h53 => ?_)
 rotate_left 1
 · replace h53 := DF h53
   refine dS (OX rfl) <| dS (OX rfl) <| dS (OX rfl) <| dS (OX rfl) <| dS (OX rfl) <| dS (OX rfl) <| dS (OX rfl) <| dS (OX rfl) <| dS (OX rfl) <| dS (OX rfl) ?_
   refine dS (OX rfl) <| dS (OX rfl) <| dS (OX rfl) <| dS (OX rfl) <| dS (OX rfl) <| dS (OX rfl) <| dS (OX rfl) <| dS (OX rfl) <| dS (OX rfl) <| dS (OX rfl) ?_
   refine dS (OX rfl) <| dS (OX rfl) <| dS (OX rfl) <| dS (OX rfl) <| dS (OX rfl) <| dS (OX rfl) <| dS (OX rfl) <| dS (OX rfl) <| dS (OX rfl) <| dS (OX rfl) ?_
   refine dS (OX rfl) <| dS (OX rfl) <| dS (OX rfl) <| dS (OX rfl) <| dS (PK rfl) <| d_end <| RK hK22 <| w_if_false rfl <| w_skip <| k_block ?_
   refine KK hK15 <| w_region <| rS (MV rfl) <| rS (BI rfl (b_add ⟨by omega, by omega⟩)) <| rS (AG rfl) <| r_nil ?_
   have hb27 : (Value.int .i64 (((i + 1) : Nat) : Int)) = (Value.int .i64 (((i : Nat) : Int) + 1)) := by exact congrArg (Value.int .i64) (by omega)
   refine k_then (hJ11 ⟨(i + 1), ⟨by omega, sigs_succ hl4_1 hx (by unfold SigOk SigIn; first | (rw [prevS_at0 (by omega)]; simp only; omega) | (rw [prevS_pos (by omega) hy]; omega))⟩⟩ _ _ _ rfl (by first | omega | (simp; omega)) (Sub.cons rfl <| Sub.cons rfl <| sub_val rfl hb27 <| Sub.nil _) (fun w hs => St.sel [1, 2, 3, 4, 5, 6, 7] rfl rfl hs))
 replace h53 := DT h53
 refine dS (FA 0 rfl fo30_0 rfl) <| dS (L1 (Value.int .i64 x.Beam) 0 rfl tk3 rfl rfl) <| dS (FA 2 rfl fo69_2 rfl) <| dS (L1 (Value.slice sgA r.Signals.length sgC) 1 rfl tk67 rfl rfl) <| dS (MV rfl) <| dS (BI rfl (b_sub ⟨by omega, by omega⟩)) ?_
 obtain ⟨y, hy⟩ : ∃ y_, r.Signals[(i - 1)]? = some y_ := ⟨r.Signals[(i - 1)]'(by omega), List.getElem?_eq_getElem _⟩
 have hym : (r.Signals.map SignalV.cells)[(i - 1)]? = some (SignalV.cells y) := by rw [List.getElem?_map, hy]; rfl
 refine dS (IA (i - 1) rfl (has_at 7 rfl) te67 (by decide) (by omega) (by omega)) <| dS (FAR ((i - 1) * 2) rfl (has_at 7 rfl) (Nat.mul_pos (by omega) (by decide)) fo30_0 rfl) <| dS (LE1 (i - 1) 0 (Value.int .i64 y.Beam) rfl tk3 (has_at 7 rfl) hym rfl (by decide) rfl) <| dS (BI rfl b_lss) <| dS (MV rfl) ?_
 refine d_bool (t := 64) rfl (fun h64 => ?_) (fun h64 => ?_)
 · replace h64 := DT h64
   refine dS (OX rfl) <| dS (OX rfl) <| dS (OX rfl) <| dS (OX rfl) <| dS (OX rfl) <| dS (OX rfl) <| dS (OX rfl) <| dS (OX rfl) <| dS (OX rfl) <| dS (OX rfl) ?_
   refine dS (OX rfl) <| dS (OX rfl) <| dS (OX rfl) <| dS (OX rfl) <| dS (OX rfl) <| dS (OX rfl) <| dS (OX rfl) <| dS (OX rfl) <| dS (OX rfl) <| dS (OX rfl) ?_
   refine dS (OX rfl) <| dS (OX rfl) <| dS (PK rfl) <| dS (PK rfl) <| d_end <| RK hK22 <| w_if_true rfl <| WS fun _ hK23 => rS (AG rfl) <| RK hK23 ?_
   refine w_ret <| Q1 hQ rfl rfl rfl ?_
   first | exact congrArg Value.bool (decide_eq_false fun q => by have q1 := q.time; have q2 := q.len; omega).symm | exact congrArg Value.bool (decide_eq_true (ride_all (by omega) (by omega) hl4_1 (by omega))).symm | exact congrArg Value.bool (decide_eq_false fun q => by have q1 := q.sig i x hx; unfold SigOk SigIn at q1; first | omega | (rw [prevS_pos (by omega) hy] at q1; omega)).symm
 replace h64 := DF h64
 refine dS (FA 0 rfl fo30_0 rfl) <| dS (L1 (Value.int .i64 x.Beam) 0 rfl tk3 rfl rfl) <| dS (FA 2 rfl fo69_2 rfl) <| dS (L1 (Value.slice sgA r.Signals.length sgC) 1 rfl tk67 rfl rfl) <| dS (MV rfl) <| dS (BI rfl (b_sub ⟨by omega, by omega⟩)) <| dS (IA (i - 1) rfl (has_at 7 rfl) te67 (by decide) (by omega) (by omega)) <| dS (FAR ((i - 1) * 2) rfl (has_at 7 rfl) (Nat.mul_pos (by omega) (by decide)) fo30_0 rfl) <| dS (LE1 (i - 1) 0 (Value.int .i64 y.Beam) rfl tk3 (has_at 7 rfl) hym rfl (by decide) rfl) <| dS (BI rfl b_eql) ?_
 refine dS (MV rfl) ?_
 refine d_bool (t := 75) rfl (fun h75 => ?_) (fun h75 => ?_)
 rotate_left 1
 · replace h75 := DF h75
   refine dS (OX rfl) <| dS (OX rfl) <| dS (OX rfl) <| dS (OX rfl) <| dS (OX rfl) <| dS (OX rfl) <| dS (OX rfl) <| dS (OX rfl) <| dS (OX rfl) <| dS (OX rfl) ?_
   refine dS (PK rfl) <| dS (PK rfl) <| dS (PK rfl) <| d_end <| RK hK22 <| w_if_false rfl <| w_skip <| k_block <| KK hK15 <| w_region ?_
   refine rS (MV rfl) <| rS (BI rfl (b_add ⟨by omega, by omega⟩)) <| rS (AG rfl) <| r_nil ?_
   have hb26 : (Value.int .i64 (((i + 1) : Nat) : Int)) = (Value.int .i64 (((i : Nat) : Int) + 1)) := by exact congrArg (Value.int .i64) (by omega)
   refine k_then (hJ11 ⟨(i + 1), ⟨by omega, sigs_succ hl4_1 hx (by unfold SigOk SigIn; first | (rw [prevS_at0 (by omega)]; simp only; omega) | (rw [prevS_pos (by omega) hy]; omega))⟩⟩ _ _ _ rfl (by first | omega | (simp; omega)) (Sub.cons rfl <| Sub.cons rfl <| sub_val rfl hb26 <| Sub.nil _) (fun w hs => St.sel [1, 2, 3, 4, 5, 6, 7] rfl rfl hs))
 replace h75 := DT h75
 refine dS (FA 1 rfl fo30_1 rfl) <| dS (L1 (Value.int .i64 x.Read) 0 rfl tk3 rfl rfl) <| dS (FA 2 rfl fo69_2 rfl) <| dS (L1 (Value.slice sgA r.Signals.length sgC) 1 rfl tk67 rfl rfl) <| dS (MV rfl) <| dS (BI rfl (b_sub ⟨by omega, by omega⟩)) <| dS (IA (i - 1) rfl (has_at 7 rfl) te67 (by decide) (by omega) (by omega)) <| dS (FAR (((i - 1) * 2) + 1) rfl (has_at 7 rfl) (Nat.mul_pos (by omega) (by decide)) fo30_1 rfl) <| dS (LE1 (i - 1) 1 (Value.int .i64 y.Read) rfl tk3 (has_at 7 rfl) hym rfl (by decide) rfl) <| dS (BI rfl b_leq) ?_
 refine dS (PK rfl) <| dS (PK rfl) <| dS (PK rfl) <| d_end <| RK hK22 ?_
 refine w_if rfl (fun h88 => ?_) (fun h88 => ?_)
 · replace h88 := DT h88
   refine WS fun _ hK24 => rS (AG rfl) <| RK hK24 <| w_ret <| Q1 hQ rfl rfl rfl ?_
   first | exact congrArg Value.bool (decide_eq_false fun q => by have q1 := q.time; have q2 := q.len; omega).symm | exact congrArg Value.bool (decide_eq_true (ride_all (by omega) (by omega) hl4_1 (by omega))).symm | exact congrArg Value.bool (decide_eq_false fun q => by have q1 := q.sig i x hx; unfold SigOk SigIn at q1; first | omega | (rw [prevS_pos (by omega) hy] at q1; omega)).symm
 replace h88 := DF h88
 refine w_skip <| k_block <| KK hK15 <| w_region <| rS (MV rfl) <| rS (BI rfl (b_add ⟨by omega, by omega⟩)) <| rS (AG rfl) <| r_nil ?_
 have hb25 : (Value.int .i64 (((i + 1) : Nat) : Int)) = (Value.int .i64 (((i : Nat) : Int) + 1)) := by exact congrArg (Value.int .i64) (by omega)
 refine k_then (hJ11 ⟨(i + 1), ⟨by omega, sigs_succ hl4_1 hx (by unfold SigOk SigIn; first | (rw [prevS_at0 (by omega)]; simp only; omega) | (rw [prevS_pos (by omega) hy]; omega))⟩⟩ _ _ _ rfl (by first | omega | (simp; omega)) (Sub.cons rfl <| Sub.cons rfl <| sub_val rfl hb25 <| Sub.nil _) (fun w hs => St.sel [1, 2, 3, 4, 5, 6, 7] rfl rfl hs))
set_option maxRecDepth 100000 in
set_option maxHeartbeats 400000 in
theorem right_c (l : LineM) (kA : Option Addr) (kC : Nat) (az : List RA) (cA : Option Addr) (cC : Nat) (bA : Option Addr) (bC : Nat) (r : RideM) (sgA : Option Addr) (sgC : Nat) (hin : LineIn l az) (hrr : r.Signals.length ≤ 9223372036854775807) :
    FnV Try.prog 26 [(Value.agg (LineV.cells (LineV.mk (TrackV.mk (Slc.mk kA l.Track.length kC)) l.Fast (Slc.mk cA l.Clocks.length cC) (Slc.mk bA l.Beams.length bC) l.Finish l.Fakes l.Misses)).toArray), (Value.agg (RideV.cells (RideV.mk r.Start r.Now (Slc.mk sgA r.Signals.length sgC))).toArray)] [(rd kA l.Track.length 9 (l.Track.map StretchV.cells)), (rd cA l.Clocks.length 2 (List.zipWith ClockM.cells l.Clocks az)), (bun (nest ClockM.rds l.Clocks az)), (rd bA l.Beams.length 4 (l.Beams.map BeamV.cells)), (rd sgA r.Signals.length 2 (r.Signals.map SignalV.cells))] (Value.bool (decide (RideOk l r))) := by
 refine fnV_of go26 Try.func26 rfl rfl fun w0 Q hQ hN => ?_
 try dsimp only
 refine WS fun _ hK1 => BXA rfl fun b2 => BXA rfl fun b3 => rS (AG rfl) <| RK hK1 <| WS fun _ hK4 => rS (FA 2 rfl fo69_2 rfl) <| rS (L1 (Value.slice sgA r.Signals.length sgC) 0 rfl tk67 rfl rfl) <| rS (LN rfl ut67) <| rS (BI rfl b_leq) ?_
 refine rS (MV rfl) ?_
 refine r_bool (t := 9) rfl (fun h9 => ?_) (fun h9 => ?_)
 rotate_left 1
 · replace h9 := DF h9
   refine rS (OX rfl) <| rS (OX rfl) <| rS (OX rfl) <| rS (PK rfl) <| rS (AG rfl) <| RK hK4 <| w_ret <| Q1 hQ rfl rfl rfl ?_
   first | exact congrArg Value.bool (decide_eq_false fun q => h9 (by have := q.len; omega)).symm | rfl
 replace h9 := DT h9
 refine rS (LW 1 rfl tk28 rfl rfl) <| rS (LW 0 rfl tk69 rfl rfl) <| rS (CL (rride_c l kA kC az cA cC bA bC r sgA sgC hin (by first | assumption | omega | (simp; done) | (simp; omega))) (ha_at 2 rfl rfl <| ha_at 3 rfl rfl <| ha_at 4 rfl rfl <| ha_at 5 rfl rfl <| ha_at 6 rfl rfl <| ha_nil) rfl) <| rS (PK rfl) <| rS (AG rfl) <| RK hK4 <| w_ret <| Q1 hQ rfl rfl rfl ?_
 first | exact congrArg Value.bool (decide_eq_false fun q => h9 (by have := q.len; omega)).symm | rfl
end
end Go.Proofs.Ytaehngpnlkokkaa
