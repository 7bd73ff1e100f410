/-
  The statement postHelp_said, part 4 of 5: P7, S2, P8, M1, M2, M3, P9, G1, G2, P4, P10, P11, P12, A1, A2, T1, T2.
  Conditions: none.
-/
import Derived.Test.YtlncplfcbmcjgaaHl1
import Derived.Test.YtlncplfcbmcjgaaHl2
import Derived.Test.YtlncplfcbmcjgaaHl3
namespace Go.Proofs.Ytlncplfcbmcjgaa
section
open Go.RowKit
set_option linter.unusedVariables false
set_option maxRecDepth 100000 in
set_option maxHeartbeats 400000 in
theorem hear1_c (d : GuardM) (kA : Option Addr) (kC : Nat) (pA : Option Addr) (pC : Nat) (nA : Option Addr) (nC : Nat) (tA : Option Addr) (tN : Nat) (tC : Nat) (gw : Nat) (m : BM) (P : Nat → Prop) (gm : Nat) (s : SpotV) (g1 : Nat) (g2 : Nat) (g3 : Nat) (hin : GuardIn d) (htr : trackOk d.Track = true) (hok : GuardOk d) (hss : SpotOk d.Track s) (hm : KeyOk m P) :
    SeqG Try.prog 112 [] [(Value.pointer (some ⟨g1, 0, none⟩)), (Value.pointer (some ⟨g2, 0, none⟩)), (Value.pointer (some ⟨g3, 0, none⟩))] [(rd kA d.Track.length 9 (d.Track.map StretchV.cells)), (rd pA d.Posts.length 7 (d.Posts.map PostV.cells)), (rd nA d.Needs.length 3 (d.Needs.map NeedV.cells)), (blk gw 89 (WatchV.cells (WatchV.mk (GuardV.mk (TrackV.mk (Slc.mk kA d.Track.length kC)) (Slc.mk pA d.Posts.length pC) (Slc.mk nA d.Needs.length nC) d.Tower d.Radio) (Slc.mk tA tN tC)))), (blk g1 84 [(Value.pointer (some ⟨gw, 0, none⟩))]), (gmp iV gm (gmapV Value.bool m)), (blk g2 64 [(Value.map (some gm))]), (blk g3 30 (SpotV.cells s))] ([] : List Int) (fun ys x ys' => ∃ i : Nat, i < d.Posts.length ∧ hearQ d P s i ∧ ys = (idxL i (hearQ d P s)) ∧ x = [Value.int .i64 (i : Int)] ∧ ys' = ys ++ [(i : Int)]) (fun ys => ys = moreL d P s) := by
 have hlen := hin.trk
 have hside := hin.side
 have hpl := hin.pst
 have hnl := hin.nds
 have hnk := hin.nk
 have hpk := hin.pk
 have hrd := hok.radio
 refine seqG_of go112 Try.func112 rfl rfl fun l J Z A0 w0 Q hY hJ0 hF0 hQ hN => ?_
 try dsimp only
 refine WS fun _ hK1 => rS (L1Q 5 rfl tk84 rfl) <| rS (SX (sd_nil_p rfl rfl) rfl rfl) <| rS (FA 0 rfl fo89_0 rfl) <| rS (FA 1 rfl fo32_1 rfl) <| rS (L1R (Value.slice pA d.Posts.length pC) 4 rfl tk25 rfl rfl) <| rS (LN rfl ut25) <| rS (MV rfl) <| RK hK1 <| w_block ?_
 have hinit : (0 ≤ d.Posts.length) ∧ (J (idxL 0 (hearQ d P s)) A0) ∧ (Fo A0 w0 A0) := by exact ⟨Nat.zero_le _, hJ0, hF0⟩
 refine w_loop (ι := { z : Nat × Assn // (z.1 ≤ d.Posts.length) ∧ (J (idxL z.1 (hearQ d P s)) z.2) ∧ (Fo A0 w0 z.2) }) (fun z => [(0, (Value.func (.yield l) #[] #[])), (1, (Value.pointer (some ⟨g1, 0, none⟩))), (2, (Value.pointer (some ⟨g2, 0, none⟩))), (3, (Value.pointer (some ⟨g3, 0, none⟩))), (14, (Value.slice pA d.Posts.length pC)), (15, (Value.int .i64 ((d.Posts.length : Nat) : Int))), (16, (Value.int .i64 ((z.1.1 : Nat) : Int)))]) (fun z => [z.1.2, (rd kA d.Track.length 9 (d.Track.map StretchV.cells)).ro, (rd pA d.Posts.length 7 (d.Posts.map PostV.cells)).ro, (rd nA d.Needs.length 3 (d.Needs.map NeedV.cells)).ro, (blk gw 89 (WatchV.cells (WatchV.mk (GuardV.mk (TrackV.mk (Slc.mk kA d.Track.length kC)) (Slc.mk pA d.Posts.length pC) (Slc.mk nA d.Needs.length nC) d.Tower d.Radio) (Slc.mk tA tN tC)))).ro, (blk g1 84 [(Value.pointer (some ⟨gw, 0, none⟩))]).ro, (gmp iV gm (gmapV Value.bool m)).ro, (blk g2 64 [(Value.map (some gm))]).ro, (blk g3 30 (SpotV.cells s)).ro]) (fun z => d.Posts.length - z.1.1) ⟨(0, A0), hinit⟩ (Sub.cons rfl <| Sub.cons rfl <| Sub.cons rfl <| Sub.cons rfl <| Sub.cons rfl <| Sub.cons rfl <| Sub.cons rfl <| Sub.nil _) (fun w hs => St.sel [0, 1, 2, 3, 4, 5, 6, 7, 8] rfl rfl hs) ?_
 clear hinit
 rintro ⟨⟨i, A⟩, ⟨hl1_0, hl1_1, hl1_2⟩⟩ J2 hJ2
 try dsimp only at hl1_0 hl1_1 hl1_2
 try dsimp only
 refine WS fun _ hK3 => rS (BI rfl b_lss) <| RK hK3 <| w_seq fun _ hK4 => ?_
 refine w_if rfl (fun h5 => ?_) (fun h5 => ?_)
 rotate_left 1
 · replace h5 := DF h5
   refine w_exit <| k_exit_then <| k_exit_then <| k_exit_same ?_
   refine hN _ _ _ (l_nil (vs := []) trivial fun w hs => endG 0 rfl (by show _ = _; unfold moreL; rw [show i = d.Posts.length by omega]) hl1_1 hl1_2 hs)
 replace h5 := DT h5
 refine WK hK4 <| w_seq fun _ hK6 => w_block <| WS fun _ hK7 => rS (MV rfl) ?_
 obtain ⟨p, hp⟩ : ∃ y_, d.Posts[i]? = some y_ := ⟨d.Posts[i]'(by omega), List.getElem?_eq_getElem _⟩
 have hpm : (d.Posts.map PostV.cells)[i]? = some (PostV.cells p) := by rw [List.getElem?_map, hp]; rfl
 refine rS (IA i rfl (has_at 2 rfl) te25 (by decide) (by omega) (by omega)) <| rS (LEN i 0 (PostV.cells p) rfl tk62 (has_at 2 rfl) hpm rfl (by decide) rfl rfl) <| AL rfl tz62 fun b8 => rS (AG rfl) <| SW0 rfl ts62 rfl <| RK hK7 <| w_seq fun _ hK9 => WS fun _ hK10 => rS (L1Q 8 rfl tk64 rfl) <| rS (MV rfl) ?_
 refine rS (SX (gsd_look1_v (kV := iV) (x := ((i : Nat) : Int)) (l := m) (f := Value.bool) (z := false) rfl rfl rfl ut64 (gkey_int ut3) tv4 (by exact has_ror 7 rfl)) rfl rfl) <| rS (NT rfl) <| RK hK10 ?_
 refine w_if rfl (fun hg24 => ?_) (fun hg24 => ?_)
 · rw [Bool.not_eq_true'] at hg24
   refine w_exit <| k_exit_then <| k_exit_same <| KK hK6 <| w_region <| rS (BI rfl (b_add ⟨by omega, by omega⟩)) <| rS (MV rfl) <| r_nil ?_
   have hb11 : (Value.int .i64 (((i + 1) : Nat) : Int)) = (Value.int .i64 (((i : Nat) : Int) + 1)) := by exact congrArg (Value.int .i64) (by omega)
   refine k_then (hJ2 ⟨((i + 1), A), ⟨by omega, by rw [idxL_no (show ¬ hearQ d P s i from by first | (rintro ⟨_, p2, hp2, hh⟩; rw [hp] at hp2; cases hp2; exact hg64 (hgr.2 hh)) | exact (fun q => by have q2 := (key_look hm).2 q.1; rw [hg24] at q2; cases q2))]; exact hl1_1, hl1_2⟩⟩ _ _ _ rfl (by first | omega | (simp; omega)) (Sub.cons rfl <| Sub.cons rfl <| Sub.cons rfl <| Sub.cons rfl <| Sub.cons rfl <| Sub.cons rfl <| sub_val rfl hb11 <| Sub.nil _) (fun w hs => St.sel [1, 2, 3, 4, 5, 6, 7, 8, 9] rfl rfl hs))
 rw [Bool.not_eq_false'] at hg24
 refine WK hK9 <| WS fun _ hK12 => rS (FA 2 rfl fo62_2 rfl) <| rS (LP (SpotV.cells p.Spot) 0 rfl tk30 rfl rfl rfl) <| rS (LWR 9 rfl tk30 rfl rfl) <| rS (BI rfl (eqs30 _ _ p.Spot s)) <| rS (MV rfl) ?_
 refine r_bool (t := 29) rfl (fun hg29 => ?_) (fun hg29 => ?_)
 rotate_left 1
 · replace hg29 := DF hg29
   refine rS (OX rfl) <| rS (OX rfl) <| rS (OX rfl) <| rS (OX rfl) <| rS (OX rfl) <| rS (OX rfl) <| rS (OX rfl) <| rS (PK rfl) <| rS (AG rfl) <| RK hK12 ?_
   refine w_seq fun _ hK38 => w_draw4 mixed [0, 1, 2, 3, 4, 5, 6, 7, 8, 9, 10, 11, 14] [12, 13] [false, false, false, false, false, false, false, false, false, false, false, false, false] [false, false] [(blk b8 62 (PostV.cells p)), A, (rd kA d.Track.length 9 (d.Track.map StretchV.cells)).ro, (rd pA d.Posts.length 7 (d.Posts.map PostV.cells)).ro, (rd nA d.Needs.length 3 (d.Needs.map NeedV.cells)).ro, (blk gw 89 (WatchV.cells (WatchV.mk (GuardV.mk (TrackV.mk (Slc.mk kA d.Track.length kC)) (Slc.mk pA d.Posts.length pC) (Slc.mk nA d.Needs.length nC) d.Tower d.Radio) (Slc.mk tA tN tC)))).ro, (blk g1 84 [(Value.pointer (some ⟨gw, 0, none⟩))]).ro, (gmp iV gm (gmapV Value.bool m)).ro, (blk g2 64 [(Value.map (some gm))]).ro, (blk g3 30 (SpotV.cells s)).ro] [] (by kernel_rfl) (fun w hs => St.sel [0, 1, 2, 3, 4, 5, 6, 7, 8, 9] rfl rfl hs) (fun w hs => St.sel [] rfl rfl hs) <| eS rfl (L1Q 6 rfl tk84 rfl) <| eS rfl (SX (sd_nil_p rfl rfl) rfl rfl) <| eS rfl (FA 0 rfl fo89_0 rfl) <| eS rfl (FA 0 rfl fo32_0 rfl) <| eS rfl (LPR (TrackV.cells (TrackV.mk (Slc.mk kA d.Track.length kC))) 5 rfl tk24 rfl rfl rfl) <| eS rfl (LWR 9 rfl tk30 rfl rfl) <| eS rfl (FA 2 rfl fo62_2 rfl) <| eS rfl (LP (SpotV.cells p.Spot) 0 rfl tk30 rfl rfl rfl) ?_
   refine eS rfl (CL (Apart_c d.Track kA kC s p.Spot (by first | assumption | omega | (simp; done) | (simp; omega)) (by first | assumption | omega | (simp; done) | (simp; omega))) (ha_at 2 rfl rfl <| ha_nil) rfl) <| eS rfl (MV rfl) ?_
   have hps := (hok.post i p hp).2.2.1
   have hap := apart_in htr ⟨hss, hps⟩
   have hab := apartF_b (trackOk_all htr) (trackOk_le htr) hss hps
   have hgr := hears_great (d := d) (a := s) (b := p.Spot) (by omega) hrd.1
   rw [← hap.2] at hab hgr
   refine eS rfl (EX rfl) <| eS rfl (EX rfl) <| eS rfl (AG rfl) <| d_fin rfl <| t_cons rfl fun T39 hT39 => AL rfl tz28 fun b40 => RN hT39 [1, 2, 3, 4, 5, 6, 7, 8, 9, 10] rfl rfl <| t_cons rfl fun T41 hT41 => SW0 rfl ts28 rfl <| RN hT41 [1, 2, 3, 4, 5, 6, 7, 8, 9, 10] rfl rfl ?_
   refine t_fin rfl <| KK hK38 <| w_seq fun _ hK42 => w_draw4 mixed [0, 1, 2, 3, 4, 5, 8, 9, 10, 11, 12] [6, 7, 13, 14] [false, false, false, false, false, false, false, false, false, false, false] [false, false, false, false] [(blk b40 28 (SpanV.cells (apartV d.Track s p.Spot))), (blk b8 62 (PostV.cells p)), A, (rd kA d.Track.length 9 (d.Track.map StretchV.cells)).ro, (rd pA d.Posts.length 7 (d.Posts.map PostV.cells)).ro, (rd nA d.Needs.length 3 (d.Needs.map NeedV.cells)).ro, (blk gw 89 (WatchV.cells (WatchV.mk (GuardV.mk (TrackV.mk (Slc.mk kA d.Track.length kC)) (Slc.mk pA d.Posts.length pC) (Slc.mk nA d.Needs.length nC) d.Tower d.Radio) (Slc.mk tA tN tC)))).ro, (blk g1 84 [(Value.pointer (some ⟨gw, 0, none⟩))]).ro, (gmp iV gm (gmapV Value.bool m)).ro, (blk g2 64 [(Value.map (some gm))]).ro, (blk g3 30 (SpotV.cells s)).ro] [] (by kernel_rfl) (fun w hs => St.sel [0, 1, 2, 3, 4, 5, 6, 7, 8, 9, 10] rfl rfl hs) (fun w hs => St.sel [] rfl rfl hs) <| eS rfl (MV rfl) <| eS rfl (MV rfl) <| eS rfl (FA 0 rfl fo28_0 rfl) <| eS rfl (L1 (Value.int .i64 ((apartV d.Track s p.Spot).Lo)) 0 rfl tk3 rfl rfl) <| eS rfl (FA 1 rfl fo28_1 rfl) <| eS rfl (L1 (Value.int .i64 ((apartV d.Track s p.Spot).Hi)) 0 rfl tk3 rfl rfl) ?_
   refine eS rfl (L1Q 7 rfl tk84 rfl) <| eS rfl (SX (sd_nil_p rfl rfl) rfl rfl) <| eS rfl (FA 0 rfl fo89_0 rfl) <| eS rfl (FA 6 rfl fo32_4 rfl) <| eS rfl (L1R (Value.int .i64 d.Radio) 6 rfl tk3 rfl rfl) <| d_fin rfl <| t_cons rfl fun T43 hT43 => r_bs (xs := [.tmp 53, .tmp 55]) (cs := [(Value.int .i64 ((apartV d.Track s p.Spot).Lo)), (Value.int .i64 ((apartV d.Track s p.Spot).Hi))]) rfl te33 tz3 rfl rfl rfl rfl (by simp [Value.cells]) rfl rfl fun b44 => RN hT43 [1, 2, 3, 4, 5, 6, 7, 8, 9, 10, 11] rfl rfl <| t_cons rfl fun T45 hT45 => ?_
   refine rS (CL (greatest_c ([(apartV d.Track s p.Spot).Lo, (apartV d.Track s p.Spot).Hi]) (some ⟨b44, 0, none⟩) 2 (by intro x hx; simp only [List.mem_cons, List.not_mem_nil, or_false] at hx; omega) (by simp)) (ha_cons (has_rd_blk 0 rfl rfl (by simp [iC_length]) rfl) <| ha_nil) rfl) <| RN hT45 [1, 2, 3, 4, 5, 6, 7, 8, 9, 10, 11] rfl rfl <| t_cons rfl fun T46 hT46 => rS (BI rfl b_leq) <| RN hT46 [1, 2, 3, 4, 5, 6, 7, 8, 9, 10, 11] rfl rfl <| t_cons rfl fun T47 hT47 => rS (PK rfl) <| RN hT47 [1, 2, 3, 4, 5, 6, 7, 8, 9, 10, 11] rfl rfl <| t_fin rfl <| KK hK42 ?_
   refine w_if rfl (fun hg64 => ?_) (fun hg64 => ?_)
   rotate_left 1
   · replace hg64 := DF hg64
     refine w_skip <| k_block <| KK hK6 <| w_region <| rS (BI rfl (b_add ⟨by omega, by omega⟩)) <| rS (MV rfl) <| r_nil ?_
     have hb53 : (Value.int .i64 (((i + 1) : Nat) : Int)) = (Value.int .i64 (((i : Nat) : Int) + 1)) := by exact congrArg (Value.int .i64) (by omega)
     refine k_then (hJ2 ⟨((i + 1), A), ⟨by omega, by rw [idxL_no (show ¬ hearQ d P s i from by first | (rintro ⟨_, p2, hp2, hh⟩; rw [hp] at hp2; cases hp2; exact hg64 (hgr.2 hh)) | exact (fun q => by have q2 := (key_look hm).2 q.1; rw [hg24] at q2; cases q2))]; exact hl1_1, hl1_2⟩⟩ _ _ _ rfl (by first | omega | (simp; omega)) (Sub.cons rfl <| Sub.cons rfl <| Sub.cons rfl <| Sub.cons rfl <| Sub.cons rfl <| Sub.cons rfl <| sub_val rfl hb53 <| Sub.nil _) (fun w hs => St.sel [3, 4, 5, 6, 7, 8, 9, 10, 11] rfl rfl hs))
   replace hg64 := DT hg64
   refine WS fun _ hK48 => rS (MV rfl) <| rS (MV rfl) ?_
   refine r_yieldG (k := (idxL i (hearQ d P s))) (k' := ((idxL i (hearQ d P s)) ++ [(((i : Nat) : Int))])) 3 (by first | exact hsz | exact Nat.le_refl _) hY hl1_1 hl1_2 rfl rfl rfl (by exact ⟨i, by omega, ⟨(key_look hm).1 hg24, p, hp, (by first | exact hgr.1 hg64 | exact hears_near hg29 hg51 hrd.1)⟩, rfl, rfl, rfl⟩) rfl rfl (fun B49 hJ50 hF51 => ?_) (fun B49 hJ50 hF51 => ?_)
   rotate_left 1
   · refine rS (NT rfl) ?_
     refine RK hK48 <| w_if_true rfl <| w_ret ?_
     refine hQ _ _ _ (l_nil (vs := []) trivial fun w hs => endGz 3 rfl hJ50 hF51 hs)
   refine rS (NT rfl) <| RK hK48 <| w_if_false rfl <| w_skip <| k_block <| KK hK6 <| w_region <| rS (BI rfl (b_add ⟨by omega, by omega⟩)) <| rS (MV rfl) <| r_nil ?_
   have hb52 : (Value.int .i64 (((i + 1) : Nat) : Int)) = (Value.int .i64 (((i : Nat) : Int) + 1)) := by exact congrArg (Value.int .i64) (by omega)
   refine k_then (hJ2 ⟨((i + 1), B49), ⟨by omega, by rw [idxL_yes (show hearQ d P s i from ⟨(key_look hm).1 hg24, p, hp, (by first | exact hgr.1 hg64 | exact hears_near hg29 hg51 hrd.1)⟩)]; exact hJ50, hF51⟩⟩ _ _ _ rfl (by first | omega | (simp; omega)) (Sub.cons rfl <| Sub.cons rfl <| Sub.cons rfl <| Sub.cons rfl <| Sub.cons rfl <| Sub.cons rfl <| sub_val rfl hb52 <| Sub.nil _) (fun w hs => St.sel [3, 4, 5, 6, 7, 8, 9, 10, 11] rfl rfl hs))
 replace hg29 := DT hg29
 refine rS (FA 1 rfl fo30_1 rfl) <| rS (FA 1 rfl fo28_0 rfl) <| rS (L1R (Value.int .i64 s.Off.Lo) 9 rfl tk3 rfl rfl) <| rS (FA 1 rfl fo30_1 rfl) <| rS (FA 2 rfl fo28_1 rfl) <| rS (L1R (Value.int .i64 s.Off.Hi) 9 rfl tk3 rfl rfl) <| rS (BI rfl b_eql) <| rS (PK rfl) <| rS (AG rfl) <| RK hK12 ?_
 refine w_seq fun _ hK13 => w_draw4 mixed [0, 1, 2, 3, 4, 5, 6, 7, 8, 9, 10, 11, 14] [12, 13] [false, false, false, false, false, false, false, false, false, false, false, false, false] [false, false] [(blk b8 62 (PostV.cells p)), A, (rd kA d.Track.length 9 (d.Track.map StretchV.cells)).ro, (rd pA d.Posts.length 7 (d.Posts.map PostV.cells)).ro, (rd nA d.Needs.length 3 (d.Needs.map NeedV.cells)).ro, (blk gw 89 (WatchV.cells (WatchV.mk (GuardV.mk (TrackV.mk (Slc.mk kA d.Track.length kC)) (Slc.mk pA d.Posts.length pC) (Slc.mk nA d.Needs.length nC) d.Tower d.Radio) (Slc.mk tA tN tC)))).ro, (blk g1 84 [(Value.pointer (some ⟨gw, 0, none⟩))]).ro, (gmp iV gm (gmapV Value.bool m)).ro, (blk g2 64 [(Value.map (some gm))]).ro, (blk g3 30 (SpotV.cells s)).ro] [] (by kernel_rfl) (fun w hs => St.sel [0, 1, 2, 3, 4, 5, 6, 7, 8, 9] rfl rfl hs) (fun w hs => St.sel [] rfl rfl hs) <| eS rfl (L1Q 6 rfl tk84 rfl) <| eS rfl (SX (sd_nil_p rfl rfl) rfl rfl) <| eS rfl (FA 0 rfl fo89_0 rfl) <| eS rfl (FA 0 rfl fo32_0 rfl) <| eS rfl (LPR (TrackV.cells (TrackV.mk (Slc.mk kA d.Track.length kC))) 5 rfl tk24 rfl rfl rfl) <| eS rfl (LWR 9 rfl tk30 rfl rfl) <| eS rfl (FA 2 rfl fo62_2 rfl) <| eS rfl (LP (SpotV.cells p.Spot) 0 rfl tk30 rfl rfl rfl) ?_
 refine eS rfl (CL (Apart_c d.Track kA kC s p.Spot (by first | assumption | omega | (simp; done) | (simp; omega)) (by first | assumption | omega | (simp; done) | (simp; omega))) (ha_at 2 rfl rfl <| ha_nil) rfl) <| eS rfl (MV rfl) ?_
 have hps := (hok.post i p hp).2.2.1
 have hap := apart_in htr ⟨hss, hps⟩
 have hab := apartF_b (trackOk_all htr) (trackOk_le htr) hss hps
 have hgr := hears_great (d := d) (a := s) (b := p.Spot) (by omega) hrd.1
 rw [← hap.2] at hab hgr
 refine eS rfl (EX rfl) <| eS rfl (EX rfl) <| eS rfl (AG rfl) <| d_fin rfl <| t_cons rfl fun T14 hT14 => AL rfl tz28 fun b15 => RN hT14 [1, 2, 3, 4, 5, 6, 7, 8, 9, 10] rfl rfl <| t_cons rfl fun T16 hT16 => SW0 rfl ts28 rfl <| RN hT16 [1, 2, 3, 4, 5, 6, 7, 8, 9, 10] rfl rfl ?_
 refine t_fin rfl <| KK hK13 <| w_seq fun _ hK17 => w_draw4 mixed [0, 1, 2, 3, 4, 5, 8, 9, 10, 11, 12] [6, 7, 13, 14] [false, false, false, false, false, false, false, false, false, false, false] [false, false, false, false] [(blk b15 28 (SpanV.cells (apartV d.Track s p.Spot))), (blk b8 62 (PostV.cells p)), A, (rd kA d.Track.length 9 (d.Track.map StretchV.cells)).ro, (rd pA d.Posts.length 7 (d.Posts.map PostV.cells)).ro, (rd nA d.Needs.length 3 (d.Needs.map NeedV.cells)).ro, (blk gw 89 (WatchV.cells (WatchV.mk (GuardV.mk (TrackV.mk (Slc.mk kA d.Track.length kC)) (Slc.mk pA d.Posts.length pC) (Slc.mk nA d.Needs.length nC) d.Tower d.Radio) (Slc.mk tA tN tC)))).ro, (blk g1 84 [(Value.pointer (some ⟨gw, 0, none⟩))]).ro, (gmp iV gm (gmapV Value.bool m)).ro, (blk g2 64 [(Value.map (some gm))]).ro, (blk g3 30 (SpotV.cells s)).ro] [] (by kernel_rfl) (fun w hs => St.sel [0, 1, 2, 3, 4, 5, 6, 7, 8, 9, 10] rfl rfl hs) (fun w hs => St.sel [] rfl rfl hs) <| eS rfl (MV rfl) <| eS rfl (MV rfl) ?_
 refine d_bool3 (t := 51) rfl (fun hg51 => ?_) (fun hg51 => ?_)
 · replace hg51 := DT hg51
   refine eS rfl (OX rfl) <| eS rfl (OX rfl) <| eS rfl (OX rfl) <| eS rfl (OX rfl) <| eS rfl (OX rfl) <| eS rfl (OX rfl) <| eS rfl (OX rfl) <| eS rfl (OX rfl) <| eS rfl (OX rfl) <| d_fin rfl ?_
   refine t_cons rfl fun T18 hT18 => rS (OX rfl) <| RN hT18 [0, 1, 2, 3, 4, 5, 6, 7, 8, 9, 10] rfl rfl <| t_cons rfl fun T19 hT19 => rS (OX rfl) <| RN hT19 [0, 1, 2, 3, 4, 5, 6, 7, 8, 9, 10] rfl rfl <| t_cons rfl fun T20 hT20 => rS (OX rfl) <| RN hT20 [0, 1, 2, 3, 4, 5, 6, 7, 8, 9, 10] rfl rfl <| t_cons rfl fun T21 hT21 => ?_
   refine rS (PK rfl) <| RN hT21 [0, 1, 2, 3, 4, 5, 6, 7, 8, 9, 10] rfl rfl <| t_fin rfl <| KK hK17 <| w_if_true rfl <| WS fun _ hK22 => rS (MV rfl) <| rS (MV rfl) ?_
   refine r_yieldG (k := (idxL i (hearQ d P s))) (k' := ((idxL i (hearQ d P s)) ++ [(((i : Nat) : Int))])) 2 (by first | exact hsz | exact Nat.le_refl _) hY hl1_1 hl1_2 rfl rfl rfl (by exact ⟨i, by omega, ⟨(key_look hm).1 hg24, p, hp, (by first | exact hgr.1 hg64 | exact hears_near hg29 hg51 hrd.1)⟩, rfl, rfl, rfl⟩) rfl rfl (fun B23 hJ24 hF25 => ?_) (fun B23 hJ24 hF25 => ?_)
   rotate_left 1
   · refine rS (NT rfl) ?_
     refine RK hK22 <| w_if_true rfl <| w_ret ?_
     refine hQ _ _ _ (l_nil (vs := []) trivial fun w hs => endGz 2 rfl hJ24 hF25 hs)
   refine rS (NT rfl) <| RK hK22 <| w_if_false rfl <| w_skip <| k_block <| KK hK6 <| w_region <| rS (BI rfl (b_add ⟨by omega, by omega⟩)) <| rS (MV rfl) <| r_nil ?_
   have hb26 : (Value.int .i64 (((i + 1) : Nat) : Int)) = (Value.int .i64 (((i : Nat) : Int) + 1)) := by exact congrArg (Value.int .i64) (by omega)
   refine k_then (hJ2 ⟨((i + 1), B23), ⟨by omega, by rw [idxL_yes (show hearQ d P s i from ⟨(key_look hm).1 hg24, p, hp, (by first | exact hgr.1 hg64 | exact hears_near hg29 hg51 hrd.1)⟩)]; exact hJ24, hF25⟩⟩ _ _ _ rfl (by first | omega | (simp; omega)) (Sub.cons rfl <| Sub.cons rfl <| Sub.cons rfl <| Sub.cons rfl <| Sub.cons rfl <| Sub.cons rfl <| sub_val rfl hb26 <| Sub.nil _) (fun w hs => St.sel [2, 3, 4, 5, 6, 7, 8, 9, 10] rfl rfl hs))
 replace hg51 := DF hg51
 refine eS rfl (FA 0 rfl fo28_0 rfl) <| eS rfl (L1 (Value.int .i64 ((apartV d.Track s p.Spot).Lo)) 0 rfl tk3 rfl rfl) <| eS rfl (FA 1 rfl fo28_1 rfl) <| eS rfl (L1 (Value.int .i64 ((apartV d.Track s p.Spot).Hi)) 0 rfl tk3 rfl rfl) <| eS rfl (L1Q 7 rfl tk84 rfl) <| eS rfl (SX (sd_nil_p rfl rfl) rfl rfl) <| eS rfl (FA 0 rfl fo89_0 rfl) <| eS rfl (FA 6 rfl fo32_4 rfl) <| eS rfl (L1R (Value.int .i64 d.Radio) 6 rfl tk3 rfl rfl) <| d_fin rfl ?_
 refine t_cons rfl fun T27 hT27 => r_bs (xs := [.tmp 53, .tmp 55]) (cs := [(Value.int .i64 ((apartV d.Track s p.Spot).Lo)), (Value.int .i64 ((apartV d.Track s p.Spot).Hi))]) rfl te33 tz3 rfl rfl rfl rfl (by simp [Value.cells]) rfl rfl fun b28 => RN hT27 [1, 2, 3, 4, 5, 6, 7, 8, 9, 10, 11] rfl rfl <| t_cons rfl fun T29 hT29 => rS (CL (greatest_c ([(apartV d.Track s p.Spot).Lo, (apartV d.Track s p.Spot).Hi]) (some ⟨b28, 0, none⟩) 2 (by intro x hx; simp only [List.mem_cons, List.not_mem_nil, or_false] at hx; omega) (by simp)) (ha_cons (has_rd_blk 0 rfl rfl (by simp [iC_length]) rfl) <| ha_nil) rfl) <| RN hT29 [1, 2, 3, 4, 5, 6, 7, 8, 9, 10, 11] rfl rfl <| t_cons rfl fun T30 hT30 => rS (BI rfl b_leq) <| RN hT30 [1, 2, 3, 4, 5, 6, 7, 8, 9, 10, 11] rfl rfl <| t_cons rfl fun T31 hT31 => ?_
 refine rS (PK rfl) <| RN hT31 [1, 2, 3, 4, 5, 6, 7, 8, 9, 10, 11] rfl rfl <| t_fin rfl <| KK hK17 ?_
 refine w_if rfl (fun hg64 => ?_) (fun hg64 => ?_)
 rotate_left 1
 · replace hg64 := DF hg64
   refine w_skip <| k_block <| KK hK6 <| w_region <| rS (BI rfl (b_add ⟨by omega, by omega⟩)) <| rS (MV rfl) <| r_nil ?_
   have hb37 : (Value.int .i64 (((i + 1) : Nat) : Int)) = (Value.int .i64 (((i : Nat) : Int) + 1)) := by exact congrArg (Value.int .i64) (by omega)
   refine k_then (hJ2 ⟨((i + 1), A), ⟨by omega, by rw [idxL_no (show ¬ hearQ d P s i from by first | (rintro ⟨_, p2, hp2, hh⟩; rw [hp] at hp2; cases hp2; exact hg64 (hgr.2 hh)) | exact (fun q => by have q2 := (key_look hm).2 q.1; rw [hg24] at q2; cases q2))]; exact hl1_1, hl1_2⟩⟩ _ _ _ rfl (by first | omega | (simp; omega)) (Sub.cons rfl <| Sub.cons rfl <| Sub.cons rfl <| Sub.cons rfl <| Sub.cons rfl <| Sub.cons rfl <| sub_val rfl hb37 <| Sub.nil _) (fun w hs => St.sel [3, 4, 5, 6, 7, 8, 9, 10, 11] rfl rfl hs))
 replace hg64 := DT hg64
 refine WS fun _ hK32 => rS (MV rfl) <| rS (MV rfl) ?_
 refine r_yieldG (k := (idxL i (hearQ d P s))) (k' := ((idxL i (hearQ d P s)) ++ [(((i : Nat) : Int))])) 3 (by first | exact hsz | exact Nat.le_refl _) hY hl1_1 hl1_2 rfl rfl rfl (by exact ⟨i, by omega, ⟨(key_look hm).1 hg24, p, hp, (by first | exact hgr.1 hg64 | exact hears_near hg29 hg51 hrd.1)⟩, rfl, rfl, rfl⟩) rfl rfl (fun B33 hJ34 hF35 => ?_) (fun B33 hJ34 hF35 => ?_)
 rotate_left 1
 · refine rS (NT rfl) ?_
   refine RK hK32 <| w_if_true rfl <| w_ret ?_
   refine hQ _ _ _ (l_nil (vs := []) trivial fun w hs => endGz 3 rfl hJ34 hF35 hs)
 refine rS (NT rfl) <| RK hK32 <| w_if_false rfl <| w_skip <| k_block <| KK hK6 <| w_region <| rS (BI rfl (b_add ⟨by omega, by omega⟩)) <| rS (MV rfl) <| r_nil ?_
 have hb36 : (Value.int .i64 (((i + 1) : Nat) : Int)) = (Value.int .i64 (((i : Nat) : Int) + 1)) := by exact congrArg (Value.int .i64) (by omega)
 refine k_then (hJ2 ⟨((i + 1), B33), ⟨by omega, by rw [idxL_yes (show hearQ d P s i from ⟨(key_look hm).1 hg24, p, hp, (by first | exact hgr.1 hg64 | exact hears_near hg29 hg51 hrd.1)⟩)]; exact hJ34, hF35⟩⟩ _ _ _ rfl (by first | omega | (simp; omega)) (Sub.cons rfl <| Sub.cons rfl <| Sub.cons rfl <| Sub.cons rfl <| Sub.cons rfl <| Sub.cons rfl <| sub_val rfl hb36 <| Sub.nil _) (fun w hs => St.sel [3, 4, 5, 6, 7, 8, 9, 10, 11] rfl rfl hs))
set_option maxRecDepth 100000 in
set_option maxHeartbeats 400000 in
theorem hearing_c (gw : Nat) (gm : Nat) (s : SpotV) :
    FnX Try.prog 90 [(Value.pointer (some ⟨gw, 0, none⟩)), (Value.agg (SpotV.cells s).toArray), (Value.map (some gm))] [] (fun (x : Nat × Nat × Nat) => (Value.func (.func 112) [].toArray [(Value.pointer (some ⟨x.1, 0, none⟩)), (Value.pointer (some ⟨x.2.1, 0, none⟩)), (Value.pointer (some ⟨x.2.2, 0, none⟩))].toArray)) (fun (x : Nat × Nat × Nat) => True) (fun (x : Nat × Nat × Nat) => [(blk x.1 84 [(Value.pointer (some ⟨gw, 0, none⟩))]), (blk x.2.1 64 [(Value.map (some gm))]), (blk x.2.2 30 (SpotV.cells s))]) := by
 refine fnX_of go90 Try.func90 rfl rfl fun w0 Q hQ hN => ?_
 try dsimp only
 refine WS fun _ hK1 => BX1 rfl rfl fun b2 => BXA rfl fun b3 => BX1 rfl rfl fun b4 => rS (AG rfl) <| RK hK1 <| WS fun _ hK5 => rS (FU rfl) <| rS (AG rfl) <| RK hK5 ?_
 refine w_ret ?_
 refine hQ _ _ _ (l_nil (vs := [(Value.func (.func 112) [].toArray [(Value.pointer (some ⟨b2, 0, none⟩)), (Value.pointer (some ⟨b4, 0, none⟩)), (Value.pointer (some ⟨b3, 0, none⟩))].toArray)]) ⟨rfl, trivial⟩ fun w hs => endX (b2, b4, b3) [2, 0, 1] ?_ ?_ rfl rfl rfl hs)
 · rfl
 · trivial
end
section
open Go.RowKit
set_option linter.unusedVariables false
set_option maxRecDepth 100000 in
set_option maxHeartbeats 400000 in
theorem isnan_c (x : Int) :
    FnV Try.prog 130 [(Value.int .i64 x)] [] (Value.bool false) := by
 refine fnV_of go130 Try.func130 rfl rfl fun w0 Q hQ hN => ?_
 try dsimp only
 refine WS fun _ hK1 => rS (AG rfl) <| RK hK1 <| WS fun _ hK2 => rS (MV rfl) <| rS (MV rfl) <| rS (BI rfl b_neq) <| rS (AG rfl) <| RK hK2 <| w_ret ?_
 refine Q1 hQ rfl rfl rfl ?_
 simp
set_option maxRecDepth 100000 in
set_option maxHeartbeats 400000 in
theorem cless_c (x : Int) (y : Int) :
    FnV Try.prog 125 [(Value.int .i64 x), (Value.int .i64 y)] [] (Value.bool (decide (x < y))) := by
 refine fnV_of go125 Try.func125 rfl rfl fun w0 Q hQ hN => ?_
 try dsimp only
 refine WS fun _ hK1 => rS (AG rfl) <| RK hK1 <| WS fun _ hK2 => rS (MV rfl) <| rS (CL (isnan_c x) (ha_nil) rfl) <| rS (MV rfl) <| rS (OX rfl) <| rS (OX rfl) <| rS (OX rfl) ?_
 refine rS (PK rfl) <| rS (MV rfl) <| rS (MV rfl) <| rS (MV rfl) <| rS (BI rfl b_lss) <| rS (PK rfl) <| rS (AG rfl) <| RK hK2 <| w_ret <| Q1 hQ rfl rfl rfl ?_
 exact congrArg Value.bool (decide_eq_decide.2 (by omega))
set_option maxRecDepth 100000 in
set_option maxHeartbeats 400000 in
theorem inssort_c (l : List Int) (lA : Option Addr) (lC : Nat) (hlen : l.length ≤ 1000000) :
    FnM Try.prog 119 [(Value.slice lA l.length lC), (Value.int .i64 0), (Value.int .i64 ((l.length : Nat) : Int))] [] (own lA lC 3 1 (l.map iC)) (fun (x : (List Int)) => (Value.tuple [].toArray)) (fun (x : (List Int)) => x.Perm l ∧ x.Pairwise (· ≤ ·)) (fun (x : (List Int)) => (own lA lC 3 1 (x.map iC))) := by
 refine fnM_of go119 Try.func119 rfl rfl fun w0 Q hQ hN => ?_
 try dsimp only
 refine WS fun _ hK1 => rS (MV rfl) <| rS (SX (sd_bin (r := .int .i64 1) rfl rfl rfl (b_add ⟨by decide, by decide⟩)) rfl rfl) <| rS (AG rfl) <| RK hK1 <| w_block ?_
 have hinit : (1 ≤ 1 ∧ (1 ≤ l.length ∨ 1 = 1)) ∧ (l.length = l.length) ∧ (l.Perm l) ∧ (Srt l 1) := by exact ⟨by omega, rfl, List.Perm.refl _, srt_one⟩
 refine w_loop (ι := { z : Nat × (List Int) // (1 ≤ z.1 ∧ (z.1 ≤ l.length ∨ z.1 = 1)) ∧ (z.2.length = l.length) ∧ (z.2.Perm l) ∧ (Srt z.2 z.1) }) (fun z => [(0, (Value.slice lA l.length lC)), (1, (Value.int .i64 0)), (2, (Value.int .i64 ((l.length : Nat) : Int))), (6, (Value.int .i64 (z.1.1 : Int)))]) (fun z => [(own lA lC 3 1 (z.1.2.map iC))]) (fun z => l.length - z.1.1) ⟨(1, l), hinit⟩ (Sub.cons rfl <| Sub.cons rfl <| Sub.cons rfl <| Sub.cons rfl <| Sub.nil _) (fun w hs => St.sel [0] rfl rfl hs) ?_
 clear hinit
 rintro ⟨⟨i, m⟩, ⟨hl1_0, hl1_1, hl1_2, hl1_3⟩⟩ J2 hJ2
 try dsimp only at hl1_0 hl1_1 hl1_2 hl1_3
 try dsimp only
 refine w_seq fun _ hK3 => WS fun _ hK4 => rS (MV rfl) <| rS (MV rfl) <| rS (BI rfl b_lss) <| RK hK4 ?_
 refine w_if rfl (fun h5 => ?_) (fun h5 => ?_)
 rotate_left 1
 · replace h5 := DF h5
   refine w_exit <| k_exit_then <| k_exit_then <| k_exit_same ?_
   refine hN _ _ _ (l_nil (vs := []) trivial fun w hs => endM m 0 ?_ ?_ rfl rfl hs)
   · clear hs w hQ hN hK4 hK3 hK1; rfl
   · clear hs w hQ hN hK4 hK3 hK1; exact ⟨hl1_2, srt_all hl1_3 (by omega)⟩
 replace h5 := DT h5
 refine WK hK3 <| w_seq fun _ hK6 => w_block <| WS fun _ hK7 => rS (MV rfl) <| rS (AG rfl) <| RK hK7 <| w_block ?_
 have hinit : (i ≤ i) ∧ (m.length = l.length) ∧ (m.Perm l) ∧ (Ins m i i) := by exact ⟨Nat.le_refl _, hl1_1, hl1_2, ins_start hl1_3 (by omega)⟩
 refine w_loop (ι := { z : Nat × (List Int) // (z.1 ≤ i) ∧ (z.2.length = l.length) ∧ (z.2.Perm l) ∧ (Ins z.2 i z.1) }) (fun z => [(0, (Value.slice lA l.length lC)), (1, (Value.int .i64 0)), (2, (Value.int .i64 ((l.length : Nat) : Int))), (6, (Value.int .i64 (i : Int))), (7, (Value.int .i64 ((z.1.1 : Nat) : Int)))]) (fun z => [(own lA lC 3 1 (z.1.2.map iC))]) (fun z => z.1.1) ⟨(i, m), hinit⟩ (Sub.cons rfl <| Sub.cons rfl <| Sub.cons rfl <| Sub.cons rfl <| Sub.cons rfl <| Sub.nil _) (fun w hs => St.sel [0] rfl rfl hs) ?_
 clear hinit
 rintro ⟨⟨j, q⟩, ⟨hl4_0, hl4_1, hl4_2, hl4_3⟩⟩ J8 hJ8
 try dsimp only at hl4_0 hl4_1 hl4_2 hl4_3
 try dsimp only
 refine w_seq fun _ hK9 => w_seq fun _ hK10 => w_draw mixed 15 (by kernel_rfl) <| dS (MV rfl) <| dS (MV rfl) <| dS (BI rfl b_gtr) <| dS (MV rfl) ?_
 refine d_bool (t := 19) rfl (fun hj => ?_) (fun hj => ?_)
 rotate_left 1
 · replace hj := DF hj
   refine dS (OX rfl) <| dS (OX rfl) <| dS (OX rfl) <| dS (OX rfl) <| dS (OX rfl) <| dS (OX rfl) <| dS (OX rfl) <| dS (OX rfl) <| dS (OX rfl) <| dS (OX rfl) ?_
   refine dS (PK rfl) <| d_end <| RK hK10 <| w_if_false rfl <| w_exit <| k_exit_then <| k_exit_then <| k_exit_same <| k_block <| KK hK6 ?_
   refine w_region <| rS (MV rfl) <| rS (BI rfl (b_add ⟨by omega, by omega⟩)) <| rS (AG rfl) <| r_nil ?_
   refine k_then (hJ2 ⟨((i + 1), q), ⟨by omega, hl4_1, hl4_2, by first | exact ins_zero (by omega) hl4_3 | exact ins_stop hx hy (by omega) hl4_0 hless hl4_3⟩⟩ _ _ _ rfl (by simp only []; omega) (Sub.cons rfl <| Sub.cons rfl <| Sub.cons rfl <| Sub.cons rfl <| Sub.nil _) (fun w hs => St.sel [0] rfl rfl hs))
 replace hj := DT hj
 refine dS (MV rfl) <| dS (MV rfl) ?_
 obtain ⟨x, hx⟩ : ∃ y_, q[j]? = some y_ := ⟨q[j]'(by omega), List.getElem?_eq_getElem _⟩
 have hxm : (q.map iC)[j]? = some (iC x) := by rw [List.getElem?_map, hx]; rfl
 refine dS (IA j rfl (has_own_n (n := l.length) 0 rfl (by first | (simp; done) | (simp; omega))) te33 (by decide) (by omega) (by omega)) <| dS (LE1 j 0 (Value.int .i64 x) rfl tk3 (has_own_n (n := q.length) 0 rfl (by simp)) hxm rfl (by decide) rfl) <| dS (MV rfl) <| dS (MV rfl) <| dS (BI rfl (b_sub ⟨by omega, by omega⟩)) ?_
 obtain ⟨y, hy⟩ : ∃ y_, q[(j - 1)]? = some y_ := ⟨q[(j - 1)]'(by omega), List.getElem?_eq_getElem _⟩
 have hym : (q.map iC)[(j - 1)]? = some (iC y) := by rw [List.getElem?_map, hy]; rfl
 refine dS (IA (j - 1) rfl (has_own_n (n := l.length) 0 rfl (by first | (simp; done) | (simp; omega))) te33 (by decide) (by omega) (by omega)) <| dS (LE1 (j - 1) 0 (Value.int .i64 y) rfl tk3 (has_own_n (n := q.length) 0 rfl (by simp)) hym rfl (by decide) rfl) <| dS (CL (cless_c x y) (ha_nil) rfl) <| dS (PK rfl) <| d_end <| RK hK10 ?_
 refine w_if rfl (fun hless => ?_) (fun hless => ?_)
 rotate_left 1
 · replace hless := DF hless
   refine w_exit <| k_exit_then <| k_exit_then <| k_exit_same <| k_block <| KK hK6 <| w_region <| rS (MV rfl) <| rS (BI rfl (b_add ⟨by omega, by omega⟩)) <| rS (AG rfl) ?_
   refine r_nil ?_
   refine k_then (hJ2 ⟨((i + 1), q), ⟨by omega, hl4_1, hl4_2, by first | exact ins_zero (by omega) hl4_3 | exact ins_stop hx hy (by omega) hl4_0 hless hl4_3⟩⟩ _ _ _ rfl (by simp only []; omega) (Sub.cons rfl <| Sub.cons rfl <| Sub.cons rfl <| Sub.cons rfl <| Sub.nil _) (fun w hs => St.sel [0] rfl rfl hs))
 replace hless := DT hless
 refine WK hK9 <| w_seq fun _ hK11 => w_block <| w_draw4 mixed [0, 1, 2, 3, 4, 5, 6, 7, 8, 9, 10, 11, 12, 13, 14] [15, 16, 17] [false, false, false, false, false, false, false, false, true, true, false, false, true, true, true] [false, false, false] [] [(own lA lC 3 1 (q.map iC))] (by kernel_rfl) (fun w hs => St.sel [] rfl rfl hs) (fun w hs => St.sel [0] rfl rfl hs) <| eS rfl (MV rfl) <| eS rfl (MV rfl) <| eS rfl (MV rfl) <| eS rfl (MV rfl) <| eS rfl (BI rfl (b_sub ⟨by omega, by omega⟩)) <| eS rfl (MV rfl) ?_
 refine eS rfl (MV rfl) <| eS rfl (BI rfl (b_sub ⟨by omega, by omega⟩)) <| fS rfl (IA (j - 1) rfl (has_own_n (n := l.length) 0 rfl (by first | (simp; done) | (simp; omega))) te33 (by decide) (by omega) (by omega)) <| fS rfl (LE1 (j - 1) 0 (Value.int .i64 y) rfl tk3 (has_own_n (n := q.length) 0 rfl (by simp)) hym rfl (by decide) rfl) <| eS rfl (MV rfl) <| eS rfl (MV rfl) <| fS rfl (IA j rfl (has_own_n (n := l.length) 0 rfl (by first | (simp; done) | (simp; omega))) te33 (by decide) (by omega) (by omega)) <| fS rfl (LE1 j 0 (Value.int .i64 x) rfl tk3 (has_own_n (n := q.length) 0 rfl (by simp)) hxm rfl (by decide) rfl) <| fS rfl (IA j rfl (has_own_n (n := l.length) 0 rfl (by first | (simp; done) | (simp; omega))) te33 (by decide) (by omega) (by omega)) <| d_fin rfl ?_
 refine t_cons rfl fun T12 hT12 => r_store_own (k := j) (o := 0) (vs := [(Value.int .i64 y)]) (es' := (List.map iC (q.set j y))) (C' := [(own lA lC 3 1 (List.map iC (q.set j y)))]) 0 rfl rfl rfl ts3 rfl rfl rfl rfl hxm rfl (by decide) (by exact (List.map_set (f := iC) (l := q) (i := j) (a := y)).symm) rfl <| RN hT12 [] rfl rfl <| t_cons rfl fun T13 hT13 => ?_
 obtain ⟨x14, hx15⟩ : ∃ y_, (q.set j y)[(j - 1)]? = some y_ := ⟨(q.set j y)[(j - 1)]'(by first | omega | (simp; omega)), List.getElem?_eq_getElem _⟩
 have hx15m : (List.map iC (q.set j y))[(j - 1)]? = some (iC x14) := by rw [List.getElem?_map, hx15]; rfl
 refine rS (IA (j - 1) rfl (has_own_n (n := l.length) 0 rfl (by first | (simp; done) | (simp; omega))) te33 (by decide) (by omega) (by omega)) <| RN hT13 [] rfl rfl <| t_cons rfl fun T16 hT16 => r_store_own (k := (j - 1)) (o := 0) (vs := [(Value.int .i64 x)]) (es' := (List.map iC ((q.set j y).set (j - 1) x))) (C' := [(own lA lC 3 1 (List.map iC ((q.set j y).set (j - 1) x)))]) 0 rfl rfl rfl ts3 rfl rfl rfl rfl hx15m rfl (by decide) (by exact (List.map_set (f := iC) (l := (q.set j y)) (i := (j - 1)) (a := x)).symm) rfl <| RN hT16 [] rfl rfl <| t_fin rfl <| k_block <| KK hK11 <| w_region <| rS (MV rfl) ?_
 refine rS (BI rfl (b_sub ⟨by omega, by omega⟩)) <| rS (AG rfl) <| r_nil ?_
 have hb17 : (Value.int .i64 (((j - 1) : Nat) : Int)) = (Value.int .i64 (((j : Nat) : Int) - 1)) := by exact congrArg (Value.int .i64) (by omega)
 refine k_then (hJ8 ⟨((j - 1), ((q.set j y).set (j - 1) x)), ⟨by omega, by simp; exact hl4_1, (swap_perm hx hy).trans hl4_2, ins_step hx hy (by omega) hl4_0 hless hl4_3⟩⟩ _ _ _ rfl (by simp only []; omega) (Sub.cons rfl <| Sub.cons rfl <| Sub.cons rfl <| Sub.cons rfl <| sub_val rfl hb17 <| Sub.nil _) (fun w hs => St.sel [0] rfl rfl hs))
set_option maxRecDepth 100000 in
set_option maxHeartbeats 400000 in
theorem len64_c (x : Int) (hx : 0 ≤ x ∧ x ≤ 100) :
    FnX Try.prog 129 [(Value.int .u64 x)] [] (fun (x : Int) => (Value.int .i64 x)) (fun (x : Int) => True) (fun (x : Int) => []) := by
 refine fnX_of go129 Try.func129 rfl rfl fun w0 Q hQ hN => ?_
 try dsimp only
 refine WS fun _ hK1 => rS (AG rfl) <| RK hK1 <| w_seq fun _ hK2 => WS fun _ hK3 => rS (MV rfl) <| rS (BI rfl b_geq) <| RK hK3 ?_
 refine w_if rfl (fun h4 => ?_) (fun h4 => ?_)
 · replace h4 := DT h4
   exfalso; omega
 replace h4 := DF h4
 refine WK hK2 <| w_seq fun _ hK5 => WS fun _ hK6 => rS (MV rfl) <| rS (BI rfl b_geq) <| RK hK6 ?_
 refine w_if rfl (fun h7 => ?_) (fun h7 => ?_)
 · replace h7 := DT h7
   exfalso; omega
 replace h7 := DF h7
 refine WK hK5 <| w_seq fun _ hK8 => WS fun _ hK9 => rS (MV rfl) <| rS (BI rfl b_geq) <| RK hK9 ?_
 refine w_if rfl (fun h10 => ?_) (fun h10 => ?_)
 · replace h10 := DT h10
   exfalso; omega
 replace h10 := DF h10
 refine WK hK8 <| WS fun _ hK11 => rS (MV rfl) <| rS (MV rfl) <| rS (SX (sd_conv (m := x) rfl rfl ut170 ut5 (wrap_u64_u8 (by first | assumption | omega))) rfl rfl) <| r_sidx (k := (x).toNat) rfl rfl rfl ut9 (by omega) (Nat.lt_of_lt_of_le (m := 200) (by omega) (of_decide_eq_true (by kernel_rfl))) rfl fun b12 hb13 => rS (SX (sd_conv (m := b12) rfl rfl ut5 ut3 (wrap_u8_i64 (by first | assumption | omega))) rfl rfl) <| rS (BI rfl (b_add ⟨by omega, by omega⟩)) <| rS (AG rfl) <| RK hK11 ?_
 refine w_ret ?_
 refine hQ _ _ _ (l_nil (vs := [(Value.int .i64 (0 + b12))]) ⟨rfl, trivial⟩ fun w hs => endX (0 + b12) [] ?_ ?_ rfl rfl rfl hs)
 · rfl
 · trivial
set_option maxRecDepth 100000 in
set_option maxHeartbeats 400000 in
theorem blen_c (x : Int) (hx : 0 ≤ x ∧ x ≤ 100) :
    FnX Try.prog 114 [(Value.int .u64 x)] [] (fun (x : Int) => (Value.int .i64 x)) (fun (x : Int) => True) (fun (x : Int) => []) := by
 refine fnX_of go114 Try.func114 rfl rfl fun w0 Q hQ hN => ?_
 try dsimp only
 refine WS fun _ hK1 => rS (AG rfl) <| RK hK1 <| w_seq fun _ hK2 => w_if_false rfl <| WK hK2 <| WS fun _ hK3 => rS (MV rfl) <| cX (len64_c x hx) (ha_nil) rfl fun n6 hy5 => ?_
 try dsimp only
 refine rS (AG rfl) <| RK hK3 <| w_ret ?_
 refine hQ _ _ _ (l_nil (vs := [(Value.int .i64 n6)]) ⟨rfl, trivial⟩ fun w hs => endX n6 [] ?_ ?_ rfl rfl rfl hs)
 · rfl
 · trivial
set_option maxRecDepth 100000 in
set_option maxHeartbeats 400000 in
theorem pdq_c (l : List Int) (lA : Option Addr) (lC : Nat) (u : Int) (hlen : l.length ≤ 12) :
    FnM Try.prog 113 [(Value.slice lA l.length lC), (Value.int .i64 0), (Value.int .i64 ((l.length : Nat) : Int)), (Value.int .i64 u)] [] (own lA lC 3 1 (l.map iC)) (fun (x : (List Int)) => (Value.tuple [].toArray)) (fun (x : (List Int)) => x.Perm l ∧ x.Pairwise (· ≤ ·)) (fun (x : (List Int)) => (own lA lC 3 1 (x.map iC))) := by
 refine fnM_of go113 Try.func113 rfl rfl fun w0 Q hQ hN => ?_
 try dsimp only
 refine WS fun _ hK1 => rS (AG rfl) <| RK hK1 <| WS fun _ hK2 => rS (AG rfl) <| RK hK2 <| w_block <| w_rounds 1 <| ro_succ fun R3 hR3 => w_block ?_
 refine WS fun _ hK4 => rS (MV rfl) <| rS (MV rfl) <| rS (BI rfl (b_sub ⟨by omega, by omega⟩)) <| rS (AG rfl) <| RK hK4 <| w_seq fun _ hK5 => WS fun _ hK6 => rS (MV rfl) <| rS (BI rfl b_leq) ?_
 refine RK hK6 ?_
 refine w_if rfl (fun h7 => ?_) (fun h7 => ?_)
 rotate_left 1
 · replace h7 := DF h7
   exfalso; omega
 replace h7 := DT h7
 refine WS fun _ hK8 => rS (MV rfl) <| rS (MV rfl) <| rS (MV rfl) ?_
 refine r_callm 0 rfl rfl rfl rfl (inssort_c l lA lC (by first | assumption | omega | (simp; done) | (simp; omega))) rfl cv_nil rfl (fun m9 hy11 => ?_)
 try dsimp only
 refine RK hK8 <| w_ret ?_
 refine hQ _ _ _ (l_nil (vs := []) trivial fun w hs => endM m9 0 ?_ ?_ rfl rfl hs)
 · clear hs w hQ hN hK8 hK6 hK5 hK4 hK2 hK1; rfl
 · clear hs w hQ hN hK8 hK6 hK5 hK4 hK2 hK1; assumption
set_option maxRecDepth 100000 in
set_option maxHeartbeats 400000 in
theorem sort_c (l : List Int) (lA : Option Addr) (lC : Nat) (hlen : l.length ≤ 12) :
    FnM Try.prog 91 [(Value.slice lA l.length lC)] [] (own lA lC 3 1 (l.map iC)) (fun (x : (List Int)) => (Value.tuple [].toArray)) (fun (x : (List Int)) => x.Perm l ∧ x.Pairwise (· ≤ ·)) (fun (x : (List Int)) => (own lA lC 3 1 (x.map iC))) := by
 refine fnM_of go91 Try.func91 rfl rfl fun w0 Q hQ hN => ?_
 try dsimp only
 refine WS fun _ hK1 => rS (MV rfl) <| rS (LN rfl ut33) <| rS (AG rfl) <| RK hK1 <| w_region <| rS (MV rfl) <| rS (MV rfl) <| rS (MV rfl) <| rS (SX (sd_conv (m := ((l.length : Nat) : Int)) rfl rfl ut3 ut153 (wrap_i64_u64 (by first | assumption | omega))) rfl rfl) ?_
 refine cX (blen_c ((l.length : Nat) : Int) (by first | assumption | omega | (simp; done) | (simp; omega))) (ha_nil) rfl fun n4 hy3 => ?_
 try dsimp only
 refine r_callm 0 rfl rfl rfl rfl (pdq_c l lA lC n4 hlen) rfl cv_nil rfl (fun m5 hy7 => ?_)
 try dsimp only
 refine r_nil ?_
 refine hN _ _ _ (l_nil (vs := []) trivial fun w hs => endM m5 0 ?_ ?_ rfl rfl hs)
 · clear hs w hQ hN hK1; rfl
 · clear hs w hQ hN hK1; assumption
end
section
open Go.RowKit
set_option linter.unusedVariables false
set_option maxRecDepth 100000 in
set_option maxHeartbeats 2000000 in
theorem wcalled_c (d : GuardM) (kA : Option Addr) (kC : Nat) (pA : Option Addr) (pC : Nat) (nA : Option Addr) (nC : Nat) (tA : Option Addr) (tN : Nat) (tC : Nat) (gw : Nat) (s : Nat) (hin : GuardIn d) (htr : trackOk d.Track = true) (hok : GuardOk d) (hsb : s < 256) :
    FnX Try.prog 56 [(Value.pointer (some ⟨gw, 0, none⟩)), (Value.int .i64 ((s : Nat) : Int))] [(rd kA d.Track.length 9 (d.Track.map StretchV.cells)), (rd pA d.Posts.length 7 (d.Posts.map PostV.cells)), (rd nA d.Needs.length 3 (d.Needs.map NeedV.cells)), (blk gw 89 (WatchV.cells (WatchV.mk (GuardV.mk (TrackV.mk (Slc.mk kA d.Track.length kC)) (Slc.mk pA d.Posts.length pC) (Slc.mk nA d.Needs.length nC) d.Tower d.Radio) (Slc.mk tA tN tC))))] (fun (x : (Option Addr) × Nat) => (Value.slice x.1 ((calledL d (bitS s)).length) x.2)) (fun (x : (Option Addr) × Nat) => True) (fun (x : (Option Addr) × Nat) => [(own x.1 x.2 3 1 ((calledL d (bitS s)).map iC))]) := by
 have hlen := hin.trk
 have hside := hin.side
 have hpl := hin.pst
 have hnl := hin.nds
 have hnk := hin.nk
 have hpk := hin.pk
 have hn8 := hok.len
 refine fnX_of go56 Try.func56 rfl rfl fun w0 Q hQ hN => ?_
 try dsimp only
 refine WS fun _ hK1 => rS (AG rfl) <| RK hK1 <| WS fun _ hK2 => gr_mkmap (kV := iV) rfl rfl fun b3 => ?_
 try dsimp only
 refine rS (AG rfl) <| RK hK2 <| w_seq fun _ hK4 => WS fun _ hK5 => rS (MV rfl) <| rS (SX (sd_nil_p rfl rfl) rfl rfl) <| rS (FA 0 rfl fo89_0 rfl) <| rS (FA 1 rfl fo32_1 rfl) <| rS (L1R (Value.slice pA d.Posts.length pC) 4 rfl tk25 rfl rfl) <| rS (LN rfl ut25) ?_
 refine rS (MV rfl) <| RK hK5 <| w_block ?_
 have hinit : (0 ≤ d.Posts.length) ∧ (KeyOk ([] : BM) (fun k => bitS s k ∧ k < 0)) := by exact ⟨Nat.zero_le _, key_iff key_nil fun k => ⟨False.elim, fun q => absurd q.2 (Nat.not_lt_zero _)⟩⟩
 refine w_loop (ι := { z : Nat × BM // (z.1 ≤ d.Posts.length) ∧ (KeyOk z.2 (fun k => bitS s k ∧ k < z.1)) }) (fun z => [(0, (Value.pointer (some ⟨gw, 0, none⟩))), (1, (Value.int .i64 ((s : Nat) : Int))), (5, (Value.map (some b3))), (18, (Value.slice pA d.Posts.length pC)), (19, (Value.int .i64 ((d.Posts.length : Nat) : Int))), (20, (Value.int .i64 ((z.1.1 : Nat) : Int)))]) (fun z => [(gmp iV b3 (gmapV Value.bool z.1.2)), (rd kA d.Track.length 9 (d.Track.map StretchV.cells)).ro, (rd pA d.Posts.length 7 (d.Posts.map PostV.cells)).ro, (rd nA d.Needs.length 3 (d.Needs.map NeedV.cells)).ro, (blk gw 89 (WatchV.cells (WatchV.mk (GuardV.mk (TrackV.mk (Slc.mk kA d.Track.length kC)) (Slc.mk pA d.Posts.length pC) (Slc.mk nA d.Needs.length nC) d.Tower d.Radio) (Slc.mk tA tN tC)))).ro]) (fun z => d.Posts.length - z.1.1) ⟨(0, ([] : BM)), hinit⟩ (Sub.cons rfl <| Sub.cons rfl <| Sub.cons rfl <| Sub.cons rfl <| Sub.cons rfl <| Sub.cons rfl <| Sub.nil _) (fun w hs => St.sel [0, 1, 2, 3, 4] rfl rfl hs) ?_
 clear hinit
 rintro ⟨⟨i, m⟩, ⟨hl3_0, hl3_1⟩⟩ J6 hJ6
 try dsimp only at hl3_0 hl3_1
 try dsimp only
 refine WS fun _ hK7 => rS (BI rfl b_lss) <| RK hK7 <| w_seq fun _ hK8 => ?_
 refine w_if rfl (fun h9 => ?_) (fun h9 => ?_)
 · replace h9 := DT h9
   refine WK hK8 <| w_seq fun _ hK10 => w_block <| WS fun _ hK11 => rS (MV rfl) <| rS (AG rfl) <| RK hK11 <| WS fun _ hK12 => rS (MV rfl) <| rS (MV rfl) ?_
   refine rS (BI rfl (b_shrN (i := i) (by omega) (by omega))) <| rS (BI rfl (b_and1 (m := (s / 2 ^ i)) (by omega) (Nat.lt_of_le_of_lt (Nat.div_le_self _ _) (by omega)))) <| rS (BI rfl b_eql) <| RK hK12 ?_
   refine w_if rfl (fun hg27 => ?_) (fun hg27 => ?_)
   rotate_left 1
   · replace hg27 := DF hg27
     refine w_skip <| k_block <| KK hK10 <| w_region <| rS (BI rfl (b_add ⟨by omega, by omega⟩)) <| rS (MV rfl) <| r_nil ?_
     have hb14 : (Value.int .i64 (((i + 1) : Nat) : Int)) = (Value.int .i64 (((i : Nat) : Int) + 1)) := by exact congrArg (Value.int .i64) (by omega)
     refine k_then (hJ6 ⟨((i + 1), m), ⟨by omega, by first | exact left_yes hl3_1 (bit_iff.1 hg27) | exact left_no hl3_1 (fun q => hg27 (bit_iff.2 q))⟩⟩ _ _ _ rfl (by first | omega | (simp; omega)) (Sub.cons rfl <| Sub.cons rfl <| Sub.cons rfl <| Sub.cons rfl <| Sub.cons rfl <| sub_val rfl hb14 <| Sub.nil _) (fun w hs => St.sel [0, 1, 2, 3, 4] rfl rfl hs))
   replace hg27 := DT hg27
   refine w_region <| rS (MV rfl) <| rS (MV rfl) <| gr_mapset (kV := iV) (x := ((i : Nat) : Int)) (C' := [(gmp iV b3 (gmapV Value.bool (gsetK m ((i : Nat) : Int) true))), _, _, _, _]) 0 rfl rfl rfl rfl ut64 (gkey_int ut3) rfl (gmapV_setK _ _ _ _).symm rfl <| r_nil <| k_block <| KK hK10 <| w_region <| rS (BI rfl (b_add ⟨by omega, by omega⟩)) <| rS (MV rfl) ?_
   refine r_nil ?_
   have hb13 : (Value.int .i64 (((i + 1) : Nat) : Int)) = (Value.int .i64 (((i : Nat) : Int) + 1)) := by exact congrArg (Value.int .i64) (by omega)
   refine k_then (hJ6 ⟨((i + 1), (gsetK m ((i : Nat) : Int) true)), ⟨by omega, by first | exact left_yes hl3_1 (bit_iff.1 hg27) | exact left_no hl3_1 (fun q => hg27 (bit_iff.2 q))⟩⟩ _ _ _ rfl (by first | omega | (simp; omega)) (Sub.cons rfl <| Sub.cons rfl <| Sub.cons rfl <| Sub.cons rfl <| Sub.cons rfl <| sub_val rfl hb13 <| Sub.nil _) (fun w hs => St.sel [0, 1, 2, 3, 4] rfl rfl hs))
 replace h9 := DF h9
 refine w_exit <| k_exit_then <| k_exit_then <| k_exit_same <| KK hK4 <| WS fun _ hK15 => rS (AG rfl) <| RK hK15 <| w_seq fun _ hK16 => WS fun _ hK17 => ?_
 refine rS (MV rfl) <| rS (SX (sd_nil_p rfl rfl) rfl rfl) <| rS (FA 0 rfl fo89_0 rfl) <| rS (FA 3 rfl fo32_3 rfl) <| rS (LPR (SpotV.cells d.Tower) 4 rfl tk30 rfl rfl rfl) <| r_bs (xs := [.tmp 35]) (cs := (SpotV.cells d.Tower)) rfl te130 tz30 rfl rfl rfl rfl (by simp [Value.cells, SpotV.cells_length]) rfl rfl fun b18 => rS (AG rfl) <| RK hK17 <| w_block <| w_blk_own (es := (List.map SpotV.cells [d.Tower])) (C' := [(own (some ⟨b18, 0, none⟩) 1 30 3 (List.map SpotV.cells [d.Tower])), _, _, _, _, _]) 0 rfl (map_len SpotV.cells_length _) rfl (by show 1 ≤ maxLen; decide) rfl ?_
 refine w_imp (C' := [(oq (some ⟨b18, 0, none⟩) 1 30 3 (List.map SpotV.cells [d.Tower])), _, _, _, _, _]) 0 rfl to_oq rfl <| w_own_nil 3 1 <| w_tie0 ?_
 have hinit : (KeyOk m (fun k => bitS s k ∧ k < i)) ∧ (CallI d (bitS s) (fun k => bitS s k ∧ k < i) ([d.Tower]) ([] : List Int)) ∧ (m.length + ([d.Tower]).length ≤ 100) := by exact ⟨hl3_1, call_start fun k => ⟨fun q => ⟨q.1, by omega⟩, fun q => ⟨q.1, by omega⟩⟩, by have := key_len hl3_1 (n := d.Posts.length) (fun k q => by omega); simp; omega⟩
 refine w_loopD (ι := { z : BM × (Nat → Prop) × (List Int) × (Option Addr) × Nat × (List SpotV) × (Option Addr) × Nat × (List Nat) // (KeyOk z.1 z.2.1) ∧ (CallI d (bitS s) z.2.1 z.2.2.2.2.2.1 z.2.2.1) ∧ (z.1.length + z.2.2.2.2.2.1.length ≤ 100) }) (fun z => z.1.2.2.2.2.2.2.2.2.map mark) (fun z => [(0, (Value.pointer (some ⟨gw, 0, none⟩))), (1, (Value.int .i64 ((s : Nat) : Int))), (5, (Value.map (some b3))), (7, (Value.slice z.1.2.2.2.1 z.1.2.2.1.length z.1.2.2.2.2.1)), (8, (Value.slice z.1.2.2.2.2.2.2.1 z.1.2.2.2.2.2.1.length z.1.2.2.2.2.2.2.2.1))]) (fun z => [(bund (z.1.2.2.2.2.2.2.2.2.map defd)), (own z.1.2.2.2.1 z.1.2.2.2.2.1 3 1 (z.1.2.2.1.map iC)), (oq z.1.2.2.2.2.2.2.1 z.1.2.2.2.2.2.2.2.1 30 3 (z.1.2.2.2.2.2.1.map SpotV.cells)), (gmp iV b3 (gmapV Value.bool z.1.1)), (rd kA d.Track.length 9 (d.Track.map StretchV.cells)).ro, (rd pA d.Posts.length 7 (d.Posts.map PostV.cells)).ro, (rd nA d.Needs.length 3 (d.Needs.map NeedV.cells)).ro, (blk gw 89 (WatchV.cells (WatchV.mk (GuardV.mk (TrackV.mk (Slc.mk kA d.Track.length kC)) (Slc.mk pA d.Posts.length pC) (Slc.mk nA d.Needs.length nC) d.Tower d.Radio) (Slc.mk tA tN tC)))).ro]) (fun z => z.1.1.length + z.1.2.2.2.2.2.1.length) ⟨(m, (fun k => bitS s k ∧ k < i), ([] : List Int), none, 0, [d.Tower], (some ⟨b18, 0, none⟩), 1, ([] : List Nat)), hinit⟩ rfl (Sub.cons rfl <| Sub.cons rfl <| Sub.cons rfl <| Sub.cons rfl <| Sub.cons rfl <| Sub.nil _) (fun w hs => St.sel [0, 1, 2, 3, 4, 5, 6, 7] rfl rfl hs) ?_
 clear hinit
 rintro ⟨⟨m, L, l, a, c, tdq, qa, qc, rs10⟩, ⟨hl10_0, hl10_1, hl10_2⟩⟩ J19 hJ19
 try dsimp only at hl10_0 hl10_1 hl10_2
 try dsimp only
 refine w_seq fun _ hK20 => WS fun _ hK21 => rS (MV rfl) <| rS (LN rfl ut130) <| rS (BI rfl b_gtr) <| RK hK21 ?_
 refine w_if rfl (fun hg39 => ?_) (fun hg39 => ?_)
 rotate_left 1
 · replace hg39 := DF hg39
   refine w_exit <| k_exit_then <| k_exit_then <| k_exit_same <| KK hK16 <| WS fun _ hK56 => rS (MV rfl) ?_
   refine r_callm 1 rfl rfl rfl rfl (sort_c l a c (by have := call_len hl10_1; omega)) rfl cv_nil rfl (fun srtd hso => ?_)
   try dsimp only
   refine RK hK56 <| WS fun _ hK58 => rS (MV rfl) ?_
   have hsf : srtd = (calledL d (bitS s)) := call_done (by rw [show tdq = [] from List.eq_nil_of_length_eq_zero (by omega)] at hl10_1; exact hl10_1) hso.1 hso.2
   rw [hsf]
   refine rS (AG rfl) <| RK hK58 <| w_ret ?_
   refine hQ _ _ _ (l_marks0 0 rfl rfl <| l_nil (vs := [(Value.slice a l.length c)]) ⟨rfl, trivial⟩ fun w hs => endX (a, c) [0] ?_ ?_ rfl rfl rfl hs)
   · (rw [show (calledL d (bitS s)).length = l.length from by rw [← hsf]; exact hso.1.length_eq]; rfl)
   · trivial
 replace hg39 := DT hg39
 refine WK hK20 <| w_seq fun _ hK22 => w_block <| w_seq fun _ hK23 => ?_
 obtain ⟨s0, rest, rfl⟩ : ∃ s0 rest, tdq = s0 :: rest := by cases tdq with | nil => (simp at hg39) | cons x y => exact ⟨x, y, rfl⟩
 have hss := src_spot hok hl10_1 (List.mem_cons_self ..)
 refine w_region <| AL rfl tz33 fun b24 => RK hK23 <| w_seq fun _ hK25 => WS fun _ hK26 => rS (MV rfl) <| rS (MV rfl) ?_
 have hs0m : ((s0 :: rest).map SpotV.cells)[0]? = some (SpotV.cells s0) := rfl
 refine rS (IA 0 rfl (has_oq_n (n := (s0 :: rest).length) 3 rfl (by simp)) te130 (by decide) rfl (by omega)) <| rS (LEN 0 0 (SpotV.cells s0) rfl tk30 (has_oq_n (n := (s0 :: rest).length) 3 rfl (by simp)) hs0m rfl (by decide) rfl rfl) <| rS (MV rfl) <| cX (hearing_c gw b3 s0) (ha_nil) rfl fun y27 hy28 => ?_
 obtain ⟨x129, x230, x331⟩ := y27
 try dsimp only
 refine RK hK26 <| w_block <| w_dup 8 rfl (by exact fun _ h => h) <| w_dup 10 rfl (by exact fun _ h => h) <| w_dup 12 rfl (by exact fun _ h => h) <| w_dup 14 rfl (by exact fun _ h => h) <| w_own_nil 3 1 ?_
 refine w_rangeG (L0 := [(0, (Value.pointer (some ⟨gw, 0, none⟩))), (1, (Value.int .i64 ((s : Nat) : Int))), (5, (Value.map (some b3))), (7, (Value.slice a l.length c)), (8, (Value.slice qa ((s0 :: rest).length) qc)), (9, (Value.pointer (some ⟨b24, 0, none⟩)))]) (F := [(rd kA d.Track.length 9 (d.Track.map StretchV.cells)).ro, (rd pA d.Posts.length 7 (d.Posts.map PostV.cells)).ro, (rd nA d.Needs.length 3 (d.Needs.map NeedV.cells)).ro, (blk gw 89 (WatchV.cells (WatchV.mk (GuardV.mk (TrackV.mk (Slc.mk kA d.Track.length kC)) (Slc.mk pA d.Posts.length pC) (Slc.mk nA d.Needs.length nC) d.Tower d.Radio) (Slc.mk tA tN tC)))).ro, (blk x129 84 [(Value.pointer (some ⟨gw, 0, none⟩))]), (gmp iV b3 (gmapV Value.bool m)), (blk x230 64 [(Value.map (some b3))]), (blk x331 30 (SpotV.cells s0))])  (fun k (y : (Option Addr) × Nat) => True) (fun k y => [(own y.1 y.2 3 1 (k.map iC)), (blk b24 33 [(Value.slice y.1 k.length y.2)]), (bund (rs10.map defd)), (own a c 3 1 (l.map iC)), (oq qa qc 30 3 ((s0 :: rest).map SpotV.cells)), (rd kA d.Track.length 9 (d.Track.map StretchV.cells)).ro, (rd pA d.Posts.length 7 (d.Posts.map PostV.cells)).ro, (rd nA d.Needs.length 3 (d.Needs.map NeedV.cells)).ro, (blk gw 89 (WatchV.cells (WatchV.mk (GuardV.mk (TrackV.mk (Slc.mk kA d.Track.length kC)) (Slc.mk pA d.Posts.length pC) (Slc.mk nA d.Needs.length nC) d.Tower d.Radio) (Slc.mk tA tN tC)))).ro]) (fun _ (_ : Unit) => False) (fun _ _ => []) [0, 8, 9, 10, 11, 13, 14, 15, 16] [4, 3, 2, 1, 5, 12, 6, 7] (none, 0) rfl rfl (hear1_c d kA kC pA pC nA nC tA tN tC gw m L b3 s0 x129 x230 x331 (by first | assumption | omega | (simp; done)) (by first | assumption | omega | (simp; done)) (by first | assumption | omega | (simp; done)) (by exact hss) (by exact hl10_0)) rfl rfl rfl (by first | trivial | simp) (by simp only [List.forall_mem_cons, List.not_mem_nil, false_imp_iff, implies_true, and_true]; exact ⟨⟨_, by simp, (cov_ro (cov_refl _))⟩, ⟨_, by simp, (cov_ro (cov_refl _))⟩, ⟨_, by simp, (cov_ro (cov_refl _))⟩, ⟨_, by simp, (cov_ro (cov_refl _))⟩, ⟨_, by simp, (cov_refl _)⟩, ⟨_, by simp, (cov_refl _)⟩, ⟨_, by simp, (cov_refl _)⟩, ⟨_, by simp, (cov_refl _)⟩⟩) (by rintro k x k2 ⟨i, _, _, _, rfl, _⟩; rfl) rfl (Sub.cons rfl <| Sub.cons rfl <| Sub.cons rfl <| Sub.cons rfl <| Sub.cons rfl <| Sub.cons rfl <| Sub.nil _) ?_ ?_ (fun _ _ _ h => h.elim) (fun _ _ h => h.elim)
 · rintro k x k2 ⟨a1, c1⟩ l ra rb S w1 K32 Qr33 hsz hx hin34 hK32 hQr33 xQr33 yQr33
   obtain ⟨i, hi, hqq, hys, rfl, rfl⟩ := hx
   try dsimp only
   refine w_region <| rS (AG rfl) <| r_nil ?_
   refine k_then (hK32 _ _ ?_)
   refine w_block <| w_region <| rS (L1W 2 rfl tk33 rfl) <| rS (MV rfl) <| r_bs (xs := [.tmp 50]) (cs := [(Value.int .i64 ((i : Nat) : Int))]) rfl te33 tz3 rfl rfl rfl rfl (by simp [Value.cells]) rfl rfl fun b35 => r_append (es2 := (List.map iC (k ++ [((i : Nat) : Int)]))) (m' := (k ++ [((i : Nat) : Int)]).length) 2 rfl rfl rfl ta33 rfl rfl (by simp) (has_rd_blk (es := List.map iC [((i : Nat) : Int)]) 0 rfl rfl (by simp [iC_length]) rfl) (one_iC _) (by rw [hys]; have := idxL_len (n := i) (p := hearQ d L s0); omega) (by rw [hys]; have := idxL_len (n := i) (p := hearQ d L s0); simp only [maxLen]; omega) (by simp) (by simp) rfl fun a36 c37 => ?_
   try dsimp only
   refine SO3 rfl ts33 rfl rfl <| r_nil <| k_block ?_
   exact hQr33 (a36, c37) _ _ (by trivial) (fun w hs => St.sel [1, 2, 3, 4, 5, 6, 7, 8, 9, 10] rfl rfl hs)
 rintro r38 k ⟨a1, c1⟩ hfin hin39
 try dsimp only
 refine k_block <| KK hK25 <| w_seq fun _ hK40 => WS fun _ hK41 => ?_
 have hkl := idxL_len (n := d.Posts.length) (p := hearQ d L s0)
 rw [show idxL d.Posts.length (hearQ d L s0) = k from hfin.symm] at hkl
 have hml := call_len hl10_1
 refine rS (L1W 10 rfl tk33 rfl) <| rS (LN rfl ut33) <| rS (MV rfl) <| RK hK41 <| w_block ?_
 rw [show s0 :: rest = s0 :: (rest ++ (k.take 0).map (spotOf d)) from by simp]
 have hinit : (0 ≤ k.length) ∧ (KeyOk m (fun i => L i ∧ (i : Int) ∉ k.take 0)) ∧ (m.length + 0 = m.length) := by exact ⟨Nat.zero_le _, key_iff hl10_0 fun q => by simp, rfl⟩
 have hb42 : (Value.slice qa ((s0 :: (rest ++ (k.take 0).map (spotOf d))).length) qc) = (Value.slice qa ((s0 :: (rest ++ (k.take 0).map (spotOf d))).length) qc) := by simp
 refine w_loop (ι := { z : Nat × BM × (Option Addr) × Nat // (z.1 ≤ k.length) ∧ (KeyOk z.2.1 (fun i => L i ∧ (i : Int) ∉ k.take z.1)) ∧ (z.2.1.length + z.1 = m.length) }) (fun z => [(0, (Value.pointer (some ⟨gw, 0, none⟩))), (1, (Value.int .i64 ((s : Nat) : Int))), (5, (Value.map (some b3))), (7, (Value.slice a l.length c)), (8, (Value.slice z.1.2.2.1 ((s0 :: (rest ++ (k.take z.1.1).map (spotOf d))).length) z.1.2.2.2)), (9, (Value.pointer (some ⟨b24, 0, none⟩))), (53, (Value.slice a1 k.length c1)), (54, (Value.int .i64 ((k.length : Nat) : Int))), (55, (Value.int .i64 ((z.1.1 : Nat) : Int)))]) (fun z => [(obj r38 (.deferred (some []))), (rd kA d.Track.length 9 (d.Track.map StretchV.cells)).ro, (rd pA d.Posts.length 7 (d.Posts.map PostV.cells)).ro, (rd nA d.Needs.length 3 (d.Needs.map NeedV.cells)).ro, (blk gw 89 (WatchV.cells (WatchV.mk (GuardV.mk (TrackV.mk (Slc.mk kA d.Track.length kC)) (Slc.mk pA d.Posts.length pC) (Slc.mk nA d.Needs.length nC) d.Tower d.Radio) (Slc.mk tA tN tC)))).ro, (gmp iV b3 (gmapV Value.bool z.1.2.1)), (own a1 c1 3 1 (k.map iC)), (blk b24 33 [(Value.slice a1 k.length c1)]), (bund (rs10.map defd)), (own a c 3 1 (l.map iC)), (oq z.1.2.2.1 z.1.2.2.2 30 3 (List.map SpotV.cells (s0 :: (rest ++ (k.take z.1.1).map (spotOf d))))), (rd kA d.Track.length 9 (d.Track.map StretchV.cells)).ro, (rd pA d.Posts.length 7 (d.Posts.map PostV.cells)).ro, (rd nA d.Needs.length 3 (d.Needs.map NeedV.cells)).ro, (blk gw 89 (WatchV.cells (WatchV.mk (GuardV.mk (TrackV.mk (Slc.mk kA d.Track.length kC)) (Slc.mk pA d.Posts.length pC) (Slc.mk nA d.Needs.length nC) d.Tower d.Radio) (Slc.mk tA tN tC)))).ro]) (fun z => k.length - z.1.1) ⟨(0, m, qa, qc), hinit⟩ (Sub.cons rfl <| Sub.cons rfl <| Sub.cons rfl <| Sub.cons rfl <| sub_val rfl hb42 <| Sub.cons rfl <| Sub.cons rfl <| Sub.cons rfl <| Sub.cons rfl <| Sub.nil _) (fun w hs => St.sel [0, 1, 2, 3, 4, 6, 9, 10, 11, 12, 13, 14, 15, 16, 17] rfl rfl hs) ?_
 clear hinit
 rintro ⟨⟨j, m2, q2, c2⟩, ⟨hl17_0, hl17_1, hl17_2⟩⟩ J43 hJ43
 try dsimp only at hl17_0 hl17_1 hl17_2
 try dsimp only
 refine WS fun _ hK44 => rS (BI rfl b_lss) <| RK hK44 <| w_seq fun _ hK45 => ?_
 refine w_if rfl (fun h46 => ?_) (fun h46 => ?_)
 rotate_left 1
 · replace h46 := DF h46
   refine w_exit <| k_exit_then <| k_exit_then <| k_exit_same <| KK hK40 <| w_region <| rS (MV rfl) <| rS (L1W 7 rfl tk33 rfl) <| r_append (es2 := (List.map iC (l ++ k))) (m' := (l ++ k).length) 9 rfl rfl rfl ta33 rfl rfl (by simp) (has_own_n (n := k.length) 6 rfl (by simp)) (one_iC _) (by omega) (by simp only [maxLen]; omega) (by simp) (by simp) rfl fun a54 c55 => ?_
   try dsimp only
   refine rS (AG rfl) <| r_nil <| k_block <| KK hK22 <| w_region <| rS (MV rfl) <| rS (SLO 1 rfl te130 rfl (by simp)) <| rS (AG rfl) <| r_nil <| k_tief (X := rs10.map defd) 8 0 rfl rfl ?_
   try dsimp only
   refine k_imp (A := oq q2 c2 30 3 (SpotV.cells s0 :: List.map SpotV.cells (rest ++ (k.take j).map (spotOf d)))) (C' := [_, _, _, _, _, _, _, _, _, (oq (sub1 q2 c2 1 3) (c2 - 1) 30 3 (List.map SpotV.cells (rest ++ (k.take j).map (spotOf d)))), _, _, _, _]) 9 rfl next_oq rfl ?_
   refine k_then (hJ19 ⟨(m2, (fun i => L i ∧ (i : Int) ∉ k.take j), (l ++ k), a54, c55, (rest ++ (k.take j).map (spotOf d)), (sub1 q2 c2 1 3), (c2 - 1), (r38 :: rs10)), ⟨hl17_1, by rw [show k.take j = k from List.take_of_length_le (by omega)]; rw [show k = moreL d L s0 from hfin]; exact call_step hl10_1 (fun q => Iff.rfl), by have h1 := hl10_2; simp only [List.length_cons, List.length_append, List.length_map, List.length_take] at h1 ⊢; omega⟩⟩ _ _ _ rfl (by simp only [List.length_cons, List.length_append, List.length_map, List.length_take]; omega) (Sub.cons rfl <| Sub.cons rfl <| Sub.cons rfl <| Sub.cons rfl <| Sub.cons rfl <| Sub.nil _) (fun w hs => St.sel [0, 8, 9, 5, 1, 2, 3, 4] rfl rfl hs))
 replace h46 := DT h46
 refine WK hK45 <| w_seq fun _ hK47 => w_block <| WS fun _ hK48 => ?_
 obtain ⟨x, hx⟩ : ∃ y_, k[j]? = some y_ := ⟨k[j]'(by omega), List.getElem?_eq_getElem _⟩
 have hxm : (k.map iC)[j]? = some (iC x) := by rw [List.getElem?_map, hx]; rfl
 refine rS (IA j rfl (has_own_n (n := k.length) 6 rfl (by simp)) te33 (by decide) (by omega) (by omega)) <| rS (LE1 j 0 (Value.int .i64 x) rfl tk3 (has_own_n (n := k.length) 6 rfl (by simp)) hxm rfl (by decide) rfl) <| rS (AG rfl) <| RK hK48 <| WS fun _ hK49 => ?_
 obtain ⟨i, hxi, hi1, hi2, p0, hp0, hh0⟩ := mem_idxL.1 (show x ∈ idxL d.Posts.length (hearQ d L s0) from by have e0 : k = idxL d.Posts.length (hearQ d L s0) := hfin; rw [← e0]; exact List.mem_of_getElem? hx)
 have hrl : rest.length ≤ 100 := by have h1 := hl10_2; simp only [List.length_cons] at h1; omega
 refine rS (MV rfl) <| rS (MV rfl) <| gr_mapdel0 (kV := iV) (x := x) (C' := [_, _, _, _, _, (gmp iV b3 (gmapV Value.bool (gdelK m2 x))), _, _, _, _, _, _, _, _, _]) 5 rfl rfl rfl rfl ut64 (gkey_int ut3) rfl (gmapV_delK _ _ _).symm rfl <| RK hK49 <| w_region <| rS (MV rfl) <| rS (MV rfl) <| rS (SX (sd_nil_p rfl rfl) rfl rfl) <| rS (FA 0 rfl fo89_0 rfl) <| rS (FA 1 rfl fo32_1 rfl) ?_
 refine rS (L1R (Value.slice pA d.Posts.length pC) 4 rfl tk25 rfl rfl) <| rS (MV rfl) ?_
 obtain ⟨p, hp⟩ : ∃ y_, d.Posts[(x).toNat]? = some y_ := ⟨d.Posts[(x).toNat]'(by omega), List.getElem?_eq_getElem _⟩
 have hpm : (d.Posts.map PostV.cells)[(x).toNat]? = some (PostV.cells p) := by rw [List.getElem?_map, hp]; rfl
 refine rS (IA ((x).toNat) rfl (has_at 2 rfl) te25 (by decide) (by omega) (by omega)) <| rS (FAR ((((x).toNat) * 7) + 2) rfl (has_at 2 rfl) (Nat.mul_pos (by omega) (by decide)) fo62_2 rfl) <| rS (LEN ((x).toNat) 2 (SpotV.cells p.Spot) rfl tk30 (has_at 2 rfl) hpm rfl (by decide) rfl rfl) <| r_bs (xs := [.tmp 70]) (cs := (SpotV.cells p.Spot)) rfl te130 tz30 rfl rfl rfl rfl (by simp [Value.cells, SpotV.cells_length]) rfl rfl fun b50 => r_appendq (es2 := (List.map SpotV.cells (s0 :: (rest ++ (k.take (j + 1)).map (spotOf d))))) (m' := (s0 :: (rest ++ (k.take (j + 1)).map (spotOf d))).length) 11 rfl rfl rfl ta130 rfl rfl (by simp) (has_rd_blk (es := List.map SpotV.cells [p.Spot]) 0 rfl rfl (by simp [SpotV.cells_length]) rfl) (one_SpotV_cells _) (by decide) (by simp; omega) (by simp [maxLen]; omega) (by rw [map_take_snoc hx hp]; simp) (by simp) rfl fun a51 c52 => ?_
 try dsimp only
 refine rS (AG rfl) <| r_nil <| k_block <| KK hK47 <| w_region <| rS (BI rfl (b_add ⟨by omega, by omega⟩)) <| rS (MV rfl) <| r_nil ?_
 have hb53 : (Value.int .i64 (((j + 1) : Nat) : Int)) = (Value.int .i64 (((j : Nat) : Int) + 1)) := by exact congrArg (Value.int .i64) (by omega)
 refine k_then (hJ43 ⟨((j + 1), (gdelK m2 x), a51, c52), ⟨by omega, del_take hl17_1 hx hxi, by have := del_takelen hl17_1 (show k.Nodup from by have e0 : k = moreL d L s0 := hfin; rw [e0]; exact more_nodup) hx hxi hi2; dsimp only; omega⟩⟩ _ _ _ rfl (by first | omega | (simp; omega)) (Sub.cons rfl <| Sub.cons rfl <| Sub.cons rfl <| Sub.cons rfl <| Sub.cons rfl <| Sub.cons rfl <| Sub.cons rfl <| Sub.cons rfl <| sub_val rfl hb53 <| Sub.nil _) (fun w hs => St.sel [1, 2, 3, 4, 5, 6, 7, 8, 9, 10, 11, 12, 13, 14, 15] rfl rfl hs))
end
section
open Go.RowKit
set_option linter.unusedVariables false
set_option maxRecDepth 100000 in
set_option maxHeartbeats 400000 in
theorem meets1_c (x : Int) (d : GuardM) (kA : Option Addr) (kC : Nat) (pA : Option Addr) (pC : Nat) (nA : Option Addr) (nC : Nat) (tz : List RA) (tA : Option Addr) (tC : Nat) (gw : Nat) (n : NeedV) (g1 : Nat) (g2 : Nat) (hin : GuardIn d) (htr : trackOk d.Track = true) (hok : GuardOk d) (htz : tz.length = d.Posts.length) (hn : NeedOk d.Track n) (hx : 0 ≤ x ∧ x < (d.Posts.length : Int)) :
    FnV Try.prog 96 [(Value.int .i64 x), (Value.pointer (some ⟨g1, 0, none⟩)), (Value.pointer (some ⟨g2, 0, none⟩))] [(rd kA d.Track.length 9 (d.Track.map StretchV.cells)), (rd pA d.Posts.length 7 (d.Posts.map PostV.cells)), (rd nA d.Needs.length 3 (d.Needs.map NeedV.cells)), (rd tA ((timesL d).length) 1 (List.zipWith rowC (timesL d) tz)), (bun (nest rowR (timesL d) tz)), (blk gw 89 (WatchV.cells (WatchV.mk (GuardV.mk (TrackV.mk (Slc.mk kA d.Track.length kC)) (Slc.mk pA d.Posts.length pC) (Slc.mk nA d.Needs.length nC) d.Tower d.Radio) (Slc.mk tA ((timesL d).length) tC)))), (blk g1 84 [(Value.pointer (some ⟨gw, 0, none⟩))]), (blk g2 57 (NeedV.cells n))] (Value.bool (!(decide (fitsX d n x)))) := by
 have hlen := hin.trk
 have hside := hin.side
 have hpl := hin.pst
 have hnl := hin.nds
 have hnk := hin.nk
 have hpk := hin.pk
 unfold NeedOk at hn
 have htl := timesL_len (d := d)
 refine fnV_of go96 Try.func96 rfl rfl fun w0 Q hQ hN => ?_
 try dsimp only
 refine WS fun _ hK1 => rS (AG rfl) <| RK hK1 <| w_seq fun _ hK2 => w_draw mixed 29 (by kernel_rfl) <| dS (L1Q 6 rfl tk84 rfl) <| dS (SX (sd_nil_p rfl rfl) rfl rfl) <| dS (FA 0 rfl fo89_0 rfl) <| dS (FA 1 rfl fo32_1 rfl) <| dS (L1R (Value.slice pA d.Posts.length pC) 5 rfl tk25 rfl rfl) ?_
 refine dS (MV rfl) ?_
 obtain ⟨p, hp⟩ : ∃ y_, d.Posts[(x).toNat]? = some y_ := ⟨d.Posts[(x).toNat]'(by omega), List.getElem?_eq_getElem _⟩
 have hpm : (d.Posts.map PostV.cells)[(x).toNat]? = some (PostV.cells p) := by rw [List.getElem?_map, hp]; rfl
 refine dS (IA ((x).toNat) rfl (has_at 1 rfl) te25 (by decide) (by omega) (by omega)) <| dS (FAR ((((x).toNat) * 7) + 1) rfl (has_at 1 rfl) (Nat.mul_pos (by omega) (by decide)) fo62_1 rfl) <| dS (LE1 ((x).toNat) 1 (Value.int .u8 p.Kind) rfl tk5 (has_at 1 rfl) hpm rfl (by decide) rfl) <| dS (FA 1 rfl fo57_1 rfl) <| dS (L1R (Value.int .u8 n.Kind) 7 rfl tk5 rfl rfl) <| dS (BI rfl b_neq) <| dS (MV rfl) ?_
 refine d_bool (t := 17) rfl (fun hg17 => ?_) (fun hg17 => ?_)
 · replace hg17 := XT hg17
   refine dS (OX rfl) <| dS (OX rfl) <| dS (OX rfl) <| dS (OX rfl) <| dS (OX rfl) <| dS (OX rfl) <| dS (OX rfl) <| dS (OX rfl) <| dS (OX rfl) <| dS (OX rfl) ?_
   refine dS (OX rfl) <| dS (OX rfl) <| dS (OX rfl) <| dS (OX rfl) <| dS (PK rfl) <| dS (AG rfl) <| d_end <| RK hK2 <| w_ret <| Q1 hQ rfl rfl rfl ?_
   first | (refine congrArg Value.bool ?_; rw [decide_eq_false (fun q => by have q1 := (fitsX_iff hp).1 q; first | omega | exact hg17 q1.1)]; rfl) | (refine congrArg Value.bool ?_; have hte : tm = timeF d.Track p n.Stretch := (by rw [hmt] at htm; have e0 := timesP_at htm; rw [Int.toNat_of_nonneg hn.1.1] at e0; exact e0); rw [show decide (fitsX d n x) = decide (tm ≤ n.Seconds) from decide_eq_decide.2 (by rw [fitsX_iff hp, hte]; exact ⟨fun q => q.2, fun q => ⟨by omega, q⟩⟩)]; rw [← decide_not]; exact decide_eq_decide.2 (by omega))
 replace hg17 := XF hg17
 refine dS (L1Q 6 rfl tk84 rfl) <| dS (SX (sd_nil_p rfl rfl) rfl rfl) <| dS (FA 7 rfl fo89_1 rfl) <| dS (L1R (Value.slice tA ((timesL d).length) tC) 5 rfl tk87 rfl rfl) <| dS (MV rfl) ?_
 obtain ⟨ms, hms⟩ : ∃ y_, (timesL d)[(x).toNat]? = some y_ := ⟨(timesL d)[(x).toNat]'(by omega), List.getElem?_eq_getElem _⟩
 obtain ⟨msa, hmsa⟩ : ∃ y_, tz[(x).toNat]? = some y_ := ⟨tz[(x).toNat]'(by omega), List.getElem?_eq_getElem _⟩
 have hmsm : (List.zipWith rowC (timesL d) tz)[(x).toNat]? = some (rowC ms msa) := zip_get hms hmsa
 refine dS (IA ((x).toNat) rfl (has_at 3 rfl) te87 (by decide) (by omega) (by omega)) ?_
 have hmt := timesL_at hp hms
 have hml : ms.length = d.Track.length := by rw [hmt]; exact timesP_len
 refine dS (LE1 ((x).toNat) 0 (Value.slice msa.1 ms.length msa.2) rfl tk33 (has_at 3 rfl) hmsm rfl (by decide) rfl) <| dS (FA 0 rfl fo57_0 rfl) <| dS (L1R (Value.int .i64 n.Stretch) 7 rfl tk3 rfl rfl) ?_
 obtain ⟨tm, htm⟩ : ∃ y_, ms[(n.Stretch).toNat]? = some y_ := ⟨ms[(n.Stretch).toNat]'(by omega), List.getElem?_eq_getElem _⟩
 have htmm : (ms.map iC)[(n.Stretch).toNat]? = some (iC tm) := by rw [List.getElem?_map, htm]; rfl
 refine dS (IA ((n.Stretch).toNat) rfl (show Has _ (rd msa.1 ms.length 1 (ms.map iC)).holds from (has_inr 4 rfl (mem_nest hms hmsa (by simp [rowR])))) te33 (by decide) (by omega) (by omega)) <| dS (LE1 ((n.Stretch).toNat) 0 (Value.int .i64 tm) rfl tk3 (show Has _ (rd msa.1 ms.length 1 (ms.map iC)).holds from (has_inr 4 rfl (mem_nest hms hmsa (by simp [rowR])))) htmm rfl (by decide) rfl) <| dS (FA 2 rfl fo57_2 rfl) <| dS (L1R (Value.int .i64 n.Seconds) 7 rfl tk3 rfl rfl) <| dS (BI rfl b_gtr) <| dS (PK rfl) <| dS (AG rfl) <| d_end <| RK hK2 <| w_ret ?_
 refine Q1 hQ rfl rfl rfl ?_
 first | (refine congrArg Value.bool ?_; rw [decide_eq_false (fun q => by have q1 := (fitsX_iff hp).1 q; first | omega | exact hg17 q1.1)]; rfl) | (refine congrArg Value.bool ?_; have hte : tm = timeF d.Track p n.Stretch := (by rw [hmt] at htm; have e0 := timesP_at htm; rw [Int.toNat_of_nonneg hn.1.1] at e0; exact e0); rw [show decide (fitsX d n x) = decide (tm ≤ n.Seconds) from decide_eq_decide.2 (by rw [fitsX_iff hp, hte]; exact ⟨fun q => q.2, fun q => ⟨by omega, q⟩⟩)]; rw [← decide_not]; exact decide_eq_decide.2 (by omega))
set_option maxRecDepth 100000 in
set_option maxHeartbeats 400000 in
theorem clone_c (l : List Int) (lA : Option Addr) (lC : Nat) (hlen : l.length ≤ 1000000) :
    FnX Try.prog 95 [(Value.slice lA l.length lC)] [(rd lA l.length 1 (l.map iC))] (fun (x : (Option Addr) × Nat) => (Value.slice x.1 l.length x.2)) (fun (x : (Option Addr) × Nat) => True) (fun (x : (Option Addr) × Nat) => [(own x.1 x.2 3 1 (l.map iC))]) := by
 refine fnX_of go95 Try.func95 rfl rfl fun w0 Q hQ hN => ?_
 try dsimp only
 refine WS fun _ hK1 => rS (AG rfl) <| RK hK1 <| w_seq fun _ hK2 => WS fun _ hK3 => rS (MV rfl) <| rS (BI rfl (b_eqls ut33)) <| RK hK3 ?_
 refine w_if rfl (fun hg4 => ?_) (fun hg4 => ?_)
 · replace hg4 := DT hg4
   refine WS fun _ hK4 => r_rd_nil (has_at 0 rfl) hg4 (by decide) fun hnil => ?_
   have hl0 : l = [] := by simpa using hnil
   refine r_own_nil 3 1 ?_
   rw [show (own none 0 3 1 ([] : List (List Value))) = own none 0 3 1 (l.map iC) from by rw [hl0]; rfl]
   refine rS (AG rfl) <| RK hK4 <| w_ret ?_
   refine hQ _ _ _ (l_nil (vs := [(Value.slice none 0 0)]) ⟨rfl, trivial⟩ fun w hs => endX (none, 0) [0] ?_ ?_ rfl rfl rfl hs)
   · first | rfl | (rw [hl0]; rfl)
   · trivial
 replace hg4 := DF hg4
 refine WK hK2 <| WS fun _ hK5 => r_bs0 rfl te33 rfl fun b6 => rS (MV rfl) <| r_blk_own (es := (List.map iC [])) (C' := [own (some ⟨b6, 0, none⟩) 0 3 1 (List.map iC []), _]) 0 rfl (by simp) rfl (by simp [maxLen]) rfl <| r_append (es2 := (List.map iC l)) (m' := l.length) 0 rfl rfl rfl ta33 rfl rfl (by simp) (has_at 1 rfl) (one_iC _) (by first | omega | (simp; omega)) (by first | (simp only [maxLen]; omega) | (simp [maxLen]; omega)) (by simp) (by simp) rfl fun a7 c8 => ?_
 try dsimp only
 refine rS (AG rfl) <| RK hK5 <| w_ret ?_
 refine hQ _ _ _ (l_nil (vs := [(Value.slice a7 l.length c8)]) ⟨rfl, trivial⟩ fun w hs => endX (a7, c8) [0] ?_ ?_ rfl rfl rfl hs)
 · first | rfl | (rw [hl0]; rfl)
 · trivial
set_option maxRecDepth 100000 in
set_option maxHeartbeats 400000 in
theorem delfunc_c (l : List Int) (lA : Option Addr) (lC : Nat) (f : Value) (p : Int → Bool) (X : Assn) (hf : ∀ x0, x0 ∈ l → Clo Try.prog f [.int .i64 x0] [X] (.bool (p x0))) (hlen : l.length ≤ 1000000) :
    FnM Try.prog 94 [(Value.slice lA l.length lC), f] [X] (own lA lC 3 1 (l.map iC)) (fun (x : (List Int)) => (Value.slice lA x.length lC)) (fun (x : (List Int)) => x = (l.filter fun u => !p u)) (fun (x : (List Int)) => (own lA lC 3 1 (x.map iC))) := by
 refine fnM_of go94 Try.func94 rfl rfl fun w0 Q hQ hN => ?_
 try dsimp only
 refine WS fun _ hK1 => rS (AG rfl) <| RK hK1 <| WS fun _ hK2 => rS (MV rfl) <| rS (MV rfl) <| rS (CL (index_c l lA lC f p X (by exact hf) hlen) (ha_cons (has_own_n (n := l.length) 0 rfl (by simp)) <| ha_at 1 rfl rfl <| ha_nil) rfl) <| rS (AG rfl) <| RK hK2 <| w_seq fun _ hK3 => ?_
 refine WS fun _ hK4 => rS (MV rfl) <| rS (BI rfl b_eql) <| RK hK4 ?_
 refine w_if rfl (fun hg12 => ?_) (fun hg12 => ?_)
 · replace hg12 := DT hg12
   refine WS fun _ hK5 => ?_
   have hall := del_none hg12
   refine rS (MV rfl) <| rS (AG rfl) <| RK hK5 <| w_ret ?_
   refine hQ _ _ _ (l_nil (vs := [(Value.slice lA l.length lC)]) ⟨rfl, trivial⟩ fun w hs => endM l 0 ?_ ?_ rfl rfl hs)
   · clear hs w hQ hN hK5 hK4 hK3 hK2 hK1; first | rfl | (rw [hdone.2] <;> rfl)
   · clear hs w hQ hN hK5 hK4 hK3 hK2 hK1; first | rfl | exact hall
 replace hg12 := DF hg12
 refine WK hK3 <| w_seq fun _ hK6 => WS fun _ hK7 => ?_
 obtain ⟨hfi, hdi⟩ := del_start (p := p) (l := l) hg12
 refine rS (MV rfl) <| rS (BI rfl (b_add ⟨by omega, by omega⟩)) <| rS (AG rfl) <| RK hK7 <| w_block ?_
 have hinit : (((findI p l).toNat) ≤ ((findI p l).toNat + 1) ∧ ((findI p l).toNat + 1) ≤ l.length) ∧ (DelI p l l ((findI p l).toNat) ((findI p l).toNat + 1)) := by exact ⟨by omega, hdi⟩
 have hb8 : (Value.int .i64 ((((findI p l).toNat) : Nat) : Int)) = (Value.int .i64 (findI p l)) := by exact congrArg (Value.int .i64) (by omega)
 have hb9 : (Value.int .i64 ((((findI p l).toNat + 1) : Nat) : Int)) = (Value.int .i64 ((findI p l) + 1)) := by exact congrArg (Value.int .i64) (by omega)
 refine w_loop (ι := { z : Nat × Nat × (List Int) // (z.1 ≤ z.2.1 ∧ z.2.1 ≤ l.length) ∧ (DelI p l z.2.2 z.1 z.2.1) }) (fun z => [(0, (Value.slice lA l.length lC)), (1, f), (5, (Value.int .i64 ((z.1.1 : Nat) : Int))), (6, (Value.int .i64 ((z.1.2.1 : Nat) : Int)))]) (fun z => [(own lA lC 3 1 (z.1.2.2.map iC)), X.ro]) (fun z => l.length - z.1.2.1) ⟨((findI p l).toNat, ((findI p l).toNat + 1), l), hinit⟩ (Sub.cons rfl <| Sub.cons rfl <| sub_val rfl hb8 <| sub_val rfl hb9 <| Sub.nil _) (fun w hs => St.sel [0, 1] rfl rfl hs) ?_
 clear hinit
 rintro ⟨⟨i, j, q⟩, ⟨hl5_0, hl5_1⟩⟩ J10 hJ10
 try dsimp only at hl5_0 hl5_1
 try dsimp only
 have hlq := hl5_1.len
 refine w_seq fun _ hK11 => WS fun _ hK12 => rS (MV rfl) <| rS (MV rfl) <| rS (LN rfl ut33) <| rS (BI rfl b_lss) <| RK hK12 ?_
 refine w_if rfl (fun h13 => ?_) (fun h13 => ?_)
 rotate_left 1
 · replace h13 := DF h13
   refine w_exit <| k_exit_then <| k_exit_then <| k_exit_same <| KK hK6 <| WS fun _ hK22 => ?_
   have hlq := hl5_1.len
   have hdone := hl5_1.done (by omega)
   refine rS (MV rfl) <| rS (MV rfl) <| rS (SLO i rfl te33 (by omega) (by first | omega | (simp; omega))) <| r_clear (k := i) 0 rfl rfl ta33 (by intro v hv; simp [Value.cells] at hv; subst hv; rfl) rfl (by simp [hlq]) (by omega) ?_
   try dsimp only
   rw [show (own lA lC 3 1 ((q.map iC).take i)) = (own lA lC 3 1 ((l.filter fun u => !p u).map iC)) from by rw [← hdone.1, List.map_take]]
   refine RK hK22 <| WS fun _ hK23 => rS (MV rfl) <| rS (MV rfl) <| r_capq 0 rfl fun hcap => ?_
   have hic : i ≤ lC := by rw [List.length_map, hdone.2] at hcap; exact hcap
   refine rS (SHI i rfl te33 (by omega) (by first | omega | exact Nat.zero_le _ | (simp; omega))) <| rS (AG rfl) <| RK hK23 <| w_ret ?_
   refine hQ _ _ _ (l_nil (vs := [(Value.slice lA i lC)]) ⟨rfl, trivial⟩ fun w hs => endM (l.filter fun u => !p u) 0 ?_ ?_ rfl rfl hs)
   · clear hs w hQ hN hK23 hK22 hK12 hK11 hK7 hK6 hK4 hK3 hK2 hK1; first | rfl | (rw [hdone.2] <;> rfl)
   · clear hs w hQ hN hK23 hK22 hK12 hK11 hK7 hK6 hK4 hK3 hK2 hK1; first | rfl | exact hall
 replace h13 := DT h13
 refine WK hK11 <| w_seq fun _ hK14 => w_block <| WS fun _ hK15 => rS (MV rfl) <| rS (MV rfl) ?_
 obtain ⟨y, hy⟩ : ∃ y_, q[j]? = some y_ := ⟨q[j]'(by omega), List.getElem?_eq_getElem _⟩
 have hym : (q.map iC)[j]? = some (iC y) := by rw [List.getElem?_map, hy]; rfl
 refine rS (IA j rfl (has_own_n (n := l.length) 0 rfl (by first | (simp; done) | (simp; omega))) te33 (by decide) (by omega) (by omega)) <| rS (LE1 j 0 (Value.int .i64 y) rfl tk3 (has_own_n (n := q.length) 0 rfl (by simp)) hym rfl (by decide) rfl) <| rS (AG rfl) <| RK hK15 <| WS fun _ hK16 => rS (MV rfl) <| rS (MV rfl) ?_
 have hym : y ∈ l := hl5_1.mem hy
 refine rS (SX (sd_clo rfl rfl rfl (hf y hym) (ha_at 1 rfl rfl <| ha_nil)) rfl rfl) <| rS (NT rfl) <| RK hK16 ?_
 refine w_if rfl (fun hg29 => ?_) (fun hg29 => ?_)
 rotate_left 1
 · rw [Bool.not_eq_false'] at hg29
   refine w_skip <| k_block <| KK hK14 <| w_region <| rS (MV rfl) <| rS (BI rfl (b_add ⟨by omega, by omega⟩)) <| rS (AG rfl) <| r_nil ?_
   have hb20 : (Value.int .i64 ((i : Nat) : Int)) = (Value.int .i64 ((i : Nat) : Int)) := by exact congrArg (Value.int .i64) (by omega)
   have hb21 : (Value.int .i64 (((j + 1) : Nat) : Int)) = (Value.int .i64 (((j : Nat) : Int) + 1)) := by exact congrArg (Value.int .i64) (by omega)
   refine k_then (hJ10 ⟨(i, (j + 1), q), ⟨by dsimp only; omega, by first | exact hl5_1.keep hlq (by omega) hy hg29 | exact hl5_1.skip hlq hy hg29⟩⟩ _ _ _ rfl (by first | omega | (simp; omega)) (Sub.cons rfl <| Sub.cons rfl <| sub_val rfl hb20 <| sub_val rfl hb21 <| Sub.nil _) (fun w hs => St.sel [0, 1] rfl rfl hs))
 rw [Bool.not_eq_true'] at hg29
 refine WS fun _ hK17 => rS (MV rfl) <| rS (MV rfl) <| rS (MV rfl) ?_
 obtain ⟨z, hz⟩ : ∃ y_, q[i]? = some y_ := ⟨q[i]'(by omega), List.getElem?_eq_getElem _⟩
 have hzm : (q.map iC)[i]? = some (iC z) := by rw [List.getElem?_map, hz]; rfl
 refine rS (IA i rfl (has_own_n (n := l.length) 0 rfl (by first | (simp; done) | (simp; omega))) te33 (by decide) (by omega) (by omega)) <| r_store_own (k := i) (o := 0) (vs := [(Value.int .i64 y)]) (es' := (List.map iC (q.set i y))) (C' := [(own lA lC 3 1 (List.map iC (q.set i y))), _]) 0 rfl rfl rfl ts3 rfl rfl rfl rfl hzm rfl (by decide) (by exact (List.map_set (f := iC) (l := q) (i := i) (a := y)).symm) rfl <| RK hK17 <| w_region <| rS (MV rfl) <| rS (BI rfl (b_add ⟨by omega, by omega⟩)) <| rS (AG rfl) <| r_nil <| k_block <| KK hK14 ?_
 refine w_region <| rS (MV rfl) <| rS (BI rfl (b_add ⟨by omega, by omega⟩)) <| rS (AG rfl) <| r_nil ?_
 have hb18 : (Value.int .i64 (((i + 1) : Nat) : Int)) = (Value.int .i64 (((i : Nat) : Int) + 1)) := by exact congrArg (Value.int .i64) (by omega)
 have hb19 : (Value.int .i64 (((j + 1) : Nat) : Int)) = (Value.int .i64 (((j : Nat) : Int) + 1)) := by exact congrArg (Value.int .i64) (by omega)
 refine k_then (hJ10 ⟨((i + 1), (j + 1), (q.set i y)), ⟨by dsimp only; omega, by first | exact hl5_1.keep hlq (by omega) hy hg29 | exact hl5_1.skip hlq hy hg29⟩⟩ _ _ _ rfl (by first | omega | (simp; omega)) (Sub.cons rfl <| Sub.cons rfl <| sub_val rfl hb18 <| sub_val rfl hb19 <| Sub.nil _) (fun w hs => St.sel [0, 1] rfl rfl hs))
end
section
open Go.RowKit
set_option linter.unusedVariables false
set_option maxRecDepth 100000 in
set_option maxHeartbeats 400000 in
theorem wmeets_c (d : GuardM) (kA : Option Addr) (kC : Nat) (pA : Option Addr) (pC : Nat) (nA : Option Addr) (nC : Nat) (tz : List RA) (tA : Option Addr) (tC : Nat) (gw : Nat) (n : NeedV) (cl : List Int) (clA : Option Addr) (clC : Nat) (hin : GuardIn d) (htr : trackOk d.Track = true) (hok : GuardOk d) (htz : tz.length = d.Posts.length) (hn : NeedOk d.Track n) (hc : ∀ x ∈ cl, 0 ≤ x ∧ x < (d.Posts.length : Int)) (hcl : cl.length ≤ 1000000) :
    FnX Try.prog 61 [(Value.pointer (some ⟨gw, 0, none⟩)), (Value.agg (NeedV.cells n).toArray), (Value.slice clA cl.length clC)] [(rd kA d.Track.length 9 (d.Track.map StretchV.cells)), (rd pA d.Posts.length 7 (d.Posts.map PostV.cells)), (rd nA d.Needs.length 3 (d.Needs.map NeedV.cells)), (rd tA ((timesL d).length) 1 (List.zipWith rowC (timesL d) tz)), (bun (nest rowR (timesL d) tz)), (blk gw 89 (WatchV.cells (WatchV.mk (GuardV.mk (TrackV.mk (Slc.mk kA d.Track.length kC)) (Slc.mk pA d.Posts.length pC) (Slc.mk nA d.Needs.length nC) d.Tower d.Radio) (Slc.mk tA ((timesL d).length) tC)))), (rd clA cl.length 1 (cl.map iC))] (fun (x : (Option Addr) × Nat) => (Value.slice x.1 ((cl.filter fun x => decide (fitsX d n x)).length) x.2)) (fun (x : (Option Addr) × Nat) => True) (fun (x : (Option Addr) × Nat) => [(own x.1 x.2 3 1 ((cl.filter fun x => decide (fitsX d n x)).map iC))]) := by
 have hlen := hin.trk
 have hside := hin.side
 have hpl := hin.pst
 have hnl := hin.nds
 have hnk := hin.nk
 have hpk := hin.pk
 refine fnX_of go61 Try.func61 rfl rfl fun w0 Q hQ hN => ?_
 try dsimp only
 refine WS fun _ hK1 => BX1 rfl rfl fun b2 => BXA rfl fun b3 => rS (AG rfl) <| RK hK1 <| WS fun _ hK4 => rS (MV rfl) <| cX (clone_c cl clA clC (by exact hcl)) (ha_at 8 rfl rfl <| ha_nil) rfl fun y5 hy6 => ?_
 obtain ⟨a7, c8⟩ := y5
 try dsimp only
 refine rS (FU rfl) ?_
 refine r_callm 0 rfl rfl rfl rfl (fnM_unbun (delfunc_c cl a7 c8 (Value.func (.func 96) [].toArray [(Value.pointer (some ⟨b2, 0, none⟩)), (Value.pointer (some ⟨b3, 0, none⟩))].toArray) (fun u9 => (!(decide (fitsX d n u9)))) (bun [(rd kA d.Track.length 9 (d.Track.map StretchV.cells)), (rd pA d.Posts.length 7 (d.Posts.map PostV.cells)), (rd nA d.Needs.length 3 (d.Needs.map NeedV.cells)), (rd tA ((timesL d).length) 1 (List.zipWith rowC (timesL d) tz)), (bun (nest rowR (timesL d) tz)), (blk gw 89 (WatchV.cells (WatchV.mk (GuardV.mk (TrackV.mk (Slc.mk kA d.Track.length kC)) (Slc.mk pA d.Posts.length pC) (Slc.mk nA d.Needs.length nC) d.Tower d.Radio) (Slc.mk tA ((timesL d).length) tC)))), (blk b2 84 [(Value.pointer (some ⟨gw, 0, none⟩))]), (blk b3 57 (NeedV.cells n))]) (by intro u9 hmem; exact clo_of (fi := []) (ca := [(Value.pointer (some ⟨b2, 0, none⟩)), (Value.pointer (some ⟨b3, 0, none⟩))]) (fnV_bun (meets1_c u9 d kA kC pA pC nA nC tz tA tC gw n b2 b3 (by first | assumption | exact hc _ hmem | omega) (by first | assumption | exact hc _ hmem | omega) (by first | assumption | exact hc _ hmem | omega) (by first | assumption | exact hc _ hmem | omega) (by first | assumption | exact hc _ hmem | omega) (by first | assumption | exact hc _ hmem | omega)) (ha_at 0 rfl rfl <| ha_at 1 rfl rfl <| ha_at 2 rfl rfl <| ha_at 3 rfl rfl <| ha_at 4 rfl rfl <| ha_at 5 rfl rfl <| ha_at 6 rfl rfl <| ha_at 7 rfl rfl <| ha_nil))) (by omega))) rfl (cv_cons 3 rfl rfl (cov_ro (cov_refl _)) (cv_cons 4 rfl rfl (cov_ro (cov_refl _)) (cv_cons 5 rfl rfl (cov_ro (cov_refl _)) (cv_cons 6 rfl rfl (cov_ro (cov_refl _)) (cv_cons 7 rfl rfl (cov_refl _) (cv_cons 8 rfl rfl (cov_ro (cov_refl _)) (cv_cons 2 rfl rfl (cov_refl _) (cv_cons 1 rfl rfl (cov_refl _) cv_nil)))))))) rfl (fun mm hmf => ?_)
 try dsimp only
 have hmm : mm = (cl.filter fun x => decide (fitsX d n x)) := by rw [hmf]; simp only [Bool.not_not]
 rw [hmm]
 refine rS (AG rfl) <| RK hK4 <| w_ret ?_
 refine hQ _ _ _ (l_nil (vs := [(Value.slice a7 ((cl.filter fun x => decide (fitsX d n x)).length) c8)]) ⟨rfl, trivial⟩ fun w hs => endX (a7, c8) [0] ?_ ?_ rfl rfl rfl hs)
 · rfl
 · trivial
end
section
open Go.RowKit
set_option linter.unusedVariables false
set_option maxRecDepth 100000 in
set_option maxHeartbeats 400000 in
theorem wlacks_c (d : GuardM) (kA : Option Addr) (kC : Nat) (pA : Option Addr) (pC : Nat) (nA : Option Addr) (nC : Nat) (tz : List RA) (tA : Option Addr) (tC : Nat) (gw : Nat) (s : Nat) (hin : GuardIn d) (htr : trackOk d.Track = true) (hok : GuardOk d) (htz : tz.length = d.Posts.length) (hsb : s < 256) :
    FnX Try.prog 73 [(Value.pointer (some ⟨gw, 0, none⟩)), (Value.int .i64 ((s : Nat) : Int))] [(rd kA d.Track.length 9 (d.Track.map StretchV.cells)), (rd pA d.Posts.length 7 (d.Posts.map PostV.cells)), (rd nA d.Needs.length 3 (d.Needs.map NeedV.cells)), (rd tA ((timesL d).length) 1 (List.zipWith rowC (timesL d) tz)), (bun (nest rowR (timesL d) tz)), (blk gw 89 (WatchV.cells (WatchV.mk (GuardV.mk (TrackV.mk (Slc.mk kA d.Track.length kC)) (Slc.mk pA d.Posts.length pC) (Slc.mk nA d.Needs.length nC) d.Tower d.Radio) (Slc.mk tA ((timesL d).length) tC))))] (fun (x : (Option Addr) × Nat) => (Value.slice x.1 ((lacksL d (bitS s)).length) x.2)) (fun (x : (Option Addr) × Nat) => True) (fun (x : (Option Addr) × Nat) => [(own x.1 x.2 3 1 ((lacksL d (bitS s)).map iC))]) := by
 have hlen := hin.trk
 have hside := hin.side
 have hpl := hin.pst
 have hnl := hin.nds
 have hnk := hin.nk
 have hpk := hin.pk
 have hn8 := hok.len
 refine fnX_of go73 Try.func73 rfl rfl fun w0 Q hQ hN => ?_
 try dsimp only
 refine WS fun _ hK1 => rS (AG rfl) <| RK hK1 <| w_scope rfl <| WS fun _ hK2 => rS (MV rfl) <| rS (MV rfl) <| cX (wcalled_c d kA kC pA pC nA nC tA ((timesL d).length) tC gw s hin htr hok hsb) (ha_at 0 rfl rfl <| ha_at 1 rfl rfl <| ha_at 2 rfl rfl <| ha_at 5 rfl rfl <| ha_nil) rfl fun y3 hy4 => ?_
 obtain ⟨a5, c6⟩ := y3
 try dsimp only
 refine rS (AG rfl) <| RK hK2 <| WS fun _ hK7 => rS (AG rfl) <| RK hK7 <| w_seq fun _ hK8 => w_label <| KK hK8 <| w_seq fun _ hK9 => WS fun _ hK10 => ?_
 refine rS (MV rfl) <| rS (SX (sd_nil_p rfl rfl) rfl rfl) <| rS (FA 0 rfl fo89_0 rfl) <| rS (FA 2 rfl fo32_2 rfl) <| rS (L1R (Value.slice nA d.Needs.length nC) 6 rfl tk26 rfl rfl) <| rS (LN rfl ut26) <| rS (MV rfl) <| RK hK10 <| w_block <| w_own_nil 3 1 ?_
 have hinit : (0 ≤ d.Needs.length) := by exact Nat.zero_le _
 refine w_loop (ι := { z : Nat × (Option Addr) × Nat // (z.1 ≤ d.Needs.length) }) (fun z => [(0, (Value.pointer (some ⟨gw, 0, none⟩))), (1, (Value.int .i64 ((s : Nat) : Int))), (5, (Value.slice a5 ((calledL d (bitS s)).length) c6)), (6, (Value.slice z.1.2.1 ((idxL z.1.1 (LackP d (bitS s))).length) z.1.2.2)), (16, (Value.slice nA d.Needs.length nC)), (17, (Value.int .i64 ((d.Needs.length : Nat) : Int))), (18, (Value.int .i64 ((z.1.1 : Nat) : Int)))]) (fun z => [(own z.1.2.1 z.1.2.2 3 1 ((idxL z.1.1 (LackP d (bitS s))).map iC)), (own a5 c6 3 1 ((calledL d (bitS s)).map iC)), (rd kA d.Track.length 9 (d.Track.map StretchV.cells)).ro, (rd pA d.Posts.length 7 (d.Posts.map PostV.cells)).ro, (rd nA d.Needs.length 3 (d.Needs.map NeedV.cells)).ro, (rd tA ((timesL d).length) 1 (List.zipWith rowC (timesL d) tz)).ro, (bun (nest rowR (timesL d) tz)).ro, (blk gw 89 (WatchV.cells (WatchV.mk (GuardV.mk (TrackV.mk (Slc.mk kA d.Track.length kC)) (Slc.mk pA d.Posts.length pC) (Slc.mk nA d.Needs.length nC) d.Tower d.Radio) (Slc.mk tA ((timesL d).length) tC)))).ro]) (fun z => d.Needs.length - z.1.1) ⟨(0, none, 0), hinit⟩ (Sub.cons rfl <| Sub.cons rfl <| Sub.cons rfl <| Sub.cons rfl <| Sub.cons rfl <| Sub.cons rfl <| Sub.cons rfl <| Sub.nil _) (fun w hs => St.sel [0, 1, 2, 3, 4, 5, 6, 7] rfl rfl hs) ?_
 clear hinit
 rintro ⟨⟨j, la, lc⟩, hl4_0⟩ J11 hJ11
 try dsimp only at hl4_0
 try dsimp only
 refine WS fun _ hK12 => rS (BI rfl b_lss) <| RK hK12 <| w_seq fun _ hK13 => ?_
 refine w_if rfl (fun h14 => ?_) (fun h14 => ?_)
 rotate_left 1
 · replace h14 := DF h14
   refine w_exit <| k_exit_then <| k_exit_then <| k_exit_same <| KK hK9 <| WS fun _ hK29 => ?_
   rw [show idxL j (LackP d (bitS s)) = lacksL d (bitS s) from by unfold lacksL; rw [show j = d.Needs.length by omega]]
   refine rS (MV rfl) <| rS (AG rfl) <| RK hK29 <| w_ret ?_
   refine hQ _ _ _ (l_nil (vs := [(Value.slice la ((lacksL d (bitS s)).length) lc)]) ⟨rfl, trivial⟩ fun w hs => endX (la, lc) [0] ?_ ?_ rfl rfl rfl hs)
   · rfl
   · trivial
 replace h14 := DT h14
 refine WK hK13 <| w_seq fun _ hK15 => w_block <| WS fun _ hK16 => rS (MV rfl) ?_
 obtain ⟨n, hn⟩ : ∃ y_, d.Needs[j]? = some y_ := ⟨d.Needs[j]'(by omega), List.getElem?_eq_getElem _⟩
 have hnm : (d.Needs.map NeedV.cells)[j]? = some (NeedV.cells n) := by rw [List.getElem?_map, hn]; rfl
 refine rS (IA j rfl (has_at 4 rfl) te26 (by decide) (by omega) (by omega)) <| rS (LEN j 0 (NeedV.cells n) rfl tk57 (has_at 4 rfl) hnm rfl (by decide) rfl rfl) <| AL rfl tz57 fun b17 => rS (AG rfl) <| SW0 rfl ts57 rfl <| RK hK16 <| w_seq fun _ hK18 => WS fun _ hK19 => ?_
 have hno := hok.need n (List.mem_of_getElem? hn)
 refine rS (MV rfl) <| rS (LW 0 rfl tk57 rfl rfl) <| rS (MV rfl) <| cX (wmeets_c d kA kC pA pC nA nC tz tA tC gw n (calledL d (bitS s)) a5 c6 hin htr hok htz (by exact hno) (by exact called_mem) (by exact Nat.le_trans called_len (by omega))) (ha_at 3 rfl rfl <| ha_at 4 rfl rfl <| ha_at 5 rfl rfl <| ha_at 6 rfl rfl <| ha_at 7 rfl rfl <| ha_at 8 rfl rfl <| ha_cons (has_own_n (n := (calledL d (bitS s)).length) 2 rfl (by simp)) <| ha_nil) rfl fun y20 hy21 => ?_
 obtain ⟨a22, c23⟩ := y20
 try dsimp only
 rw [meets_filter]
 refine rS (LN rfl ut33) <| rS (BI rfl b_gtr) <| RK hK19 ?_
 refine w_if rfl (fun hg28 => ?_) (fun hg28 => ?_)
 · replace hg28 := DT hg28
   refine w_exit <| k_exit_then <| k_exit_same <| KK hK15 <| w_region <| rS (BI rfl (b_add ⟨by omega, by omega⟩)) <| rS (MV rfl) <| r_nil ?_
   rw [show (idxL j (LackP d (bitS s))) = (idxL (j + 1) (LackP d (bitS s))) from (idxL_no (fun q => by obtain ⟨n2, hn2, h2⟩ := q; rw [hn] at hn2; cases hn2; rw [h2] at hg28; simp at hg28)).symm]
   have hb24 : (Value.int .i64 (((j + 1) : Nat) : Int)) = (Value.int .i64 (((j : Nat) : Int) + 1)) := by exact congrArg (Value.int .i64) (by omega)
   refine k_then (hJ11 ⟨((j + 1), la, lc), (by first | omega | (simp only []; omega))⟩ _ _ _ rfl (by first | omega | (simp; omega)) (Sub.cons rfl <| Sub.cons rfl <| Sub.cons rfl <| Sub.cons rfl <| Sub.cons rfl <| Sub.cons rfl <| sub_val rfl hb24 <| Sub.nil _) (fun w hs => St.sel [2, 3, 4, 5, 6, 7, 8, 9] rfl rfl hs))
 replace hg28 := DF hg28
 refine WK hK18 <| w_region <| rS (MV rfl) <| rS (MV rfl) <| r_bs (xs := [.tmp 30]) (cs := [(Value.int .i64 ((j : Nat) : Int))]) rfl te33 tz3 rfl rfl rfl rfl (by simp [Value.cells]) rfl rfl fun b25 => r_append (es2 := (List.map iC (idxL (j + 1) (LackP d (bitS s))))) (m' := (idxL (j + 1) (LackP d (bitS s))).length) 3 rfl rfl rfl ta33 rfl rfl (by simp) (has_rd_blk (es := List.map iC [((j : Nat) : Int)]) 0 rfl rfl (by simp [iC_length]) rfl) (one_iC _) (by have := idxL_len (n := j) (p := LackP d (bitS s)); omega) (by have := idxL_len (n := j) (p := LackP d (bitS s)); simp only [maxLen]; omega) (by rw [idxL_yes (p := LackP d (bitS s)) ⟨n, hn, List.eq_nil_of_length_eq_zero (by omega)⟩]; simp) (by simp) rfl fun a26 c27 => ?_
 try dsimp only
 refine rS (AG rfl) <| r_nil <| k_block <| KK hK15 <| w_region <| rS (BI rfl (b_add ⟨by omega, by omega⟩)) <| rS (MV rfl) <| r_nil ?_
 have hb28 : (Value.int .i64 (((j + 1) : Nat) : Int)) = (Value.int .i64 (((j : Nat) : Int) + 1)) := by exact congrArg (Value.int .i64) (by omega)
 refine k_then (hJ11 ⟨((j + 1), a26, c27), (by first | omega | (simp only []; omega))⟩ _ _ _ rfl (by first | omega | (simp; omega)) (Sub.cons rfl <| Sub.cons rfl <| Sub.cons rfl <| Sub.cons rfl <| Sub.cons rfl <| Sub.cons rfl <| sub_val rfl hb28 <| Sub.nil _) (fun w hs => St.sel [3, 4, 5, 6, 7, 8, 9, 10] rfl rfl hs))
set_option maxRecDepth 100000 in
set_option maxHeartbeats 400000 in
theorem wweak_c (d : GuardM) (kA : Option Addr) (kC : Nat) (pA : Option Addr) (pC : Nat) (nA : Option Addr) (nC : Nat) (tz : List RA) (tA : Option Addr) (tC : Nat) (gw : Nat) (s : Nat) (hin : GuardIn d) (htr : trackOk d.Track = true) (hok : GuardOk d) (htz : tz.length = d.Posts.length) (hsb : s < 256) :
    FnX Try.prog 75 [(Value.pointer (some ⟨gw, 0, none⟩)), (Value.int .i64 ((s : Nat) : Int))] [(rd kA d.Track.length 9 (d.Track.map StretchV.cells)), (rd pA d.Posts.length 7 (d.Posts.map PostV.cells)), (rd nA d.Needs.length 3 (d.Needs.map NeedV.cells)), (rd tA ((timesL d).length) 1 (List.zipWith rowC (timesL d) tz)), (bun (nest rowR (timesL d) tz)), (blk gw 89 (WatchV.cells (WatchV.mk (GuardV.mk (TrackV.mk (Slc.mk kA d.Track.length kC)) (Slc.mk pA d.Posts.length pC) (Slc.mk nA d.Needs.length nC) d.Tower d.Radio) (Slc.mk tA ((timesL d).length) tC))))] (fun (x : (Option Addr) × Nat) => (Value.slice x.1 ((weakL d (bitS s)).length) x.2)) (fun (x : (Option Addr) × Nat) => True) (fun (x : (Option Addr) × Nat) => [(own x.1 x.2 3 1 ((weakL d (bitS s)).map iC))]) := by
 have hlen := hin.trk
 have hside := hin.side
 have hpl := hin.pst
 have hnl := hin.nds
 have hnk := hin.nk
 have hpk := hin.pk
 have hn8 := hok.len
 refine fnX_of go75 Try.func75 rfl rfl fun w0 Q hQ hN => ?_
 try dsimp only
 refine WS fun _ hK1 => rS (AG rfl) <| RK hK1 <| WS fun _ hK2 => rS (AG rfl) <| RK hK2 <| w_seq fun _ hK3 => WS fun _ hK4 => rS (MV rfl) <| rS (SX (sd_nil_p rfl rfl) rfl rfl) ?_
 refine rS (FA 0 rfl fo89_0 rfl) <| rS (FA 1 rfl fo32_1 rfl) <| rS (L1R (Value.slice pA d.Posts.length pC) 5 rfl tk25 rfl rfl) <| rS (LN rfl ut25) <| rS (MV rfl) <| RK hK4 <| w_block <| w_own_nil 3 1 ?_
 have hinit : (0 ≤ d.Posts.length) := by exact Nat.zero_le _
 refine w_loop (ι := { z : Nat × (Option Addr) × Nat // (z.1 ≤ d.Posts.length) }) (fun z => [(0, (Value.pointer (some ⟨gw, 0, none⟩))), (1, (Value.int .i64 ((s : Nat) : Int))), (5, (Value.slice z.1.2.1 ((idxL z.1.1 (fun i => bitS s i ∧ lacksL d (less1 (bitS s) i) ≠ [])).length) z.1.2.2)), (11, (Value.slice pA d.Posts.length pC)), (12, (Value.int .i64 ((d.Posts.length : Nat) : Int))), (13, (Value.int .i64 ((z.1.1 : Nat) : Int)))]) (fun z => [(own z.1.2.1 z.1.2.2 3 1 ((idxL z.1.1 (fun i => bitS s i ∧ lacksL d (less1 (bitS s) i) ≠ [])).map iC)), (rd kA d.Track.length 9 (d.Track.map StretchV.cells)).ro, (rd pA d.Posts.length 7 (d.Posts.map PostV.cells)).ro, (rd nA d.Needs.length 3 (d.Needs.map NeedV.cells)).ro, (rd tA ((timesL d).length) 1 (List.zipWith rowC (timesL d) tz)).ro, (bun (nest rowR (timesL d) tz)).ro, (blk gw 89 (WatchV.cells (WatchV.mk (GuardV.mk (TrackV.mk (Slc.mk kA d.Track.length kC)) (Slc.mk pA d.Posts.length pC) (Slc.mk nA d.Needs.length nC) d.Tower d.Radio) (Slc.mk tA ((timesL d).length) tC)))).ro]) (fun z => d.Posts.length - z.1.1) ⟨(0, none, 0), hinit⟩ (Sub.cons rfl <| Sub.cons rfl <| Sub.cons rfl <| Sub.cons rfl <| Sub.cons rfl <| Sub.cons rfl <| Sub.nil _) (fun w hs => St.sel [0, 1, 2, 3, 4, 5, 6] rfl rfl hs) ?_
 clear hinit
 rintro ⟨⟨j, la, lc⟩, hl3_0⟩ J5 hJ5
 try dsimp only at hl3_0
 try dsimp only
 refine WS fun _ hK6 => rS (BI rfl b_lss) <| RK hK6 <| w_seq fun _ hK7 => ?_
 refine w_if rfl (fun h8 => ?_) (fun h8 => ?_)
 rotate_left 1
 · replace h8 := DF h8
   refine w_exit <| k_exit_then <| k_exit_then <| k_exit_same <| KK hK3 <| WS fun _ hK22 => ?_
   rw [show idxL j (fun i => bitS s i ∧ lacksL d (less1 (bitS s) i) ≠ []) = weakL d (bitS s) from by unfold weakL; rw [show j = d.Posts.length by omega]]
   refine rS (MV rfl) <| rS (AG rfl) <| RK hK22 <| w_ret ?_
   refine hQ _ _ _ (l_nil (vs := [(Value.slice la ((weakL d (bitS s)).length) lc)]) ⟨rfl, trivial⟩ fun w hs => endX (la, lc) [0] ?_ ?_ rfl rfl rfl hs)
   · rfl
   · trivial
 replace h8 := DT h8
 refine WK hK7 <| w_seq fun _ hK9 => w_block <| WS fun _ hK10 => rS (MV rfl) <| rS (AG rfl) <| RK hK10 <| WS fun _ hK11 => rS (MV rfl) <| rS (MV rfl) ?_
 refine rS (BI rfl (b_shrN (i := j) (by omega) (by omega))) <| rS (BI rfl (b_and1 (m := (s / 2 ^ j)) (by omega) (Nat.lt_of_le_of_lt (Nat.div_le_self _ _) (by omega)))) <| rS (BI rfl b_eql) <| rS (MV rfl) ?_
 refine r_bool (t := 21) rfl (fun hg21 => ?_) (fun hg21 => ?_)
 rotate_left 1
 · replace hg21 := DF hg21
   refine rS (OX rfl) <| rS (OX rfl) <| rS (OX rfl) <| rS (OX rfl) <| rS (OX rfl) <| rS (OX rfl) <| rS (OX rfl) <| rS (OX rfl) <| rS (PK rfl) <| RK hK11 ?_
   refine w_if_false rfl <| w_skip <| k_block <| KK hK9 <| w_region <| rS (BI rfl (b_add ⟨by omega, by omega⟩)) <| rS (MV rfl) <| r_nil ?_
   rw [show (idxL j (fun i => bitS s i ∧ lacksL d (less1 (bitS s) i) ≠ [])) = (idxL (j + 1) (fun i => bitS s i ∧ lacksL d (less1 (bitS s) i) ≠ [])) from (idxL_no (show ¬ (bitS s j ∧ lacksL d (less1 (bitS s) j) ≠ []) from fun q => by first | exact hg21 (bit_iff.2 q.1) | exact q.2 (by rw [← hlk]; exact List.eq_nil_of_length_eq_zero (by omega)))).symm]
   have hb21 : (Value.int .i64 (((j + 1) : Nat) : Int)) = (Value.int .i64 (((j : Nat) : Int) + 1)) := by exact congrArg (Value.int .i64) (by omega)
   refine k_then (hJ5 ⟨((j + 1), la, lc), (by first | omega | (simp only []; omega))⟩ _ _ _ rfl (by first | omega | (simp; omega)) (Sub.cons rfl <| Sub.cons rfl <| Sub.cons rfl <| Sub.cons rfl <| Sub.cons rfl <| sub_val rfl hb21 <| Sub.nil _) (fun w hs => St.sel [0, 1, 2, 3, 4, 5, 6] rfl rfl hs))
 replace hg21 := DT hg21
 refine rS (MV rfl) <| rS (MV rfl) <| rS (MV rfl) ?_
 have hp1 := pow_256 (n := j) (by omega)
 refine rS (BI rfl (b_shl1 (i := j) (by omega) (by omega))) ?_
 have hcl : clrB s j < 256 := Nat.lt_of_le_of_lt clr_le hsb
 have hlk : lacksL d (bitS (clrB s j)) = lacksL d (less1 (bitS s) j) := lacks_congr fun k hk => clrS hsb (by omega) (by omega)
 have hp2 : 2 ^ j ≤ 256 := (pow_256 (by omega)).2
 refine rS (BI rfl (b_andNot (s := s) (i := j) (by omega) rfl (by omega) (by omega))) <| cX (wlacks_c d kA kC pA pC nA nC tz tA tC gw (clrB s j) hin htr hok htz (by first | assumption | omega | (simp; done) | (simp; omega))) (ha_at 1 rfl rfl <| ha_at 2 rfl rfl <| ha_at 3 rfl rfl <| ha_at 4 rfl rfl <| ha_at 5 rfl rfl <| ha_at 6 rfl rfl <| ha_nil) rfl fun y12 hy13 => ?_
 obtain ⟨a14, c15⟩ := y12
 try dsimp only
 refine rS (LN rfl ut33) <| rS (BI rfl b_gtr) <| rS (PK rfl) <| RK hK11 ?_
 refine w_if rfl (fun hg30 => ?_) (fun hg30 => ?_)
 rotate_left 1
 · replace hg30 := DF hg30
   refine w_skip <| k_block <| KK hK9 <| w_region <| rS (BI rfl (b_add ⟨by omega, by omega⟩)) <| rS (MV rfl) <| r_nil ?_
   rw [show (idxL j (fun i => bitS s i ∧ lacksL d (less1 (bitS s) i) ≠ [])) = (idxL (j + 1) (fun i => bitS s i ∧ lacksL d (less1 (bitS s) i) ≠ [])) from (idxL_no (show ¬ (bitS s j ∧ lacksL d (less1 (bitS s) j) ≠ []) from fun q => by first | exact hg21 (bit_iff.2 q.1) | exact q.2 (by rw [← hlk]; exact List.eq_nil_of_length_eq_zero (by omega)))).symm]
   have hb20 : (Value.int .i64 (((j + 1) : Nat) : Int)) = (Value.int .i64 (((j : Nat) : Int) + 1)) := by exact congrArg (Value.int .i64) (by omega)
   refine k_then (hJ5 ⟨((j + 1), la, lc), (by first | omega | (simp only []; omega))⟩ _ _ _ rfl (by first | omega | (simp; omega)) (Sub.cons rfl <| Sub.cons rfl <| Sub.cons rfl <| Sub.cons rfl <| Sub.cons rfl <| sub_val rfl hb20 <| Sub.nil _) (fun w hs => St.sel [1, 2, 3, 4, 5, 6, 7] rfl rfl hs))
 replace hg30 := DT hg30
 refine w_region <| rS (MV rfl) <| rS (MV rfl) <| r_bs (xs := [.tmp 32]) (cs := [(Value.int .i64 ((j : Nat) : Int))]) rfl te33 tz3 rfl rfl rfl rfl (by simp [Value.cells]) rfl rfl fun b16 => r_append (es2 := (List.map iC (idxL (j + 1) (fun i => bitS s i ∧ lacksL d (less1 (bitS s) i) ≠ [])))) (m' := (idxL (j + 1) (fun i => bitS s i ∧ lacksL d (less1 (bitS s) i) ≠ [])).length) 2 rfl rfl rfl ta33 rfl rfl (by simp) (has_rd_blk (es := List.map iC [((j : Nat) : Int)]) 0 rfl rfl (by simp [iC_length]) rfl) (one_iC _) (by have := idxL_len (n := j) (p := fun i => bitS s i ∧ lacksL d (less1 (bitS s) i) ≠ []); omega) (by have := idxL_len (n := j) (p := fun i => bitS s i ∧ lacksL d (less1 (bitS s) i) ≠ []); simp only [maxLen]; omega) (by rw [idxL_yes (p := fun i => bitS s i ∧ lacksL d (less1 (bitS s) i) ≠ []) (show bitS s j ∧ lacksL d (less1 (bitS s) j) ≠ [] from ⟨bit_iff.1 hg21, fun q => by rw [hlk, q] at hg30; simp at hg30⟩)]; simp) (by simp) rfl fun a17 c18 => ?_
 try dsimp only
 refine rS (AG rfl) <| r_nil <| k_block <| KK hK9 <| w_region <| rS (BI rfl (b_add ⟨by omega, by omega⟩)) <| rS (MV rfl) <| r_nil ?_
 have hb19 : (Value.int .i64 (((j + 1) : Nat) : Int)) = (Value.int .i64 (((j : Nat) : Int) + 1)) := by exact congrArg (Value.int .i64) (by omega)
 refine k_then (hJ5 ⟨((j + 1), a17, c18), (by first | omega | (simp only []; omega))⟩ _ _ _ rfl (by first | omega | (simp; omega)) (Sub.cons rfl <| Sub.cons rfl <| Sub.cons rfl <| Sub.cons rfl <| Sub.cons rfl <| sub_val rfl hb19 <| Sub.nil _) (fun w hs => St.sel [2, 3, 4, 5, 6, 7, 8] rfl rfl hs))
set_option maxRecDepth 100000 in
set_option maxHeartbeats 400000 in
theorem wstrong_c (d : GuardM) (kA : Option Addr) (kC : Nat) (pA : Option Addr) (pC : Nat) (nA : Option Addr) (nC : Nat) (tz : List RA) (tA : Option Addr) (tC : Nat) (gw : Nat) (s : Nat) (hin : GuardIn d) (htr : trackOk d.Track = true) (hok : GuardOk d) (htz : tz.length = d.Posts.length) (hsb : s < 256) :
    FnV Try.prog 82 [(Value.pointer (some ⟨gw, 0, none⟩)), (Value.int .i64 ((s : Nat) : Int))] [(rd kA d.Track.length 9 (d.Track.map StretchV.cells)), (rd pA d.Posts.length 7 (d.Posts.map PostV.cells)), (rd nA d.Needs.length 3 (d.Needs.map NeedV.cells)), (rd tA ((timesL d).length) 1 (List.zipWith rowC (timesL d) tz)), (bun (nest rowR (timesL d) tz)), (blk gw 89 (WatchV.cells (WatchV.mk (GuardV.mk (TrackV.mk (Slc.mk kA d.Track.length kC)) (Slc.mk pA d.Posts.length pC) (Slc.mk nA d.Needs.length nC) d.Tower d.Radio) (Slc.mk tA ((timesL d).length) tC))))] (Value.bool (decide (StrongP d (bitS s)))) := by
 have hlen := hin.trk
 have hside := hin.side
 have hpl := hin.pst
 have hnl := hin.nds
 have hnk := hin.nk
 have hpk := hin.pk
 refine fnV_of go82 Try.func82 rfl rfl fun w0 Q hQ hN => ?_
 try dsimp only
 refine WS fun _ hK1 => rS (AG rfl) <| RK hK1 <| WS fun _ hK2 => rS (MV rfl) <| rS (MV rfl) <| cX (wlacks_c d kA kC pA pC nA nC tz tA tC gw s hin htr hok htz hsb) (ha_at 0 rfl rfl <| ha_at 1 rfl rfl <| ha_at 2 rfl rfl <| ha_at 3 rfl rfl <| ha_at 4 rfl rfl <| ha_at 5 rfl rfl <| ha_nil) rfl fun y3 hy4 => ?_
 obtain ⟨a5, c6⟩ := y3
 try dsimp only
 refine rS (LN rfl ut33) <| rS (BI rfl b_eql) <| rS (MV rfl) ?_
 refine r_bool (t := 10) rfl (fun hg10 => ?_) (fun hg10 => ?_)
 rotate_left 1
 · replace hg10 := DF hg10
   refine rS (OX rfl) <| rS (OX rfl) <| rS (OX rfl) <| rS (OX rfl) <| rS (OX rfl) <| rS (PK rfl) <| rS (AG rfl) <| RK hK2 <| w_ret <| Q1 hQ rfl rfl rfl ?_
   first | exact congrArg Value.bool (strong_one hg10) | exact congrArg Value.bool (strong_two hg10)
 replace hg10 := DT hg10
 refine rS (MV rfl) <| rS (MV rfl) <| cX (wweak_c d kA kC pA pC nA nC tz tA tC gw s hin htr hok htz hsb) (ha_at 1 rfl rfl <| ha_at 2 rfl rfl <| ha_at 3 rfl rfl <| ha_at 4 rfl rfl <| ha_at 5 rfl rfl <| ha_at 6 rfl rfl <| ha_nil) rfl fun y7 hy8 => ?_
 obtain ⟨a9, c10⟩ := y7
 try dsimp only
 refine rS (LN rfl ut33) <| rS (BI rfl b_eql) <| rS (PK rfl) <| rS (AG rfl) <| RK hK2 <| w_ret <| Q1 hQ rfl rfl rfl ?_
 first | exact congrArg Value.bool (strong_one hg10) | exact congrArg Value.bool (strong_two hg10)
end
section
open Go.RowKit
set_option linter.unusedVariables false
set_option maxRecDepth 100000 in
set_option maxHeartbeats 400000 in
theorem Called_c (d : GuardM) (kA : Option Addr) (kC : Nat) (pA : Option Addr) (pC : Nat) (nA : Option Addr) (nC : Nat) (l : List Int) (lA : Option Addr) (lC : Nat) (hin : GuardIn d) (hll : l.length ≤ 1000000) :
    FnX Try.prog 19 [(Value.agg (GuardV.cells (GuardV.mk (TrackV.mk (Slc.mk kA d.Track.length kC)) (Slc.mk pA d.Posts.length pC) (Slc.mk nA d.Needs.length nC) d.Tower d.Radio)).toArray), (Value.slice lA l.length lC)] [(rd kA d.Track.length 9 (d.Track.map StretchV.cells)), (rd pA d.Posts.length 7 (d.Posts.map PostV.cells)), (rd nA d.Needs.length 3 (d.Needs.map NeedV.cells)), (rd lA l.length 1 (l.map iC))] (fun (x : (Option Addr) × Nat) => (Value.tuple [(Value.slice x.1 ((calledV d l).length) x.2), (Value.int .i64 (mannedE d l))].toArray)) (fun (x : (Option Addr) × Nat) => True) (fun (x : (Option Addr) × Nat) => [(own x.1 x.2 3 1 ((calledV d l).map iC))]) := by
 have hlen := hin.trk
 have hside := hin.side
 have hpl := hin.pst
 have hnl := hin.nds
 have hnk := hin.nk
 have hpk := hin.pk
 refine fnX_of go19 Try.func19 rfl rfl fun w0 Q hQ hN => ?_
 try dsimp only
 refine WS fun _ hK1 => BXA rfl fun b2 => rS (AG rfl) <| rS (AG rfl) <| RK hK1 <| WS fun _ hK3 => rS (LW 0 rfl tk32 rfl rfl) <| rS (MV rfl) <| cX (manned_c d kA kC pA pC nA nC l lA lC hin hll) (ha_at 1 rfl rfl <| ha_at 2 rfl rfl <| ha_at 3 rfl rfl <| ha_at 4 rfl rfl <| ha_nil) rfl fun y4 hy5 => ?_
 obtain ⟨ok11, ec6, gw7, tA8, tC9, tz10⟩ := y4
 cases ok11
 · obtain ⟨hec, he⟩ := hy5.2 rfl
   try dsimp only at hec he
   subst hec
   try dsimp only [cond_true, cond_false, List.cons_append, List.nil_append]
   refine rS (MV rfl) <| rS (EX rfl) <| rS (EX rfl) <| rS (EX rfl) <| rS (AG rfl) <| rS (AG rfl) <| rS (AG rfl) <| RK hK3 <| w_seq fun _ hK12 => WS fun _ hK13 => ?_
   refine rS (MV rfl) <| rS (BI rfl b_neq) <| RK hK13 ?_
   refine w_if rfl (fun hg17 => ?_) (fun hg17 => ?_)
   rotate_left 1
   · replace hg17 := XF hg17
     exact absurd hg17 he
   replace hg17 := XT hg17
   refine WS fun _ hK14 => r_own_nil 3 1 ?_
   rw [show (own none 0 3 1 ([] : List (List Value))) = own none 0 3 1 ((calledV d l).map iC) from by rw [calledV_no he]; rfl]
   refine rS (MV rfl) <| rS (AG rfl) <| rS (AG rfl) <| RK hK14 <| w_ret ?_
   refine hQ _ _ _ (l_nil (vs := [(Value.slice none 0 0), (Value.int .i64 (mannedE d l))]) ⟨rfl, rfl, trivial⟩ fun w hs => endX (none, 0) [0] ?_ ?_ rfl rfl rfl hs)
   · first | rfl | (rw [calledV_no he]; rfl) | (rw [he]; rfl)
   · trivial
 obtain ⟨he, htz⟩ := hy5.1 rfl
 try dsimp only [cond_true, cond_false, List.cons_append, List.nil_append]
 obtain ⟨hg0, hem⟩ := manned_zero he
 obtain ⟨htr, hok⟩ := guardE_zero hg0
 have hn8 := hok.len
 have hsb := setAll_b (l := l) hn8.1
 have hbit := fun k (hk : k < d.Posts.length) => setAll_bit hn8.1 (l := l) (fun x hx => by have := empty_mem hem x hx; omega) hk
 refine rS (MV rfl) <| rS (EX rfl) <| rS (EX rfl) <| rS (EX rfl) <| rS (AG rfl) <| rS (AG rfl) <| rS (AG rfl) <| RK hK3 <| w_seq fun _ hK15 => WS fun _ hK16 => ?_
 refine rS (MV rfl) <| rS (SX (sd_bin (r := .bool false) rfl rfl rfl b_neq) rfl rfl) <| RK hK16 <| w_if_false rfl <| WK hK15 <| WS fun _ hK17 => rS (MV rfl) <| rS (MV rfl) <| cX (wcalled_c d kA kC pA pC nA nC tA8 ((timesL d).length) tC9 gw7 (setAll d.Posts.length l) hin (by first | assumption | omega | (simp; done) | (simp; omega)) (by first | assumption | omega | (simp; done) | (simp; omega)) (by first | assumption | omega | (simp; done) | (simp; omega))) (ha_at 4 rfl rfl <| ha_at 5 rfl rfl <| ha_at 6 rfl rfl <| ha_at 0 rfl rfl <| ha_nil) rfl fun y18 hy19 => ?_
 obtain ⟨a20, c21⟩ := y18
 try dsimp only
 rw [show calledL d (bitS (setAll d.Posts.length l)) = calledV d l from by rw [calledV_ok he]; exact called_congr hbit]
 refine rS (AG rfl) <| rS (AG rfl) <| RK hK17 <| w_ret ?_
 refine hQ _ _ _ (l_nil (vs := [(Value.slice a20 ((calledV d l).length) c21), (Value.int .i64 0)]) ⟨rfl, rfl, trivial⟩ fun w hs => endX (a20, c21) [0] ?_ ?_ rfl rfl rfl hs)
 · first | rfl | (rw [calledV_no he]; rfl) | (rw [he]; rfl)
 · trivial
set_option maxRecDepth 100000 in
set_option maxHeartbeats 400000 in
theorem Meets_c (d : GuardM) (kA : Option Addr) (kC : Nat) (pA : Option Addr) (pC : Nat) (nA : Option Addr) (nC : Nat) (nd : Int) (l : List Int) (lA : Option Addr) (lC : Nat) (hin : GuardIn d) (hll : l.length ≤ 1000000) :
    FnX Try.prog 21 [(Value.agg (GuardV.cells (GuardV.mk (TrackV.mk (Slc.mk kA d.Track.length kC)) (Slc.mk pA d.Posts.length pC) (Slc.mk nA d.Needs.length nC) d.Tower d.Radio)).toArray), (Value.int .i64 nd), (Value.slice lA l.length lC)] [(rd kA d.Track.length 9 (d.Track.map StretchV.cells)), (rd pA d.Posts.length 7 (d.Posts.map PostV.cells)), (rd nA d.Needs.length 3 (d.Needs.map NeedV.cells)), (rd lA l.length 1 (l.map iC))] (fun (x : (Option Addr) × Nat) => (Value.tuple [(Value.slice x.1 ((meetsV d nd l).length) x.2), (Value.int .i64 (meetsE d nd l))].toArray)) (fun (x : (Option Addr) × Nat) => True) (fun (x : (Option Addr) × Nat) => [(own x.1 x.2 3 1 ((meetsV d nd l).map iC))]) := by
 have hlen := hin.trk
 have hside := hin.side
 have hpl := hin.pst
 have hnl := hin.nds
 have hnk := hin.nk
 have hpk := hin.pk
 refine fnX_of go21 Try.func21 rfl rfl fun w0 Q hQ hN => ?_
 try dsimp only
 refine WS fun _ hK1 => BXA rfl fun b2 => rS (AG rfl) <| rS (AG rfl) <| RK hK1 <| WS fun _ hK3 => rS (LW 0 rfl tk32 rfl rfl) <| rS (MV rfl) <| cX (manned_c d kA kC pA pC nA nC l lA lC hin hll) (ha_at 1 rfl rfl <| ha_at 2 rfl rfl <| ha_at 3 rfl rfl <| ha_at 4 rfl rfl <| ha_nil) rfl fun y4 hy5 => ?_
 obtain ⟨ok11, ec6, gw7, tA8, tC9, tz10⟩ := y4
 cases ok11
 · obtain ⟨hec, he⟩ := hy5.2 rfl
   try dsimp only at hec he
   subst hec
   try dsimp only [cond_true, cond_false, List.cons_append, List.nil_append]
   refine rS (MV rfl) <| rS (EX rfl) <| rS (EX rfl) <| rS (EX rfl) <| rS (AG rfl) <| rS (AG rfl) <| rS (AG rfl) <| RK hK3 <| w_seq fun _ hK12 => WS fun _ hK13 => ?_
   refine rS (MV rfl) <| rS (BI rfl b_neq) <| RK hK13 ?_
   refine w_if rfl (fun hg19 => ?_) (fun hg19 => ?_)
   rotate_left 1
   · replace hg19 := XF hg19
     exact absurd hg19 he
   replace hg19 := XT hg19
   refine WS fun _ hK14 => rS (MV rfl) ?_
   obtain ⟨hme, hme2⟩ := meetsE_bad (nd := nd) he
   refine r_own_nil 3 1 ?_
   rw [show (own none 0 3 1 ([] : List (List Value))) = own none 0 3 1 ((meetsV d nd l).map iC) from by rw [meetsV_no hme]; rfl]
   refine rS (AG rfl) <| rS (AG rfl) <| RK hK14 <| w_ret ?_
   refine hQ _ _ _ (l_nil (vs := [(Value.slice none 0 0), (Value.int .i64 (mannedE d l))]) ⟨rfl, rfl, trivial⟩ fun w hs => endX (none, 0) [0] ?_ ?_ rfl rfl rfl hs)
   · first | (rw [hmi.1] <;> rfl) | (rw [meetsV_no hme, hme2] <;> rfl)
   · trivial
 obtain ⟨he, htz⟩ := hy5.1 rfl
 try dsimp only [cond_true, cond_false, List.cons_append, List.nil_append]
 obtain ⟨hg0, hem⟩ := manned_zero he
 obtain ⟨htr, hok⟩ := guardE_zero hg0
 have hn8 := hok.len
 have hsb := setAll_b (l := l) hn8.1
 have hbit := fun k (hk : k < d.Posts.length) => setAll_bit hn8.1 (l := l) (fun x hx => by have := empty_mem hem x hx; omega) hk
 refine rS (MV rfl) <| rS (EX rfl) <| rS (EX rfl) <| rS (EX rfl) <| rS (AG rfl) <| rS (AG rfl) <| rS (AG rfl) <| RK hK3 <| w_seq fun _ hK15 => WS fun _ hK16 => ?_
 refine rS (MV rfl) <| rS (SX (sd_bin (r := .bool false) rfl rfl rfl b_neq) rfl rfl) <| RK hK16 <| w_if_false rfl <| WK hK15 <| w_seq fun _ hK17 => WS fun _ hK18 => rS (FA 2 rfl fo32_2 rfl) <| rS (L1 (Value.slice nA d.Needs.length nC) 3 rfl tk26 rfl rfl) <| rS (LN rfl ut26) ?_
 refine rS (BI rfl (b_sub ⟨by omega, by omega⟩)) <| rS (MV rfl) <| r_bs (xs := [.tmp 25]) (cs := [(Value.int .i64 nd)]) rfl te33 tz3 rfl rfl rfl rfl (by simp [Value.cells]) rfl rfl fun b19 => rS (CL (FnV.eq (in_post 0 (((d.Needs.length : Nat) : Int) - 1) ([nd]) (some ⟨b19, 0, none⟩) 1 (by first | assumption | omega | (simp; done) | (simp; omega))) inAll_one) (ha_cons (has_rd_blk 0 rfl rfl (by simp [iC_length]) rfl) <| ha_nil) rfl) <| rS (NT rfl) <| RK hK18 ?_
 refine w_if rfl (fun hg28 => ?_) (fun hg28 => ?_)
 · replace hg28 := XT hg28
   refine WS fun _ hK20 => ?_
   obtain ⟨hme, hme2⟩ := meetsE_out (nd := nd) he (by omega)
   refine r_own_nil 3 1 ?_
   rw [show (own none 0 3 1 ([] : List (List Value))) = own none 0 3 1 ((meetsV d nd l).map iC) from by rw [meetsV_no hme]; rfl]
   refine rS (AG rfl) <| rS (AG rfl) <| RK hK20 <| w_ret ?_
   refine hQ _ _ _ (l_nil (vs := [(Value.slice none 0 0), (Value.int .i64 2)]) ⟨rfl, rfl, trivial⟩ fun w hs => endX (none, 0) [0] ?_ ?_ rfl rfl rfl hs)
   · first | (rw [hmi.1] <;> rfl) | (rw [meetsV_no hme, hme2] <;> rfl)
   · trivial
 replace hg28 := XF hg28
 refine WK hK17 <| w_seq fun _ hK21 => w_draw4 mixed [0, 1, 2, 3, 4, 5, 6, 7, 11] [8, 9, 10] [false, false, false, false, false, false, false, false, false] [false, false, false] [(blk b19 3 [(Value.int .i64 nd)]), (blk gw7 89 (WatchV.cells (WatchV.mk (GuardV.mk (TrackV.mk (Slc.mk kA d.Track.length kC)) (Slc.mk pA d.Posts.length pC) (Slc.mk nA d.Needs.length nC) d.Tower d.Radio) (Slc.mk tA8 ((timesL d).length) tC9)))), (own tA8 tC9 33 1 (List.zipWith rowC (timesL d) tz10)), (bund (nest rowO (timesL d) tz10)), (blk b2 32 (GuardV.cells (GuardV.mk (TrackV.mk (Slc.mk kA d.Track.length kC)) (Slc.mk pA d.Posts.length pC) (Slc.mk nA d.Needs.length nC) d.Tower d.Radio))), (rd kA d.Track.length 9 (d.Track.map StretchV.cells)).ro, (rd pA d.Posts.length 7 (d.Posts.map PostV.cells)).ro, (rd nA d.Needs.length 3 (d.Needs.map NeedV.cells)).ro, (rd lA l.length 1 (l.map iC)).ro] [] (by kernel_rfl) (fun w hs => St.sel [0, 1, 2, 3, 4, 5, 6, 7, 8] rfl rfl hs) (fun w hs => St.sel [] rfl rfl hs) <| eS rfl (MV rfl) <| eS rfl (FA 2 rfl fo32_2 rfl) <| eS rfl (L1 (Value.slice nA d.Needs.length nC) 4 rfl tk26 rfl rfl) <| eS rfl (MV rfl) ?_
 obtain ⟨n, hn⟩ : ∃ y_, d.Needs[(nd).toNat]? = some y_ := ⟨d.Needs[(nd).toNat]'(by omega), List.getElem?_eq_getElem _⟩
 have hnm : (d.Needs.map NeedV.cells)[(nd).toNat]? = some (NeedV.cells n) := by rw [List.getElem?_map, hn]; rfl
 refine eS rfl (IA ((nd).toNat) rfl (has_at 7 rfl) te26 (by decide) (by omega) (by omega)) <| eS rfl (LEN ((nd).toNat) 0 (NeedV.cells n) rfl tk57 (has_at 7 rfl) hnm rfl (by decide) rfl rfl) ?_
 have hno := hok.need n (List.mem_of_getElem? hn)
 have hmi := meetsE_in he (by omega) hn
 refine eS rfl (MV rfl) <| eS rfl (MV rfl) <| eS rfl (AG rfl) <| d_fin rfl <| t_cons rfl fun T22 hT22 => cX (wcalled_c d kA kC pA pC nA nC tA8 ((timesL d).length) tC9 gw7 (setAll d.Posts.length l) hin (by first | assumption | omega | (simp; done) | (simp; omega)) (by first | assumption | omega | (simp; done) | (simp; omega)) (by first | assumption | omega | (simp; done) | (simp; omega))) (ha_at 5 rfl rfl <| ha_at 6 rfl rfl <| ha_at 7 rfl rfl <| ha_at 1 rfl rfl <| ha_nil) rfl fun y23 hy24 => ?_
 obtain ⟨a25, c26⟩ := y23
 try dsimp only
 refine RN hT22 [1, 2, 3, 4, 5, 6, 7, 8, 9] rfl rfl <| t_cons rfl fun T27 hT27 => cX (wmeets_c d kA kC pA pC nA nC tz10 tA8 tC9 gw7 n (calledL d (bitS (setAll d.Posts.length l))) a25 c26 hin (by first | assumption | omega | (simp; done) | (simp; omega)) (by first | assumption | omega | (simp; done) | (simp; omega)) (by first | assumption | omega | (simp; done) | (simp; omega)) (by exact hno) (by exact called_mem) (by exact Nat.le_trans called_len (by omega))) (ha_at 6 rfl rfl <| ha_at 7 rfl rfl <| ha_at 8 rfl rfl <| ha_cons (has_own_n (n := (timesL d).length) 3 rfl (rows_len (by rw [timesL_len]; exact htz))) <| ha_cons (bun_bund 4 rfl rowO_R) <| ha_at 2 rfl rfl <| ha_cons (has_own_n (n := (calledL d (bitS (setAll d.Posts.length l))).length) 0 rfl (by simp)) <| ha_nil) rfl fun y28 hy29 => ?_
 obtain ⟨a30, c31⟩ := y28
 try dsimp only
 refine RN hT27 [2, 3, 4, 5, 6, 7, 8, 9, 10] rfl rfl <| t_cons rfl fun T32 hT32 => ?_
 rw [meets_filter, show meetsL d n (bitS (setAll d.Posts.length l)) = meetsV d nd l from by rw [hmi.2]; exact meets_congr hbit]
 refine rS (AG rfl) <| RN hT32 [2, 3, 4, 5, 6, 7, 8, 9, 10] rfl rfl <| t_fin rfl <| KK hK21 <| w_ret ?_
 refine hQ _ _ _ (l_nil (vs := [(Value.slice a30 ((meetsV d nd l).length) c31), (Value.int .i64 0)]) ⟨rfl, rfl, trivial⟩ fun w hs => endX (a30, c31) [0] ?_ ?_ rfl rfl rfl hs)
 · first | (rw [hmi.1] <;> rfl) | (rw [meetsV_no hme, hme2] <;> rfl)
 · trivial
set_option maxRecDepth 100000 in
set_option maxHeartbeats 400000 in
theorem Weak_c (d : GuardM) (kA : Option Addr) (kC : Nat) (pA : Option Addr) (pC : Nat) (nA : Option Addr) (nC : Nat) (hin : GuardIn d) :
    FnX Try.prog 29 [(Value.agg (GuardV.cells (GuardV.mk (TrackV.mk (Slc.mk kA d.Track.length kC)) (Slc.mk pA d.Posts.length pC) (Slc.mk nA d.Needs.length nC) d.Tower d.Radio)).toArray)] [(rd kA d.Track.length 9 (d.Track.map StretchV.cells)), (rd pA d.Posts.length 7 (d.Posts.map PostV.cells)), (rd nA d.Needs.length 3 (d.Needs.map NeedV.cells))] (fun (x : (Option Addr) × Nat) => (Value.tuple [(Value.slice x.1 ((weakV d).length) x.2), (Value.int .i64 (weakE d))].toArray)) (fun (x : (Option Addr) × Nat) => True) (fun (x : (Option Addr) × Nat) => [(own x.1 x.2 3 1 ((weakV d).map iC))]) := by
 have hlen := hin.trk
 have hside := hin.side
 have hpl := hin.pst
 have hnl := hin.nds
 have hnk := hin.nk
 have hpk := hin.pk
 refine fnX_of go29 Try.func29 rfl rfl fun w0 Q hQ hN => ?_
 try dsimp only
 refine WS fun _ hK1 => BXA rfl fun b2 => rS (AG rfl) <| rS (AG rfl) <| RK hK1 <| WS fun _ hK3 => rS (LW 0 rfl tk32 rfl rfl) <| cX (popen_c d kA kC pA pC nA nC hin) (ha3 1 2 3 rfl rfl rfl rfl rfl rfl) rfl fun y4 hy5 => ?_
 obtain ⟨ok11, ec6, gw7, tA8, tC9, tz10⟩ := y4
 cases ok11
 · obtain ⟨hec, he⟩ := hy5.2 rfl
   try dsimp only at hec he
   subst hec
   try dsimp only [cond_true, cond_false, List.cons_append, List.nil_append]
   refine rS (MV rfl) <| rS (EX rfl) <| rS (EX rfl) <| rS (AG rfl) <| rS (AG rfl) <| RK hK3 <| w_seq fun _ hK12 => WS fun _ hK13 => rS (MV rfl) <| rS (BI rfl b_neq) ?_
   refine RK hK13 ?_
   refine w_if rfl (fun hg12 => ?_) (fun hg12 => ?_)
   rotate_left 1
   · replace hg12 := XF hg12
     exact absurd hg12 he
   replace hg12 := XT hg12
   refine WS fun _ hK14 => rS (MV rfl) ?_
   obtain ⟨hwe, hwv⟩ := weak_bad he
   refine r_own_nil 3 1 ?_
   rw [show (own none 0 3 1 ([] : List (List Value))) = own none 0 3 1 ((weakV d).map iC) from by rw [hwv]; rfl]
   refine rS (AG rfl) <| rS (AG rfl) <| RK hK14 <| w_ret ?_
   refine hQ _ _ _ (l_nil (vs := [(Value.slice none 0 0), (Value.int .i64 (guardE d))]) ⟨rfl, rfl, trivial⟩ fun w hs => endX (none, 0) [0] ?_ ?_ rfl rfl rfl hs)
   · first | (rw [hwv, hwe] <;> rfl) | (rw [(weak_in he (by rw [← hlf]; exact List.eq_nil_of_length_eq_zero (by omega))).1] <;> rfl)
   · trivial
 obtain ⟨he, htz⟩ := hy5.1 rfl
 try dsimp only [cond_true, cond_false, List.cons_append, List.nil_append]
 obtain ⟨htr, hok⟩ := guardE_zero he
 have hn8 := hok.len
 have hsb := setAll_b (l := []) hn8.1
 have hbit : ∀ k, k < d.Posts.length → ((bitS (setAll d.Posts.length [])) k ↔ allS k) := fun k hk => by rw [setAll_bit hn8.1 (l := []) (by simp) hk]; simp [allS]
 have hlf : lacksL d (bitS (setAll d.Posts.length [])) = lacksL d allS := lacks_congr hbit
 refine rS (MV rfl) <| rS (EX rfl) <| rS (EX rfl) <| rS (AG rfl) <| rS (AG rfl) <| RK hK3 <| w_seq fun _ hK15 => WS fun _ hK16 => rS (MV rfl) <| rS (SX (sd_bin (r := .bool false) rfl rfl rfl b_neq) rfl rfl) ?_
 refine RK hK16 <| w_if_false rfl <| WK hK15 <| w_seq fun _ hK17 => WS fun _ hK18 => rS (MV rfl) <| rS (MV rfl) <| rS (CL (all_c d kA kC pA pC nA nC tA8 ((timesL d).length) tC9 gw7 ([]) none 0 (by first | assumption | omega | (simp; done) | (simp; omega)) (by first | assumption | omega | (simp; done) | (simp; omega)) (by first | assumption | omega | (simp; done) | (simp; omega))) (ha_at 4 rfl rfl <| ha_at 5 rfl rfl <| ha_at 6 rfl rfl <| ha_at 0 rfl rfl <| ha_cons (rd_nil _ _) <| ha_nil) rfl) <| cX (wlacks_c d kA kC pA pC nA nC tz10 tA8 tC9 gw7 (setAll d.Posts.length ([])) hin (by first | assumption | omega | (simp; done) | (simp; omega)) (by first | assumption | omega | (simp; done) | (simp; omega)) (by first | assumption | omega | (simp; done) | (simp; omega)) (by first | assumption | omega | (simp; done) | (simp; omega))) (ha_at 4 rfl rfl <| ha_at 5 rfl rfl <| ha_at 6 rfl rfl <| ha_cons (has_own_n (n := (timesL d).length) 1 rfl (rows_len (by rw [timesL_len]; exact htz))) <| ha_cons (bun_bund 2 rfl rowO_R) <| ha_at 0 rfl rfl <| ha_nil) rfl fun y19 hy20 => ?_
 obtain ⟨a21, c22⟩ := y19
 try dsimp only
 refine rS (LN rfl ut33) <| rS (BI rfl b_gtr) <| RK hK18 ?_
 refine w_if rfl (fun hg19 => ?_) (fun hg19 => ?_)
 · replace hg19 := DT hg19
   refine WS fun _ hK23 => ?_
   obtain ⟨hwe, hwv⟩ := weak_none he (fun q => by rw [hlf, q] at hg19; simp at hg19)
   refine r_own_nil 3 1 ?_
   rw [show (own none 0 3 1 ([] : List (List Value))) = own none 0 3 1 ((weakV d).map iC) from by rw [hwv]; rfl]
   refine rS (AG rfl) <| rS (AG rfl) <| RK hK23 <| w_ret ?_
   refine hQ _ _ _ (l_nil (vs := [(Value.slice none 0 0), (Value.int .i64 6)]) ⟨rfl, rfl, trivial⟩ fun w hs => endX (none, 0) [0] ?_ ?_ rfl rfl rfl hs)
   · first | (rw [hwv, hwe] <;> rfl) | (rw [(weak_in he (by rw [← hlf]; exact List.eq_nil_of_length_eq_zero (by omega))).1] <;> rfl)
   · trivial
 replace hg19 := DF hg19
 refine WK hK17 <| WS fun _ hK24 => rS (MV rfl) <| rS (MV rfl) <| rS (CL (all_c d kA kC pA pC nA nC tA8 ((timesL d).length) tC9 gw7 ([]) none 0 (by first | assumption | omega | (simp; done) | (simp; omega)) (by first | assumption | omega | (simp; done) | (simp; omega)) (by first | assumption | omega | (simp; done) | (simp; omega))) (ha_at 5 rfl rfl <| ha_at 6 rfl rfl <| ha_at 7 rfl rfl <| ha_at 1 rfl rfl <| ha_cons (rd_nil _ _) <| ha_nil) rfl) <| cX (wweak_c d kA kC pA pC nA nC tz10 tA8 tC9 gw7 (setAll d.Posts.length ([])) hin (by first | assumption | omega | (simp; done) | (simp; omega)) (by first | assumption | omega | (simp; done) | (simp; omega)) (by first | assumption | omega | (simp; done) | (simp; omega)) (by first | assumption | omega | (simp; done) | (simp; omega))) (ha_at 5 rfl rfl <| ha_at 6 rfl rfl <| ha_at 7 rfl rfl <| ha_cons (has_own_n (n := (timesL d).length) 2 rfl (rows_len (by rw [timesL_len]; exact htz))) <| ha_cons (bun_bund 3 rfl rowO_R) <| ha_at 1 rfl rfl <| ha_nil) rfl fun y25 hy26 => ?_
 obtain ⟨a27, c28⟩ := y25
 try dsimp only
 refine rS (AG rfl) ?_
 rw [show weakL d (bitS (setAll d.Posts.length [])) = weakV d from by rw [(weak_in he (by rw [← hlf]; exact List.eq_nil_of_length_eq_zero (by omega))).2]; exact weak_congr hbit]
 refine rS (AG rfl) <| RK hK24 <| w_ret ?_
 refine hQ _ _ _ (l_nil (vs := [(Value.slice a27 ((weakV d).length) c28), (Value.int .i64 0)]) ⟨rfl, rfl, trivial⟩ fun w hs => endX (a27, c28) [0] ?_ ?_ rfl rfl rfl hs)
 · first | (rw [hwv, hwe] <;> rfl) | (rw [(weak_in he (by rw [← hlf]; exact List.eq_nil_of_length_eq_zero (by omega))).1] <;> rfl)
 · trivial
set_option maxRecDepth 100000 in
set_option maxHeartbeats 400000 in
theorem Spare_c (d : GuardM) (kA : Option Addr) (kC : Nat) (pA : Option Addr) (pC : Nat) (nA : Option Addr) (nC : Nat) (hin : GuardIn d) :
    FnX Try.prog 37 [(Value.agg (GuardV.cells (GuardV.mk (TrackV.mk (Slc.mk kA d.Track.length kC)) (Slc.mk pA d.Posts.length pC) (Slc.mk nA d.Needs.length nC) d.Tower d.Radio)).toArray)] [(rd kA d.Track.length 9 (d.Track.map StretchV.cells)), (rd pA d.Posts.length 7 (d.Posts.map PostV.cells)), (rd nA d.Needs.length 3 (d.Needs.map NeedV.cells))] (fun (x : (Option Addr) × Nat) => (Value.tuple [(Value.slice x.1 ((spareV d).length) x.2), (Value.int .i64 (guardE d))].toArray)) (fun (x : (Option Addr) × Nat) => True) (fun (x : (Option Addr) × Nat) => [(own x.1 x.2 3 1 ((spareV d).map iC))]) := by
 have hlen := hin.trk
 have hside := hin.side
 have hpl := hin.pst
 have hnl := hin.nds
 have hnk := hin.nk
 have hpk := hin.pk
 refine fnX_of go37 Try.func37 rfl rfl fun w0 Q hQ hN => ?_
 try dsimp only
 refine WS fun _ hK1 => BXA rfl fun b2 => rS (AG rfl) <| rS (AG rfl) <| RK hK1 <| WS fun _ hK3 => rS (LW 0 rfl tk32 rfl rfl) <| cX (popen_c d kA kC pA pC nA nC hin) (ha3 1 2 3 rfl rfl rfl rfl rfl rfl) rfl fun y4 hy5 => ?_
 obtain ⟨ok11, ec6, gw7, tA8, tC9, tz10⟩ := y4
 cases ok11
 · obtain ⟨hec, he⟩ := hy5.2 rfl
   try dsimp only at hec he
   subst hec
   try dsimp only [cond_true, cond_false, List.cons_append, List.nil_append]
   refine rS (MV rfl) <| rS (EX rfl) <| rS (EX rfl) <| rS (AG rfl) <| rS (AG rfl) <| RK hK3 <| w_seq fun _ hK12 => WS fun _ hK13 => rS (MV rfl) <| rS (BI rfl b_neq) ?_
   refine RK hK13 ?_
   refine w_if rfl (fun hg14 => ?_) (fun hg14 => ?_)
   rotate_left 1
   · replace hg14 := XF hg14
     exact absurd hg14 he
   replace hg14 := XT hg14
   refine WS fun _ hK14 => rS (MV rfl) <| r_own_nil 3 1 ?_
   rw [show (own none 0 3 1 ([] : List (List Value))) = own none 0 3 1 ((spareV d).map iC) from by rw [spareV_no he]; rfl]
   refine rS (AG rfl) <| rS (AG rfl) <| RK hK14 <| w_ret ?_
   refine hQ _ _ _ (l_nil (vs := [(Value.slice none 0 0), (Value.int .i64 (guardE d))]) ⟨rfl, rfl, trivial⟩ fun w hs => endX (none, 0) [0] ?_ ?_ rfl rfl rfl hs)
   · first | (rw [spareV_no he] <;> rfl) | (rw [he] <;> rfl)
   · trivial
 obtain ⟨he, htz⟩ := hy5.1 rfl
 try dsimp only [cond_true, cond_false, List.cons_append, List.nil_append]
 obtain ⟨htr, hok⟩ := guardE_zero he
 have hn8 := hok.len
 refine rS (MV rfl) <| rS (EX rfl) <| rS (EX rfl) <| rS (AG rfl) <| rS (AG rfl) <| RK hK3 <| w_seq fun _ hK15 => WS fun _ hK16 => rS (MV rfl) <| rS (SX (sd_bin (r := .bool false) rfl rfl rfl b_neq) rfl rfl) ?_
 refine RK hK16 <| w_if_false rfl <| WK hK15 <| WS fun _ hK17 => rS (AG rfl) <| RK hK17 <| w_seq fun _ hK18 => WS fun _ hK19 => rS (FA 1 rfl fo32_1 rfl) <| rS (L1 (Value.slice pA d.Posts.length pC) 3 rfl tk25 rfl rfl) ?_
 refine rS (LN rfl ut25) <| rS (MV rfl) <| RK hK19 <| w_block <| w_own_nil 3 1 ?_
 have hinit : (0 ≤ d.Posts.length) := by exact Nat.zero_le _
 refine w_loop (ι := { z : Nat × (Option Addr) × Nat // (z.1 ≤ d.Posts.length) }) (fun z => [(1, (Value.pointer (some ⟨b2, 0, none⟩))), (2, (Value.slice none 0 0)), (3, (Value.int .i64 0)), (4, (Value.pointer (some ⟨gw7, 0, none⟩))), (6, (Value.slice z.1.2.1 ((idxL z.1.1 (fun i => StrongP d (less1 allS i))).length) z.1.2.2)), (17, (Value.slice pA d.Posts.length pC)), (18, (Value.int .i64 ((d.Posts.length : Nat) : Int))), (19, (Value.int .i64 ((z.1.1 : Nat) : Int)))]) (fun z => [(own z.1.2.1 z.1.2.2 3 1 ((idxL z.1.1 (fun i => StrongP d (less1 allS i))).map iC)), (blk gw7 89 (WatchV.cells (WatchV.mk (GuardV.mk (TrackV.mk (Slc.mk kA d.Track.length kC)) (Slc.mk pA d.Posts.length pC) (Slc.mk nA d.Needs.length nC) d.Tower d.Radio) (Slc.mk tA8 ((timesL d).length) tC9)))), (own tA8 tC9 33 1 (List.zipWith rowC (timesL d) tz10)), (bund (nest rowO (timesL d) tz10)), (blk b2 32 (GuardV.cells (GuardV.mk (TrackV.mk (Slc.mk kA d.Track.length kC)) (Slc.mk pA d.Posts.length pC) (Slc.mk nA d.Needs.length nC) d.Tower d.Radio))), (rd kA d.Track.length 9 (d.Track.map StretchV.cells)).ro, (rd pA d.Posts.length 7 (d.Posts.map PostV.cells)).ro, (rd nA d.Needs.length 3 (d.Needs.map NeedV.cells)).ro]) (fun z => d.Posts.length - z.1.1) ⟨(0, none, 0), hinit⟩ (Sub.cons rfl <| Sub.cons rfl <| Sub.cons rfl <| Sub.cons rfl <| Sub.cons rfl <| Sub.cons rfl <| Sub.cons rfl <| Sub.cons rfl <| Sub.nil _) (fun w hs => St.sel [0, 1, 2, 3, 4, 5, 6, 7] rfl rfl hs) ?_
 clear hinit
 rintro ⟨⟨j, la, lc⟩, hl6_0⟩ J20 hJ20
 try dsimp only at hl6_0
 try dsimp only
 refine WS fun _ hK21 => rS (BI rfl b_lss) <| RK hK21 <| w_seq fun _ hK22 => ?_
 refine w_if rfl (fun h23 => ?_) (fun h23 => ?_)
 rotate_left 1
 · replace h23 := DF h23
   refine w_exit <| k_exit_then <| k_exit_then <| k_exit_same <| KK hK18 <| WS fun _ hK33 => ?_
   rw [show idxL j (fun i => StrongP d (less1 allS i)) = spareV d from by rw [spareV_ok he, show j = d.Posts.length by omega]]
   refine rS (MV rfl) <| rS (AG rfl) <| rS (AG rfl) <| RK hK33 <| w_ret ?_
   refine hQ _ _ _ (l_nil (vs := [(Value.slice la ((spareV d).length) lc), (Value.int .i64 0)]) ⟨rfl, rfl, trivial⟩ fun w hs => endX (la, lc) [0] ?_ ?_ rfl rfl rfl hs)
   · first | (rw [spareV_no he] <;> rfl) | (rw [he] <;> rfl)
   · trivial
 replace h23 := DT h23
 refine WK hK22 <| w_seq fun _ hK24 => w_block <| WS fun _ hK25 => rS (MV rfl) <| rS (AG rfl) <| RK hK25 <| WS fun _ hK26 => rS (MV rfl) <| rS (MV rfl) ?_
 refine rS (MV rfl) <| r_bs (xs := [.tmp 24]) (cs := [(Value.int .i64 ((j : Nat) : Int))]) rfl te33 tz3 rfl rfl rfl rfl (by simp [Value.cells]) rfl rfl fun b27 => rS (CL (all_c d kA kC pA pC nA nC tA8 ((timesL d).length) tC9 gw7 ([((j : Nat) : Int)]) (some ⟨b27, 0, none⟩) 1 (by omega) (by intro x hx; simp only [List.mem_singleton] at hx; omega) (by simp)) (ha_at 6 rfl rfl <| ha_at 7 rfl rfl <| ha_at 8 rfl rfl <| ha_at 2 rfl rfl <| ha_cons (has_rd_blk 0 rfl rfl (by simp [iC_length]) rfl) <| ha_nil) rfl) <| rS (CL (wstrong_c d kA kC pA pC nA nC tz10 tA8 tC9 gw7 (setAll d.Posts.length ([((j : Nat) : Int)])) hin (by first | assumption | omega | (simp; done) | (simp; omega)) (by first | assumption | omega | (simp; done) | (simp; omega)) (by first | assumption | omega | (simp; done) | (simp; omega)) (by exact setAll_b hn8.1)) (ha_at 6 rfl rfl <| ha_at 7 rfl rfl <| ha_at 8 rfl rfl <| ha_cons (has_own_n (n := (timesL d).length) 3 rfl (rows_len (by rw [timesL_len]; exact htz))) <| ha_cons (bun_bund 4 rfl rowO_R) <| ha_at 2 rfl rfl <| ha_nil) rfl) <| RK hK26 ?_
 refine w_if rfl (fun hg27 => ?_) (fun hg27 => ?_)
 rotate_left 1
 · replace hg27 := DF hg27
   refine w_skip <| k_block <| KK hK24 <| w_region <| rS (BI rfl (b_add ⟨by omega, by omega⟩)) <| rS (MV rfl) <| r_nil ?_
   rw [show (idxL j (fun i => StrongP d (less1 allS i))) = (idxL (j + 1) (fun i => StrongP d (less1 allS i))) from (idxL_no (show ¬ StrongP d (less1 allS j) from fun q => hg27 ((spare_iff hn8.1 (by omega)).2 q))).symm]
   have hb32 : (Value.int .i64 (((j + 1) : Nat) : Int)) = (Value.int .i64 (((j : Nat) : Int) + 1)) := by exact congrArg (Value.int .i64) (by omega)
   refine k_then (hJ20 ⟨((j + 1), la, lc), (by first | omega | (simp only []; omega))⟩ _ _ _ rfl (by first | omega | (simp; omega)) (Sub.cons rfl <| Sub.cons rfl <| Sub.cons rfl <| Sub.cons rfl <| Sub.cons rfl <| Sub.cons rfl <| Sub.cons rfl <| sub_val rfl hb32 <| Sub.nil _) (fun w hs => St.sel [1, 2, 3, 4, 5, 6, 7, 8] rfl rfl hs))
 replace hg27 := DT hg27
 refine w_region <| rS (MV rfl) <| rS (MV rfl) <| r_bs (xs := [.tmp 29]) (cs := [(Value.int .i64 ((j : Nat) : Int))]) rfl te33 tz3 rfl rfl rfl rfl (by simp [Value.cells]) rfl rfl fun b28 => r_append (es2 := (List.map iC (idxL (j + 1) (fun i => StrongP d (less1 allS i))))) (m' := (idxL (j + 1) (fun i => StrongP d (less1 allS i))).length) 2 rfl rfl rfl ta33 rfl rfl (by simp) (has_rd_blk (es := List.map iC [((j : Nat) : Int)]) 0 rfl rfl (by simp [iC_length]) rfl) (one_iC _) (by have := idxL_len (n := j) (p := fun i => StrongP d (less1 allS i)); omega) (by have := idxL_len (n := j) (p := fun i => StrongP d (less1 allS i)); simp only [maxLen]; omega) (by rw [idxL_yes (p := fun i => StrongP d (less1 allS i)) (show StrongP d (less1 allS j) from (spare_iff hn8.1 (by omega)).1 hg27)]; simp) (by simp) rfl fun a29 c30 => ?_
 try dsimp only
 refine rS (AG rfl) <| r_nil <| k_block <| KK hK24 <| w_region <| rS (BI rfl (b_add ⟨by omega, by omega⟩)) <| rS (MV rfl) <| r_nil ?_
 have hb31 : (Value.int .i64 (((j + 1) : Nat) : Int)) = (Value.int .i64 (((j : Nat) : Int) + 1)) := by exact congrArg (Value.int .i64) (by omega)
 refine k_then (hJ20 ⟨((j + 1), a29, c30), (by first | omega | (simp only []; omega))⟩ _ _ _ rfl (by first | omega | (simp; omega)) (Sub.cons rfl <| Sub.cons rfl <| Sub.cons rfl <| Sub.cons rfl <| Sub.cons rfl <| Sub.cons rfl <| Sub.cons rfl <| sub_val rfl hb31 <| Sub.nil _) (fun w hs => St.sel [2, 3, 4, 5, 6, 7, 8, 9] rfl rfl hs))
end
section
open Go.RowKit
set_option linter.unusedVariables false
set_option maxRecDepth 100000 in
set_option maxHeartbeats 400000 in
theorem within_9 (n : Int) (lo : Int) (hi : Int) :
    FnV Try.prog 62 [(Value.int .i64 n), (Value.int .i64 lo), (Value.int .i64 hi)] [] (Value.bool (decide (lo ≤ n ∧ n ≤ hi))) := by
 refine fnV_of go62 Try.func62 rfl rfl fun w0 Q hQ hN => ?_
 try dsimp only
 refine WS fun _ hK1 => rS (AG rfl) <| RK hK1 <| WS fun _ hK2 => rS (MV rfl) <| rS (MV rfl) <| rS (BI rfl b_geq) <| rS (MV rfl) ?_
 refine r_bool (t := 10) rfl (fun h3 => ?_) (fun h3 => ?_)
 rotate_left 1
 · replace h3 := DF h3
   refine rS (OX rfl) <| rS (OX rfl) <| rS (OX rfl) <| rS (PK rfl) <| rS (AG rfl) <| RK hK2 <| w_ret <| Q1 hQ rfl rfl rfl ?_
   exact congrArg Value.bool (decide_eq_false (by omega)).symm
 replace h3 := DT h3
 refine rS (MV rfl) <| rS (MV rfl) <| rS (BI rfl b_leq) <| rS (PK rfl) <| rS (AG rfl) <| RK hK2 <| w_ret <| Q1 hQ rfl rfl rfl ?_
 exact congrArg Value.bool (decide_eq_decide.2 (by omega))
set_option maxRecDepth 100000 in
set_option maxHeartbeats 400000 in
theorem pgreat_c (d : GuardM) (kA : Option Addr) (kC : Nat) (pA : Option Addr) (pC : Nat) (nA : Option Addr) (nC : Nat) (hraw : GuardRaw d) :
    FnV Try.prog 13 [(Value.agg (GuardV.cells (GuardV.mk (TrackV.mk (Slc.mk kA d.Track.length kC)) (Slc.mk pA d.Posts.length pC) (Slc.mk nA d.Needs.length nC) d.Tower d.Radio)).toArray)] [(rd kA d.Track.length 9 (d.Track.map StretchV.cells)), (rd pA d.Posts.length 7 (d.Posts.map PostV.cells)), (rd nA d.Needs.length 3 (d.Needs.map NeedV.cells))] (Value.bool (decide (GreatG d))) := by
 have htk := hraw.trk
 have hps := hraw.pst
 have hnd := hraw.nds
 refine fnV_of go13 Try.func13 rfl rfl fun w0 Q hQ hN => ?_
 try dsimp only
 refine WS fun _ hK1 => BXA rfl fun b2 => rS (AG rfl) <| RK hK1 <| WS fun _ hK3 => rS (FA 0 rfl fo32_0 rfl) <| rS (LP (TrackV.cells (TrackV.mk (Slc.mk kA d.Track.length kC))) 0 rfl tk24 rfl rfl rfl) <| rS (CL (great_c d.Track kA kC) (ha_at 1 rfl rfl <| ha_nil) rfl) <| rS (MV rfl) ?_
 refine r_bool (t := 6) rfl (fun h4 => ?_) (fun h4 => ?_)
 · replace h4 := DT h4
   refine rS (OX rfl) <| rS (OX rfl) <| rS (OX rfl) <| rS (OX rfl) <| rS (PK rfl) <| rS (MV rfl) <| rS (OX rfl) <| rS (OX rfl) <| rS (OX rfl) <| rS (OX rfl) ?_
   refine rS (PK rfl) <| rS (AG rfl) <| RK hK3 <| w_ret <| Q1 hQ rfl rfl rfl ?_
   first | exact congrArg Value.bool (decide_eq_true (by unfold GreatG; omega)).symm | exact congrArg Value.bool (decide_eq_decide.2 (by unfold GreatG; omega))
 replace h4 := DF h4
 refine rS (FA 1 rfl fo32_1 rfl) <| rS (L1 (Value.slice pA d.Posts.length pC) 0 rfl tk25 rfl rfl) <| rS (LN rfl ut25) <| rS (BI rfl b_gtr) <| rS (PK rfl) <| rS (MV rfl) ?_
 refine r_bool (t := 12) rfl (fun h5 => ?_) (fun h5 => ?_)
 · replace h5 := DT h5
   refine rS (OX rfl) <| rS (OX rfl) <| rS (OX rfl) <| rS (OX rfl) <| rS (PK rfl) <| rS (AG rfl) <| RK hK3 <| w_ret <| Q1 hQ rfl rfl rfl ?_
   first | exact congrArg Value.bool (decide_eq_true (by unfold GreatG; omega)).symm | exact congrArg Value.bool (decide_eq_decide.2 (by unfold GreatG; omega))
 replace h5 := DF h5
 refine rS (FA 2 rfl fo32_2 rfl) <| rS (L1 (Value.slice nA d.Needs.length nC) 0 rfl tk26 rfl rfl) <| rS (LN rfl ut26) <| rS (BI rfl b_gtr) <| rS (PK rfl) <| rS (AG rfl) <| RK hK3 <| w_ret <| Q1 hQ rfl rfl rfl ?_
 first | exact congrArg Value.bool (decide_eq_true (by unfold GreatG; omega)).symm | exact congrArg Value.bool (decide_eq_decide.2 (by unfold GreatG; omega))
set_option maxRecDepth 100000 in
set_option maxHeartbeats 400000 in
theorem rguard_c (d : GuardM) (kA : Option Addr) (kC : Nat) (pA : Option Addr) (pC : Nat) (nA : Option Addr) (nC : Nat) (hin : GuardIn d) (htr : trackOk d.Track = true) :
    FnV Try.prog 70 [(Value.agg (GuardV.cells (GuardV.mk (TrackV.mk (Slc.mk kA d.Track.length kC)) (Slc.mk pA d.Posts.length pC) (Slc.mk nA d.Needs.length nC) d.Tower d.Radio)).toArray)] [(rd kA d.Track.length 9 (d.Track.map StretchV.cells)), (rd pA d.Posts.length 7 (d.Posts.map PostV.cells)), (rd nA d.Needs.length 3 (d.Needs.map NeedV.cells))] (Value.bool (decide (GuardOk d))) := by
 have hlen := hin.trk
 have hside := hin.side
 have hpl := hin.pst
 have hnl := hin.nds
 have hnk := hin.nk
 have hpk := hin.pk
 have hst := trackOk_all htr
 have hl12 := trackOk_le htr
 refine fnV_of go70 Try.func70 rfl rfl fun w0 Q hQ hN => ?_
 try dsimp only
 refine WS fun _ hK1 => BXA rfl fun b2 => rS (AG rfl) <| RK hK1 <| w_seq fun _ hK3 => WS fun _ hK4 => rS (FA 1 rfl fo32_1 rfl) <| rS (L1 (Value.slice pA d.Posts.length pC) 0 rfl tk25 rfl rfl) <| rS (LN rfl ut25) <| rS (BI rfl b_gtr) ?_
 refine rS (MV rfl) ?_
 refine r_bool (t := 11) rfl (fun hg11 => ?_) (fun hg11 => ?_)
 · replace hg11 := DT hg11
   refine rS (OX rfl) <| rS (OX rfl) <| rS (OX rfl) <| rS (OX rfl) <| rS (PK rfl) <| rS (MV rfl) <| rS (OX rfl) <| rS (OX rfl) <| rS (OX rfl) <| rS (OX rfl) ?_
   refine rS (OX rfl) <| rS (OX rfl) <| rS (PK rfl) <| rS (MV rfl) <| rS (OX rfl) <| rS (OX rfl) <| rS (OX rfl) <| rS (OX rfl) <| rS (PK rfl) <| RK hK4 ?_
   refine w_if_true rfl <| WS fun _ hK5 => rS (AG rfl) <| RK hK5 <| w_ret <| Q1 hQ rfl rfl rfl ?_
   first | exact congrArg Value.bool (decide_eq_false fun q => by have q1 := q.len; omega).symm | exact congrArg Value.bool (decide_eq_false fun q => by exact absurd q.tower (by simpa using hg25)).symm | exact congrArg Value.bool (decide_eq_false fun q => by have q1 := q.radio; omega).symm | exact congrArg Value.bool (decide_eq_false fun q => by have q1 := q.post i p hp; unfold PostOk at q1; first | omega | exact absurd q1.2.2.1 (by simpa using hg78) | (rw [prevId_pos (by omega) hy] at q1; omega)).symm | exact congrArg Value.bool (decide_eq_false fun q => by have q1 := q.need n (List.mem_of_getElem? hn); unfold NeedOk at q1; omega).symm | exact congrArg Value.bool (decide_eq_true (guard_yes (by omega) (by simpa using hg25) (by omega) hl4_1 (by omega) (up_mem (P := NeedOk d.Track) (by omega) hl10_1))).symm
 replace hg11 := DF hg11
 refine rS (FA 2 rfl fo32_2 rfl) <| rS (L1 (Value.slice nA d.Needs.length nC) 0 rfl tk26 rfl rfl) <| rS (LN rfl ut26) <| rS (BI rfl b_gtr) <| rS (PK rfl) <| rS (MV rfl) ?_
 refine r_bool (t := 17) rfl (fun hg17 => ?_) (fun hg17 => ?_)
 · replace hg17 := DT hg17
   refine rS (OX rfl) <| rS (OX rfl) <| rS (OX rfl) <| rS (OX rfl) <| rS (OX rfl) <| rS (OX rfl) <| rS (PK rfl) <| rS (MV rfl) <| rS (OX rfl) <| rS (OX rfl) ?_
   refine rS (OX rfl) <| rS (OX rfl) <| rS (PK rfl) <| RK hK4 <| w_if_true rfl <| WS fun _ hK6 => rS (AG rfl) <| RK hK6 <| w_ret <| Q1 hQ rfl rfl rfl ?_
   first | exact congrArg Value.bool (decide_eq_false fun q => by have q1 := q.len; omega).symm | exact congrArg Value.bool (decide_eq_false fun q => by exact absurd q.tower (by simpa using hg25)).symm | exact congrArg Value.bool (decide_eq_false fun q => by have q1 := q.radio; omega).symm | exact congrArg Value.bool (decide_eq_false fun q => by have q1 := q.post i p hp; unfold PostOk at q1; first | omega | exact absurd q1.2.2.1 (by simpa using hg78) | (rw [prevId_pos (by omega) hy] at q1; omega)).symm | exact congrArg Value.bool (decide_eq_false fun q => by have q1 := q.need n (List.mem_of_getElem? hn); unfold NeedOk at q1; omega).symm | exact congrArg Value.bool (decide_eq_true (guard_yes (by omega) (by simpa using hg25) (by omega) hl4_1 (by omega) (up_mem (P := NeedOk d.Track) (by omega) hl10_1))).symm
 replace hg17 := DF hg17
 refine rS (FA 0 rfl fo32_0 rfl) <| rS (LP (TrackV.cells (TrackV.mk (Slc.mk kA d.Track.length kC))) 0 rfl tk24 rfl rfl rfl) <| rS (FA 3 rfl fo32_3 rfl) <| rS (LP (SpotV.cells d.Tower) 0 rfl tk30 rfl rfl rfl) <| rS (CL (rspot_c d.Track kA kC d.Tower (by first | assumption | omega | (simp; done) | (simp; omega)) (by first | assumption | omega | (simp; done) | (simp; omega))) (ha_at 1 rfl rfl <| ha_nil) rfl) <| rS (NT rfl) <| rS (PK rfl) <| rS (MV rfl) ?_
 refine r_bool (t := 25) rfl (fun hg25 => ?_) (fun hg25 => ?_)
 · replace hg25 := XT hg25
   refine rS (OX rfl) <| rS (OX rfl) <| rS (OX rfl) <| rS (OX rfl) <| rS (PK rfl) <| RK hK4 <| w_if_true rfl <| WS fun _ hK7 => rS (AG rfl) <| RK hK7 ?_
   refine w_ret <| Q1 hQ rfl rfl rfl ?_
   first | exact congrArg Value.bool (decide_eq_false fun q => by have q1 := q.len; omega).symm | exact congrArg Value.bool (decide_eq_false fun q => by exact absurd q.tower (by simpa using hg25)).symm | exact congrArg Value.bool (decide_eq_false fun q => by have q1 := q.radio; omega).symm | exact congrArg Value.bool (decide_eq_false fun q => by have q1 := q.post i p hp; unfold PostOk at q1; first | omega | exact absurd q1.2.2.1 (by simpa using hg78) | (rw [prevId_pos (by omega) hy] at q1; omega)).symm | exact congrArg Value.bool (decide_eq_false fun q => by have q1 := q.need n (List.mem_of_getElem? hn); unfold NeedOk at q1; omega).symm | exact congrArg Value.bool (decide_eq_true (guard_yes (by omega) (by simpa using hg25) (by omega) hl4_1 (by omega) (up_mem (P := NeedOk d.Track) (by omega) hl10_1))).symm
 replace hg25 := XF hg25
 refine rS (FA 6 rfl fo32_4 rfl) <| rS (L1 (Value.int .i64 d.Radio) 0 rfl tk3 rfl rfl) <| rS (CL (within_9 d.Radio 0 400000) (ha_nil) rfl) <| rS (NT rfl) <| rS (PK rfl) <| RK hK4 ?_
 refine w_if rfl (fun hg30 => ?_) (fun hg30 => ?_)
 · replace hg30 := XT hg30
   refine WS fun _ hK8 => rS (AG rfl) <| RK hK8 <| w_ret <| Q1 hQ rfl rfl rfl ?_
   first | exact congrArg Value.bool (decide_eq_false fun q => by have q1 := q.len; omega).symm | exact congrArg Value.bool (decide_eq_false fun q => by exact absurd q.tower (by simpa using hg25)).symm | exact congrArg Value.bool (decide_eq_false fun q => by have q1 := q.radio; omega).symm | exact congrArg Value.bool (decide_eq_false fun q => by have q1 := q.post i p hp; unfold PostOk at q1; first | omega | exact absurd q1.2.2.1 (by simpa using hg78) | (rw [prevId_pos (by omega) hy] at q1; omega)).symm | exact congrArg Value.bool (decide_eq_false fun q => by have q1 := q.need n (List.mem_of_getElem? hn); unfold NeedOk at q1; omega).symm | exact congrArg Value.bool (decide_eq_true (guard_yes (by omega) (by simpa using hg25) (by omega) hl4_1 (by omega) (up_mem (P := NeedOk d.Track) (by omega) hl10_1))).symm
 replace hg30 := XF hg30
 refine WK hK3 <| w_seq fun _ hK9 => WS fun _ hK10 => rS (AG rfl) <| RK hK10 <| w_block ?_
 have hinit : (0 ≤ d.Posts.length) ∧ (PostsTo d 0) := by exact ⟨Nat.zero_le _, posts_zero⟩
 refine w_loop (ι := { z : Nat // (z ≤ d.Posts.length) ∧ (PostsTo d z) }) (fun z => [(1, (Value.pointer (some ⟨b2, 0, none⟩))), (3, (Value.int .i64 ((z.1 : Nat) : Int)))]) (fun z => [(blk b2 32 (GuardV.cells (GuardV.mk (TrackV.mk (Slc.mk kA d.Track.length kC)) (Slc.mk pA d.Posts.length pC) (Slc.mk nA d.Needs.length nC) d.Tower d.Radio))), (rd kA d.Track.length 9 (d.Track.map StretchV.cells)).ro, (rd pA d.Posts.length 7 (d.Posts.map PostV.cells)).ro, (rd nA d.Needs.length 3 (d.Needs.map NeedV.cells)).ro]) (fun z => d.Posts.length - z.1) ⟨0, hinit⟩ (Sub.cons rfl <| Sub.cons rfl <| Sub.nil _) (fun w hs => St.sel [0, 1, 2, 3] rfl rfl hs) ?_
 clear hinit
 rintro ⟨i, ⟨hl4_0, hl4_1⟩⟩ J11 hJ11
 try dsimp only
 refine w_seq fun _ hK12 => WS fun _ hK13 => rS (MV rfl) <| rS (FA 1 rfl fo32_1 rfl) <| rS (L1 (Value.slice pA d.Posts.length pC) 0 rfl tk25 rfl rfl) <| rS (LN rfl ut25) <| rS (BI rfl b_lss) <| RK hK13 ?_
 refine w_if rfl (fun h14 => ?_) (fun h14 => ?_)
 rotate_left 1
 · replace h14 := DF h14
   refine w_exit <| k_exit_then <| k_exit_then <| k_exit_same <| KK hK9 <| w_seq fun _ hK31 => WS fun _ hK32 => rS (AG rfl) <| RK hK32 <| w_block ?_
   have hinit : (0 ≤ d.Needs.length) ∧ (∀ (j : Nat) y, j < 0 → d.Needs[j]? = some y → NeedOk d.Track y) := by exact ⟨Nat.zero_le _, fun j y hj => absurd hj (Nat.not_lt_zero _)⟩
   refine w_loop (ι := { z : Nat // (z ≤ d.Needs.length) ∧ (∀ (j : Nat) y, j < z → d.Needs[j]? = some y → NeedOk d.Track y) }) (fun z => [(1, (Value.pointer (some ⟨b2, 0, none⟩))), (5, (Value.int .i64 ((z.1 : Nat) : Int)))]) (fun z => [(blk b2 32 (GuardV.cells (GuardV.mk (TrackV.mk (Slc.mk kA d.Track.length kC)) (Slc.mk pA d.Posts.length pC) (Slc.mk nA d.Needs.length nC) d.Tower d.Radio))), (rd kA d.Track.length 9 (d.Track.map StretchV.cells)).ro, (rd pA d.Posts.length 7 (d.Posts.map PostV.cells)).ro, (rd nA d.Needs.length 3 (d.Needs.map NeedV.cells)).ro]) (fun z => d.Needs.length - z.1) ⟨0, hinit⟩ (Sub.cons rfl <| Sub.cons rfl <| Sub.nil _) (fun w hs => St.sel [0, 1, 2, 3] rfl rfl hs) ?_
   clear hinit
   rintro ⟨m, ⟨hl10_0, hl10_1⟩⟩ J33 hJ33
   try dsimp only
   refine w_seq fun _ hK34 => WS fun _ hK35 => rS (MV rfl) <| rS (FA 2 rfl fo32_2 rfl) <| rS (L1 (Value.slice nA d.Needs.length nC) 0 rfl tk26 rfl rfl) <| rS (LN rfl ut26) <| rS (BI rfl b_lss) <| RK hK35 ?_
   refine w_if rfl (fun h36 => ?_) (fun h36 => ?_)
   rotate_left 1
   · replace h36 := DF h36
     refine w_exit <| k_exit_then <| k_exit_then <| k_exit_same <| KK hK31 <| WS fun _ hK45 => rS (AG rfl) <| RK hK45 <| w_ret <| Q1 hQ rfl rfl rfl ?_
     first | exact congrArg Value.bool (decide_eq_false fun q => by have q1 := q.len; omega).symm | exact congrArg Value.bool (decide_eq_false fun q => by exact absurd q.tower (by simpa using hg25)).symm | exact congrArg Value.bool (decide_eq_false fun q => by have q1 := q.radio; omega).symm | exact congrArg Value.bool (decide_eq_false fun q => by have q1 := q.post i p hp; unfold PostOk at q1; first | omega | exact absurd q1.2.2.1 (by simpa using hg78) | (rw [prevId_pos (by omega) hy] at q1; omega)).symm | exact congrArg Value.bool (decide_eq_false fun q => by have q1 := q.need n (List.mem_of_getElem? hn); unfold NeedOk at q1; omega).symm | exact congrArg Value.bool (decide_eq_true (guard_yes (by omega) (by simpa using hg25) (by omega) hl4_1 (by omega) (up_mem (P := NeedOk d.Track) (by omega) hl10_1))).symm
   replace h36 := DT h36
   refine WK hK34 <| w_seq fun _ hK37 => w_block <| WS fun _ hK38 => rS (FA 2 rfl fo32_2 rfl) <| rS (L1 (Value.slice nA d.Needs.length nC) 0 rfl tk26 rfl rfl) <| rS (MV rfl) ?_
   obtain ⟨n, hn⟩ : ∃ y_, d.Needs[m]? = some y_ := ⟨d.Needs[m]'(by omega), List.getElem?_eq_getElem _⟩
   have hnm : (d.Needs.map NeedV.cells)[m]? = some (NeedV.cells n) := by rw [List.getElem?_map, hn]; rfl
   refine rS (IA m rfl (has_at 3 rfl) te26 (by decide) (by omega) (by omega)) <| rS (LEN m 0 (NeedV.cells n) rfl tk57 (has_at 3 rfl) hnm rfl (by decide) rfl rfl) <| AL rfl tz57 fun b39 => SW0 rfl ts57 rfl <| RK hK38 <| WS fun _ hK40 => ?_
   have hnkk := hnk n (List.mem_of_getElem? hn)
   refine rS (FA 0 rfl fo57_0 rfl) <| rS (L1 (Value.int .i64 n.Stretch) 0 rfl tk3 rfl rfl) <| rS (FA 0 rfl fo32_0 rfl) <| rS (FA 0 rfl fo24_0 rfl) <| rS (L1 (Value.slice kA d.Track.length kC) 1 rfl tk22 rfl rfl) <| rS (LN rfl ut22) <| rS (BI rfl (b_sub ⟨by omega, by omega⟩)) <| rS (CL (within_9 n.Stretch 0 (((d.Track.length : Nat) : Int) - 1)) (ha_nil) rfl) <| rS (NT rfl) <| rS (MV rfl) ?_
   refine r_bool (t := 111) rfl (fun hg111 => ?_) (fun hg111 => ?_)
   · replace hg111 := XT hg111
     refine rS (OX rfl) <| rS (OX rfl) <| rS (OX rfl) <| rS (OX rfl) <| rS (OX rfl) <| rS (PK rfl) <| rS (MV rfl) <| rS (OX rfl) <| rS (OX rfl) <| rS (OX rfl) ?_
     refine rS (OX rfl) <| rS (PK rfl) <| RK hK40 <| w_if_true rfl <| WS fun _ hK41 => rS (AG rfl) <| RK hK41 <| w_ret <| Q1 hQ rfl rfl rfl ?_
     first | exact congrArg Value.bool (decide_eq_false fun q => by have q1 := q.len; omega).symm | exact congrArg Value.bool (decide_eq_false fun q => by exact absurd q.tower (by simpa using hg25)).symm | exact congrArg Value.bool (decide_eq_false fun q => by have q1 := q.radio; omega).symm | exact congrArg Value.bool (decide_eq_false fun q => by have q1 := q.post i p hp; unfold PostOk at q1; first | omega | exact absurd q1.2.2.1 (by simpa using hg78) | (rw [prevId_pos (by omega) hy] at q1; omega)).symm | exact congrArg Value.bool (decide_eq_false fun q => by have q1 := q.need n (List.mem_of_getElem? hn); unfold NeedOk at q1; omega).symm | exact congrArg Value.bool (decide_eq_true (guard_yes (by omega) (by simpa using hg25) (by omega) hl4_1 (by omega) (up_mem (P := NeedOk d.Track) (by omega) hl10_1))).symm
   replace hg111 := XF hg111
   refine rS (FA 1 rfl fo57_1 rfl) <| rS (L1 (Value.int .u8 n.Kind) 0 rfl tk5 rfl rfl) <| rS (SX (sd_conv (m := n.Kind) rfl rfl ut5 ut3 (wrap_u8_i64 (by first | assumption | omega))) rfl rfl) <| rS (CL (within_9 n.Kind 1 3) (ha_nil) rfl) <| rS (NT rfl) <| rS (PK rfl) <| rS (MV rfl) ?_
   refine r_bool (t := 118) rfl (fun hg118 => ?_) (fun hg118 => ?_)
   · replace hg118 := XT hg118
     refine rS (OX rfl) <| rS (OX rfl) <| rS (OX rfl) <| rS (OX rfl) <| rS (PK rfl) <| RK hK40 <| w_if_true rfl <| WS fun _ hK42 => rS (AG rfl) <| RK hK42 ?_
     refine w_ret <| Q1 hQ rfl rfl rfl ?_
     first | exact congrArg Value.bool (decide_eq_false fun q => by have q1 := q.len; omega).symm | exact congrArg Value.bool (decide_eq_false fun q => by exact absurd q.tower (by simpa using hg25)).symm | exact congrArg Value.bool (decide_eq_false fun q => by have q1 := q.radio; omega).symm | exact congrArg Value.bool (decide_eq_false fun q => by have q1 := q.post i p hp; unfold PostOk at q1; first | omega | exact absurd q1.2.2.1 (by simpa using hg78) | (rw [prevId_pos (by omega) hy] at q1; omega)).symm | exact congrArg Value.bool (decide_eq_false fun q => by have q1 := q.need n (List.mem_of_getElem? hn); unfold NeedOk at q1; omega).symm | exact congrArg Value.bool (decide_eq_true (guard_yes (by omega) (by simpa using hg25) (by omega) hl4_1 (by omega) (up_mem (P := NeedOk d.Track) (by omega) hl10_1))).symm
   replace hg118 := XF hg118
   refine rS (FA 2 rfl fo57_2 rfl) <| rS (L1 (Value.int .i64 n.Seconds) 0 rfl tk3 rfl rfl) <| rS (CL (within_9 n.Seconds 0 36000) (ha_nil) rfl) <| rS (NT rfl) <| rS (PK rfl) <| RK hK40 ?_
   refine w_if rfl (fun hg123 => ?_) (fun hg123 => ?_)
   rotate_left 1
   · replace hg123 := XF hg123
     refine w_skip <| k_block <| KK hK37 <| w_region <| rS (MV rfl) <| rS (BI rfl (b_add ⟨by omega, by omega⟩)) <| rS (AG rfl) <| r_nil ?_
     have hb44 : (Value.int .i64 (((m + 1) : Nat) : Int)) = (Value.int .i64 (((m : Nat) : Int) + 1)) := by exact congrArg (Value.int .i64) (by omega)
     refine k_then (hJ33 ⟨(m + 1), ⟨by omega, up_succ (P := fun _ y => NeedOk d.Track y) hl10_1 hn (by unfold NeedOk; omega)⟩⟩ _ _ _ rfl (by first | omega | (simp; omega)) (Sub.cons rfl <| sub_val rfl hb44 <| Sub.nil _) (fun w hs => St.sel [1, 2, 3, 4] rfl rfl hs))
   replace hg123 := XT hg123
   refine WS fun _ hK43 => rS (AG rfl) <| RK hK43 <| w_ret <| Q1 hQ rfl rfl rfl ?_
   first | exact congrArg Value.bool (decide_eq_false fun q => by have q1 := q.len; omega).symm | exact congrArg Value.bool (decide_eq_false fun q => by exact absurd q.tower (by simpa using hg25)).symm | exact congrArg Value.bool (decide_eq_false fun q => by have q1 := q.radio; omega).symm | exact congrArg Value.bool (decide_eq_false fun q => by have q1 := q.post i p hp; unfold PostOk at q1; first | omega | exact absurd q1.2.2.1 (by simpa using hg78) | (rw [prevId_pos (by omega) hy] at q1; omega)).symm | exact congrArg Value.bool (decide_eq_false fun q => by have q1 := q.need n (List.mem_of_getElem? hn); unfold NeedOk at q1; omega).symm | exact congrArg Value.bool (decide_eq_true (guard_yes (by omega) (by simpa using hg25) (by omega) hl4_1 (by omega) (up_mem (P := NeedOk d.Track) (by omega) hl10_1))).symm
 replace h14 := DT h14
 refine WK hK12 <| w_seq fun _ hK15 => w_block <| WS fun _ hK16 => rS (FA 1 rfl fo32_1 rfl) <| rS (L1 (Value.slice pA d.Posts.length pC) 0 rfl tk25 rfl rfl) <| rS (MV rfl) ?_
 obtain ⟨p, hp⟩ : ∃ y_, d.Posts[i]? = some y_ := ⟨d.Posts[i]'(by omega), List.getElem?_eq_getElem _⟩
 have hpm : (d.Posts.map PostV.cells)[i]? = some (PostV.cells p) := by rw [List.getElem?_map, hp]; rfl
 refine rS (IA i rfl (has_at 2 rfl) te25 (by decide) (by omega) (by omega)) <| rS (LEN i 0 (PostV.cells p) rfl tk62 (has_at 2 rfl) hpm rfl (by decide) rfl rfl) <| AL rfl tz62 fun b17 => SW0 rfl ts62 rfl <| RK hK16 <| w_seq fun _ hK18 => w_draw mixed 47 (by kernel_rfl) ?_
 have hpkk := hpk p (List.mem_of_getElem? hp)
 refine dS (FA 0 rfl fo62_0 rfl) <| dS (L1 (Value.int .i64 p.Id) 0 rfl tk3 rfl rfl) <| dS (CL (within_9 p.Id 0 9999) (ha_nil) rfl) <| dS (NT rfl) <| dS (MV rfl) ?_
 refine d_bool (t := 47) rfl (fun hg47 => ?_) (fun hg47 => ?_)
 · replace hg47 := XT hg47
   refine dS (OX rfl) <| dS (OX rfl) <| dS (OX rfl) <| dS (OX rfl) <| dS (OX rfl) <| dS (OX rfl) <| dS (OX rfl) <| dS (OX rfl) <| dS (OX rfl) <| dS (OX rfl) ?_
   refine dS (OX rfl) <| dS (OX rfl) <| dS (OX rfl) <| dS (OX rfl) <| dS (PK rfl) <| dS (MV rfl) <| dS (OX rfl) <| dS (OX rfl) <| dS (OX rfl) <| dS (OX rfl) ?_
   refine dS (OX rfl) <| dS (PK rfl) <| dS (MV rfl) <| dS (OX rfl) <| dS (OX rfl) <| dS (OX rfl) <| dS (OX rfl) <| dS (OX rfl) <| dS (OX rfl) <| dS (PK rfl) ?_
   refine dS (MV rfl) <| dS (OX rfl) <| dS (OX rfl) <| dS (OX rfl) <| dS (OX rfl) <| dS (PK rfl) <| dS (MV rfl) <| dS (OX rfl) <| dS (OX rfl) <| dS (OX rfl) ?_
   refine dS (OX rfl) <| dS (PK rfl) <| d_end <| RK hK18 <| w_if_true rfl <| WS fun _ hK19 => rS (AG rfl) <| RK hK19 <| w_ret <| Q1 hQ rfl rfl rfl ?_
   first | exact congrArg Value.bool (decide_eq_false fun q => by have q1 := q.len; omega).symm | exact congrArg Value.bool (decide_eq_false fun q => by exact absurd q.tower (by simpa using hg25)).symm | exact congrArg Value.bool (decide_eq_false fun q => by have q1 := q.radio; omega).symm | exact congrArg Value.bool (decide_eq_false fun q => by have q1 := q.post i p hp; unfold PostOk at q1; first | omega | exact absurd q1.2.2.1 (by simpa using hg78) | (rw [prevId_pos (by omega) hy] at q1; omega)).symm | exact congrArg Value.bool (decide_eq_false fun q => by have q1 := q.need n (List.mem_of_getElem? hn); unfold NeedOk at q1; omega).symm | exact congrArg Value.bool (decide_eq_true (guard_yes (by omega) (by simpa using hg25) (by omega) hl4_1 (by omega) (up_mem (P := NeedOk d.Track) (by omega) hl10_1))).symm
 replace hg47 := XF hg47
 refine dS (MV rfl) <| dS (BI rfl b_gtr) <| dS (MV rfl) ?_
 refine d_bool (t := 50) rfl (fun hg50 => ?_) (fun hg50 => ?_)
 rotate_left 1
 · replace hg50 := DF hg50
   refine dS (OX rfl) <| dS (OX rfl) <| dS (OX rfl) <| dS (OX rfl) <| dS (OX rfl) <| dS (OX rfl) <| dS (OX rfl) <| dS (OX rfl) <| dS (OX rfl) <| dS (OX rfl) ?_
   refine dS (PK rfl) <| dS (PK rfl) <| dS (MV rfl) <| dS (FA 1 rfl fo62_1 rfl) <| dS (L1 (Value.int .u8 p.Kind) 0 rfl tk5 rfl rfl) <| dS (SX (sd_conv (m := p.Kind) rfl rfl ut5 ut3 (wrap_u8_i64 (by first | assumption | omega))) rfl rfl) <| dS (CL (within_9 p.Kind 1 3) (ha_nil) rfl) <| dS (NT rfl) <| dS (PK rfl) <| dS (MV rfl) ?_
   refine d_bool (t := 70) rfl (fun hg70 => ?_) (fun hg70 => ?_)
   · replace hg70 := XT hg70
     refine dS (OX rfl) <| dS (OX rfl) <| dS (OX rfl) <| dS (OX rfl) <| dS (OX rfl) <| dS (OX rfl) <| dS (PK rfl) <| dS (MV rfl) <| dS (OX rfl) <| dS (OX rfl) ?_
     refine dS (OX rfl) <| dS (OX rfl) <| dS (PK rfl) <| dS (MV rfl) <| dS (OX rfl) <| dS (OX rfl) <| dS (OX rfl) <| dS (OX rfl) <| dS (PK rfl) <| d_end ?_
     refine RK hK18 <| w_if_true rfl <| WS fun _ hK26 => rS (AG rfl) <| RK hK26 <| w_ret <| Q1 hQ rfl rfl rfl ?_
     first | exact congrArg Value.bool (decide_eq_false fun q => by have q1 := q.len; omega).symm | exact congrArg Value.bool (decide_eq_false fun q => by exact absurd q.tower (by simpa using hg25)).symm | exact congrArg Value.bool (decide_eq_false fun q => by have q1 := q.radio; omega).symm | exact congrArg Value.bool (decide_eq_false fun q => by have q1 := q.post i p hp; unfold PostOk at q1; first | omega | exact absurd q1.2.2.1 (by simpa using hg78) | (rw [prevId_pos (by omega) hy] at q1; omega)).symm | exact congrArg Value.bool (decide_eq_false fun q => by have q1 := q.need n (List.mem_of_getElem? hn); unfold NeedOk at q1; omega).symm | exact congrArg Value.bool (decide_eq_true (guard_yes (by omega) (by simpa using hg25) (by omega) hl4_1 (by omega) (up_mem (P := NeedOk d.Track) (by omega) hl10_1))).symm
   replace hg70 := XF hg70
   refine dS (FA 0 rfl fo32_0 rfl) <| dS (LP (TrackV.cells (TrackV.mk (Slc.mk kA d.Track.length kC))) 1 rfl tk24 rfl rfl rfl) <| dS (FA 2 rfl fo62_2 rfl) <| dS (LP (SpotV.cells p.Spot) 0 rfl tk30 rfl rfl rfl) <| dS (CL (rspot_c d.Track kA kC p.Spot (by first | assumption | omega | (simp; done) | (simp; omega)) (by first | assumption | omega | (simp; done) | (simp; omega))) (ha_at 2 rfl rfl <| ha_nil) rfl) <| dS (NT rfl) <| dS (PK rfl) <| dS (MV rfl) ?_
   refine d_bool (t := 78) rfl (fun hg78 => ?_) (fun hg78 => ?_)
   · replace hg78 := XT hg78
     refine dS (OX rfl) <| dS (OX rfl) <| dS (OX rfl) <| dS (OX rfl) <| dS (PK rfl) <| dS (MV rfl) <| dS (OX rfl) <| dS (OX rfl) <| dS (OX rfl) <| dS (OX rfl) ?_
     refine dS (PK rfl) <| d_end <| RK hK18 <| w_if_true rfl <| WS fun _ hK27 => rS (AG rfl) <| RK hK27 <| w_ret <| Q1 hQ rfl rfl rfl ?_
     first | exact congrArg Value.bool (decide_eq_false fun q => by have q1 := q.len; omega).symm | exact congrArg Value.bool (decide_eq_false fun q => by exact absurd q.tower (by simpa using hg25)).symm | exact congrArg Value.bool (decide_eq_false fun q => by have q1 := q.radio; omega).symm | exact congrArg Value.bool (decide_eq_false fun q => by have q1 := q.post i p hp; unfold PostOk at q1; first | omega | exact absurd q1.2.2.1 (by simpa using hg78) | (rw [prevId_pos (by omega) hy] at q1; omega)).symm | exact congrArg Value.bool (decide_eq_false fun q => by have q1 := q.need n (List.mem_of_getElem? hn); unfold NeedOk at q1; omega).symm | exact congrArg Value.bool (decide_eq_true (guard_yes (by omega) (by simpa using hg25) (by omega) hl4_1 (by omega) (up_mem (P := NeedOk d.Track) (by omega) hl10_1))).symm
   replace hg78 := XF hg78
   refine dS (FA 5 rfl fo62_3 rfl) <| dS (L1 (Value.int .i64 p.Delay) 0 rfl tk3 rfl rfl) <| dS (CL (within_9 p.Delay 0 36000) (ha_nil) rfl) <| dS (NT rfl) <| dS (PK rfl) <| dS (MV rfl) ?_
   refine d_bool (t := 84) rfl (fun hg84 => ?_) (fun hg84 => ?_)
   · replace hg84 := XT hg84
     refine dS (OX rfl) <| dS (OX rfl) <| dS (OX rfl) <| dS (OX rfl) <| dS (PK rfl) <| d_end <| RK hK18 <| w_if_true rfl <| WS fun _ hK28 => rS (AG rfl) ?_
     refine RK hK28 <| w_ret <| Q1 hQ rfl rfl rfl ?_
     first | exact congrArg Value.bool (decide_eq_false fun q => by have q1 := q.len; omega).symm | exact congrArg Value.bool (decide_eq_false fun q => by exact absurd q.tower (by simpa using hg25)).symm | exact congrArg Value.bool (decide_eq_false fun q => by have q1 := q.radio; omega).symm | exact congrArg Value.bool (decide_eq_false fun q => by have q1 := q.post i p hp; unfold PostOk at q1; first | omega | exact absurd q1.2.2.1 (by simpa using hg78) | (rw [prevId_pos (by omega) hy] at q1; omega)).symm | exact congrArg Value.bool (decide_eq_false fun q => by have q1 := q.need n (List.mem_of_getElem? hn); unfold NeedOk at q1; omega).symm | exact congrArg Value.bool (decide_eq_true (guard_yes (by omega) (by simpa using hg25) (by omega) hl4_1 (by omega) (up_mem (P := NeedOk d.Track) (by omega) hl10_1))).symm
   replace hg84 := XF hg84
   refine dS (FA 6 rfl fo62_4 rfl) <| dS (L1 (Value.int .i64 p.Pace) 0 rfl tk3 rfl rfl) <| dS (CL (within_9 p.Pace 1 1000) (ha_nil) rfl) <| dS (NT rfl) <| dS (PK rfl) <| d_end <| RK hK18 ?_
   refine w_if rfl (fun hg89 => ?_) (fun hg89 => ?_)
   rotate_left 1
   · replace hg89 := XF hg89
     refine w_skip <| k_block <| KK hK15 <| w_region <| rS (MV rfl) <| rS (BI rfl (b_add ⟨by omega, by omega⟩)) <| rS (AG rfl) <| r_nil ?_
     have hb30 : (Value.int .i64 (((i + 1) : Nat) : Int)) = (Value.int .i64 (((i : Nat) : Int) + 1)) := by exact congrArg (Value.int .i64) (by omega)
     refine k_then (hJ11 ⟨(i + 1), ⟨by omega, posts_succ hl4_1 hp (by unfold PostOk; exact ⟨(by first | (rw [prevId_zero (by omega)]; omega) | (rw [prevId_pos (by omega) hy]; omega)), by omega, by simpa using hg78, by omega, by omega⟩)⟩⟩ _ _ _ rfl (by first | omega | (simp; omega)) (Sub.cons rfl <| sub_val rfl hb30 <| Sub.nil _) (fun w hs => St.sel [1, 2, 3, 4] rfl rfl hs))
   replace hg89 := XT hg89
   refine WS fun _ hK29 => rS (AG rfl) <| RK hK29 <| w_ret <| Q1 hQ rfl rfl rfl ?_
   first | exact congrArg Value.bool (decide_eq_false fun q => by have q1 := q.len; omega).symm | exact congrArg Value.bool (decide_eq_false fun q => by exact absurd q.tower (by simpa using hg25)).symm | exact congrArg Value.bool (decide_eq_false fun q => by have q1 := q.radio; omega).symm | exact congrArg Value.bool (decide_eq_false fun q => by have q1 := q.post i p hp; unfold PostOk at q1; first | omega | exact absurd q1.2.2.1 (by simpa using hg78) | (rw [prevId_pos (by omega) hy] at q1; omega)).symm | exact congrArg Value.bool (decide_eq_false fun q => by have q1 := q.need n (List.mem_of_getElem? hn); unfold NeedOk at q1; omega).symm | exact congrArg Value.bool (decide_eq_true (guard_yes (by omega) (by simpa using hg25) (by omega) hl4_1 (by omega) (up_mem (P := NeedOk d.Track) (by omega) hl10_1))).symm
 replace hg50 := DT hg50
 refine dS (FA 0 rfl fo62_0 rfl) <| dS (L1 (Value.int .i64 p.Id) 0 rfl tk3 rfl rfl) <| dS (FA 1 rfl fo32_1 rfl) <| dS (L1 (Value.slice pA d.Posts.length pC) 1 rfl tk25 rfl rfl) <| dS (MV rfl) <| dS (BI rfl (b_sub ⟨by omega, by omega⟩)) ?_
 obtain ⟨y, hy⟩ : ∃ y_, d.Posts[(i - 1)]? = some y_ := ⟨d.Posts[(i - 1)]'(by omega), List.getElem?_eq_getElem _⟩
 have hym : (d.Posts.map PostV.cells)[(i - 1)]? = some (PostV.cells y) := by rw [List.getElem?_map, hy]; rfl
 refine dS (IA (i - 1) rfl (has_at 3 rfl) te25 (by decide) (by omega) (by omega)) <| dS (FAR ((i - 1) * 7) rfl (has_at 3 rfl) (Nat.mul_pos (by omega) (by decide)) fo62_0 rfl) <| dS (LE1 (i - 1) 0 (Value.int .i64 y.Id) rfl tk3 (has_at 3 rfl) hym rfl (by decide) rfl) <| dS (BI rfl b_leq) <| dS (PK rfl) <| dS (PK rfl) <| dS (MV rfl) ?_
 refine d_bool (t := 63) rfl (fun hg63 => ?_) (fun hg63 => ?_)
 · replace hg63 := DT hg63
   refine dS (OX rfl) <| dS (OX rfl) <| dS (OX rfl) <| dS (OX rfl) <| dS (OX rfl) <| dS (PK rfl) <| dS (MV rfl) <| dS (OX rfl) <| dS (OX rfl) <| dS (OX rfl) ?_
   refine dS (OX rfl) <| dS (OX rfl) <| dS (OX rfl) <| dS (PK rfl) <| dS (MV rfl) <| dS (OX rfl) <| dS (OX rfl) <| dS (OX rfl) <| dS (OX rfl) <| dS (PK rfl) ?_
   refine dS (MV rfl) <| dS (OX rfl) <| dS (OX rfl) <| dS (OX rfl) <| dS (OX rfl) <| dS (PK rfl) <| d_end <| RK hK18 <| w_if_true rfl <| WS fun _ hK20 => ?_
   refine rS (AG rfl) <| RK hK20 <| w_ret <| Q1 hQ rfl rfl rfl ?_
   first | exact congrArg Value.bool (decide_eq_false fun q => by have q1 := q.len; omega).symm | exact congrArg Value.bool (decide_eq_false fun q => by exact absurd q.tower (by simpa using hg25)).symm | exact congrArg Value.bool (decide_eq_false fun q => by have q1 := q.radio; omega).symm | exact congrArg Value.bool (decide_eq_false fun q => by have q1 := q.post i p hp; unfold PostOk at q1; first | omega | exact absurd q1.2.2.1 (by simpa using hg78) | (rw [prevId_pos (by omega) hy] at q1; omega)).symm | exact congrArg Value.bool (decide_eq_false fun q => by have q1 := q.need n (List.mem_of_getElem? hn); unfold NeedOk at q1; omega).symm | exact congrArg Value.bool (decide_eq_true (guard_yes (by omega) (by simpa using hg25) (by omega) hl4_1 (by omega) (up_mem (P := NeedOk d.Track) (by omega) hl10_1))).symm
 replace hg63 := DF hg63
 refine dS (FA 1 rfl fo62_1 rfl) <| dS (L1 (Value.int .u8 p.Kind) 0 rfl tk5 rfl rfl) <| dS (SX (sd_conv (m := p.Kind) rfl rfl ut5 ut3 (wrap_u8_i64 (by first | assumption | omega))) rfl rfl) <| dS (CL (within_9 p.Kind 1 3) (ha_nil) rfl) <| dS (NT rfl) <| dS (PK rfl) <| dS (MV rfl) ?_
 refine d_bool (t := 70) rfl (fun hg70 => ?_) (fun hg70 => ?_)
 · replace hg70 := XT hg70
   refine dS (OX rfl) <| dS (OX rfl) <| dS (OX rfl) <| dS (OX rfl) <| dS (OX rfl) <| dS (OX rfl) <| dS (PK rfl) <| dS (MV rfl) <| dS (OX rfl) <| dS (OX rfl) ?_
   refine dS (OX rfl) <| dS (OX rfl) <| dS (PK rfl) <| dS (MV rfl) <| dS (OX rfl) <| dS (OX rfl) <| dS (OX rfl) <| dS (OX rfl) <| dS (PK rfl) <| d_end ?_
   refine RK hK18 <| w_if_true rfl <| WS fun _ hK21 => rS (AG rfl) <| RK hK21 <| w_ret <| Q1 hQ rfl rfl rfl ?_
   first | exact congrArg Value.bool (decide_eq_false fun q => by have q1 := q.len; omega).symm | exact congrArg Value.bool (decide_eq_false fun q => by exact absurd q.tower (by simpa using hg25)).symm | exact congrArg Value.bool (decide_eq_false fun q => by have q1 := q.radio; omega).symm | exact congrArg Value.bool (decide_eq_false fun q => by have q1 := q.post i p hp; unfold PostOk at q1; first | omega | exact absurd q1.2.2.1 (by simpa using hg78) | (rw [prevId_pos (by omega) hy] at q1; omega)).symm | exact congrArg Value.bool (decide_eq_false fun q => by have q1 := q.need n (List.mem_of_getElem? hn); unfold NeedOk at q1; omega).symm | exact congrArg Value.bool (decide_eq_true (guard_yes (by omega) (by simpa using hg25) (by omega) hl4_1 (by omega) (up_mem (P := NeedOk d.Track) (by omega) hl10_1))).symm
 replace hg70 := XF hg70
 refine dS (FA 0 rfl fo32_0 rfl) <| dS (LP (TrackV.cells (TrackV.mk (Slc.mk kA d.Track.length kC))) 1 rfl tk24 rfl rfl rfl) <| dS (FA 2 rfl fo62_2 rfl) <| dS (LP (SpotV.cells p.Spot) 0 rfl tk30 rfl rfl rfl) <| dS (CL (rspot_c d.Track kA kC p.Spot (by first | assumption | omega | (simp; done) | (simp; omega)) (by first | assumption | omega | (simp; done) | (simp; omega))) (ha_at 2 rfl rfl <| ha_nil) rfl) <| dS (NT rfl) <| dS (PK rfl) <| dS (MV rfl) ?_
 refine d_bool (t := 78) rfl (fun hg78 => ?_) (fun hg78 => ?_)
 · replace hg78 := XT hg78
   refine dS (OX rfl) <| dS (OX rfl) <| dS (OX rfl) <| dS (OX rfl) <| dS (PK rfl) <| dS (MV rfl) <| dS (OX rfl) <| dS (OX rfl) <| dS (OX rfl) <| dS (OX rfl) ?_
   refine dS (PK rfl) <| d_end <| RK hK18 <| w_if_true rfl <| WS fun _ hK22 => rS (AG rfl) <| RK hK22 <| w_ret <| Q1 hQ rfl rfl rfl ?_
   first | exact congrArg Value.bool (decide_eq_false fun q => by have q1 := q.len; omega).symm | exact congrArg Value.bool (decide_eq_false fun q => by exact absurd q.tower (by simpa using hg25)).symm | exact congrArg Value.bool (decide_eq_false fun q => by have q1 := q.radio; omega).symm | exact congrArg Value.bool (decide_eq_false fun q => by have q1 := q.post i p hp; unfold PostOk at q1; first | omega | exact absurd q1.2.2.1 (by simpa using hg78) | (rw [prevId_pos (by omega) hy] at q1; omega)).symm | exact congrArg Value.bool (decide_eq_false fun q => by have q1 := q.need n (List.mem_of_getElem? hn); unfold NeedOk at q1; omega).symm | exact congrArg Value.bool (decide_eq_true (guard_yes (by omega) (by simpa using hg25) (by omega) hl4_1 (by omega) (up_mem (P := NeedOk d.Track) (by omega) hl10_1))).symm
 replace hg78 := XF hg78
 refine dS (FA 5 rfl fo62_3 rfl) <| dS (L1 (Value.int .i64 p.Delay) 0 rfl tk3 rfl rfl) <| dS (CL (within_9 p.Delay 0 36000) (ha_nil) rfl) <| dS (NT rfl) <| dS (PK rfl) <| dS (MV rfl) ?_
 refine d_bool (t := 84) rfl (fun hg84 => ?_) (fun hg84 => ?_)
 · replace hg84 := XT hg84
   refine dS (OX rfl) <| dS (OX rfl) <| dS (OX rfl) <| dS (OX rfl) <| dS (PK rfl) <| d_end <| RK hK18 <| w_if_true rfl <| WS fun _ hK23 => rS (AG rfl) ?_
   refine RK hK23 <| w_ret <| Q1 hQ rfl rfl rfl ?_
   first | exact congrArg Value.bool (decide_eq_false fun q => by have q1 := q.len; omega).symm | exact congrArg Value.bool (decide_eq_false fun q => by exact absurd q.tower (by simpa using hg25)).symm | exact congrArg Value.bool (decide_eq_false fun q => by have q1 := q.radio; omega).symm | exact congrArg Value.bool (decide_eq_false fun q => by have q1 := q.post i p hp; unfold PostOk at q1; first | omega | exact absurd q1.2.2.1 (by simpa using hg78) | (rw [prevId_pos (by omega) hy] at q1; omega)).symm | exact congrArg Value.bool (decide_eq_false fun q => by have q1 := q.need n (List.mem_of_getElem? hn); unfold NeedOk at q1; omega).symm | exact congrArg Value.bool (decide_eq_true (guard_yes (by omega) (by simpa using hg25) (by omega) hl4_1 (by omega) (up_mem (P := NeedOk d.Track) (by omega) hl10_1))).symm
 replace hg84 := XF hg84
 refine dS (FA 6 rfl fo62_4 rfl) <| dS (L1 (Value.int .i64 p.Pace) 0 rfl tk3 rfl rfl) <| dS (CL (within_9 p.Pace 1 1000) (ha_nil) rfl) <| dS (NT rfl) <| dS (PK rfl) <| d_end <| RK hK18 ?_
 refine w_if rfl (fun hg89 => ?_) (fun hg89 => ?_)
 rotate_left 1
 · replace hg89 := XF hg89
   refine w_skip <| k_block <| KK hK15 <| w_region <| rS (MV rfl) <| rS (BI rfl (b_add ⟨by omega, by omega⟩)) <| rS (AG rfl) <| r_nil ?_
   have hb25 : (Value.int .i64 (((i + 1) : Nat) : Int)) = (Value.int .i64 (((i : Nat) : Int) + 1)) := by exact congrArg (Value.int .i64) (by omega)
   refine k_then (hJ11 ⟨(i + 1), ⟨by omega, posts_succ hl4_1 hp (by unfold PostOk; exact ⟨(by first | (rw [prevId_zero (by omega)]; omega) | (rw [prevId_pos (by omega) hy]; omega)), by omega, by simpa using hg78, by omega, by omega⟩)⟩⟩ _ _ _ rfl (by first | omega | (simp; omega)) (Sub.cons rfl <| sub_val rfl hb25 <| Sub.nil _) (fun w hs => St.sel [1, 2, 3, 4] rfl rfl hs))
 replace hg89 := XT hg89
 refine WS fun _ hK24 => rS (AG rfl) <| RK hK24 <| w_ret <| Q1 hQ rfl rfl rfl ?_
 first | exact congrArg Value.bool (decide_eq_false fun q => by have q1 := q.len; omega).symm | exact congrArg Value.bool (decide_eq_false fun q => by exact absurd q.tower (by simpa using hg25)).symm | exact congrArg Value.bool (decide_eq_false fun q => by have q1 := q.radio; omega).symm | exact congrArg Value.bool (decide_eq_false fun q => by have q1 := q.post i p hp; unfold PostOk at q1; first | omega | exact absurd q1.2.2.1 (by simpa using hg78) | (rw [prevId_pos (by omega) hy] at q1; omega)).symm | exact congrArg Value.bool (decide_eq_false fun q => by have q1 := q.need n (List.mem_of_getElem? hn); unfold NeedOk at q1; omega).symm | exact congrArg Value.bool (decide_eq_true (guard_yes (by omega) (by simpa using hg25) (by omega) hl4_1 (by omega) (up_mem (P := NeedOk d.Track) (by omega) hl10_1))).symm
set_option maxRecDepth 100000 in
set_option maxHeartbeats 400000 in
theorem rpcheck_c (d : GuardM) (kA : Option Addr) (kC : Nat) (pA : Option Addr) (pC : Nat) (nA : Option Addr) (nC : Nat) (hin : GuardIn d) :
    FnV Try.prog 24 [(Value.agg (GuardV.cells (GuardV.mk (TrackV.mk (Slc.mk kA d.Track.length kC)) (Slc.mk pA d.Posts.length pC) (Slc.mk nA d.Needs.length nC) d.Tower d.Radio)).toArray)] [(rd kA d.Track.length 9 (d.Track.map StretchV.cells)), (rd pA d.Posts.length 7 (d.Posts.map PostV.cells)), (rd nA d.Needs.length 3 (d.Needs.map NeedV.cells))] (Value.int .i64 (guardE d)) := by
 have hlen := hin.trk
 have hside := hin.side
 have hpl := hin.pst
 have hnl := hin.nds
 have hnk := hin.nk
 have hpk := hin.pk
 refine fnV_of go24 Try.func24 rfl rfl fun w0 Q hQ hN => ?_
 try dsimp only
 refine WS fun _ hK1 => BXA rfl fun b2 => rS (AG rfl) <| RK hK1 <| w_seq fun _ hK3 => WS fun _ hK4 => rS (FA 0 rfl fo32_0 rfl) <| rS (LP (TrackV.cells (TrackV.mk (Slc.mk kA d.Track.length kC))) 0 rfl tk24 rfl rfl rfl) <| rS (CL (track_c d.Track kA kC (by first | assumption | omega | (simp; done) | (simp; omega))) (ha_at 1 rfl rfl <| ha_nil) rfl) <| rS (NT rfl) ?_
 refine RK hK4 ?_
 refine w_if rfl (fun hg6 => ?_) (fun hg6 => ?_)
 · rw [Bool.not_eq_true'] at hg6
   refine WS fun _ hK5 => rS (AG rfl) <| RK hK5 <| w_ret <| Q1 hQ rfl rfl rfl ?_
   first | exact congrArg (Value.int .i64) (guardE_bad (by simpa using hg6)).symm | exact congrArg (Value.int .i64) (guardE_no hg6 hg9).symm | exact congrArg (Value.int .i64) (guardE_ok hg6 hg9).symm
 rw [Bool.not_eq_false'] at hg6
 refine WK hK3 <| w_seq fun _ hK6 => WS fun _ hK7 => rS (LW 0 rfl tk32 rfl rfl) <| rS (CL (rguard_c d kA kC pA pC nA nC hin (by first | assumption | omega | (simp; done) | (simp; omega))) (ha3 1 2 3 rfl rfl rfl rfl rfl rfl) rfl) <| rS (NT rfl) <| RK hK7 ?_
 refine w_if rfl (fun hg9 => ?_) (fun hg9 => ?_)
 · replace hg9 := XT hg9
   refine WS fun _ hK8 => rS (AG rfl) <| RK hK8 <| w_ret <| Q1 hQ rfl rfl rfl ?_
   first | exact congrArg (Value.int .i64) (guardE_bad (by simpa using hg6)).symm | exact congrArg (Value.int .i64) (guardE_no hg6 hg9).symm | exact congrArg (Value.int .i64) (guardE_ok hg6 hg9).symm
 replace hg9 := XF hg9
 refine WK hK6 <| WS fun _ hK9 => rS (AG rfl) <| RK hK9 <| w_ret <| Q1 hQ rfl rfl rfl ?_
 first | exact congrArg (Value.int .i64) (guardE_bad (by simpa using hg6)).symm | exact congrArg (Value.int .i64) (guardE_no hg6 hg9).symm | exact congrArg (Value.int .i64) (guardE_ok hg6 hg9).symm
end
section
open Go.RowKit
set_option linter.unusedVariables false
set_option maxRecDepth 100000 in
set_option maxHeartbeats 400000 in
theorem ready_c (d : GuardM) (kA : Option Addr) (kC : Nat) (pA : Option Addr) (pC : Nat) (nA : Option Addr) (nC : Nat) (hraw : GuardRaw d) :
    FnV Try.prog 28 [(Value.agg (GuardV.cells (GuardV.mk (TrackV.mk (Slc.mk kA d.Track.length kC)) (Slc.mk pA d.Posts.length pC) (Slc.mk nA d.Needs.length nC) d.Tower d.Radio)).toArray)] [(rd kA d.Track.length 9 (d.Track.map StretchV.cells)), (rd pA d.Posts.length 7 (d.Posts.map PostV.cells)), (rd nA d.Needs.length 3 (d.Needs.map NeedV.cells))] (Value.bool (decide (ReadyG d))) := by
 refine fnV_of go28 Try.func28 rfl rfl fun w0 Q hQ hN => ?_
 try dsimp only
 refine WS fun _ hK1 => BXA rfl fun b2 => rS (AG rfl) <| RK hK1 <| WS fun _ hK3 => rS (LW 0 rfl tk32 rfl rfl) <| rS (CL (pgreat_c d kA kC pA pC nA nC hraw) (ha3 1 2 3 rfl rfl rfl rfl rfl rfl) rfl) <| rS (NT rfl) <| rS (MV rfl) ?_
 refine r_bool (t := 6) rfl (fun hg6 => ?_) (fun hg6 => ?_)
 rotate_left 1
 · replace hg6 := XF hg6
   refine rS (OX rfl) <| rS (OX rfl) <| rS (OX rfl) <| rS (PK rfl) <| rS (AG rfl) <| RK hK3 <| w_ret <| Q1 hQ rfl rfl rfl ?_
   first | exact congrArg Value.bool (decide_eq_false fun q => q.1 hg6).symm | exact congrArg Value.bool (decide_eq_decide.2 ⟨fun q => ⟨hg6, q⟩, fun q => q.2⟩)
 replace hg6 := XT hg6
 refine rS (LW 0 rfl tk32 rfl rfl) ?_
 have hin := hraw.small hg6
 refine rS (CL (rpcheck_c d kA kC pA pC nA nC (by first | assumption | omega | (simp; done) | (simp; omega))) (ha3 1 2 3 rfl rfl rfl rfl rfl rfl) rfl) <| rS (BI rfl b_eql) <| rS (PK rfl) <| rS (AG rfl) <| RK hK3 <| w_ret <| Q1 hQ rfl rfl rfl ?_
 first | exact congrArg Value.bool (decide_eq_false fun q => q.1 hg6).symm | exact congrArg Value.bool (decide_eq_decide.2 ⟨fun q => ⟨hg6, q⟩, fun q => q.2⟩)
set_option maxRecDepth 100000 in
set_option maxHeartbeats 400000 in
theorem has_c (la : List Int) (laA : Option Addr) (laC : Nat) (n : Int) (hlen : la.length ≤ 1000000) :
    FnV Try.prog 34 [(Value.slice laA la.length laC), (Value.int .i64 n)] [(rd laA la.length 1 (la.map iC))] (Value.bool (decide (n ∈ la))) := by
 refine fnV_of go34 Try.func34 rfl rfl fun w0 Q hQ hN => ?_
 try dsimp only
 refine WS fun _ hK1 => rS (AG rfl) <| RK hK1 <| w_seq fun _ hK2 => WS fun _ hK3 => rS (MV rfl) <| rS (LN rfl ut33) <| rS (MV rfl) <| RK hK3 <| w_block ?_
 have hinit : (0 ≤ la.length) ∧ (∀ (j : Nat) y, j < 0 → la[j]? = some y → y ≠ n) := by exact ⟨Nat.zero_le _, fun j y hj => absurd hj (Nat.not_lt_zero _)⟩
 refine w_loop (ι := { z : Nat // (z ≤ la.length) ∧ (∀ (j : Nat) y, j < z → la[j]? = some y → y ≠ n) }) (fun z => [(1, (Value.int .i64 n)), (7, (Value.slice laA la.length laC)), (8, (Value.int .i64 ((la.length : Nat) : Int))), (9, (Value.int .i64 ((z.1 : Nat) : Int)))]) (fun z => [(rd laA la.length 1 (la.map iC)).ro]) (fun z => la.length - z.1) ⟨0, hinit⟩ (Sub.cons rfl <| Sub.cons rfl <| Sub.cons rfl <| Sub.cons rfl <| Sub.nil _) (fun w hs => St.sel [0] rfl rfl hs) ?_
 clear hinit
 rintro ⟨i, ⟨hl2_0, hl2_1⟩⟩ J4 hJ4
 try dsimp only
 refine WS fun _ hK5 => rS (BI rfl b_lss) <| RK hK5 <| w_seq fun _ hK6 => ?_
 refine w_if rfl (fun h7 => ?_) (fun h7 => ?_)
 rotate_left 1
 · replace h7 := DF h7
   refine w_exit <| k_exit_then <| k_exit_then <| k_exit_same <| KK hK2 <| WS fun _ hK13 => rS (AG rfl) <| RK hK13 <| w_ret <| Q1 hQ rfl rfl rfl ?_
   first | exact congrArg Value.bool (decide_eq_true (by rw [← hg15]; exact List.mem_of_getElem? hx)).symm | exact congrArg Value.bool (decide_eq_false fun q => up_mem (P := fun y => y ≠ n) (by omega) hl2_1 n q rfl).symm
 replace h7 := DT h7
 refine WK hK6 <| w_seq fun _ hK8 => w_block <| WS fun _ hK9 => ?_
 obtain ⟨x, hx⟩ : ∃ y_, la[i]? = some y_ := ⟨la[i]'(by omega), List.getElem?_eq_getElem _⟩
 have hxm : (la.map iC)[i]? = some (iC x) := by rw [List.getElem?_map, hx]; rfl
 refine rS (IA i rfl (has_at 0 rfl) te33 (by decide) (by omega) (by omega)) <| rS (LE1 i 0 (Value.int .i64 x) rfl tk3 (has_at 0 rfl) hxm rfl (by decide) rfl) <| rS (AG rfl) <| RK hK9 <| WS fun _ hK10 => rS (MV rfl) <| rS (MV rfl) <| rS (BI rfl b_eql) <| RK hK10 ?_
 refine w_if rfl (fun hg15 => ?_) (fun hg15 => ?_)
 · replace hg15 := DT hg15
   refine WS fun _ hK11 => rS (AG rfl) <| RK hK11 <| w_ret <| Q1 hQ rfl rfl rfl ?_
   first | exact congrArg Value.bool (decide_eq_true (by rw [← hg15]; exact List.mem_of_getElem? hx)).symm | exact congrArg Value.bool (decide_eq_false fun q => up_mem (P := fun y => y ≠ n) (by omega) hl2_1 n q rfl).symm
 replace hg15 := DF hg15
 refine w_skip <| k_block <| KK hK8 <| w_region <| rS (BI rfl (b_add ⟨by omega, by omega⟩)) <| rS (MV rfl) <| r_nil ?_
 have hb12 : (Value.int .i64 (((i + 1) : Nat) : Int)) = (Value.int .i64 (((i : Nat) : Int) + 1)) := by exact congrArg (Value.int .i64) (by omega)
 refine k_then (hJ4 ⟨(i + 1), ⟨by omega, up_succ (P := fun _ y => y ≠ n) hl2_1 hx hg15⟩⟩ _ _ _ rfl (by first | omega | (simp; omega)) (Sub.cons rfl <| Sub.cons rfl <| Sub.cons rfl <| sub_val rfl hb12 <| Sub.nil _) (fun w hs => St.sel [0] rfl rfl hs))
end
section
open Go.RowKit
set_option linter.unusedVariables false
set_option maxRecDepth 100000 in
set_option maxHeartbeats 400000 in
theorem Far_c (d : GuardM) (kA : Option Addr) (kC : Nat) (pA : Option Addr) (pC : Nat) (nA : Option Addr) (nC : Nat) (a : Int) (k : Int) (hin : GuardIn d) :
    FnV Try.prog 15 [(Value.agg (GuardV.cells (GuardV.mk (TrackV.mk (Slc.mk kA d.Track.length kC)) (Slc.mk pA d.Posts.length pC) (Slc.mk nA d.Needs.length nC) d.Tower d.Radio)).toArray), (Value.int .i64 a), (Value.int .i64 k)] [(rd kA d.Track.length 9 (d.Track.map StretchV.cells)), (rd pA d.Posts.length 7 (d.Posts.map PostV.cells)), (rd nA d.Needs.length 3 (d.Needs.map NeedV.cells))] (Value.tuple [(Value.int .i64 (farV d a k)), (Value.int .i64 (farE d a k))].toArray) := by
 have hlen := hin.trk
 have hside := hin.side
 have hpl := hin.pst
 have hnl := hin.nds
 have hnk := hin.nk
 have hpk := hin.pk
 refine fnV_of go15 Try.func15 rfl rfl fun w0 Q hQ hN => ?_
 try dsimp only
 refine WS fun _ hK1 => BXA rfl fun b2 => rS (AG rfl) <| rS (AG rfl) <| RK hK1 <| w_seq fun _ hK3 => WS fun _ hK4 => rS (LW 0 rfl tk32 rfl rfl) <| rS (CL (pcheck_c d kA kC pA pC nA nC hin) (ha3 1 2 3 rfl rfl rfl rfl rfl rfl) rfl) <| rS (AG rfl) ?_
 refine RK hK4 <| WS fun _ hK5 => rS (MV rfl) <| rS (BI rfl b_neq) <| RK hK5 ?_
 refine w_if rfl (fun h12 => ?_) (fun h12 => ?_)
 · replace h12 := XT h12
   refine WS fun _ hK6 => rS (MV rfl) <| rS (AG rfl) <| rS (AG rfl) <| RK hK6 <| w_ret <| Q2 hQ rfl rfl rfl rfl ?_
   first | (have e := far_bad (a := a) (k := k) h12; rw [e.1, e.2.1] <;> rfl) | (have e := far_out (a := a) (k := k) h12 (by omega); rw [e.1, e.2.1] <;> rfl) | (have e := far_in (k := k) h12 (by omega) hp; rw [e.1, e.2.1] <;> rfl)
 replace h12 := XF h12
 refine WK hK3 <| w_seq fun _ hK7 => WS fun _ hK8 => rS (FA 1 rfl fo32_1 rfl) ?_
 obtain ⟨htr, hok⟩ := guardE_zero h12
 refine rS (L1 (Value.slice pA d.Posts.length pC) 0 rfl tk25 rfl rfl) <| rS (LN rfl ut25) <| rS (BI rfl (b_sub ⟨by omega, by omega⟩)) <| rS (MV rfl) <| r_bs (xs := [.tmp 18]) (cs := [(Value.int .i64 a)]) rfl te33 tz3 rfl rfl rfl rfl (by simp [Value.cells]) rfl rfl fun b9 => rS (CL (FnV.eq (in_post 0 (((d.Posts.length : Nat) : Int) - 1) ([a]) (some ⟨b9, 0, none⟩) 1 (by first | assumption | omega | (simp; done) | (simp; omega))) inAll_one) (ha_cons (has_rd_blk 0 rfl rfl (by simp [iC_length]) rfl) <| ha_nil) rfl) <| rS (NT rfl) <| rS (MV rfl) ?_
 refine r_bool (t := 22) rfl (fun h22 => ?_) (fun h22 => ?_)
 · replace h22 := XT h22
   refine rS (OX rfl) <| rS (OX rfl) <| rS (OX rfl) <| rS (OX rfl) <| rS (OX rfl) <| rS (OX rfl) <| rS (OX rfl) <| rS (OX rfl) <| rS (OX rfl) <| rS (PK rfl) ?_
   refine RK hK8 <| w_if_true rfl <| WS fun _ hK10 => rS (AG rfl) <| rS (AG rfl) <| RK hK10 <| w_ret <| Q2 hQ rfl rfl rfl rfl ?_
   first | (have e := far_bad (a := a) (k := k) h12; rw [e.1, e.2.1] <;> rfl) | (have e := far_out (a := a) (k := k) h12 (by omega); rw [e.1, e.2.1] <;> rfl) | (have e := far_in (k := k) h12 (by omega) hp; rw [e.1, e.2.1] <;> rfl)
 replace h22 := XF h22
 refine rS (FA 0 rfl fo32_0 rfl) <| rS (FA 0 rfl fo24_0 rfl) <| rS (L1 (Value.slice kA d.Track.length kC) 1 rfl tk22 rfl rfl) <| rS (LN rfl ut22) <| rS (BI rfl (b_sub ⟨by omega, by omega⟩)) <| rS (MV rfl) <| r_bs (xs := [.tmp 28]) (cs := [(Value.int .i64 k)]) rfl te33 tz3 rfl rfl rfl rfl (by simp [Value.cells]) rfl rfl fun b11 => rS (CL (FnV.eq (in_post 0 (((d.Track.length : Nat) : Int) - 1) ([k]) (some ⟨b11, 0, none⟩) 1 (by first | assumption | omega | (simp; done) | (simp; omega))) inAll_one) (ha_cons (has_rd_blk 0 rfl rfl (by simp [iC_length]) rfl) <| ha_nil) rfl) <| rS (NT rfl) <| rS (PK rfl) ?_
 refine RK hK8 ?_
 refine w_if rfl (fun h32 => ?_) (fun h32 => ?_)
 · replace h32 := XT h32
   refine WS fun _ hK12 => rS (AG rfl) <| rS (AG rfl) <| RK hK12 <| w_ret <| Q2 hQ rfl rfl rfl rfl ?_
   first | (have e := far_bad (a := a) (k := k) h12; rw [e.1, e.2.1] <;> rfl) | (have e := far_out (a := a) (k := k) h12 (by omega); rw [e.1, e.2.1] <;> rfl) | (have e := far_in (k := k) h12 (by omega) hp; rw [e.1, e.2.1] <;> rfl)
 replace h32 := XF h32
 refine WK hK7 <| w_seq fun _ hK13 => w_draw mixed 12 (by kernel_rfl) <| dS (FA 0 rfl fo32_0 rfl) <| dS (LP (TrackV.cells (TrackV.mk (Slc.mk kA d.Track.length kC))) 2 rfl tk24 rfl rfl rfl) <| dS (FA 1 rfl fo32_1 rfl) <| dS (L1 (Value.slice pA d.Posts.length pC) 2 rfl tk25 rfl rfl) <| dS (MV rfl) ?_
 obtain ⟨p, hp⟩ : ∃ y_, d.Posts[(a).toNat]? = some y_ := ⟨d.Posts[(a).toNat]'(by omega), List.getElem?_eq_getElem _⟩
 have hpm : (d.Posts.map PostV.cells)[(a).toNat]? = some (PostV.cells p) := by rw [List.getElem?_map, hp]; rfl
 refine dS (IA ((a).toNat) rfl (has_at 4 rfl) te25 (by decide) (by omega) (by omega)) <| dS (FAR ((((a).toNat) * 7) + 2) rfl (has_at 4 rfl) (Nat.mul_pos (by omega) (by decide)) fo62_2 rfl) <| dS (LEN ((a).toNat) 2 (SpotV.cells p.Spot) rfl tk30 (has_at 4 rfl) hpm rfl (by decide) rfl rfl) ?_
 have hpo := (hok.post _ p hp).2.2.1
 refine dS (MV rfl) <| dS (CL (pfar_c d.Track kA kC p.Spot k (by first | assumption | omega | (simp; done) | (simp; omega)) (by first | assumption | omega | (simp; done) | (simp; omega)) (by first | assumption | omega | (simp; done) | (simp; omega)) (by first | assumption | omega | (simp; done) | (simp; omega)) (by first | assumption | omega | (simp; done) | (simp; omega))) (ha_at 3 rfl rfl <| ha_nil) rfl) <| dS (AG rfl) <| dS (AG rfl) <| d_end <| RK hK13 <| w_ret <| Q2 hQ rfl rfl rfl rfl ?_
 first | (have e := far_bad (a := a) (k := k) h12; rw [e.1, e.2.1] <;> rfl) | (have e := far_out (a := a) (k := k) h12 (by omega); rw [e.1, e.2.1] <;> rfl) | (have e := far_in (k := k) h12 (by omega) hp; rw [e.1, e.2.1] <;> rfl)
end
section
open Go.RowKit
set_option linter.unusedVariables false
set_option maxRecDepth 100000 in
set_option maxHeartbeats 400000 in
theorem ccmp_c (x : Int) (y : Int) :
    FnV Try.prog 117 [(Value.int .i64 x), (Value.int .i64 y)] [] (Value.int .i64 (cmpF x y)) := by
 refine fnV_of go117 Try.func117 rfl rfl fun w0 Q hQ hN => ?_
 try dsimp only
 refine WS fun _ hK1 => rS (AG rfl) <| RK hK1 <| WS fun _ hK2 => rS (MV rfl) <| rS (CL (isnan_c x) (ha_nil) rfl) <| rS (AG rfl) <| RK hK2 <| WS fun _ hK3 => rS (MV rfl) ?_
 refine rS (CL (isnan_c y) (ha_nil) rfl) <| rS (AG rfl) <| RK hK3 <| w_seq fun _ hK4 => WS fun _ hK5 => rS (MV rfl) <| RK hK5 <| w_if_false rfl <| WK hK4 <| w_seq fun _ hK6 => ?_
 refine WS fun _ hK7 => rS (MV rfl) <| RK hK7 <| w_if_false rfl <| WK hK6 <| w_seq fun _ hK8 => WS fun _ hK9 => rS (MV rfl) <| rS (MV rfl) <| rS (BI rfl b_lss) ?_
 refine RK hK9 ?_
 refine w_if rfl (fun hg16 => ?_) (fun hg16 => ?_)
 · replace hg16 := DT hg16
   refine WS fun _ hK10 => rS (AG rfl) <| RK hK10 <| w_ret <| Q1 hQ rfl rfl rfl ?_
   first | exact congrArg (Value.int .i64) (cmp_lt hg16).symm | exact congrArg (Value.int .i64) (cmp_gt hg19).symm | exact congrArg (Value.int .i64) (cmp_eq hg16 hg19).symm
 replace hg16 := DF hg16
 refine WK hK8 <| w_seq fun _ hK11 => WS fun _ hK12 => rS (MV rfl) <| rS (MV rfl) <| rS (BI rfl b_gtr) <| RK hK12 ?_
 refine w_if rfl (fun hg19 => ?_) (fun hg19 => ?_)
 · replace hg19 := DT hg19
   refine WS fun _ hK13 => rS (AG rfl) <| RK hK13 <| w_ret <| Q1 hQ rfl rfl rfl ?_
   first | exact congrArg (Value.int .i64) (cmp_lt hg16).symm | exact congrArg (Value.int .i64) (cmp_gt hg19).symm | exact congrArg (Value.int .i64) (cmp_eq hg16 hg19).symm
 replace hg19 := DF hg19
 refine WK hK11 <| WS fun _ hK14 => rS (AG rfl) <| RK hK14 <| w_ret <| Q1 hQ rfl rfl rfl ?_
 first | exact congrArg (Value.int .i64) (cmp_lt hg16).symm | exact congrArg (Value.int .i64) (cmp_gt hg19).symm | exact congrArg (Value.int .i64) (cmp_eq hg16 hg19).symm
set_option maxRecDepth 100000 in
set_option maxHeartbeats 400000 in
theorem scompare_c (a : List Int) (aA : Option Addr) (aC : Nat) (b : List Int) (bA : Option Addr) (bC : Nat) (ha : a.length ≤ 1000000) (hb : b.length ≤ 1000000) :
    FnV Try.prog 106 [(Value.slice aA a.length aC), (Value.slice bA b.length bC)] [(rd aA a.length 1 (a.map iC)), (rd bA b.length 1 (b.map iC))] (Value.int .i64 (cmpL a b)) := by
 refine fnV_of go106 Try.func106 rfl rfl fun w0 Q hQ hN => ?_
 try dsimp only
 refine WS fun _ hK1 => rS (AG rfl) <| RK hK1 <| w_seq fun _ hK2 => WS fun _ hK3 => rS (MV rfl) <| rS (LN rfl ut33) <| rS (MV rfl) <| RK hK3 <| w_block ?_
 have hinit : (0 ≤ a.length) ∧ (0 ≤ b.length) ∧ (cmpL a b = cmpL (a.drop 0) (b.drop 0)) := by exact ⟨Nat.zero_le _, Nat.zero_le _, rfl⟩
 refine w_loop (ι := { z : Nat // (z ≤ a.length) ∧ (z ≤ b.length) ∧ (cmpL a b = cmpL (a.drop z) (b.drop z)) }) (fun z => [(0, (Value.slice aA a.length aC)), (1, (Value.slice bA b.length bC)), (9, (Value.slice aA a.length aC)), (10, (Value.int .i64 ((a.length : Nat) : Int))), (11, (Value.int .i64 ((z.1 : Nat) : Int)))]) (fun z => [(rd aA a.length 1 (a.map iC)).ro, (rd bA b.length 1 (b.map iC)).ro]) (fun z => a.length - z.1) ⟨0, hinit⟩ (Sub.cons rfl <| Sub.cons rfl <| Sub.cons rfl <| Sub.cons rfl <| Sub.cons rfl <| Sub.nil _) (fun w hs => St.sel [0, 1] rfl rfl hs) ?_
 clear hinit
 rintro ⟨i, ⟨hl2_0, hl2_1, hl2_2⟩⟩ J4 hJ4
 try dsimp only
 refine WS fun _ hK5 => rS (BI rfl b_lss) <| RK hK5 <| w_seq fun _ hK6 => ?_
 refine w_if rfl (fun h7 => ?_) (fun h7 => ?_)
 rotate_left 1
 · replace h7 := DF h7
   refine w_exit <| k_exit_then <| k_exit_then <| k_exit_same <| KK hK2 <| w_seq fun _ hK18 => WS fun _ hK19 => rS (MV rfl) <| rS (LN rfl ut33) <| rS (MV rfl) ?_
   refine rS (LN rfl ut33) <| rS (BI rfl b_lss) <| RK hK19 ?_
   refine w_if rfl (fun hg35 => ?_) (fun hg35 => ?_)
   · replace hg35 := DT hg35
     refine WS fun _ hK20 => rS (AG rfl) <| RK hK20 <| w_ret <| Q1 hQ rfl rfl rfl ?_
     first | exact congrArg (Value.int .i64) (by rw [hl2_2]; exact (cmp_out (by omega) (by omega)).symm) | exact congrArg (Value.int .i64) (by rw [hl2_2]; exact (cmp_at hx hy (by omega)).symm) | exact congrArg (Value.int .i64) (by rw [hl2_2]; exact (cmp_short (by omega) (by omega)).symm) | exact congrArg (Value.int .i64) (by rw [hl2_2]; exact (cmp_same (by omega) (by omega)).symm)
   replace hg35 := DF hg35
   refine WK hK18 <| WS fun _ hK21 => rS (AG rfl) <| RK hK21 <| w_ret <| Q1 hQ rfl rfl rfl ?_
   first | exact congrArg (Value.int .i64) (by rw [hl2_2]; exact (cmp_out (by omega) (by omega)).symm) | exact congrArg (Value.int .i64) (by rw [hl2_2]; exact (cmp_at hx hy (by omega)).symm) | exact congrArg (Value.int .i64) (by rw [hl2_2]; exact (cmp_short (by omega) (by omega)).symm) | exact congrArg (Value.int .i64) (by rw [hl2_2]; exact (cmp_same (by omega) (by omega)).symm)
 replace h7 := DT h7
 refine WK hK6 <| w_seq fun _ hK8 => w_block <| WS fun _ hK9 => rS (MV rfl) ?_
 obtain ⟨x, hx⟩ : ∃ y_, a[i]? = some y_ := ⟨a[i]'(by omega), List.getElem?_eq_getElem _⟩
 have hxm : (a.map iC)[i]? = some (iC x) := by rw [List.getElem?_map, hx]; rfl
 refine rS (IA i rfl (has_at 0 rfl) te33 (by decide) (by omega) (by omega)) <| rS (LE1 i 0 (Value.int .i64 x) rfl tk3 (has_at 0 rfl) hxm rfl (by decide) rfl) <| rS (AG rfl) <| rS (AG rfl) <| RK hK9 <| w_seq fun _ hK10 => WS fun _ hK11 => rS (MV rfl) <| rS (MV rfl) <| rS (LN rfl ut33) ?_
 refine rS (BI rfl b_geq) <| RK hK11 ?_
 refine w_if rfl (fun hg19 => ?_) (fun hg19 => ?_)
 · replace hg19 := DT hg19
   refine WS fun _ hK12 => rS (AG rfl) <| RK hK12 <| w_ret <| Q1 hQ rfl rfl rfl ?_
   first | exact congrArg (Value.int .i64) (by rw [hl2_2]; exact (cmp_out (by omega) (by omega)).symm) | exact congrArg (Value.int .i64) (by rw [hl2_2]; exact (cmp_at hx hy (by omega)).symm) | exact congrArg (Value.int .i64) (by rw [hl2_2]; exact (cmp_short (by omega) (by omega)).symm) | exact congrArg (Value.int .i64) (by rw [hl2_2]; exact (cmp_same (by omega) (by omega)).symm)
 replace hg19 := DF hg19
 refine WK hK10 <| WS fun _ hK13 => rS (MV rfl) <| rS (MV rfl) ?_
 obtain ⟨y, hy⟩ : ∃ y_, b[i]? = some y_ := ⟨b[i]'(by omega), List.getElem?_eq_getElem _⟩
 have hym : (b.map iC)[i]? = some (iC y) := by rw [List.getElem?_map, hy]; rfl
 refine rS (IA i rfl (has_at 1 rfl) te33 (by decide) (by omega) (by omega)) <| rS (LE1 i 0 (Value.int .i64 y) rfl tk3 (has_at 1 rfl) hym rfl (by decide) rfl) <| rS (AG rfl) <| RK hK13 <| WS fun _ hK14 => rS (MV rfl) <| rS (MV rfl) <| rS (CL (ccmp_c x y) (ha_nil) rfl) <| rS (AG rfl) <| RK hK14 ?_
 refine WS fun _ hK15 => rS (MV rfl) <| rS (BI rfl b_neq) <| RK hK15 ?_
 refine w_if rfl (fun hg28 => ?_) (fun hg28 => ?_)
 · replace hg28 := XT hg28
   refine WS fun _ hK16 => rS (MV rfl) <| rS (AG rfl) <| RK hK16 <| w_ret <| Q1 hQ rfl rfl rfl ?_
   first | exact congrArg (Value.int .i64) (by rw [hl2_2]; exact (cmp_out (by omega) (by omega)).symm) | exact congrArg (Value.int .i64) (by rw [hl2_2]; exact (cmp_at hx hy (by omega)).symm) | exact congrArg (Value.int .i64) (by rw [hl2_2]; exact (cmp_short (by omega) (by omega)).symm) | exact congrArg (Value.int .i64) (by rw [hl2_2]; exact (cmp_same (by omega) (by omega)).symm)
 replace hg28 := XF hg28
 refine w_skip <| k_block <| KK hK8 <| w_region <| rS (BI rfl (b_add ⟨by omega, by omega⟩)) <| rS (MV rfl) <| r_nil ?_
 have hb17 : (Value.int .i64 (((i + 1) : Nat) : Int)) = (Value.int .i64 (((i : Nat) : Int) + 1)) := by exact congrArg (Value.int .i64) (by omega)
 refine k_then (hJ4 ⟨(i + 1), ⟨by omega, by omega, hl2_2.trans (cmp_step hx hy (by omega))⟩⟩ _ _ _ rfl (by first | omega | (simp; omega)) (Sub.cons rfl <| Sub.cons rfl <| Sub.cons rfl <| Sub.cons rfl <| sub_val rfl hb17 <| Sub.nil _) (fun w hs => St.sel [0, 1] rfl rfl hs))
set_option maxRecDepth 100000 in
set_option maxHeartbeats 2000000 in
theorem best_c (l : List PostV) (lA : Option Addr) (lC : Nat) (f : Value) (p : Int → Bool) (X : Assn) (hf : ∀ x0, (∃ z : Nat, x0 = (z : Int) ∧ z < 2 ^ l.length) → Clo Try.prog f [.int .i64 x0] [X] (.bool (p x0))) (hlen : l.length ≤ 8) :
    FnX Try.prog 84 [(Value.slice lA l.length lC), f] [(rd lA l.length 7 (l.map PostV.cells)), X] (fun (x : (List Int) × (Option Addr) × Nat × Bool) => (Value.tuple [(Value.slice x.2.1 x.1.length x.2.2.1), (Value.bool x.2.2.2)].toArray)) (fun (x : (List Int) × (Option Addr) × Nat × Bool) => bestTo l.length (fun z => p ((z : Nat) : Int)) (2 ^ l.length) = cond x.2.2.2 (some x.1) none) (fun (x : (List Int) × (Option Addr) × Nat × Bool) => [(own x.2.1 x.2.2.1 3 1 (x.1.map iC))]) := by
 have hp2 := pow_256 hlen
 refine fnX_of go84 Try.func84 rfl rfl fun w0 Q hQ hN => ?_
 try dsimp only
 refine WS fun _ hK1 => rS (AG rfl) <| rS (AG rfl) <| RK hK1 <| w_seq fun _ hK2 => WS fun _ hK3 => rS (MV rfl) <| rS (LN rfl ut25) <| rS (BI rfl (b_shl1 (i := l.length) (by omega) (by omega))) <| rS (MV rfl) ?_
 refine RK hK3 <| w_block <| w_own_nil 3 1 ?_
 have hinit : (0 ≤ 2 ^ l.length) ∧ (bestTo l.length (fun z => p ((z : Nat) : Int)) 0 = cond false (some ([] : List Int)) none) ∧ (([] : List Int).length ≤ 8) := by exact ⟨Nat.zero_le _, rfl, Nat.zero_le _⟩
 refine w_loop (ι := { z : Nat × (List Int) × (Option Addr) × Nat × Bool // (z.1 ≤ 2 ^ l.length) ∧ (bestTo l.length (fun z => p ((z : Nat) : Int)) z.1 = cond z.2.2.2.2 (some z.2.1) none) ∧ (z.2.1.length ≤ 8) }) (fun z => [(0, (Value.slice lA l.length lC)), (1, f), (4, (Value.slice z.1.2.2.1 z.1.2.1.length z.1.2.2.2.1)), (5, (Value.bool z.1.2.2.2.2)), (11, (Value.int .i64 ((2 ^ l.length : Nat) : Int))), (12, (Value.int .i64 ((z.1.1 : Nat) : Int)))]) (fun z => [(own z.1.2.2.1 z.1.2.2.2.1 3 1 (z.1.2.1.map iC)), (rd lA l.length 7 (l.map PostV.cells)).ro, X.ro]) (fun z => 2 ^ l.length - z.1.1) ⟨(0, ([] : List Int), none, 0, false), hinit⟩ (Sub.cons rfl <| Sub.cons rfl <| Sub.cons rfl <| Sub.cons rfl <| Sub.cons rfl <| Sub.cons rfl <| Sub.nil _) (fun w hs => St.sel [0, 1, 2] rfl rfl hs) ?_
 clear hinit
 rintro ⟨⟨zz, fl, fa, fc, bo⟩, ⟨hl2_0, hl2_1, hl2_2⟩⟩ J4 hJ4
 try dsimp only at hl2_0 hl2_1 hl2_2
 try dsimp only
 refine WS fun _ hK5 => rS (BI rfl b_lss) <| RK hK5 <| w_seq fun _ hK6 => ?_
 refine w_if rfl (fun h7 => ?_) (fun h7 => ?_)
 rotate_left 1
 · replace h7 := DF h7
   refine w_exit <| k_exit_then <| k_exit_then <| k_exit_same <| KK hK2 <| WS fun _ hK38 => rS (MV rfl) <| rS (MV rfl) <| rS (AG rfl) <| rS (AG rfl) ?_
   refine RK hK38 <| w_ret ?_
   refine hQ _ _ _ (l_nil (vs := [(Value.slice fa fl.length fc), (Value.bool bo)]) ⟨rfl, rfl, trivial⟩ fun w hs => endX (fl, fa, fc, bo) [0] ?_ ?_ rfl rfl rfl hs)
   · rfl
   · (rw [show 2 ^ l.length = zz by omega]; exact hl2_1)
 replace h7 := DT h7
 refine WK hK6 <| w_seq fun _ hK8 => w_block <| WS fun _ hK9 => rS (MV rfl) <| rS (AG rfl) <| RK hK9 <| WS fun _ hK10 => rS (AG rfl) <| RK hK10 ?_
 refine w_seq fun _ hK11 => WS fun _ hK12 => rS (MV rfl) <| rS (LN rfl ut25) <| rS (MV rfl) <| RK hK12 <| w_block <| w_own_nil 3 1 ?_
 have hinit : (0 ≤ l.length) := by exact Nat.zero_le _
 refine w_loop (ι := { z : Nat × (Option Addr) × Nat // (z.1 ≤ l.length) }) (fun z => [(0, (Value.slice lA l.length lC)), (1, f), (4, (Value.slice fa fl.length fc)), (5, (Value.bool bo)), (6, (Value.int .i64 ((zz : Nat) : Int))), (7, (Value.slice z.1.2.1 ((idxL z.1.1 (bitS zz)).length) z.1.2.2)), (11, (Value.int .i64 ((2 ^ l.length : Nat) : Int))), (12, (Value.int .i64 ((zz : Nat) : Int))), (15, (Value.slice lA l.length lC)), (16, (Value.int .i64 ((l.length : Nat) : Int))), (17, (Value.int .i64 ((z.1.1 : Nat) : Int)))]) (fun z => [(own z.1.2.1 z.1.2.2 3 1 ((idxL z.1.1 (bitS zz)).map iC)), (own fa fc 3 1 (fl.map iC)), (rd lA l.length 7 (l.map PostV.cells)).ro, X.ro]) (fun z => l.length - z.1.1) ⟨(0, none, 0), hinit⟩ (Sub.cons rfl <| Sub.cons rfl <| Sub.cons rfl <| Sub.cons rfl <| Sub.cons rfl <| Sub.cons rfl <| Sub.cons rfl <| Sub.cons rfl <| Sub.cons rfl <| Sub.cons rfl <| Sub.cons rfl <| Sub.nil _) (fun w hs => St.sel [0, 1, 2, 3] rfl rfl hs) ?_
 clear hinit
 rintro ⟨⟨j, la, lc⟩, hl6_0⟩ J13 hJ13
 try dsimp only at hl6_0
 try dsimp only
 refine WS fun _ hK14 => rS (BI rfl b_lss) <| RK hK14 <| w_seq fun _ hK15 => ?_
 refine w_if rfl (fun h16 => ?_) (fun h16 => ?_)
 · replace h16 := DT h16
   refine WK hK15 <| w_seq fun _ hK17 => w_block <| WS fun _ hK18 => rS (MV rfl) <| rS (AG rfl) <| RK hK18 <| WS fun _ hK19 => rS (MV rfl) <| rS (MV rfl) ?_
   refine rS (BI rfl (b_shrN (i := j) (by omega) (by omega))) <| rS (BI rfl (b_and1 (m := (zz / 2 ^ j)) (by omega) (Nat.lt_of_le_of_lt (Nat.div_le_self _ _) (by omega)))) <| rS (BI rfl b_eql) <| RK hK19 ?_
   refine w_if rfl (fun hg24 => ?_) (fun hg24 => ?_)
   rotate_left 1
   · replace hg24 := DF hg24
     refine w_skip <| k_block <| KK hK17 <| w_region <| rS (BI rfl (b_add ⟨by omega, by omega⟩)) <| rS (MV rfl) <| r_nil ?_
     rw [show (idxL j (bitS zz)) = (idxL (j + 1) (bitS zz)) from (idxL_no (fun q => hg24 (bit_iff.2 q))).symm]
     have hb24 : (Value.int .i64 (((j + 1) : Nat) : Int)) = (Value.int .i64 (((j : Nat) : Int) + 1)) := by exact congrArg (Value.int .i64) (by omega)
     refine k_then (hJ13 ⟨((j + 1), la, lc), (by first | omega | (simp only []; omega))⟩ _ _ _ rfl (by first | omega | (simp; omega)) (Sub.cons rfl <| Sub.cons rfl <| Sub.cons rfl <| Sub.cons rfl <| Sub.cons rfl <| Sub.cons rfl <| Sub.cons rfl <| Sub.cons rfl <| Sub.cons rfl <| Sub.cons rfl <| sub_val rfl hb24 <| Sub.nil _) (fun w hs => St.sel [0, 1, 2, 3] rfl rfl hs))
   replace hg24 := DT hg24
   refine w_region <| rS (MV rfl) <| rS (MV rfl) <| r_bs (xs := [.tmp 26]) (cs := [(Value.int .i64 ((j : Nat) : Int))]) rfl te33 tz3 rfl rfl rfl rfl (by simp [Value.cells]) rfl rfl fun b20 => r_append (es2 := (List.map iC (idxL (j + 1) (bitS zz)))) (m' := (idxL (j + 1) (bitS zz)).length) 1 rfl rfl rfl ta33 rfl rfl (by simp) (has_rd_blk (es := List.map iC [((j : Nat) : Int)]) 0 rfl rfl (by simp [iC_length]) rfl) (one_iC _) (by have := idxL_len (n := j) (p := bitS zz); omega) (by have := idxL_len (n := j) (p := bitS zz); simp only [maxLen]; omega) (by rw [idxL_yes (p := bitS zz) (bit_iff.1 hg24)]; simp) (by simp) rfl fun a21 c22 => ?_
   try dsimp only
   refine rS (AG rfl) <| r_nil <| k_block <| KK hK17 <| w_region <| rS (BI rfl (b_add ⟨by omega, by omega⟩)) <| rS (MV rfl) <| r_nil ?_
   have hb23 : (Value.int .i64 (((j + 1) : Nat) : Int)) = (Value.int .i64 (((j : Nat) : Int) + 1)) := by exact congrArg (Value.int .i64) (by omega)
   refine k_then (hJ13 ⟨((j + 1), a21, c22), (by first | omega | (simp only []; omega))⟩ _ _ _ rfl (by first | omega | (simp; omega)) (Sub.cons rfl <| Sub.cons rfl <| Sub.cons rfl <| Sub.cons rfl <| Sub.cons rfl <| Sub.cons rfl <| Sub.cons rfl <| Sub.cons rfl <| Sub.cons rfl <| Sub.cons rfl <| sub_val rfl hb23 <| Sub.nil _) (fun w hs => St.sel [1, 2, 3, 4] rfl rfl hs))
 replace h16 := DF h16
 refine w_exit <| k_exit_then <| k_exit_then <| k_exit_same <| KK hK11 <| w_seq fun _ hK25 => WS fun _ hK26 => ?_
 have hal := idxL_len (n := l.length) (p := bitS zz)
 rw [show idxL j (bitS zz) = idxL l.length (bitS zz) from by rw [show j = l.length by omega]]
 refine rS (MV rfl) <| rS (MV rfl) ?_
 refine r_bool (t := 31) rfl (fun hg31 => ?_) (fun hg31 => ?_)
 rotate_left 1
 · refine rS (OX rfl) ?_
   refine rS (OX rfl) <| rS (OX rfl) <| rS (OX rfl) <| rS (OX rfl) <| rS (OX rfl) <| rS (OX rfl) <| rS (OX rfl) <| rS (OX rfl) <| rS (OX rfl) <| rS (OX rfl) ?_
   refine rS (OX rfl) <| rS (OX rfl) <| rS (OX rfl) <| rS (OX rfl) <| rS (OX rfl) <| rS (OX rfl) <| rS (OX rfl) <| rS (PK rfl) <| RK hK26 <| w_if_false rfl ?_
   refine WK hK25 <| WS fun _ hK35 => rS (MV rfl) <| rS (MV rfl) <| rS (SX (sd_clo rfl rfl rfl (hf ((zz : Nat) : Int) ⟨zz, rfl, by omega⟩) (ha_at 3 rfl rfl <| ha_nil)) rfl rfl) <| RK hK35 ?_
   refine w_if rfl (fun hg53 => ?_) (fun hg53 => ?_)
   rotate_left 1
   · refine w_skip ?_
     refine k_block <| KK hK8 <| w_region <| rS (BI rfl (b_add ⟨by omega, by omega⟩)) <| rS (MV rfl) <| r_nil ?_
     have hb37 : (Value.int .i64 (((zz + 1) : Nat) : Int)) = (Value.int .i64 (((zz : Nat) : Int) + 1)) := by exact congrArg (Value.int .i64) (by omega)
     refine k_then (hJ4 ⟨((zz + 1), fl, fa, fc, bo), ⟨by dsimp only; omega, by dsimp only; first | exact best_worse hl2_1 hg31 (by unfold Worse; omega) | exact best_no hl2_1 hg53 | exact best_yes hl2_1 (fun hb => by first | exact absurd (hg31.symm.trans hb) Bool.false_ne_true | (unfold Worse; omega)) hg53, by dsimp only; omega⟩⟩ _ _ _ rfl (by first | omega | (simp; omega)) (Sub.cons rfl <| Sub.cons rfl <| Sub.cons rfl <| Sub.cons rfl <| Sub.cons rfl <| sub_val rfl hb37 <| Sub.nil _) (fun w hs => St.sel [1, 2, 3] rfl rfl hs))
   refine w_region <| rS (MV rfl) <| rS (AG rfl) <| rS (AG rfl) <| r_nil <| k_block <| KK hK8 <| w_region <| rS (BI rfl (b_add ⟨by omega, by omega⟩)) <| rS (MV rfl) ?_
   refine r_nil ?_
   have hb36 : (Value.int .i64 (((zz + 1) : Nat) : Int)) = (Value.int .i64 (((zz : Nat) : Int) + 1)) := by exact congrArg (Value.int .i64) (by omega)
   refine k_then (hJ4 ⟨((zz + 1), (idxL l.length (bitS zz)), la, lc, true), ⟨by dsimp only; omega, by dsimp only; first | exact best_worse hl2_1 hg31 (by unfold Worse; omega) | exact best_no hl2_1 hg53 | exact best_yes hl2_1 (fun hb => by first | exact absurd (hg31.symm.trans hb) Bool.false_ne_true | (unfold Worse; omega)) hg53, by dsimp only; omega⟩⟩ _ _ _ rfl (by first | omega | (simp; omega)) (Sub.cons rfl <| Sub.cons rfl <| Sub.cons rfl <| Sub.cons rfl <| Sub.cons rfl <| sub_val rfl hb36 <| Sub.nil _) (fun w hs => St.sel [0, 2, 3] rfl rfl hs))
 refine rS (MV rfl) <| rS (LN rfl ut33) <| rS (MV rfl) <| rS (LN rfl ut33) <| rS (BI rfl b_gtr) <| rS (MV rfl) ?_
 refine r_bool (t := 37) rfl (fun hg37 => ?_) (fun hg37 => ?_)
 · replace hg37 := DT hg37
   refine rS (OX rfl) <| rS (OX rfl) <| rS (OX rfl) <| rS (OX rfl) <| rS (OX rfl) <| rS (OX rfl) <| rS (OX rfl) <| rS (OX rfl) <| rS (OX rfl) <| rS (OX rfl) ?_
   refine rS (OX rfl) <| rS (PK rfl) <| rS (PK rfl) <| RK hK26 <| w_if_true rfl <| w_exit <| k_exit_then <| k_exit_same <| KK hK8 <| w_region ?_
   refine rS (BI rfl (b_add ⟨by omega, by omega⟩)) <| rS (MV rfl) <| r_nil ?_
   have hb27 : (Value.int .i64 (((zz + 1) : Nat) : Int)) = (Value.int .i64 (((zz : Nat) : Int) + 1)) := by exact congrArg (Value.int .i64) (by omega)
   refine k_then (hJ4 ⟨((zz + 1), fl, fa, fc, bo), ⟨by dsimp only; omega, by dsimp only; first | exact best_worse hl2_1 hg31 (by unfold Worse; omega) | exact best_no hl2_1 hg53 | exact best_yes hl2_1 (fun hb => by first | exact absurd (hg31.symm.trans hb) Bool.false_ne_true | (unfold Worse; omega)) hg53, by dsimp only; omega⟩⟩ _ _ _ rfl (by first | omega | (simp; omega)) (Sub.cons rfl <| Sub.cons rfl <| Sub.cons rfl <| Sub.cons rfl <| Sub.cons rfl <| sub_val rfl hb27 <| Sub.nil _) (fun w hs => St.sel [1, 2, 3] rfl rfl hs))
 replace hg37 := DF hg37
 refine rS (MV rfl) <| rS (LN rfl ut33) <| rS (MV rfl) <| rS (LN rfl ut33) <| rS (BI rfl b_eql) <| rS (MV rfl) ?_
 refine r_bool (t := 43) rfl (fun hg43 => ?_) (fun hg43 => ?_)
 rotate_left 1
 · replace hg43 := DF hg43
   refine rS (OX rfl) <| rS (OX rfl) <| rS (OX rfl) <| rS (OX rfl) <| rS (PK rfl) <| rS (PK rfl) <| rS (PK rfl) <| RK hK26 <| w_if_false rfl <| WK hK25 ?_
   refine WS fun _ hK32 => rS (MV rfl) <| rS (MV rfl) <| rS (SX (sd_clo rfl rfl rfl (hf ((zz : Nat) : Int) ⟨zz, rfl, by omega⟩) (ha_at 3 rfl rfl <| ha_nil)) rfl rfl) <| RK hK32 ?_
   refine w_if rfl (fun hg53 => ?_) (fun hg53 => ?_)
   rotate_left 1
   · refine w_skip ?_
     refine k_block <| KK hK8 <| w_region <| rS (BI rfl (b_add ⟨by omega, by omega⟩)) <| rS (MV rfl) <| r_nil ?_
     have hb34 : (Value.int .i64 (((zz + 1) : Nat) : Int)) = (Value.int .i64 (((zz : Nat) : Int) + 1)) := by exact congrArg (Value.int .i64) (by omega)
     refine k_then (hJ4 ⟨((zz + 1), fl, fa, fc, bo), ⟨by dsimp only; omega, by dsimp only; first | exact best_worse hl2_1 hg31 (by unfold Worse; omega) | exact best_no hl2_1 hg53 | exact best_yes hl2_1 (fun hb => by first | exact absurd (hg31.symm.trans hb) Bool.false_ne_true | (unfold Worse; omega)) hg53, by dsimp only; omega⟩⟩ _ _ _ rfl (by first | omega | (simp; omega)) (Sub.cons rfl <| Sub.cons rfl <| Sub.cons rfl <| Sub.cons rfl <| Sub.cons rfl <| sub_val rfl hb34 <| Sub.nil _) (fun w hs => St.sel [1, 2, 3] rfl rfl hs))
   refine w_region <| rS (MV rfl) <| rS (AG rfl) <| rS (AG rfl) <| r_nil <| k_block <| KK hK8 <| w_region <| rS (BI rfl (b_add ⟨by omega, by omega⟩)) <| rS (MV rfl) ?_
   refine r_nil ?_
   have hb33 : (Value.int .i64 (((zz + 1) : Nat) : Int)) = (Value.int .i64 (((zz : Nat) : Int) + 1)) := by exact congrArg (Value.int .i64) (by omega)
   refine k_then (hJ4 ⟨((zz + 1), (idxL l.length (bitS zz)), la, lc, true), ⟨by dsimp only; omega, by dsimp only; first | exact best_worse hl2_1 hg31 (by unfold Worse; omega) | exact best_no hl2_1 hg53 | exact best_yes hl2_1 (fun hb => by first | exact absurd (hg31.symm.trans hb) Bool.false_ne_true | (unfold Worse; omega)) hg53, by dsimp only; omega⟩⟩ _ _ _ rfl (by first | omega | (simp; omega)) (Sub.cons rfl <| Sub.cons rfl <| Sub.cons rfl <| Sub.cons rfl <| Sub.cons rfl <| sub_val rfl hb33 <| Sub.nil _) (fun w hs => St.sel [0, 2, 3] rfl rfl hs))
 replace hg43 := DT hg43
 refine rS (MV rfl) <| rS (MV rfl) <| rS (CL (scompare_c (idxL l.length (bitS zz)) la lc fl fa fc (by omega) (by omega)) (ha_cons (has_own_n (n := (idxL l.length (bitS zz)).length) 0 rfl (by simp)) <| ha_cons (has_own_n (n := fl.length) 1 rfl (by simp)) <| ha_nil) rfl) <| rS (BI rfl b_gtr) <| rS (PK rfl) <| rS (PK rfl) <| rS (PK rfl) <| RK hK26 ?_
 refine w_if rfl (fun hg50 => ?_) (fun hg50 => ?_)
 · replace hg50 := DT hg50
   refine w_exit <| k_exit_then <| k_exit_same <| KK hK8 <| w_region <| rS (BI rfl (b_add ⟨by omega, by omega⟩)) <| rS (MV rfl) <| r_nil ?_
   have hb28 : (Value.int .i64 (((zz + 1) : Nat) : Int)) = (Value.int .i64 (((zz : Nat) : Int) + 1)) := by exact congrArg (Value.int .i64) (by omega)
   refine k_then (hJ4 ⟨((zz + 1), fl, fa, fc, bo), ⟨by dsimp only; omega, by dsimp only; first | exact best_worse hl2_1 hg31 (by unfold Worse; omega) | exact best_no hl2_1 hg53 | exact best_yes hl2_1 (fun hb => by first | exact absurd (hg31.symm.trans hb) Bool.false_ne_true | (unfold Worse; omega)) hg53, by dsimp only; omega⟩⟩ _ _ _ rfl (by first | omega | (simp; omega)) (Sub.cons rfl <| Sub.cons rfl <| Sub.cons rfl <| Sub.cons rfl <| Sub.cons rfl <| sub_val rfl hb28 <| Sub.nil _) (fun w hs => St.sel [1, 2, 3] rfl rfl hs))
 replace hg50 := DF hg50
 refine WK hK25 <| WS fun _ hK29 => rS (MV rfl) <| rS (MV rfl) <| rS (SX (sd_clo rfl rfl rfl (hf ((zz : Nat) : Int) ⟨zz, rfl, by omega⟩) (ha_at 3 rfl rfl <| ha_nil)) rfl rfl) <| RK hK29 ?_
 refine w_if rfl (fun hg53 => ?_) (fun hg53 => ?_)
 rotate_left 1
 · refine w_skip ?_
   refine k_block <| KK hK8 <| w_region <| rS (BI rfl (b_add ⟨by omega, by omega⟩)) <| rS (MV rfl) <| r_nil ?_
   have hb31 : (Value.int .i64 (((zz + 1) : Nat) : Int)) = (Value.int .i64 (((zz : Nat) : Int) + 1)) := by exact congrArg (Value.int .i64) (by omega)
   refine k_then (hJ4 ⟨((zz + 1), fl, fa, fc, bo), ⟨by dsimp only; omega, by dsimp only; first | exact best_worse hl2_1 hg31 (by unfold Worse; omega) | exact best_no hl2_1 hg53 | exact best_yes hl2_1 (fun hb => by first | exact absurd (hg31.symm.trans hb) Bool.false_ne_true | (unfold Worse; omega)) hg53, by dsimp only; omega⟩⟩ _ _ _ rfl (by first | omega | (simp; omega)) (Sub.cons rfl <| Sub.cons rfl <| Sub.cons rfl <| Sub.cons rfl <| Sub.cons rfl <| sub_val rfl hb31 <| Sub.nil _) (fun w hs => St.sel [1, 2, 3] rfl rfl hs))
 refine w_region <| rS (MV rfl) <| rS (AG rfl) <| rS (AG rfl) <| r_nil <| k_block <| KK hK8 <| w_region <| rS (BI rfl (b_add ⟨by omega, by omega⟩)) <| rS (MV rfl) ?_
 refine r_nil ?_
 have hb30 : (Value.int .i64 (((zz + 1) : Nat) : Int)) = (Value.int .i64 (((zz : Nat) : Int) + 1)) := by exact congrArg (Value.int .i64) (by omega)
 refine k_then (hJ4 ⟨((zz + 1), (idxL l.length (bitS zz)), la, lc, true), ⟨by dsimp only; omega, by dsimp only; first | exact best_worse hl2_1 hg31 (by unfold Worse; omega) | exact best_no hl2_1 hg53 | exact best_yes hl2_1 (fun hb => by first | exact absurd (hg31.symm.trans hb) Bool.false_ne_true | (unfold Worse; omega)) hg53, by dsimp only; omega⟩⟩ _ _ _ rfl (by first | omega | (simp; omega)) (Sub.cons rfl <| Sub.cons rfl <| Sub.cons rfl <| Sub.cons rfl <| Sub.cons rfl <| sub_val rfl hb30 <| Sub.nil _) (fun w hs => St.sel [0, 2, 3] rfl rfl hs))
end
section
open Go.RowKit
set_option linter.unusedVariables false
set_option maxRecDepth 100000 in
set_option maxHeartbeats 400000 in
theorem few1_c (x : Int) (d : GuardM) (kA : Option Addr) (kC : Nat) (pA : Option Addr) (pC : Nat) (nA : Option Addr) (nC : Nat) (tz : List RA) (tA : Option Addr) (tC : Nat) (gw : Nat) (g1 : Nat) (hin : GuardIn d) (htr : trackOk d.Track = true) (hok : GuardOk d) (htz : tz.length = d.Posts.length) (hx : 0 ≤ x ∧ x < 256) :
    FnV Try.prog 85 [(Value.int .i64 x), (Value.pointer (some ⟨g1, 0, none⟩))] [(rd kA d.Track.length 9 (d.Track.map StretchV.cells)), (rd pA d.Posts.length 7 (d.Posts.map PostV.cells)), (rd nA d.Needs.length 3 (d.Needs.map NeedV.cells)), (rd tA ((timesL d).length) 1 (List.zipWith rowC (timesL d) tz)), (bun (nest rowR (timesL d) tz)), (blk gw 89 (WatchV.cells (WatchV.mk (GuardV.mk (TrackV.mk (Slc.mk kA d.Track.length kC)) (Slc.mk pA d.Posts.length pC) (Slc.mk nA d.Needs.length nC) d.Tower d.Radio) (Slc.mk tA ((timesL d).length) tC)))), (blk g1 84 [(Value.pointer (some ⟨gw, 0, none⟩))])] (Value.bool (decide (StrongP d (bitS x.toNat)))) := by
 have hlen := hin.trk
 have hside := hin.side
 have hpl := hin.pst
 have hnl := hin.nds
 have hnk := hin.nk
 have hpk := hin.pk
 obtain ⟨s, rfl⟩ : ∃ s : Nat, x = (s : Int) := ⟨x.toNat, by omega⟩
 refine fnV_of go85 Try.func85 rfl rfl fun w0 Q hQ hN => ?_
 try dsimp only
 refine WS fun _ hK1 => rS (AG rfl) <| RK hK1 <| WS fun _ hK2 => rS (L1Q 6 rfl tk84 rfl) <| rS (MV rfl) <| rS (CL (wstrong_c d kA kC pA pC nA nC tz tA tC gw s hin htr hok htz (by first | assumption | omega | (simp; done) | (simp; omega))) (ha_at 0 rfl rfl <| ha_at 1 rfl rfl <| ha_at 2 rfl rfl <| ha_at 3 rfl rfl <| ha_at 4 rfl rfl <| ha_at 5 rfl rfl <| ha_nil) rfl) <| rS (AG rfl) <| RK hK2 <| w_ret ?_
 exact Q1 hQ rfl rfl rfl rfl
set_option maxRecDepth 100000 in
set_option maxHeartbeats 400000 in
theorem Fewest_c (d : GuardM) (kA : Option Addr) (kC : Nat) (pA : Option Addr) (pC : Nat) (nA : Option Addr) (nC : Nat) (hin : GuardIn d) :
    FnX Try.prog 44 [(Value.agg (GuardV.cells (GuardV.mk (TrackV.mk (Slc.mk kA d.Track.length kC)) (Slc.mk pA d.Posts.length pC) (Slc.mk nA d.Needs.length nC) d.Tower d.Radio)).toArray)] [(rd kA d.Track.length 9 (d.Track.map StretchV.cells)), (rd pA d.Posts.length 7 (d.Posts.map PostV.cells)), (rd nA d.Needs.length 3 (d.Needs.map NeedV.cells))] (fun (x : (Option Addr) × Nat) => (Value.tuple [(Value.slice x.1 ((fewV d).length) x.2), (Value.int .i64 (fewE d))].toArray)) (fun (x : (Option Addr) × Nat) => True) (fun (x : (Option Addr) × Nat) => [(own x.1 x.2 3 1 ((fewV d).map iC))]) := by
 have hlen := hin.trk
 have hside := hin.side
 have hpl := hin.pst
 have hnl := hin.nds
 have hnk := hin.nk
 have hpk := hin.pk
 refine fnX_of go44 Try.func44 rfl rfl fun w0 Q hQ hN => ?_
 try dsimp only
 refine WS fun _ hK1 => BXA rfl fun b2 => rS (AG rfl) <| rS (AG rfl) <| RK hK1 <| WS fun _ hK3 => rS (LW 0 rfl tk32 rfl rfl) <| cX (popen_c d kA kC pA pC nA nC hin) (ha3 1 2 3 rfl rfl rfl rfl rfl rfl) rfl fun y4 hy5 => ?_
 obtain ⟨ok11, ec6, gw7, tA8, tC9, tz10⟩ := y4
 cases ok11
 · obtain ⟨hec, he⟩ := hy5.2 rfl
   try dsimp only at hec he
   subst hec
   try dsimp only [cond_true, cond_false, List.cons_append, List.nil_append]
   refine rS (MV rfl) <| rS (EX rfl) <| rS (EX rfl) <| AL rfl tz84 fun b12 => SO0 rfl ts84 rfl rfl <| rS (AG rfl) <| RK hK3 <| w_seq fun _ hK13 => WS fun _ hK14 => rS (MV rfl) ?_
   refine rS (BI rfl b_neq) <| RK hK14 ?_
   refine w_if rfl (fun hg13 => ?_) (fun hg13 => ?_)
   rotate_left 1
   · replace hg13 := XF hg13
     exact absurd hg13 he
   replace hg13 := XT hg13
   refine WS fun _ hK15 => rS (MV rfl) ?_
   obtain ⟨hfe, hfv⟩ := few_bad he
   refine r_own_nil 3 1 ?_
   rw [show (own none 0 3 1 ([] : List (List Value))) = own none 0 3 1 ((fewV d).map iC) from by rw [hfv]; rfl]
   refine rS (AG rfl) <| rS (AG rfl) <| RK hK15 <| w_ret ?_
   refine hQ _ _ _ (l_nil (vs := [(Value.slice none 0 0), (Value.int .i64 (guardE d))]) ⟨rfl, rfl, trivial⟩ fun w hs => endX (none, 0) [0] ?_ ?_ rfl rfl rfl hs)
   · (rw [hfe] <;> first | rfl | (rw [hfv]; rfl))
   · trivial
 obtain ⟨he, htz⟩ := hy5.1 rfl
 try dsimp only [cond_true, cond_false, List.cons_append, List.nil_append]
 obtain ⟨htr, hok⟩ := guardE_zero he
 have hn8 := hok.len
 have hp2 := pow_256 hn8.1
 refine rS (MV rfl) <| rS (EX rfl) <| rS (EX rfl) <| AL rfl tz84 fun b16 => SO0 rfl ts84 rfl rfl <| rS (AG rfl) <| RK hK3 <| w_seq fun _ hK17 => WS fun _ hK18 => rS (MV rfl) ?_
 refine rS (SX (sd_bin (r := .bool false) rfl rfl rfl b_neq) rfl rfl) <| RK hK18 <| w_if_false rfl <| WK hK17 <| WS fun _ hK19 => rS (FA 1 rfl fo32_1 rfl) <| rS (L1 (Value.slice pA d.Posts.length pC) 4 rfl tk25 rfl rfl) <| rS (FU rfl) <| cX (best_c d.Posts pA pC (Value.func (.func 85) [].toArray [(Value.pointer (some ⟨b16, 0, none⟩))].toArray) (fun u20 => (decide (StrongP d (bitS u20.toNat)))) (bun [(rd kA d.Track.length 9 (d.Track.map StretchV.cells)), (rd pA d.Posts.length 7 (d.Posts.map PostV.cells)), (rd nA d.Needs.length 3 (d.Needs.map NeedV.cells)), (rd tA8 ((timesL d).length) 1 (List.zipWith rowC (timesL d) tz10)), (bun (nest rowR (timesL d) tz10)), (blk gw7 89 (WatchV.cells (WatchV.mk (GuardV.mk (TrackV.mk (Slc.mk kA d.Track.length kC)) (Slc.mk pA d.Posts.length pC) (Slc.mk nA d.Needs.length nC) d.Tower d.Radio) (Slc.mk tA8 ((timesL d).length) tC9)))), (blk b16 84 [(Value.pointer (some ⟨gw7, 0, none⟩))])]) (by intro u20 hmem; exact clo_of (fi := []) (ca := [(Value.pointer (some ⟨b16, 0, none⟩))]) (fnV_bun (few1_c u20 d kA kC pA pC nA nC tz10 tA8 tC9 gw7 b16 (by first | assumption | (obtain ⟨z_, hz1, hz2⟩ := hmem; omega) | omega) (by first | assumption | (obtain ⟨z_, hz1, hz2⟩ := hmem; omega) | omega) (by first | assumption | (obtain ⟨z_, hz1, hz2⟩ := hmem; omega) | omega) (by first | assumption | (obtain ⟨z_, hz1, hz2⟩ := hmem; omega) | omega) (by first | assumption | (obtain ⟨z_, hz1, hz2⟩ := hmem; omega) | omega)) (ha_at 0 rfl rfl <| ha_at 1 rfl rfl <| ha_at 2 rfl rfl <| ha_at 3 rfl rfl <| ha_at 4 rfl rfl <| ha_at 5 rfl rfl <| ha_at 6 rfl rfl <| ha_nil))) (by omega)) (ha_at 6 rfl rfl <| ha_cons (has_bun (ha_at 5 rfl rfl <| ha_at 6 rfl rfl <| ha_at 7 rfl rfl <| ha_cons (has_own_n (n := (timesL d).length) 2 rfl (rows_len (by rw [timesL_len]; exact htz))) <| ha_cons (bun_bund 3 rfl rowO_R) <| ha_at 1 rfl rfl <| ha_at 0 rfl rfl <| ha_nil)) <| ha_nil) rfl fun y21 hy22 => ?_
 obtain ⟨fl23, a24, c25, bo26⟩ := y21
 try dsimp only
 have hbest := hy22
 refine rS (MV rfl) <| rS (EX rfl) <| rS (EX rfl) <| rS (AG rfl) <| rS (AG rfl) <| RK hK19 <| w_seq fun _ hK27 => WS fun _ hK28 => rS (MV rfl) <| rS (NT rfl) ?_
 refine RK hK28 ?_
 refine w_if rfl (fun hg24 => ?_) (fun hg24 => ?_)
 rotate_left 1
 · rw [Bool.not_eq_false'] at hg24
   refine WK hK27 <| WS fun _ hK30 => ?_
   try dsimp only at hbest
   obtain ⟨hfe, hfv⟩ := few_some he (by rw [hg24] at hbest; exact hbest)
   rw [← hfv]
   refine rS (MV rfl) <| rS (AG rfl) <| rS (AG rfl) <| RK hK30 <| w_ret ?_
   refine hQ _ _ _ (l_nil (vs := [(Value.slice a24 ((fewV d).length) c25), (Value.int .i64 0)]) ⟨rfl, rfl, trivial⟩ fun w hs => endX (a24, c25) [0] ?_ ?_ rfl rfl rfl hs)
   · (rw [hfe] <;> first | rfl | (rw [hfv]; rfl))
   · trivial
 rw [Bool.not_eq_true'] at hg24
 refine WS fun _ hK29 => ?_
 try dsimp only at hbest
 obtain ⟨hfe, hfv⟩ := few_none he (by rw [hg24] at hbest; exact hbest)
 refine r_own_nil 3 1 ?_
 rw [show (own none 0 3 1 ([] : List (List Value))) = own none 0 3 1 ((fewV d).map iC) from by rw [hfv]; rfl]
 refine rS (AG rfl) <| rS (AG rfl) <| RK hK29 <| w_ret ?_
 refine hQ _ _ _ (l_nil (vs := [(Value.slice none 0 0), (Value.int .i64 6)]) ⟨rfl, rfl, trivial⟩ fun w hs => endX (none, 0) [0] ?_ ?_ rfl rfl rfl hs)
 · (rw [hfe] <;> first | rfl | (rw [hfv]; rfl))
 · trivial
end
section
open Go.RowKit
set_option linter.unusedVariables false
set_option maxRecDepth 100000 in
set_option maxHeartbeats 400000 in
theorem Time_c (d : GuardM) (kA : Option Addr) (kC : Nat) (pA : Option Addr) (pC : Nat) (nA : Option Addr) (nC : Nat) (a : Int) (k : Int) (hin : GuardIn d) :
    FnV Try.prog 17 [(Value.agg (GuardV.cells (GuardV.mk (TrackV.mk (Slc.mk kA d.Track.length kC)) (Slc.mk pA d.Posts.length pC) (Slc.mk nA d.Needs.length nC) d.Tower d.Radio)).toArray), (Value.int .i64 a), (Value.int .i64 k)] [(rd kA d.Track.length 9 (d.Track.map StretchV.cells)), (rd pA d.Posts.length 7 (d.Posts.map PostV.cells)), (rd nA d.Needs.length 3 (d.Needs.map NeedV.cells))] (Value.tuple [(Value.int .i64 (timeV d a k)), (Value.int .i64 (farE d a k))].toArray) := by
 have hlen := hin.trk
 have hside := hin.side
 have hpl := hin.pst
 have hnl := hin.nds
 have hnk := hin.nk
 have hpk := hin.pk
 refine fnV_of go17 Try.func17 rfl rfl fun w0 Q hQ hN => ?_
 try dsimp only
 refine WS fun _ hK1 => BXA rfl fun b2 => rS (AG rfl) <| rS (AG rfl) <| RK hK1 <| WS fun _ hK3 => rS (LW 0 rfl tk32 rfl rfl) <| cX (popen_c d kA kC pA pC nA nC hin) (ha3 1 2 3 rfl rfl rfl rfl rfl rfl) rfl fun y4 hy5 => ?_
 obtain ⟨ok11, ec6, gw7, tA8, tC9, tz10⟩ := y4
 cases ok11
 · obtain ⟨hec, he⟩ := hy5.2 rfl
   try dsimp only at hec he
   subst hec
   try dsimp only [cond_true, cond_false, List.cons_append, List.nil_append]
   refine rS (MV rfl) <| rS (EX rfl) <| rS (EX rfl) <| rS (AG rfl) <| rS (AG rfl) <| RK hK3 <| w_seq fun _ hK12 => WS fun _ hK13 => rS (MV rfl) <| rS (BI rfl b_neq) ?_
   refine RK hK13 ?_
   refine w_if rfl (fun hg16 => ?_) (fun hg16 => ?_)
   rotate_left 1
   · replace hg16 := XF hg16
     exact absurd hg16 he
   replace hg16 := XT hg16
   refine WS fun _ hK14 => rS (MV rfl) <| rS (AG rfl) <| rS (AG rfl) <| RK hK14 <| w_ret <| Q2 hQ rfl rfl rfl rfl ?_
   first | (have e := far_bad (a := a) (k := k) he; rw [e.1, e.2.2] <;> rfl) | (have e := far_out (a := a) (k := k) he (by omega); rw [e.1, e.2.2] <;> rfl) | (have e := far_in (k := k) he (by omega) hp; rw [e.1, e.2.2]; have hte : tm = timeF d.Track _ k := (by rw [hmt] at htm; have e0 := timesP_at htm; rw [Int.toNat_of_nonneg (by omega)] at e0; exact e0); rw [hte] <;> rfl)
 obtain ⟨he, htz⟩ := hy5.1 rfl
 try dsimp only [cond_true, cond_false, List.cons_append, List.nil_append]
 obtain ⟨htr, hok⟩ := guardE_zero he
 have htl := timesL_len (d := d)
 try dsimp only at htz
 refine rS (MV rfl) <| rS (EX rfl) <| rS (EX rfl) <| rS (AG rfl) <| rS (AG rfl) <| RK hK3 <| w_seq fun _ hK15 => WS fun _ hK16 => rS (MV rfl) <| rS (SX (sd_bin (r := .bool false) rfl rfl rfl b_neq) rfl rfl) ?_
 refine RK hK16 <| w_if_false rfl <| WK hK15 <| w_seq fun _ hK17 => WS fun _ hK18 => rS (FA 1 rfl fo32_1 rfl) <| rS (L1 (Value.slice pA d.Posts.length pC) 3 rfl tk25 rfl rfl) <| rS (LN rfl ut25) <| rS (BI rfl (b_sub ⟨by omega, by omega⟩)) <| rS (MV rfl) ?_
 refine r_bs (xs := [.tmp 22]) (cs := [(Value.int .i64 a)]) rfl te33 tz3 rfl rfl rfl rfl (by simp [Value.cells]) rfl rfl fun b19 => rS (CL (FnV.eq (in_post 0 (((d.Posts.length : Nat) : Int) - 1) ([a]) (some ⟨b19, 0, none⟩) 1 (by first | assumption | omega | (simp; done) | (simp; omega))) inAll_one) (ha_cons (has_rd_blk 0 rfl rfl (by simp [iC_length]) rfl) <| ha_nil) rfl) <| rS (NT rfl) <| rS (MV rfl) ?_
 refine r_bool (t := 26) rfl (fun hg26 => ?_) (fun hg26 => ?_)
 · replace hg26 := XT hg26
   refine rS (OX rfl) <| rS (OX rfl) <| rS (OX rfl) <| rS (OX rfl) <| rS (OX rfl) <| rS (OX rfl) <| rS (OX rfl) <| rS (OX rfl) <| rS (OX rfl) <| rS (PK rfl) ?_
   refine RK hK18 <| w_if_true rfl <| WS fun _ hK20 => rS (AG rfl) <| rS (AG rfl) <| RK hK20 <| w_ret <| Q2 hQ rfl rfl rfl rfl ?_
   first | (have e := far_bad (a := a) (k := k) he; rw [e.1, e.2.2] <;> rfl) | (have e := far_out (a := a) (k := k) he (by omega); rw [e.1, e.2.2] <;> rfl) | (have e := far_in (k := k) he (by omega) hp; rw [e.1, e.2.2]; have hte : tm = timeF d.Track _ k := (by rw [hmt] at htm; have e0 := timesP_at htm; rw [Int.toNat_of_nonneg (by omega)] at e0; exact e0); rw [hte] <;> rfl)
 replace hg26 := XF hg26
 refine rS (FA 0 rfl fo32_0 rfl) <| rS (FA 0 rfl fo24_0 rfl) <| rS (L1 (Value.slice kA d.Track.length kC) 4 rfl tk22 rfl rfl) <| rS (LN rfl ut22) <| rS (BI rfl (b_sub ⟨by omega, by omega⟩)) <| rS (MV rfl) <| r_bs (xs := [.tmp 32]) (cs := [(Value.int .i64 k)]) rfl te33 tz3 rfl rfl rfl rfl (by simp [Value.cells]) rfl rfl fun b21 => rS (CL (FnV.eq (in_post 0 (((d.Track.length : Nat) : Int) - 1) ([k]) (some ⟨b21, 0, none⟩) 1 (by first | assumption | omega | (simp; done) | (simp; omega))) inAll_one) (ha_cons (has_rd_blk 0 rfl rfl (by simp [iC_length]) rfl) <| ha_nil) rfl) <| rS (NT rfl) <| rS (PK rfl) ?_
 refine RK hK18 ?_
 refine w_if rfl (fun hg36 => ?_) (fun hg36 => ?_)
 · replace hg36 := XT hg36
   refine WS fun _ hK22 => rS (AG rfl) <| rS (AG rfl) <| RK hK22 <| w_ret <| Q2 hQ rfl rfl rfl rfl ?_
   first | (have e := far_bad (a := a) (k := k) he; rw [e.1, e.2.2] <;> rfl) | (have e := far_out (a := a) (k := k) he (by omega); rw [e.1, e.2.2] <;> rfl) | (have e := far_in (k := k) he (by omega) hp; rw [e.1, e.2.2]; have hte : tm = timeF d.Track _ k := (by rw [hmt] at htm; have e0 := timesP_at htm; rw [Int.toNat_of_nonneg (by omega)] at e0; exact e0); rw [hte] <;> rfl)
 replace hg36 := XF hg36
 refine WK hK17 <| WS fun _ hK23 => rS (MV rfl) <| rS (SX (sd_nil_p rfl rfl) rfl rfl) <| rS (FA 7 rfl fo89_1 rfl) <| rS (L1 (Value.slice tA8 ((timesL d).length) tC9) 2 rfl tk87 rfl rfl) <| rS (MV rfl) ?_
 obtain ⟨ms, hms⟩ : ∃ y_, (timesL d)[(a).toNat]? = some y_ := ⟨(timesL d)[(a).toNat]'(by omega), List.getElem?_eq_getElem _⟩
 obtain ⟨msa, hmsa⟩ : ∃ y_, tz10[(a).toNat]? = some y_ := ⟨tz10[(a).toNat]'(by omega), List.getElem?_eq_getElem _⟩
 have hmsm : (List.zipWith rowC (timesL d) tz10)[(a).toNat]? = some (rowC ms msa) := zip_get hms hmsa
 refine rS (IA ((a).toNat) rfl (has_own_n (n := (timesL d).length) 3 rfl (rows_len (by rw [timesL_len]; exact htz))) te87 (by decide) (by omega) (by omega)) <| rS (LE1 ((a).toNat) 0 (Value.slice msa.1 ms.length msa.2) rfl tk33 (has_own_n (n := (timesL d).length) 3 rfl (rows_len (by rw [timesL_len]; exact htz))) hmsm rfl (by decide) rfl) ?_
 have hp : d.Posts[a.toNat]? = some (d.Posts[a.toNat]'(by omega)) := List.getElem?_eq_getElem _
 have hmt := timesL_at hp hms
 have hml : ms.length = d.Track.length := by rw [hmt]; exact timesP_len
 refine rS (MV rfl) ?_
 obtain ⟨tm, htm⟩ : ∃ y_, ms[(k).toNat]? = some y_ := ⟨ms[(k).toNat]'(by omega), List.getElem?_eq_getElem _⟩
 have htmm : (ms.map iC)[(k).toNat]? = some (iC tm) := by rw [List.getElem?_map, htm]; rfl
 refine rS (IA ((k).toNat) rfl (show Has _ (rd msa.1 ms.length 1 (ms.map iC)).holds from (fun w hw => (bun_bund 4 rfl rowO_R) w hw _ (mem_nest hms hmsa (by simp [rowR])))) te33 (by decide) (by omega) (by omega)) <| rS (LE1 ((k).toNat) 0 (Value.int .i64 tm) rfl tk3 (show Has _ (rd msa.1 ms.length 1 (ms.map iC)).holds from (fun w hw => (bun_bund 4 rfl rowO_R) w hw _ (mem_nest hms hmsa (by simp [rowR])))) htmm rfl (by decide) rfl) <| rS (AG rfl) <| rS (AG rfl) <| RK hK23 <| w_ret <| Q2 hQ rfl rfl rfl rfl ?_
 first | (have e := far_bad (a := a) (k := k) he; rw [e.1, e.2.2] <;> rfl) | (have e := far_out (a := a) (k := k) he (by omega); rw [e.1, e.2.2] <;> rfl) | (have e := far_in (k := k) he (by omega) hp; rw [e.1, e.2.2]; have hte : tm = timeF d.Track _ k := (by rw [hmt] at htm; have e0 := timesP_at htm; rw [Int.toNat_of_nonneg (by omega)] at e0; exact e0); rw [hte] <;> rfl)
end
section
open Go.RowKit
set_option linter.unusedVariables false
set_option maxRecDepth 100000 in
set_option maxHeartbeats 400000 in
theorem lspan_c (x : Int) (y : Int) :
    FnV Try.prog 83 [(Value.int .i64 x), (Value.int .i64 y)] [] (Value.agg (SpanV.cells (SpanV.mk x y)).toArray) := by
 refine fnV_of go83 Try.func83 rfl rfl fun w0 Q hQ hN => ?_
 try dsimp only
 refine WS fun _ hK1 => AL rfl tz28 fun b2 => RK hK1 <| WS fun _ hK3 => rS (MV rfl) <| rS (MV rfl) <| rS (SX (sd_build (xs := [(0, .tmp 5), (1, .tmp 6)]) (cs := (SpanV.cells (SpanV.mk x y))) rfl rfl (built_of tb28 rfl)) rfl rfl) <| SW0 rfl ts28 rfl <| RK hK3 <| w_ret ?_
 refine hQ _ _ _ (l_nil (vs := [(Value.agg (SpanV.cells (SpanV.mk x y)).toArray)]) ⟨⟨_, rfl, .inl ⟨_, _, tk28, at_blk (vs := (SpanV.cells (SpanV.mk x y))) 0 rfl rfl, rfl, rfl⟩⟩, trivial⟩ fun w hs => endV ?_ hs)
 show (Value.agg (SpanV.cells (SpanV.mk x y)).toArray) = (Value.agg (SpanV.cells (SpanV.mk x y)).toArray)
 clear hs w hQ hN hK3 hK1
 rfl
set_option maxRecDepth 100000 in
set_option maxHeartbeats 400000 in
theorem exguard_c (r : Int) :
    FnX Try.prog 42 [(Value.int .i64 r)] [] (fun (x : (Option Addr) × Nat × (Option Addr) × Nat × (Option Addr) × Nat) => (Value.agg (GuardV.cells (GuardV.mk (TrackV.mk (Slc.mk x.1 ((exG r 100).Track.length) x.2.1)) (Slc.mk x.2.2.1 ((exG r 100).Posts.length) x.2.2.2.1) (Slc.mk x.2.2.2.2.1 ((exG r 100).Needs.length) x.2.2.2.2.2) ((exG r 100).Tower) ((exG r 100).Radio))).toArray)) (fun (x : (Option Addr) × Nat × (Option Addr) × Nat × (Option Addr) × Nat) => True) (fun (x : (Option Addr) × Nat × (Option Addr) × Nat × (Option Addr) × Nat) => [(own x.1 x.2.1 110 9 ((exG r 100).Track.map StretchV.cells)), (own x.2.2.1 x.2.2.2.1 62 7 ((exG r 100).Posts.map PostV.cells)), (own x.2.2.2.2.1 x.2.2.2.2.2 57 3 ((exG r 100).Needs.map NeedV.cells))]) := by
 refine fnX_of go42 Try.func42 rfl rfl fun w0 Q hQ hN => ?_
 try dsimp only
 refine WS fun _ hK1 => AL rfl tz32 fun b2 => RK hK1 <| WS fun _ hK3 => rS (CL (lspan_c 10000 10200) (ha_nil) rfl) <| rS (SX (sd_build (xs := [(0, .const (Value.int .i64 1)), (1, .tmp 3)]) (cs := (StretchV.cells (StretchV.mk 1 (SpanV.mk 10000 10200) (SpanV.mk 0 0) (SpanV.mk 0 0) 0 0))) rfl rfl (built_of tb110 rfl)) rfl rfl) <| rS (CL (lspan_c 5000 5000) (ha_nil) rfl) <| rS (CL (lspan_c 2000 2000) (ha_nil) rfl) <| rS (SX (sd_build (xs := [(0, .const (Value.int .i64 2)), (1, .tmp 5), (3, .tmp 6), (4, .const (Value.int .u8 1))]) (cs := (StretchV.cells (StretchV.mk 2 (SpanV.mk 5000 5000) (SpanV.mk 0 0) (SpanV.mk 2000 2000) 1 0))) rfl rfl (built_of tb110 rfl)) rfl rfl) <| r_bs (xs := [.tmp 4, .tmp 7]) (cs := ((StretchV.cells (StretchV.mk 1 (SpanV.mk 10000 10200) (SpanV.mk 0 0) (SpanV.mk 0 0) 0 0)) ++ (StretchV.cells (StretchV.mk 2 (SpanV.mk 5000 5000) (SpanV.mk 0 0) (SpanV.mk 2000 2000) 1 0)))) rfl te22 tz110 rfl rfl rfl rfl (by simp [Value.cells, StretchV.cells_length]) rfl rfl fun b4 => ?_
 refine rS (SX (sd_build (xs := [(0, .tmp 8)]) (cs := (TrackV.cells (TrackV.mk (Slc.mk (some ⟨b4, 0, none⟩) 2 2)))) rfl rfl (built_of tb24 rfl)) rfl rfl) <| rS (CL (lspan_c 9000 9000) (ha_nil) rfl) <| rS (SX (sd_build (xs := [(1, .tmp 10)]) (cs := (SpotV.cells (SpotV.mk 0 (SpanV.mk 9000 9000)))) rfl rfl (built_of tb30 rfl)) rfl rfl) <| rS (SX (sd_build (xs := [(0, .const (Value.int .i64 2)), (1, .const (Value.int .u8 1)), (2, .tmp 11), (3, .const (Value.int .i64 20)), (4, .const (Value.int .i64 10))]) (cs := (PostV.cells (PostV.mk 2 1 (SpotV.mk 0 (SpanV.mk 9000 9000)) 20 10))) rfl rfl (built_of tb62 rfl)) rfl rfl) <| rS (CL (lspan_c 1000 1000) (ha_nil) rfl) <| rS (SX (sd_build (xs := [(0, .const (Value.int .i64 1)), (1, .tmp 13)]) (cs := (SpotV.cells (SpotV.mk 1 (SpanV.mk 1000 1000)))) rfl rfl (built_of tb30 rfl)) rfl rfl) <| rS (SX (sd_build (xs := [(0, .const (Value.int .i64 5)), (1, .const (Value.int .u8 1)), (2, .tmp 14), (3, .const (Value.int .i64 30)), (4, .const (Value.int .i64 10))]) (cs := (PostV.cells (PostV.mk 5 1 (SpotV.mk 1 (SpanV.mk 1000 1000)) 30 10))) rfl rfl (built_of tb62 rfl)) rfl rfl) <| rS (CL (lspan_c 4000 4000) (ha_nil) rfl) <| rS (SX (sd_build (xs := [(0, .const (Value.int .i64 1)), (1, .tmp 16)]) (cs := (SpotV.cells (SpotV.mk 1 (SpanV.mk 4000 4000)))) rfl rfl (built_of tb30 rfl)) rfl rfl) <| rS (SX (sd_build (xs := [(0, .const (Value.int .i64 6)), (1, .const (Value.int .u8 1)), (2, .tmp 17), (3, .const (Value.int .i64 10)), (4, .const (Value.int .i64 10))]) (cs := (PostV.cells (PostV.mk 6 1 (SpotV.mk 1 (SpanV.mk 4000 4000)) 10 10))) rfl rfl (built_of tb62 rfl)) rfl rfl) ?_
 refine r_bs (xs := [.tmp 12, .tmp 15, .tmp 18]) (cs := ((PostV.cells (PostV.mk 2 1 (SpotV.mk 0 (SpanV.mk 9000 9000)) 20 10)) ++ (PostV.cells (PostV.mk 5 1 (SpotV.mk 1 (SpanV.mk 1000 1000)) 30 10)) ++ (PostV.cells (PostV.mk 6 1 (SpotV.mk 1 (SpanV.mk 4000 4000)) 10 10)))) rfl te25 tz62 rfl rfl rfl rfl (by simp [Value.cells, PostV.cells_length]) rfl rfl fun b5 => rS (SX (sd_build (xs := [(0, .const (Value.int .i64 1)), (1, .const (Value.int .u8 1)), (2, .const (Value.int .i64 100))]) (cs := (NeedV.cells (NeedV.mk 1 1 100))) rfl rfl (built_of tb57 rfl)) rfl rfl) <| r_bs (xs := [.tmp 20]) (cs := (NeedV.cells (NeedV.mk 1 1 100))) rfl te26 tz57 rfl rfl rfl rfl (by simp [Value.cells, NeedV.cells_length]) rfl rfl fun b6 => rS (CL (lspan_c 5000 5000) (ha_nil) rfl) <| rS (SX (sd_build (xs := [(1, .tmp 22)]) (cs := (SpotV.cells (SpotV.mk 0 (SpanV.mk 5000 5000)))) rfl rfl (built_of tb30 rfl)) rfl rfl) <| rS (MV rfl) <| rS (SX (sd_build (xs := [(0, .tmp 9), (1, .tmp 19), (2, .tmp 21), (3, .tmp 23), (4, .tmp 24)]) (cs := (GuardV.cells (GuardV.mk (TrackV.mk (Slc.mk (some ⟨b4, 0, none⟩) 2 2)) (Slc.mk (some ⟨b5, 0, none⟩) 3 3) (Slc.mk (some ⟨b6, 0, none⟩) 1 1) (SpotV.mk 0 (SpanV.mk 5000 5000)) r))) rfl rfl (built_of tb32 rfl)) rfl rfl) <| r_blk_own (es := ((exG r 100).Track.map StretchV.cells)) (C' := [_, _, (own (some ⟨b4, 0, none⟩) 2 110 9 ((exG r 100).Track.map StretchV.cells)), _]) 2 rfl (map_len StretchV.cells_length _) rfl (by show _ ≤ maxLen; exact Nat.le_trans (m := 10) (by first | decide | (show (1 : Nat) ≤ 10; decide) | (show (2 : Nat) ≤ 10; decide) | (show (3 : Nat) ≤ 10; decide)) (by decide)) rfl <| r_blk_own (es := ((exG r 100).Posts.map PostV.cells)) (C' := [_, (own (some ⟨b5, 0, none⟩) 3 62 7 ((exG r 100).Posts.map PostV.cells)), _, _]) 1 rfl (map_len PostV.cells_length _) rfl (by show _ ≤ maxLen; exact Nat.le_trans (m := 10) (by first | decide | (show (1 : Nat) ≤ 10; decide) | (show (2 : Nat) ≤ 10; decide) | (show (3 : Nat) ≤ 10; decide)) (by decide)) rfl <| r_blk_own (es := ((exG r 100).Needs.map NeedV.cells)) (C' := [(own (some ⟨b6, 0, none⟩) 1 57 3 ((exG r 100).Needs.map NeedV.cells)), _, _, _]) 0 rfl (map_len NeedV.cells_length _) rfl (by show _ ≤ maxLen; exact Nat.le_trans (m := 10) (by first | decide | (show (1 : Nat) ≤ 10; decide) | (show (2 : Nat) ≤ 10; decide) | (show (3 : Nat) ≤ 10; decide)) (by decide)) rfl ?_
 refine SW3 rfl ts32 rfl <| RK hK3 <| w_ret ?_
 refine hQ _ _ _ (l_nil (vs := [(Value.agg (GuardV.cells (GuardV.mk (TrackV.mk (Slc.mk (some ⟨b4, 0, none⟩) 2 2)) (Slc.mk (some ⟨b5, 0, none⟩) 3 3) (Slc.mk (some ⟨b6, 0, none⟩) 1 1) (SpotV.mk 0 (SpanV.mk 5000 5000)) r)).toArray)]) ⟨⟨_, rfl, .inl ⟨_, _, tk32, at_blk (vs := (GuardV.cells (GuardV.mk (TrackV.mk (Slc.mk (some ⟨b4, 0, none⟩) 2 2)) (Slc.mk (some ⟨b5, 0, none⟩) 3 3) (Slc.mk (some ⟨b6, 0, none⟩) 1 1) (SpotV.mk 0 (SpanV.mk 5000 5000)) r))) 3 rfl rfl, rfl, rfl⟩⟩, trivial⟩ fun w hs => endX ((some ⟨b4, 0, none⟩), 2, (some ⟨b5, 0, none⟩), 3, (some ⟨b6, 0, none⟩), 1) [2, 1, 0] ?_ ?_ rfl rfl rfl hs)
 · rfl
 · trivial
end
section
open Go.RowKit
set_option linter.unusedVariables false
set_option maxRecDepth 100000 in
set_option maxHeartbeats 400000 in
theorem exfar_c (a : Int) (n : Int) (t : Int) :
    FnV Try.prog 41 [(Value.int .i64 a), (Value.int .i64 n), (Value.int .i64 t)] [] (Value.bool (decide (farOk a n t))) := by
 refine fnV_of go41 Try.func41 rfl rfl fun w0 Q hQ hN => ?_
 try dsimp only
 refine WS fun _ hK1 => rS (AG rfl) <| RK hK1 <| WS fun _ hK2 => cX (exguard_c 6000) (ha_nil) rfl fun y3 hy4 => ?_
 obtain ⟨a15, c16, a27, c28, a39, c310⟩ := y3
 try dsimp only
 refine rS (MV rfl) <| rS (CL (Far_c (GuardM.mk ((exG 6000 100).Track) ((exG 6000 100).Posts) ((exG 6000 100).Needs) ((exG 6000 100).Tower) ((exG 6000 100).Radio)) a15 c16 a27 c28 a39 c310 a 1 (by exact exp_in)) (ha_cons (has_own_n (n := ((exG 6000 100).Track).length) 0 rfl (by simp)) <| ha_cons (has_own_n (n := ((exG 6000 100).Posts).length) 1 rfl (by simp)) <| ha_cons (has_own_n (n := ((exG 6000 100).Needs).length) 2 rfl (by simp)) <| ha_nil) rfl) <| rS (MV rfl) <| rS (EX rfl) <| rS (EX rfl) <| rS (AG rfl) <| rS (AG rfl) <| RK hK2 <| WS fun _ hK11 => cX (exguard_c 6000) (ha_nil) rfl fun y12 hy13 => ?_
 obtain ⟨a114, c115, a216, c217, a318, c319⟩ := y12
 try dsimp only
 refine rS (MV rfl) <| rS (CL (Time_c (GuardM.mk ((exG 6000 100).Track) ((exG 6000 100).Posts) ((exG 6000 100).Needs) ((exG 6000 100).Tower) ((exG 6000 100).Radio)) a114 c115 a216 c217 a318 c319 a 1 (by exact exp_in)) (ha_cons (has_own_n (n := ((exG 6000 100).Track).length) 0 rfl (by simp)) <| ha_cons (has_own_n (n := ((exG 6000 100).Posts).length) 1 rfl (by simp)) <| ha_cons (has_own_n (n := ((exG 6000 100).Needs).length) 2 rfl (by simp)) <| ha_nil) rfl) <| rS (MV rfl) <| rS (EX rfl) <| rS (EX rfl) <| rS (AG rfl) <| rS (AG rfl) <| RK hK11 <| WS fun _ hK20 => rS (MV rfl) ?_
 refine rS (BI rfl b_eql) <| rS (MV rfl) ?_
 refine r_bool (t := 25) rfl (fun hg25 => ?_) (fun hg25 => ?_)
 rotate_left 1
 · replace hg25 := DF hg25
   refine rS (OX rfl) <| rS (OX rfl) <| rS (OX rfl) <| rS (PK rfl) <| rS (MV rfl) <| rS (OX rfl) <| rS (OX rfl) <| rS (PK rfl) <| rS (MV rfl) <| rS (OX rfl) ?_
   refine rS (OX rfl) <| rS (OX rfl) <| rS (PK rfl) <| rS (AG rfl) <| RK hK20 <| w_ret <| Q1 hQ rfl rfl rfl ?_
   first | exact congrArg Value.bool (decide_eq_false fun q => hg25 q.1.1).symm | exact congrArg Value.bool (decide_eq_false fun q => hg30 q.1.2).symm | exact congrArg Value.bool (decide_eq_false fun q => hg34 q.2.1).symm | exact congrArg Value.bool (decide_eq_decide.2 ⟨fun q => ⟨⟨hg25, hg30⟩, hg34, q⟩, fun q => q.2.2⟩)
 replace hg25 := DT hg25
 refine rS (MV rfl) <| rS (MV rfl) <| rS (BI rfl b_eql) <| rS (PK rfl) <| rS (MV rfl) ?_
 refine r_bool (t := 30) rfl (fun hg30 => ?_) (fun hg30 => ?_)
 rotate_left 1
 · replace hg30 := DF hg30
   refine rS (OX rfl) <| rS (OX rfl) <| rS (PK rfl) <| rS (MV rfl) <| rS (OX rfl) <| rS (OX rfl) <| rS (OX rfl) <| rS (PK rfl) <| rS (AG rfl) <| RK hK20 ?_
   refine w_ret <| Q1 hQ rfl rfl rfl ?_
   first | exact congrArg Value.bool (decide_eq_false fun q => hg25 q.1.1).symm | exact congrArg Value.bool (decide_eq_false fun q => hg30 q.1.2).symm | exact congrArg Value.bool (decide_eq_false fun q => hg34 q.2.1).symm | exact congrArg Value.bool (decide_eq_decide.2 ⟨fun q => ⟨⟨hg25, hg30⟩, hg34, q⟩, fun q => q.2.2⟩)
 replace hg30 := DT hg30
 refine rS (MV rfl) <| rS (BI rfl b_eql) <| rS (PK rfl) <| rS (MV rfl) ?_
 refine r_bool (t := 34) rfl (fun hg34 => ?_) (fun hg34 => ?_)
 rotate_left 1
 · replace hg34 := DF hg34
   refine rS (OX rfl) <| rS (OX rfl) <| rS (OX rfl) <| rS (PK rfl) <| rS (AG rfl) <| RK hK20 <| w_ret <| Q1 hQ rfl rfl rfl ?_
   first | exact congrArg Value.bool (decide_eq_false fun q => hg25 q.1.1).symm | exact congrArg Value.bool (decide_eq_false fun q => hg30 q.1.2).symm | exact congrArg Value.bool (decide_eq_false fun q => hg34 q.2.1).symm | exact congrArg Value.bool (decide_eq_decide.2 ⟨fun q => ⟨⟨hg25, hg30⟩, hg34, q⟩, fun q => q.2.2⟩)
 replace hg34 := DT hg34
 refine rS (MV rfl) <| rS (MV rfl) <| rS (BI rfl b_eql) <| rS (PK rfl) <| rS (AG rfl) <| RK hK20 <| w_ret <| Q1 hQ rfl rfl rfl ?_
 first | exact congrArg Value.bool (decide_eq_false fun q => hg25 q.1.1).symm | exact congrArg Value.bool (decide_eq_false fun q => hg30 q.1.2).symm | exact congrArg Value.bool (decide_eq_false fun q => hg34 q.2.1).symm | exact congrArg Value.bool (decide_eq_decide.2 ⟨fun q => ⟨⟨hg25, hg30⟩, hg34, q⟩, fun q => q.2.2⟩)
set_option maxRecDepth 100000 in
set_option maxHeartbeats 400000 in
theorem excalled_c (la : List Int) (laA : Option Addr) (laC : Nat) (lb : List Int) (lbA : Option Addr) (lbC : Nat) (h1 : la.length ≤ 1000000) (h2 : lb.length ≤ 1000000) :
    FnV Try.prog 72 [(Value.slice laA la.length laC), (Value.slice lbA lb.length lbC)] [(rd laA la.length 1 (la.map iC)), (rd lbA lb.length 1 (lb.map iC))] (Value.bool (decide (mannedE (exG 6000 100) la = 0 ∧ calledV (exG 6000 100) la = lb))) := by
 refine fnV_of go72 Try.func72 rfl rfl fun w0 Q hQ hN => ?_
 try dsimp only
 refine WS fun _ hK1 => rS (AG rfl) <| RK hK1 <| WS fun _ hK2 => cX (exguard_c 6000) (ha_nil) rfl fun y3 hy4 => ?_
 obtain ⟨a15, c16, a27, c28, a39, c310⟩ := y3
 try dsimp only
 refine rS (MV rfl) <| cX (Called_c (GuardM.mk ((exG 6000 100).Track) ((exG 6000 100).Posts) ((exG 6000 100).Needs) ((exG 6000 100).Tower) ((exG 6000 100).Radio)) a15 c16 a27 c28 a39 c310 la laA laC (by exact exp_in) h1) (ha_cons (has_own_n (n := ((exG 6000 100).Track).length) 0 rfl (by simp)) <| ha_cons (has_own_n (n := ((exG 6000 100).Posts).length) 1 rfl (by simp)) <| ha_cons (has_own_n (n := ((exG 6000 100).Needs).length) 2 rfl (by simp)) <| ha_at 3 rfl rfl <| ha_nil) rfl fun y11 hy12 => ?_
 obtain ⟨a13, c14⟩ := y11
 try dsimp only
 refine rS (MV rfl) <| rS (EX rfl) <| rS (EX rfl) <| rS (AG rfl) <| rS (AG rfl) <| RK hK2 <| WS fun _ hK15 => rS (MV rfl) <| rS (BI rfl b_eql) <| rS (MV rfl) ?_
 refine r_bool (t := 15) rfl (fun hg15 => ?_) (fun hg15 => ?_)
 rotate_left 1
 · replace hg15 := DF hg15
   refine rS (OX rfl) <| rS (OX rfl) <| rS (OX rfl) <| rS (PK rfl) <| rS (AG rfl) <| RK hK15 <| w_ret <| Q1 hQ rfl rfl rfl ?_
   first | exact congrArg Value.bool (decide_eq_false fun q => hg15 q.1).symm | exact congrArg Value.bool (decide_eq_decide.2 ⟨fun q => ⟨hg15, q⟩, fun q => q.2⟩)
 replace hg15 := DT hg15
 refine rS (MV rfl) <| rS (MV rfl) <| rS (CL (sameints_c (calledV (GuardM.mk ((exG 6000 100).Track) ((exG 6000 100).Posts) ((exG 6000 100).Needs) ((exG 6000 100).Tower) ((exG 6000 100).Radio)) la) a13 c14 lb lbA lbC (by exact Nat.le_trans calledV_len (show (3 : Nat) ≤ 1000000 by decide)) (by exact h2)) (ha_cons (has_own_n (n := (calledV (GuardM.mk ((exG 6000 100).Track) ((exG 6000 100).Posts) ((exG 6000 100).Needs) ((exG 6000 100).Tower) ((exG 6000 100).Radio)) la).length) 0 rfl (by simp)) <| ha_at 5 rfl rfl <| ha_nil) rfl) <| rS (PK rfl) <| rS (AG rfl) <| RK hK15 <| w_ret <| Q1 hQ rfl rfl rfl ?_
 first | exact congrArg Value.bool (decide_eq_false fun q => hg15 q.1).symm | exact congrArg Value.bool (decide_eq_decide.2 ⟨fun q => ⟨hg15, q⟩, fun q => q.2⟩)
set_option maxRecDepth 100000 in
set_option maxHeartbeats 400000 in
theorem alive_c  :
    FnV Try.prog 27 [] [] (Value.bool true) := by
 refine fnV_of go27 Try.func27 rfl rfl fun w0 Q hQ hN => ?_
 try dsimp only
 refine WS fun _ hK1 => rS (AG rfl) <| RK hK1 <| WS fun _ hK2 => cX (exguard_c 6000) (ha_nil) rfl fun y3 hy4 => ?_
 obtain ⟨a15, c16, a27, c28, a39, c310⟩ := y3
 try dsimp only
 refine cX (Meets_c (GuardM.mk ((exG 6000 100).Track) ((exG 6000 100).Posts) ((exG 6000 100).Needs) ((exG 6000 100).Tower) ((exG 6000 100).Radio)) a15 c16 a27 c28 a39 c310 0 ([]) none 0 (by exact exp_in) (by decide)) (ha_cons (has_own_n (n := ((exG 6000 100).Track).length) 0 rfl (by simp)) <| ha_cons (has_own_n (n := ((exG 6000 100).Posts).length) 1 rfl (by simp)) <| ha_cons (has_own_n (n := ((exG 6000 100).Needs).length) 2 rfl (by simp)) <| ha_cons (rd_nil _ _) <| ha_nil) rfl fun y11 hy12 => ?_
 obtain ⟨a13, c14⟩ := y11
 try dsimp only
 refine rS (MV rfl) <| rS (EX rfl) <| rS (EX rfl) <| rS (AG rfl) <| rS (AG rfl) <| RK hK2 <| WS fun _ hK15 => cX (exguard_c 6000) (ha_nil) rfl fun y16 hy17 => ?_
 obtain ⟨a118, c119, a220, c221, a322, c323⟩ := y16
 try dsimp only
 refine cX (Weak_c (GuardM.mk ((exG 6000 100).Track) ((exG 6000 100).Posts) ((exG 6000 100).Needs) ((exG 6000 100).Tower) ((exG 6000 100).Radio)) a118 c119 a220 c221 a322 c323 (by exact exp_in)) (ha_cons (has_own_n (n := ((exG 6000 100).Track).length) 0 rfl (by simp)) <| ha_cons (has_own_n (n := ((exG 6000 100).Posts).length) 1 rfl (by simp)) <| ha_cons (has_own_n (n := ((exG 6000 100).Needs).length) 2 rfl (by simp)) <| ha_nil) rfl fun y24 hy25 => ?_
 obtain ⟨a26, c27⟩ := y24
 try dsimp only
 refine rS (MV rfl) <| rS (EX rfl) <| rS (EX rfl) <| rS (AG rfl) <| rS (AG rfl) <| RK hK15 <| WS fun _ hK28 => cX (exguard_c 6200) (ha_nil) rfl fun y29 hy30 => ?_
 obtain ⟨a131, c132, a233, c234, a335, c336⟩ := y29
 try dsimp only
 refine cX (Fewest_c (GuardM.mk ((exG 6200 100).Track) ((exG 6200 100).Posts) ((exG 6200 100).Needs) ((exG 6200 100).Tower) ((exG 6200 100).Radio)) a131 c132 a233 c234 a335 c336 (by exact exp_in)) (ha_cons (has_own_n (n := ((exG 6200 100).Track).length) 0 rfl (by simp)) <| ha_cons (has_own_n (n := ((exG 6200 100).Posts).length) 1 rfl (by simp)) <| ha_cons (has_own_n (n := ((exG 6200 100).Needs).length) 2 rfl (by simp)) <| ha_nil) rfl fun y37 hy38 => ?_
 obtain ⟨a39, c40⟩ := y37
 try dsimp only
 refine rS (MV rfl) <| rS (EX rfl) <| rS (EX rfl) <| rS (AG rfl) <| rS (AG rfl) <| RK hK28 <| WS fun _ hK41 => cX (exguard_c 6200) (ha_nil) rfl fun y42 hy43 => ?_
 obtain ⟨a144, c145, a246, c247, a348, c349⟩ := y42
 try dsimp only
 refine cX (Spare_c (GuardM.mk ((exG 6200 100).Track) ((exG 6200 100).Posts) ((exG 6200 100).Needs) ((exG 6200 100).Tower) ((exG 6200 100).Radio)) a144 c145 a246 c247 a348 c349 (by exact exp_in)) (ha_cons (has_own_n (n := ((exG 6200 100).Track).length) 0 rfl (by simp)) <| ha_cons (has_own_n (n := ((exG 6200 100).Posts).length) 1 rfl (by simp)) <| ha_cons (has_own_n (n := ((exG 6200 100).Needs).length) 2 rfl (by simp)) <| ha_nil) rfl fun y50 hy51 => ?_
 obtain ⟨a52, c53⟩ := y50
 try dsimp only
 refine rS (MV rfl) <| rS (EX rfl) <| rS (EX rfl) <| rS (AG rfl) <| rS (AG rfl) <| RK hK41 <| WS fun _ hK54 => rS (CL (exfar_c 0 6200 82) (ha_nil) rfl) <| rS (MV rfl) ?_
 refine r_bool (t := 30) rfl (fun hg30 => ?_) (fun hg30 => ?_)
 rotate_left 1
 · replace hg30 := DF hg30
   exact absurd exp_f0 hg30
 replace hg30 := DT hg30
 refine rS (CL (exfar_c 1 4000 70) (ha_nil) rfl) <| rS (PK rfl) <| rS (MV rfl) ?_
 refine r_bool (t := 33) rfl (fun hg33 => ?_) (fun hg33 => ?_)
 rotate_left 1
 · replace hg33 := DF hg33
   exact absurd exp_f1 hg33
 replace hg33 := DT hg33
 refine r_bs (xs := [.const (Value.int .i64 0), .const (Value.int .i64 1), .const (Value.int .i64 2)]) (cs := [(Value.int .i64 0), (Value.int .i64 1), (Value.int .i64 2)]) rfl te33 tz3 rfl rfl rfl rfl (by simp [Value.cells]) rfl rfl fun b55 => rS (CL (excalled_c ([]) none 0 ([0, 1, 2]) (some ⟨b55, 0, none⟩) 3 (by decide) (by decide)) (ha_cons (rd_nil _ _) <| ha_cons (has_rd_blk 0 rfl rfl (by simp [iC_length]) rfl) <| ha_nil) rfl) <| rS (PK rfl) <| rS (MV rfl) ?_
 refine r_bool (t := 37) rfl (fun hg37 => ?_) (fun hg37 => ?_)
 rotate_left 1
 · replace hg37 := DF hg37
   exact absurd exp_c0 hg37
 replace hg37 := DT hg37
 refine r_bs (xs := [.const (Value.int .i64 0)]) (cs := [(Value.int .i64 0)]) rfl te33 tz3 rfl rfl rfl rfl (by simp [Value.cells]) rfl rfl fun b56 => rS (CL (excalled_c ([0]) (some ⟨b56, 0, none⟩) 1 ([]) none 0 (by decide) (by decide)) (ha_cons (has_rd_blk 0 rfl rfl (by simp [iC_length]) rfl) <| ha_cons (rd_nil _ _) <| ha_nil) rfl) <| rS (PK rfl) <| rS (MV rfl) ?_
 refine r_bool (t := 41) rfl (fun hg41 => ?_) (fun hg41 => ?_)
 rotate_left 1
 · replace hg41 := DF hg41
   exact absurd exp_c1 hg41
 replace hg41 := DT hg41
 refine r_bs (xs := [.const (Value.int .i64 1)]) (cs := [(Value.int .i64 1)]) rfl te33 tz3 rfl rfl rfl rfl (by simp [Value.cells]) rfl rfl fun b57 => r_bs (xs := [.const (Value.int .i64 0), .const (Value.int .i64 2)]) (cs := [(Value.int .i64 0), (Value.int .i64 2)]) rfl te33 tz3 rfl rfl rfl rfl (by simp [Value.cells]) rfl rfl fun b58 => rS (CL (excalled_c ([1]) (some ⟨b57, 0, none⟩) 1 ([0, 2]) (some ⟨b58, 0, none⟩) 2 (by decide) (by decide)) (ha_cons (has_rd_blk 1 rfl rfl (by simp [iC_length]) rfl) <| ha_cons (has_rd_blk 0 rfl rfl (by simp [iC_length]) rfl) <| ha_nil) rfl) <| rS (PK rfl) <| rS (MV rfl) ?_
 refine r_bool (t := 46) rfl (fun hg46 => ?_) (fun hg46 => ?_)
 rotate_left 1
 · replace hg46 := DF hg46
   exact absurd exp_c2 hg46
 replace hg46 := DT hg46
 refine rS (MV rfl) <| rS (BI rfl b_eql) <| rS (PK rfl) <| rS (MV rfl) ?_
 refine r_bool (t := 50) rfl (fun hg50 => ?_) (fun hg50 => ?_)
 rotate_left 1
 · replace hg50 := DF hg50
   exact absurd exp_meets.1 hg50
 replace hg50 := DT hg50
 refine rS (MV rfl) <| r_bs (xs := [.const (Value.int .i64 0), .const (Value.int .i64 1), .const (Value.int .i64 2)]) (cs := [(Value.int .i64 0), (Value.int .i64 1), (Value.int .i64 2)]) rfl te33 tz3 rfl rfl rfl rfl (by simp [Value.cells]) rfl rfl fun b59 => rS (CL (sameints_c (meetsV (GuardM.mk ((exG 6000 100).Track) ((exG 6000 100).Posts) ((exG 6000 100).Needs) ((exG 6000 100).Tower) ((exG 6000 100).Radio)) 0 ([])) a13 c14 ([0, 1, 2]) (some ⟨b59, 0, none⟩) 3 (by rw [exp_meets.2]; decide) (by decide)) (ha_cons (has_own_n (n := (meetsV (GuardM.mk ((exG 6000 100).Track) ((exG 6000 100).Posts) ((exG 6000 100).Needs) ((exG 6000 100).Tower) ((exG 6000 100).Radio)) 0 ([])).length) 17 rfl (by simp)) <| ha_cons (has_rd_blk 0 rfl rfl (by simp [iC_length]) rfl) <| ha_nil) rfl) <| rS (PK rfl) <| rS (MV rfl) ?_
 refine r_bool (t := 55) rfl (fun hg55 => ?_) (fun hg55 => ?_)
 rotate_left 1
 · replace hg55 := DF hg55
   exact absurd exp_meets.2 hg55
 replace hg55 := DT hg55
 refine rS (MV rfl) <| rS (BI rfl b_eql) <| rS (PK rfl) <| rS (MV rfl) ?_
 refine r_bool (t := 59) rfl (fun hg59 => ?_) (fun hg59 => ?_)
 rotate_left 1
 · replace hg59 := DF hg59
   exact absurd exp_weak.1 hg59
 replace hg59 := DT hg59
 refine rS (MV rfl) <| r_bs (xs := [.const (Value.int .i64 0)]) (cs := [(Value.int .i64 0)]) rfl te33 tz3 rfl rfl rfl rfl (by simp [Value.cells]) rfl rfl fun b60 => rS (CL (sameints_c (weakV (GuardM.mk ((exG 6000 100).Track) ((exG 6000 100).Posts) ((exG 6000 100).Needs) ((exG 6000 100).Tower) ((exG 6000 100).Radio))) a26 c27 ([0]) (some ⟨b60, 0, none⟩) 1 (by rw [exp_weak.2]; decide) (by decide)) (ha_cons (has_own_n (n := (weakV (GuardM.mk ((exG 6000 100).Track) ((exG 6000 100).Posts) ((exG 6000 100).Needs) ((exG 6000 100).Tower) ((exG 6000 100).Radio))).length) 14 rfl (by simp)) <| ha_cons (has_rd_blk 0 rfl rfl (by simp [iC_length]) rfl) <| ha_nil) rfl) <| rS (PK rfl) <| rS (MV rfl) ?_
 refine r_bool (t := 64) rfl (fun hg64 => ?_) (fun hg64 => ?_)
 rotate_left 1
 · replace hg64 := DF hg64
   exact absurd exp_weak.2 hg64
 replace hg64 := DT hg64
 refine rS (MV rfl) <| rS (BI rfl b_eql) <| rS (PK rfl) <| rS (MV rfl) ?_
 refine r_bool (t := 68) rfl (fun hg68 => ?_) (fun hg68 => ?_)
 rotate_left 1
 · replace hg68 := DF hg68
   exact absurd exp_few.1 hg68
 replace hg68 := DT hg68
 refine rS (MV rfl) <| r_bs (xs := [.const (Value.int .i64 0), .const (Value.int .i64 1)]) (cs := [(Value.int .i64 0), (Value.int .i64 1)]) rfl te33 tz3 rfl rfl rfl rfl (by simp [Value.cells]) rfl rfl fun b61 => rS (CL (sameints_c (fewV (GuardM.mk ((exG 6200 100).Track) ((exG 6200 100).Posts) ((exG 6200 100).Needs) ((exG 6200 100).Tower) ((exG 6200 100).Radio))) a39 c40 ([0, 1]) (some ⟨b61, 0, none⟩) 2 (by rw [exp_few.2]; decide) (by decide)) (ha_cons (has_own_n (n := (fewV (GuardM.mk ((exG 6200 100).Track) ((exG 6200 100).Posts) ((exG 6200 100).Needs) ((exG 6200 100).Tower) ((exG 6200 100).Radio))).length) 11 rfl (by simp)) <| ha_cons (has_rd_blk 0 rfl rfl (by simp [iC_length]) rfl) <| ha_nil) rfl) <| rS (PK rfl) <| rS (MV rfl) ?_
 refine r_bool (t := 73) rfl (fun hg73 => ?_) (fun hg73 => ?_)
 rotate_left 1
 · replace hg73 := DF hg73
   exact absurd exp_few.2 hg73
 replace hg73 := DT hg73
 refine rS (MV rfl) <| rS (BI rfl b_eql) <| rS (PK rfl) <| rS (MV rfl) ?_
 refine r_bool (t := 77) rfl (fun hg77 => ?_) (fun hg77 => ?_)
 rotate_left 1
 · replace hg77 := DF hg77
   exact absurd exp_spare.1 hg77
 replace hg77 := DT hg77
 refine rS (MV rfl) <| r_bs (xs := [.const (Value.int .i64 2)]) (cs := [(Value.int .i64 2)]) rfl te33 tz3 rfl rfl rfl rfl (by simp [Value.cells]) rfl rfl fun b62 => rS (CL (sameints_c (spareV (GuardM.mk ((exG 6200 100).Track) ((exG 6200 100).Posts) ((exG 6200 100).Needs) ((exG 6200 100).Tower) ((exG 6200 100).Radio))) a52 c53 ([2]) (some ⟨b62, 0, none⟩) 1 (by rw [exp_spare.2]; decide) (by decide)) (ha_cons (has_own_n (n := (spareV (GuardM.mk ((exG 6200 100).Track) ((exG 6200 100).Posts) ((exG 6200 100).Needs) ((exG 6200 100).Tower) ((exG 6200 100).Radio))).length) 8 rfl (by simp)) <| ha_cons (has_rd_blk 0 rfl rfl (by simp [iC_length]) rfl) <| ha_nil) rfl) <| rS (PK rfl) <| rS (AG rfl) <| RK hK54 <| w_ret <| Q1 hQ rfl rfl rfl ?_
 exact congrArg Value.bool (decide_eq_true exp_spare.2)
end
section
open Go.RowKit
set_option linter.unusedVariables false
set_option maxRecDepth 100000 in
set_option maxHeartbeats 400000 in
theorem choose_c (bl : List Int) (blA : Option Addr) (blC : Nat) (i : Int) (hbl : ∀ z ∈ bl, 0 ≤ z ∧ z ≤ 4294967295) (hi : 0 ≤ i ∧ i ≤ 1000) :
    FnV Try.prog 31 [(Value.slice blA bl.length blC), (Value.int .i64 i)] [(rd blA bl.length 1 (bl.map iC_u32))] (Value.int .i64 (chooseF bl i)) := by
 refine fnV_of go31 Try.func31 rfl rfl fun w0 Q hQ hN => ?_
 try dsimp only
 refine WS fun _ hK1 => rS (AG rfl) <| RK hK1 <| w_seq fun _ hK2 => WS fun _ hK3 => rS (MV rfl) <| rS (LN rfl ut52) <| rS (BI rfl b_eql) <| RK hK3 ?_
 refine w_if rfl (fun hg7 => ?_) (fun hg7 => ?_)
 · replace hg7 := DT hg7
   refine WS fun _ hK4 => rS (AG rfl) <| RK hK4 <| w_ret <| Q1 hQ rfl rfl rfl ?_
   first | exact congrArg (Value.int .i64) (by unfold chooseF; rw [if_pos (by omega)]) | exact congrArg (Value.int .i64) (chooseF_at hg7 hz).symm
 replace hg7 := DF hg7
 refine WK hK2 <| WS fun _ hK5 => rS (MV rfl) <| rS (MV rfl) <| rS (MV rfl) <| rS (LN rfl ut52) <| rS (BI rfl (b_rem (by omega) (by omega))) ?_
 have m1 := Int.emod_nonneg i hg7
 have m2 := Int.emod_lt_of_pos i (show 0 < (bl.length : Int) by omega)
 obtain ⟨z, hz⟩ : ∃ y_, bl[((i % ((bl.length : Nat) : Int))).toNat]? = some y_ := ⟨bl[((i % ((bl.length : Nat) : Int))).toNat]'(by omega), List.getElem?_eq_getElem _⟩
 have hzm : (bl.map iC_u32)[((i % ((bl.length : Nat) : Int))).toNat]? = some (iC_u32 z) := by rw [List.getElem?_map, hz]; rfl
 refine rS (IA (((i % ((bl.length : Nat) : Int))).toNat) rfl (has_at 0 rfl) te52 (by decide) (by omega) (by omega)) <| rS (LE1 (((i % ((bl.length : Nat) : Int))).toNat) 0 (Value.int .u32 z) rfl tk111 (has_at 0 rfl) hzm rfl (by decide) rfl) ?_
 have hzb := hbl z (List.mem_of_getElem? hz)
 refine rS (SX (sd_conv (m := z) rfl rfl ut111 ut3 (wrap_u32_i64 (by first | assumption | omega))) rfl rfl) <| rS (AG rfl) <| RK hK5 <| w_ret <| Q1 hQ rfl rfl rfl ?_
 first | exact congrArg (Value.int .i64) (by unfold chooseF; rw [if_pos (by omega)]) | exact congrArg (Value.int .i64) (chooseF_at hg7 hz).symm
set_option maxRecDepth 100000 in
set_option maxHeartbeats 400000 in
theorem some_c (s : SpanV) (b : Int) (hs : s.Lo ≤ s.Hi ∧ -1000000 ≤ s.Lo ∧ s.Hi ≤ 1000000) (hb : 0 ≤ b ∧ b ≤ 4294967295) :
    FnV Try.prog 33 [(Value.agg (SpanV.cells s).toArray), (Value.int .i64 b)] [] (Value.int .i64 (someF s b)) := by
 refine fnV_of go33 Try.func33 rfl rfl fun w0 Q hQ hN => ?_
 try dsimp only
 refine WS fun _ hK1 => BXA rfl fun b2 => rS (AG rfl) <| RK hK1 <| w_seq fun _ hK3 => WS fun _ hK4 => rS (MV rfl) <| rS (BI rfl (b_rem (by omega) (by omega))) <| RK hK4 <| w_block ?_
 refine WS fun _ hK5 => rS (BI rfl b_eql) <| rS (AG rfl) <| RK hK5 ?_
 refine w_if rfl (fun hg7 => ?_) (fun hg7 => ?_)
 · replace hg7 := DT hg7
   refine WS fun _ hK6 => rS (FA 0 rfl fo28_0 rfl) <| rS (L1 (Value.int .i64 s.Lo) 0 rfl tk3 rfl rfl) <| rS (AG rfl) <| RK hK6 <| w_ret <| Q1 hQ rfl rfl rfl ?_
   clear hQ hN hK6 hK5 hK4 hK3 hK1
   exact congrArg (Value.int .i64) (by unfold someF; simp [*])
 replace hg7 := DF hg7
 refine WS fun _ hK7 => rS (BI rfl b_eql) <| rS (AG rfl) <| RK hK7 ?_
 refine w_if rfl (fun hg11 => ?_) (fun hg11 => ?_)
 · replace hg11 := DT hg11
   refine WS fun _ hK8 => rS (FA 1 rfl fo28_1 rfl) <| rS (L1 (Value.int .i64 s.Hi) 0 rfl tk3 rfl rfl) <| rS (AG rfl) <| RK hK8 <| w_ret <| Q1 hQ rfl rfl rfl ?_
   clear hQ hN hK8 hK7 hK5 hK4 hK3 hK1
   exact congrArg (Value.int .i64) (by unfold someF; simp [*])
 replace hg11 := DF hg11
 refine w_skip <| k_block <| KK hK3 <| w_seq fun _ hK9 => w_draw mixed 13 (by kernel_rfl) <| dS (FA 0 rfl fo28_0 rfl) <| dS (L1 (Value.int .i64 s.Lo) 0 rfl tk3 rfl rfl) <| dS (MV rfl) <| dS (BI rfl (b_quo (by omega) (by omega) (by omega))) <| dS (FA 1 rfl fo28_1 rfl) ?_
 refine dS (L1 (Value.int .i64 s.Hi) 0 rfl tk3 rfl rfl) <| dS (FA 0 rfl fo28_0 rfl) <| dS (L1 (Value.int .i64 s.Lo) 0 rfl tk3 rfl rfl) <| dS (BI rfl (b_sub ⟨by omega, by omega⟩)) <| dS (BI rfl (b_add ⟨by omega, by omega⟩)) ?_
 have m1 := Int.emod_nonneg (b / 5) (show s.Hi - s.Lo + 1 ≠ 0 by omega)
 have m2 := Int.emod_lt_of_pos (b / 5) (show 0 < s.Hi - s.Lo + 1 by omega)
 refine dS (BI rfl (b_rem (by omega) (by omega))) <| dS (BI rfl (b_add ⟨by omega, by omega⟩)) <| dS (AG rfl) <| d_end <| RK hK9 <| w_ret <| Q1 hQ rfl rfl rfl ?_
 clear hQ hN hK9 hK7 hK5 hK4 hK3 hK1
 exact congrArg (Value.int .i64) (by unfold someF; simp [*])
set_option maxRecDepth 100000 in
set_option maxHeartbeats 400000 in
theorem lmarks_c (ts : List StretchV) (tsA : Option Addr) (tsC : Nat) (bl : List Int) (blA : Option Addr) (blC : Nat) (hbl : ∀ z ∈ bl, 0 ≤ z ∧ z ≤ 4294967295) (hlen : ts.length ≤ 1000000) (htr : trackOk ts = true) :
    FnX Try.prog 30 [(Value.agg (TrackV.cells (TrackV.mk (Slc.mk tsA ts.length tsC))).toArray), (Value.slice blA bl.length blC)] [(rd tsA ts.length 9 (ts.map StretchV.cells)), (rd blA bl.length 1 (bl.map iC_u32))] (fun (x : (Option Addr) × Nat) => (Value.slice x.1 ((tMarks bl ts ts.length).length) x.2)) (fun (x : (Option Addr) × Nat) => True) (fun (x : (Option Addr) × Nat) => [(own x.1 x.2 3 1 ((tMarks bl ts ts.length).map iC))]) := by
 have hst := trackOk_all htr
 have hl12 := trackOk_le htr
 refine fnX_of go30 Try.func30 rfl rfl fun w0 Q hQ hN => ?_
 try dsimp only
 refine WS fun _ hK1 => BXA rfl fun b2 => rS (AG rfl) <| RK hK1 <| WS fun _ hK3 => r_bs (xs := [.const (Value.int .i64 0)]) (cs := [(Value.int .i64 0)]) rfl te33 tz3 rfl rfl rfl rfl (by simp [Value.cells]) rfl rfl fun b4 => rS (AG rfl) <| RK hK3 <| w_seq fun _ hK5 => WS fun _ hK6 => ?_
 refine rS (FA 0 rfl fo24_0 rfl) <| rS (L1 (Value.slice tsA ts.length tsC) 1 rfl tk22 rfl rfl) <| rS (LN rfl ut22) <| rS (MV rfl) <| RK hK6 <| w_block <| w_blk_own (es := ((tMarks bl ts 0).map iC)) (C' := [(own (some ⟨b4, 0, none⟩) ((((tMarks bl ts 0).map iC)).length) 3 1 ((tMarks bl ts 0).map iC)), _, _, _]) 0 rfl (map_len iC_length _) (by rfl) (by simp [tMarks, maxLen]) rfl ?_
 have hinit : (0 ≤ ts.length) := by exact Nat.zero_le _
 refine w_loop (ι := { z : Nat × (Option Addr) × Nat // (z.1 ≤ ts.length) }) (fun z => [(1, (Value.slice blA bl.length blC)), (2, (Value.pointer (some ⟨b2, 0, none⟩))), (5, (Value.slice z.1.2.1 ((tMarks bl ts z.1.1).length) z.1.2.2)), (10, (Value.slice tsA ts.length tsC)), (11, (Value.int .i64 ((ts.length : Nat) : Int))), (12, (Value.int .i64 ((z.1.1 : Nat) : Int)))]) (fun z => [(own z.1.2.1 z.1.2.2 3 1 ((tMarks bl ts z.1.1).map iC)), (blk b2 24 (TrackV.cells (TrackV.mk (Slc.mk tsA ts.length tsC)))), (rd tsA ts.length 9 (ts.map StretchV.cells)).ro, (rd blA bl.length 1 (bl.map iC_u32)).ro]) (fun z => ts.length - z.1.1) ⟨(0, (some ⟨b4, 0, none⟩), (((tMarks bl ts 0).map iC)).length), hinit⟩ (Sub.cons rfl <| Sub.cons rfl <| Sub.cons rfl <| Sub.cons rfl <| Sub.cons rfl <| Sub.cons rfl <| Sub.nil _) (fun w hs => St.sel [0, 1, 2, 3] rfl rfl hs) ?_
 clear hinit
 rintro ⟨⟨i, a, c⟩, hl3_0⟩ J7 hJ7
 try dsimp only at hl3_0
 try dsimp only
 refine WS fun _ hK8 => rS (BI rfl b_lss) <| RK hK8 <| w_seq fun _ hK9 => ?_
 refine w_if rfl (fun h10 => ?_) (fun h10 => ?_)
 rotate_left 1
 · replace h10 := DF h10
   refine w_exit <| k_exit_then <| k_exit_then <| k_exit_same <| KK hK5 <| WS fun _ hK21 => ?_
   obtain rfl : i = ts.length := by omega
   refine rS (MV rfl) <| rS (AG rfl) <| RK hK21 <| w_ret ?_
   refine hQ _ _ _ (l_nil (vs := [(Value.slice a ((tMarks bl ts ts.length).length) c)]) ⟨rfl, trivial⟩ fun w hs => endX (a, c) [0] ?_ ?_ rfl rfl rfl hs)
   · rfl
   · trivial
 replace h10 := DT h10
 refine WK hK9 <| w_seq fun _ hK11 => w_block <| WS fun _ hK12 => rS (MV rfl) ?_
 obtain ⟨x, hx⟩ : ∃ y_, ts[i]? = some y_ := ⟨ts[i]'(by omega), List.getElem?_eq_getElem _⟩
 have hxm : (ts.map StretchV.cells)[i]? = some (StretchV.cells x) := by rw [List.getElem?_map, hx]; rfl
 refine rS (IA i rfl (has_at 2 rfl) te22 (by decide) (by omega) (by omega)) <| rS (LEN i 0 (StretchV.cells x) rfl tk110 (has_at 2 rfl) hxm rfl (by decide) rfl rfl) <| AL rfl tz110 fun b13 => rS (AG rfl) <| SW0 rfl ts110 rfl <| RK hK12 <| w_draw4 mixed [0, 1, 2, 3, 4, 5, 6, 7, 8, 9, 10, 11] [12, 13, 14] [false, false, false, true, true, false, false, false, false, false, false, false] [true, false, false] [(blk b13 110 (StretchV.cells x)), (blk b2 24 (TrackV.cells (TrackV.mk (Slc.mk tsA ts.length tsC)))), (rd tsA ts.length 9 (ts.map StretchV.cells)).ro, (rd blA bl.length 1 (bl.map iC_u32)).ro] [(blk b13 110 (StretchV.cells x)), (own a c 3 1 ((tMarks bl ts i).map iC)), (blk b2 24 (TrackV.cells (TrackV.mk (Slc.mk tsA ts.length tsC)))), (rd tsA ts.length 9 (ts.map StretchV.cells)).ro, (rd blA bl.length 1 (bl.map iC_u32)).ro] (by kernel_rfl) (fun w hs => St.sel [0, 2, 3, 4] rfl rfl hs) (fun w hs => St.sel [0, 1, 2, 3, 4] rfl rfl hs) ?_
 have hml : (tMarks bl ts i).length = i + 1 := tMarks_len
 have hxo := (hst x (List.mem_of_getElem? hx)).2.1
 simp only [SpanOk] at hxo
 have hcb := chooseF_b hbl ((i : Nat) : Int)
 have htb := tMark_b (bl := bl) htr (i := i) (by omega)
 have hsf := someF_in (s := x.Long) (b := chooseF bl ((i : Nat) : Int)) hxo.1
 refine eS rfl (MV rfl) <| eS rfl (MV rfl) <| eS rfl (MV rfl) ?_
 obtain ⟨m, hm⟩ : ∃ y_, (tMarks bl ts i)[i]? = some y_ := ⟨(tMarks bl ts i)[i]'(by omega), List.getElem?_eq_getElem _⟩
 have hmm : ((tMarks bl ts i).map iC)[i]? = some (iC m) := by rw [List.getElem?_map, hm]; rfl
 refine fS rfl (IA i rfl (has_own_n (n := (tMarks bl ts i).length) 1 rfl (by simp)) te33 (by decide) (by omega) (by omega)) <| fS rfl (LE1 i 0 (Value.int .i64 m) rfl tk3 (has_own_n (n := (tMarks bl ts i).length) 1 rfl (by simp)) hmm rfl (by decide) rfl) ?_
 have hmm := tMarks_at hm
 refine eS rfl (FA 1 rfl fo110_1 rfl) <| eS rfl (LP (SpanV.cells x.Long) 0 rfl tk28 rfl rfl rfl) <| eS rfl (MV rfl) <| eS rfl (MV rfl) <| eS rfl (CL (choose_c bl blA blC ((i : Nat) : Int) hbl (by first | assumption | omega | (simp; done) | (simp; omega))) (ha_at 3 rfl rfl <| ha_nil) rfl) <| eS rfl (CL (some_c x.Long (chooseF bl ((i : Nat) : Int)) (by omega) (by first | assumption | omega | (simp; done) | (simp; omega))) (ha_nil) rfl) <| eS rfl (BI rfl (b_add ⟨by omega, by omega⟩)) <| d_fin rfl <| t5_cons rfl fun T14 hT14 => r_bs (xs := [.tmp 28]) (cs := [(Value.int .i64 (m + (someF x.Long (chooseF bl ((i : Nat) : Int)))))]) rfl te33 tz3 rfl rfl rfl rfl (by simp [Value.cells]) rfl rfl fun b15 => ?_
 refine r_nil (hT14 _ _ (fun w hs => St.sel [1, 3, 4, 5] rfl rfl hs) (fun w hs => St.sel [1, 2, 3, 4, 5] rfl rfl hs) ?_)
 refine t_cons rfl fun T16 hT16 => r_append (es2 := (List.map iC (tMarks bl ts (i + 1)))) (m' := (tMarks bl ts (i + 1)).length) 2 rfl rfl rfl ta33 rfl rfl (by simp) (has_rd_blk (es := List.map iC [(m + (someF x.Long (chooseF bl ((i : Nat) : Int))))]) 0 rfl rfl (by simp [iC_length]) rfl) (one_iC _) (by rw [tMarks_len]; omega) (by rw [tMarks_len]; simp only [maxLen]; omega) (by rw [tMarks_succ, tMark_succ hx, ← hmm, List.map_append] <;> rfl) (by simp) rfl fun a17 c18 => ?_
 try dsimp only
 refine RN hT16 [1, 3, 4, 5] rfl rfl <| t_cons rfl fun T19 hT19 => rS (AG rfl) <| RN hT19 [1, 3, 4, 5] rfl rfl <| t_fin rfl <| k_block <| KK hK11 <| w_region <| rS (BI rfl (b_add ⟨by omega, by omega⟩)) <| rS (MV rfl) ?_
 refine r_nil ?_
 have hb20 : (Value.int .i64 (((i + 1) : Nat) : Int)) = (Value.int .i64 (((i : Nat) : Int) + 1)) := by exact congrArg (Value.int .i64) (by omega)
 refine k_then (hJ7 ⟨((i + 1), a17, c18), (by first | omega | (simp only []; omega))⟩ _ _ _ rfl (by first | omega | (simp; omega)) (Sub.cons rfl <| Sub.cons rfl <| Sub.cons rfl <| Sub.cons rfl <| Sub.cons rfl <| sub_val rfl hb20 <| Sub.nil _) (fun w hs => St.sel [2, 3, 4, 5] rfl rfl hs))
end
section
open Go.RowKit
set_option linter.unusedVariables false
set_option maxRecDepth 100000 in
set_option maxHeartbeats 400000 in
theorem hstands_c (mkA : Option Addr) (mkC : Nat) (g1 : Nat) (bl : List Int) (blA : Option Addr) (blC : Nat) (g2 : Nat) (d : GuardM) (s : SpotV) (c : Int) (hbl : ∀ z ∈ bl, 0 ≤ z ∧ z ≤ 4294967295) (htr : trackOk d.Track = true) (hs : SpotOk d.Track s) (hc : 0 ≤ c ∧ c ≤ 1000) :
    FnV Try.prog 32 [(Value.agg (SpotV.cells s).toArray), (Value.int .i64 c), (Value.pointer (some ⟨g1, 0, none⟩)), (Value.pointer (some ⟨g2, 0, none⟩))] [(rd mkA ((tMarks bl d.Track d.Track.length).length) 1 ((tMarks bl d.Track d.Track.length).map iC)), (blk g1 33 [(Value.slice mkA ((tMarks bl d.Track d.Track.length).length) mkC)]), (rd blA bl.length 1 (bl.map iC_u32)), (blk g2 52 [(Value.slice blA bl.length blC)])] (Value.int .i64 (standF bl d.Track s c)) := by
 have hst := trackOk_all htr
 have hl12 := trackOk_le htr
 have hss := hs.1
 have hspb := spot_b hst hs
 have hsm := spot_some (bl := bl) hs c
 have htb := tMark_b (bl := bl) htr (i := s.Stretch.toNat) (by omega)
 have hmll : (tMarks bl d.Track d.Track.length).length = d.Track.length + 1 := tMarks_len
 have hlo := someF_in (s := s.Off) (b := chooseF bl c)
 have hcb := chooseF_b hbl c
 have hsl : s.Off.Lo ≤ s.Off.Hi := by omega
 refine fnV_of go32 Try.func32 rfl rfl fun w0 Q hQ hN => ?_
 try dsimp only
 refine WS fun _ hK1 => BXA rfl fun b2 => rS (AG rfl) <| RK hK1 <| w_seq fun _ hK3 => w_draw mixed 13 (by kernel_rfl) <| dS (L1Q 2 rfl tk33 rfl) <| dS (FA 0 rfl fo30_0 rfl) <| dS (L1 (Value.int .i64 s.Stretch) 0 rfl tk3 rfl rfl) ?_
 obtain ⟨m1, hm1⟩ : ∃ y_, (tMarks bl d.Track d.Track.length)[(s.Stretch).toNat]? = some y_ := ⟨(tMarks bl d.Track d.Track.length)[(s.Stretch).toNat]'(by omega), List.getElem?_eq_getElem _⟩
 have hm1m : ((tMarks bl d.Track d.Track.length).map iC)[(s.Stretch).toNat]? = some (iC m1) := by rw [List.getElem?_map, hm1]; rfl
 refine dS (IA ((s.Stretch).toNat) rfl (has_at 1 rfl) te33 (by decide) (by omega) (by omega)) <| dS (LE1 ((s.Stretch).toNat) 0 (Value.int .i64 m1) rfl tk3 (has_at 1 rfl) hm1m rfl (by decide) rfl) ?_
 have e1 := tMarks_at hm1
 refine dS (FA 1 rfl fo30_1 rfl) <| dS (LP (SpanV.cells s.Off) 0 rfl tk28 rfl rfl rfl) <| dS (L1Q 4 rfl tk52 rfl) <| dS (MV rfl) <| dS (CL (choose_c bl blA blC c hbl (by exact hc)) (ha_at 3 rfl rfl <| ha_nil) rfl) <| dS (CL (some_c s.Off (chooseF bl c) (by omega) (by exact hcb)) (ha_nil) rfl) <| dS (BI rfl (b_add ⟨by omega, by omega⟩)) <| dS (AG rfl) <| d_end <| RK hK3 ?_
 refine w_ret <| Q1 hQ rfl rfl rfl ?_
 exact congrArg (Value.int .i64) (by rw [e1]; rfl)
end
end Go.Proofs.Ytlncplfcbmcjgaa
