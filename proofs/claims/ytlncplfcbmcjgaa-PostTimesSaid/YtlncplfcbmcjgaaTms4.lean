/-
  The statement postTimes_said, part 4 of 4: M1, M2, P9, P12, Upto, G1, Best, ExP, Idx, Ren, G3, PTimes, G7, Bools, Fix, MeetsB, G9, G8, G10, G11, X9, GuardOpen, Times0.
  Conditions: none.
-/
import Derived.Test.YtlncplfcbmcjgaaTms1
import Derived.Test.YtlncplfcbmcjgaaTms2
import Derived.Test.YtlncplfcbmcjgaaTms3
import Derived.Test.YtlncplfcbmcjgaaRows
import Derived.Test.YtlncplfcbmcjgaaProg
import Derived.KernelRfl
namespace Go.Proofs.Ytlncplfcbmcjgaa
section
open Go.RowKit
set_option linter.unusedVariables false
set_option maxRecDepth 100000 in
set_option maxHeartbeats 400000 in
theorem meets1_c (x : Int) (d : GuardM) (kA : Option Addr) (kC : Nat) (pA : Option Addr) (pC : Nat) (nA : Option Addr) (nC : Nat) (tz : List RA) (tA : Option Addr) (tC : Nat) (gw : Nat) (n : NeedV) (g1 : Nat) (g2 : Nat) (hin : GuardIn d) (htr : trackOk d.Track = true) (hok : GuardOk d) (htz : tz.length = d.Posts.length) (hn : NeedOk d.Track n) (hx : 0 ≤ x ∧ x < (d.Posts.length : Int)) :
    FnV Try.prog 96 [(Value.int .i64 x), (Value.pointer (some ⟨g1, 0, none⟩)), (Value.pointer (some ⟨g2, 0, none⟩))] [(rd kA d.Track.length 9 (d.Track.map StretchV.cells)), (rd pA d.Posts.length 7 (d.Posts.map PostV.cells)), (rd nA d.Needs.length 3 (d.Needs.map NeedV.cells)), (rd tA ((timesL d).length) 1 (List.zipWith rowC (timesL d) tz)), (bun (nest rowR (timesL d) tz)), (blk gw 89 (WatchV.cells (WatchV.mk (GuardV.mk (TrackV.mk (Slc.mk kA d.Track.length kC)) (Slc.mk pA d.Posts.length pC) (Slc.mk nA d.Needs.length nC) d.Tower d.Radio) (Slc.mk tA ((timesL d).length) tC)))), (blk g1 84 [(Value.pointer (some ⟨gw, 0, none⟩))]), (blk g2 57 (NeedV.cells n))] (Value.bool (!(decide (fitsX d n x)))) := by
 have hlen := hin.trk
 have hside := hin.side
 have hpl := hin.pst
 have hnl := hin.nds
 have hnk := hin.nk
 have hpk := hin.pk
 unfold NeedOk at hn
 have htl := timesL_len (d := d)
 refine fnV_of go96 Try.func96 rfl rfl fun w0 Q hQ hN => ?_
 try dsimp only
 refine WS fun _ hK1 => rS (AG rfl) <| RK hK1 <| w_seq fun _ hK2 => w_draw mixed 29 (by kernel_rfl) <| dS (L1Q 6 rfl tk84 rfl) <| dS (SX (sd_nil_p rfl rfl) rfl rfl) <| dS (FA 0 rfl fo89_0 rfl) <| dS (FA 1 rfl fo32_1 rfl) <| dS (L1R (Value.slice pA d.Posts.length pC) 5 rfl tk25 rfl rfl) ?_
 refine dS (MV rfl) ?_
 obtain ⟨p, hp⟩ : ∃ y_, d.Posts[(x).toNat]? = some y_ := ⟨d.Posts[(x).toNat]'(by omega), List.getElem?_eq_getElem _⟩
 have hpm : (d.Posts.map PostV.cells)[(x).toNat]? = some (PostV.cells p) := by rw [List.getElem?_map, hp]; rfl
 refine dS (IA ((x).toNat) rfl (has_at 1 rfl) te25 (by decide) (by omega) (by omega)) <| dS (FAR ((((x).toNat) * 7) + 1) rfl (has_at 1 rfl) (Nat.mul_pos (by omega) (by decide)) fo62_1 rfl) <| dS (LE1 ((x).toNat) 1 (Value.int .u8 p.Kind) rfl tk5 (has_at 1 rfl) hpm rfl (by decide) rfl) <| dS (FA 1 rfl fo57_1 rfl) <| dS (L1R (Value.int .u8 n.Kind) 7 rfl tk5 rfl rfl) <| dS (BI rfl b_neq) <| dS (MV rfl) ?_
 refine d_bool (t := 17) rfl (fun hg17 => ?_) (fun hg17 => ?_)
 · replace hg17 := XT hg17
   refine dS (OX rfl) <| dS (OX rfl) <| dS (OX rfl) <| dS (OX rfl) <| dS (OX rfl) <| dS (OX rfl) <| dS (OX rfl) <| dS (OX rfl) <| dS (OX rfl) <| dS (OX rfl) ?_
   refine dS (OX rfl) <| dS (OX rfl) <| dS (OX rfl) <| dS (OX rfl) <| dS (PK rfl) <| dS (AG rfl) <| d_end <| RK hK2 <| w_ret <| Q1 hQ rfl rfl rfl ?_
   first | (refine congrArg Value.bool ?_; rw [decide_eq_false (fun q => by have q1 := (fitsX_iff hp).1 q; first | omega | exact hg17 q1.1)]; rfl) | (refine congrArg Value.bool ?_; have hte : tm = timeF d.Track p n.Stretch := (by rw [hmt] at htm; have e0 := timesP_at htm; rw [Int.toNat_of_nonneg hn.1.1] at e0; exact e0); rw [show decide (fitsX d n x) = decide (tm ≤ n.Seconds) from decide_eq_decide.2 (by rw [fitsX_iff hp, hte]; exact ⟨fun q => q.2, fun q => ⟨by omega, q⟩⟩)]; rw [← decide_not]; exact decide_eq_decide.2 (by omega))
 replace hg17 := XF hg17
 refine dS (L1Q 6 rfl tk84 rfl) <| dS (SX (sd_nil_p rfl rfl) rfl rfl) <| dS (FA 7 rfl fo89_1 rfl) <| dS (L1R (Value.slice tA ((timesL d).length) tC) 5 rfl tk87 rfl rfl) <| dS (MV rfl) ?_
 obtain ⟨ms, hms⟩ : ∃ y_, (timesL d)[(x).toNat]? = some y_ := ⟨(timesL d)[(x).toNat]'(by omega), List.getElem?_eq_getElem _⟩
 obtain ⟨msa, hmsa⟩ : ∃ y_, tz[(x).toNat]? = some y_ := ⟨tz[(x).toNat]'(by omega), List.getElem?_eq_getElem _⟩
 have hmsm : (List.zipWith rowC (timesL d) tz)[(x).toNat]? = some (rowC ms msa) := zip_get hms hmsa
 refine dS (IA ((x).toNat) rfl (has_at 3 rfl) te87 (by decide) (by omega) (by omega)) ?_
 have hmt := timesL_at hp hms
 have hml : ms.length = d.Track.length := by rw [hmt]; exact timesP_len
 refine dS (LE1 ((x).toNat) 0 (Value.slice msa.1 ms.length msa.2) rfl tk33 (has_at 3 rfl) hmsm rfl (by decide) rfl) <| dS (FA 0 rfl fo57_0 rfl) <| dS (L1R (Value.int .i64 n.Stretch) 7 rfl tk3 rfl rfl) ?_
 obtain ⟨tm, htm⟩ : ∃ y_, ms[(n.Stretch).toNat]? = some y_ := ⟨ms[(n.Stretch).toNat]'(by omega), List.getElem?_eq_getElem _⟩
 have htmm : (ms.map iC)[(n.Stretch).toNat]? = some (iC tm) := by rw [List.getElem?_map, htm]; rfl
 refine dS (IA ((n.Stretch).toNat) rfl (show Has _ (rd msa.1 ms.length 1 (ms.map iC)).holds from (has_inr 4 rfl (mem_nest hms hmsa (by simp [rowR])))) te33 (by decide) (by omega) (by omega)) <| dS (LE1 ((n.Stretch).toNat) 0 (Value.int .i64 tm) rfl tk3 (show Has _ (rd msa.1 ms.length 1 (ms.map iC)).holds from (has_inr 4 rfl (mem_nest hms hmsa (by simp [rowR])))) htmm rfl (by decide) rfl) <| dS (FA 2 rfl fo57_2 rfl) <| dS (L1R (Value.int .i64 n.Seconds) 7 rfl tk3 rfl rfl) <| dS (BI rfl b_gtr) <| dS (PK rfl) <| dS (AG rfl) <| d_end <| RK hK2 <| w_ret ?_
 refine Q1 hQ rfl rfl rfl ?_
 first | (refine congrArg Value.bool ?_; rw [decide_eq_false (fun q => by have q1 := (fitsX_iff hp).1 q; first | omega | exact hg17 q1.1)]; rfl) | (refine congrArg Value.bool ?_; have hte : tm = timeF d.Track p n.Stretch := (by rw [hmt] at htm; have e0 := timesP_at htm; rw [Int.toNat_of_nonneg hn.1.1] at e0; exact e0); rw [show decide (fitsX d n x) = decide (tm ≤ n.Seconds) from decide_eq_decide.2 (by rw [fitsX_iff hp, hte]; exact ⟨fun q => q.2, fun q => ⟨by omega, q⟩⟩)]; rw [← decide_not]; exact decide_eq_decide.2 (by omega))
set_option maxRecDepth 100000 in
set_option maxHeartbeats 400000 in
theorem clone_c (l : List Int) (lA : Option Addr) (lC : Nat) (hlen : l.length ≤ 1000000) :
    FnX Try.prog 95 [(Value.slice lA l.length lC)] [(rd lA l.length 1 (l.map iC))] (fun (x : (Option Addr) × Nat) => (Value.slice x.1 l.length x.2)) (fun (x : (Option Addr) × Nat) => True) (fun (x : (Option Addr) × Nat) => [(own x.1 x.2 3 1 (l.map iC))]) := by
 refine fnX_of go95 Try.func95 rfl rfl fun w0 Q hQ hN => ?_
 try dsimp only
 refine WS fun _ hK1 => rS (AG rfl) <| RK hK1 <| w_seq fun _ hK2 => WS fun _ hK3 => rS (MV rfl) <| rS (BI rfl (b_eqls ut33)) <| RK hK3 ?_
 refine w_if rfl (fun hg4 => ?_) (fun hg4 => ?_)
 · replace hg4 := DT hg4
   refine WS fun _ hK4 => r_rd_nil (has_at 0 rfl) hg4 (by decide) fun hnil => ?_
   have hl0 : l = [] := by simpa using hnil
   refine r_own_nil 3 1 ?_
   rw [show (own none 0 3 1 ([] : List (List Value))) = own none 0 3 1 (l.map iC) from by rw [hl0]; rfl]
   refine rS (AG rfl) <| RK hK4 <| w_ret ?_
   refine hQ _ _ _ (l_nil (vs := [(Value.slice none 0 0)]) ⟨rfl, trivial⟩ fun w hs => endX (none, 0) [0] ?_ ?_ rfl rfl rfl hs)
   · first | rfl | (rw [hl0]; rfl)
   · trivial
 replace hg4 := DF hg4
 refine WK hK2 <| WS fun _ hK5 => r_bs0 rfl te33 rfl fun b6 => rS (MV rfl) <| r_blk_own (es := (List.map iC [])) (C' := [own (some ⟨b6, 0, none⟩) 0 3 1 (List.map iC []), _]) 0 rfl (by simp) rfl (by simp [maxLen]) rfl <| r_append (es2 := (List.map iC l)) (m' := l.length) 0 rfl rfl rfl ta33 rfl rfl (by simp) (has_at 1 rfl) (one_iC _) (by first | omega | (simp; omega)) (by first | (simp only [maxLen]; omega) | (simp [maxLen]; omega)) (by simp) (by simp) rfl fun a7 c8 => ?_
 try dsimp only
 refine rS (AG rfl) <| RK hK5 <| w_ret ?_
 refine hQ _ _ _ (l_nil (vs := [(Value.slice a7 l.length c8)]) ⟨rfl, trivial⟩ fun w hs => endX (a7, c8) [0] ?_ ?_ rfl rfl rfl hs)
 · first | rfl | (rw [hl0]; rfl)
 · trivial
set_option maxRecDepth 100000 in
set_option maxHeartbeats 400000 in
theorem delfunc_c (l : List Int) (lA : Option Addr) (lC : Nat) (f : Value) (p : Int → Bool) (X : Assn) (hf : ∀ x0, x0 ∈ l → Clo Try.prog f [.int .i64 x0] [X] (.bool (p x0))) (hlen : l.length ≤ 1000000) :
    FnM Try.prog 94 [(Value.slice lA l.length lC), f] [X] (own lA lC 3 1 (l.map iC)) (fun (x : (List Int)) => (Value.slice lA x.length lC)) (fun (x : (List Int)) => x = (l.filter fun u => !p u)) (fun (x : (List Int)) => (own lA lC 3 1 (x.map iC))) := by
 refine fnM_of go94 Try.func94 rfl rfl fun w0 Q hQ hN => ?_
 try dsimp only
 refine WS fun _ hK1 => rS (AG rfl) <| RK hK1 <| WS fun _ hK2 => rS (MV rfl) <| rS (MV rfl) <| rS (CL (index_c l lA lC f p X (by exact hf) hlen) (ha_cons (has_own_n (n := l.length) 0 rfl (by simp)) <| ha_at 1 rfl rfl <| ha_nil) rfl) <| rS (AG rfl) <| RK hK2 <| w_seq fun _ hK3 => ?_
 refine WS fun _ hK4 => rS (MV rfl) <| rS (BI rfl b_eql) <| RK hK4 ?_
 refine w_if rfl (fun hg12 => ?_) (fun hg12 => ?_)
 · replace hg12 := DT hg12
   refine WS fun _ hK5 => ?_
   have hall := del_none hg12
   refine rS (MV rfl) <| rS (AG rfl) <| RK hK5 <| w_ret ?_
   refine hQ _ _ _ (l_nil (vs := [(Value.slice lA l.length lC)]) ⟨rfl, trivial⟩ fun w hs => endM l 0 ?_ ?_ rfl rfl hs)
   · clear hs w hQ hN hK5 hK4 hK3 hK2 hK1; first | rfl | (rw [hdone.2] <;> rfl)
   · clear hs w hQ hN hK5 hK4 hK3 hK2 hK1; first | rfl | exact hall
 replace hg12 := DF hg12
 refine WK hK3 <| w_seq fun _ hK6 => WS fun _ hK7 => ?_
 obtain ⟨hfi, hdi⟩ := del_start (p := p) (l := l) hg12
 refine rS (MV rfl) <| rS (BI rfl (b_add ⟨by omega, by omega⟩)) <| rS (AG rfl) <| RK hK7 <| w_block ?_
 have hinit : (((findI p l).toNat) ≤ ((findI p l).toNat + 1) ∧ ((findI p l).toNat + 1) ≤ l.length) ∧ (DelI p l l ((findI p l).toNat) ((findI p l).toNat + 1)) := by exact ⟨by omega, hdi⟩
 have hb8 : (Value.int .i64 ((((findI p l).toNat) : Nat) : Int)) = (Value.int .i64 (findI p l)) := by exact congrArg (Value.int .i64) (by omega)
 have hb9 : (Value.int .i64 ((((findI p l).toNat + 1) : Nat) : Int)) = (Value.int .i64 ((findI p l) + 1)) := by exact congrArg (Value.int .i64) (by omega)
 refine w_loop (ι := { z : Nat × Nat × (List Int) // (z.1 ≤ z.2.1 ∧ z.2.1 ≤ l.length) ∧ (DelI p l z.2.2 z.1 z.2.1) }) (fun z => [(0, (Value.slice lA l.length lC)), (1, f), (5, (Value.int .i64 ((z.1.1 : Nat) : Int))), (6, (Value.int .i64 ((z.1.2.1 : Nat) : Int)))]) (fun z => [(own lA lC 3 1 (z.1.2.2.map iC)), X.ro]) (fun z => l.length - z.1.2.1) ⟨((findI p l).toNat, ((findI p l).toNat + 1), l), hinit⟩ (Sub.cons rfl <| Sub.cons rfl <| sub_val rfl hb8 <| sub_val rfl hb9 <| Sub.nil _) (fun w hs => St.sel [0, 1] rfl rfl hs) ?_
 clear hinit
 rintro ⟨⟨i, j, q⟩, ⟨hl5_0, hl5_1⟩⟩ J10 hJ10
 try dsimp only at hl5_0 hl5_1
 try dsimp only
 have hlq := hl5_1.len
 refine w_seq fun _ hK11 => WS fun _ hK12 => rS (MV rfl) <| rS (MV rfl) <| rS (LN rfl ut33) <| rS (BI rfl b_lss) <| RK hK12 ?_
 refine w_if rfl (fun h13 => ?_) (fun h13 => ?_)
 rotate_left 1
 · replace h13 := DF h13
   refine w_exit <| k_exit_then <| k_exit_then <| k_exit_same <| KK hK6 <| WS fun _ hK22 => ?_
   have hlq := hl5_1.len
   have hdone := hl5_1.done (by omega)
   refine rS (MV rfl) <| rS (MV rfl) <| rS (SLO i rfl te33 (by omega) (by first | omega | (simp; omega))) <| r_clear (k := i) 0 rfl rfl ta33 (by intro v hv; simp [Value.cells] at hv; subst hv; rfl) rfl (by simp [hlq]) (by omega) ?_
   try dsimp only
   rw [show (own lA lC 3 1 ((q.map iC).take i)) = (own lA lC 3 1 ((l.filter fun u => !p u).map iC)) from by rw [← hdone.1, List.map_take]]
   refine RK hK22 <| WS fun _ hK23 => rS (MV rfl) <| rS (MV rfl) <| r_capq 0 rfl fun hcap => ?_
   have hic : i ≤ lC := by rw [List.length_map, hdone.2] at hcap; exact hcap
   refine rS (SHI i rfl te33 (by omega) (by first | omega | exact Nat.zero_le _ | (simp; omega))) <| rS (AG rfl) <| RK hK23 <| w_ret ?_
   refine hQ _ _ _ (l_nil (vs := [(Value.slice lA i lC)]) ⟨rfl, trivial⟩ fun w hs => endM (l.filter fun u => !p u) 0 ?_ ?_ rfl rfl hs)
   · clear hs w hQ hN hK23 hK22 hK12 hK11 hK7 hK6 hK4 hK3 hK2 hK1; first | rfl | (rw [hdone.2] <;> rfl)
   · clear hs w hQ hN hK23 hK22 hK12 hK11 hK7 hK6 hK4 hK3 hK2 hK1; first | rfl | exact hall
 replace h13 := DT h13
 refine WK hK11 <| w_seq fun _ hK14 => w_block <| WS fun _ hK15 => rS (MV rfl) <| rS (MV rfl) ?_
 obtain ⟨y, hy⟩ : ∃ y_, q[j]? = some y_ := ⟨q[j]'(by omega), List.getElem?_eq_getElem _⟩
 have hym : (q.map iC)[j]? = some (iC y) := by rw [List.getElem?_map, hy]; rfl
 refine rS (IA j rfl (has_own_n (n := l.length) 0 rfl (by first | (simp; done) | (simp; omega))) te33 (by decide) (by omega) (by omega)) <| rS (LE1 j 0 (Value.int .i64 y) rfl tk3 (has_own_n (n := q.length) 0 rfl (by simp)) hym rfl (by decide) rfl) <| rS (AG rfl) <| RK hK15 <| WS fun _ hK16 => rS (MV rfl) <| rS (MV rfl) ?_
 have hym : y ∈ l := hl5_1.mem hy
 refine rS (SX (sd_clo rfl rfl rfl (hf y hym) (ha_at 1 rfl rfl <| ha_nil)) rfl rfl) <| rS (NT rfl) <| RK hK16 ?_
 refine w_if rfl (fun hg29 => ?_) (fun hg29 => ?_)
 rotate_left 1
 · rw [Bool.not_eq_false'] at hg29
   refine w_skip <| k_block <| KK hK14 <| w_region <| rS (MV rfl) <| rS (BI rfl (b_add ⟨by omega, by omega⟩)) <| rS (AG rfl) <| r_nil ?_
   have hb20 : (Value.int .i64 ((i : Nat) : Int)) = (Value.int .i64 ((i : Nat) : Int)) := by exact congrArg (Value.int .i64) (by omega)
   have hb21 : (Value.int .i64 (((j + 1) : Nat) : Int)) = (Value.int .i64 (((j : Nat) : Int) + 1)) := by exact congrArg (Value.int .i64) (by omega)
   refine k_then (hJ10 ⟨(i, (j + 1), q), ⟨by dsimp only; omega, by first | exact hl5_1.keep hlq (by omega) hy hg29 | exact hl5_1.skip hlq hy hg29⟩⟩ _ _ _ rfl (by first | omega | (simp; omega)) (Sub.cons rfl <| Sub.cons rfl <| sub_val rfl hb20 <| sub_val rfl hb21 <| Sub.nil _) (fun w hs => St.sel [0, 1] rfl rfl hs))
 rw [Bool.not_eq_true'] at hg29
 refine WS fun _ hK17 => rS (MV rfl) <| rS (MV rfl) <| rS (MV rfl) ?_
 obtain ⟨z, hz⟩ : ∃ y_, q[i]? = some y_ := ⟨q[i]'(by omega), List.getElem?_eq_getElem _⟩
 have hzm : (q.map iC)[i]? = some (iC z) := by rw [List.getElem?_map, hz]; rfl
 refine rS (IA i rfl (has_own_n (n := l.length) 0 rfl (by first | (simp; done) | (simp; omega))) te33 (by decide) (by omega) (by omega)) <| r_store_own (k := i) (o := 0) (vs := [(Value.int .i64 y)]) (es' := (List.map iC (q.set i y))) (C' := [(own lA lC 3 1 (List.map iC (q.set i y))), _]) 0 rfl rfl rfl ts3 rfl rfl rfl rfl hzm rfl (by decide) (by exact (List.map_set (f := iC) (l := q) (i := i) (a := y)).symm) rfl <| RK hK17 <| w_region <| rS (MV rfl) <| rS (BI rfl (b_add ⟨by omega, by omega⟩)) <| rS (AG rfl) <| r_nil <| k_block <| KK hK14 ?_
 refine w_region <| rS (MV rfl) <| rS (BI rfl (b_add ⟨by omega, by omega⟩)) <| rS (AG rfl) <| r_nil ?_
 have hb18 : (Value.int .i64 (((i + 1) : Nat) : Int)) = (Value.int .i64 (((i : Nat) : Int) + 1)) := by exact congrArg (Value.int .i64) (by omega)
 have hb19 : (Value.int .i64 (((j + 1) : Nat) : Int)) = (Value.int .i64 (((j : Nat) : Int) + 1)) := by exact congrArg (Value.int .i64) (by omega)
 refine k_then (hJ10 ⟨((i + 1), (j + 1), (q.set i y)), ⟨by dsimp only; omega, by first | exact hl5_1.keep hlq (by omega) hy hg29 | exact hl5_1.skip hlq hy hg29⟩⟩ _ _ _ rfl (by first | omega | (simp; omega)) (Sub.cons rfl <| Sub.cons rfl <| sub_val rfl hb18 <| sub_val rfl hb19 <| Sub.nil _) (fun w hs => St.sel [0, 1] rfl rfl hs))
end
section
open Go.RowKit
set_option linter.unusedVariables false
set_option maxRecDepth 100000 in
set_option maxHeartbeats 400000 in
theorem wmeets_c (d : GuardM) (kA : Option Addr) (kC : Nat) (pA : Option Addr) (pC : Nat) (nA : Option Addr) (nC : Nat) (tz : List RA) (tA : Option Addr) (tC : Nat) (gw : Nat) (n : NeedV) (cl : List Int) (clA : Option Addr) (clC : Nat) (hin : GuardIn d) (htr : trackOk d.Track = true) (hok : GuardOk d) (htz : tz.length = d.Posts.length) (hn : NeedOk d.Track n) (hc : ∀ x ∈ cl, 0 ≤ x ∧ x < (d.Posts.length : Int)) (hcl : cl.length ≤ 1000000) :
    FnX Try.prog 61 [(Value.pointer (some ⟨gw, 0, none⟩)), (Value.agg (NeedV.cells n).toArray), (Value.slice clA cl.length clC)] [(rd kA d.Track.length 9 (d.Track.map StretchV.cells)), (rd pA d.Posts.length 7 (d.Posts.map PostV.cells)), (rd nA d.Needs.length 3 (d.Needs.map NeedV.cells)), (rd tA ((timesL d).length) 1 (List.zipWith rowC (timesL d) tz)), (bun (nest rowR (timesL d) tz)), (blk gw 89 (WatchV.cells (WatchV.mk (GuardV.mk (TrackV.mk (Slc.mk kA d.Track.length kC)) (Slc.mk pA d.Posts.length pC) (Slc.mk nA d.Needs.length nC) d.Tower d.Radio) (Slc.mk tA ((timesL d).length) tC)))), (rd clA cl.length 1 (cl.map iC))] (fun (x : (Option Addr) × Nat) => (Value.slice x.1 ((cl.filter fun x => decide (fitsX d n x)).length) x.2)) (fun (x : (Option Addr) × Nat) => True) (fun (x : (Option Addr) × Nat) => [(own x.1 x.2 3 1 ((cl.filter fun x => decide (fitsX d n x)).map iC))]) := by
 have hlen := hin.trk
 have hside := hin.side
 have hpl := hin.pst
 have hnl := hin.nds
 have hnk := hin.nk
 have hpk := hin.pk
 refine fnX_of go61 Try.func61 rfl rfl fun w0 Q hQ hN => ?_
 try dsimp only
 refine WS fun _ hK1 => BX1 rfl rfl fun b2 => BXA rfl fun b3 => rS (AG rfl) <| RK hK1 <| WS fun _ hK4 => rS (MV rfl) <| cX (clone_c cl clA clC (by exact hcl)) (ha_at 8 rfl rfl <| ha_nil) rfl fun y5 hy6 => ?_
 obtain ⟨a7, c8⟩ := y5
 try dsimp only
 refine rS (FU rfl) ?_
 refine r_callm 0 rfl rfl rfl rfl (fnM_unbun (delfunc_c cl a7 c8 (Value.func (.func 96) [].toArray [(Value.pointer (some ⟨b2, 0, none⟩)), (Value.pointer (some ⟨b3, 0, none⟩))].toArray) (fun u9 => (!(decide (fitsX d n u9)))) (bun [(rd kA d.Track.length 9 (d.Track.map StretchV.cells)), (rd pA d.Posts.length 7 (d.Posts.map PostV.cells)), (rd nA d.Needs.length 3 (d.Needs.map NeedV.cells)), (rd tA ((timesL d).length) 1 (List.zipWith rowC (timesL d) tz)), (bun (nest rowR (timesL d) tz)), (blk gw 89 (WatchV.cells (WatchV.mk (GuardV.mk (TrackV.mk (Slc.mk kA d.Track.length kC)) (Slc.mk pA d.Posts.length pC) (Slc.mk nA d.Needs.length nC) d.Tower d.Radio) (Slc.mk tA ((timesL d).length) tC)))), (blk b2 84 [(Value.pointer (some ⟨gw, 0, none⟩))]), (blk b3 57 (NeedV.cells n))]) (by intro u9 hmem; exact clo_of (fi := []) (ca := [(Value.pointer (some ⟨b2, 0, none⟩)), (Value.pointer (some ⟨b3, 0, none⟩))]) (fnV_bun (meets1_c u9 d kA kC pA pC nA nC tz tA tC gw n b2 b3 (by first | assumption | exact hc _ hmem | omega) (by first | assumption | exact hc _ hmem | omega) (by first | assumption | exact hc _ hmem | omega) (by first | assumption | exact hc _ hmem | omega) (by first | assumption | exact hc _ hmem | omega) (by first | assumption | exact hc _ hmem | omega)) (ha_at 0 rfl rfl <| ha_at 1 rfl rfl <| ha_at 2 rfl rfl <| ha_at 3 rfl rfl <| ha_at 4 rfl rfl <| ha_at 5 rfl rfl <| ha_at 6 rfl rfl <| ha_at 7 rfl rfl <| ha_nil))) (by omega))) rfl (cv_cons 3 rfl rfl (cov_ro (cov_refl _)) (cv_cons 4 rfl rfl (cov_ro (cov_refl _)) (cv_cons 5 rfl rfl (cov_ro (cov_refl _)) (cv_cons 6 rfl rfl (cov_ro (cov_refl _)) (cv_cons 7 rfl rfl (cov_refl _) (cv_cons 8 rfl rfl (cov_ro (cov_refl _)) (cv_cons 2 rfl rfl (cov_refl _) (cv_cons 1 rfl rfl (cov_refl _) cv_nil)))))))) rfl (fun mm hmf => ?_)
 try dsimp only
 have hmm : mm = (cl.filter fun x => decide (fitsX d n x)) := by rw [hmf]; simp only [Bool.not_not]
 rw [hmm]
 refine rS (AG rfl) <| RK hK4 <| w_ret ?_
 refine hQ _ _ _ (l_nil (vs := [(Value.slice a7 ((cl.filter fun x => decide (fitsX d n x)).length) c8)]) ⟨rfl, trivial⟩ fun w hs => endX (a7, c8) [0] ?_ ?_ rfl rfl rfl hs)
 · rfl
 · trivial
end
section
open Go.RowKit
set_option linter.unusedVariables false
set_option maxRecDepth 100000 in
set_option maxHeartbeats 400000 in
theorem Called_c (d : GuardM) (kA : Option Addr) (kC : Nat) (pA : Option Addr) (pC : Nat) (nA : Option Addr) (nC : Nat) (l : List Int) (lA : Option Addr) (lC : Nat) (hin : GuardIn d) (hll : l.length ≤ 1000000) :
    FnX Try.prog 19 [(Value.agg (GuardV.cells (GuardV.mk (TrackV.mk (Slc.mk kA d.Track.length kC)) (Slc.mk pA d.Posts.length pC) (Slc.mk nA d.Needs.length nC) d.Tower d.Radio)).toArray), (Value.slice lA l.length lC)] [(rd kA d.Track.length 9 (d.Track.map StretchV.cells)), (rd pA d.Posts.length 7 (d.Posts.map PostV.cells)), (rd nA d.Needs.length 3 (d.Needs.map NeedV.cells)), (rd lA l.length 1 (l.map iC))] (fun (x : (Option Addr) × Nat) => (Value.tuple [(Value.slice x.1 ((calledV d l).length) x.2), (Value.int .i64 (mannedE d l))].toArray)) (fun (x : (Option Addr) × Nat) => True) (fun (x : (Option Addr) × Nat) => [(own x.1 x.2 3 1 ((calledV d l).map iC))]) := by
 have hlen := hin.trk
 have hside := hin.side
 have hpl := hin.pst
 have hnl := hin.nds
 have hnk := hin.nk
 have hpk := hin.pk
 refine fnX_of go19 Try.func19 rfl rfl fun w0 Q hQ hN => ?_
 try dsimp only
 refine WS fun _ hK1 => BXA rfl fun b2 => rS (AG rfl) <| rS (AG rfl) <| RK hK1 <| WS fun _ hK3 => rS (LW 0 rfl tk32 rfl rfl) <| rS (MV rfl) <| cX (manned_c d kA kC pA pC nA nC l lA lC hin hll) (ha_at 1 rfl rfl <| ha_at 2 rfl rfl <| ha_at 3 rfl rfl <| ha_at 4 rfl rfl <| ha_nil) rfl fun y4 hy5 => ?_
 obtain ⟨ok11, ec6, gw7, tA8, tC9, tz10⟩ := y4
 cases ok11
 · obtain ⟨hec, he⟩ := hy5.2 rfl
   try dsimp only at hec he
   subst hec
   try dsimp only [cond_true, cond_false, List.cons_append, List.nil_append]
   refine rS (MV rfl) <| rS (EX rfl) <| rS (EX rfl) <| rS (EX rfl) <| rS (AG rfl) <| rS (AG rfl) <| rS (AG rfl) <| RK hK3 <| w_seq fun _ hK12 => WS fun _ hK13 => ?_
   refine rS (MV rfl) <| rS (BI rfl b_neq) <| RK hK13 ?_
   refine w_if rfl (fun hg17 => ?_) (fun hg17 => ?_)
   rotate_left 1
   · replace hg17 := XF hg17
     exact absurd hg17 he
   replace hg17 := XT hg17
   refine WS fun _ hK14 => r_own_nil 3 1 ?_
   rw [show (own none 0 3 1 ([] : List (List Value))) = own none 0 3 1 ((calledV d l).map iC) from by rw [calledV_no he]; rfl]
   refine rS (MV rfl) <| rS (AG rfl) <| rS (AG rfl) <| RK hK14 <| w_ret ?_
   refine hQ _ _ _ (l_nil (vs := [(Value.slice none 0 0), (Value.int .i64 (mannedE d l))]) ⟨rfl, rfl, trivial⟩ fun w hs => endX (none, 0) [0] ?_ ?_ rfl rfl rfl hs)
   · first | rfl | (rw [calledV_no he]; rfl) | (rw [he]; rfl)
   · trivial
 obtain ⟨he, htz⟩ := hy5.1 rfl
 try dsimp only [cond_true, cond_false, List.cons_append, List.nil_append]
 obtain ⟨hg0, hem⟩ := manned_zero he
 obtain ⟨htr, hok⟩ := guardE_zero hg0
 have hn8 := hok.len
 have hsb := setAll_b (l := l) hn8.1
 have hbit := fun k (hk : k < d.Posts.length) => setAll_bit hn8.1 (l := l) (fun x hx => by have := empty_mem hem x hx; omega) hk
 refine rS (MV rfl) <| rS (EX rfl) <| rS (EX rfl) <| rS (EX rfl) <| rS (AG rfl) <| rS (AG rfl) <| rS (AG rfl) <| RK hK3 <| w_seq fun _ hK15 => WS fun _ hK16 => ?_
 refine rS (MV rfl) <| rS (SX (sd_bin (r := .bool false) rfl rfl rfl b_neq) rfl rfl) <| RK hK16 <| w_if_false rfl <| WK hK15 <| WS fun _ hK17 => rS (MV rfl) <| rS (MV rfl) <| cX (wcalled_c d kA kC pA pC nA nC tA8 ((timesL d).length) tC9 gw7 (setAll d.Posts.length l) hin (by first | assumption | omega | (simp; done) | (simp; omega)) (by first | assumption | omega | (simp; done) | (simp; omega)) (by first | assumption | omega | (simp; done) | (simp; omega))) (ha_at 4 rfl rfl <| ha_at 5 rfl rfl <| ha_at 6 rfl rfl <| ha_at 0 rfl rfl <| ha_nil) rfl fun y18 hy19 => ?_
 obtain ⟨a20, c21⟩ := y18
 try dsimp only
 rw [show calledL d (bitS (setAll d.Posts.length l)) = calledV d l from by rw [calledV_ok he]; exact called_congr hbit]
 refine rS (AG rfl) <| rS (AG rfl) <| RK hK17 <| w_ret ?_
 refine hQ _ _ _ (l_nil (vs := [(Value.slice a20 ((calledV d l).length) c21), (Value.int .i64 0)]) ⟨rfl, rfl, trivial⟩ fun w hs => endX (a20, c21) [0] ?_ ?_ rfl rfl rfl hs)
 · first | rfl | (rw [calledV_no he]; rfl) | (rw [he]; rfl)
 · trivial
set_option maxRecDepth 100000 in
set_option maxHeartbeats 400000 in
theorem Meets_c (d : GuardM) (kA : Option Addr) (kC : Nat) (pA : Option Addr) (pC : Nat) (nA : Option Addr) (nC : Nat) (nd : Int) (l : List Int) (lA : Option Addr) (lC : Nat) (hin : GuardIn d) (hll : l.length ≤ 1000000) :
    FnX Try.prog 21 [(Value.agg (GuardV.cells (GuardV.mk (TrackV.mk (Slc.mk kA d.Track.length kC)) (Slc.mk pA d.Posts.length pC) (Slc.mk nA d.Needs.length nC) d.Tower d.Radio)).toArray), (Value.int .i64 nd), (Value.slice lA l.length lC)] [(rd kA d.Track.length 9 (d.Track.map StretchV.cells)), (rd pA d.Posts.length 7 (d.Posts.map PostV.cells)), (rd nA d.Needs.length 3 (d.Needs.map NeedV.cells)), (rd lA l.length 1 (l.map iC))] (fun (x : (Option Addr) × Nat) => (Value.tuple [(Value.slice x.1 ((meetsV d nd l).length) x.2), (Value.int .i64 (meetsE d nd l))].toArray)) (fun (x : (Option Addr) × Nat) => True) (fun (x : (Option Addr) × Nat) => [(own x.1 x.2 3 1 ((meetsV d nd l).map iC))]) := by
 have hlen := hin.trk
 have hside := hin.side
 have hpl := hin.pst
 have hnl := hin.nds
 have hnk := hin.nk
 have hpk := hin.pk
 refine fnX_of go21 Try.func21 rfl rfl fun w0 Q hQ hN => ?_
 try dsimp only
 refine WS fun _ hK1 => BXA rfl fun b2 => rS (AG rfl) <| rS (AG rfl) <| RK hK1 <| WS fun _ hK3 => rS (LW 0 rfl tk32 rfl rfl) <| rS (MV rfl) <| cX (manned_c d kA kC pA pC nA nC l lA lC hin hll) (ha_at 1 rfl rfl <| ha_at 2 rfl rfl <| ha_at 3 rfl rfl <| ha_at 4 rfl rfl <| ha_nil) rfl fun y4 hy5 => ?_
 obtain ⟨ok11, ec6, gw7, tA8, tC9, tz10⟩ := y4
 cases ok11
 · obtain ⟨hec, he⟩ := hy5.2 rfl
   try dsimp only at hec he
   subst hec
   try dsimp only [cond_true, cond_false, List.cons_append, List.nil_append]
   refine rS (MV rfl) <| rS (EX rfl) <| rS (EX rfl) <| rS (EX rfl) <| rS (AG rfl) <| rS (AG rfl) <| rS (AG rfl) <| RK hK3 <| w_seq fun _ hK12 => WS fun _ hK13 => ?_
   refine rS (MV rfl) <| rS (BI rfl b_neq) <| RK hK13 ?_
   refine w_if rfl (fun hg19 => ?_) (fun hg19 => ?_)
   rotate_left 1
   · replace hg19 := XF hg19
     exact absurd hg19 he
   replace hg19 := XT hg19
   refine WS fun _ hK14 => rS (MV rfl) ?_
   obtain ⟨hme, hme2⟩ := meetsE_bad (nd := nd) he
   refine r_own_nil 3 1 ?_
   rw [show (own none 0 3 1 ([] : List (List Value))) = own none 0 3 1 ((meetsV d nd l).map iC) from by rw [meetsV_no hme]; rfl]
   refine rS (AG rfl) <| rS (AG rfl) <| RK hK14 <| w_ret ?_
   refine hQ _ _ _ (l_nil (vs := [(Value.slice none 0 0), (Value.int .i64 (mannedE d l))]) ⟨rfl, rfl, trivial⟩ fun w hs => endX (none, 0) [0] ?_ ?_ rfl rfl rfl hs)
   · first | (rw [hmi.1] <;> rfl) | (rw [meetsV_no hme, hme2] <;> rfl)
   · trivial
 obtain ⟨he, htz⟩ := hy5.1 rfl
 try dsimp only [cond_true, cond_false, List.cons_append, List.nil_append]
 obtain ⟨hg0, hem⟩ := manned_zero he
 obtain ⟨htr, hok⟩ := guardE_zero hg0
 have hn8 := hok.len
 have hsb := setAll_b (l := l) hn8.1
 have hbit := fun k (hk : k < d.Posts.length) => setAll_bit hn8.1 (l := l) (fun x hx => by have := empty_mem hem x hx; omega) hk
 refine rS (MV rfl) <| rS (EX rfl) <| rS (EX rfl) <| rS (EX rfl) <| rS (AG rfl) <| rS (AG rfl) <| rS (AG rfl) <| RK hK3 <| w_seq fun _ hK15 => WS fun _ hK16 => ?_
 refine rS (MV rfl) <| rS (SX (sd_bin (r := .bool false) rfl rfl rfl b_neq) rfl rfl) <| RK hK16 <| w_if_false rfl <| WK hK15 <| w_seq fun _ hK17 => WS fun _ hK18 => rS (FA 2 rfl fo32_2 rfl) <| rS (L1 (Value.slice nA d.Needs.length nC) 3 rfl tk26 rfl rfl) <| rS (LN rfl ut26) ?_
 refine rS (BI rfl (b_sub ⟨by omega, by omega⟩)) <| rS (MV rfl) <| r_bs (xs := [.tmp 25]) (cs := [(Value.int .i64 nd)]) rfl te33 tz3 rfl rfl rfl rfl (by simp [Value.cells]) rfl rfl fun b19 => rS (CL (FnV.eq (in_post 0 (((d.Needs.length : Nat) : Int) - 1) ([nd]) (some ⟨b19, 0, none⟩) 1 (by first | assumption | omega | (simp; done) | (simp; omega))) inAll_one) (ha_cons (has_rd_blk 0 rfl rfl (by simp [iC_length]) rfl) <| ha_nil) rfl) <| rS (NT rfl) <| RK hK18 ?_
 refine w_if rfl (fun hg28 => ?_) (fun hg28 => ?_)
 · replace hg28 := XT hg28
   refine WS fun _ hK20 => ?_
   obtain ⟨hme, hme2⟩ := meetsE_out (nd := nd) he (by omega)
   refine r_own_nil 3 1 ?_
   rw [show (own none 0 3 1 ([] : List (List Value))) = own none 0 3 1 ((meetsV d nd l).map iC) from by rw [meetsV_no hme]; rfl]
   refine rS (AG rfl) <| rS (AG rfl) <| RK hK20 <| w_ret ?_
   refine hQ _ _ _ (l_nil (vs := [(Value.slice none 0 0), (Value.int .i64 2)]) ⟨rfl, rfl, trivial⟩ fun w hs => endX (none, 0) [0] ?_ ?_ rfl rfl rfl hs)
   · first | (rw [hmi.1] <;> rfl) | (rw [meetsV_no hme, hme2] <;> rfl)
   · trivial
 replace hg28 := XF hg28
 refine WK hK17 <| w_seq fun _ hK21 => w_draw4 mixed [0, 1, 2, 3, 4, 5, 6, 7, 11] [8, 9, 10] [false, false, false, false, false, false, false, false, false] [false, false, false] [(blk b19 3 [(Value.int .i64 nd)]), (blk gw7 89 (WatchV.cells (WatchV.mk (GuardV.mk (TrackV.mk (Slc.mk kA d.Track.length kC)) (Slc.mk pA d.Posts.length pC) (Slc.mk nA d.Needs.length nC) d.Tower d.Radio) (Slc.mk tA8 ((timesL d).length) tC9)))), (own tA8 tC9 33 1 (List.zipWith rowC (timesL d) tz10)), (bund (nest rowO (timesL d) tz10)), (blk b2 32 (GuardV.cells (GuardV.mk (TrackV.mk (Slc.mk kA d.Track.length kC)) (Slc.mk pA d.Posts.length pC) (Slc.mk nA d.Needs.length nC) d.Tower d.Radio))), (rd kA d.Track.length 9 (d.Track.map StretchV.cells)).ro, (rd pA d.Posts.length 7 (d.Posts.map PostV.cells)).ro, (rd nA d.Needs.length 3 (d.Needs.map NeedV.cells)).ro, (rd lA l.length 1 (l.map iC)).ro] [] (by kernel_rfl) (fun w hs => St.sel [0, 1, 2, 3, 4, 5, 6, 7, 8] rfl rfl hs) (fun w hs => St.sel [] rfl rfl hs) <| eS rfl (MV rfl) <| eS rfl (FA 2 rfl fo32_2 rfl) <| eS rfl (L1 (Value.slice nA d.Needs.length nC) 4 rfl tk26 rfl rfl) <| eS rfl (MV rfl) ?_
 obtain ⟨n, hn⟩ : ∃ y_, d.Needs[(nd).toNat]? = some y_ := ⟨d.Needs[(nd).toNat]'(by omega), List.getElem?_eq_getElem _⟩
 have hnm : (d.Needs.map NeedV.cells)[(nd).toNat]? = some (NeedV.cells n) := by rw [List.getElem?_map, hn]; rfl
 refine eS rfl (IA ((nd).toNat) rfl (has_at 7 rfl) te26 (by decide) (by omega) (by omega)) <| eS rfl (LEN ((nd).toNat) 0 (NeedV.cells n) rfl tk57 (has_at 7 rfl) hnm rfl (by decide) rfl rfl) ?_
 have hno := hok.need n (List.mem_of_getElem? hn)
 have hmi := meetsE_in he (by omega) hn
 refine eS rfl (MV rfl) <| eS rfl (MV rfl) <| eS rfl (AG rfl) <| d_fin rfl <| t_cons rfl fun T22 hT22 => cX (wcalled_c d kA kC pA pC nA nC tA8 ((timesL d).length) tC9 gw7 (setAll d.Posts.length l) hin (by first | assumption | omega | (simp; done) | (simp; omega)) (by first | assumption | omega | (simp; done) | (simp; omega)) (by first | assumption | omega | (simp; done) | (simp; omega))) (ha_at 5 rfl rfl <| ha_at 6 rfl rfl <| ha_at 7 rfl rfl <| ha_at 1 rfl rfl <| ha_nil) rfl fun y23 hy24 => ?_
 obtain ⟨a25, c26⟩ := y23
 try dsimp only
 refine r_nil (hT22 _ _ (fun w hs => St.sel [1, 2, 3, 4, 5, 6, 7, 8, 9] rfl rfl hs) ?_)
 refine t_cons rfl fun T27 hT27 => cX (wmeets_c d kA kC pA pC nA nC tz10 tA8 tC9 gw7 n (calledL d (bitS (setAll d.Posts.length l))) a25 c26 hin (by first | assumption | omega | (simp; done) | (simp; omega)) (by first | assumption | omega | (simp; done) | (simp; omega)) (by first | assumption | omega | (simp; done) | (simp; omega)) (by exact hno) (by exact called_mem) (by exact Nat.le_trans called_len (by omega))) (ha_at 6 rfl rfl <| ha_at 7 rfl rfl <| ha_at 8 rfl rfl <| ha_cons (has_own_n (n := (timesL d).length) 3 rfl (rows_len (by rw [timesL_len]; exact htz))) <| ha_cons (bun_bund 4 rfl rowO_R) <| ha_at 2 rfl rfl <| ha_cons (has_own_n (n := (calledL d (bitS (setAll d.Posts.length l))).length) 0 rfl (by simp)) <| ha_nil) rfl fun y28 hy29 => ?_
 obtain ⟨a30, c31⟩ := y28
 try dsimp only
 refine r_nil (hT27 _ _ (fun w hs => St.sel [2, 3, 4, 5, 6, 7, 8, 9, 10] rfl rfl hs) ?_)
 refine t_cons rfl fun T32 hT32 => ?_
 rw [meets_filter, show meetsL d n (bitS (setAll d.Posts.length l)) = meetsV d nd l from by rw [hmi.2]; exact meets_congr hbit]
 refine rS (AG rfl) ?_
 refine r_nil (hT32 _ _ (fun w hs => St.sel [2, 3, 4, 5, 6, 7, 8, 9, 10] rfl rfl hs) ?_)
 refine t_fin rfl <| KK hK21 <| w_ret ?_
 refine hQ _ _ _ (l_nil (vs := [(Value.slice a30 ((meetsV d nd l).length) c31), (Value.int .i64 0)]) ⟨rfl, rfl, trivial⟩ fun w hs => endX (a30, c31) [0] ?_ ?_ rfl rfl rfl hs)
 · first | (rw [hmi.1] <;> rfl) | (rw [meetsV_no hme, hme2] <;> rfl)
 · trivial
end
section
open Go.RowKit
set_option linter.unusedVariables false
set_option maxRecDepth 100000 in
set_option maxHeartbeats 400000 in
theorem Time_c (d : GuardM) (kA : Option Addr) (kC : Nat) (pA : Option Addr) (pC : Nat) (nA : Option Addr) (nC : Nat) (a : Int) (k : Int) (hin : GuardIn d) :
    FnV Try.prog 17 [(Value.agg (GuardV.cells (GuardV.mk (TrackV.mk (Slc.mk kA d.Track.length kC)) (Slc.mk pA d.Posts.length pC) (Slc.mk nA d.Needs.length nC) d.Tower d.Radio)).toArray), (Value.int .i64 a), (Value.int .i64 k)] [(rd kA d.Track.length 9 (d.Track.map StretchV.cells)), (rd pA d.Posts.length 7 (d.Posts.map PostV.cells)), (rd nA d.Needs.length 3 (d.Needs.map NeedV.cells))] (Value.tuple [(Value.int .i64 (timeV d a k)), (Value.int .i64 (farE d a k))].toArray) := by
 have hlen := hin.trk
 have hside := hin.side
 have hpl := hin.pst
 have hnl := hin.nds
 have hnk := hin.nk
 have hpk := hin.pk
 refine fnV_of go17 Try.func17 rfl rfl fun w0 Q hQ hN => ?_
 try dsimp only
 refine WS fun _ hK1 => BXA rfl fun b2 => rS (AG rfl) <| rS (AG rfl) <| RK hK1 <| WS fun _ hK3 => rS (LW 0 rfl tk32 rfl rfl) <| cX (popen_c d kA kC pA pC nA nC hin) (ha_at 1 rfl rfl <| ha_at 2 rfl rfl <| ha_at 3 rfl rfl <| ha_nil) rfl fun y4 hy5 => ?_
 obtain ⟨ok11, ec6, gw7, tA8, tC9, tz10⟩ := y4
 cases ok11
 · obtain ⟨hec, he⟩ := hy5.2 rfl
   try dsimp only at hec he
   subst hec
   try dsimp only [cond_true, cond_false, List.cons_append, List.nil_append]
   refine rS (MV rfl) <| rS (EX rfl) <| rS (EX rfl) <| rS (AG rfl) <| rS (AG rfl) <| RK hK3 <| w_seq fun _ hK12 => WS fun _ hK13 => rS (MV rfl) <| rS (BI rfl b_neq) ?_
   refine RK hK13 ?_
   refine w_if rfl (fun hg16 => ?_) (fun hg16 => ?_)
   rotate_left 1
   · replace hg16 := XF hg16
     exact absurd hg16 he
   replace hg16 := XT hg16
   refine WS fun _ hK14 => rS (MV rfl) <| rS (AG rfl) <| rS (AG rfl) <| RK hK14 <| w_ret <| Q2 hQ rfl rfl rfl rfl ?_
   first | (have e := far_bad (a := a) (k := k) he; rw [e.1, e.2.2] <;> rfl) | (have e := far_out (a := a) (k := k) he (by omega); rw [e.1, e.2.2] <;> rfl) | (have e := far_in (k := k) he (by omega) hp; rw [e.1, e.2.2]; have hte : tm = timeF d.Track _ k := (by rw [hmt] at htm; have e0 := timesP_at htm; rw [Int.toNat_of_nonneg (by omega)] at e0; exact e0); rw [hte] <;> rfl)
 obtain ⟨he, htz⟩ := hy5.1 rfl
 try dsimp only [cond_true, cond_false, List.cons_append, List.nil_append]
 obtain ⟨htr, hok⟩ := guardE_zero he
 have htl := timesL_len (d := d)
 try dsimp only at htz
 refine rS (MV rfl) <| rS (EX rfl) <| rS (EX rfl) <| rS (AG rfl) <| rS (AG rfl) <| RK hK3 <| w_seq fun _ hK15 => WS fun _ hK16 => rS (MV rfl) <| rS (SX (sd_bin (r := .bool false) rfl rfl rfl b_neq) rfl rfl) ?_
 refine RK hK16 <| w_if_false rfl <| WK hK15 <| w_seq fun _ hK17 => WS fun _ hK18 => rS (FA 1 rfl fo32_1 rfl) <| rS (L1 (Value.slice pA d.Posts.length pC) 3 rfl tk25 rfl rfl) <| rS (LN rfl ut25) <| rS (BI rfl (b_sub ⟨by omega, by omega⟩)) <| rS (MV rfl) ?_
 refine r_bs (xs := [.tmp 22]) (cs := [(Value.int .i64 a)]) rfl te33 tz3 rfl rfl rfl rfl (by simp [Value.cells]) rfl rfl fun b19 => rS (CL (FnV.eq (in_post 0 (((d.Posts.length : Nat) : Int) - 1) ([a]) (some ⟨b19, 0, none⟩) 1 (by first | assumption | omega | (simp; done) | (simp; omega))) inAll_one) (ha_cons (has_rd_blk 0 rfl rfl (by simp [iC_length]) rfl) <| ha_nil) rfl) <| rS (NT rfl) <| rS (MV rfl) ?_
 refine r_bool (t := 26) rfl (fun hg26 => ?_) (fun hg26 => ?_)
 · replace hg26 := XT hg26
   refine rS (OX rfl) <| rS (OX rfl) <| rS (OX rfl) <| rS (OX rfl) <| rS (OX rfl) <| rS (OX rfl) <| rS (OX rfl) <| rS (OX rfl) <| rS (OX rfl) <| rS (PK rfl) ?_
   refine RK hK18 <| w_if_true rfl <| WS fun _ hK20 => rS (AG rfl) <| rS (AG rfl) <| RK hK20 <| w_ret <| Q2 hQ rfl rfl rfl rfl ?_
   first | (have e := far_bad (a := a) (k := k) he; rw [e.1, e.2.2] <;> rfl) | (have e := far_out (a := a) (k := k) he (by omega); rw [e.1, e.2.2] <;> rfl) | (have e := far_in (k := k) he (by omega) hp; rw [e.1, e.2.2]; have hte : tm = timeF d.Track _ k := (by rw [hmt] at htm; have e0 := timesP_at htm; rw [Int.toNat_of_nonneg (by omega)] at e0; exact e0); rw [hte] <;> rfl)
 replace hg26 := XF hg26
 refine rS (FA 0 rfl fo32_0 rfl) <| rS (FA 0 rfl fo24_0 rfl) <| rS (L1 (Value.slice kA d.Track.length kC) 4 rfl tk22 rfl rfl) <| rS (LN rfl ut22) <| rS (BI rfl (b_sub ⟨by omega, by omega⟩)) <| rS (MV rfl) <| r_bs (xs := [.tmp 32]) (cs := [(Value.int .i64 k)]) rfl te33 tz3 rfl rfl rfl rfl (by simp [Value.cells]) rfl rfl fun b21 => rS (CL (FnV.eq (in_post 0 (((d.Track.length : Nat) : Int) - 1) ([k]) (some ⟨b21, 0, none⟩) 1 (by first | assumption | omega | (simp; done) | (simp; omega))) inAll_one) (ha_cons (has_rd_blk 0 rfl rfl (by simp [iC_length]) rfl) <| ha_nil) rfl) <| rS (NT rfl) <| rS (PK rfl) ?_
 refine RK hK18 ?_
 refine w_if rfl (fun hg36 => ?_) (fun hg36 => ?_)
 · replace hg36 := XT hg36
   refine WS fun _ hK22 => rS (AG rfl) <| rS (AG rfl) <| RK hK22 <| w_ret <| Q2 hQ rfl rfl rfl rfl ?_
   first | (have e := far_bad (a := a) (k := k) he; rw [e.1, e.2.2] <;> rfl) | (have e := far_out (a := a) (k := k) he (by omega); rw [e.1, e.2.2] <;> rfl) | (have e := far_in (k := k) he (by omega) hp; rw [e.1, e.2.2]; have hte : tm = timeF d.Track _ k := (by rw [hmt] at htm; have e0 := timesP_at htm; rw [Int.toNat_of_nonneg (by omega)] at e0; exact e0); rw [hte] <;> rfl)
 replace hg36 := XF hg36
 refine WK hK17 <| WS fun _ hK23 => rS (MV rfl) <| rS (SX (sd_nil_p rfl rfl) rfl rfl) <| rS (FA 7 rfl fo89_1 rfl) <| rS (L1 (Value.slice tA8 ((timesL d).length) tC9) 2 rfl tk87 rfl rfl) <| rS (MV rfl) ?_
 obtain ⟨ms, hms⟩ : ∃ y_, (timesL d)[(a).toNat]? = some y_ := ⟨(timesL d)[(a).toNat]'(by omega), List.getElem?_eq_getElem _⟩
 obtain ⟨msa, hmsa⟩ : ∃ y_, tz10[(a).toNat]? = some y_ := ⟨tz10[(a).toNat]'(by omega), List.getElem?_eq_getElem _⟩
 have hmsm : (List.zipWith rowC (timesL d) tz10)[(a).toNat]? = some (rowC ms msa) := zip_get hms hmsa
 refine rS (IA ((a).toNat) rfl (has_own_n (n := (timesL d).length) 3 rfl (rows_len (by rw [timesL_len]; exact htz))) te87 (by decide) (by omega) (by omega)) <| rS (LE1 ((a).toNat) 0 (Value.slice msa.1 ms.length msa.2) rfl tk33 (has_own_n (n := (timesL d).length) 3 rfl (rows_len (by rw [timesL_len]; exact htz))) hmsm rfl (by decide) rfl) ?_
 have hp : d.Posts[a.toNat]? = some (d.Posts[a.toNat]'(by omega)) := List.getElem?_eq_getElem _
 have hmt := timesL_at hp hms
 have hml : ms.length = d.Track.length := by rw [hmt]; exact timesP_len
 refine rS (MV rfl) ?_
 obtain ⟨tm, htm⟩ : ∃ y_, ms[(k).toNat]? = some y_ := ⟨ms[(k).toNat]'(by omega), List.getElem?_eq_getElem _⟩
 have htmm : (ms.map iC)[(k).toNat]? = some (iC tm) := by rw [List.getElem?_map, htm]; rfl
 refine rS (IA ((k).toNat) rfl (show Has _ (rd msa.1 ms.length 1 (ms.map iC)).holds from (fun w hw => (bun_bund 4 rfl rowO_R) w hw _ (mem_nest hms hmsa (by simp [rowR])))) te33 (by decide) (by omega) (by omega)) <| rS (LE1 ((k).toNat) 0 (Value.int .i64 tm) rfl tk3 (show Has _ (rd msa.1 ms.length 1 (ms.map iC)).holds from (fun w hw => (bun_bund 4 rfl rowO_R) w hw _ (mem_nest hms hmsa (by simp [rowR])))) htmm rfl (by decide) rfl) <| rS (AG rfl) <| rS (AG rfl) <| RK hK23 <| w_ret <| Q2 hQ rfl rfl rfl rfl ?_
 first | (have e := far_bad (a := a) (k := k) he; rw [e.1, e.2.2] <;> rfl) | (have e := far_out (a := a) (k := k) he (by omega); rw [e.1, e.2.2] <;> rfl) | (have e := far_in (k := k) he (by omega) hp; rw [e.1, e.2.2]; have hte : tm = timeF d.Track _ k := (by rw [hmt] at htm; have e0 := timesP_at htm; rw [Int.toNat_of_nonneg (by omega)] at e0; exact e0); rw [hte] <;> rfl)
end
section
set_option linter.unusedVariables false
theorem up_succ {α : Type} {l : List α} {P : Nat → α → Prop} {i : Nat} {x : α} (h : ∀ (j : Nat) y, j < i → l[j]? = some y → P j y) (hx : l[i]? = some x) (hp : P i x) : ∀ (j : Nat) y, j < i + 1 → l[j]? = some y → P j y := fun j y hj hy => by
  rcases Nat.lt_or_ge j i with q | q
  · exact h j y q hy
  · obtain rfl : j = i := by omega
    rw [hx] at hy; cases hy; exact hp
theorem up_mem {α : Type} {l : List α} {P : α → Prop} {i : Nat} (hi : l.length ≤ i) (h : ∀ (j : Nat) y, j < i → l[j]? = some y → P y) : ∀ y ∈ l, P y := fun y hy => by
  obtain ⟨j, hj⟩ := List.getElem?_of_mem hy
  exact h j y (by have := (List.getElem?_eq_some_iff.1 hj).1; omega) hj
end
section
open Go.RowKit
set_option linter.unusedVariables false
set_option maxRecDepth 100000 in
set_option maxHeartbeats 400000 in
theorem within_9 (n : Int) (lo : Int) (hi : Int) :
    FnV Try.prog 62 [(Value.int .i64 n), (Value.int .i64 lo), (Value.int .i64 hi)] [] (Value.bool (decide (lo ≤ n ∧ n ≤ hi))) := by
 refine fnV_of go62 Try.func62 rfl rfl fun w0 Q hQ hN => ?_
 try dsimp only
 refine WS fun _ hK1 => rS (AG rfl) <| RK hK1 <| WS fun _ hK2 => rS (MV rfl) <| rS (MV rfl) <| rS (BI rfl b_geq) <| rS (MV rfl) ?_
 refine r_bool (t := 10) rfl (fun h3 => ?_) (fun h3 => ?_)
 rotate_left 1
 · replace h3 := DF h3
   refine rS (OX rfl) <| rS (OX rfl) <| rS (OX rfl) <| rS (PK rfl) <| rS (AG rfl) <| RK hK2 <| w_ret <| Q1 hQ rfl rfl rfl ?_
   exact congrArg Value.bool (decide_eq_false (by omega)).symm
 replace h3 := DT h3
 refine rS (MV rfl) <| rS (MV rfl) <| rS (BI rfl b_leq) <| rS (PK rfl) <| rS (AG rfl) <| RK hK2 <| w_ret <| Q1 hQ rfl rfl rfl ?_
 exact congrArg Value.bool (decide_eq_decide.2 (by omega))
set_option maxRecDepth 100000 in
set_option maxHeartbeats 400000 in
theorem pgreat_c (d : GuardM) (kA : Option Addr) (kC : Nat) (pA : Option Addr) (pC : Nat) (nA : Option Addr) (nC : Nat) (hraw : GuardRaw d) :
    FnV Try.prog 13 [(Value.agg (GuardV.cells (GuardV.mk (TrackV.mk (Slc.mk kA d.Track.length kC)) (Slc.mk pA d.Posts.length pC) (Slc.mk nA d.Needs.length nC) d.Tower d.Radio)).toArray)] [(rd kA d.Track.length 9 (d.Track.map StretchV.cells)), (rd pA d.Posts.length 7 (d.Posts.map PostV.cells)), (rd nA d.Needs.length 3 (d.Needs.map NeedV.cells))] (Value.bool (decide (GreatG d))) := by
 have htk := hraw.trk
 have hps := hraw.pst
 have hnd := hraw.nds
 refine fnV_of go13 Try.func13 rfl rfl fun w0 Q hQ hN => ?_
 try dsimp only
 refine WS fun _ hK1 => BXA rfl fun b2 => rS (AG rfl) <| RK hK1 <| WS fun _ hK3 => rS (FA 0 rfl fo32_0 rfl) <| rS (LP (TrackV.cells (TrackV.mk (Slc.mk kA d.Track.length kC))) 0 rfl tk24 rfl rfl rfl) <| rS (CL (great_c d.Track kA kC) (ha_at 1 rfl rfl <| ha_nil) rfl) <| rS (MV rfl) ?_
 refine r_bool (t := 6) rfl (fun h4 => ?_) (fun h4 => ?_)
 · replace h4 := DT h4
   refine rS (OX rfl) <| rS (OX rfl) <| rS (OX rfl) <| rS (OX rfl) <| rS (PK rfl) <| rS (MV rfl) <| rS (OX rfl) <| rS (OX rfl) <| rS (OX rfl) <| rS (OX rfl) ?_
   refine rS (PK rfl) <| rS (AG rfl) <| RK hK3 <| w_ret <| Q1 hQ rfl rfl rfl ?_
   first | exact congrArg Value.bool (decide_eq_true (by unfold GreatG; omega)).symm | exact congrArg Value.bool (decide_eq_decide.2 (by unfold GreatG; omega))
 replace h4 := DF h4
 refine rS (FA 1 rfl fo32_1 rfl) <| rS (L1 (Value.slice pA d.Posts.length pC) 0 rfl tk25 rfl rfl) <| rS (LN rfl ut25) <| rS (BI rfl b_gtr) <| rS (PK rfl) <| rS (MV rfl) ?_
 refine r_bool (t := 12) rfl (fun h5 => ?_) (fun h5 => ?_)
 · replace h5 := DT h5
   refine rS (OX rfl) <| rS (OX rfl) <| rS (OX rfl) <| rS (OX rfl) <| rS (PK rfl) <| rS (AG rfl) <| RK hK3 <| w_ret <| Q1 hQ rfl rfl rfl ?_
   first | exact congrArg Value.bool (decide_eq_true (by unfold GreatG; omega)).symm | exact congrArg Value.bool (decide_eq_decide.2 (by unfold GreatG; omega))
 replace h5 := DF h5
 refine rS (FA 2 rfl fo32_2 rfl) <| rS (L1 (Value.slice nA d.Needs.length nC) 0 rfl tk26 rfl rfl) <| rS (LN rfl ut26) <| rS (BI rfl b_gtr) <| rS (PK rfl) <| rS (AG rfl) <| RK hK3 <| w_ret <| Q1 hQ rfl rfl rfl ?_
 first | exact congrArg Value.bool (decide_eq_true (by unfold GreatG; omega)).symm | exact congrArg Value.bool (decide_eq_decide.2 (by unfold GreatG; omega))
set_option maxRecDepth 100000 in
set_option maxHeartbeats 400000 in
theorem rguard_c (d : GuardM) (kA : Option Addr) (kC : Nat) (pA : Option Addr) (pC : Nat) (nA : Option Addr) (nC : Nat) (hin : GuardIn d) (htr : trackOk d.Track = true) :
    FnV Try.prog 70 [(Value.agg (GuardV.cells (GuardV.mk (TrackV.mk (Slc.mk kA d.Track.length kC)) (Slc.mk pA d.Posts.length pC) (Slc.mk nA d.Needs.length nC) d.Tower d.Radio)).toArray)] [(rd kA d.Track.length 9 (d.Track.map StretchV.cells)), (rd pA d.Posts.length 7 (d.Posts.map PostV.cells)), (rd nA d.Needs.length 3 (d.Needs.map NeedV.cells))] (Value.bool (decide (GuardOk d))) := by
 have hlen := hin.trk
 have hside := hin.side
 have hpl := hin.pst
 have hnl := hin.nds
 have hnk := hin.nk
 have hpk := hin.pk
 have hst := trackOk_all htr
 have hl12 := trackOk_le htr
 refine fnV_of go70 Try.func70 rfl rfl fun w0 Q hQ hN => ?_
 try dsimp only
 refine WS fun _ hK1 => BXA rfl fun b2 => rS (AG rfl) <| RK hK1 <| w_seq fun _ hK3 => WS fun _ hK4 => rS (FA 1 rfl fo32_1 rfl) <| rS (L1 (Value.slice pA d.Posts.length pC) 0 rfl tk25 rfl rfl) <| rS (LN rfl ut25) <| rS (BI rfl b_gtr) ?_
 refine rS (MV rfl) ?_
 refine r_bool (t := 11) rfl (fun hg11 => ?_) (fun hg11 => ?_)
 · replace hg11 := DT hg11
   refine rS (OX rfl) <| rS (OX rfl) <| rS (OX rfl) <| rS (OX rfl) <| rS (PK rfl) <| rS (MV rfl) <| rS (OX rfl) <| rS (OX rfl) <| rS (OX rfl) <| rS (OX rfl) ?_
   refine rS (OX rfl) <| rS (OX rfl) <| rS (PK rfl) <| rS (MV rfl) <| rS (OX rfl) <| rS (OX rfl) <| rS (OX rfl) <| rS (OX rfl) <| rS (PK rfl) <| RK hK4 ?_
   refine w_if_true rfl <| WS fun _ hK5 => rS (AG rfl) <| RK hK5 <| w_ret <| Q1 hQ rfl rfl rfl ?_
   first | exact congrArg Value.bool (decide_eq_false fun q => by have q1 := q.len; omega).symm | exact congrArg Value.bool (decide_eq_false fun q => by exact absurd q.tower (by simpa using hg25)).symm | exact congrArg Value.bool (decide_eq_false fun q => by have q1 := q.radio; omega).symm | exact congrArg Value.bool (decide_eq_false fun q => by have q1 := q.post i p hp; unfold PostOk at q1; first | omega | exact absurd q1.2.2.1 (by simpa using hg78) | (rw [prevId_pos (by omega) hy] at q1; omega)).symm | exact congrArg Value.bool (decide_eq_false fun q => by have q1 := q.need n (List.mem_of_getElem? hn); unfold NeedOk at q1; omega).symm | exact congrArg Value.bool (decide_eq_true (guard_yes (by omega) (by simpa using hg25) (by omega) hl4_1 (by omega) (up_mem (P := NeedOk d.Track) (by omega) hl10_1))).symm
 replace hg11 := DF hg11
 refine rS (FA 2 rfl fo32_2 rfl) <| rS (L1 (Value.slice nA d.Needs.length nC) 0 rfl tk26 rfl rfl) <| rS (LN rfl ut26) <| rS (BI rfl b_gtr) <| rS (PK rfl) <| rS (MV rfl) ?_
 refine r_bool (t := 17) rfl (fun hg17 => ?_) (fun hg17 => ?_)
 · replace hg17 := DT hg17
   refine rS (OX rfl) <| rS (OX rfl) <| rS (OX rfl) <| rS (OX rfl) <| rS (OX rfl) <| rS (OX rfl) <| rS (PK rfl) <| rS (MV rfl) <| rS (OX rfl) <| rS (OX rfl) ?_
   refine rS (OX rfl) <| rS (OX rfl) <| rS (PK rfl) <| RK hK4 <| w_if_true rfl <| WS fun _ hK6 => rS (AG rfl) <| RK hK6 <| w_ret <| Q1 hQ rfl rfl rfl ?_
   first | exact congrArg Value.bool (decide_eq_false fun q => by have q1 := q.len; omega).symm | exact congrArg Value.bool (decide_eq_false fun q => by exact absurd q.tower (by simpa using hg25)).symm | exact congrArg Value.bool (decide_eq_false fun q => by have q1 := q.radio; omega).symm | exact congrArg Value.bool (decide_eq_false fun q => by have q1 := q.post i p hp; unfold PostOk at q1; first | omega | exact absurd q1.2.2.1 (by simpa using hg78) | (rw [prevId_pos (by omega) hy] at q1; omega)).symm | exact congrArg Value.bool (decide_eq_false fun q => by have q1 := q.need n (List.mem_of_getElem? hn); unfold NeedOk at q1; omega).symm | exact congrArg Value.bool (decide_eq_true (guard_yes (by omega) (by simpa using hg25) (by omega) hl4_1 (by omega) (up_mem (P := NeedOk d.Track) (by omega) hl10_1))).symm
 replace hg17 := DF hg17
 refine rS (FA 0 rfl fo32_0 rfl) <| rS (LP (TrackV.cells (TrackV.mk (Slc.mk kA d.Track.length kC))) 0 rfl tk24 rfl rfl rfl) <| rS (FA 3 rfl fo32_3 rfl) <| rS (LP (SpotV.cells d.Tower) 0 rfl tk30 rfl rfl rfl) <| rS (CL (rspot_c d.Track kA kC d.Tower (by first | assumption | omega | (simp; done) | (simp; omega)) (by first | assumption | omega | (simp; done) | (simp; omega))) (ha_at 1 rfl rfl <| ha_nil) rfl) <| rS (NT rfl) <| rS (PK rfl) <| rS (MV rfl) ?_
 refine r_bool (t := 25) rfl (fun hg25 => ?_) (fun hg25 => ?_)
 · replace hg25 := XT hg25
   refine rS (OX rfl) <| rS (OX rfl) <| rS (OX rfl) <| rS (OX rfl) <| rS (PK rfl) <| RK hK4 <| w_if_true rfl <| WS fun _ hK7 => rS (AG rfl) <| RK hK7 ?_
   refine w_ret <| Q1 hQ rfl rfl rfl ?_
   first | exact congrArg Value.bool (decide_eq_false fun q => by have q1 := q.len; omega).symm | exact congrArg Value.bool (decide_eq_false fun q => by exact absurd q.tower (by simpa using hg25)).symm | exact congrArg Value.bool (decide_eq_false fun q => by have q1 := q.radio; omega).symm | exact congrArg Value.bool (decide_eq_false fun q => by have q1 := q.post i p hp; unfold PostOk at q1; first | omega | exact absurd q1.2.2.1 (by simpa using hg78) | (rw [prevId_pos (by omega) hy] at q1; omega)).symm | exact congrArg Value.bool (decide_eq_false fun q => by have q1 := q.need n (List.mem_of_getElem? hn); unfold NeedOk at q1; omega).symm | exact congrArg Value.bool (decide_eq_true (guard_yes (by omega) (by simpa using hg25) (by omega) hl4_1 (by omega) (up_mem (P := NeedOk d.Track) (by omega) hl10_1))).symm
 replace hg25 := XF hg25
 refine rS (FA 6 rfl fo32_4 rfl) <| rS (L1 (Value.int .i64 d.Radio) 0 rfl tk3 rfl rfl) <| rS (CL (within_9 d.Radio 0 400000) (ha_nil) rfl) <| rS (NT rfl) <| rS (PK rfl) <| RK hK4 ?_
 refine w_if rfl (fun hg30 => ?_) (fun hg30 => ?_)
 · replace hg30 := XT hg30
   refine WS fun _ hK8 => rS (AG rfl) <| RK hK8 <| w_ret <| Q1 hQ rfl rfl rfl ?_
   first | exact congrArg Value.bool (decide_eq_false fun q => by have q1 := q.len; omega).symm | exact congrArg Value.bool (decide_eq_false fun q => by exact absurd q.tower (by simpa using hg25)).symm | exact congrArg Value.bool (decide_eq_false fun q => by have q1 := q.radio; omega).symm | exact congrArg Value.bool (decide_eq_false fun q => by have q1 := q.post i p hp; unfold PostOk at q1; first | omega | exact absurd q1.2.2.1 (by simpa using hg78) | (rw [prevId_pos (by omega) hy] at q1; omega)).symm | exact congrArg Value.bool (decide_eq_false fun q => by have q1 := q.need n (List.mem_of_getElem? hn); unfold NeedOk at q1; omega).symm | exact congrArg Value.bool (decide_eq_true (guard_yes (by omega) (by simpa using hg25) (by omega) hl4_1 (by omega) (up_mem (P := NeedOk d.Track) (by omega) hl10_1))).symm
 replace hg30 := XF hg30
 refine WK hK3 <| w_seq fun _ hK9 => WS fun _ hK10 => rS (AG rfl) <| RK hK10 <| w_block ?_
 have hinit : (0 ≤ d.Posts.length) ∧ (PostsTo d 0) := by exact ⟨Nat.zero_le _, posts_zero⟩
 refine w_loop (ι := { z : Nat // (z ≤ d.Posts.length) ∧ (PostsTo d z) }) (fun z => [(1, (Value.pointer (some ⟨b2, 0, none⟩))), (3, (Value.int .i64 ((z.1 : Nat) : Int)))]) (fun z => [(blk b2 32 (GuardV.cells (GuardV.mk (TrackV.mk (Slc.mk kA d.Track.length kC)) (Slc.mk pA d.Posts.length pC) (Slc.mk nA d.Needs.length nC) d.Tower d.Radio))), (rd kA d.Track.length 9 (d.Track.map StretchV.cells)).ro, (rd pA d.Posts.length 7 (d.Posts.map PostV.cells)).ro, (rd nA d.Needs.length 3 (d.Needs.map NeedV.cells)).ro]) (fun z => d.Posts.length - z.1) ⟨0, hinit⟩ (Sub.cons rfl <| Sub.cons rfl <| Sub.nil _) (fun w hs => St.sel [0, 1, 2, 3] rfl rfl hs) ?_
 clear hinit
 rintro ⟨i, ⟨hl4_0, hl4_1⟩⟩ J11 hJ11
 try dsimp only
 refine w_seq fun _ hK12 => WS fun _ hK13 => rS (MV rfl) <| rS (FA 1 rfl fo32_1 rfl) <| rS (L1 (Value.slice pA d.Posts.length pC) 0 rfl tk25 rfl rfl) <| rS (LN rfl ut25) <| rS (BI rfl b_lss) <| RK hK13 ?_
 refine w_if rfl (fun h14 => ?_) (fun h14 => ?_)
 rotate_left 1
 · replace h14 := DF h14
   refine w_exit <| k_exit_then <| k_exit_then <| k_exit_same <| KK hK9 <| w_seq fun _ hK31 => WS fun _ hK32 => rS (AG rfl) <| RK hK32 <| w_block ?_
   have hinit : (0 ≤ d.Needs.length) ∧ (∀ (j : Nat) y, j < 0 → d.Needs[j]? = some y → NeedOk d.Track y) := by exact ⟨Nat.zero_le _, fun j y hj => absurd hj (Nat.not_lt_zero _)⟩
   refine w_loop (ι := { z : Nat // (z ≤ d.Needs.length) ∧ (∀ (j : Nat) y, j < z → d.Needs[j]? = some y → NeedOk d.Track y) }) (fun z => [(1, (Value.pointer (some ⟨b2, 0, none⟩))), (5, (Value.int .i64 ((z.1 : Nat) : Int)))]) (fun z => [(blk b2 32 (GuardV.cells (GuardV.mk (TrackV.mk (Slc.mk kA d.Track.length kC)) (Slc.mk pA d.Posts.length pC) (Slc.mk nA d.Needs.length nC) d.Tower d.Radio))), (rd kA d.Track.length 9 (d.Track.map StretchV.cells)).ro, (rd pA d.Posts.length 7 (d.Posts.map PostV.cells)).ro, (rd nA d.Needs.length 3 (d.Needs.map NeedV.cells)).ro]) (fun z => d.Needs.length - z.1) ⟨0, hinit⟩ (Sub.cons rfl <| Sub.cons rfl <| Sub.nil _) (fun w hs => St.sel [0, 1, 2, 3] rfl rfl hs) ?_
   clear hinit
   rintro ⟨m, ⟨hl10_0, hl10_1⟩⟩ J33 hJ33
   try dsimp only
   refine w_seq fun _ hK34 => WS fun _ hK35 => rS (MV rfl) <| rS (FA 2 rfl fo32_2 rfl) <| rS (L1 (Value.slice nA d.Needs.length nC) 0 rfl tk26 rfl rfl) <| rS (LN rfl ut26) <| rS (BI rfl b_lss) <| RK hK35 ?_
   refine w_if rfl (fun h36 => ?_) (fun h36 => ?_)
   rotate_left 1
   · replace h36 := DF h36
     refine w_exit <| k_exit_then <| k_exit_then <| k_exit_same <| KK hK31 <| WS fun _ hK45 => rS (AG rfl) <| RK hK45 <| w_ret <| Q1 hQ rfl rfl rfl ?_
     first | exact congrArg Value.bool (decide_eq_false fun q => by have q1 := q.len; omega).symm | exact congrArg Value.bool (decide_eq_false fun q => by exact absurd q.tower (by simpa using hg25)).symm | exact congrArg Value.bool (decide_eq_false fun q => by have q1 := q.radio; omega).symm | exact congrArg Value.bool (decide_eq_false fun q => by have q1 := q.post i p hp; unfold PostOk at q1; first | omega | exact absurd q1.2.2.1 (by simpa using hg78) | (rw [prevId_pos (by omega) hy] at q1; omega)).symm | exact congrArg Value.bool (decide_eq_false fun q => by have q1 := q.need n (List.mem_of_getElem? hn); unfold NeedOk at q1; omega).symm | exact congrArg Value.bool (decide_eq_true (guard_yes (by omega) (by simpa using hg25) (by omega) hl4_1 (by omega) (up_mem (P := NeedOk d.Track) (by omega) hl10_1))).symm
   replace h36 := DT h36
   refine WK hK34 <| w_seq fun _ hK37 => w_block <| WS fun _ hK38 => rS (FA 2 rfl fo32_2 rfl) <| rS (L1 (Value.slice nA d.Needs.length nC) 0 rfl tk26 rfl rfl) <| rS (MV rfl) ?_
   obtain ⟨n, hn⟩ : ∃ y_, d.Needs[m]? = some y_ := ⟨d.Needs[m]'(by omega), List.getElem?_eq_getElem _⟩
   have hnm : (d.Needs.map NeedV.cells)[m]? = some (NeedV.cells n) := by rw [List.getElem?_map, hn]; rfl
   refine rS (IA m rfl (has_at 3 rfl) te26 (by decide) (by omega) (by omega)) <| rS (LEN m 0 (NeedV.cells n) rfl tk57 (has_at 3 rfl) hnm rfl (by decide) rfl rfl) <| AL rfl tz57 fun b39 => SW0 rfl ts57 rfl <| RK hK38 <| WS fun _ hK40 => ?_
   have hnkk := hnk n (List.mem_of_getElem? hn)
   refine rS (FA 0 rfl fo57_0 rfl) <| rS (L1 (Value.int .i64 n.Stretch) 0 rfl tk3 rfl rfl) <| rS (FA 0 rfl fo32_0 rfl) <| rS (FA 0 rfl fo24_0 rfl) <| rS (L1 (Value.slice kA d.Track.length kC) 1 rfl tk22 rfl rfl) <| rS (LN rfl ut22) <| rS (BI rfl (b_sub ⟨by omega, by omega⟩)) <| rS (CL (within_9 n.Stretch 0 (((d.Track.length : Nat) : Int) - 1)) (ha_nil) rfl) <| rS (NT rfl) <| rS (MV rfl) ?_
   refine r_bool (t := 111) rfl (fun hg111 => ?_) (fun hg111 => ?_)
   · replace hg111 := XT hg111
     refine rS (OX rfl) <| rS (OX rfl) <| rS (OX rfl) <| rS (OX rfl) <| rS (OX rfl) <| rS (PK rfl) <| rS (MV rfl) <| rS (OX rfl) <| rS (OX rfl) <| rS (OX rfl) ?_
     refine rS (OX rfl) <| rS (PK rfl) <| RK hK40 <| w_if_true rfl <| WS fun _ hK41 => rS (AG rfl) <| RK hK41 <| w_ret <| Q1 hQ rfl rfl rfl ?_
     first | exact congrArg Value.bool (decide_eq_false fun q => by have q1 := q.len; omega).symm | exact congrArg Value.bool (decide_eq_false fun q => by exact absurd q.tower (by simpa using hg25)).symm | exact congrArg Value.bool (decide_eq_false fun q => by have q1 := q.radio; omega).symm | exact congrArg Value.bool (decide_eq_false fun q => by have q1 := q.post i p hp; unfold PostOk at q1; first | omega | exact absurd q1.2.2.1 (by simpa using hg78) | (rw [prevId_pos (by omega) hy] at q1; omega)).symm | exact congrArg Value.bool (decide_eq_false fun q => by have q1 := q.need n (List.mem_of_getElem? hn); unfold NeedOk at q1; omega).symm | exact congrArg Value.bool (decide_eq_true (guard_yes (by omega) (by simpa using hg25) (by omega) hl4_1 (by omega) (up_mem (P := NeedOk d.Track) (by omega) hl10_1))).symm
   replace hg111 := XF hg111
   refine rS (FA 1 rfl fo57_1 rfl) <| rS (L1 (Value.int .u8 n.Kind) 0 rfl tk5 rfl rfl) <| rS (SX (sd_conv (m := n.Kind) rfl rfl ut5 ut3 (wrap_u8_i64 (by first | assumption | omega))) rfl rfl) <| rS (CL (within_9 n.Kind 1 3) (ha_nil) rfl) <| rS (NT rfl) <| rS (PK rfl) <| rS (MV rfl) ?_
   refine r_bool (t := 118) rfl (fun hg118 => ?_) (fun hg118 => ?_)
   · replace hg118 := XT hg118
     refine rS (OX rfl) <| rS (OX rfl) <| rS (OX rfl) <| rS (OX rfl) <| rS (PK rfl) <| RK hK40 <| w_if_true rfl <| WS fun _ hK42 => rS (AG rfl) <| RK hK42 ?_
     refine w_ret <| Q1 hQ rfl rfl rfl ?_
     first | exact congrArg Value.bool (decide_eq_false fun q => by have q1 := q.len; omega).symm | exact congrArg Value.bool (decide_eq_false fun q => by exact absurd q.tower (by simpa using hg25)).symm | exact congrArg Value.bool (decide_eq_false fun q => by have q1 := q.radio; omega).symm | exact congrArg Value.bool (decide_eq_false fun q => by have q1 := q.post i p hp; unfold PostOk at q1; first | omega | exact absurd q1.2.2.1 (by simpa using hg78) | (rw [prevId_pos (by omega) hy] at q1; omega)).symm | exact congrArg Value.bool (decide_eq_false fun q => by have q1 := q.need n (List.mem_of_getElem? hn); unfold NeedOk at q1; omega).symm | exact congrArg Value.bool (decide_eq_true (guard_yes (by omega) (by simpa using hg25) (by omega) hl4_1 (by omega) (up_mem (P := NeedOk d.Track) (by omega) hl10_1))).symm
   replace hg118 := XF hg118
   refine rS (FA 2 rfl fo57_2 rfl) <| rS (L1 (Value.int .i64 n.Seconds) 0 rfl tk3 rfl rfl) <| rS (CL (within_9 n.Seconds 0 36000) (ha_nil) rfl) <| rS (NT rfl) <| rS (PK rfl) <| RK hK40 ?_
   refine w_if rfl (fun hg123 => ?_) (fun hg123 => ?_)
   rotate_left 1
   · replace hg123 := XF hg123
     refine w_skip <| k_block <| KK hK37 <| w_region <| rS (MV rfl) <| rS (BI rfl (b_add ⟨by omega, by omega⟩)) <| rS (AG rfl) <| r_nil ?_
     have hb44 : (Value.int .i64 (((m + 1) : Nat) : Int)) = (Value.int .i64 (((m : Nat) : Int) + 1)) := by exact congrArg (Value.int .i64) (by omega)
     refine k_then (hJ33 ⟨(m + 1), ⟨by omega, up_succ (P := fun _ y => NeedOk d.Track y) hl10_1 hn (by unfold NeedOk; omega)⟩⟩ _ _ _ rfl (by first | omega | (simp; omega)) (Sub.cons rfl <| sub_val rfl hb44 <| Sub.nil _) (fun w hs => St.sel [1, 2, 3, 4] rfl rfl hs))
   replace hg123 := XT hg123
   refine WS fun _ hK43 => rS (AG rfl) <| RK hK43 <| w_ret <| Q1 hQ rfl rfl rfl ?_
   first | exact congrArg Value.bool (decide_eq_false fun q => by have q1 := q.len; omega).symm | exact congrArg Value.bool (decide_eq_false fun q => by exact absurd q.tower (by simpa using hg25)).symm | exact congrArg Value.bool (decide_eq_false fun q => by have q1 := q.radio; omega).symm | exact congrArg Value.bool (decide_eq_false fun q => by have q1 := q.post i p hp; unfold PostOk at q1; first | omega | exact absurd q1.2.2.1 (by simpa using hg78) | (rw [prevId_pos (by omega) hy] at q1; omega)).symm | exact congrArg Value.bool (decide_eq_false fun q => by have q1 := q.need n (List.mem_of_getElem? hn); unfold NeedOk at q1; omega).symm | exact congrArg Value.bool (decide_eq_true (guard_yes (by omega) (by simpa using hg25) (by omega) hl4_1 (by omega) (up_mem (P := NeedOk d.Track) (by omega) hl10_1))).symm
 replace h14 := DT h14
 refine WK hK12 <| w_seq fun _ hK15 => w_block <| WS fun _ hK16 => rS (FA 1 rfl fo32_1 rfl) <| rS (L1 (Value.slice pA d.Posts.length pC) 0 rfl tk25 rfl rfl) <| rS (MV rfl) ?_
 obtain ⟨p, hp⟩ : ∃ y_, d.Posts[i]? = some y_ := ⟨d.Posts[i]'(by omega), List.getElem?_eq_getElem _⟩
 have hpm : (d.Posts.map PostV.cells)[i]? = some (PostV.cells p) := by rw [List.getElem?_map, hp]; rfl
 refine rS (IA i rfl (has_at 2 rfl) te25 (by decide) (by omega) (by omega)) <| rS (LEN i 0 (PostV.cells p) rfl tk62 (has_at 2 rfl) hpm rfl (by decide) rfl rfl) <| AL rfl tz62 fun b17 => SW0 rfl ts62 rfl <| RK hK16 <| w_seq fun _ hK18 => w_draw mixed 47 (by kernel_rfl) ?_
 have hpkk := hpk p (List.mem_of_getElem? hp)
 refine dS (FA 0 rfl fo62_0 rfl) <| dS (L1 (Value.int .i64 p.Id) 0 rfl tk3 rfl rfl) <| dS (CL (within_9 p.Id 0 9999) (ha_nil) rfl) <| dS (NT rfl) <| dS (MV rfl) ?_
 refine d_bool (t := 47) rfl (fun hg47 => ?_) (fun hg47 => ?_)
 · replace hg47 := XT hg47
   refine dS (OX rfl) <| dS (OX rfl) <| dS (OX rfl) <| dS (OX rfl) <| dS (OX rfl) <| dS (OX rfl) <| dS (OX rfl) <| dS (OX rfl) <| dS (OX rfl) <| dS (OX rfl) ?_
   refine dS (OX rfl) <| dS (OX rfl) <| dS (OX rfl) <| dS (OX rfl) <| dS (PK rfl) <| dS (MV rfl) <| dS (OX rfl) <| dS (OX rfl) <| dS (OX rfl) <| dS (OX rfl) ?_
   refine dS (OX rfl) <| dS (PK rfl) <| dS (MV rfl) <| dS (OX rfl) <| dS (OX rfl) <| dS (OX rfl) <| dS (OX rfl) <| dS (OX rfl) <| dS (OX rfl) <| dS (PK rfl) ?_
   refine dS (MV rfl) <| dS (OX rfl) <| dS (OX rfl) <| dS (OX rfl) <| dS (OX rfl) <| dS (PK rfl) <| dS (MV rfl) <| dS (OX rfl) <| dS (OX rfl) <| dS (OX rfl) ?_
   refine dS (OX rfl) <| dS (PK rfl) <| d_end <| RK hK18 <| w_if_true rfl <| WS fun _ hK19 => rS (AG rfl) <| RK hK19 <| w_ret <| Q1 hQ rfl rfl rfl ?_
   first | exact congrArg Value.bool (decide_eq_false fun q => by have q1 := q.len; omega).symm | exact congrArg Value.bool (decide_eq_false fun q => by exact absurd q.tower (by simpa using hg25)).symm | exact congrArg Value.bool (decide_eq_false fun q => by have q1 := q.radio; omega).symm | exact congrArg Value.bool (decide_eq_false fun q => by have q1 := q.post i p hp; unfold PostOk at q1; first | omega | exact absurd q1.2.2.1 (by simpa using hg78) | (rw [prevId_pos (by omega) hy] at q1; omega)).symm | exact congrArg Value.bool (decide_eq_false fun q => by have q1 := q.need n (List.mem_of_getElem? hn); unfold NeedOk at q1; omega).symm | exact congrArg Value.bool (decide_eq_true (guard_yes (by omega) (by simpa using hg25) (by omega) hl4_1 (by omega) (up_mem (P := NeedOk d.Track) (by omega) hl10_1))).symm
 replace hg47 := XF hg47
 refine dS (MV rfl) <| dS (BI rfl b_gtr) <| dS (MV rfl) ?_
 refine d_bool (t := 50) rfl (fun hg50 => ?_) (fun hg50 => ?_)
 rotate_left 1
 · replace hg50 := DF hg50
   refine dS (OX rfl) <| dS (OX rfl) <| dS (OX rfl) <| dS (OX rfl) <| dS (OX rfl) <| dS (OX rfl) <| dS (OX rfl) <| dS (OX rfl) <| dS (OX rfl) <| dS (OX rfl) ?_
   refine dS (PK rfl) <| dS (PK rfl) <| dS (MV rfl) <| dS (FA 1 rfl fo62_1 rfl) <| dS (L1 (Value.int .u8 p.Kind) 0 rfl tk5 rfl rfl) <| dS (SX (sd_conv (m := p.Kind) rfl rfl ut5 ut3 (wrap_u8_i64 (by first | assumption | omega))) rfl rfl) <| dS (CL (within_9 p.Kind 1 3) (ha_nil) rfl) <| dS (NT rfl) <| dS (PK rfl) <| dS (MV rfl) ?_
   refine d_bool (t := 70) rfl (fun hg70 => ?_) (fun hg70 => ?_)
   · replace hg70 := XT hg70
     refine dS (OX rfl) <| dS (OX rfl) <| dS (OX rfl) <| dS (OX rfl) <| dS (OX rfl) <| dS (OX rfl) <| dS (PK rfl) <| dS (MV rfl) <| dS (OX rfl) <| dS (OX rfl) ?_
     refine dS (OX rfl) <| dS (OX rfl) <| dS (PK rfl) <| dS (MV rfl) <| dS (OX rfl) <| dS (OX rfl) <| dS (OX rfl) <| dS (OX rfl) <| dS (PK rfl) <| d_end ?_
     refine RK hK18 <| w_if_true rfl <| WS fun _ hK26 => rS (AG rfl) <| RK hK26 <| w_ret <| Q1 hQ rfl rfl rfl ?_
     first | exact congrArg Value.bool (decide_eq_false fun q => by have q1 := q.len; omega).symm | exact congrArg Value.bool (decide_eq_false fun q => by exact absurd q.tower (by simpa using hg25)).symm | exact congrArg Value.bool (decide_eq_false fun q => by have q1 := q.radio; omega).symm | exact congrArg Value.bool (decide_eq_false fun q => by have q1 := q.post i p hp; unfold PostOk at q1; first | omega | exact absurd q1.2.2.1 (by simpa using hg78) | (rw [prevId_pos (by omega) hy] at q1; omega)).symm | exact congrArg Value.bool (decide_eq_false fun q => by have q1 := q.need n (List.mem_of_getElem? hn); unfold NeedOk at q1; omega).symm | exact congrArg Value.bool (decide_eq_true (guard_yes (by omega) (by simpa using hg25) (by omega) hl4_1 (by omega) (up_mem (P := NeedOk d.Track) (by omega) hl10_1))).symm
   replace hg70 := XF hg70
   refine dS (FA 0 rfl fo32_0 rfl) <| dS (LP (TrackV.cells (TrackV.mk (Slc.mk kA d.Track.length kC))) 1 rfl tk24 rfl rfl rfl) <| dS (FA 2 rfl fo62_2 rfl) <| dS (LP (SpotV.cells p.Spot) 0 rfl tk30 rfl rfl rfl) <| dS (CL (rspot_c d.Track kA kC p.Spot (by first | assumption | omega | (simp; done) | (simp; omega)) (by first | assumption | omega | (simp; done) | (simp; omega))) (ha_at 2 rfl rfl <| ha_nil) rfl) <| dS (NT rfl) <| dS (PK rfl) <| dS (MV rfl) ?_
   refine d_bool (t := 78) rfl (fun hg78 => ?_) (fun hg78 => ?_)
   · replace hg78 := XT hg78
     refine dS (OX rfl) <| dS (OX rfl) <| dS (OX rfl) <| dS (OX rfl) <| dS (PK rfl) <| dS (MV rfl) <| dS (OX rfl) <| dS (OX rfl) <| dS (OX rfl) <| dS (OX rfl) ?_
     refine dS (PK rfl) <| d_end <| RK hK18 <| w_if_true rfl <| WS fun _ hK27 => rS (AG rfl) <| RK hK27 <| w_ret <| Q1 hQ rfl rfl rfl ?_
     first | exact congrArg Value.bool (decide_eq_false fun q => by have q1 := q.len; omega).symm | exact congrArg Value.bool (decide_eq_false fun q => by exact absurd q.tower (by simpa using hg25)).symm | exact congrArg Value.bool (decide_eq_false fun q => by have q1 := q.radio; omega).symm | exact congrArg Value.bool (decide_eq_false fun q => by have q1 := q.post i p hp; unfold PostOk at q1; first | omega | exact absurd q1.2.2.1 (by simpa using hg78) | (rw [prevId_pos (by omega) hy] at q1; omega)).symm | exact congrArg Value.bool (decide_eq_false fun q => by have q1 := q.need n (List.mem_of_getElem? hn); unfold NeedOk at q1; omega).symm | exact congrArg Value.bool (decide_eq_true (guard_yes (by omega) (by simpa using hg25) (by omega) hl4_1 (by omega) (up_mem (P := NeedOk d.Track) (by omega) hl10_1))).symm
   replace hg78 := XF hg78
   refine dS (FA 5 rfl fo62_3 rfl) <| dS (L1 (Value.int .i64 p.Delay) 0 rfl tk3 rfl rfl) <| dS (CL (within_9 p.Delay 0 36000) (ha_nil) rfl) <| dS (NT rfl) <| dS (PK rfl) <| dS (MV rfl) ?_
   refine d_bool (t := 84) rfl (fun hg84 => ?_) (fun hg84 => ?_)
   · replace hg84 := XT hg84
     refine dS (OX rfl) <| dS (OX rfl) <| dS (OX rfl) <| dS (OX rfl) <| dS (PK rfl) <| d_end <| RK hK18 <| w_if_true rfl <| WS fun _ hK28 => rS (AG rfl) ?_
     refine RK hK28 <| w_ret <| Q1 hQ rfl rfl rfl ?_
     first | exact congrArg Value.bool (decide_eq_false fun q => by have q1 := q.len; omega).symm | exact congrArg Value.bool (decide_eq_false fun q => by exact absurd q.tower (by simpa using hg25)).symm | exact congrArg Value.bool (decide_eq_false fun q => by have q1 := q.radio; omega).symm | exact congrArg Value.bool (decide_eq_false fun q => by have q1 := q.post i p hp; unfold PostOk at q1; first | omega | exact absurd q1.2.2.1 (by simpa using hg78) | (rw [prevId_pos (by omega) hy] at q1; omega)).symm | exact congrArg Value.bool (decide_eq_false fun q => by have q1 := q.need n (List.mem_of_getElem? hn); unfold NeedOk at q1; omega).symm | exact congrArg Value.bool (decide_eq_true (guard_yes (by omega) (by simpa using hg25) (by omega) hl4_1 (by omega) (up_mem (P := NeedOk d.Track) (by omega) hl10_1))).symm
   replace hg84 := XF hg84
   refine dS (FA 6 rfl fo62_4 rfl) <| dS (L1 (Value.int .i64 p.Pace) 0 rfl tk3 rfl rfl) <| dS (CL (within_9 p.Pace 1 1000) (ha_nil) rfl) <| dS (NT rfl) <| dS (PK rfl) <| d_end <| RK hK18 ?_
   refine w_if rfl (fun hg89 => ?_) (fun hg89 => ?_)
   rotate_left 1
   · replace hg89 := XF hg89
     refine w_skip <| k_block <| KK hK15 <| w_region <| rS (MV rfl) <| rS (BI rfl (b_add ⟨by omega, by omega⟩)) <| rS (AG rfl) <| r_nil ?_
     have hb30 : (Value.int .i64 (((i + 1) : Nat) : Int)) = (Value.int .i64 (((i : Nat) : Int) + 1)) := by exact congrArg (Value.int .i64) (by omega)
     refine k_then (hJ11 ⟨(i + 1), ⟨by omega, posts_succ hl4_1 hp (by unfold PostOk; exact ⟨(by first | (rw [prevId_zero (by omega)]; omega) | (rw [prevId_pos (by omega) hy]; omega)), by omega, by simpa using hg78, by omega, by omega⟩)⟩⟩ _ _ _ rfl (by first | omega | (simp; omega)) (Sub.cons rfl <| sub_val rfl hb30 <| Sub.nil _) (fun w hs => St.sel [1, 2, 3, 4] rfl rfl hs))
   replace hg89 := XT hg89
   refine WS fun _ hK29 => rS (AG rfl) <| RK hK29 <| w_ret <| Q1 hQ rfl rfl rfl ?_
   first | exact congrArg Value.bool (decide_eq_false fun q => by have q1 := q.len; omega).symm | exact congrArg Value.bool (decide_eq_false fun q => by exact absurd q.tower (by simpa using hg25)).symm | exact congrArg Value.bool (decide_eq_false fun q => by have q1 := q.radio; omega).symm | exact congrArg Value.bool (decide_eq_false fun q => by have q1 := q.post i p hp; unfold PostOk at q1; first | omega | exact absurd q1.2.2.1 (by simpa using hg78) | (rw [prevId_pos (by omega) hy] at q1; omega)).symm | exact congrArg Value.bool (decide_eq_false fun q => by have q1 := q.need n (List.mem_of_getElem? hn); unfold NeedOk at q1; omega).symm | exact congrArg Value.bool (decide_eq_true (guard_yes (by omega) (by simpa using hg25) (by omega) hl4_1 (by omega) (up_mem (P := NeedOk d.Track) (by omega) hl10_1))).symm
 replace hg50 := DT hg50
 refine dS (FA 0 rfl fo62_0 rfl) <| dS (L1 (Value.int .i64 p.Id) 0 rfl tk3 rfl rfl) <| dS (FA 1 rfl fo32_1 rfl) <| dS (L1 (Value.slice pA d.Posts.length pC) 1 rfl tk25 rfl rfl) <| dS (MV rfl) <| dS (BI rfl (b_sub ⟨by omega, by omega⟩)) ?_
 obtain ⟨y, hy⟩ : ∃ y_, d.Posts[(i - 1)]? = some y_ := ⟨d.Posts[(i - 1)]'(by omega), List.getElem?_eq_getElem _⟩
 have hym : (d.Posts.map PostV.cells)[(i - 1)]? = some (PostV.cells y) := by rw [List.getElem?_map, hy]; rfl
 refine dS (IA (i - 1) rfl (has_at 3 rfl) te25 (by decide) (by omega) (by omega)) <| dS (FAR ((i - 1) * 7) rfl (has_at 3 rfl) (Nat.mul_pos (by omega) (by decide)) fo62_0 rfl) <| dS (LE1 (i - 1) 0 (Value.int .i64 y.Id) rfl tk3 (has_at 3 rfl) hym rfl (by decide) rfl) <| dS (BI rfl b_leq) <| dS (PK rfl) <| dS (PK rfl) <| dS (MV rfl) ?_
 refine d_bool (t := 63) rfl (fun hg63 => ?_) (fun hg63 => ?_)
 · replace hg63 := DT hg63
   refine dS (OX rfl) <| dS (OX rfl) <| dS (OX rfl) <| dS (OX rfl) <| dS (OX rfl) <| dS (PK rfl) <| dS (MV rfl) <| dS (OX rfl) <| dS (OX rfl) <| dS (OX rfl) ?_
   refine dS (OX rfl) <| dS (OX rfl) <| dS (OX rfl) <| dS (PK rfl) <| dS (MV rfl) <| dS (OX rfl) <| dS (OX rfl) <| dS (OX rfl) <| dS (OX rfl) <| dS (PK rfl) ?_
   refine dS (MV rfl) <| dS (OX rfl) <| dS (OX rfl) <| dS (OX rfl) <| dS (OX rfl) <| dS (PK rfl) <| d_end <| RK hK18 <| w_if_true rfl <| WS fun _ hK20 => ?_
   refine rS (AG rfl) <| RK hK20 <| w_ret <| Q1 hQ rfl rfl rfl ?_
   first | exact congrArg Value.bool (decide_eq_false fun q => by have q1 := q.len; omega).symm | exact congrArg Value.bool (decide_eq_false fun q => by exact absurd q.tower (by simpa using hg25)).symm | exact congrArg Value.bool (decide_eq_false fun q => by have q1 := q.radio; omega).symm | exact congrArg Value.bool (decide_eq_false fun q => by have q1 := q.post i p hp; unfold PostOk at q1; first | omega | exact absurd q1.2.2.1 (by simpa using hg78) | (rw [prevId_pos (by omega) hy] at q1; omega)).symm | exact congrArg Value.bool (decide_eq_false fun q => by have q1 := q.need n (List.mem_of_getElem? hn); unfold NeedOk at q1; omega).symm | exact congrArg Value.bool (decide_eq_true (guard_yes (by omega) (by simpa using hg25) (by omega) hl4_1 (by omega) (up_mem (P := NeedOk d.Track) (by omega) hl10_1))).symm
 replace hg63 := DF hg63
 refine dS (FA 1 rfl fo62_1 rfl) <| dS (L1 (Value.int .u8 p.Kind) 0 rfl tk5 rfl rfl) <| dS (SX (sd_conv (m := p.Kind) rfl rfl ut5 ut3 (wrap_u8_i64 (by first | assumption | omega))) rfl rfl) <| dS (CL (within_9 p.Kind 1 3) (ha_nil) rfl) <| dS (NT rfl) <| dS (PK rfl) <| dS (MV rfl) ?_
 refine d_bool (t := 70) rfl (fun hg70 => ?_) (fun hg70 => ?_)
 · replace hg70 := XT hg70
   refine dS (OX rfl) <| dS (OX rfl) <| dS (OX rfl) <| dS (OX rfl) <| dS (OX rfl) <| dS (OX rfl) <| dS (PK rfl) <| dS (MV rfl) <| dS (OX rfl) <| dS (OX rfl) ?_
   refine dS (OX rfl) <| dS (OX rfl) <| dS (PK rfl) <| dS (MV rfl) <| dS (OX rfl) <| dS (OX rfl) <| dS (OX rfl) <| dS (OX rfl) <| dS (PK rfl) <| d_end ?_
   refine RK hK18 <| w_if_true rfl <| WS fun _ hK21 => rS (AG rfl) <| RK hK21 <| w_ret <| Q1 hQ rfl rfl rfl ?_
   first | exact congrArg Value.bool (decide_eq_false fun q => by have q1 := q.len; omega).symm | exact congrArg Value.bool (decide_eq_false fun q => by exact absurd q.tower (by simpa using hg25)).symm | exact congrArg Value.bool (decide_eq_false fun q => by have q1 := q.radio; omega).symm | exact congrArg Value.bool (decide_eq_false fun q => by have q1 := q.post i p hp; unfold PostOk at q1; first | omega | exact absurd q1.2.2.1 (by simpa using hg78) | (rw [prevId_pos (by omega) hy] at q1; omega)).symm | exact congrArg Value.bool (decide_eq_false fun q => by have q1 := q.need n (List.mem_of_getElem? hn); unfold NeedOk at q1; omega).symm | exact congrArg Value.bool (decide_eq_true (guard_yes (by omega) (by simpa using hg25) (by omega) hl4_1 (by omega) (up_mem (P := NeedOk d.Track) (by omega) hl10_1))).symm
 replace hg70 := XF hg70
 refine dS (FA 0 rfl fo32_0 rfl) <| dS (LP (TrackV.cells (TrackV.mk (Slc.mk kA d.Track.length kC))) 1 rfl tk24 rfl rfl rfl) <| dS (FA 2 rfl fo62_2 rfl) <| dS (LP (SpotV.cells p.Spot) 0 rfl tk30 rfl rfl rfl) <| dS (CL (rspot_c d.Track kA kC p.Spot (by first | assumption | omega | (simp; done) | (simp; omega)) (by first | assumption | omega | (simp; done) | (simp; omega))) (ha_at 2 rfl rfl <| ha_nil) rfl) <| dS (NT rfl) <| dS (PK rfl) <| dS (MV rfl) ?_
 refine d_bool (t := 78) rfl (fun hg78 => ?_) (fun hg78 => ?_)
 · replace hg78 := XT hg78
   refine dS (OX rfl) <| dS (OX rfl) <| dS (OX rfl) <| dS (OX rfl) <| dS (PK rfl) <| dS (MV rfl) <| dS (OX rfl) <| dS (OX rfl) <| dS (OX rfl) <| dS (OX rfl) ?_
   refine dS (PK rfl) <| d_end <| RK hK18 <| w_if_true rfl <| WS fun _ hK22 => rS (AG rfl) <| RK hK22 <| w_ret <| Q1 hQ rfl rfl rfl ?_
   first | exact congrArg Value.bool (decide_eq_false fun q => by have q1 := q.len; omega).symm | exact congrArg Value.bool (decide_eq_false fun q => by exact absurd q.tower (by simpa using hg25)).symm | exact congrArg Value.bool (decide_eq_false fun q => by have q1 := q.radio; omega).symm | exact congrArg Value.bool (decide_eq_false fun q => by have q1 := q.post i p hp; unfold PostOk at q1; first | omega | exact absurd q1.2.2.1 (by simpa using hg78) | (rw [prevId_pos (by omega) hy] at q1; omega)).symm | exact congrArg Value.bool (decide_eq_false fun q => by have q1 := q.need n (List.mem_of_getElem? hn); unfold NeedOk at q1; omega).symm | exact congrArg Value.bool (decide_eq_true (guard_yes (by omega) (by simpa using hg25) (by omega) hl4_1 (by omega) (up_mem (P := NeedOk d.Track) (by omega) hl10_1))).symm
 replace hg78 := XF hg78
 refine dS (FA 5 rfl fo62_3 rfl) <| dS (L1 (Value.int .i64 p.Delay) 0 rfl tk3 rfl rfl) <| dS (CL (within_9 p.Delay 0 36000) (ha_nil) rfl) <| dS (NT rfl) <| dS (PK rfl) <| dS (MV rfl) ?_
 refine d_bool (t := 84) rfl (fun hg84 => ?_) (fun hg84 => ?_)
 · replace hg84 := XT hg84
   refine dS (OX rfl) <| dS (OX rfl) <| dS (OX rfl) <| dS (OX rfl) <| dS (PK rfl) <| d_end <| RK hK18 <| w_if_true rfl <| WS fun _ hK23 => rS (AG rfl) ?_
   refine RK hK23 <| w_ret <| Q1 hQ rfl rfl rfl ?_
   first | exact congrArg Value.bool (decide_eq_false fun q => by have q1 := q.len; omega).symm | exact congrArg Value.bool (decide_eq_false fun q => by exact absurd q.tower (by simpa using hg25)).symm | exact congrArg Value.bool (decide_eq_false fun q => by have q1 := q.radio; omega).symm | exact congrArg Value.bool (decide_eq_false fun q => by have q1 := q.post i p hp; unfold PostOk at q1; first | omega | exact absurd q1.2.2.1 (by simpa using hg78) | (rw [prevId_pos (by omega) hy] at q1; omega)).symm | exact congrArg Value.bool (decide_eq_false fun q => by have q1 := q.need n (List.mem_of_getElem? hn); unfold NeedOk at q1; omega).symm | exact congrArg Value.bool (decide_eq_true (guard_yes (by omega) (by simpa using hg25) (by omega) hl4_1 (by omega) (up_mem (P := NeedOk d.Track) (by omega) hl10_1))).symm
 replace hg84 := XF hg84
 refine dS (FA 6 rfl fo62_4 rfl) <| dS (L1 (Value.int .i64 p.Pace) 0 rfl tk3 rfl rfl) <| dS (CL (within_9 p.Pace 1 1000) (ha_nil) rfl) <| dS (NT rfl) <| dS (PK rfl) <| d_end <| RK hK18 ?_
 refine w_if rfl (fun hg89 => ?_) (fun hg89 => ?_)
 rotate_left 1
 · replace hg89 := XF hg89
   refine w_skip <| k_block <| KK hK15 <| w_region <| rS (MV rfl) <| rS (BI rfl (b_add ⟨by omega, by omega⟩)) <| rS (AG rfl) <| r_nil ?_
   have hb25 : (Value.int .i64 (((i + 1) : Nat) : Int)) = (Value.int .i64 (((i : Nat) : Int) + 1)) := by exact congrArg (Value.int .i64) (by omega)
   refine k_then (hJ11 ⟨(i + 1), ⟨by omega, posts_succ hl4_1 hp (by unfold PostOk; exact ⟨(by first | (rw [prevId_zero (by omega)]; omega) | (rw [prevId_pos (by omega) hy]; omega)), by omega, by simpa using hg78, by omega, by omega⟩)⟩⟩ _ _ _ rfl (by first | omega | (simp; omega)) (Sub.cons rfl <| sub_val rfl hb25 <| Sub.nil _) (fun w hs => St.sel [1, 2, 3, 4] rfl rfl hs))
 replace hg89 := XT hg89
 refine WS fun _ hK24 => rS (AG rfl) <| RK hK24 <| w_ret <| Q1 hQ rfl rfl rfl ?_
 first | exact congrArg Value.bool (decide_eq_false fun q => by have q1 := q.len; omega).symm | exact congrArg Value.bool (decide_eq_false fun q => by exact absurd q.tower (by simpa using hg25)).symm | exact congrArg Value.bool (decide_eq_false fun q => by have q1 := q.radio; omega).symm | exact congrArg Value.bool (decide_eq_false fun q => by have q1 := q.post i p hp; unfold PostOk at q1; first | omega | exact absurd q1.2.2.1 (by simpa using hg78) | (rw [prevId_pos (by omega) hy] at q1; omega)).symm | exact congrArg Value.bool (decide_eq_false fun q => by have q1 := q.need n (List.mem_of_getElem? hn); unfold NeedOk at q1; omega).symm | exact congrArg Value.bool (decide_eq_true (guard_yes (by omega) (by simpa using hg25) (by omega) hl4_1 (by omega) (up_mem (P := NeedOk d.Track) (by omega) hl10_1))).symm
set_option maxRecDepth 100000 in
set_option maxHeartbeats 400000 in
theorem rpcheck_c (d : GuardM) (kA : Option Addr) (kC : Nat) (pA : Option Addr) (pC : Nat) (nA : Option Addr) (nC : Nat) (hin : GuardIn d) :
    FnV Try.prog 24 [(Value.agg (GuardV.cells (GuardV.mk (TrackV.mk (Slc.mk kA d.Track.length kC)) (Slc.mk pA d.Posts.length pC) (Slc.mk nA d.Needs.length nC) d.Tower d.Radio)).toArray)] [(rd kA d.Track.length 9 (d.Track.map StretchV.cells)), (rd pA d.Posts.length 7 (d.Posts.map PostV.cells)), (rd nA d.Needs.length 3 (d.Needs.map NeedV.cells))] (Value.int .i64 (guardE d)) := by
 have hlen := hin.trk
 have hside := hin.side
 have hpl := hin.pst
 have hnl := hin.nds
 have hnk := hin.nk
 have hpk := hin.pk
 refine fnV_of go24 Try.func24 rfl rfl fun w0 Q hQ hN => ?_
 try dsimp only
 refine WS fun _ hK1 => BXA rfl fun b2 => rS (AG rfl) <| RK hK1 <| w_seq fun _ hK3 => WS fun _ hK4 => rS (FA 0 rfl fo32_0 rfl) <| rS (LP (TrackV.cells (TrackV.mk (Slc.mk kA d.Track.length kC))) 0 rfl tk24 rfl rfl rfl) <| rS (CL (track_c d.Track kA kC (by first | assumption | omega | (simp; done) | (simp; omega))) (ha_at 1 rfl rfl <| ha_nil) rfl) <| rS (NT rfl) ?_
 refine RK hK4 ?_
 refine w_if rfl (fun hg6 => ?_) (fun hg6 => ?_)
 · rw [Bool.not_eq_true'] at hg6
   refine WS fun _ hK5 => rS (AG rfl) <| RK hK5 <| w_ret <| Q1 hQ rfl rfl rfl ?_
   first | exact congrArg (Value.int .i64) (guardE_bad (by simpa using hg6)).symm | exact congrArg (Value.int .i64) (guardE_no hg6 hg9).symm | exact congrArg (Value.int .i64) (guardE_ok hg6 hg9).symm
 rw [Bool.not_eq_false'] at hg6
 refine WK hK3 <| w_seq fun _ hK6 => WS fun _ hK7 => rS (LW 0 rfl tk32 rfl rfl) <| rS (CL (rguard_c d kA kC pA pC nA nC hin (by first | assumption | omega | (simp; done) | (simp; omega))) (ha_at 1 rfl rfl <| ha_at 2 rfl rfl <| ha_at 3 rfl rfl <| ha_nil) rfl) <| rS (NT rfl) <| RK hK7 ?_
 refine w_if rfl (fun hg9 => ?_) (fun hg9 => ?_)
 · replace hg9 := XT hg9
   refine WS fun _ hK8 => rS (AG rfl) <| RK hK8 <| w_ret <| Q1 hQ rfl rfl rfl ?_
   first | exact congrArg (Value.int .i64) (guardE_bad (by simpa using hg6)).symm | exact congrArg (Value.int .i64) (guardE_no hg6 hg9).symm | exact congrArg (Value.int .i64) (guardE_ok hg6 hg9).symm
 replace hg9 := XF hg9
 refine WK hK6 <| WS fun _ hK9 => rS (AG rfl) <| RK hK9 <| w_ret <| Q1 hQ rfl rfl rfl ?_
 first | exact congrArg (Value.int .i64) (guardE_bad (by simpa using hg6)).symm | exact congrArg (Value.int .i64) (guardE_no hg6 hg9).symm | exact congrArg (Value.int .i64) (guardE_ok hg6 hg9).symm
end
section
set_option linter.unusedVariables false
def cmpF (x y : Int) : Int := if x < y then -1 else if y < x then 1 else 0
def cmpL : List Int → List Int → Int
  | [], [] => 0
  | [], _ :: _ => -1
  | _ :: _, [] => 1
  | x :: a, y :: b => if cmpF x y = 0 then cmpL a b else cmpF x y
variable {a b : List Int} {i : Nat} {x y : Int}
/-- longer than another one, or as long, and behind it -/
def Worse (a b : List Int) : Prop := b.length < a.length ∨ a.length = b.length ∧ 0 < cmpL a b
instance (a b : List Int) : Decidable (Worse a b) := by unfold Worse; infer_instance
section
variable {n z : Nat} {p : Nat → Bool} {bo : Bool} {fl : List Int}
end
end
section
set_option linter.unusedVariables false
theorem calledV_len {d : GuardM} {l : List Int} : (calledV d l).length ≤ d.Posts.length := by
  unfold calledV; split
  · exact idxL_len
  · exact Nat.zero_le _
theorem meetsV_len {d : GuardM} {k : Int} {l : List Int} : (meetsV d k l).length ≤ d.Posts.length := by
  unfold meetsV; split
  · split
    · exact idxL_len
    · exact Nat.zero_le _
  · exact Nat.zero_le _
end
section
set_option linter.unusedVariables false
theorem idx_len_yes {P : Nat → Prop} {j : Nat} (h : P j) : (idxL (j + 1) P).length = (idxL j P).length + 1 := by rw [idxL_yes h]; simp
theorem idx_len_no {P : Nat → Prop} {j : Nat} (h : ¬ P j) : (idxL (j + 1) P).length = (idxL j P).length := by rw [idxL_no h]
theorem calledV_idx {d : GuardM} {l : List Int} (h : mannedE d l = 0) : calledV d l = idxL d.Posts.length (CallsP d (notIn l)) := calledV_ok h
end
section
set_option linter.unusedVariables false
/-- a post alike, but for its number -/
def AlikeP (p q : PostV) : Prop := p.Kind = q.Kind ∧ p.Spot = q.Spot ∧ p.Delay = q.Delay ∧ p.Pace = q.Pace
structure Ren (e d : GuardM) (f : Nat → Nat) : Prop where
  trk : e.Track = d.Track
  tower : e.Tower = d.Tower
  radio : e.Radio = d.Radio
  needs : e.Needs = d.Needs
  inj : ∀ i j, i < e.Posts.length → j < e.Posts.length → f i = f j → i = j
  at_ : ∀ i p, e.Posts[i]? = some p → ∃ q, d.Posts[f i]? = some q ∧ AlikeP p q
def imS (f : Nat → Nat) (m : Nat) (T : Nat → Prop) : Nat → Prop := fun k => ∃ i, i < m ∧ T i ∧ f i = k
section
variable {e d : GuardM} {f : Nat → Nat}
theorem Ren.hears (h : Ren e d f) (a b : SpotV) : hearsP e a b ↔ hearsP d a b := by unfold hearsP; rw [h.radio, h.trk]
theorem Ren.calls (h : Ren e d f) {T : Nat → Prop} {i : Nat} (hc : CallsP e T i) : CallsP d (imS f e.Posts.length T) (f i) := by
  induction hc with
  | @tower i p hs hp hh =>
    obtain ⟨q, hq, ha⟩ := h.at_ i p hp
    exact .tower ⟨i, (List.getElem?_eq_some_iff.1 hp).1, hs, rfl⟩ hq (by rw [← ha.2.1, ← h.hears, ← h.tower]; exact hh)
  | @post k i q p hk hq hs hp hh ih =>
    obtain ⟨q2, hq2, ha⟩ := h.at_ i p hp
    obtain ⟨r2, hr2, hb⟩ := h.at_ k q hq
    exact .post ih hr2 ⟨i, (List.getElem?_eq_some_iff.1 hp).1, hs, rfl⟩ hq2 (by rw [← ha.2.1, ← hb.2.1, ← h.hears]; exact hh)
end
end
section
open Go.RowKit
set_option linter.unusedVariables false
set_option maxRecDepth 100000 in
set_option maxHeartbeats 400000 in
theorem ptwin_c (d : GuardM) (kA : Option Addr) (kC : Nat) (pA : Option Addr) (pC : Nat) (nA : Option Addr) (nC : Nat) (hin : GuardIn d) :
    FnX Try.prog 14 [(Value.agg (GuardV.cells (GuardV.mk (TrackV.mk (Slc.mk kA d.Track.length kC)) (Slc.mk pA d.Posts.length pC) (Slc.mk nA d.Needs.length nC) d.Tower d.Radio)).toArray)] [(rd kA d.Track.length 9 (d.Track.map StretchV.cells)), (rd pA d.Posts.length 7 (d.Posts.map PostV.cells)), (rd nA d.Needs.length 3 (d.Needs.map NeedV.cells))] (fun (x : (Option Addr) × Nat × (Option Addr) × Nat × (Option Addr) × Nat) => (Value.agg (GuardV.cells (GuardV.mk (TrackV.mk (Slc.mk x.1 d.Track.length x.2.1)) (Slc.mk x.2.2.1 d.Posts.length x.2.2.2.1) (Slc.mk x.2.2.2.2.1 d.Needs.length x.2.2.2.2.2) d.Tower d.Radio)).toArray)) (fun (x : (Option Addr) × Nat × (Option Addr) × Nat × (Option Addr) × Nat) => True) (fun (x : (Option Addr) × Nat × (Option Addr) × Nat × (Option Addr) × Nat) => [(own x.1 x.2.1 110 9 (d.Track.map StretchV.cells)), (own x.2.2.1 x.2.2.2.1 62 7 (d.Posts.map PostV.cells)), (own x.2.2.2.2.1 x.2.2.2.2.2 57 3 (d.Needs.map NeedV.cells))]) := by
 have hlen := hin.trk
 have hside := hin.side
 have hpl := hin.pst
 have hnl := hin.nds
 have hnk := hin.nk
 have hpk := hin.pk
 refine fnX_of go14 Try.func14 rfl rfl fun w0 Q hQ hN => ?_
 try dsimp only
 refine WS fun _ hK1 => BXA rfl fun b2 => AL rfl tz32 fun b3 => RK hK1 <| WS fun _ hK4 => rS (FA 0 rfl fo32_0 rfl) <| rS (LP (TrackV.cells (TrackV.mk (Slc.mk kA d.Track.length kC))) 1 rfl tk24 rfl rfl rfl) <| cX (twin_c d.Track kA kC (by first | assumption | omega | (simp; done) | (simp; omega))) (ha_at 2 rfl rfl <| ha_nil) rfl fun y5 hy6 => ?_
 obtain ⟨a7, c8⟩ := y5
 try dsimp only
 refine rS (FA 0 rfl fo32_0 rfl) <| ST2 (GuardV.cells (GuardV.mk (TrackV.mk (Slc.mk a7 d.Track.length c8)) (Slc.mk pA d.Posts.length pC) (Slc.mk nA d.Needs.length nC) d.Tower d.Radio)) rfl ts24 rfl rfl <| RK hK4 <| WS fun _ hK9 => r_bs0 rfl te25 rfl fun b10 => rS (FA 1 rfl fo32_1 rfl) <| rS (L1 (Value.slice pA d.Posts.length pC) 3 rfl tk25 rfl rfl) <| r_blk_own (es := (List.map PostV.cells [])) (C' := [own (some ⟨b10, 0, none⟩) 0 62 7 (List.map PostV.cells []), _, _, _, _, _, _]) 0 rfl (by simp) rfl (by simp [maxLen]) rfl <| r_append (es2 := (List.map PostV.cells d.Posts)) (m' := d.Posts.length) 0 rfl rfl rfl ta25 rfl rfl (by simp) (has_at 5 rfl) (one_PostV_cells _) (by first | omega | (simp; omega)) (by first | (simp only [maxLen]; omega) | (simp [maxLen]; omega)) (by simp) (by simp) rfl fun a11 c12 => ?_
 try dsimp only
 refine rS (FA 1 rfl fo32_1 rfl) <| ST3 (GuardV.cells (GuardV.mk (TrackV.mk (Slc.mk a7 d.Track.length c8)) (Slc.mk a11 d.Posts.length c12) (Slc.mk nA d.Needs.length nC) d.Tower d.Radio)) rfl ts25 rfl rfl <| RK hK9 <| WS fun _ hK13 => r_bs0 rfl te26 rfl fun b14 => rS (FA 2 rfl fo32_2 rfl) <| rS (L1 (Value.slice nA d.Needs.length nC) 4 rfl tk26 rfl rfl) <| r_blk_own (es := (List.map NeedV.cells [])) (C' := [own (some ⟨b14, 0, none⟩) 0 57 3 (List.map NeedV.cells []), _, _, _, _, _, _, _]) 0 rfl (by simp) rfl (by simp [maxLen]) rfl <| r_append (es2 := (List.map NeedV.cells d.Needs)) (m' := d.Needs.length) 0 rfl rfl rfl ta26 rfl rfl (by simp) (has_at 7 rfl) (one_NeedV_cells _) (by first | omega | (simp; omega)) (by first | (simp only [maxLen]; omega) | (simp [maxLen]; omega)) (by simp) (by simp) rfl fun a15 c16 => ?_
 try dsimp only
 refine rS (FA 2 rfl fo32_2 rfl) <| ST4 (GuardV.cells (GuardV.mk (TrackV.mk (Slc.mk a7 d.Track.length c8)) (Slc.mk a11 d.Posts.length c12) (Slc.mk a15 d.Needs.length c16) d.Tower d.Radio)) rfl ts26 rfl rfl <| RK hK13 <| WS fun _ hK17 => rS (LW 4 rfl tk32 rfl rfl) <| SW3 rfl ts32 rfl <| RK hK17 <| w_ret ?_
 refine hQ _ _ _ (l_nil (vs := [(Value.agg (GuardV.cells (GuardV.mk (TrackV.mk (Slc.mk a7 d.Track.length c8)) (Slc.mk a11 d.Posts.length c12) (Slc.mk a15 d.Needs.length c16) d.Tower d.Radio)).toArray)]) ⟨⟨_, rfl, .inl ⟨_, _, tk32, at_blk (vs := (GuardV.cells (GuardV.mk (TrackV.mk (Slc.mk a7 d.Track.length c8)) (Slc.mk a11 d.Posts.length c12) (Slc.mk a15 d.Needs.length c16) d.Tower d.Radio))) 3 rfl rfl, rfl, rfl⟩⟩, trivial⟩ fun w hs => endX (a7, c8, a11, c12, a15, c16) [2, 1, 0] ?_ ?_ rfl rfl rfl hs)
 · rfl
 · trivial
end
section
set_option linter.unusedVariables false
theorem apart_swap {ts : List StretchV} {a b : SpotV} (h : b.Stretch < a.Stretch) : apartF ts a b = lessZ (apartF ts b a) := by
  unfold apartF
  rw [if_pos h, if_neg (by omega)]
  unfold wayB
  rw [Int.min_comm b.Stretch a.Stretch, Int.max_comm b.Stretch a.Stretch]
  unfold lessZ addZ
  simp only [SpanV.mk.injEq]
  omega
theorem apart_straight {ts : List StretchV} {a b : SpotV} (h : ¬ b.Stretch < a.Stretch) : apartF ts a b = addZ (addZ (longF ts a.Stretch.toNat (b.Stretch - a.Stretch).toNat) b.Off) (lessZ a.Off) := by
  unfold apartF wayB
  rw [if_neg h, Int.min_eq_left (by omega), Int.max_eq_right (by omega)]
theorem empty_no {n : Nat} {l : List Int} {i : Nat} {x : Int} (hx : l[i]? = some x) (h : ¬ EmptyAt n l i x) : ¬ EmptyOk n l := fun q => h (q i x hx)
theorem emptyAt_first {n : Nat} {l : List Int} {x : Int} : EmptyAt n l 0 x ↔ 0 ≤ x ∧ x ≤ (n : Int) - 1 := by
  unfold EmptyAt; rw [prevE_zero]; omega
theorem emptyAt_next {n : Nat} {l : List Int} {i : Nat} {x y : Int} (hi : 0 < i) (hy : l[i - 1]? = some y) : EmptyAt n l i x ↔ y < x ∧ 0 ≤ x ∧ x ≤ (n : Int) - 1 := by
  unfold EmptyAt; rw [prevE_pos hi hy]
end
section
open Go.RowKit
set_option linter.unusedVariables false
set_option maxRecDepth 100000 in
set_option maxHeartbeats 400000 in
theorem rDrop_c (ts : List StretchV) (tsA : Option Addr) (tsC : Nat) (f : Int) (t : Int) (hlen : ts.length ≤ 1000000) :
    FnV Try.prog 111 [(Value.agg (TrackV.cells (TrackV.mk (Slc.mk tsA ts.length tsC))).toArray), (Value.int .i64 f), (Value.int .i64 t)] [(rd tsA ts.length 9 (ts.map StretchV.cells))] (Value.tuple [(Value.agg (SpanV.cells (dropL ts f t)).toArray), (Value.agg (SpanV.cells (dropH ts f t)).toArray), (Value.int .i64 (dropE ts f t))].toArray) := by
 refine fnV_of go111 Try.func111 rfl rfl fun w0 Q hQ hN => ?_
 try dsimp only
 refine WS fun _ hK1 => BXA rfl fun b2 => AL rfl tz28 fun b3 => AL rfl tz28 fun b4 => rS (AG rfl) <| RK hK1 <| w_seq fun _ hK5 => WS fun _ hK6 => rS (LW 2 rfl tk24 rfl rfl) <| rS (CL (track_c ts tsA tsC hlen) (ha_at 3 rfl rfl <| ha_nil) rfl) ?_
 refine rS (NT rfl) <| RK hK6 ?_
 refine w_if rfl (fun hg13 => ?_) (fun hg13 => ?_)
 · rw [Bool.not_eq_true'] at hg13
   refine WS fun _ hK7 => rS (SX (sd_build (xs := []) (cs := (SpanV.cells (SpanV.mk 0 0))) rfl rfl (built_of tb28 rfl)) rfl rfl) <| rS (SX (sd_build (xs := []) (cs := (SpanV.cells (SpanV.mk 0 0))) rfl rfl (built_of tb28 rfl)) rfl rfl) <| SW1 rfl ts28 rfl <| SW0 rfl ts28 rfl <| rS (AG rfl) <| RK hK7 <| w_ret ?_
   refine hQ _ _ _ (l_nil (vs := [(Value.agg (SpanV.cells (SpanV.mk 0 0)).toArray), (Value.agg (SpanV.cells (SpanV.mk 0 0)).toArray), (Value.int .i64 10)]) ⟨⟨_, rfl, .inl ⟨_, _, tk28, at_blk (vs := (SpanV.cells (SpanV.mk 0 0))) 1 rfl rfl, rfl, rfl⟩⟩, ⟨_, rfl, .inl ⟨_, _, tk28, at_blk (vs := (SpanV.cells (SpanV.mk 0 0))) 0 rfl rfl, rfl, rfl⟩⟩, rfl, trivial⟩ fun w hs => endV ?_ hs)
   show (Value.tuple [(Value.agg (SpanV.cells (SpanV.mk 0 0)).toArray), (Value.agg (SpanV.cells (SpanV.mk 0 0)).toArray), (Value.int .i64 10)].toArray) = (Value.tuple [(Value.agg (SpanV.cells (dropL ts f t)).toArray), (Value.agg (SpanV.cells (dropH ts f t)).toArray), (Value.int .i64 (dropE ts f t))].toArray)
   clear hs w hQ hN hK7 hK6 hK5 hK1
   first | (have e := dropE_bad (f := f) (t := t) (by simpa using hg13 : trackOk ts = false); rw [e.1, e.2.1, e.2.2] <;> rfl) | (have e := dropE_out (f := f) (t := t) hg13 (by omega); rw [e.1, e.2.1, e.2.2] <;> rfl) | (have e := dropE_in (f := f) (t := t) hg13 (by omega); rw [e.1, e.2.1, e.2.2] <;> rfl)
 rw [Bool.not_eq_false'] at hg13
 refine WK hK5 <| w_seq fun _ hK8 => WS fun _ hK9 => ?_
 have hst := trackOk_all hg13
 have hl12 := trackOk_le hg13
 refine rS (MV rfl) <| rS (FA 0 rfl fo24_0 rfl) <| rS (L1 (Value.slice tsA ts.length tsC) 2 rfl tk22 rfl rfl) <| rS (LN rfl ut22) <| rS (CL (within_1 f 0 ((ts.length : Nat) : Int)) (ha_nil) rfl) <| rS (NT rfl) <| rS (MV rfl) ?_
 refine r_bool (t := 22) rfl (fun hg22 => ?_) (fun hg22 => ?_)
 · replace hg22 := XT hg22
   refine rS (OX rfl) <| rS (OX rfl) <| rS (OX rfl) <| rS (OX rfl) <| rS (OX rfl) <| rS (OX rfl) <| rS (OX rfl) <| rS (PK rfl) <| RK hK9 <| w_if_true rfl ?_
   refine WS fun _ hK10 => rS (SX (sd_build (xs := []) (cs := (SpanV.cells (SpanV.mk 0 0))) rfl rfl (built_of tb28 rfl)) rfl rfl) <| rS (SX (sd_build (xs := []) (cs := (SpanV.cells (SpanV.mk 0 0))) rfl rfl (built_of tb28 rfl)) rfl rfl) <| SW1 rfl ts28 rfl <| SW0 rfl ts28 rfl <| rS (AG rfl) <| RK hK10 <| w_ret ?_
   refine hQ _ _ _ (l_nil (vs := [(Value.agg (SpanV.cells (SpanV.mk 0 0)).toArray), (Value.agg (SpanV.cells (SpanV.mk 0 0)).toArray), (Value.int .i64 2)]) ⟨⟨_, rfl, .inl ⟨_, _, tk28, at_blk (vs := (SpanV.cells (SpanV.mk 0 0))) 1 rfl rfl, rfl, rfl⟩⟩, ⟨_, rfl, .inl ⟨_, _, tk28, at_blk (vs := (SpanV.cells (SpanV.mk 0 0))) 0 rfl rfl, rfl, rfl⟩⟩, rfl, trivial⟩ fun w hs => endV ?_ hs)
   show (Value.tuple [(Value.agg (SpanV.cells (SpanV.mk 0 0)).toArray), (Value.agg (SpanV.cells (SpanV.mk 0 0)).toArray), (Value.int .i64 2)].toArray) = (Value.tuple [(Value.agg (SpanV.cells (dropL ts f t)).toArray), (Value.agg (SpanV.cells (dropH ts f t)).toArray), (Value.int .i64 (dropE ts f t))].toArray)
   clear hs w hQ hN hK10 hK9 hK8 hK6 hK5 hK1
   first | (have e := dropE_bad (f := f) (t := t) (by simpa using hg13 : trackOk ts = false); rw [e.1, e.2.1, e.2.2] <;> rfl) | (have e := dropE_out (f := f) (t := t) hg13 (by omega); rw [e.1, e.2.1, e.2.2] <;> rfl) | (have e := dropE_in (f := f) (t := t) hg13 (by omega); rw [e.1, e.2.1, e.2.2] <;> rfl)
 replace hg22 := XF hg22
 refine rS (MV rfl) <| rS (MV rfl) <| rS (FA 0 rfl fo24_0 rfl) <| rS (L1 (Value.slice tsA ts.length tsC) 2 rfl tk22 rfl rfl) <| rS (LN rfl ut22) <| rS (CL (within_1 t f ((ts.length : Nat) : Int)) (ha_nil) rfl) <| rS (NT rfl) <| rS (PK rfl) <| RK hK9 ?_
 refine w_if rfl (fun hg30 => ?_) (fun hg30 => ?_)
 · replace hg30 := XT hg30
   refine WS fun _ hK11 => rS (SX (sd_build (xs := []) (cs := (SpanV.cells (SpanV.mk 0 0))) rfl rfl (built_of tb28 rfl)) rfl rfl) <| rS (SX (sd_build (xs := []) (cs := (SpanV.cells (SpanV.mk 0 0))) rfl rfl (built_of tb28 rfl)) rfl rfl) <| SW1 rfl ts28 rfl <| SW0 rfl ts28 rfl <| rS (AG rfl) <| RK hK11 <| w_ret ?_
   refine hQ _ _ _ (l_nil (vs := [(Value.agg (SpanV.cells (SpanV.mk 0 0)).toArray), (Value.agg (SpanV.cells (SpanV.mk 0 0)).toArray), (Value.int .i64 2)]) ⟨⟨_, rfl, .inl ⟨_, _, tk28, at_blk (vs := (SpanV.cells (SpanV.mk 0 0))) 1 rfl rfl, rfl, rfl⟩⟩, ⟨_, rfl, .inl ⟨_, _, tk28, at_blk (vs := (SpanV.cells (SpanV.mk 0 0))) 0 rfl rfl, rfl, rfl⟩⟩, rfl, trivial⟩ fun w hs => endV ?_ hs)
   show (Value.tuple [(Value.agg (SpanV.cells (SpanV.mk 0 0)).toArray), (Value.agg (SpanV.cells (SpanV.mk 0 0)).toArray), (Value.int .i64 2)].toArray) = (Value.tuple [(Value.agg (SpanV.cells (dropL ts f t)).toArray), (Value.agg (SpanV.cells (dropH ts f t)).toArray), (Value.int .i64 (dropE ts f t))].toArray)
   clear hs w hQ hN hK11 hK9 hK8 hK6 hK5 hK1
   first | (have e := dropE_bad (f := f) (t := t) (by simpa using hg13 : trackOk ts = false); rw [e.1, e.2.1, e.2.2] <;> rfl) | (have e := dropE_out (f := f) (t := t) hg13 (by omega); rw [e.1, e.2.1, e.2.2] <;> rfl) | (have e := dropE_in (f := f) (t := t) hg13 (by omega); rw [e.1, e.2.1, e.2.2] <;> rfl)
 replace hg30 := XF hg30
 refine WK hK8 <| WS fun _ hK12 => rS (LW 2 rfl tk24 rfl rfl) <| rS (MV rfl) <| rS (MV rfl) <| rS (CL (rdrop_c ts tsA tsC f t (by first | assumption | omega | (simp; done) | (simp; omega)) (by first | assumption | omega | (simp; done) | (simp; omega)) (by first | assumption | omega | (simp; done) | (simp; omega))) (ha_at 3 rfl rfl <| ha_nil) rfl) <| rS (MV rfl) <| rS (EX rfl) <| rS (EX rfl) <| AL rfl tz28 fun b13 => ?_
 refine AL rfl tz28 fun b14 => SW1 rfl ts28 rfl <| SW0 rfl ts28 rfl <| RK hK12 <| w_seq fun _ hK15 => w_draw4 mixed [0, 1, 4] [2, 3] [false, false, false] [false, false] [(blk b14 28 (SpanV.cells (fallF ts f.toNat (t - f).toNat))), (blk b13 28 (SpanV.cells (longF ts f.toNat (t - f).toNat))), (blk b2 24 (TrackV.cells (TrackV.mk (Slc.mk tsA ts.length tsC)))), (rd tsA ts.length 9 (ts.map StretchV.cells)).ro] [] (by kernel_rfl) (fun w hs => St.sel [0, 1, 4, 5] rfl rfl hs) (fun w hs => St.sel [] rfl rfl hs) <| eS rfl (LW 1 rfl tk28 rfl rfl) <| eS rfl (LW 0 rfl tk28 rfl rfl) <| eS rfl (AG rfl) <| d_fin rfl ?_
 refine t_cons rfl fun T16 hT16 => SW3 rfl ts28 rfl ?_
 refine r_nil (hT16 _ _ (fun w hs => St.sel [0, 1, 4, 5] rfl rfl hs) ?_)
 refine t_cons rfl fun T17 hT17 => SW2 rfl ts28 rfl ?_
 refine r_nil (hT17 _ _ (fun w hs => St.sel [0, 1, 4, 5] rfl rfl hs) ?_)
 refine t_fin rfl <| KK hK15 <| w_ret ?_
 refine hQ _ _ _ (l_nil (vs := [(Value.agg (SpanV.cells (longF ts f.toNat (t - f).toNat)).toArray), (Value.agg (SpanV.cells (fallF ts f.toNat (t - f).toNat)).toArray), (Value.int .i64 0)]) ⟨⟨_, rfl, .inl ⟨_, _, tk28, at_blk (vs := (SpanV.cells (longF ts f.toNat (t - f).toNat))) 3 rfl rfl, rfl, rfl⟩⟩, ⟨_, rfl, .inl ⟨_, _, tk28, at_blk (vs := (SpanV.cells (fallF ts f.toNat (t - f).toNat))) 2 rfl rfl, rfl, rfl⟩⟩, rfl, trivial⟩ fun w hs => endV ?_ hs)
 show (Value.tuple [(Value.agg (SpanV.cells (longF ts f.toNat (t - f).toNat)).toArray), (Value.agg (SpanV.cells (fallF ts f.toNat (t - f).toNat)).toArray), (Value.int .i64 0)].toArray) = (Value.tuple [(Value.agg (SpanV.cells (dropL ts f t)).toArray), (Value.agg (SpanV.cells (dropH ts f t)).toArray), (Value.int .i64 (dropE ts f t))].toArray)
 clear hs w hQ hN hT17 T17 hT16 T16 hK15 hK12 hK9 hK8 hK6 hK5 hK1
 first | (have e := dropE_bad (f := f) (t := t) (by simpa using hg13 : trackOk ts = false); rw [e.1, e.2.1, e.2.2] <;> rfl) | (have e := dropE_out (f := f) (t := t) hg13 (by omega); rw [e.1, e.2.1, e.2.2] <;> rfl) | (have e := dropE_in (f := f) (t := t) hg13 (by omega); rw [e.1, e.2.1, e.2.2] <;> rfl)
set_option maxRecDepth 100000 in
set_option maxHeartbeats 400000 in
theorem tomark_c (ts : List StretchV) (tsA : Option Addr) (tsC : Nat) (s : SpotV) (k : Int) (hlen : ts.length ≤ 1000000) (hside : ∀ x ∈ ts, 0 ≤ x.Side ∧ x.Side ≤ 255) (htr : trackOk ts = true) (hs : SpotOk ts s) (hk : 0 ≤ k ∧ k ≤ (ts.length : Int)) :
    FnV Try.prog 89 [(Value.agg (TrackV.cells (TrackV.mk (Slc.mk tsA ts.length tsC))).toArray), (Value.agg (SpotV.cells s).toArray), (Value.int .i64 k)] [(rd tsA ts.length 9 (ts.map StretchV.cells))] (Value.int .i64 (markF ts s k)) := by
 have hsb := hs.1
 have hob := spot_b (trackOk_all htr) hs
 have hl12 := trackOk_le htr
 refine fnV_of go89 Try.func89 rfl rfl fun w0 Q hQ hN => ?_
 try dsimp only
 refine WS fun _ hK1 => BXA rfl fun b2 => BXA rfl fun b3 => rS (AG rfl) <| RK hK1 <| w_seq fun _ hK4 => WS fun _ hK5 => rS (MV rfl) <| rS (FA 0 rfl fo30_0 rfl) <| rS (L1 (Value.int .i64 s.Stretch) 0 rfl tk3 rfl rfl) ?_
 refine rS (BI rfl b_leq) <| RK hK5 ?_
 refine w_if rfl (fun hg16 => ?_) (fun hg16 => ?_)
 · replace hg16 := DT hg16
   refine WS fun _ hK6 => rS (LW 1 rfl tk24 rfl rfl) <| rS (MV rfl) <| rS (FA 0 rfl fo30_0 rfl) <| rS (L1 (Value.int .i64 s.Stretch) 0 rfl tk3 rfl rfl) <| rS (CL (rDrop_c ts tsA tsC k s.Stretch hlen) (ha_at 2 rfl rfl <| ha_nil) rfl) <| rS (MV rfl) <| rS (EX rfl) <| rS (EX rfl) <| rS (EX rfl) ?_
   refine AL rfl tz28 fun b7 => AL rfl tz28 fun b8 => SW1 rfl ts28 rfl <| SW0 rfl ts28 rfl <| rS (AG rfl) <| RK hK6 <| WS fun _ hK9 => ?_
   have hdr := dropE_in (f := k) (t := s.Stretch) htr (by omega)
   have hlb := longF_b (trackOk_all htr) k.toNat (s.Stretch - k).toNat
   rw [← hdr.2.1] at hlb
   refine rS (FA 1 rfl fo28_1 rfl) <| rS (L1 (Value.int .i64 ((dropL ts k s.Stretch).Hi)) 1 rfl tk3 rfl rfl) <| rS (FA 1 rfl fo30_1 rfl) <| rS (FA 2 rfl fo28_1 rfl) <| rS (L1 (Value.int .i64 s.Off.Hi) 2 rfl tk3 rfl rfl) <| rS (BI rfl (b_add ⟨by omega, by omega⟩)) <| rS (AG rfl) <| RK hK9 <| w_ret <| Q1 hQ rfl rfl rfl ?_
   first | (refine congrArg (Value.int .i64) ?_; unfold markF; rw [if_pos hg16, hdr.2.1]) | (refine congrArg (Value.int .i64) ?_; unfold markF; rw [if_neg hg16, hdr.2.1])
 replace hg16 := DF hg16
 refine WK hK4 <| WS fun _ hK10 => rS (LW 1 rfl tk24 rfl rfl) <| rS (FA 0 rfl fo30_0 rfl) <| rS (L1 (Value.int .i64 s.Stretch) 0 rfl tk3 rfl rfl) <| rS (MV rfl) <| rS (CL (rDrop_c ts tsA tsC s.Stretch k hlen) (ha_at 2 rfl rfl <| ha_nil) rfl) <| rS (MV rfl) <| rS (EX rfl) <| rS (EX rfl) ?_
 refine rS (EX rfl) <| AL rfl tz28 fun b11 => AL rfl tz28 fun b12 => SW1 rfl ts28 rfl <| SW0 rfl ts28 rfl <| rS (AG rfl) <| RK hK10 <| WS fun _ hK13 => ?_
 have hdr := dropE_in (f := s.Stretch) (t := k) htr (by omega)
 have hlb := longF_b (trackOk_all htr) s.Stretch.toNat (k - s.Stretch).toNat
 rw [← hdr.2.1] at hlb
 refine rS (FA 1 rfl fo28_1 rfl) <| rS (L1 (Value.int .i64 ((dropL ts s.Stretch k).Hi)) 1 rfl tk3 rfl rfl) <| rS (FA 1 rfl fo30_1 rfl) <| rS (FA 1 rfl fo28_0 rfl) <| rS (L1 (Value.int .i64 s.Off.Lo) 2 rfl tk3 rfl rfl) <| rS (BI rfl (b_sub ⟨by omega, by omega⟩)) <| rS (AG rfl) <| RK hK13 <| w_ret <| Q1 hQ rfl rfl rfl ?_
 first | (refine congrArg (Value.int .i64) ?_; unfold markF; rw [if_pos hg16, hdr.2.1]) | (refine congrArg (Value.int .i64) ?_; unfold markF; rw [if_neg hg16, hdr.2.1])
set_option maxRecDepth 100000 in
set_option maxHeartbeats 400000 in
theorem rpfar_c (ts : List StretchV) (tsA : Option Addr) (tsC : Nat) (s : SpotV) (k : Int) (hlen : ts.length ≤ 1000000) (hside : ∀ x ∈ ts, 0 ≤ x.Side ∧ x.Side ≤ 255) (htr : trackOk ts = true) (hs : SpotOk ts s) (hk : 0 ≤ k ∧ k < (ts.length : Int)) :
    FnV Try.prog 52 [(Value.agg (TrackV.cells (TrackV.mk (Slc.mk tsA ts.length tsC))).toArray), (Value.agg (SpotV.cells s).toArray), (Value.int .i64 k)] [(rd tsA ts.length 9 (ts.map StretchV.cells))] (Value.int .i64 (farF ts s k)) := by
 have hm1 := mark_b htr hs (m := k) (by omega)
 have hm2 := mark_b htr hs (m := k + 1) (by omega)
 refine fnV_of go52 Try.func52 rfl rfl fun w0 Q hQ hN => ?_
 try dsimp only
 refine WS fun _ hK1 => BXA rfl fun b2 => BXA rfl fun b3 => rS (AG rfl) <| RK hK1 <| w_seq fun _ hK4 => w_draw mixed 11 (by kernel_rfl) <| dS (LW 1 rfl tk24 rfl rfl) <| dS (LW 0 rfl tk30 rfl rfl) <| dS (MV rfl) ?_
 refine dS (CL (tomark_c ts tsA tsC s k hlen hside htr hs (by first | assumption | omega | (simp; done) | (simp; omega))) (ha_at 2 rfl rfl <| ha_nil) rfl) <| dS (LW 1 rfl tk24 rfl rfl) <| dS (LW 0 rfl tk30 rfl rfl) <| dS (MV rfl) <| dS (BI rfl (b_add ⟨by omega, by omega⟩)) <| dS (CL (tomark_c ts tsA tsC s (k + 1) hlen hside htr hs (by first | assumption | omega | (simp; done) | (simp; omega))) (ha_at 2 rfl rfl <| ha_nil) rfl) <| dS (MX rfl) <| dS (AG rfl) <| d_end <| RK hK4 ?_
 refine w_ret ?_
 exact Q1 hQ rfl rfl rfl rfl
set_option maxRecDepth 100000 in
set_option maxHeartbeats 400000 in
theorem both_c (d : GuardM) (kA : Option Addr) (kC : Nat) (pA : Option Addr) (pC : Nat) (nA : Option Addr) (nC : Nat) (a : Int) (k : Int) (hin : GuardIn d) :
    FnV Try.prog 51 [(Value.agg (GuardV.cells (GuardV.mk (TrackV.mk (Slc.mk kA d.Track.length kC)) (Slc.mk pA d.Posts.length pC) (Slc.mk nA d.Needs.length nC) d.Tower d.Radio)).toArray), (Value.int .i64 a), (Value.int .i64 k)] [(rd kA d.Track.length 9 (d.Track.map StretchV.cells)), (rd pA d.Posts.length 7 (d.Posts.map PostV.cells)), (rd nA d.Needs.length 3 (d.Needs.map NeedV.cells))] (Value.bool (decide ((0 ≤ a ∧ a ≤ (d.Posts.length : Int) - 1) ∧ 0 ≤ k ∧ k ≤ (d.Track.length : Int) - 1))) := by
 have hlen := hin.trk
 have hside := hin.side
 have hpl := hin.pst
 have hnl := hin.nds
 have hnk := hin.nk
 have hpk := hin.pk
 refine fnV_of go51 Try.func51 rfl rfl fun w0 Q hQ hN => ?_
 try dsimp only
 refine WS fun _ hK1 => BXA rfl fun b2 => rS (AG rfl) <| RK hK1 <| WS fun _ hK3 => rS (MV rfl) <| rS (FA 1 rfl fo32_1 rfl) <| rS (L1 (Value.slice pA d.Posts.length pC) 0 rfl tk25 rfl rfl) <| rS (LN rfl ut25) <| rS (BI rfl (b_sub ⟨by omega, by omega⟩)) ?_
 refine rS (CL (within_9 a 0 (((d.Posts.length : Nat) : Int) - 1)) (ha_nil) rfl) <| rS (MV rfl) ?_
 refine r_bool (t := 13) rfl (fun hg13 => ?_) (fun hg13 => ?_)
 rotate_left 1
 · replace hg13 := DF hg13
   refine rS (OX rfl) <| rS (OX rfl) <| rS (OX rfl) <| rS (OX rfl) <| rS (OX rfl) <| rS (OX rfl) <| rS (OX rfl) <| rS (PK rfl) <| rS (AG rfl) <| RK hK3 ?_
   refine w_ret <| Q1 hQ rfl rfl rfl ?_
   first | exact congrArg Value.bool (decide_eq_false fun q => hg13 q.1).symm | exact congrArg Value.bool (decide_eq_decide.2 ⟨fun q => ⟨hg13, q⟩, fun q => q.2⟩)
 replace hg13 := DT hg13
 refine rS (MV rfl) <| rS (FA 0 rfl fo32_0 rfl) <| rS (FA 0 rfl fo24_0 rfl) <| rS (L1 (Value.slice kA d.Track.length kC) 0 rfl tk22 rfl rfl) <| rS (LN rfl ut22) <| rS (BI rfl (b_sub ⟨by omega, by omega⟩)) <| rS (CL (within_9 k 0 (((d.Track.length : Nat) : Int) - 1)) (ha_nil) rfl) <| rS (PK rfl) <| rS (AG rfl) <| RK hK3 ?_
 refine w_ret <| Q1 hQ rfl rfl rfl ?_
 first | exact congrArg Value.bool (decide_eq_false fun q => hg13 q.1).symm | exact congrArg Value.bool (decide_eq_decide.2 ⟨fun q => ⟨hg13, q⟩, fun q => q.2⟩)
set_option maxRecDepth 100000 in
set_option maxHeartbeats 400000 in
theorem rFar_c (d : GuardM) (kA : Option Addr) (kC : Nat) (pA : Option Addr) (pC : Nat) (nA : Option Addr) (nC : Nat) (a : Int) (k : Int) (hin : GuardIn d) :
    FnV Try.prog 16 [(Value.agg (GuardV.cells (GuardV.mk (TrackV.mk (Slc.mk kA d.Track.length kC)) (Slc.mk pA d.Posts.length pC) (Slc.mk nA d.Needs.length nC) d.Tower d.Radio)).toArray), (Value.int .i64 a), (Value.int .i64 k)] [(rd kA d.Track.length 9 (d.Track.map StretchV.cells)), (rd pA d.Posts.length 7 (d.Posts.map PostV.cells)), (rd nA d.Needs.length 3 (d.Needs.map NeedV.cells))] (Value.tuple [(Value.int .i64 (farV d a k)), (Value.int .i64 (farE d a k))].toArray) := by
 have hlen := hin.trk
 have hside := hin.side
 have hpl := hin.pst
 have hnl := hin.nds
 have hnk := hin.nk
 have hpk := hin.pk
 refine fnV_of go16 Try.func16 rfl rfl fun w0 Q hQ hN => ?_
 try dsimp only
 refine WS fun _ hK1 => BXA rfl fun b2 => rS (AG rfl) <| rS (AG rfl) <| RK hK1 <| w_seq fun _ hK3 => WS fun _ hK4 => rS (LW 0 rfl tk32 rfl rfl) <| rS (CL (rpcheck_c d kA kC pA pC nA nC hin) (ha_at 1 rfl rfl <| ha_at 2 rfl rfl <| ha_at 3 rfl rfl <| ha_nil) rfl) <| rS (AG rfl) ?_
 refine RK hK4 <| WS fun _ hK5 => rS (MV rfl) <| rS (BI rfl b_neq) <| RK hK5 ?_
 refine w_if rfl (fun h12 => ?_) (fun h12 => ?_)
 · replace h12 := XT h12
   refine WS fun _ hK6 => rS (MV rfl) <| rS (AG rfl) <| rS (AG rfl) <| RK hK6 <| w_ret <| Q2 hQ rfl rfl rfl rfl ?_
   first | (have e := far_bad (a := a) (k := k) h12; rw [e.1, e.2.1] <;> rfl) | (have e := far_out (a := a) (k := k) h12 hg18; rw [e.1, e.2.1] <;> rfl) | (have e := far_in (k := k) h12 hg18 hp; rw [e.1, e.2.1] <;> rfl)
 replace h12 := XF h12
 refine WK hK3 <| w_seq fun _ hK7 => WS fun _ hK8 => ?_
 obtain ⟨htr, hok⟩ := guardE_zero h12
 refine rS (LW 0 rfl tk32 rfl rfl) <| rS (MV rfl) <| rS (MV rfl) <| rS (CL (both_c d kA kC pA pC nA nC a k hin) (ha_at 1 rfl rfl <| ha_at 2 rfl rfl <| ha_at 3 rfl rfl <| ha_nil) rfl) <| rS (NT rfl) <| RK hK8 ?_
 refine w_if rfl (fun hg18 => ?_) (fun hg18 => ?_)
 · replace hg18 := XT hg18
   refine WS fun _ hK9 => rS (AG rfl) <| rS (AG rfl) <| RK hK9 <| w_ret <| Q2 hQ rfl rfl rfl rfl ?_
   first | (have e := far_bad (a := a) (k := k) h12; rw [e.1, e.2.1] <;> rfl) | (have e := far_out (a := a) (k := k) h12 hg18; rw [e.1, e.2.1] <;> rfl) | (have e := far_in (k := k) h12 hg18 hp; rw [e.1, e.2.1] <;> rfl)
 replace hg18 := XF hg18
 refine WK hK7 <| w_seq fun _ hK10 => w_draw mixed 12 (by kernel_rfl) <| dS (FA 0 rfl fo32_0 rfl) <| dS (LP (TrackV.cells (TrackV.mk (Slc.mk kA d.Track.length kC))) 0 rfl tk24 rfl rfl rfl) <| dS (FA 1 rfl fo32_1 rfl) <| dS (L1 (Value.slice pA d.Posts.length pC) 0 rfl tk25 rfl rfl) <| dS (MV rfl) ?_
 obtain ⟨p, hp⟩ : ∃ y_, d.Posts[(a).toNat]? = some y_ := ⟨d.Posts[(a).toNat]'(by omega), List.getElem?_eq_getElem _⟩
 have hpm : (d.Posts.map PostV.cells)[(a).toNat]? = some (PostV.cells p) := by rw [List.getElem?_map, hp]; rfl
 refine dS (IA ((a).toNat) rfl (has_at 2 rfl) te25 (by decide) (by omega) (by omega)) <| dS (FAR ((((a).toNat) * 7) + 2) rfl (has_at 2 rfl) (Nat.mul_pos (by omega) (by decide)) fo62_2 rfl) ?_
 have hpo := (hok.post _ p hp).2.2.1
 refine dS (LEN ((a).toNat) 2 (SpotV.cells p.Spot) rfl tk30 (has_at 2 rfl) hpm rfl (by decide) rfl rfl) <| dS (MV rfl) <| dS (CL (rpfar_c d.Track kA kC p.Spot k (by first | assumption | omega | (simp; done) | (simp; omega)) (by first | assumption | omega | (simp; done) | (simp; omega)) (by first | assumption | omega | (simp; done) | (simp; omega)) (by first | assumption | omega | (simp; done) | (simp; omega)) (by first | assumption | omega | (simp; done) | (simp; omega))) (ha_at 1 rfl rfl <| ha_nil) rfl) <| dS (AG rfl) <| dS (AG rfl) <| d_end <| RK hK10 <| w_ret <| Q2 hQ rfl rfl rfl rfl ?_
 first | (have e := far_bad (a := a) (k := k) h12; rw [e.1, e.2.1] <;> rfl) | (have e := far_out (a := a) (k := k) h12 hg18; rw [e.1, e.2.1] <;> rfl) | (have e := far_in (k := k) h12 hg18 hp; rw [e.1, e.2.1] <;> rfl)
set_option maxRecDepth 100000 in
set_option maxHeartbeats 400000 in
theorem rtime_c (d : GuardM) (kA : Option Addr) (kC : Nat) (pA : Option Addr) (pC : Nat) (nA : Option Addr) (nC : Nat) (a : Int) (k : Int) (hin : GuardIn d) (hge : guardE d = 0) (hak : (0 ≤ a ∧ a ≤ (d.Posts.length : Int) - 1) ∧ 0 ≤ k ∧ k ≤ (d.Track.length : Int) - 1) :
    FnV Try.prog 54 [(Value.agg (GuardV.cells (GuardV.mk (TrackV.mk (Slc.mk kA d.Track.length kC)) (Slc.mk pA d.Posts.length pC) (Slc.mk nA d.Needs.length nC) d.Tower d.Radio)).toArray), (Value.int .i64 a), (Value.int .i64 k)] [(rd kA d.Track.length 9 (d.Track.map StretchV.cells)), (rd pA d.Posts.length 7 (d.Posts.map PostV.cells)), (rd nA d.Needs.length 3 (d.Needs.map NeedV.cells))] (Value.int .i64 (timeV d a k)) := by
 have hlen := hin.trk
 have hside := hin.side
 have hpl := hin.pst
 have hnl := hin.nds
 have hnk := hin.nk
 have hpk := hin.pk
 obtain ⟨htr, hok⟩ := guardE_zero hge
 refine fnV_of go54 Try.func54 rfl rfl fun w0 Q hQ hN => ?_
 try dsimp only
 refine WS fun _ hK1 => BXA rfl fun b2 => rS (AG rfl) <| RK hK1 <| WS fun _ hK3 => rS (FA 1 rfl fo32_1 rfl) <| rS (L1 (Value.slice pA d.Posts.length pC) 0 rfl tk25 rfl rfl) <| rS (MV rfl) ?_
 obtain ⟨p, hp⟩ : ∃ y_, d.Posts[(a).toNat]? = some y_ := ⟨d.Posts[(a).toNat]'(by omega), List.getElem?_eq_getElem _⟩
 have hpm : (d.Posts.map PostV.cells)[(a).toNat]? = some (PostV.cells p) := by rw [List.getElem?_map, hp]; rfl
 refine rS (IA ((a).toNat) rfl (has_at 2 rfl) te25 (by decide) (by omega) (by omega)) <| rS (LEN ((a).toNat) 0 (PostV.cells p) rfl tk62 (has_at 2 rfl) hpm rfl (by decide) rfl rfl) <| AL rfl tz62 fun b4 => SW0 rfl ts62 rfl <| RK hK3 <| w_seq fun _ hK5 => w_draw mixed 15 (by kernel_rfl) ?_
 have hpo := hok.post _ p hp
 unfold PostOk at hpo
 have hfb := far_b htr hpo.2.2.1 (k := k) (by omega)
 have hpc := pace_b hpo.2.2.2.2 hfb
 refine dS (FA 5 rfl fo62_3 rfl) <| dS (L1 (Value.int .i64 p.Delay) 0 rfl tk3 rfl rfl) <| dS (FA 6 rfl fo62_4 rfl) <| dS (L1 (Value.int .i64 p.Pace) 0 rfl tk3 rfl rfl) <| dS (FA 0 rfl fo32_0 rfl) <| dS (LP (TrackV.cells (TrackV.mk (Slc.mk kA d.Track.length kC))) 1 rfl tk24 rfl rfl rfl) <| dS (FA 2 rfl fo62_2 rfl) <| dS (LP (SpotV.cells p.Spot) 0 rfl tk30 rfl rfl rfl) <| dS (MV rfl) <| dS (CL (rpfar_c d.Track kA kC p.Spot k (by first | assumption | omega | (simp; done) | (simp; omega)) (by first | assumption | omega | (simp; done) | (simp; omega)) (by first | assumption | omega | (simp; done) | (simp; omega)) (by exact hpo.2.2.1) (by first | assumption | omega | (simp; done) | (simp; omega))) (ha_at 2 rfl rfl <| ha_nil) rfl) ?_
 refine dS (BI rfl (b_mul ⟨by omega, by omega⟩)) <| dS (BI rfl (b_add ⟨by omega, by omega⟩)) <| dS (BI rfl (b_quo (by omega) (by omega) (by omega))) <| dS (BI rfl (b_add ⟨by omega, by omega⟩)) <| dS (AG rfl) <| d_end <| RK hK5 <| w_ret <| Q1 hQ rfl rfl rfl ?_
 exact congrArg (Value.int .i64) (far_in (k := k) hge hak hp).2.2.symm
set_option maxRecDepth 100000 in
set_option maxHeartbeats 400000 in
theorem rTime_c (d : GuardM) (kA : Option Addr) (kC : Nat) (pA : Option Addr) (pC : Nat) (nA : Option Addr) (nC : Nat) (a : Int) (k : Int) (hin : GuardIn d) :
    FnV Try.prog 18 [(Value.agg (GuardV.cells (GuardV.mk (TrackV.mk (Slc.mk kA d.Track.length kC)) (Slc.mk pA d.Posts.length pC) (Slc.mk nA d.Needs.length nC) d.Tower d.Radio)).toArray), (Value.int .i64 a), (Value.int .i64 k)] [(rd kA d.Track.length 9 (d.Track.map StretchV.cells)), (rd pA d.Posts.length 7 (d.Posts.map PostV.cells)), (rd nA d.Needs.length 3 (d.Needs.map NeedV.cells))] (Value.tuple [(Value.int .i64 (timeV d a k)), (Value.int .i64 (farE d a k))].toArray) := by
 have hlen := hin.trk
 have hside := hin.side
 have hpl := hin.pst
 have hnl := hin.nds
 have hnk := hin.nk
 have hpk := hin.pk
 refine fnV_of go18 Try.func18 rfl rfl fun w0 Q hQ hN => ?_
 try dsimp only
 refine WS fun _ hK1 => BXA rfl fun b2 => rS (AG rfl) <| rS (AG rfl) <| RK hK1 <| w_seq fun _ hK3 => WS fun _ hK4 => rS (LW 0 rfl tk32 rfl rfl) <| rS (CL (rpcheck_c d kA kC pA pC nA nC hin) (ha_at 1 rfl rfl <| ha_at 2 rfl rfl <| ha_at 3 rfl rfl <| ha_nil) rfl) <| rS (AG rfl) ?_
 refine RK hK4 <| WS fun _ hK5 => rS (MV rfl) <| rS (BI rfl b_neq) <| RK hK5 ?_
 refine w_if rfl (fun h12 => ?_) (fun h12 => ?_)
 · replace h12 := XT h12
   refine WS fun _ hK6 => rS (MV rfl) <| rS (AG rfl) <| rS (AG rfl) <| RK hK6 <| w_ret <| Q2 hQ rfl rfl rfl rfl ?_
   first | (have e := far_bad (a := a) (k := k) h12; rw [e.1, e.2.2] <;> rfl) | (have e := far_out (a := a) (k := k) h12 hg18; rw [e.1, e.2.2] <;> rfl) | (have hp : d.Posts[a.toNat]? = some (d.Posts[a.toNat]'(by omega)) := List.getElem?_eq_getElem _; have e := far_in (k := k) h12 hg18 hp; rw [e.1] <;> rfl)
 replace h12 := XF h12
 refine WK hK3 <| w_seq fun _ hK7 => WS fun _ hK8 => ?_
 obtain ⟨htr, hok⟩ := guardE_zero h12
 refine rS (LW 0 rfl tk32 rfl rfl) <| rS (MV rfl) <| rS (MV rfl) <| rS (CL (both_c d kA kC pA pC nA nC a k hin) (ha_at 1 rfl rfl <| ha_at 2 rfl rfl <| ha_at 3 rfl rfl <| ha_nil) rfl) <| rS (NT rfl) <| RK hK8 ?_
 refine w_if rfl (fun hg18 => ?_) (fun hg18 => ?_)
 · replace hg18 := XT hg18
   refine WS fun _ hK9 => rS (AG rfl) <| rS (AG rfl) <| RK hK9 <| w_ret <| Q2 hQ rfl rfl rfl rfl ?_
   first | (have e := far_bad (a := a) (k := k) h12; rw [e.1, e.2.2] <;> rfl) | (have e := far_out (a := a) (k := k) h12 hg18; rw [e.1, e.2.2] <;> rfl) | (have hp : d.Posts[a.toNat]? = some (d.Posts[a.toNat]'(by omega)) := List.getElem?_eq_getElem _; have e := far_in (k := k) h12 hg18 hp; rw [e.1] <;> rfl)
 replace hg18 := XF hg18
 refine WK hK7 <| WS fun _ hK10 => rS (LW 0 rfl tk32 rfl rfl) <| rS (MV rfl) <| rS (MV rfl) <| rS (CL (rtime_c d kA kC pA pC nA nC a k hin (by first | assumption | omega | (simp; done) | (simp; omega)) (by first | assumption | omega | (simp; done) | (simp; omega))) (ha_at 1 rfl rfl <| ha_at 2 rfl rfl <| ha_at 3 rfl rfl <| ha_nil) rfl) <| rS (AG rfl) <| rS (AG rfl) <| RK hK10 <| w_ret ?_
 refine Q2 hQ rfl rfl rfl rfl ?_
 first | (have e := far_bad (a := a) (k := k) h12; rw [e.1, e.2.2] <;> rfl) | (have e := far_out (a := a) (k := k) h12 hg18; rw [e.1, e.2.2] <;> rfl) | (have hp : d.Posts[a.toNat]? = some (d.Posts[a.toNat]'(by omega)) := List.getElem?_eq_getElem _; have e := far_in (k := k) h12 hg18 hp; rw [e.1] <;> rfl)
set_option maxRecDepth 100000 in
set_option maxHeartbeats 400000 in
theorem remp_c (d : GuardM) (kA : Option Addr) (kC : Nat) (pA : Option Addr) (pC : Nat) (nA : Option Addr) (nC : Nat) (l : List Int) (lA : Option Addr) (lC : Nat) (hin : GuardIn d) (hll : l.length ≤ 1000000) :
    FnV Try.prog 57 [(Value.agg (GuardV.cells (GuardV.mk (TrackV.mk (Slc.mk kA d.Track.length kC)) (Slc.mk pA d.Posts.length pC) (Slc.mk nA d.Needs.length nC) d.Tower d.Radio)).toArray), (Value.slice lA l.length lC)] [(rd kA d.Track.length 9 (d.Track.map StretchV.cells)), (rd pA d.Posts.length 7 (d.Posts.map PostV.cells)), (rd nA d.Needs.length 3 (d.Needs.map NeedV.cells)), (rd lA l.length 1 (l.map iC))] (Value.bool (decide (EmptyOk d.Posts.length l))) := by
 have hlen := hin.trk
 have hside := hin.side
 have hpl := hin.pst
 have hnl := hin.nds
 have hnk := hin.nk
 have hpk := hin.pk
 refine fnV_of go57 Try.func57 rfl rfl fun w0 Q hQ hN => ?_
 try dsimp only
 refine WS fun _ hK1 => BXA rfl fun b2 => rS (AG rfl) <| RK hK1 <| w_seq fun _ hK3 => WS fun _ hK4 => rS (AG rfl) <| RK hK4 <| w_block ?_
 have hinit : (0 ≤ l.length) ∧ (EmptyTo d.Posts.length l 0) := by exact ⟨Nat.zero_le _, empty_zero⟩
 refine w_loop (ι := { z : Nat // (z ≤ l.length) ∧ (EmptyTo d.Posts.length l z) }) (fun z => [(1, (Value.slice lA l.length lC)), (2, (Value.pointer (some ⟨b2, 0, none⟩))), (5, (Value.int .i64 ((z.1 : Nat) : Int)))]) (fun z => [(blk b2 32 (GuardV.cells (GuardV.mk (TrackV.mk (Slc.mk kA d.Track.length kC)) (Slc.mk pA d.Posts.length pC) (Slc.mk nA d.Needs.length nC) d.Tower d.Radio))), (rd kA d.Track.length 9 (d.Track.map StretchV.cells)).ro, (rd pA d.Posts.length 7 (d.Posts.map PostV.cells)).ro, (rd nA d.Needs.length 3 (d.Needs.map NeedV.cells)).ro, (rd lA l.length 1 (l.map iC)).ro]) (fun z => l.length - z.1) ⟨0, hinit⟩ (Sub.cons rfl <| Sub.cons rfl <| Sub.cons rfl <| Sub.nil _) (fun w hs => St.sel [0, 1, 2, 3, 4] rfl rfl hs) ?_
 clear hinit
 rintro ⟨i, ⟨hl2_0, hl2_1⟩⟩ J5 hJ5
 try dsimp only
 refine w_seq fun _ hK6 => WS fun _ hK7 => rS (MV rfl) <| rS (MV rfl) <| rS (LN rfl ut33) <| rS (BI rfl b_lss) <| RK hK7 ?_
 refine w_if rfl (fun h8 => ?_) (fun h8 => ?_)
 rotate_left 1
 · replace h8 := DF h8
   refine w_exit <| k_exit_then <| k_exit_then <| k_exit_same <| KK hK3 <| WS fun _ hK15 => rS (AG rfl) <| RK hK15 <| w_ret <| Q1 hQ rfl rfl rfl ?_
   first | exact congrArg Value.bool (decide_eq_true (empty_all hl2_1 (by omega))).symm | exact congrArg Value.bool (decide_eq_false (empty_no hx (fun q => by unfold EmptyAt at q; omega))).symm | exact congrArg Value.bool (decide_eq_false (empty_no hx (fun q => by have q1 := (emptyAt_next (by omega) hy).1 q; omega))).symm
 replace h8 := DT h8
 refine WK hK6 <| w_seq fun _ hK9 => w_block <| w_seq fun _ hK10 => w_draw mixed 26 (by kernel_rfl) <| dS (MV rfl) <| dS (MV rfl) ?_
 obtain ⟨x, hx⟩ : ∃ y_, l[i]? = some y_ := ⟨l[i]'(by omega), List.getElem?_eq_getElem _⟩
 have hxm : (l.map iC)[i]? = some (iC x) := by rw [List.getElem?_map, hx]; rfl
 refine dS (IA i rfl (has_at 4 rfl) te33 (by decide) (by omega) (by omega)) <| dS (LE1 i 0 (Value.int .i64 x) rfl tk3 (has_at 4 rfl) hxm rfl (by decide) rfl) <| dS (FA 1 rfl fo32_1 rfl) <| dS (L1 (Value.slice pA d.Posts.length pC) 0 rfl tk25 rfl rfl) <| dS (LN rfl ut25) <| dS (BI rfl (b_sub ⟨by omega, by omega⟩)) <| dS (CL (within_9 x 0 (((d.Posts.length : Nat) : Int) - 1)) (ha_nil) rfl) <| dS (NT rfl) <| dS (MV rfl) ?_
 refine d_bool (t := 22) rfl (fun hg22 => ?_) (fun hg22 => ?_)
 · replace hg22 := XT hg22
   refine dS (OX rfl) <| dS (OX rfl) <| dS (OX rfl) <| dS (OX rfl) <| dS (OX rfl) <| dS (OX rfl) <| dS (OX rfl) <| dS (OX rfl) <| dS (OX rfl) <| dS (OX rfl) ?_
   refine dS (OX rfl) <| dS (OX rfl) <| dS (OX rfl) <| dS (OX rfl) <| dS (PK rfl) <| d_end <| RK hK10 <| w_if_true rfl <| WS fun _ hK11 => rS (AG rfl) ?_
   refine RK hK11 <| w_ret <| Q1 hQ rfl rfl rfl ?_
   first | exact congrArg Value.bool (decide_eq_true (empty_all hl2_1 (by omega))).symm | exact congrArg Value.bool (decide_eq_false (empty_no hx (fun q => by unfold EmptyAt at q; omega))).symm | exact congrArg Value.bool (decide_eq_false (empty_no hx (fun q => by have q1 := (emptyAt_next (by omega) hy).1 q; omega))).symm
 replace hg22 := XF hg22
 refine dS (MV rfl) <| dS (BI rfl b_gtr) <| dS (MV rfl) ?_
 refine d_bool (t := 25) rfl (fun hg25 => ?_) (fun hg25 => ?_)
 rotate_left 1
 · replace hg25 := DF hg25
   refine dS (OX rfl) <| dS (OX rfl) <| dS (OX rfl) <| dS (OX rfl) <| dS (OX rfl) <| dS (OX rfl) <| dS (OX rfl) <| dS (OX rfl) <| dS (OX rfl) <| dS (OX rfl) ?_
   refine dS (PK rfl) <| dS (PK rfl) <| d_end <| RK hK10 <| w_if_false rfl <| w_skip <| k_block <| KK hK9 <| w_region <| rS (MV rfl) ?_
   refine rS (BI rfl (b_add ⟨by omega, by omega⟩)) <| rS (AG rfl) <| r_nil ?_
   have hb14 : (Value.int .i64 (((i + 1) : Nat) : Int)) = (Value.int .i64 (((i : Nat) : Int) + 1)) := by exact congrArg (Value.int .i64) (by omega)
   refine k_then (hJ5 ⟨(i + 1), ⟨by omega, empty_succ hl2_1 hx (by first | exact (by rw [show i = 0 by omega]; exact emptyAt_first.2 (by omega)) | exact (emptyAt_next (by omega) hy).2 (by omega))⟩⟩ _ _ _ rfl (by first | omega | (simp; omega)) (Sub.cons rfl <| Sub.cons rfl <| sub_val rfl hb14 <| Sub.nil _) (fun w hs => St.sel [0, 1, 2, 3, 4] rfl rfl hs))
 replace hg25 := DT hg25
 refine dS (MV rfl) <| dS (MV rfl) <| dS (IA i rfl (has_at 4 rfl) te33 (by decide) (by omega) (by omega)) <| dS (LE1 i 0 (Value.int .i64 x) rfl tk3 (has_at 4 rfl) hxm rfl (by decide) rfl) <| dS (MV rfl) <| dS (MV rfl) <| dS (BI rfl (b_sub ⟨by omega, by omega⟩)) ?_
 obtain ⟨y, hy⟩ : ∃ y_, l[(i - 1)]? = some y_ := ⟨l[(i - 1)]'(by omega), List.getElem?_eq_getElem _⟩
 have hym : (l.map iC)[(i - 1)]? = some (iC y) := by rw [List.getElem?_map, hy]; rfl
 refine dS (IA (i - 1) rfl (has_at 4 rfl) te33 (by decide) (by omega) (by omega)) <| dS (LE1 (i - 1) 0 (Value.int .i64 y) rfl tk3 (has_at 4 rfl) hym rfl (by decide) rfl) <| dS (BI rfl b_leq) <| dS (PK rfl) <| dS (PK rfl) <| d_end <| RK hK10 ?_
 refine w_if rfl (fun hg37 => ?_) (fun hg37 => ?_)
 · replace hg37 := DT hg37
   refine WS fun _ hK12 => rS (AG rfl) <| RK hK12 <| w_ret <| Q1 hQ rfl rfl rfl ?_
   first | exact congrArg Value.bool (decide_eq_true (empty_all hl2_1 (by omega))).symm | exact congrArg Value.bool (decide_eq_false (empty_no hx (fun q => by unfold EmptyAt at q; omega))).symm | exact congrArg Value.bool (decide_eq_false (empty_no hx (fun q => by have q1 := (emptyAt_next (by omega) hy).1 q; omega))).symm
 replace hg37 := DF hg37
 refine w_skip <| k_block <| KK hK9 <| w_region <| rS (MV rfl) <| rS (BI rfl (b_add ⟨by omega, by omega⟩)) <| rS (AG rfl) <| r_nil ?_
 have hb13 : (Value.int .i64 (((i + 1) : Nat) : Int)) = (Value.int .i64 (((i : Nat) : Int) + 1)) := by exact congrArg (Value.int .i64) (by omega)
 refine k_then (hJ5 ⟨(i + 1), ⟨by omega, empty_succ hl2_1 hx (by first | exact (by rw [show i = 0 by omega]; exact emptyAt_first.2 (by omega)) | exact (emptyAt_next (by omega) hy).2 (by omega))⟩⟩ _ _ _ rfl (by first | omega | (simp; omega)) (Sub.cons rfl <| Sub.cons rfl <| sub_val rfl hb13 <| Sub.nil _) (fun w hs => St.sel [0, 1, 2, 3, 4] rfl rfl hs))
set_option maxRecDepth 100000 in
set_option maxHeartbeats 400000 in
theorem rhas_c (la : List Int) (laA : Option Addr) (laC : Nat) (n : Int) (hlen : la.length ≤ 1000000) :
    FnV Try.prog 93 [(Value.slice laA la.length laC), (Value.int .i64 n)] [(rd laA la.length 1 (la.map iC))] (Value.bool (decide (n ∈ la))) := by
 refine fnV_of go93 Try.func93 rfl rfl fun w0 Q hQ hN => ?_
 try dsimp only
 refine WS fun _ hK1 => rS (AG rfl) <| RK hK1 <| w_seq fun _ hK2 => WS fun _ hK3 => rS (AG rfl) <| RK hK3 <| w_block ?_
 have hinit : (0 ≤ la.length) ∧ (∀ (j : Nat) y, j < 0 → la[j]? = some y → y ≠ n) := by exact ⟨Nat.zero_le _, fun j y hj => absurd hj (Nat.not_lt_zero _)⟩
 refine w_loop (ι := { z : Nat // (z ≤ la.length) ∧ (∀ (j : Nat) y, j < z → la[j]? = some y → y ≠ n) }) (fun z => [(0, (Value.slice laA la.length laC)), (1, (Value.int .i64 n)), (5, (Value.int .i64 ((z.1 : Nat) : Int)))]) (fun z => [(rd laA la.length 1 (la.map iC)).ro]) (fun z => la.length - z.1) ⟨0, hinit⟩ (Sub.cons rfl <| Sub.cons rfl <| Sub.cons rfl <| Sub.nil _) (fun w hs => St.sel [0] rfl rfl hs) ?_
 clear hinit
 rintro ⟨i, ⟨hl2_0, hl2_1⟩⟩ J4 hJ4
 try dsimp only
 refine w_seq fun _ hK5 => WS fun _ hK6 => rS (MV rfl) <| rS (MV rfl) <| rS (LN rfl ut33) <| rS (BI rfl b_lss) <| RK hK6 ?_
 refine w_if rfl (fun h7 => ?_) (fun h7 => ?_)
 rotate_left 1
 · replace h7 := DF h7
   refine w_exit <| k_exit_then <| k_exit_then <| k_exit_same <| KK hK2 <| WS fun _ hK12 => rS (AG rfl) <| RK hK12 <| w_ret <| Q1 hQ rfl rfl rfl ?_
   first | exact congrArg Value.bool (decide_eq_true (by rw [← hg17]; exact List.mem_of_getElem? hx)).symm | exact congrArg Value.bool (decide_eq_false fun q => up_mem (P := fun y => y ≠ n) (by omega) hl2_1 n q rfl).symm
 replace h7 := DT h7
 refine WK hK5 <| w_seq fun _ hK8 => w_block <| WS fun _ hK9 => rS (MV rfl) <| rS (MV rfl) ?_
 obtain ⟨x, hx⟩ : ∃ y_, la[i]? = some y_ := ⟨la[i]'(by omega), List.getElem?_eq_getElem _⟩
 have hxm : (la.map iC)[i]? = some (iC x) := by rw [List.getElem?_map, hx]; rfl
 refine rS (IA i rfl (has_at 0 rfl) te33 (by decide) (by omega) (by omega)) <| rS (LE1 i 0 (Value.int .i64 x) rfl tk3 (has_at 0 rfl) hxm rfl (by decide) rfl) <| rS (MV rfl) <| rS (BI rfl b_eql) <| RK hK9 ?_
 refine w_if rfl (fun hg17 => ?_) (fun hg17 => ?_)
 · replace hg17 := DT hg17
   refine WS fun _ hK10 => rS (AG rfl) <| RK hK10 <| w_ret <| Q1 hQ rfl rfl rfl ?_
   first | exact congrArg Value.bool (decide_eq_true (by rw [← hg17]; exact List.mem_of_getElem? hx)).symm | exact congrArg Value.bool (decide_eq_false fun q => up_mem (P := fun y => y ≠ n) (by omega) hl2_1 n q rfl).symm
 replace hg17 := DF hg17
 refine w_skip <| k_block <| KK hK8 <| w_region <| rS (MV rfl) <| rS (BI rfl (b_add ⟨by omega, by omega⟩)) <| rS (AG rfl) <| r_nil ?_
 have hb11 : (Value.int .i64 (((i + 1) : Nat) : Int)) = (Value.int .i64 (((i : Nat) : Int) + 1)) := by exact congrArg (Value.int .i64) (by omega)
 refine k_then (hJ4 ⟨(i + 1), ⟨by omega, up_succ (P := fun _ y => y ≠ n) hl2_1 hx hg17⟩⟩ _ _ _ rfl (by first | omega | (simp; omega)) (Sub.cons rfl <| Sub.cons rfl <| sub_val rfl hb11 <| Sub.nil _) (fun w hs => St.sel [0] rfl rfl hs))
end
section
open Go.RowKit
set_option linter.unusedVariables false
def boolC (b : Bool) : List Value := [.bool b]
@[simp] theorem boolC_length (b : Bool) : (boolC b).length = 1 := rfl
/-- the first i indices of which something is so; the others are not yet so -/
noncomputable def setB (n i : Nat) (P : Nat → Prop) : List Bool := (List.range n).map fun j => @decide (j < i ∧ P j) (Classical.propDecidable _)
noncomputable def boolsB (n : Nat) (P : Nat → Prop) : List Bool := setB n n P
@[simp] theorem setB_len {n i : Nat} {P : Nat → Prop} : (setB n i P).length = n := by simp [setB]
@[simp] theorem boolsB_len {n : Nat} {P : Nat → Prop} : (boolsB n P).length = n := setB_len
theorem setB_at {n i j : Nat} {P : Nat → Prop} (h : j < (setB n i P).length) : (setB n i P)[j] = @decide (j < i ∧ P j) (Classical.propDecidable _) := by simp [setB]
theorem boolsB_at {n j : Nat} {P : Nat → Prop} (h : j < (boolsB n P).length) : (boolsB n P)[j] = @decide (j < n ∧ P j) (Classical.propDecidable _) := setB_at h
theorem setB_zero {n : Nat} {P : Nat → Prop} : List.replicate n false = setB n 0 P := by
  apply List.ext_getElem
  · simp
  · intro j h1 h2
    simp [setB]
theorem setB_get {n i j : Nat} {P : Nat → Prop} {b : Bool} (h : (setB n i P)[j]? = some b) : j < n ∧ (b = true ↔ j < i ∧ P j) := by
  have hj : j < n := by have := (List.getElem?_eq_some_iff.1 h).1; rw [setB_len] at this; exact this
  unfold setB at h
  rw [List.getElem?_map, List.getElem?_range hj] at h
  simp only [Option.map_some, Option.some.injEq] at h
  exact ⟨hj, by rw [← h]; simp⟩
theorem boolsB_get {n j : Nat} {P : Nat → Prop} {b : Bool} (h : (boolsB n P)[j]? = some b) : b = true ↔ P j := by
  have := setB_get h
  rw [this.2]
  exact ⟨fun q => q.2, fun q => ⟨this.1, q⟩⟩
theorem setB_set {n i : Nat} {P : Nat → Prop} {b : Bool} (hi : i < n) (hb : b = true ↔ P i) : (setB n i P).set i b = setB n (i + 1) P := by
  apply List.ext_getElem
  · simp
  · intro j h1 h2
    simp only [List.length_set, setB_len] at h1
    rw [List.getElem_set]
    by_cases e : i = j
    · subst e
      rw [if_pos rfl, setB_at]
      cases b
      · exact (@decide_eq_false _ (Classical.propDecidable _) (fun q => absurd (hb.2 q.2) Bool.false_ne_true)).symm
      · exact (@decide_eq_true _ (Classical.propDecidable _) ⟨by omega, hb.1 rfl⟩).symm
    · rw [if_neg e, setB_at, setB_at]
      refine decide_eq_decide.2 ?_
      constructor
      · rintro ⟨a, q⟩; exact ⟨by omega, q⟩
      · rintro ⟨a, q⟩; exact ⟨by omega, q⟩
theorem boolsB_congr {n : Nat} {P Q : Nat → Prop} (h : ∀ i, i < n → (P i ↔ Q i)) : boolsB n P = boolsB n Q := by
  apply List.ext_getElem
  · simp
  · intro j h1 h2
    have h3 : j < n := by simpa using h1
    rw [boolsB_at, boolsB_at]
    exact decide_eq_decide.2 (by rw [h j h3])
/-- one more is so -/
theorem boolsB_set {n i : Nat} {P : Nat → Prop} (hi : i < n) : (boolsB n P).set i true = boolsB n (fun j => P j ∨ j = i) := by
  apply List.ext_getElem
  · simp
  · intro j h1 h2
    simp only [List.length_set, boolsB_len] at h1
    rw [List.getElem_set]
    by_cases e : i = j
    · subst e; rw [if_pos rfl, boolsB_at]; exact (@decide_eq_true _ (Classical.propDecidable _) ⟨h1, .inr rfl⟩).symm
    · rw [if_neg e, boolsB_at, boolsB_at]
      exact decide_eq_decide.2 ⟨fun q => ⟨q.1, .inl q.2⟩, fun q => ⟨q.1, q.2.resolve_right fun r => e r.symm⟩⟩
end
section
set_option linter.unusedVariables false
/-- a post hears the tower, or one of the first u posts that are in a set -/
def HearU (d : GuardM) (C : Nat → Prop) (p : PostV) (u : Nat) : Prop := hearsP d d.Tower p.Spot ∨ ∃ (k : Nat) (q : PostV), k < u ∧ C k ∧ d.Posts[k]? = some q ∧ hearsP d q.Spot p.Spot
noncomputable instance (d : GuardM) (C : Nat → Prop) (p : PostV) (u : Nat) : Decidable (HearU d C p u) := Classical.propDecidable _
section
variable {d : GuardM} {C M : Nat → Prop} {p q : PostV} {u i : Nat}
theorem hu_zero : HearU d C p 0 ↔ hearsP d d.Tower p.Spot := ⟨fun h => h.resolve_right fun ⟨k, _, hk, _⟩ => absurd hk (Nat.not_lt_zero _), .inl⟩
theorem hu_yes (h : HearU d C p u) : HearU d C p (u + 1) := h.elim .inl fun ⟨k, q, hk, h2⟩ => .inr ⟨k, q, by omega, h2⟩
theorem hu_skip (h : ¬ HearU d C p u) (hc : ¬ C u) : ¬ HearU d C p (u + 1) := by
  rintro (h1 | ⟨k, q, hk, hC, hq⟩)
  · exact h (.inl h1)
  · rcases Nat.lt_or_ge k u with c | c
    · exact h (.inr ⟨k, q, c, hC, hq⟩)
    · obtain rfl : k = u := by omega
      exact hc hC
theorem hu_new (h : ¬ HearU d C p u) (hc : C u) (hq : d.Posts[u]? = some q) : HearU d C p (u + 1) ↔ hearsP d q.Spot p.Spot := by
  constructor
  · rintro (h1 | ⟨k, r, hk, hC, hr, hh⟩)
    · exact absurd (.inl h1) h
    · rcases Nat.lt_or_ge k u with c | c
      · exact absurd (.inr ⟨k, r, c, hC, hr, hh⟩) h
      · obtain rfl : k = u := by omega
        rw [hq] at hr; cases hr; exact hh
  · intro hh; exact .inr ⟨u, q, by omega, hc, hq, hh⟩
def SubC (d : GuardM) (M C : Nat → Prop) : Prop := ∀ i, i < d.Posts.length → C i → CallsP d M i
theorem sub_none : SubC d M (fun _ => False) := fun i _ h => h.elim
theorem sub_add (h : SubC d M C) (hm : M i) (hp : d.Posts[i]? = some p) (hh : HearU d C p u) : SubC d M (fun j => C j ∨ j = i) := by
  rintro j hj (hc | rfl)
  · exact h j hj hc
  · rcases hh with h1 | ⟨k, q, _, hC, hq, h2⟩
    · exact .tower hm hp h1
    · exact .post (h k (List.getElem?_eq_some_iff.1 hq).1 hC) hq hm hp h2
/-- nobody is added among the first i posts -/
def ClosedTo (d : GuardM) (M C : Nat → Prop) (i : Nat) : Prop := ∀ (j : Nat) (p : PostV), j < i → M j → ¬ C j → d.Posts[j]? = some p → ¬ HearU d C p d.Posts.length
theorem closed_zero : ClosedTo d M C 0 := fun j p hj => absurd hj (Nat.not_lt_zero _)
theorem closed_skip (h : ClosedTo d M C i) (hc : C i ∨ ¬ M i) : ClosedTo d M C (i + 1) := fun j p hj hm hn hp => by
  rcases Nat.lt_or_ge j i with c | c
  · exact h j p c hm hn hp
  · obtain rfl : j = i := by omega
    rcases hc with hc | hc
    · exact absurd hc hn
    · exact absurd hm hc
theorem closed_no (h : ClosedTo d M C i) (hp : d.Posts[i]? = some p) (hh : ¬ HearU d C p u) (hu : d.Posts.length ≤ u) : ClosedTo d M C (i + 1) := fun j q hj hm hn hq => by
  rcases Nat.lt_or_ge j i with c | c
  · exact h j q c hm hn hq
  · obtain rfl : j = i := by omega
    rw [hp] at hq; cases hq
    rintro (h1 | ⟨k, r, hk, h2⟩)
    · exact hh (.inl h1)
    · exact hh (.inr ⟨k, r, by omega, h2⟩)
theorem closed_all (hs : SubC d M C) (h : ClosedTo d M C i) (hi : d.Posts.length ≤ i) : ∀ j, j < d.Posts.length → (C j ↔ CallsP d M j) := by
  have key : ∀ j, CallsP d M j → C j := by
    intro j hj
    induction hj with
    | @tower j p hm hp hh =>
      have hlt := (List.getElem?_eq_some_iff.1 hp).1
      exact Classical.byContradiction fun q => h j p (by omega) hm q hp (.inl hh)
    | @post k j q p hk hq hm hp hh ih =>
      have hlt := (List.getElem?_eq_some_iff.1 hp).1
      have hlk := (List.getElem?_eq_some_iff.1 hq).1
      exact Classical.byContradiction fun r => h j p (by omega) hm r hp (.inr ⟨k, q, hlk, ih, hq, hh⟩)
  exact fun j hj => ⟨hs j hj, key j⟩
noncomputable def cnt (n : Nat) (C : Nat → Prop) : Nat := (idxL n C).length
theorem cnt_le {n : Nat} : cnt n C ≤ n := idxL_len
theorem cnt_add {n : Nat} (hi : i < n) (hc : ¬ C i) : cnt n (fun j => C j ∨ j = i) = cnt n C + 1 := by
  unfold cnt
  induction n with
  | zero => omega
  | succ n ih =>
    by_cases e : i = n
    · subst e
      rw [idx_len_yes (P := fun j => C j ∨ j = i) (.inr rfl), idx_len_no hc]
      rw [idxL_congr (p := fun j => C j ∨ j = i) (q := C) fun j hj => ⟨fun q => q.resolve_right (by omega), .inl⟩]
    · have ih := ih (by omega)
      by_cases h : C n
      · rw [idx_len_yes (P := fun j => C j ∨ j = i) (.inl h), idx_len_yes h, ih]
      · rw [idx_len_no (P := fun j => C j ∨ j = i) (fun q => q.elim h (fun r => e r.symm)), idx_len_no h, ih]
end
theorem bools_none {n : Nat} : List.replicate n false = boolsB n (fun _ => False) := by
  apply List.ext_getElem
  · simp
  · intro j h1 h2
    rw [boolsB_at]
    simp
section
variable {d : GuardM} {C C2 M : Nat → Prop} {m2 : Bool} {p : PostV} {u i : Nat}
abbrev FixI (d : GuardM) (M C C2 : Nat → Prop) (m2 : Bool) (i : Nat) : Prop := (m2 = false ∧ ClosedTo d M C2 i ∧ cnt d.Posts.length C2 = cnt d.Posts.length C) ∨ (m2 = true ∧ cnt d.Posts.length C < cnt d.Posts.length C2)
theorem fix_skip (h0 : i ≤ d.Posts.length) (h1 : SubC d M C2) (h2 : FixI d M C C2 m2 i) (hi : i < d.Posts.length) (hc : C2 i ∨ ¬ M i) : i + 1 ≤ d.Posts.length ∧ SubC d M C2 ∧ FixI d M C C2 m2 (i + 1) :=
  ⟨hi, h1, h2.elim (fun q => .inl ⟨q.1, closed_skip q.2.1 hc, q.2.2⟩) .inr⟩
theorem fix_no (h0 : i ≤ d.Posts.length) (h1 : SubC d M C2) (h2 : FixI d M C C2 m2 i) (hi : i < d.Posts.length) (hp : d.Posts[i]? = some p) (hh : ¬ HearU d C2 p u) (hu : d.Posts.length ≤ u) : i + 1 ≤ d.Posts.length ∧ SubC d M C2 ∧ FixI d M C C2 m2 (i + 1) :=
  ⟨hi, h1, h2.elim (fun q => .inl ⟨q.1, closed_no q.2.1 hp hh hu, q.2.2⟩) .inr⟩
theorem fix_add (h0 : i ≤ d.Posts.length) (h1 : SubC d M C2) (h2 : FixI d M C C2 m2 i) (hi : i < d.Posts.length) (hc : ¬ C2 i) (hm : M i) (hp : d.Posts[i]? = some p) (hh : HearU d C2 p u) : i + 1 ≤ d.Posts.length ∧ SubC d M (fun j => C2 j ∨ j = i) ∧ FixI d M C (fun j => C2 j ∨ j = i) true (i + 1) := by
  refine ⟨hi, sub_add h1 hm hp hh, .inr ⟨rfl, ?_⟩⟩
  rw [cnt_add hi hc]
  rcases h2 with ⟨_, _, h⟩ | ⟨_, h⟩ <;> omega
end
/-- the places of a row of bools that are true -/
theorem bools_idx {n : Nat} {P : Nat → Prop} : idxL (boolsB n P).length (fun i => (boolsB n P)[i]? = some true) = idxL n P := by
  rw [boolsB_len]
  refine idxL_congr fun i hi => ?_
  have hb : (boolsB n P)[i]? = some ((boolsB n P)[i]'(by rw [boolsB_len]; exact hi)) := List.getElem?_eq_getElem _
  have h2 := boolsB_get hb
  rw [hb]
  constructor
  · intro q; exact h2.1 (Option.some.inj q)
  · intro q; rw [h2.2 q]
end
section
set_option linter.unusedVariables false
def MeetsC (d : GuardM) (k : Int) (C : Nat → Prop) (i : Nat) : Prop := C i ∧ ∃ n, d.Needs[k.toNat]? = some n ∧ fitsP d n i
section
variable {d : GuardM} {k : Int} {C : Nat → Prop} {i : Nat} {n : NeedV} {p : PostV} {l : List Int}
theorem mc_off (h : ¬ C i) : false = true ↔ MeetsC d k C i := ⟨fun q => Bool.noConfusion q, fun q => absurd q.1 h⟩
theorem mc_kind (hn : d.Needs[k.toNat]? = some n) (hp : d.Posts[i]? = some p) (h : ¬ p.Kind = n.Kind) : false = true ↔ MeetsC d k C i := ⟨fun q => Bool.noConfusion q, fun ⟨_, m, hm, q, hq, e, _⟩ => by
  rw [hn] at hm; cases hm
  rw [hp] at hq; cases hq
  exact absurd e h⟩
theorem mc_time (hg : guardE d = 0) (hn : d.Needs[k.toNat]? = some n) (hp : d.Posts[i]? = some p) (hc : C i) (h : p.Kind = n.Kind) : decide (timeV d (i : Int) n.Stretch ≤ n.Seconds) = true ↔ MeetsC d k C i := by
  have hno := (guardE_zero hg).2.need n (List.mem_of_getElem? hn)
  unfold NeedOk at hno
  have hi := (List.getElem?_eq_some_iff.1 hp).1
  rw [(far_in (d := d) (a := (i : Int)) (k := n.Stretch) hg (by omega) (by rw [Int.toNat_natCast]; exact hp)).2.2, decide_eq_true_eq]
  constructor
  · exact fun q => ⟨hc, n, hn, p, hp, h, q⟩
  · rintro ⟨_, m, hm, q, hq, _, ht⟩
    rw [hn] at hm; cases hm
    rw [hp] at hq; cases hq
    exact ht
theorem meets_two (hg : guardE d = 0) (h : ¬ (0 ≤ k ∧ k ≤ (d.Needs.length : Int) - 1) ∨ ¬ EmptyOk d.Posts.length l) : meetsE d k l = 2 ∧ meetsV d k l = [] := by
  have e : meetsE d k l = 2 := by
    by_cases q : EmptyOk d.Posts.length l
    · exact (meetsE_out (manned_in hg q) (h.resolve_right (fun r => r q))).2
    · have hm := manned_out hg q
      exact (meetsE_bad (by rw [hm]; decide)).2.trans hm
  exact ⟨e, meetsV_no (by rw [e]; decide)⟩
theorem meetsC_idx (hm : mannedE d l = 0) (h : 0 ≤ k ∧ k ≤ (d.Needs.length : Int) - 1) : meetsE d k l = 0 ∧ idxL d.Posts.length (MeetsC d k (CallsP d (notIn l))) = meetsV d k l := by
  have hn : d.Needs[k.toNat]? = some (d.Needs[k.toNat]'(by omega)) := List.getElem?_eq_getElem _
  have hi := meetsE_in hm h hn
  refine ⟨hi.1, ?_⟩
  rw [hi.2]
  refine idxL_congr fun i _ => ⟨fun ⟨h1, m, h2, h3⟩ => ?_, fun ⟨h1, h3⟩ => ⟨h1, _, hn, h3⟩⟩
  rw [hn] at h2; cases h2
  exact ⟨h1, h3⟩
end
end
section
open Go.RowKit
set_option linter.unusedVariables false
set_option maxRecDepth 100000 in
set_option maxHeartbeats 400000 in
theorem rmanned_c (d : GuardM) (kA : Option Addr) (kC : Nat) (pA : Option Addr) (pC : Nat) (nA : Option Addr) (nC : Nat) (l : List Int) (lA : Option Addr) (lC : Nat) (hin : GuardIn d) (hll : l.length ≤ 1000000) :
    FnX Try.prog 60 [(Value.agg (GuardV.cells (GuardV.mk (TrackV.mk (Slc.mk kA d.Track.length kC)) (Slc.mk pA d.Posts.length pC) (Slc.mk nA d.Needs.length nC) d.Tower d.Radio)).toArray), (Value.slice lA l.length lC)] [(rd kA d.Track.length 9 (d.Track.map StretchV.cells)), (rd pA d.Posts.length 7 (d.Posts.map PostV.cells)), (rd nA d.Needs.length 3 (d.Needs.map NeedV.cells)), (rd lA l.length 1 (l.map iC))] (fun (x : (Option Addr) × Nat) => (Value.slice x.1 ((boolsB d.Posts.length (notIn l)).length) x.2)) (fun (x : (Option Addr) × Nat) => True) (fun (x : (Option Addr) × Nat) => [(own x.1 x.2 4 1 ((boolsB d.Posts.length (notIn l)).map boolC))]) := by
 have hlen := hin.trk
 have hside := hin.side
 have hpl := hin.pst
 have hnl := hin.nds
 have hnk := hin.nk
 have hpk := hin.pk
 refine fnX_of go60 Try.func60 rfl rfl fun w0 Q hQ hN => ?_
 try dsimp only
 refine WS fun _ hK1 => BXA rfl fun b2 => rS (AG rfl) <| RK hK1 <| WS fun _ hK3 => rS (FA 1 rfl fo32_1 rfl) <| rS (L1 (Value.slice pA d.Posts.length pC) 0 rfl tk25 rfl rfl) <| rS (LN rfl ut25) <| r_mks (n := d.Posts.length) (es := (List.map boolC (List.replicate d.Posts.length false))) rfl rfl rfl ta96 (by omega) (by omega) (by simp only [maxLen]; omega) (by rw [List.map_replicate]; rfl) rfl fun b4 => ?_
 try dsimp only
 refine rS (AG rfl) <| RK hK3 <| w_seq fun _ hK5 => w_seq fun _ hK6 => ?_
 rw [show (own (some ⟨b4, 0, none⟩) d.Posts.length 4 1 (List.map boolC (List.replicate d.Posts.length false))) = (own (some ⟨b4, 0, none⟩) d.Posts.length 4 1 ((setB d.Posts.length 0 (notIn l)).map boolC)) from by rw [setB_zero]]
 refine w_region <| rS (AG rfl) <| RK hK6 <| w_block ?_
 have hinit : (0 ≤ d.Posts.length) := by exact Nat.zero_le _
 refine w_loop (ι := { z : Nat // (z ≤ d.Posts.length) }) (fun z => [(1, (Value.slice lA l.length lC)), (2, (Value.pointer (some ⟨b2, 0, none⟩))), (5, (Value.slice (some ⟨b4, 0, none⟩) d.Posts.length d.Posts.length)), (6, (Value.int .i64 ((z.1 : Nat) : Int)))]) (fun z => [(own (some ⟨b4, 0, none⟩) d.Posts.length 4 1 ((setB d.Posts.length z.1 (notIn l)).map boolC)), (blk b2 32 (GuardV.cells (GuardV.mk (TrackV.mk (Slc.mk kA d.Track.length kC)) (Slc.mk pA d.Posts.length pC) (Slc.mk nA d.Needs.length nC) d.Tower d.Radio))), (rd kA d.Track.length 9 (d.Track.map StretchV.cells)).ro, (rd pA d.Posts.length 7 (d.Posts.map PostV.cells)).ro, (rd nA d.Needs.length 3 (d.Needs.map NeedV.cells)).ro, (rd lA l.length 1 (l.map iC)).ro]) (fun z => d.Posts.length - z.1) ⟨0, hinit⟩ (Sub.cons rfl <| Sub.cons rfl <| Sub.cons rfl <| Sub.cons rfl <| Sub.nil _) (fun w hs => St.sel [0, 1, 2, 3, 4, 5] rfl rfl hs) ?_
 clear hinit
 rintro ⟨i, hl3_0⟩ J7 hJ7
 try dsimp only
 have hsl := setB_len (n := d.Posts.length) (i := i) (P := notIn l)
 refine w_seq fun _ hK8 => WS fun _ hK9 => rS (MV rfl) <| rS (MV rfl) <| rS (LN rfl ut96) <| rS (BI rfl b_lss) <| RK hK9 ?_
 refine w_if rfl (fun h10 => ?_) (fun h10 => ?_)
 rotate_left 1
 · replace h10 := DF h10
   refine w_exit <| k_exit_then <| k_exit_then <| k_exit_same <| KK hK5 <| WS fun _ hK16 => ?_
   rw [show setB d.Posts.length i (notIn l) = boolsB d.Posts.length (notIn l) from by rw [show i = d.Posts.length by omega]; rfl]
   refine rS (MV rfl) <| rS (AG rfl) <| RK hK16 <| w_ret ?_
   refine hQ _ _ _ (l_nil (vs := [(Value.slice (some ⟨b4, 0, none⟩) d.Posts.length d.Posts.length)]) ⟨rfl, trivial⟩ fun w hs => endX ((some ⟨b4, 0, none⟩), d.Posts.length) [0] ?_ ?_ rfl rfl rfl hs)
   · (rw [boolsB_len] <;> rfl)
   · trivial
 replace h10 := DT h10
 refine WK hK8 <| w_seq fun _ hK11 => w_block <| w_region <| rS (MV rfl) <| rS (MV rfl) <| rS (MV rfl) <| rS (MV rfl) <| rS (CL (rhas_c l lA lC ((i : Nat) : Int) (by omega)) (ha_at 5 rfl rfl <| ha_nil) rfl) <| rS (NT rfl) ?_
 obtain ⟨x12, hx13⟩ : ∃ y_, (setB d.Posts.length i (notIn l))[i]? = some y_ := ⟨(setB d.Posts.length i (notIn l))[i]'(by omega), List.getElem?_eq_getElem _⟩
 have hx13m : ((setB d.Posts.length i (notIn l)).map boolC)[i]? = some (boolC x12) := by rw [List.getElem?_map, hx13]; rfl
 refine rS (IA i rfl (has_own_n (n := d.Posts.length) 0 rfl (by first | (simp; done) | (simp; omega))) te96 (by decide) (by omega) (by omega)) ?_
 have hb14 : ((setB d.Posts.length i (notIn l)).set i (!(decide (((i : Nat) : Int) ∈ l)))) = (setB d.Posts.length (i + 1) (notIn l)) := by exact setB_set (by omega) (by simp [notIn])
 refine r_store_own (k := i) (o := 0) (vs := [(Value.bool (!(decide (((i : Nat) : Int) ∈ l))))]) (es' := (List.map boolC (setB d.Posts.length (i + 1) (notIn l)))) (C' := [(own (some ⟨b4, 0, none⟩) d.Posts.length 4 1 (List.map boolC (setB d.Posts.length (i + 1) (notIn l)))), _, _, _, _, _]) 0 rfl rfl rfl ts4 rfl rfl rfl rfl hx13m rfl (by decide) (by exact (List.map_set (f := boolC) (l := (setB d.Posts.length i (notIn l))) (i := i) (a := (!(decide (((i : Nat) : Int) ∈ l))))).symm.trans (congrArg _ hb14)) rfl <| r_nil <| k_block <| KK hK11 <| w_region <| rS (MV rfl) <| rS (BI rfl (b_add ⟨by omega, by omega⟩)) <| rS (AG rfl) <| r_nil ?_
 have hb15 : (Value.int .i64 (((i + 1) : Nat) : Int)) = (Value.int .i64 (((i : Nat) : Int) + 1)) := by exact congrArg (Value.int .i64) (by omega)
 refine k_then (hJ7 ⟨(i + 1), (by first | omega | (simp only []; omega))⟩ _ _ _ rfl (by first | omega | (simp; omega)) (Sub.cons rfl <| Sub.cons rfl <| Sub.cons rfl <| sub_val rfl hb15 <| Sub.nil _) (fun w hs => St.sel [0, 1, 2, 3, 4, 5] rfl rfl hs))
set_option maxRecDepth 100000 in
set_option maxHeartbeats 400000 in
theorem rlist_c (bs : List Bool) (bsA : Option Addr) (bsC : Nat) (hlen : bs.length ≤ 1000000) :
    FnX Try.prog 58 [(Value.slice bsA bs.length bsC)] [(rd bsA bs.length 1 (bs.map boolC))] (fun (x : (Option Addr) × Nat) => (Value.slice x.1 ((idxL bs.length (fun i => bs[i]? = some true)).length) x.2)) (fun (x : (Option Addr) × Nat) => True) (fun (x : (Option Addr) × Nat) => [(own x.1 x.2 3 1 ((idxL bs.length (fun i => bs[i]? = some true)).map iC))]) := by
 refine fnX_of go58 Try.func58 rfl rfl fun w0 Q hQ hN => ?_
 try dsimp only
 refine WS fun _ hK1 => rS (AG rfl) <| RK hK1 <| WS fun _ hK2 => rS (AG rfl) <| RK hK2 <| w_seq fun _ hK3 => WS fun _ hK4 => rS (AG rfl) <| RK hK4 ?_
 refine w_block <| w_own_nil 3 1 ?_
 have hinit : (0 ≤ bs.length) := by exact Nat.zero_le _
 refine w_loop (ι := { z : Nat × (Option Addr) × Nat // (z.1 ≤ bs.length) }) (fun z => [(0, (Value.slice bsA bs.length bsC)), (3, (Value.slice z.1.2.1 ((idxL z.1.1 (fun i => bs[i]? = some true)).length) z.1.2.2)), (4, (Value.int .i64 ((z.1.1 : Nat) : Int)))]) (fun z => [(own z.1.2.1 z.1.2.2 3 1 ((idxL z.1.1 (fun i => bs[i]? = some true)).map iC)), (rd bsA bs.length 1 (bs.map boolC)).ro]) (fun z => bs.length - z.1.1) ⟨(0, none, 0), hinit⟩ (Sub.cons rfl <| Sub.cons rfl <| Sub.cons rfl <| Sub.nil _) (fun w hs => St.sel [0, 1] rfl rfl hs) ?_
 clear hinit
 rintro ⟨⟨j, la, lc⟩, hl3_0⟩ J5 hJ5
 try dsimp only at hl3_0
 try dsimp only
 refine w_seq fun _ hK6 => WS fun _ hK7 => rS (MV rfl) <| rS (MV rfl) <| rS (LN rfl ut96) <| rS (BI rfl b_lss) <| RK hK7 ?_
 refine w_if rfl (fun h8 => ?_) (fun h8 => ?_)
 rotate_left 1
 · replace h8 := DF h8
   refine w_exit <| k_exit_then <| k_exit_then <| k_exit_same <| KK hK3 <| WS fun _ hK16 => ?_
   rw [show idxL j (fun i => bs[i]? = some true) = idxL bs.length (fun i => bs[i]? = some true) from by rw [show j = bs.length by omega]]
   refine rS (MV rfl) <| rS (AG rfl) <| RK hK16 <| w_ret ?_
   refine hQ _ _ _ (l_nil (vs := [(Value.slice la ((idxL bs.length (fun i => bs[i]? = some true)).length) lc)]) ⟨rfl, trivial⟩ fun w hs => endX (la, lc) [0] ?_ ?_ rfl rfl rfl hs)
   · rfl
   · trivial
 replace h8 := DT h8
 refine WK hK6 <| w_seq fun _ hK9 => w_block <| WS fun _ hK10 => rS (MV rfl) <| rS (MV rfl) ?_
 obtain ⟨b, hb⟩ : ∃ y_, bs[j]? = some y_ := ⟨bs[j]'(by omega), List.getElem?_eq_getElem _⟩
 have hbm : (bs.map boolC)[j]? = some (boolC b) := by rw [List.getElem?_map, hb]; rfl
 refine rS (IA j rfl (has_at 1 rfl) te96 (by decide) (by omega) (by omega)) <| rS (LE1 j 0 (Value.bool b) rfl tk4 (has_at 1 rfl) hbm rfl (by decide) rfl) <| RK hK10 ?_
 refine w_if rfl (fun hg14 => ?_) (fun hg14 => ?_)
 rotate_left 1
 · refine w_skip ?_
   refine k_block <| KK hK9 <| w_region <| rS (MV rfl) <| rS (BI rfl (b_add ⟨by omega, by omega⟩)) <| rS (AG rfl) <| r_nil ?_
   rw [show (idxL j (fun i => bs[i]? = some true)) = (idxL (j + 1) (fun i => bs[i]? = some true)) from (idxL_no (fun q => by rw [hb] at q; have q1 := Option.some.inj q; first | exact hg14 q1 | (rw [q1] at hg14; cases hg14))).symm]
   have hb15 : (Value.int .i64 (((j + 1) : Nat) : Int)) = (Value.int .i64 (((j : Nat) : Int) + 1)) := by exact congrArg (Value.int .i64) (by omega)
   refine k_then (hJ5 ⟨((j + 1), la, lc), (by first | omega | (simp only []; omega))⟩ _ _ _ rfl (by first | omega | (simp; omega)) (Sub.cons rfl <| Sub.cons rfl <| sub_val rfl hb15 <| Sub.nil _) (fun w hs => St.sel [0, 1] rfl rfl hs))
 refine w_region <| rS (MV rfl) <| rS (MV rfl) <| r_bs (xs := [.tmp 16]) (cs := [(Value.int .i64 ((j : Nat) : Int))]) rfl te33 tz3 rfl rfl rfl rfl (by simp [Value.cells]) rfl rfl fun b11 => r_append (es2 := (List.map iC (idxL (j + 1) (fun i => bs[i]? = some true)))) (m' := (idxL (j + 1) (fun i => bs[i]? = some true)).length) 1 rfl rfl rfl ta33 rfl rfl (by simp) (has_rd_blk (es := List.map iC [((j : Nat) : Int)]) 0 rfl rfl (by simp [iC_length]) rfl) (one_iC _) (by have := idxL_len (n := j) (p := fun i => bs[i]? = some true); omega) (by have := idxL_len (n := j) (p := fun i => bs[i]? = some true); simp only [maxLen]; omega) (by rw [idxL_yes (p := fun i => bs[i]? = some true) (show bs[j]? = some true from by rw [hb, hg14])]; simp) (by simp) rfl fun a12 c13 => ?_
 try dsimp only
 refine rS (AG rfl) <| r_nil <| k_block <| KK hK9 <| w_region <| rS (MV rfl) <| rS (BI rfl (b_add ⟨by omega, by omega⟩)) <| rS (AG rfl) <| r_nil ?_
 have hb14 : (Value.int .i64 (((j + 1) : Nat) : Int)) = (Value.int .i64 (((j : Nat) : Int) + 1)) := by exact congrArg (Value.int .i64) (by omega)
 refine k_then (hJ5 ⟨((j + 1), a12, c13), (by first | omega | (simp only []; omega))⟩ _ _ _ rfl (by first | omega | (simp; omega)) (Sub.cons rfl <| Sub.cons rfl <| sub_val rfl hb14 <| Sub.nil _) (fun w hs => St.sel [1, 2] rfl rfl hs))
end
section
open Go.RowKit
set_option linter.unusedVariables false
set_option maxRecDepth 100000 in
set_option maxHeartbeats 400000 in
theorem rapart1_c (ts : List StretchV) (tsA : Option Addr) (tsC : Nat) (p : SpotV) (q : SpotV) (hlen : ts.length ≤ 1000000) (hside : ∀ x ∈ ts, 0 ≤ x.Side ∧ x.Side ≤ 255) (hord : ¬ q.Stretch < p.Stretch) :
    FnV Try.prog 115 [(Value.agg (TrackV.cells (TrackV.mk (Slc.mk tsA ts.length tsC))).toArray), (Value.agg (SpotV.cells p).toArray), (Value.agg (SpotV.cells q).toArray)] [(rd tsA ts.length 9 (ts.map StretchV.cells))] (Value.tuple [(Value.agg (SpanV.cells (apartV ts p q)).toArray), (Value.int .i64 (apartE ts p q))].toArray) := by
 refine fnV_of go115 Try.func115 rfl rfl fun w0 Q hQ hN => ?_
 try dsimp only
 refine WS fun _ hK1 => BXA rfl fun b2 => BXA rfl fun b3 => BXA rfl fun b4 => AL rfl tz28 fun b5 => rS (AG rfl) <| RK hK1 <| w_seq fun _ hK6 => WS fun _ hK7 => rS (LW 3 rfl tk24 rfl rfl) ?_
 refine rS (CL (track_c ts tsA tsC hlen) (ha_at 4 rfl rfl <| ha_nil) rfl) <| rS (NT rfl) <| RK hK7 ?_
 refine w_if rfl (fun h14 => ?_) (fun h14 => ?_)
 · rw [Bool.not_eq_true'] at h14
   refine WS fun _ hK8 => rS (SX (sd_build (xs := []) (cs := (SpanV.cells (SpanV.mk 0 0))) rfl rfl (built_of tb28 rfl)) rfl rfl) <| SW0 rfl ts28 rfl <| rS (AG rfl) <| RK hK8 <| w_ret ?_
   refine hQ _ _ _ (l_nil (vs := [(Value.agg (SpanV.cells (SpanV.mk 0 0)).toArray), (Value.int .i64 10)]) ⟨⟨_, rfl, .inl ⟨_, _, tk28, at_blk (vs := (SpanV.cells (SpanV.mk 0 0))) 0 rfl rfl, rfl, rfl⟩⟩, rfl, trivial⟩ fun w hs => endV ?_ hs)
   show (Value.tuple [(Value.agg (SpanV.cells (SpanV.mk 0 0)).toArray), (Value.int .i64 10)].toArray) = (Value.tuple [(Value.agg (SpanV.cells (apartV ts p q)).toArray), (Value.int .i64 (apartE ts p q))].toArray)
   clear hs w hQ hN hK8 hK7 hK6 hK1
   first | (have e := apart_bad (a := p) (b := q) (by simpa using h14); rw [e.1, e.2] <;> rfl) | (have e := apart_in h14 hq1; rw [e.1, e.2, apart_straight h31] <;> rfl) | (have e := apart_in h14 hq1; have e2 := apart_in h14 ⟨h25, h20⟩; rw [e.1, e.2, e2.2, apart_swap h31] <;> rfl) | (have e := apart_out (a := p) (b := q) h14 (fun h => by first | exact h20 h.1 | exact h25 h.2); rw [e.1, e.2] <;> rfl)
 rw [Bool.not_eq_false'] at h14
 refine WK hK6 <| w_seq fun _ hK9 => WS fun _ hK10 => ?_
 have hst := trackOk_all h14
 have hl12 := trackOk_le h14
 refine rS (LW 3 rfl tk24 rfl rfl) <| rS (LW 2 rfl tk30 rfl rfl) <| rS (CL (rspot_c ts tsA tsC p (by first | assumption | omega | (simp; done) | (simp; omega)) (by first | assumption | omega | (simp; done) | (simp; omega))) (ha_at 4 rfl rfl <| ha_nil) rfl) <| rS (NT rfl) <| rS (MV rfl) ?_
 refine r_bool (t := 20) rfl (fun h20 => ?_) (fun h20 => ?_)
 · replace h20 := XT h20
   refine rS (OX rfl) <| rS (OX rfl) <| rS (OX rfl) <| rS (OX rfl) <| rS (PK rfl) <| RK hK10 <| w_if_true rfl <| WS fun _ hK11 => rS (SX (sd_build (xs := []) (cs := (SpanV.cells (SpanV.mk 0 0))) rfl rfl (built_of tb28 rfl)) rfl rfl) <| SW0 rfl ts28 rfl ?_
   refine rS (AG rfl) <| RK hK11 <| w_ret ?_
   refine hQ _ _ _ (l_nil (vs := [(Value.agg (SpanV.cells (SpanV.mk 0 0)).toArray), (Value.int .i64 12)]) ⟨⟨_, rfl, .inl ⟨_, _, tk28, at_blk (vs := (SpanV.cells (SpanV.mk 0 0))) 0 rfl rfl, rfl, rfl⟩⟩, rfl, trivial⟩ fun w hs => endV ?_ hs)
   show (Value.tuple [(Value.agg (SpanV.cells (SpanV.mk 0 0)).toArray), (Value.int .i64 12)].toArray) = (Value.tuple [(Value.agg (SpanV.cells (apartV ts p q)).toArray), (Value.int .i64 (apartE ts p q))].toArray)
   clear hs w hQ hN hK11 hK10 hK9 hK7 hK6 hK1
   first | (have e := apart_bad (a := p) (b := q) (by simpa using h14); rw [e.1, e.2] <;> rfl) | (have e := apart_in h14 hq1; rw [e.1, e.2, apart_straight h31] <;> rfl) | (have e := apart_in h14 hq1; have e2 := apart_in h14 ⟨h25, h20⟩; rw [e.1, e.2, e2.2, apart_swap h31] <;> rfl) | (have e := apart_out (a := p) (b := q) h14 (fun h => by first | exact h20 h.1 | exact h25 h.2); rw [e.1, e.2] <;> rfl)
 replace h20 := XF h20
 refine rS (LW 3 rfl tk24 rfl rfl) <| rS (LW 1 rfl tk30 rfl rfl) <| rS (CL (rspot_c ts tsA tsC q (by first | assumption | omega | (simp; done) | (simp; omega)) (by first | assumption | omega | (simp; done) | (simp; omega))) (ha_at 4 rfl rfl <| ha_nil) rfl) <| rS (NT rfl) <| rS (PK rfl) <| RK hK10 ?_
 refine w_if rfl (fun h25 => ?_) (fun h25 => ?_)
 · replace h25 := XT h25
   refine WS fun _ hK12 => rS (SX (sd_build (xs := []) (cs := (SpanV.cells (SpanV.mk 0 0))) rfl rfl (built_of tb28 rfl)) rfl rfl) <| SW0 rfl ts28 rfl <| rS (AG rfl) <| RK hK12 <| w_ret ?_
   refine hQ _ _ _ (l_nil (vs := [(Value.agg (SpanV.cells (SpanV.mk 0 0)).toArray), (Value.int .i64 12)]) ⟨⟨_, rfl, .inl ⟨_, _, tk28, at_blk (vs := (SpanV.cells (SpanV.mk 0 0))) 0 rfl rfl, rfl, rfl⟩⟩, rfl, trivial⟩ fun w hs => endV ?_ hs)
   show (Value.tuple [(Value.agg (SpanV.cells (SpanV.mk 0 0)).toArray), (Value.int .i64 12)].toArray) = (Value.tuple [(Value.agg (SpanV.cells (apartV ts p q)).toArray), (Value.int .i64 (apartE ts p q))].toArray)
   clear hs w hQ hN hK12 hK10 hK9 hK7 hK6 hK1
   first | (have e := apart_bad (a := p) (b := q) (by simpa using h14); rw [e.1, e.2] <;> rfl) | (have e := apart_in h14 hq1; rw [e.1, e.2, apart_straight h31] <;> rfl) | (have e := apart_in h14 hq1; have e2 := apart_in h14 ⟨h25, h20⟩; rw [e.1, e.2, e2.2, apart_swap h31] <;> rfl) | (have e := apart_out (a := p) (b := q) h14 (fun h => by first | exact h20 h.1 | exact h25 h.2); rw [e.1, e.2] <;> rfl)
 replace h25 := XF h25
 refine WK hK9 <| w_seq fun _ hK13 => WS fun _ hK14 => ?_
 have hq1 : SpotOk ts p ∧ SpotOk ts q := ⟨h20, h25⟩
 have hpo := off_in hst h20
 have hqo := off_in hst h25
 have hpb := h20.1
 have hqb := h25.1
 have hab := apartF_b hst hl12 h25 h20
 unfold In12 at hpo hqo
 refine rS (FA 0 rfl fo30_0 rfl) <| rS (L1 (Value.int .i64 q.Stretch) 1 rfl tk3 rfl rfl) <| rS (FA 0 rfl fo30_0 rfl) <| rS (L1 (Value.int .i64 p.Stretch) 2 rfl tk3 rfl rfl) <| rS (BI rfl b_lss) <| RK hK14 ?_
 refine w_if rfl (fun h31 => ?_) (fun h31 => ?_)
 · replace h31 := DT h31
   exfalso; omega
 replace h31 := DF h31
 refine WK hK13 <| WS fun _ hK15 => rS (LW 3 rfl tk24 rfl rfl) <| rS (FA 0 rfl fo30_0 rfl) ?_
 have hlb := longF_b hst p.Stretch.toNat (q.Stretch - p.Stretch).toNat
 refine rS (L1 (Value.int .i64 p.Stretch) 2 rfl tk3 rfl rfl) <| rS (FA 0 rfl fo30_0 rfl) <| rS (L1 (Value.int .i64 q.Stretch) 1 rfl tk3 rfl rfl) <| rS (CL (rdrop_c ts tsA tsC p.Stretch q.Stretch (by first | assumption | omega | (simp; done) | (simp; omega)) (by first | assumption | omega | (simp; done) | (simp; omega)) (by omega)) (ha_at 4 rfl rfl <| ha_nil) rfl) <| rS (MV rfl) <| rS (EX rfl) <| rS (EX rfl) <| AL rfl tz28 fun b16 => AL rfl tz28 fun b17 => SW1 rfl ts28 rfl ?_
 refine SW0 rfl ts28 rfl <| RK hK15 <| WS fun _ hK18 => rS (FA 0 rfl fo28_0 rfl) <| rS (L1 (Value.int .i64 ((longF ts p.Stretch.toNat (q.Stretch - p.Stretch).toNat).Lo)) 1 rfl tk3 rfl rfl) <| rS (FA 1 rfl fo30_1 rfl) <| rS (FA 1 rfl fo28_0 rfl) <| rS (L1 (Value.int .i64 q.Off.Lo) 3 rfl tk3 rfl rfl) <| rS (BI rfl (b_add ⟨by omega, by omega⟩)) <| rS (FA 1 rfl fo30_1 rfl) ?_
 refine rS (FA 2 rfl fo28_1 rfl) <| rS (L1 (Value.int .i64 p.Off.Hi) 4 rfl tk3 rfl rfl) <| rS (BI rfl (b_sub ⟨by omega, by omega⟩)) <| rS (FA 1 rfl fo28_1 rfl) <| rS (L1 (Value.int .i64 ((longF ts p.Stretch.toNat (q.Stretch - p.Stretch).toNat).Hi)) 1 rfl tk3 rfl rfl) <| rS (FA 1 rfl fo30_1 rfl) <| rS (FA 2 rfl fo28_1 rfl) <| rS (L1 (Value.int .i64 q.Off.Hi) 3 rfl tk3 rfl rfl) <| rS (BI rfl (b_add ⟨by omega, by omega⟩)) <| rS (FA 1 rfl fo30_1 rfl) ?_
 refine rS (FA 1 rfl fo28_0 rfl) <| rS (L1 (Value.int .i64 p.Off.Lo) 4 rfl tk3 rfl rfl) <| rS (BI rfl (b_sub ⟨by omega, by omega⟩)) <| rS (SX (sd_build (xs := [(0, .tmp 64), (1, .tmp 74)]) (cs := (SpanV.cells (SpanV.mk ((((longF ts p.Stretch.toNat (q.Stretch - p.Stretch).toNat).Lo) + q.Off.Lo) - p.Off.Hi) ((((longF ts p.Stretch.toNat (q.Stretch - p.Stretch).toNat).Hi) + q.Off.Hi) - p.Off.Lo)))) rfl rfl (built_of tb28 rfl)) rfl rfl) <| SW2 rfl ts28 rfl <| rS (AG rfl) <| RK hK18 <| w_ret ?_
 refine hQ _ _ _ (l_nil (vs := [(Value.agg (SpanV.cells (SpanV.mk ((((longF ts p.Stretch.toNat (q.Stretch - p.Stretch).toNat).Lo) + q.Off.Lo) - p.Off.Hi) ((((longF ts p.Stretch.toNat (q.Stretch - p.Stretch).toNat).Hi) + q.Off.Hi) - p.Off.Lo))).toArray), (Value.int .i64 0)]) ⟨⟨_, rfl, .inl ⟨_, _, tk28, at_blk (vs := (SpanV.cells (SpanV.mk ((((longF ts p.Stretch.toNat (q.Stretch - p.Stretch).toNat).Lo) + q.Off.Lo) - p.Off.Hi) ((((longF ts p.Stretch.toNat (q.Stretch - p.Stretch).toNat).Hi) + q.Off.Hi) - p.Off.Lo)))) 2 rfl rfl, rfl, rfl⟩⟩, rfl, trivial⟩ fun w hs => endV ?_ hs)
 show (Value.tuple [(Value.agg (SpanV.cells (SpanV.mk ((((longF ts p.Stretch.toNat (q.Stretch - p.Stretch).toNat).Lo) + q.Off.Lo) - p.Off.Hi) ((((longF ts p.Stretch.toNat (q.Stretch - p.Stretch).toNat).Hi) + q.Off.Hi) - p.Off.Lo))).toArray), (Value.int .i64 0)].toArray) = (Value.tuple [(Value.agg (SpanV.cells (apartV ts p q)).toArray), (Value.int .i64 (apartE ts p q))].toArray)
 clear hs w hQ hN hK18 hK15 hK14 hK13 hK10 hK9 hK7 hK6 hK1
 first | (have e := apart_bad (a := p) (b := q) (by simpa using h14); rw [e.1, e.2] <;> rfl) | (have e := apart_in h14 hq1; rw [e.1, e.2, apart_straight h31] <;> rfl) | (have e := apart_in h14 hq1; have e2 := apart_in h14 ⟨h25, h20⟩; rw [e.1, e.2, e2.2, apart_swap h31] <;> rfl) | (have e := apart_out (a := p) (b := q) h14 (fun h => by first | exact h20 h.1 | exact h25 h.2); rw [e.1, e.2] <;> rfl)
set_option maxRecDepth 100000 in
set_option maxHeartbeats 400000 in
theorem rapart_c (ts : List StretchV) (tsA : Option Addr) (tsC : Nat) (p : SpotV) (q : SpotV) (hlen : ts.length ≤ 1000000) (hside : ∀ x ∈ ts, 0 ≤ x.Side ∧ x.Side ≤ 255) :
    FnV Try.prog 115 [(Value.agg (TrackV.cells (TrackV.mk (Slc.mk tsA ts.length tsC))).toArray), (Value.agg (SpotV.cells p).toArray), (Value.agg (SpotV.cells q).toArray)] [(rd tsA ts.length 9 (ts.map StretchV.cells))] (Value.tuple [(Value.agg (SpanV.cells (apartV ts p q)).toArray), (Value.int .i64 (apartE ts p q))].toArray) := by
 refine fnV_of go115 Try.func115 rfl rfl fun w0 Q hQ hN => ?_
 try dsimp only
 refine WS fun _ hK1 => BXA rfl fun b2 => BXA rfl fun b3 => BXA rfl fun b4 => AL rfl tz28 fun b5 => rS (AG rfl) <| RK hK1 <| w_seq fun _ hK6 => WS fun _ hK7 => rS (LW 3 rfl tk24 rfl rfl) ?_
 refine rS (CL (track_c ts tsA tsC hlen) (ha_at 4 rfl rfl <| ha_nil) rfl) <| rS (NT rfl) <| RK hK7 ?_
 refine w_if rfl (fun h14 => ?_) (fun h14 => ?_)
 · rw [Bool.not_eq_true'] at h14
   refine WS fun _ hK8 => rS (SX (sd_build (xs := []) (cs := (SpanV.cells (SpanV.mk 0 0))) rfl rfl (built_of tb28 rfl)) rfl rfl) <| SW0 rfl ts28 rfl <| rS (AG rfl) <| RK hK8 <| w_ret ?_
   refine hQ _ _ _ (l_nil (vs := [(Value.agg (SpanV.cells (SpanV.mk 0 0)).toArray), (Value.int .i64 10)]) ⟨⟨_, rfl, .inl ⟨_, _, tk28, at_blk (vs := (SpanV.cells (SpanV.mk 0 0))) 0 rfl rfl, rfl, rfl⟩⟩, rfl, trivial⟩ fun w hs => endV ?_ hs)
   show (Value.tuple [(Value.agg (SpanV.cells (SpanV.mk 0 0)).toArray), (Value.int .i64 10)].toArray) = (Value.tuple [(Value.agg (SpanV.cells (apartV ts p q)).toArray), (Value.int .i64 (apartE ts p q))].toArray)
   clear hs w hQ hN hK8 hK7 hK6 hK1
   first | (have e := apart_bad (a := p) (b := q) (by simpa using h14); rw [e.1, e.2] <;> rfl) | (have e := apart_in h14 hq1; rw [e.1, e.2, apart_straight h31] <;> rfl) | (have e := apart_in h14 hq1; have e2 := apart_in h14 ⟨h25, h20⟩; rw [e.1, e.2, e2.2, apart_swap h31] <;> rfl) | (have e := apart_out (a := p) (b := q) h14 (fun h => by first | exact h20 h.1 | exact h25 h.2); rw [e.1, e.2] <;> rfl)
 rw [Bool.not_eq_false'] at h14
 refine WK hK6 <| w_seq fun _ hK9 => WS fun _ hK10 => ?_
 have hst := trackOk_all h14
 have hl12 := trackOk_le h14
 refine rS (LW 3 rfl tk24 rfl rfl) <| rS (LW 2 rfl tk30 rfl rfl) <| rS (CL (rspot_c ts tsA tsC p (by first | assumption | omega | (simp; done) | (simp; omega)) (by first | assumption | omega | (simp; done) | (simp; omega))) (ha_at 4 rfl rfl <| ha_nil) rfl) <| rS (NT rfl) <| rS (MV rfl) ?_
 refine r_bool (t := 20) rfl (fun h20 => ?_) (fun h20 => ?_)
 · replace h20 := XT h20
   refine rS (OX rfl) <| rS (OX rfl) <| rS (OX rfl) <| rS (OX rfl) <| rS (PK rfl) <| RK hK10 <| w_if_true rfl <| WS fun _ hK11 => rS (SX (sd_build (xs := []) (cs := (SpanV.cells (SpanV.mk 0 0))) rfl rfl (built_of tb28 rfl)) rfl rfl) <| SW0 rfl ts28 rfl ?_
   refine rS (AG rfl) <| RK hK11 <| w_ret ?_
   refine hQ _ _ _ (l_nil (vs := [(Value.agg (SpanV.cells (SpanV.mk 0 0)).toArray), (Value.int .i64 12)]) ⟨⟨_, rfl, .inl ⟨_, _, tk28, at_blk (vs := (SpanV.cells (SpanV.mk 0 0))) 0 rfl rfl, rfl, rfl⟩⟩, rfl, trivial⟩ fun w hs => endV ?_ hs)
   show (Value.tuple [(Value.agg (SpanV.cells (SpanV.mk 0 0)).toArray), (Value.int .i64 12)].toArray) = (Value.tuple [(Value.agg (SpanV.cells (apartV ts p q)).toArray), (Value.int .i64 (apartE ts p q))].toArray)
   clear hs w hQ hN hK11 hK10 hK9 hK7 hK6 hK1
   first | (have e := apart_bad (a := p) (b := q) (by simpa using h14); rw [e.1, e.2] <;> rfl) | (have e := apart_in h14 hq1; rw [e.1, e.2, apart_straight h31] <;> rfl) | (have e := apart_in h14 hq1; have e2 := apart_in h14 ⟨h25, h20⟩; rw [e.1, e.2, e2.2, apart_swap h31] <;> rfl) | (have e := apart_out (a := p) (b := q) h14 (fun h => by first | exact h20 h.1 | exact h25 h.2); rw [e.1, e.2] <;> rfl)
 replace h20 := XF h20
 refine rS (LW 3 rfl tk24 rfl rfl) <| rS (LW 1 rfl tk30 rfl rfl) <| rS (CL (rspot_c ts tsA tsC q (by first | assumption | omega | (simp; done) | (simp; omega)) (by first | assumption | omega | (simp; done) | (simp; omega))) (ha_at 4 rfl rfl <| ha_nil) rfl) <| rS (NT rfl) <| rS (PK rfl) <| RK hK10 ?_
 refine w_if rfl (fun h25 => ?_) (fun h25 => ?_)
 · replace h25 := XT h25
   refine WS fun _ hK12 => rS (SX (sd_build (xs := []) (cs := (SpanV.cells (SpanV.mk 0 0))) rfl rfl (built_of tb28 rfl)) rfl rfl) <| SW0 rfl ts28 rfl <| rS (AG rfl) <| RK hK12 <| w_ret ?_
   refine hQ _ _ _ (l_nil (vs := [(Value.agg (SpanV.cells (SpanV.mk 0 0)).toArray), (Value.int .i64 12)]) ⟨⟨_, rfl, .inl ⟨_, _, tk28, at_blk (vs := (SpanV.cells (SpanV.mk 0 0))) 0 rfl rfl, rfl, rfl⟩⟩, rfl, trivial⟩ fun w hs => endV ?_ hs)
   show (Value.tuple [(Value.agg (SpanV.cells (SpanV.mk 0 0)).toArray), (Value.int .i64 12)].toArray) = (Value.tuple [(Value.agg (SpanV.cells (apartV ts p q)).toArray), (Value.int .i64 (apartE ts p q))].toArray)
   clear hs w hQ hN hK12 hK10 hK9 hK7 hK6 hK1
   first | (have e := apart_bad (a := p) (b := q) (by simpa using h14); rw [e.1, e.2] <;> rfl) | (have e := apart_in h14 hq1; rw [e.1, e.2, apart_straight h31] <;> rfl) | (have e := apart_in h14 hq1; have e2 := apart_in h14 ⟨h25, h20⟩; rw [e.1, e.2, e2.2, apart_swap h31] <;> rfl) | (have e := apart_out (a := p) (b := q) h14 (fun h => by first | exact h20 h.1 | exact h25 h.2); rw [e.1, e.2] <;> rfl)
 replace h25 := XF h25
 refine WK hK9 <| w_seq fun _ hK13 => WS fun _ hK14 => ?_
 have hq1 : SpotOk ts p ∧ SpotOk ts q := ⟨h20, h25⟩
 have hpo := off_in hst h20
 have hqo := off_in hst h25
 have hpb := h20.1
 have hqb := h25.1
 have hab := apartF_b hst hl12 h25 h20
 unfold In12 at hpo hqo
 refine rS (FA 0 rfl fo30_0 rfl) <| rS (L1 (Value.int .i64 q.Stretch) 1 rfl tk3 rfl rfl) <| rS (FA 0 rfl fo30_0 rfl) <| rS (L1 (Value.int .i64 p.Stretch) 2 rfl tk3 rfl rfl) <| rS (BI rfl b_lss) <| RK hK14 ?_
 refine w_if rfl (fun h31 => ?_) (fun h31 => ?_)
 · replace h31 := DT h31
   refine WS fun _ hK15 => rS (LW 3 rfl tk24 rfl rfl) <| rS (LW 1 rfl tk30 rfl rfl) <| rS (LW 2 rfl tk30 rfl rfl) <| rS (CL (rapart1_c ts tsA tsC q p hlen hside (by first | assumption | omega | (simp; done) | (simp; omega))) (ha_at 4 rfl rfl <| ha_nil) rfl) <| rS (MV rfl) <| rS (EX rfl) <| rS (EX rfl) <| AL rfl tz28 fun b16 => SW0 rfl ts28 rfl ?_
   refine rS (AG rfl) <| RK hK15 <| WS fun _ hK17 => rS (FA 1 rfl fo28_1 rfl) <| rS (L1 (Value.int .i64 ((apartV ts q p).Hi)) 0 rfl tk3 rfl rfl) ?_
   have hav : apartV ts q p = apartF ts q p := (apart_in h14 ⟨h25, h20⟩).2
   have hav1 : -400000 ≤ (apartV ts q p).Lo ∧ (apartV ts q p).Hi ≤ 400000 := by rw [hav]; omega
   have hav2 : (apartV ts q p).Lo ≤ (apartV ts q p).Hi := by rw [hav]; omega
   refine rS (NG rfl ⟨by omega, by omega⟩) <| rS (FA 0 rfl fo28_0 rfl) <| rS (L1 (Value.int .i64 ((apartV ts q p).Lo)) 0 rfl tk3 rfl rfl) <| rS (NG rfl ⟨by omega, by omega⟩) <| rS (SX (sd_build (xs := [(0, .tmp 41), (1, .tmp 44)]) (cs := (SpanV.cells (SpanV.mk (-((apartV ts q p).Hi)) (-((apartV ts q p).Lo))))) rfl rfl (built_of tb28 rfl)) rfl rfl) <| SW1 rfl ts28 rfl <| rS (AG rfl) <| RK hK17 <| w_ret ?_
   refine hQ _ _ _ (l_nil (vs := [(Value.agg (SpanV.cells (SpanV.mk (-((apartV ts q p).Hi)) (-((apartV ts q p).Lo)))).toArray), (Value.int .i64 0)]) ⟨⟨_, rfl, .inl ⟨_, _, tk28, at_blk (vs := (SpanV.cells (SpanV.mk (-((apartV ts q p).Hi)) (-((apartV ts q p).Lo))))) 1 rfl rfl, rfl, rfl⟩⟩, rfl, trivial⟩ fun w hs => endV ?_ hs)
   show (Value.tuple [(Value.agg (SpanV.cells (SpanV.mk (-((apartV ts q p).Hi)) (-((apartV ts q p).Lo)))).toArray), (Value.int .i64 0)].toArray) = (Value.tuple [(Value.agg (SpanV.cells (apartV ts p q)).toArray), (Value.int .i64 (apartE ts p q))].toArray)
   clear hs w hQ hN hK17 hK15 hK14 hK13 hK10 hK9 hK7 hK6 hK1
   first | (have e := apart_bad (a := p) (b := q) (by simpa using h14); rw [e.1, e.2] <;> rfl) | (have e := apart_in h14 hq1; rw [e.1, e.2, apart_straight h31] <;> rfl) | (have e := apart_in h14 hq1; have e2 := apart_in h14 ⟨h25, h20⟩; rw [e.1, e.2, e2.2, apart_swap h31] <;> rfl) | (have e := apart_out (a := p) (b := q) h14 (fun h => by first | exact h20 h.1 | exact h25 h.2); rw [e.1, e.2] <;> rfl)
 replace h31 := DF h31
 refine WK hK13 <| WS fun _ hK18 => rS (LW 3 rfl tk24 rfl rfl) <| rS (FA 0 rfl fo30_0 rfl) ?_
 have hlb := longF_b hst p.Stretch.toNat (q.Stretch - p.Stretch).toNat
 refine rS (L1 (Value.int .i64 p.Stretch) 2 rfl tk3 rfl rfl) <| rS (FA 0 rfl fo30_0 rfl) <| rS (L1 (Value.int .i64 q.Stretch) 1 rfl tk3 rfl rfl) <| rS (CL (rdrop_c ts tsA tsC p.Stretch q.Stretch (by first | assumption | omega | (simp; done) | (simp; omega)) (by first | assumption | omega | (simp; done) | (simp; omega)) (by omega)) (ha_at 4 rfl rfl <| ha_nil) rfl) <| rS (MV rfl) <| rS (EX rfl) <| rS (EX rfl) <| AL rfl tz28 fun b19 => AL rfl tz28 fun b20 => SW1 rfl ts28 rfl ?_
 refine SW0 rfl ts28 rfl <| RK hK18 <| WS fun _ hK21 => rS (FA 0 rfl fo28_0 rfl) <| rS (L1 (Value.int .i64 ((longF ts p.Stretch.toNat (q.Stretch - p.Stretch).toNat).Lo)) 1 rfl tk3 rfl rfl) <| rS (FA 1 rfl fo30_1 rfl) <| rS (FA 1 rfl fo28_0 rfl) <| rS (L1 (Value.int .i64 q.Off.Lo) 3 rfl tk3 rfl rfl) <| rS (BI rfl (b_add ⟨by omega, by omega⟩)) <| rS (FA 1 rfl fo30_1 rfl) ?_
 refine rS (FA 2 rfl fo28_1 rfl) <| rS (L1 (Value.int .i64 p.Off.Hi) 4 rfl tk3 rfl rfl) <| rS (BI rfl (b_sub ⟨by omega, by omega⟩)) <| rS (FA 1 rfl fo28_1 rfl) <| rS (L1 (Value.int .i64 ((longF ts p.Stretch.toNat (q.Stretch - p.Stretch).toNat).Hi)) 1 rfl tk3 rfl rfl) <| rS (FA 1 rfl fo30_1 rfl) <| rS (FA 2 rfl fo28_1 rfl) <| rS (L1 (Value.int .i64 q.Off.Hi) 3 rfl tk3 rfl rfl) <| rS (BI rfl (b_add ⟨by omega, by omega⟩)) <| rS (FA 1 rfl fo30_1 rfl) ?_
 refine rS (FA 1 rfl fo28_0 rfl) <| rS (L1 (Value.int .i64 p.Off.Lo) 4 rfl tk3 rfl rfl) <| rS (BI rfl (b_sub ⟨by omega, by omega⟩)) <| rS (SX (sd_build (xs := [(0, .tmp 64), (1, .tmp 74)]) (cs := (SpanV.cells (SpanV.mk ((((longF ts p.Stretch.toNat (q.Stretch - p.Stretch).toNat).Lo) + q.Off.Lo) - p.Off.Hi) ((((longF ts p.Stretch.toNat (q.Stretch - p.Stretch).toNat).Hi) + q.Off.Hi) - p.Off.Lo)))) rfl rfl (built_of tb28 rfl)) rfl rfl) <| SW2 rfl ts28 rfl <| rS (AG rfl) <| RK hK21 <| w_ret ?_
 refine hQ _ _ _ (l_nil (vs := [(Value.agg (SpanV.cells (SpanV.mk ((((longF ts p.Stretch.toNat (q.Stretch - p.Stretch).toNat).Lo) + q.Off.Lo) - p.Off.Hi) ((((longF ts p.Stretch.toNat (q.Stretch - p.Stretch).toNat).Hi) + q.Off.Hi) - p.Off.Lo))).toArray), (Value.int .i64 0)]) ⟨⟨_, rfl, .inl ⟨_, _, tk28, at_blk (vs := (SpanV.cells (SpanV.mk ((((longF ts p.Stretch.toNat (q.Stretch - p.Stretch).toNat).Lo) + q.Off.Lo) - p.Off.Hi) ((((longF ts p.Stretch.toNat (q.Stretch - p.Stretch).toNat).Hi) + q.Off.Hi) - p.Off.Lo)))) 2 rfl rfl, rfl, rfl⟩⟩, rfl, trivial⟩ fun w hs => endV ?_ hs)
 show (Value.tuple [(Value.agg (SpanV.cells (SpanV.mk ((((longF ts p.Stretch.toNat (q.Stretch - p.Stretch).toNat).Lo) + q.Off.Lo) - p.Off.Hi) ((((longF ts p.Stretch.toNat (q.Stretch - p.Stretch).toNat).Hi) + q.Off.Hi) - p.Off.Lo))).toArray), (Value.int .i64 0)].toArray) = (Value.tuple [(Value.agg (SpanV.cells (apartV ts p q)).toArray), (Value.int .i64 (apartE ts p q))].toArray)
 clear hs w hQ hN hK21 hK18 hK14 hK13 hK10 hK9 hK7 hK6 hK1
 first | (have e := apart_bad (a := p) (b := q) (by simpa using h14); rw [e.1, e.2] <;> rfl) | (have e := apart_in h14 hq1; rw [e.1, e.2, apart_straight h31] <;> rfl) | (have e := apart_in h14 hq1; have e2 := apart_in h14 ⟨h25, h20⟩; rw [e.1, e.2, e2.2, apart_swap h31] <;> rfl) | (have e := apart_out (a := p) (b := q) h14 (fun h => by first | exact h20 h.1 | exact h25 h.2); rw [e.1, e.2] <;> rfl)
set_option maxRecDepth 100000 in
set_option maxHeartbeats 400000 in
theorem rhears_c (d : GuardM) (kA : Option Addr) (kC : Nat) (pA : Option Addr) (pC : Nat) (nA : Option Addr) (nC : Nat) (a : SpotV) (b : SpotV) (hin : GuardIn d) (htr : trackOk d.Track = true) (ha : SpotOk d.Track a) (hb : SpotOk d.Track b) (hra : 0 ≤ d.Radio ∧ d.Radio ≤ 400000) :
    FnV Try.prog 92 [(Value.agg (GuardV.cells (GuardV.mk (TrackV.mk (Slc.mk kA d.Track.length kC)) (Slc.mk pA d.Posts.length pC) (Slc.mk nA d.Needs.length nC) d.Tower d.Radio)).toArray), (Value.agg (SpotV.cells a).toArray), (Value.agg (SpotV.cells b).toArray)] [(rd kA d.Track.length 9 (d.Track.map StretchV.cells)), (rd pA d.Posts.length 7 (d.Posts.map PostV.cells)), (rd nA d.Needs.length 3 (d.Needs.map NeedV.cells))] (Value.bool (decide (hearsP d a b))) := by
 have hlen := hin.trk
 have hside := hin.side
 have hpl := hin.pst
 have hnl := hin.nds
 have hnk := hin.nk
 have hpk := hin.pk
 have hap := apart_in htr ⟨ha, hb⟩
 refine fnV_of go92 Try.func92 rfl rfl fun w0 Q hQ hN => ?_
 try dsimp only
 refine WS fun _ hK1 => BXA rfl fun b2 => BXA rfl fun b3 => BXA rfl fun b4 => rS (AG rfl) <| RK hK1 <| WS fun _ hK5 => rS (FA 0 rfl fo32_0 rfl) <| rS (LP (TrackV.cells (TrackV.mk (Slc.mk kA d.Track.length kC))) 2 rfl tk24 rfl rfl rfl) <| rS (LW 1 rfl tk30 rfl rfl) ?_
 refine rS (LW 0 rfl tk30 rfl rfl) <| rS (CL (rapart_c d.Track kA kC a b (by first | assumption | omega | (simp; done) | (simp; omega)) (by first | assumption | omega | (simp; done) | (simp; omega))) (ha_at 3 rfl rfl <| ha_nil) rfl) <| rS (MV rfl) <| rS (EX rfl) <| rS (EX rfl) <| AL rfl tz28 fun b6 => SW0 rfl ts28 rfl <| rS (AG rfl) <| RK hK5 <| WS fun _ hK7 => ?_
 refine rS (FA 6 rfl fo32_4 rfl) <| rS (L1 (Value.int .i64 d.Radio) 3 rfl tk3 rfl rfl) <| rS (NG rfl ⟨by omega, by omega⟩) <| rS (FA 0 rfl fo28_0 rfl) <| rS (L1 (Value.int .i64 ((apartV d.Track a b).Lo)) 0 rfl tk3 rfl rfl) <| rS (BI rfl b_leq) <| rS (MV rfl) ?_
 refine r_bool (t := 23) rfl (fun hg23 => ?_) (fun hg23 => ?_)
 rotate_left 1
 · replace hg23 := DF hg23
   refine rS (OX rfl) <| rS (OX rfl) <| rS (OX rfl) <| rS (OX rfl) <| rS (OX rfl) <| rS (PK rfl) <| rS (AG rfl) <| RK hK7 <| w_ret <| Q1 hQ rfl rfl rfl ?_
   first | exact congrArg Value.bool (decide_eq_false fun q => by unfold hearsP at q; rw [← hap.2] at q; omega).symm | exact congrArg Value.bool (decide_eq_decide.2 (by unfold hearsP; rw [← hap.2]; omega))
 replace hg23 := DT hg23
 refine rS (FA 1 rfl fo28_1 rfl) <| rS (L1 (Value.int .i64 ((apartV d.Track a b).Hi)) 0 rfl tk3 rfl rfl) <| rS (FA 6 rfl fo32_4 rfl) <| rS (L1 (Value.int .i64 d.Radio) 3 rfl tk3 rfl rfl) <| rS (BI rfl b_leq) <| rS (PK rfl) <| rS (AG rfl) <| RK hK7 <| w_ret <| Q1 hQ rfl rfl rfl ?_
 first | exact congrArg Value.bool (decide_eq_false fun q => by unfold hearsP at q; rw [← hap.2] at q; omega).symm | exact congrArg Value.bool (decide_eq_decide.2 (by unfold hearsP; rw [← hap.2]; omega))
end
section
open Go.RowKit
set_option linter.unusedVariables false
set_option maxRecDepth 100000 in
set_option maxHeartbeats 2000000 in
theorem rcalled_c (d : GuardM) (kA : Option Addr) (kC : Nat) (pA : Option Addr) (pC : Nat) (nA : Option Addr) (nC : Nat) (M : Nat → Prop) (mA : Option Addr) (mC : Nat) (hin : GuardIn d) (hge : guardE d = 0) :
    FnX Try.prog 59 [(Value.agg (GuardV.cells (GuardV.mk (TrackV.mk (Slc.mk kA d.Track.length kC)) (Slc.mk pA d.Posts.length pC) (Slc.mk nA d.Needs.length nC) d.Tower d.Radio)).toArray), (Value.slice mA ((boolsB d.Posts.length M).length) mC)] [(rd kA d.Track.length 9 (d.Track.map StretchV.cells)), (rd pA d.Posts.length 7 (d.Posts.map PostV.cells)), (rd nA d.Needs.length 3 (d.Needs.map NeedV.cells)), (rd mA ((boolsB d.Posts.length M).length) 1 ((boolsB d.Posts.length M).map boolC))] (fun (x : (Option Addr) × Nat) => (Value.slice x.1 ((boolsB d.Posts.length (CallsP d M)).length) x.2)) (fun (x : (Option Addr) × Nat) => True) (fun (x : (Option Addr) × Nat) => [(own x.1 x.2 4 1 ((boolsB d.Posts.length (CallsP d M)).map boolC))]) := by
 have hlen := hin.trk
 have hside := hin.side
 have hpl := hin.pst
 have hnl := hin.nds
 have hnk := hin.nk
 have hpk := hin.pk
 obtain ⟨htr, hok⟩ := guardE_zero hge
 refine fnX_of go59 Try.func59 rfl rfl fun w0 Q hQ hN => ?_
 try dsimp only
 refine WS fun _ hK1 => BXA rfl fun b2 => rS (AG rfl) <| RK hK1 <| WS fun _ hK3 => rS (FA 1 rfl fo32_1 rfl) <| rS (L1 (Value.slice pA d.Posts.length pC) 0 rfl tk25 rfl rfl) <| rS (LN rfl ut25) <| r_mks (n := d.Posts.length) (es := (List.map boolC (List.replicate d.Posts.length false))) rfl rfl rfl ta96 (by omega) (by omega) (by simp only [maxLen]; omega) (by rw [List.map_replicate]; rfl) rfl fun b4 => ?_
 try dsimp only
 refine rS (AG rfl) <| RK hK3 <| w_seq fun _ hK5 => w_seq fun _ hK6 => ?_
 rw [show (own (some ⟨b4, 0, none⟩) d.Posts.length 4 1 (List.map boolC (List.replicate d.Posts.length false))) = (own (some ⟨b4, 0, none⟩) d.Posts.length 4 1 ((boolsB d.Posts.length (fun _ => False)).map boolC)) from by rw [bools_none]]
 refine w_region <| rS (AG rfl) <| RK hK6 <| w_block ?_
 have hinit : (SubC d M (fun _ => False)) ∧ (true = false → ClosedTo d M (fun _ => False) d.Posts.length) := by exact ⟨sub_none, fun q => Bool.noConfusion q⟩
 refine w_loop (ι := { z : (Nat → Prop) × Bool // (SubC d M z.1) ∧ (z.2 = false → ClosedTo d M z.1 d.Posts.length) }) (fun z => [(1, (Value.slice mA ((boolsB d.Posts.length M).length) mC)), (2, (Value.pointer (some ⟨b2, 0, none⟩))), (5, (Value.slice (some ⟨b4, 0, none⟩) d.Posts.length d.Posts.length)), (6, (Value.bool z.1.2))]) (fun z => [(own (some ⟨b4, 0, none⟩) d.Posts.length 4 1 ((boolsB d.Posts.length z.1.1).map boolC)), (blk b2 32 (GuardV.cells (GuardV.mk (TrackV.mk (Slc.mk kA d.Track.length kC)) (Slc.mk pA d.Posts.length pC) (Slc.mk nA d.Needs.length nC) d.Tower d.Radio))), (rd kA d.Track.length 9 (d.Track.map StretchV.cells)).ro, (rd pA d.Posts.length 7 (d.Posts.map PostV.cells)).ro, (rd nA d.Needs.length 3 (d.Needs.map NeedV.cells)).ro, (rd mA ((boolsB d.Posts.length M).length) 1 ((boolsB d.Posts.length M).map boolC)).ro]) (fun z => 2 * (d.Posts.length - cnt d.Posts.length z.1.1) + (cond z.1.2 1 0)) ⟨((fun _ => False), true), hinit⟩ (Sub.cons rfl <| Sub.cons rfl <| Sub.cons rfl <| Sub.cons rfl <| Sub.nil _) (fun w hs => St.sel [0, 1, 2, 3, 4, 5] rfl rfl hs) ?_
 clear hinit
 rintro ⟨⟨C, mo⟩, ⟨hl3_0, hl3_1⟩⟩ J7 hJ7
 try dsimp only at hl3_0 hl3_1
 try dsimp only
 refine w_seq fun _ hK8 => WS fun _ hK9 => rS (MV rfl) <| RK hK9 ?_
 refine w_if rfl (fun hg14 => ?_) (fun hg14 => ?_)
 rotate_left 1
 · refine w_exit ?_
   refine k_exit_then <| k_exit_then <| k_exit_same <| KK hK5 <| WS fun _ hK40 => ?_
   rw [show boolsB d.Posts.length C = boolsB d.Posts.length (CallsP d M) from boolsB_congr (closed_all hl3_0 (hl3_1 hg14) (Nat.le_refl _))]
   refine rS (MV rfl) <| rS (AG rfl) <| RK hK40 <| w_ret ?_
   refine hQ _ _ _ (l_nil (vs := [(Value.slice (some ⟨b4, 0, none⟩) d.Posts.length d.Posts.length)]) ⟨rfl, trivial⟩ fun w hs => endX ((some ⟨b4, 0, none⟩), d.Posts.length) [0] ?_ ?_ rfl rfl rfl hs)
   · (rw [boolsB_len] <;> rfl)
   · trivial
 refine WK hK8 <| w_block <| WS fun _ hK10 => rS (AG rfl) <| RK hK10 <| WS fun _ hK11 => rS (AG rfl) <| RK hK11 <| w_block ?_
 have hinit : (0 ≤ d.Posts.length) ∧ (SubC d M C) ∧ ((false = false ∧ ClosedTo d M C 0 ∧ cnt d.Posts.length C = cnt d.Posts.length C) ∨ (false = true ∧ cnt d.Posts.length C < cnt d.Posts.length C)) := by exact ⟨Nat.zero_le _, hl3_0, .inl ⟨rfl, closed_zero, rfl⟩⟩
 refine w_loop (ι := { z : Nat × (Nat → Prop) × Bool // (z.1 ≤ d.Posts.length) ∧ (SubC d M z.2.1) ∧ ((z.2.2 = false ∧ ClosedTo d M z.2.1 z.1 ∧ cnt d.Posts.length z.2.1 = cnt d.Posts.length C) ∨ (z.2.2 = true ∧ cnt d.Posts.length C < cnt d.Posts.length z.2.1)) }) (fun z => [(1, (Value.slice mA ((boolsB d.Posts.length M).length) mC)), (2, (Value.pointer (some ⟨b2, 0, none⟩))), (5, (Value.slice (some ⟨b4, 0, none⟩) d.Posts.length d.Posts.length)), (6, (Value.bool z.1.2.2)), (7, (Value.int .i64 ((z.1.1 : Nat) : Int)))]) (fun z => [(own (some ⟨b4, 0, none⟩) d.Posts.length 4 1 ((boolsB d.Posts.length z.1.2.1).map boolC)), (blk b2 32 (GuardV.cells (GuardV.mk (TrackV.mk (Slc.mk kA d.Track.length kC)) (Slc.mk pA d.Posts.length pC) (Slc.mk nA d.Needs.length nC) d.Tower d.Radio))), (rd kA d.Track.length 9 (d.Track.map StretchV.cells)).ro, (rd pA d.Posts.length 7 (d.Posts.map PostV.cells)).ro, (rd nA d.Needs.length 3 (d.Needs.map NeedV.cells)).ro, (rd mA ((boolsB d.Posts.length M).length) 1 ((boolsB d.Posts.length M).map boolC)).ro]) (fun z => d.Posts.length - z.1.1) ⟨(0, C, false), hinit⟩ (Sub.cons rfl <| Sub.cons rfl <| Sub.cons rfl <| Sub.cons rfl <| Sub.cons rfl <| Sub.nil _) (fun w hs => St.sel [0, 1, 2, 3, 4, 5] rfl rfl hs) ?_
 clear hinit
 rintro ⟨⟨i, C2, m2⟩, ⟨hl6_0, hl6_1, hl6_2⟩⟩ J12 hJ12
 try dsimp only at hl6_0 hl6_1 hl6_2
 try dsimp only
 have hbl := boolsB_len (n := d.Posts.length) (P := C2)
 have hbm := boolsB_len (n := d.Posts.length) (P := M)
 refine w_seq fun _ hK13 => WS fun _ hK14 => rS (MV rfl) <| rS (MV rfl) <| rS (LN rfl ut96) <| rS (BI rfl b_lss) <| RK hK14 ?_
 refine w_if rfl (fun h15 => ?_) (fun h15 => ?_)
 rotate_left 1
 · replace h15 := DF h15
   refine w_exit <| k_exit_then <| k_exit_then <| k_exit_same <| k_block ?_
   refine k_then (hJ7 ⟨(C2, m2), ⟨hl6_1, fun q => by rcases hl6_2 with ⟨_, h2, _⟩ | ⟨h1, _⟩; (have := h2; rw [show d.Posts.length = i by omega]; exact this); (rw [h1] at q; cases q)⟩⟩ _ _ _ rfl (by dsimp only; have hc1 := cnt_le (n := d.Posts.length) (C := C); have hc2 := cnt_le (n := d.Posts.length) (C := C2); rcases hl6_2 with ⟨h1, _, h3⟩ | ⟨h1, h3⟩ <;> (rw [h1, hg14]; simp only [cond_true, cond_false]; omega)) (Sub.cons rfl <| Sub.cons rfl <| Sub.cons rfl <| Sub.cons rfl <| Sub.nil _) (fun w hs => St.sel [0, 1, 2, 3, 4, 5] rfl rfl hs))
 replace h15 := DT h15
 refine WK hK13 <| w_seq fun _ hK16 => w_block <| w_seq fun _ hK17 => WS fun _ hK18 => rS (MV rfl) <| rS (MV rfl) ?_
 obtain ⟨b, hb⟩ : ∃ y_, (boolsB d.Posts.length C2)[i]? = some y_ := ⟨(boolsB d.Posts.length C2)[i]'(by omega), List.getElem?_eq_getElem _⟩
 have hbm : ((boolsB d.Posts.length C2).map boolC)[i]? = some (boolC b) := by rw [List.getElem?_map, hb]; rfl
 refine rS (IA i rfl (has_own_n (n := d.Posts.length) 0 rfl (by first | (simp; done) | (simp; omega))) te96 (by decide) (by omega) (by omega)) <| rS (LE1 i 0 (Value.bool b) rfl tk4 (has_own_n (n := (boolsB d.Posts.length C2).length) 0 rfl (by simp)) hbm rfl (by decide) rfl) <| rS (MV rfl) ?_
 refine r_bool (t := 25) rfl (fun hg25 => ?_) (fun hg25 => ?_)
 · refine rS (OX rfl) ?_
   refine rS (OX rfl) <| rS (OX rfl) <| rS (OX rfl) <| rS (OX rfl) <| rS (PK rfl) <| RK hK18 <| w_if_true rfl <| w_exit <| k_exit_then <| k_exit_same ?_
   refine KK hK16 <| w_region <| rS (MV rfl) <| rS (BI rfl (b_add ⟨by omega, by omega⟩)) <| rS (AG rfl) <| r_nil ?_
   have hb19 : (Value.int .i64 (((i + 1) : Nat) : Int)) = (Value.int .i64 (((i : Nat) : Int) + 1)) := by exact congrArg (Value.int .i64) (by omega)
   refine k_then (hJ12 ⟨((i + 1), C2, m2), (by first | exact fix_skip hl6_0 hl6_1 hl6_2 (by omega) (.inl ((boolsB_get hb).1 hg25)) | exact fix_skip hl6_0 hl6_1 hl6_2 (by omega) (.inr (fun q => Bool.false_ne_true (hg31.symm.trans ((boolsB_get hmm).2 q)))) | exact fix_no hl6_0 hl6_1 hl6_2 (by omega) hp hg71 (by omega) | exact fix_add hl6_0 hl6_1 hl6_2 (by omega) (fun q => Bool.false_ne_true (hg25.symm.trans ((boolsB_get hb).2 q))) ((boolsB_get hmm).1 (by first | assumption | simpa using hg31)) hp hg71)⟩ _ _ _ rfl (by first | omega | (simp; omega)) (Sub.cons rfl <| Sub.cons rfl <| Sub.cons rfl <| Sub.cons rfl <| sub_val rfl hb19 <| Sub.nil _) (fun w hs => St.sel [0, 1, 2, 3, 4, 5] rfl rfl hs))
 refine rS (MV rfl) <| rS (MV rfl) ?_
 obtain ⟨mm, hmm⟩ : ∃ y_, (boolsB d.Posts.length M)[i]? = some y_ := ⟨(boolsB d.Posts.length M)[i]'(by omega), List.getElem?_eq_getElem _⟩
 have hmmm : ((boolsB d.Posts.length M).map boolC)[i]? = some (boolC mm) := by rw [List.getElem?_map, hmm]; rfl
 refine rS (IA i rfl (has_at 5 rfl) te96 (by decide) (by omega) (by omega)) <| rS (LE1 i 0 (Value.bool mm) rfl tk4 (has_at 5 rfl) hmmm rfl (by decide) rfl) <| rS (NT rfl) <| rS (PK rfl) <| RK hK18 ?_
 refine w_if rfl (fun hg31 => ?_) (fun hg31 => ?_)
 · rw [Bool.not_eq_true'] at hg31
   refine w_exit <| k_exit_then <| k_exit_same <| KK hK16 <| w_region <| rS (MV rfl) <| rS (BI rfl (b_add ⟨by omega, by omega⟩)) <| rS (AG rfl) <| r_nil ?_
   have hb20 : (Value.int .i64 (((i + 1) : Nat) : Int)) = (Value.int .i64 (((i : Nat) : Int) + 1)) := by exact congrArg (Value.int .i64) (by omega)
   refine k_then (hJ12 ⟨((i + 1), C2, m2), (by first | exact fix_skip hl6_0 hl6_1 hl6_2 (by omega) (.inl ((boolsB_get hb).1 hg25)) | exact fix_skip hl6_0 hl6_1 hl6_2 (by omega) (.inr (fun q => Bool.false_ne_true (hg31.symm.trans ((boolsB_get hmm).2 q)))) | exact fix_no hl6_0 hl6_1 hl6_2 (by omega) hp hg71 (by omega) | exact fix_add hl6_0 hl6_1 hl6_2 (by omega) (fun q => Bool.false_ne_true (hg25.symm.trans ((boolsB_get hb).2 q))) ((boolsB_get hmm).1 (by first | assumption | simpa using hg31)) hp hg71)⟩ _ _ _ rfl (by first | omega | (simp; omega)) (Sub.cons rfl <| Sub.cons rfl <| Sub.cons rfl <| Sub.cons rfl <| sub_val rfl hb20 <| Sub.nil _) (fun w hs => St.sel [0, 1, 2, 3, 4, 5] rfl rfl hs))
 rw [Bool.not_eq_false'] at hg31
 refine WK hK17 <| w_seq fun _ hK21 => w_draw mixed 11 (by kernel_rfl) <| dS (LW 1 rfl tk32 rfl rfl) <| dS (FA 3 rfl fo32_3 rfl) <| dS (LP (SpotV.cells d.Tower) 1 rfl tk30 rfl rfl rfl) <| dS (FA 1 rfl fo32_1 rfl) <| dS (L1 (Value.slice pA d.Posts.length pC) 1 rfl tk25 rfl rfl) <| dS (MV rfl) ?_
 obtain ⟨p, hp⟩ : ∃ y_, d.Posts[i]? = some y_ := ⟨d.Posts[i]'(by omega), List.getElem?_eq_getElem _⟩
 have hpm : (d.Posts.map PostV.cells)[i]? = some (PostV.cells p) := by rw [List.getElem?_map, hp]; rfl
 refine dS (IA i rfl (has_at 3 rfl) te25 (by decide) (by omega) (by omega)) <| dS (FAR ((i * 7) + 2) rfl (has_at 3 rfl) (Nat.mul_pos (by omega) (by decide)) fo62_2 rfl) ?_
 have hpo := (hok.post i p hp).2.2.1
 refine dS (LEN i 2 (SpotV.cells p.Spot) rfl tk30 (has_at 3 rfl) hpm rfl (by decide) rfl rfl) <| dS (CL (rhears_c d kA kC pA pC nA nC d.Tower p.Spot (by exact hin) (by exact htr) (by exact hok.tower) (by exact hpo) (by exact hok.radio)) (ha_at 2 rfl rfl <| ha_at 3 rfl rfl <| ha_at 4 rfl rfl <| ha_nil) rfl) <| dS (AG rfl) <| d_end <| RK hK21 <| w_seq fun _ hK22 => WS fun _ hK23 => rS (AG rfl) <| RK hK23 <| w_block ?_
 have hinit : (0 ≤ d.Posts.length) := by exact Nat.zero_le _
 have hb24 : (Value.bool (decide (HearU d C2 p 0))) = (Value.bool (decide (hearsP d d.Tower p.Spot))) := by exact congrArg Value.bool (decide_eq_decide.2 hu_zero)
 refine w_loop (ι := { z : Nat // (z ≤ d.Posts.length) }) (fun z => [(1, (Value.slice mA ((boolsB d.Posts.length M).length) mC)), (2, (Value.pointer (some ⟨b2, 0, none⟩))), (5, (Value.slice (some ⟨b4, 0, none⟩) d.Posts.length d.Posts.length)), (6, (Value.bool m2)), (7, (Value.int .i64 ((i : Nat) : Int))), (8, (Value.bool (decide (HearU d C2 p z.1)))), (9, (Value.int .i64 ((z.1 : Nat) : Int)))]) (fun z => [(own (some ⟨b4, 0, none⟩) d.Posts.length 4 1 ((boolsB d.Posts.length C2).map boolC)), (blk b2 32 (GuardV.cells (GuardV.mk (TrackV.mk (Slc.mk kA d.Track.length kC)) (Slc.mk pA d.Posts.length pC) (Slc.mk nA d.Needs.length nC) d.Tower d.Radio))), (rd kA d.Track.length 9 (d.Track.map StretchV.cells)).ro, (rd pA d.Posts.length 7 (d.Posts.map PostV.cells)).ro, (rd nA d.Needs.length 3 (d.Needs.map NeedV.cells)).ro, (rd mA ((boolsB d.Posts.length M).length) 1 ((boolsB d.Posts.length M).map boolC)).ro]) (fun z => d.Posts.length - z.1) ⟨0, hinit⟩ (Sub.cons rfl <| Sub.cons rfl <| Sub.cons rfl <| Sub.cons rfl <| Sub.cons rfl <| sub_val rfl hb24 <| Sub.cons rfl <| Sub.nil _) (fun w hs => St.sel [0, 1, 2, 3, 4, 5] rfl rfl hs) ?_
 clear hinit
 rintro ⟨u, hl11_0⟩ J25 hJ25
 try dsimp only
 refine w_seq fun _ hK26 => WS fun _ hK27 => rS (MV rfl) <| rS (MV rfl) <| rS (LN rfl ut96) <| rS (BI rfl b_lss) <| RK hK27 ?_
 refine w_if rfl (fun h28 => ?_) (fun h28 => ?_)
 rotate_left 1
 · replace h28 := DF h28
   refine w_exit <| k_exit_then <| k_exit_then <| k_exit_same <| KK hK22 <| WS fun _ hK36 => rS (MV rfl) <| RK hK36 ?_
   refine w_if rfl (fun hg71 => ?_) (fun hg71 => ?_)
   rotate_left 1
   · replace hg71 := DF hg71
     refine w_skip <| k_block <| KK hK16 <| w_region <| rS (MV rfl) <| rS (BI rfl (b_add ⟨by omega, by omega⟩)) <| rS (AG rfl) <| r_nil ?_
     have hb39 : (Value.int .i64 (((i + 1) : Nat) : Int)) = (Value.int .i64 (((i : Nat) : Int) + 1)) := by exact congrArg (Value.int .i64) (by omega)
     refine k_then (hJ12 ⟨((i + 1), C2, m2), (by first | exact fix_skip hl6_0 hl6_1 hl6_2 (by omega) (.inl ((boolsB_get hb).1 hg25)) | exact fix_skip hl6_0 hl6_1 hl6_2 (by omega) (.inr (fun q => Bool.false_ne_true (hg31.symm.trans ((boolsB_get hmm).2 q)))) | exact fix_no hl6_0 hl6_1 hl6_2 (by omega) hp hg71 (by omega) | exact fix_add hl6_0 hl6_1 hl6_2 (by omega) (fun q => Bool.false_ne_true (hg25.symm.trans ((boolsB_get hb).2 q))) ((boolsB_get hmm).1 (by first | assumption | simpa using hg31)) hp hg71)⟩ _ _ _ rfl (by first | omega | (simp; omega)) (Sub.cons rfl <| Sub.cons rfl <| Sub.cons rfl <| Sub.cons rfl <| sub_val rfl hb39 <| Sub.nil _) (fun w hs => St.sel [0, 1, 2, 3, 4, 5] rfl rfl hs))
   replace hg71 := DT hg71
   refine w_region <| rS (MV rfl) <| rS (MV rfl) <| rS (IA i rfl (has_own_n (n := d.Posts.length) 0 rfl (by first | (simp; done) | (simp; omega))) te96 (by decide) (by omega) (by omega)) ?_
   have hb37 : ((boolsB d.Posts.length C2).set i true) = (boolsB d.Posts.length (fun j => C2 j ∨ j = i)) := by exact boolsB_set (by omega)
   refine r_store_own (k := i) (o := 0) (vs := [(Value.bool true)]) (es' := (List.map boolC (boolsB d.Posts.length (fun j => C2 j ∨ j = i)))) (C' := [(own (some ⟨b4, 0, none⟩) d.Posts.length 4 1 (List.map boolC (boolsB d.Posts.length (fun j => C2 j ∨ j = i)))), _, _, _, _, _]) 0 rfl rfl rfl ts4 rfl rfl rfl rfl hbm rfl (by decide) (by exact (List.map_set (f := boolC) (l := (boolsB d.Posts.length C2)) (i := i) (a := true)).symm.trans (congrArg _ hb37)) rfl <| rS (AG rfl) <| r_nil <| k_block <| KK hK16 <| w_region <| rS (MV rfl) <| rS (BI rfl (b_add ⟨by omega, by omega⟩)) <| rS (AG rfl) <| r_nil ?_
   have hb38 : (Value.int .i64 (((i + 1) : Nat) : Int)) = (Value.int .i64 (((i : Nat) : Int) + 1)) := by exact congrArg (Value.int .i64) (by omega)
   refine k_then (hJ12 ⟨((i + 1), (fun j => C2 j ∨ j = i), true), (by first | exact fix_skip hl6_0 hl6_1 hl6_2 (by omega) (.inl ((boolsB_get hb).1 hg25)) | exact fix_skip hl6_0 hl6_1 hl6_2 (by omega) (.inr (fun q => Bool.false_ne_true (hg31.symm.trans ((boolsB_get hmm).2 q)))) | exact fix_no hl6_0 hl6_1 hl6_2 (by omega) hp hg71 (by omega) | exact fix_add hl6_0 hl6_1 hl6_2 (by omega) (fun q => Bool.false_ne_true (hg25.symm.trans ((boolsB_get hb).2 q))) ((boolsB_get hmm).1 (by first | assumption | simpa using hg31)) hp hg71)⟩ _ _ _ rfl (by first | omega | (simp; omega)) (Sub.cons rfl <| Sub.cons rfl <| Sub.cons rfl <| Sub.cons rfl <| sub_val rfl hb38 <| Sub.nil _) (fun w hs => St.sel [0, 1, 2, 3, 4, 5] rfl rfl hs))
 replace h28 := DT h28
 refine WK hK26 <| w_seq fun _ hK29 => w_block <| w_draw mixed 24 (by kernel_rfl) <| dS (MV rfl) <| dS (MV rfl) ?_
 refine d_bool (t := 49) rfl (fun hg49 => ?_) (fun hg49 => ?_)
 · replace hg49 := DT hg49
   refine dS (OX rfl) <| dS (OX rfl) <| dS (OX rfl) <| dS (OX rfl) <| dS (OX rfl) <| dS (OX rfl) <| dS (OX rfl) <| dS (OX rfl) <| dS (OX rfl) <| dS (OX rfl) ?_
   refine dS (OX rfl) <| dS (OX rfl) <| dS (OX rfl) <| dS (OX rfl) <| dS (OX rfl) <| dS (OX rfl) <| dS (OX rfl) <| dS (OX rfl) <| dS (OX rfl) <| dS (OX rfl) ?_
   refine dS (PK rfl) <| dS (AG rfl) <| d_end <| r_nil <| k_block <| KK hK29 <| w_region <| rS (MV rfl) <| rS (BI rfl (b_add ⟨by omega, by omega⟩)) <| rS (AG rfl) ?_
   refine r_nil ?_
   have hb30 : (Value.bool (decide (HearU d C2 p (u + 1)))) = (Value.bool true) := by first | exact congrArg Value.bool (decide_eq_true (hu_yes hg49)) | exact congrArg Value.bool (decide_eq_false (hu_skip hg49 (fun r => Bool.false_ne_true (hg54.symm.trans ((boolsB_get hb2).2 r))))) | exact congrArg Value.bool (decide_eq_decide.2 (hu_new hg49 ((boolsB_get hb2).1 hg54) hq))
   have hb31 : (Value.int .i64 (((u + 1) : Nat) : Int)) = (Value.int .i64 (((u : Nat) : Int) + 1)) := by exact congrArg (Value.int .i64) (by omega)
   refine k_then (hJ25 ⟨(u + 1), (by first | omega | (simp only []; omega))⟩ _ _ _ rfl (by first | omega | (simp; omega)) (Sub.cons rfl <| Sub.cons rfl <| Sub.cons rfl <| Sub.cons rfl <| Sub.cons rfl <| sub_val rfl hb30 <| sub_val rfl hb31 <| Sub.nil _) (fun w hs => St.sel [0, 1, 2, 3, 4, 5] rfl rfl hs))
 replace hg49 := DF hg49
 refine dS (MV rfl) <| dS (MV rfl) ?_
 obtain ⟨b2, hb2⟩ : ∃ y_, (boolsB d.Posts.length C2)[u]? = some y_ := ⟨(boolsB d.Posts.length C2)[u]'(by omega), List.getElem?_eq_getElem _⟩
 have hb2m : ((boolsB d.Posts.length C2).map boolC)[u]? = some (boolC b2) := by rw [List.getElem?_map, hb2]; rfl
 refine dS (IA u rfl (has_own_n (n := d.Posts.length) 0 rfl (by first | (simp; done) | (simp; omega))) te96 (by decide) (by omega) (by omega)) <| dS (LE1 u 0 (Value.bool b2) rfl tk4 (has_own_n (n := (boolsB d.Posts.length C2).length) 0 rfl (by simp)) hb2m rfl (by decide) rfl) <| dS (MV rfl) ?_
 refine d_bool (t := 54) rfl (fun hg54 => ?_) (fun hg54 => ?_)
 rotate_left 1
 · refine dS (OX rfl) ?_
   refine dS (OX rfl) <| dS (OX rfl) <| dS (OX rfl) <| dS (OX rfl) <| dS (OX rfl) <| dS (OX rfl) <| dS (OX rfl) <| dS (OX rfl) <| dS (OX rfl) <| dS (OX rfl) ?_
   refine dS (OX rfl) <| dS (OX rfl) <| dS (OX rfl) <| dS (PK rfl) <| dS (PK rfl) <| dS (AG rfl) <| d_end <| r_nil <| k_block <| KK hK29 ?_
   refine w_region <| rS (MV rfl) <| rS (BI rfl (b_add ⟨by omega, by omega⟩)) <| rS (AG rfl) <| r_nil ?_
   have hb34 : (Value.bool (decide (HearU d C2 p (u + 1)))) = (Value.bool false) := by first | exact congrArg Value.bool (decide_eq_true (hu_yes hg49)) | exact congrArg Value.bool (decide_eq_false (hu_skip hg49 (fun r => Bool.false_ne_true (hg54.symm.trans ((boolsB_get hb2).2 r))))) | exact congrArg Value.bool (decide_eq_decide.2 (hu_new hg49 ((boolsB_get hb2).1 hg54) hq))
   have hb35 : (Value.int .i64 (((u + 1) : Nat) : Int)) = (Value.int .i64 (((u : Nat) : Int) + 1)) := by exact congrArg (Value.int .i64) (by omega)
   refine k_then (hJ25 ⟨(u + 1), (by first | omega | (simp only []; omega))⟩ _ _ _ rfl (by first | omega | (simp; omega)) (Sub.cons rfl <| Sub.cons rfl <| Sub.cons rfl <| Sub.cons rfl <| Sub.cons rfl <| sub_val rfl hb34 <| sub_val rfl hb35 <| Sub.nil _) (fun w hs => St.sel [0, 1, 2, 3, 4, 5] rfl rfl hs))
 refine dS (LW 1 rfl tk32 rfl rfl) <| dS (FA 1 rfl fo32_1 rfl) <| dS (L1 (Value.slice pA d.Posts.length pC) 1 rfl tk25 rfl rfl) <| dS (MV rfl) ?_
 obtain ⟨q, hq⟩ : ∃ y_, d.Posts[u]? = some y_ := ⟨d.Posts[u]'(by omega), List.getElem?_eq_getElem _⟩
 have hqm : (d.Posts.map PostV.cells)[u]? = some (PostV.cells q) := by rw [List.getElem?_map, hq]; rfl
 refine dS (IA u rfl (has_at 3 rfl) te25 (by decide) (by omega) (by omega)) <| dS (FAR ((u * 7) + 2) rfl (has_at 3 rfl) (Nat.mul_pos (by omega) (by decide)) fo62_2 rfl) <| dS (LEN u 2 (SpotV.cells q.Spot) rfl tk30 (has_at 3 rfl) hqm rfl (by decide) rfl rfl) <| dS (FA 1 rfl fo32_1 rfl) <| dS (L1 (Value.slice pA d.Posts.length pC) 1 rfl tk25 rfl rfl) <| dS (MV rfl) <| dS (IA i rfl (has_at 3 rfl) te25 (by decide) (by omega) (by omega)) <| dS (FAR ((i * 7) + 2) rfl (has_at 3 rfl) (Nat.mul_pos (by omega) (by decide)) fo62_2 rfl) <| dS (LEN i 2 (SpotV.cells p.Spot) rfl tk30 (has_at 3 rfl) hpm rfl (by decide) rfl rfl) <| dS (CL (rhears_c d kA kC pA pC nA nC q.Spot p.Spot (by exact hin) (by exact htr) (by exact (hok.post _ q hq).2.2.1) (by exact hpo) (by exact hok.radio)) (ha_at 2 rfl rfl <| ha_at 3 rfl rfl <| ha_at 4 rfl rfl <| ha_nil) rfl) ?_
 refine dS (PK rfl) <| dS (PK rfl) <| dS (AG rfl) <| d_end <| r_nil <| k_block <| KK hK29 <| w_region <| rS (MV rfl) <| rS (BI rfl (b_add ⟨by omega, by omega⟩)) ?_
 refine rS (AG rfl) <| r_nil ?_
 have hb32 : (Value.bool (decide (HearU d C2 p (u + 1)))) = (Value.bool (decide (hearsP d q.Spot p.Spot))) := by first | exact congrArg Value.bool (decide_eq_true (hu_yes hg49)) | exact congrArg Value.bool (decide_eq_false (hu_skip hg49 (fun r => Bool.false_ne_true (hg54.symm.trans ((boolsB_get hb2).2 r))))) | exact congrArg Value.bool (decide_eq_decide.2 (hu_new hg49 ((boolsB_get hb2).1 hg54) hq))
 have hb33 : (Value.int .i64 (((u + 1) : Nat) : Int)) = (Value.int .i64 (((u : Nat) : Int) + 1)) := by exact congrArg (Value.int .i64) (by omega)
 refine k_then (hJ25 ⟨(u + 1), (by first | omega | (simp only []; omega))⟩ _ _ _ rfl (by first | omega | (simp; omega)) (Sub.cons rfl <| Sub.cons rfl <| Sub.cons rfl <| Sub.cons rfl <| Sub.cons rfl <| sub_val rfl hb32 <| sub_val rfl hb33 <| Sub.nil _) (fun w hs => St.sel [0, 1, 2, 3, 4, 5] rfl rfl hs))
end
section
open Go.RowKit
set_option linter.unusedVariables false
set_option maxRecDepth 100000 in
set_option maxHeartbeats 400000 in
theorem rmeets_c (d : GuardM) (kA : Option Addr) (kC : Nat) (pA : Option Addr) (pC : Nat) (nA : Option Addr) (nC : Nat) (k : Int) (C : Nat → Prop) (mA : Option Addr) (mC : Nat) (hin : GuardIn d) (hge : guardE d = 0) (hkn : 0 ≤ k ∧ k ≤ (d.Needs.length : Int) - 1) :
    FnX Try.prog 63 [(Value.agg (GuardV.cells (GuardV.mk (TrackV.mk (Slc.mk kA d.Track.length kC)) (Slc.mk pA d.Posts.length pC) (Slc.mk nA d.Needs.length nC) d.Tower d.Radio)).toArray), (Value.int .i64 k), (Value.slice mA ((boolsB d.Posts.length C).length) mC)] [(rd kA d.Track.length 9 (d.Track.map StretchV.cells)), (rd pA d.Posts.length 7 (d.Posts.map PostV.cells)), (rd nA d.Needs.length 3 (d.Needs.map NeedV.cells)), (rd mA ((boolsB d.Posts.length C).length) 1 ((boolsB d.Posts.length C).map boolC))] (fun (x : (Option Addr) × Nat) => (Value.slice x.1 ((boolsB d.Posts.length (MeetsC d k C)).length) x.2)) (fun (x : (Option Addr) × Nat) => True) (fun (x : (Option Addr) × Nat) => [(own x.1 x.2 4 1 ((boolsB d.Posts.length (MeetsC d k C)).map boolC))]) := by
 have hlen := hin.trk
 have hside := hin.side
 have hpl := hin.pst
 have hnl := hin.nds
 have hnk := hin.nk
 have hpk := hin.pk
 obtain ⟨htr, hok⟩ := guardE_zero hge
 refine fnX_of go63 Try.func63 rfl rfl fun w0 Q hQ hN => ?_
 try dsimp only
 refine WS fun _ hK1 => BXA rfl fun b2 => rS (AG rfl) <| RK hK1 <| WS fun _ hK3 => rS (FA 1 rfl fo32_1 rfl) <| rS (L1 (Value.slice pA d.Posts.length pC) 0 rfl tk25 rfl rfl) <| rS (LN rfl ut25) <| r_mks (n := d.Posts.length) (es := (List.map boolC (List.replicate d.Posts.length false))) rfl rfl rfl ta96 (by omega) (by omega) (by simp only [maxLen]; omega) (by rw [List.map_replicate]; rfl) rfl fun b4 => ?_
 try dsimp only
 refine rS (AG rfl) <| RK hK3 <| w_seq fun _ hK5 => ?_
 rw [show (own (some ⟨b4, 0, none⟩) d.Posts.length 4 1 (List.map boolC (List.replicate d.Posts.length false))) = (own (some ⟨b4, 0, none⟩) d.Posts.length 4 1 ((setB d.Posts.length 0 (MeetsC d k C)).map boolC)) from by rw [setB_zero]]
 refine w_region <| rS (FA 2 rfl fo32_2 rfl) <| rS (L1 (Value.slice nA d.Needs.length nC) 1 rfl tk26 rfl rfl) <| rS (MV rfl) ?_
 obtain ⟨n, hn⟩ : ∃ y_, d.Needs[(k).toNat]? = some y_ := ⟨d.Needs[(k).toNat]'(by omega), List.getElem?_eq_getElem _⟩
 have hnm : (d.Needs.map NeedV.cells)[(k).toNat]? = some (NeedV.cells n) := by rw [List.getElem?_map, hn]; rfl
 refine rS (IA ((k).toNat) rfl (has_at 4 rfl) te26 (by decide) (by omega) (by omega)) ?_
 have hno := hok.need n (List.mem_of_getElem? hn)
 unfold NeedOk at hno
 refine rS (LEN ((k).toNat) 0 (NeedV.cells n) rfl tk57 (has_at 4 rfl) hnm rfl (by decide) rfl rfl) <| AL rfl tz57 fun b6 => SW0 rfl ts57 rfl <| RK hK5 <| w_seq fun _ hK7 => WS fun _ hK8 => rS (AG rfl) <| RK hK8 <| w_block ?_
 have hinit : (0 ≤ d.Posts.length) := by exact Nat.zero_le _
 refine w_loop (ι := { z : Nat // (z ≤ d.Posts.length) }) (fun z => [(1, (Value.int .i64 k)), (2, (Value.slice mA ((boolsB d.Posts.length C).length) mC)), (3, (Value.pointer (some ⟨b2, 0, none⟩))), (7, (Value.slice (some ⟨b4, 0, none⟩) d.Posts.length d.Posts.length)), (8, (Value.pointer (some ⟨b6, 0, none⟩))), (9, (Value.int .i64 ((z.1 : Nat) : Int)))]) (fun z => [(blk b6 57 (NeedV.cells n)), (own (some ⟨b4, 0, none⟩) d.Posts.length 4 1 ((setB d.Posts.length z.1 (MeetsC d k C)).map boolC)), (blk b2 32 (GuardV.cells (GuardV.mk (TrackV.mk (Slc.mk kA d.Track.length kC)) (Slc.mk pA d.Posts.length pC) (Slc.mk nA d.Needs.length nC) d.Tower d.Radio))), (rd kA d.Track.length 9 (d.Track.map StretchV.cells)).ro, (rd pA d.Posts.length 7 (d.Posts.map PostV.cells)).ro, (rd nA d.Needs.length 3 (d.Needs.map NeedV.cells)).ro, (rd mA ((boolsB d.Posts.length C).length) 1 ((boolsB d.Posts.length C).map boolC)).ro]) (fun z => d.Posts.length - z.1) ⟨0, hinit⟩ (Sub.cons rfl <| Sub.cons rfl <| Sub.cons rfl <| Sub.cons rfl <| Sub.cons rfl <| Sub.cons rfl <| Sub.nil _) (fun w hs => St.sel [0, 1, 2, 3, 4, 5, 6] rfl rfl hs) ?_
 clear hinit
 rintro ⟨i, hl4_0⟩ J9 hJ9
 try dsimp only
 have hsl := setB_len (n := d.Posts.length) (i := i) (P := (MeetsC d k C))
 have hbl := boolsB_len (n := d.Posts.length) (P := C)
 refine w_seq fun _ hK10 => WS fun _ hK11 => rS (MV rfl) <| rS (MV rfl) <| rS (LN rfl ut96) <| rS (BI rfl b_lss) <| RK hK11 ?_
 refine w_if rfl (fun h12 => ?_) (fun h12 => ?_)
 rotate_left 1
 · replace h12 := DF h12
   refine w_exit <| k_exit_then <| k_exit_then <| k_exit_same <| KK hK7 <| WS fun _ hK26 => ?_
   rw [show setB d.Posts.length i (MeetsC d k C) = boolsB d.Posts.length (MeetsC d k C) from by rw [show i = d.Posts.length by omega]; rfl]
   refine rS (MV rfl) <| rS (AG rfl) <| RK hK26 <| w_ret ?_
   refine hQ _ _ _ (l_nil (vs := [(Value.slice (some ⟨b4, 0, none⟩) d.Posts.length d.Posts.length)]) ⟨rfl, trivial⟩ fun w hs => endX ((some ⟨b4, 0, none⟩), d.Posts.length) [1] ?_ ?_ rfl rfl rfl hs)
   · (rw [boolsB_len] <;> rfl)
   · trivial
 replace h12 := DT h12
 refine WK hK10 <| w_seq fun _ hK13 => w_block <| w_draw mixed 28 (by kernel_rfl) <| dS (MV rfl) <| dS (MV rfl) <| dS (MV rfl) <| dS (MV rfl) ?_
 obtain ⟨b, hb⟩ : ∃ y_, (boolsB d.Posts.length C)[i]? = some y_ := ⟨(boolsB d.Posts.length C)[i]'(by omega), List.getElem?_eq_getElem _⟩
 have hbm : ((boolsB d.Posts.length C).map boolC)[i]? = some (boolC b) := by rw [List.getElem?_map, hb]; rfl
 refine dS (IA i rfl (has_at 6 rfl) te96 (by decide) (by omega) (by omega)) <| dS (LE1 i 0 (Value.bool b) rfl tk4 (has_at 6 rfl) hbm rfl (by decide) rfl) <| dS (MV rfl) ?_
 refine d_bool (t := 31) rfl (fun hg31 => ?_) (fun hg31 => ?_)
 rotate_left 1
 · refine dS (OX rfl) ?_
   refine dS (OX rfl) <| dS (OX rfl) <| dS (OX rfl) <| dS (OX rfl) <| dS (OX rfl) <| dS (OX rfl) <| dS (OX rfl) <| dS (OX rfl) <| dS (PK rfl) <| dS (MV rfl) ?_
   refine dS (OX rfl) <| dS (OX rfl) <| dS (OX rfl) <| dS (OX rfl) <| dS (OX rfl) <| dS (OX rfl) <| dS (OX rfl) <| dS (OX rfl) <| dS (PK rfl) ?_
   obtain ⟨x22, hx23⟩ : ∃ y_, (setB d.Posts.length i (MeetsC d k C))[i]? = some y_ := ⟨(setB d.Posts.length i (MeetsC d k C))[i]'(by omega), List.getElem?_eq_getElem _⟩
   have hx23m : ((setB d.Posts.length i (MeetsC d k C)).map boolC)[i]? = some (boolC x22) := by rw [List.getElem?_map, hx23]; rfl
   refine dS (IA i rfl (has_own_n (n := d.Posts.length) 1 rfl (by first | (simp; done) | (simp; omega))) te96 (by decide) (by omega) (by omega)) <| d_end ?_
   have hb24 : ((setB d.Posts.length i (MeetsC d k C)).set i false) = (setB d.Posts.length (i + 1) (MeetsC d k C)) := by first | exact setB_set (by omega) (mc_off (fun q => Bool.false_ne_true (hg31.symm.trans ((boolsB_get hb).2 q)))) | exact setB_set (by omega) (mc_kind hn hp hg42) | exact setB_set (by omega) (mc_time hge hn hp ((boolsB_get hb).1 hg31) hg42)
   refine r_store_own (k := i) (o := 0) (vs := [(Value.bool false)]) (es' := (List.map boolC (setB d.Posts.length (i + 1) (MeetsC d k C)))) (C' := [_, (own (some ⟨b4, 0, none⟩) d.Posts.length 4 1 (List.map boolC (setB d.Posts.length (i + 1) (MeetsC d k C)))), _, _, _, _, _]) 1 rfl rfl rfl ts4 rfl rfl rfl rfl hx23m rfl (by decide) (by exact (List.map_set (f := boolC) (l := (setB d.Posts.length i (MeetsC d k C))) (i := i) (a := false)).symm.trans (congrArg _ hb24)) rfl <| r_nil <| k_block <| KK hK13 <| w_region <| rS (MV rfl) <| rS (BI rfl (b_add ⟨by omega, by omega⟩)) <| rS (AG rfl) <| r_nil ?_
   have hb25 : (Value.int .i64 (((i + 1) : Nat) : Int)) = (Value.int .i64 (((i : Nat) : Int) + 1)) := by exact congrArg (Value.int .i64) (by omega)
   refine k_then (hJ9 ⟨(i + 1), (by first | omega | (simp only []; omega))⟩ _ _ _ rfl (by first | omega | (simp; omega)) (Sub.cons rfl <| Sub.cons rfl <| Sub.cons rfl <| Sub.cons rfl <| Sub.cons rfl <| sub_val rfl hb25 <| Sub.nil _) (fun w hs => St.sel [0, 1, 2, 3, 4, 5, 6] rfl rfl hs))
 refine dS (FA 1 rfl fo32_1 rfl) <| dS (L1 (Value.slice pA d.Posts.length pC) 2 rfl tk25 rfl rfl) <| dS (MV rfl) ?_
 obtain ⟨p, hp⟩ : ∃ y_, d.Posts[i]? = some y_ := ⟨d.Posts[i]'(by omega), List.getElem?_eq_getElem _⟩
 have hpm : (d.Posts.map PostV.cells)[i]? = some (PostV.cells p) := by rw [List.getElem?_map, hp]; rfl
 refine dS (IA i rfl (has_at 4 rfl) te25 (by decide) (by omega) (by omega)) <| dS (FAR ((i * 7) + 1) rfl (has_at 4 rfl) (Nat.mul_pos (by omega) (by decide)) fo62_1 rfl) <| dS (LE1 i 1 (Value.int .u8 p.Kind) rfl tk5 (has_at 4 rfl) hpm rfl (by decide) rfl) <| dS (FA 1 rfl fo57_1 rfl) <| dS (L1 (Value.int .u8 n.Kind) 0 rfl tk5 rfl rfl) <| dS (BI rfl b_eql) <| dS (PK rfl) <| dS (MV rfl) ?_
 refine d_bool (t := 42) rfl (fun hg42 => ?_) (fun hg42 => ?_)
 rotate_left 1
 · replace hg42 := DF hg42
   refine dS (OX rfl) <| dS (OX rfl) <| dS (OX rfl) <| dS (OX rfl) <| dS (OX rfl) <| dS (OX rfl) <| dS (OX rfl) <| dS (OX rfl) <| dS (PK rfl) ?_
   obtain ⟨x18, hx19⟩ : ∃ y_, (setB d.Posts.length i (MeetsC d k C))[i]? = some y_ := ⟨(setB d.Posts.length i (MeetsC d k C))[i]'(by omega), List.getElem?_eq_getElem _⟩
   have hx19m : ((setB d.Posts.length i (MeetsC d k C)).map boolC)[i]? = some (boolC x18) := by rw [List.getElem?_map, hx19]; rfl
   refine dS (IA i rfl (has_own_n (n := d.Posts.length) 1 rfl (by first | (simp; done) | (simp; omega))) te96 (by decide) (by omega) (by omega)) <| d_end ?_
   have hb20 : ((setB d.Posts.length i (MeetsC d k C)).set i false) = (setB d.Posts.length (i + 1) (MeetsC d k C)) := by first | exact setB_set (by omega) (mc_off (fun q => Bool.false_ne_true (hg31.symm.trans ((boolsB_get hb).2 q)))) | exact setB_set (by omega) (mc_kind hn hp hg42) | exact setB_set (by omega) (mc_time hge hn hp ((boolsB_get hb).1 hg31) hg42)
   refine r_store_own (k := i) (o := 0) (vs := [(Value.bool false)]) (es' := (List.map boolC (setB d.Posts.length (i + 1) (MeetsC d k C)))) (C' := [_, (own (some ⟨b4, 0, none⟩) d.Posts.length 4 1 (List.map boolC (setB d.Posts.length (i + 1) (MeetsC d k C)))), _, _, _, _, _]) 1 rfl rfl rfl ts4 rfl rfl rfl rfl hx19m rfl (by decide) (by exact (List.map_set (f := boolC) (l := (setB d.Posts.length i (MeetsC d k C))) (i := i) (a := false)).symm.trans (congrArg _ hb20)) rfl <| r_nil <| k_block <| KK hK13 <| w_region <| rS (MV rfl) <| rS (BI rfl (b_add ⟨by omega, by omega⟩)) <| rS (AG rfl) <| r_nil ?_
   have hb21 : (Value.int .i64 (((i + 1) : Nat) : Int)) = (Value.int .i64 (((i : Nat) : Int) + 1)) := by exact congrArg (Value.int .i64) (by omega)
   refine k_then (hJ9 ⟨(i + 1), (by first | omega | (simp only []; omega))⟩ _ _ _ rfl (by first | omega | (simp; omega)) (Sub.cons rfl <| Sub.cons rfl <| Sub.cons rfl <| Sub.cons rfl <| Sub.cons rfl <| sub_val rfl hb21 <| Sub.nil _) (fun w hs => St.sel [0, 1, 2, 3, 4, 5, 6] rfl rfl hs))
 replace hg42 := DT hg42
 refine dS (LW 2 rfl tk32 rfl rfl) <| dS (MV rfl) <| dS (FA 0 rfl fo57_0 rfl) <| dS (L1 (Value.int .i64 n.Stretch) 0 rfl tk3 rfl rfl) <| dS (CL (rtime_c d kA kC pA pC nA nC ((i : Nat) : Int) n.Stretch (by exact hin) hge (by first | assumption | omega | (simp; done) | (simp; omega))) (ha_at 3 rfl rfl <| ha_at 4 rfl rfl <| ha_at 5 rfl rfl <| ha_nil) rfl) <| dS (FA 2 rfl fo57_2 rfl) <| dS (L1 (Value.int .i64 n.Seconds) 0 rfl tk3 rfl rfl) <| dS (BI rfl b_leq) <| dS (PK rfl) ?_
 obtain ⟨x14, hx15⟩ : ∃ y_, (setB d.Posts.length i (MeetsC d k C))[i]? = some y_ := ⟨(setB d.Posts.length i (MeetsC d k C))[i]'(by omega), List.getElem?_eq_getElem _⟩
 have hx15m : ((setB d.Posts.length i (MeetsC d k C)).map boolC)[i]? = some (boolC x14) := by rw [List.getElem?_map, hx15]; rfl
 refine dS (IA i rfl (has_own_n (n := d.Posts.length) 1 rfl (by first | (simp; done) | (simp; omega))) te96 (by decide) (by omega) (by omega)) <| d_end ?_
 have hb16 : ((setB d.Posts.length i (MeetsC d k C)).set i (decide ((timeV d ((i : Nat) : Int) n.Stretch) ≤ n.Seconds))) = (setB d.Posts.length (i + 1) (MeetsC d k C)) := by first | exact setB_set (by omega) (mc_off (fun q => Bool.false_ne_true (hg31.symm.trans ((boolsB_get hb).2 q)))) | exact setB_set (by omega) (mc_kind hn hp hg42) | exact setB_set (by omega) (mc_time hge hn hp ((boolsB_get hb).1 hg31) hg42)
 refine r_store_own (k := i) (o := 0) (vs := [(Value.bool (decide ((timeV d ((i : Nat) : Int) n.Stretch) ≤ n.Seconds)))]) (es' := (List.map boolC (setB d.Posts.length (i + 1) (MeetsC d k C)))) (C' := [_, (own (some ⟨b4, 0, none⟩) d.Posts.length 4 1 (List.map boolC (setB d.Posts.length (i + 1) (MeetsC d k C)))), _, _, _, _, _]) 1 rfl rfl rfl ts4 rfl rfl rfl rfl hx15m rfl (by decide) (by exact (List.map_set (f := boolC) (l := (setB d.Posts.length i (MeetsC d k C))) (i := i) (a := (decide ((timeV d ((i : Nat) : Int) n.Stretch) ≤ n.Seconds)))).symm.trans (congrArg _ hb16)) rfl <| r_nil <| k_block <| KK hK13 <| w_region <| rS (MV rfl) <| rS (BI rfl (b_add ⟨by omega, by omega⟩)) <| rS (AG rfl) <| r_nil ?_
 have hb17 : (Value.int .i64 (((i + 1) : Nat) : Int)) = (Value.int .i64 (((i : Nat) : Int) + 1)) := by exact congrArg (Value.int .i64) (by omega)
 refine k_then (hJ9 ⟨(i + 1), (by first | omega | (simp only []; omega))⟩ _ _ _ rfl (by first | omega | (simp; omega)) (Sub.cons rfl <| Sub.cons rfl <| Sub.cons rfl <| Sub.cons rfl <| Sub.cons rfl <| sub_val rfl hb17 <| Sub.nil _) (fun w hs => St.sel [0, 1, 2, 3, 4, 5, 6] rfl rfl hs))
set_option maxRecDepth 100000 in
set_option maxHeartbeats 400000 in
theorem rCalled_c (d : GuardM) (kA : Option Addr) (kC : Nat) (pA : Option Addr) (pC : Nat) (nA : Option Addr) (nC : Nat) (l : List Int) (lA : Option Addr) (lC : Nat) (hin : GuardIn d) (hll : l.length ≤ 1000000) :
    FnX Try.prog 20 [(Value.agg (GuardV.cells (GuardV.mk (TrackV.mk (Slc.mk kA d.Track.length kC)) (Slc.mk pA d.Posts.length pC) (Slc.mk nA d.Needs.length nC) d.Tower d.Radio)).toArray), (Value.slice lA l.length lC)] [(rd kA d.Track.length 9 (d.Track.map StretchV.cells)), (rd pA d.Posts.length 7 (d.Posts.map PostV.cells)), (rd nA d.Needs.length 3 (d.Needs.map NeedV.cells)), (rd lA l.length 1 (l.map iC))] (fun (x : (Option Addr) × Nat) => (Value.tuple [(Value.slice x.1 ((calledV d l).length) x.2), (Value.int .i64 (mannedE d l))].toArray)) (fun (x : (Option Addr) × Nat) => True) (fun (x : (Option Addr) × Nat) => [(own x.1 x.2 3 1 ((calledV d l).map iC))]) := by
 have hlen := hin.trk
 have hside := hin.side
 have hpl := hin.pst
 have hnl := hin.nds
 have hnk := hin.nk
 have hpk := hin.pk
 refine fnX_of go20 Try.func20 rfl rfl fun w0 Q hQ hN => ?_
 try dsimp only
 refine WS fun _ hK1 => BXA rfl fun b2 => rS (AG rfl) <| rS (AG rfl) <| RK hK1 <| w_seq fun _ hK3 => WS fun _ hK4 => rS (LW 0 rfl tk32 rfl rfl) <| rS (CL (rpcheck_c d kA kC pA pC nA nC hin) (ha_at 1 rfl rfl <| ha_at 2 rfl rfl <| ha_at 3 rfl rfl <| ha_nil) rfl) <| rS (AG rfl) ?_
 refine RK hK4 <| WS fun _ hK5 => rS (MV rfl) <| rS (BI rfl b_neq) <| RK hK5 ?_
 refine w_if rfl (fun hg10 => ?_) (fun hg10 => ?_)
 · replace hg10 := XT hg10
   refine WS fun _ hK6 => rS (MV rfl) ?_
   have he := manned_bad (l := l) hg10; have hcn : calledV d l = [] := calledV_no (by rw [he]; exact hg10)
   refine r_own_nil 3 1 ?_
   rw [show (own none 0 3 1 ([] : List (List Value))) = own none 0 3 1 ((calledV d l).map iC) from by rw [hcn]; rfl]
   refine rS (AG rfl) <| rS (AG rfl) <| RK hK6 <| w_ret ?_
   refine hQ _ _ _ (l_nil (vs := [(Value.slice none 0 0), (Value.int .i64 (guardE d))]) ⟨rfl, rfl, trivial⟩ fun w hs => endX (none, 0) [0] ?_ ?_ rfl rfl rfl hs)
   · first | (rw [hcn, he] <;> rfl) | (rw [manned_in hg10 hg15] <;> rfl)
   · trivial
 replace hg10 := XF hg10
 refine WK hK3 <| w_seq fun _ hK7 => WS fun _ hK8 => rS (LW 0 rfl tk32 rfl rfl) <| rS (MV rfl) <| rS (CL (remp_c d kA kC pA pC nA nC l lA lC hin hll) (ha_at 1 rfl rfl <| ha_at 2 rfl rfl <| ha_at 3 rfl rfl <| ha_at 4 rfl rfl <| ha_nil) rfl) <| rS (NT rfl) <| RK hK8 ?_
 refine w_if rfl (fun hg15 => ?_) (fun hg15 => ?_)
 · replace hg15 := XT hg15
   refine WS fun _ hK9 => ?_
   have he := manned_out hg10 hg15; have hcn : calledV d l = [] := calledV_no (by rw [he]; decide)
   refine r_own_nil 3 1 ?_
   rw [show (own none 0 3 1 ([] : List (List Value))) = own none 0 3 1 ((calledV d l).map iC) from by rw [hcn]; rfl]
   refine rS (AG rfl) <| rS (AG rfl) <| RK hK9 <| w_ret ?_
   refine hQ _ _ _ (l_nil (vs := [(Value.slice none 0 0), (Value.int .i64 2)]) ⟨rfl, rfl, trivial⟩ fun w hs => endX (none, 0) [0] ?_ ?_ rfl rfl rfl hs)
   · first | (rw [hcn, he] <;> rfl) | (rw [manned_in hg10 hg15] <;> rfl)
   · trivial
 replace hg15 := XF hg15
 refine WK hK7 <| w_seq fun _ hK10 => w_draw4 mixed [0, 1, 2, 7] [3, 4, 5, 6] [false, false, false, false] [false, false, false, false] [(blk b2 32 (GuardV.cells (GuardV.mk (TrackV.mk (Slc.mk kA d.Track.length kC)) (Slc.mk pA d.Posts.length pC) (Slc.mk nA d.Needs.length nC) d.Tower d.Radio))), (rd kA d.Track.length 9 (d.Track.map StretchV.cells)).ro, (rd pA d.Posts.length 7 (d.Posts.map PostV.cells)).ro, (rd nA d.Needs.length 3 (d.Needs.map NeedV.cells)).ro, (rd lA l.length 1 (l.map iC)).ro] [] (by kernel_rfl) (fun w hs => St.sel [0, 1, 2, 3, 4] rfl rfl hs) (fun w hs => St.sel [] rfl rfl hs) <| eS rfl (LW 0 rfl tk32 rfl rfl) <| eS rfl (LW 0 rfl tk32 rfl rfl) <| eS rfl (MV rfl) <| eS rfl (AG rfl) <| d_fin rfl <| t_cons rfl fun T11 hT11 => cX (rmanned_c d kA kC pA pC nA nC l lA lC hin hll) (ha_at 1 rfl rfl <| ha_at 2 rfl rfl <| ha_at 3 rfl rfl <| ha_at 4 rfl rfl <| ha_nil) rfl fun y12 hy13 => ?_
 obtain ⟨a14, c15⟩ := y12
 try dsimp only
 refine r_nil (hT11 _ _ (fun w hs => St.sel [1, 2, 3, 4, 5] rfl rfl hs) ?_)
 refine t_cons rfl fun T16 hT16 => cX (rcalled_c d kA kC pA pC nA nC (notIn l) a14 c15 hin (by first | assumption | omega | (simp; done) | (simp; omega))) (ha_at 2 rfl rfl <| ha_at 3 rfl rfl <| ha_at 4 rfl rfl <| ha_cons (has_own_n (n := (boolsB d.Posts.length (notIn l)).length) 0 rfl (by simp)) <| ha_nil) rfl fun y17 hy18 => ?_
 obtain ⟨a19, c20⟩ := y17
 try dsimp only
 refine r_nil (hT16 _ _ (fun w hs => St.sel [2, 3, 4, 5, 6] rfl rfl hs) ?_)
 refine t_cons rfl fun T21 hT21 => cX (rlist_c (boolsB d.Posts.length (CallsP d (notIn l))) a19 c20 (by rw [boolsB_len]; omega)) (ha_cons (has_own_n (n := (boolsB d.Posts.length (CallsP d (notIn l))).length) 0 rfl (by simp)) <| ha_nil) rfl fun y22 hy23 => ?_
 obtain ⟨a24, c25⟩ := y22
 try dsimp only
 refine r_nil (hT21 _ _ (fun w hs => St.sel [3, 4, 5, 6, 7] rfl rfl hs) ?_)
 refine t_cons rfl fun T26 hT26 => ?_
 rw [bools_idx, ← calledV_idx (manned_in hg10 hg15)]
 refine rS (AG rfl) ?_
 refine r_nil (hT26 _ _ (fun w hs => St.sel [3, 4, 5, 6, 7] rfl rfl hs) ?_)
 refine t_fin rfl <| KK hK10 <| w_ret ?_
 refine hQ _ _ _ (l_nil (vs := [(Value.slice a24 ((calledV d l).length) c25), (Value.int .i64 0)]) ⟨rfl, rfl, trivial⟩ fun w hs => endX (a24, c25) [0] ?_ ?_ rfl rfl rfl hs)
 · first | (rw [hcn, he] <;> rfl) | (rw [manned_in hg10 hg15] <;> rfl)
 · trivial
set_option maxRecDepth 100000 in
set_option maxHeartbeats 400000 in
theorem rMeets_c (d : GuardM) (kA : Option Addr) (kC : Nat) (pA : Option Addr) (pC : Nat) (nA : Option Addr) (nC : Nat) (nd : Int) (l : List Int) (lA : Option Addr) (lC : Nat) (hin : GuardIn d) (hll : l.length ≤ 1000000) :
    FnX Try.prog 22 [(Value.agg (GuardV.cells (GuardV.mk (TrackV.mk (Slc.mk kA d.Track.length kC)) (Slc.mk pA d.Posts.length pC) (Slc.mk nA d.Needs.length nC) d.Tower d.Radio)).toArray), (Value.int .i64 nd), (Value.slice lA l.length lC)] [(rd kA d.Track.length 9 (d.Track.map StretchV.cells)), (rd pA d.Posts.length 7 (d.Posts.map PostV.cells)), (rd nA d.Needs.length 3 (d.Needs.map NeedV.cells)), (rd lA l.length 1 (l.map iC))] (fun (x : (Option Addr) × Nat) => (Value.tuple [(Value.slice x.1 ((meetsV d nd l).length) x.2), (Value.int .i64 (meetsE d nd l))].toArray)) (fun (x : (Option Addr) × Nat) => True) (fun (x : (Option Addr) × Nat) => [(own x.1 x.2 3 1 ((meetsV d nd l).map iC))]) := by
 have hlen := hin.trk
 have hside := hin.side
 have hpl := hin.pst
 have hnl := hin.nds
 have hnk := hin.nk
 have hpk := hin.pk
 refine fnX_of go22 Try.func22 rfl rfl fun w0 Q hQ hN => ?_
 try dsimp only
 refine WS fun _ hK1 => BXA rfl fun b2 => rS (AG rfl) <| rS (AG rfl) <| RK hK1 <| w_seq fun _ hK3 => WS fun _ hK4 => rS (LW 0 rfl tk32 rfl rfl) <| rS (CL (rpcheck_c d kA kC pA pC nA nC hin) (ha_at 1 rfl rfl <| ha_at 2 rfl rfl <| ha_at 3 rfl rfl <| ha_nil) rfl) <| rS (AG rfl) ?_
 refine RK hK4 <| WS fun _ hK5 => rS (MV rfl) <| rS (BI rfl b_neq) <| RK hK5 ?_
 refine w_if rfl (fun hg12 => ?_) (fun hg12 => ?_)
 · replace hg12 := XT hg12
   refine WS fun _ hK6 => rS (MV rfl) ?_
   have hmb := manned_bad (l := l) hg12; have hm0 : ¬ mannedE d l = 0 := (by rw [hmb]; exact hg12); have he : meetsE d nd l = guardE d := (meetsE_bad hm0).2.trans hmb; have hcn : meetsV d nd l = [] := meetsV_no (by rw [he]; exact hg12)
   refine r_own_nil 3 1 ?_
   rw [show (own none 0 3 1 ([] : List (List Value))) = own none 0 3 1 ((meetsV d nd l).map iC) from by rw [hcn]; rfl]
   refine rS (AG rfl) <| rS (AG rfl) <| RK hK6 <| w_ret ?_
   refine hQ _ _ _ (l_nil (vs := [(Value.slice none 0 0), (Value.int .i64 (guardE d))]) ⟨rfl, rfl, trivial⟩ fun w hs => endX (none, 0) [0] ?_ ?_ rfl rfl rfl hs)
   · first | (rw [hcn, he] <;> rfl) | (rw [(meetsC_idx (manned_in hg12 hg26) hg21).1] <;> rfl)
   · trivial
 replace hg12 := XF hg12
 refine WK hK3 <| w_seq fun _ hK7 => WS fun _ hK8 => rS (MV rfl) <| rS (FA 2 rfl fo32_2 rfl) <| rS (L1 (Value.slice nA d.Needs.length nC) 0 rfl tk26 rfl rfl) <| rS (LN rfl ut26) <| rS (BI rfl (b_sub ⟨by omega, by omega⟩)) <| rS (CL (within_9 nd 0 (((d.Needs.length : Nat) : Int) - 1)) (ha_nil) rfl) <| rS (NT rfl) ?_
 refine rS (MV rfl) ?_
 refine r_bool (t := 21) rfl (fun hg21 => ?_) (fun hg21 => ?_)
 · replace hg21 := XT hg21
   refine rS (OX rfl) <| rS (OX rfl) <| rS (OX rfl) <| rS (OX rfl) <| rS (PK rfl) <| RK hK8 <| w_if_true rfl <| WS fun _ hK9 => ?_
   obtain ⟨he, hcn⟩ := meets_two (k := nd) (l := l) hg12 (by first | exact .inl hg21 | exact .inr hg26)
   refine r_own_nil 3 1 ?_
   rw [show (own none 0 3 1 ([] : List (List Value))) = own none 0 3 1 ((meetsV d nd l).map iC) from by rw [hcn]; rfl]
   refine rS (AG rfl) <| rS (AG rfl) <| RK hK9 <| w_ret ?_
   refine hQ _ _ _ (l_nil (vs := [(Value.slice none 0 0), (Value.int .i64 2)]) ⟨rfl, rfl, trivial⟩ fun w hs => endX (none, 0) [0] ?_ ?_ rfl rfl rfl hs)
   · first | (rw [hcn, he] <;> rfl) | (rw [(meetsC_idx (manned_in hg12 hg26) hg21).1] <;> rfl)
   · trivial
 replace hg21 := XF hg21
 refine rS (LW 0 rfl tk32 rfl rfl) <| rS (MV rfl) <| rS (CL (remp_c d kA kC pA pC nA nC l lA lC hin hll) (ha_at 1 rfl rfl <| ha_at 2 rfl rfl <| ha_at 3 rfl rfl <| ha_at 4 rfl rfl <| ha_nil) rfl) <| rS (NT rfl) <| rS (PK rfl) <| RK hK8 ?_
 refine w_if rfl (fun hg26 => ?_) (fun hg26 => ?_)
 · replace hg26 := XT hg26
   refine WS fun _ hK10 => ?_
   obtain ⟨he, hcn⟩ := meets_two (k := nd) (l := l) hg12 (by first | exact .inl hg21 | exact .inr hg26)
   refine r_own_nil 3 1 ?_
   rw [show (own none 0 3 1 ([] : List (List Value))) = own none 0 3 1 ((meetsV d nd l).map iC) from by rw [hcn]; rfl]
   refine rS (AG rfl) <| rS (AG rfl) <| RK hK10 <| w_ret ?_
   refine hQ _ _ _ (l_nil (vs := [(Value.slice none 0 0), (Value.int .i64 2)]) ⟨rfl, rfl, trivial⟩ fun w hs => endX (none, 0) [0] ?_ ?_ rfl rfl rfl hs)
   · first | (rw [hcn, he] <;> rfl) | (rw [(meetsC_idx (manned_in hg12 hg26) hg21).1] <;> rfl)
   · trivial
 replace hg26 := XF hg26
 refine WK hK7 <| w_seq fun _ hK11 => w_draw4 mixed [0, 1, 2, 3, 4, 10] [5, 6, 7, 8, 9] [false, false, false, false, false, false] [false, false, false, false, false] [(blk b2 32 (GuardV.cells (GuardV.mk (TrackV.mk (Slc.mk kA d.Track.length kC)) (Slc.mk pA d.Posts.length pC) (Slc.mk nA d.Needs.length nC) d.Tower d.Radio))), (rd kA d.Track.length 9 (d.Track.map StretchV.cells)).ro, (rd pA d.Posts.length 7 (d.Posts.map PostV.cells)).ro, (rd nA d.Needs.length 3 (d.Needs.map NeedV.cells)).ro, (rd lA l.length 1 (l.map iC)).ro] [] (by kernel_rfl) (fun w hs => St.sel [0, 1, 2, 3, 4] rfl rfl hs) (fun w hs => St.sel [] rfl rfl hs) <| eS rfl (LW 0 rfl tk32 rfl rfl) <| eS rfl (MV rfl) <| eS rfl (LW 0 rfl tk32 rfl rfl) <| eS rfl (LW 0 rfl tk32 rfl rfl) <| eS rfl (MV rfl) <| eS rfl (AG rfl) <| d_fin rfl ?_
 refine t_cons rfl fun T12 hT12 => cX (rmanned_c d kA kC pA pC nA nC l lA lC hin hll) (ha_at 1 rfl rfl <| ha_at 2 rfl rfl <| ha_at 3 rfl rfl <| ha_at 4 rfl rfl <| ha_nil) rfl fun y13 hy14 => ?_
 obtain ⟨a15, c16⟩ := y13
 try dsimp only
 refine r_nil (hT12 _ _ (fun w hs => St.sel [1, 2, 3, 4, 5] rfl rfl hs) ?_)
 refine t_cons rfl fun T17 hT17 => cX (rcalled_c d kA kC pA pC nA nC (notIn l) a15 c16 hin (by first | assumption | omega | (simp; done) | (simp; omega))) (ha_at 2 rfl rfl <| ha_at 3 rfl rfl <| ha_at 4 rfl rfl <| ha_cons (has_own_n (n := (boolsB d.Posts.length (notIn l)).length) 0 rfl (by simp)) <| ha_nil) rfl fun y18 hy19 => ?_
 obtain ⟨a20, c21⟩ := y18
 try dsimp only
 refine r_nil (hT17 _ _ (fun w hs => St.sel [2, 3, 4, 5, 6] rfl rfl hs) ?_)
 refine t_cons rfl fun T22 hT22 => cX (rmeets_c d kA kC pA pC nA nC nd (CallsP d (notIn l)) a20 c21 hin (by first | assumption | omega | (simp; done) | (simp; omega)) (by first | assumption | omega | (simp; done) | (simp; omega))) (ha_at 3 rfl rfl <| ha_at 4 rfl rfl <| ha_at 5 rfl rfl <| ha_cons (has_own_n (n := (boolsB d.Posts.length (CallsP d (notIn l))).length) 0 rfl (by simp)) <| ha_nil) rfl fun y23 hy24 => ?_
 obtain ⟨a25, c26⟩ := y23
 try dsimp only
 refine r_nil (hT22 _ _ (fun w hs => St.sel [3, 4, 5, 6, 7] rfl rfl hs) ?_)
 refine t_cons rfl fun T27 hT27 => cX (rlist_c (boolsB d.Posts.length (MeetsC d nd (CallsP d (notIn l)))) a25 c26 (by rw [boolsB_len]; omega)) (ha_cons (has_own_n (n := (boolsB d.Posts.length (MeetsC d nd (CallsP d (notIn l)))).length) 0 rfl (by simp)) <| ha_nil) rfl fun y28 hy29 => ?_
 obtain ⟨a30, c31⟩ := y28
 try dsimp only
 refine r_nil (hT27 _ _ (fun w hs => St.sel [4, 5, 6, 7, 8] rfl rfl hs) ?_)
 refine t_cons rfl fun T32 hT32 => ?_
 rw [bools_idx, (meetsC_idx (manned_in hg12 hg26) hg21).2]
 refine rS (AG rfl) ?_
 refine r_nil (hT32 _ _ (fun w hs => St.sel [4, 5, 6, 7, 8] rfl rfl hs) ?_)
 refine t_fin rfl <| KK hK11 <| w_ret ?_
 refine hQ _ _ _ (l_nil (vs := [(Value.slice a30 ((meetsV d nd l).length) c31), (Value.int .i64 0)]) ⟨rfl, rfl, trivial⟩ fun w hs => endX (a30, c31) [0] ?_ ?_ rfl rfl rfl hs)
 · first | (rw [hcn, he] <;> rfl) | (rw [(meetsC_idx (manned_in hg12 hg26) hg21).1] <;> rfl)
 · trivial
set_option maxRecDepth 100000 in
set_option maxHeartbeats 400000 in
theorem rsame_c (d : GuardM) (kA : Option Addr) (kC : Nat) (pA : Option Addr) (pC : Nat) (nA : Option Addr) (nC : Nat) (k2A : Option Addr) (k2C : Nat) (p2A : Option Addr) (p2C : Nat) (n2A : Option Addr) (n2C : Nat) (hin : GuardIn d) :
    FnV Try.prog 26 [(Value.agg (GuardV.cells (GuardV.mk (TrackV.mk (Slc.mk kA d.Track.length kC)) (Slc.mk pA d.Posts.length pC) (Slc.mk nA d.Needs.length nC) d.Tower d.Radio)).toArray), (Value.agg (GuardV.cells (GuardV.mk (TrackV.mk (Slc.mk k2A d.Track.length k2C)) (Slc.mk p2A d.Posts.length p2C) (Slc.mk n2A d.Needs.length n2C) d.Tower d.Radio)).toArray)] [(rd kA d.Track.length 9 (d.Track.map StretchV.cells)), (rd pA d.Posts.length 7 (d.Posts.map PostV.cells)), (rd nA d.Needs.length 3 (d.Needs.map NeedV.cells)), (rd k2A d.Track.length 9 (d.Track.map StretchV.cells)), (rd p2A d.Posts.length 7 (d.Posts.map PostV.cells)), (rd n2A d.Needs.length 3 (d.Needs.map NeedV.cells))] (Value.bool true) := by
 have hlen := hin.trk
 have hside := hin.side
 have hpl := hin.pst
 have hnl := hin.nds
 have hnk := hin.nk
 have hpk := hin.pk
 refine fnV_of go26 Try.func26 rfl rfl fun w0 Q hQ hN => ?_
 try dsimp only
 refine WS fun _ hK1 => BXA rfl fun b2 => BXA rfl fun b3 => rS (AG rfl) <| RK hK1 <| w_seq fun _ hK4 => WS fun _ hK5 => rS (FA 0 rfl fo32_0 rfl) <| rS (LP (TrackV.cells (TrackV.mk (Slc.mk kA d.Track.length kC))) 1 rfl tk24 rfl rfl rfl) <| rS (FA 0 rfl fo32_0 rfl) ?_
 refine rS (LP (TrackV.cells (TrackV.mk (Slc.mk k2A d.Track.length k2C))) 0 rfl tk24 rfl rfl rfl) <| rS (CL (same_c d.Track kA kC d.Track k2A k2C (by first | assumption | omega | (simp; done) | (simp; omega)) (by first | assumption | omega | (simp; done) | (simp; omega))) (ha_at 2 rfl rfl <| ha_at 5 rfl rfl <| ha_nil) rfl) <| rS (NT rfl) <| rS (MV rfl) ?_
 refine r_bool (t := 13) rfl (fun hg13 => ?_) (fun hg13 => ?_)
 · replace hg13 := XT hg13
   exact absurd rfl hg13
 replace hg13 := XF hg13
 refine rS (FA 3 rfl fo32_3 rfl) <| rS (LP (SpotV.cells d.Tower) 1 rfl tk30 rfl rfl rfl) <| rS (FA 3 rfl fo32_3 rfl) <| rS (LP (SpotV.cells d.Tower) 0 rfl tk30 rfl rfl rfl) <| rS (BI rfl (nes30 _ _ d.Tower d.Tower)) <| rS (PK rfl) <| rS (MV rfl) ?_
 refine r_bool (t := 20) rfl (fun hg20 => ?_) (fun hg20 => ?_)
 · replace hg20 := XT hg20
   exact absurd rfl hg20
 replace hg20 := XF hg20
 refine rS (FA 6 rfl fo32_4 rfl) <| rS (L1 (Value.int .i64 d.Radio) 1 rfl tk3 rfl rfl) <| rS (FA 6 rfl fo32_4 rfl) <| rS (L1 (Value.int .i64 d.Radio) 0 rfl tk3 rfl rfl) <| rS (BI rfl b_neq) <| rS (PK rfl) <| rS (MV rfl) ?_
 refine r_bool (t := 27) rfl (fun hg27 => ?_) (fun hg27 => ?_)
 · replace hg27 := XT hg27
   exact absurd rfl hg27
 replace hg27 := XF hg27
 refine rS (FA 1 rfl fo32_1 rfl) <| rS (L1 (Value.slice pA d.Posts.length pC) 1 rfl tk25 rfl rfl) <| rS (LN rfl ut25) <| rS (FA 1 rfl fo32_1 rfl) <| rS (L1 (Value.slice p2A d.Posts.length p2C) 0 rfl tk25 rfl rfl) <| rS (LN rfl ut25) <| rS (BI rfl b_neq) <| rS (PK rfl) <| rS (MV rfl) ?_
 refine r_bool (t := 36) rfl (fun hg36 => ?_) (fun hg36 => ?_)
 · replace hg36 := XT hg36
   exact absurd rfl hg36
 replace hg36 := XF hg36
 refine rS (FA 2 rfl fo32_2 rfl) <| rS (L1 (Value.slice nA d.Needs.length nC) 1 rfl tk26 rfl rfl) <| rS (LN rfl ut26) <| rS (FA 2 rfl fo32_2 rfl) <| rS (L1 (Value.slice n2A d.Needs.length n2C) 0 rfl tk26 rfl rfl) <| rS (LN rfl ut26) <| rS (BI rfl b_neq) <| rS (PK rfl) <| RK hK5 ?_
 refine w_if rfl (fun hg44 => ?_) (fun hg44 => ?_)
 · replace hg44 := XT hg44
   exact absurd rfl hg44
 replace hg44 := XF hg44
 refine WK hK4 <| w_seq fun _ hK6 => WS fun _ hK7 => rS (AG rfl) <| RK hK7 <| w_block ?_
 have hinit : (0 ≤ d.Posts.length) := by exact Nat.zero_le _
 refine w_loop (ι := { z : Nat // (z ≤ d.Posts.length) }) (fun z => [(2, (Value.pointer (some ⟨b2, 0, none⟩))), (3, (Value.pointer (some ⟨b3, 0, none⟩))), (5, (Value.int .i64 ((z.1 : Nat) : Int)))]) (fun z => [(blk b3 32 (GuardV.cells (GuardV.mk (TrackV.mk (Slc.mk k2A d.Track.length k2C)) (Slc.mk p2A d.Posts.length p2C) (Slc.mk n2A d.Needs.length n2C) d.Tower d.Radio))), (blk b2 32 (GuardV.cells (GuardV.mk (TrackV.mk (Slc.mk kA d.Track.length kC)) (Slc.mk pA d.Posts.length pC) (Slc.mk nA d.Needs.length nC) d.Tower d.Radio))), (rd kA d.Track.length 9 (d.Track.map StretchV.cells)).ro, (rd pA d.Posts.length 7 (d.Posts.map PostV.cells)).ro, (rd nA d.Needs.length 3 (d.Needs.map NeedV.cells)).ro, (rd k2A d.Track.length 9 (d.Track.map StretchV.cells)).ro, (rd p2A d.Posts.length 7 (d.Posts.map PostV.cells)).ro, (rd n2A d.Needs.length 3 (d.Needs.map NeedV.cells)).ro]) (fun z => d.Posts.length - z.1) ⟨0, hinit⟩ (Sub.cons rfl <| Sub.cons rfl <| Sub.cons rfl <| Sub.nil _) (fun w hs => St.sel [0, 1, 2, 3, 4, 5, 6, 7] rfl rfl hs) ?_
 clear hinit
 rintro ⟨i, hl4_0⟩ J8 hJ8
 try dsimp only
 refine w_seq fun _ hK9 => WS fun _ hK10 => rS (MV rfl) <| rS (FA 1 rfl fo32_1 rfl) <| rS (L1 (Value.slice pA d.Posts.length pC) 1 rfl tk25 rfl rfl) <| rS (LN rfl ut25) <| rS (BI rfl b_lss) <| RK hK10 ?_
 refine w_if rfl (fun h11 => ?_) (fun h11 => ?_)
 · replace h11 := DT h11
   refine WK hK9 <| w_seq fun _ hK12 => w_block <| w_seq fun _ hK13 => w_draw mixed 11 (by kernel_rfl) <| dS (FA 1 rfl fo32_1 rfl) <| dS (L1 (Value.slice pA d.Posts.length pC) 1 rfl tk25 rfl rfl) <| dS (MV rfl) ?_
   obtain ⟨p, hp⟩ : ∃ y_, d.Posts[i]? = some y_ := ⟨d.Posts[i]'(by omega), List.getElem?_eq_getElem _⟩
   have hpm : (d.Posts.map PostV.cells)[i]? = some (PostV.cells p) := by rw [List.getElem?_map, hp]; rfl
   refine dS (IA i rfl (has_at 3 rfl) te25 (by decide) (by omega) (by omega)) <| dS (LEN i 0 (PostV.cells p) rfl tk62 (has_at 3 rfl) hpm rfl (by decide) rfl rfl) <| dS (FA 1 rfl fo32_1 rfl) <| dS (L1 (Value.slice p2A d.Posts.length p2C) 0 rfl tk25 rfl rfl) <| dS (MV rfl) ?_
   obtain ⟨q, hq⟩ : ∃ y_, d.Posts[i]? = some y_ := ⟨d.Posts[i]'(by omega), List.getElem?_eq_getElem _⟩
   have hqm : (d.Posts.map PostV.cells)[i]? = some (PostV.cells q) := by rw [List.getElem?_map, hq]; rfl
   refine dS (IA i rfl (has_at 6 rfl) te25 (by decide) (by omega) (by omega)) <| dS (LEN i 0 (PostV.cells q) rfl tk62 (has_at 6 rfl) hqm rfl (by decide) rfl rfl) <| dS (BI rfl (nes62 _ _ p q)) <| d_end <| RK hK13 ?_
   refine w_if rfl (fun hg62 => ?_) (fun hg62 => ?_)
   · replace hg62 := XT hg62
     exact absurd (Option.some.inj (hp.symm.trans hq)) hg62
   replace hg62 := XF hg62
   refine w_skip <| k_block <| KK hK12 <| w_region <| rS (MV rfl) <| rS (BI rfl (b_add ⟨by omega, by omega⟩)) <| rS (AG rfl) <| r_nil ?_
   have hb14 : (Value.int .i64 (((i + 1) : Nat) : Int)) = (Value.int .i64 (((i : Nat) : Int) + 1)) := by exact congrArg (Value.int .i64) (by omega)
   refine k_then (hJ8 ⟨(i + 1), (by first | omega | (simp only []; omega))⟩ _ _ _ rfl (by first | omega | (simp; omega)) (Sub.cons rfl <| Sub.cons rfl <| sub_val rfl hb14 <| Sub.nil _) (fun w hs => St.sel [0, 1, 2, 3, 4, 5, 6, 7] rfl rfl hs))
 replace h11 := DF h11
 refine w_exit <| k_exit_then <| k_exit_then <| k_exit_same <| KK hK6 <| w_seq fun _ hK15 => WS fun _ hK16 => rS (AG rfl) <| RK hK16 <| w_block ?_
 have hinit : (0 ≤ d.Needs.length) := by exact Nat.zero_le _
 refine w_loop (ι := { z : Nat // (z ≤ d.Needs.length) }) (fun z => [(2, (Value.pointer (some ⟨b2, 0, none⟩))), (3, (Value.pointer (some ⟨b3, 0, none⟩))), (6, (Value.int .i64 ((z.1 : Nat) : Int)))]) (fun z => [(blk b3 32 (GuardV.cells (GuardV.mk (TrackV.mk (Slc.mk k2A d.Track.length k2C)) (Slc.mk p2A d.Posts.length p2C) (Slc.mk n2A d.Needs.length n2C) d.Tower d.Radio))), (blk b2 32 (GuardV.cells (GuardV.mk (TrackV.mk (Slc.mk kA d.Track.length kC)) (Slc.mk pA d.Posts.length pC) (Slc.mk nA d.Needs.length nC) d.Tower d.Radio))), (rd kA d.Track.length 9 (d.Track.map StretchV.cells)).ro, (rd pA d.Posts.length 7 (d.Posts.map PostV.cells)).ro, (rd nA d.Needs.length 3 (d.Needs.map NeedV.cells)).ro, (rd k2A d.Track.length 9 (d.Track.map StretchV.cells)).ro, (rd p2A d.Posts.length 7 (d.Posts.map PostV.cells)).ro, (rd n2A d.Needs.length 3 (d.Needs.map NeedV.cells)).ro]) (fun z => d.Needs.length - z.1) ⟨0, hinit⟩ (Sub.cons rfl <| Sub.cons rfl <| Sub.cons rfl <| Sub.nil _) (fun w hs => St.sel [0, 1, 2, 3, 4, 5, 6, 7] rfl rfl hs) ?_
 clear hinit
 rintro ⟨j, hl9_0⟩ J17 hJ17
 try dsimp only
 refine w_seq fun _ hK18 => WS fun _ hK19 => rS (MV rfl) <| rS (FA 2 rfl fo32_2 rfl) <| rS (L1 (Value.slice nA d.Needs.length nC) 1 rfl tk26 rfl rfl) <| rS (LN rfl ut26) <| rS (BI rfl b_lss) <| RK hK19 ?_
 refine w_if rfl (fun h20 => ?_) (fun h20 => ?_)
 rotate_left 1
 · replace h20 := DF h20
   refine w_exit <| k_exit_then <| k_exit_then <| k_exit_same <| KK hK15 <| WS fun _ hK24 => rS (AG rfl) <| RK hK24 <| w_ret ?_
   exact Q1 hQ rfl rfl rfl rfl
 replace h20 := DT h20
 refine WK hK18 <| w_seq fun _ hK21 => w_block <| w_seq fun _ hK22 => w_draw mixed 11 (by kernel_rfl) <| dS (FA 2 rfl fo32_2 rfl) <| dS (L1 (Value.slice nA d.Needs.length nC) 1 rfl tk26 rfl rfl) <| dS (MV rfl) ?_
 obtain ⟨n, hn⟩ : ∃ y_, d.Needs[j]? = some y_ := ⟨d.Needs[j]'(by omega), List.getElem?_eq_getElem _⟩
 have hnm : (d.Needs.map NeedV.cells)[j]? = some (NeedV.cells n) := by rw [List.getElem?_map, hn]; rfl
 refine dS (IA j rfl (has_at 4 rfl) te26 (by decide) (by omega) (by omega)) <| dS (LEN j 0 (NeedV.cells n) rfl tk57 (has_at 4 rfl) hnm rfl (by decide) rfl rfl) <| dS (FA 2 rfl fo32_2 rfl) <| dS (L1 (Value.slice n2A d.Needs.length n2C) 0 rfl tk26 rfl rfl) <| dS (MV rfl) ?_
 obtain ⟨m, hm⟩ : ∃ y_, d.Needs[j]? = some y_ := ⟨d.Needs[j]'(by omega), List.getElem?_eq_getElem _⟩
 have hmm : (d.Needs.map NeedV.cells)[j]? = some (NeedV.cells m) := by rw [List.getElem?_map, hm]; rfl
 refine dS (IA j rfl (has_at 7 rfl) te26 (by decide) (by omega) (by omega)) <| dS (LEN j 0 (NeedV.cells m) rfl tk57 (has_at 7 rfl) hmm rfl (by decide) rfl rfl) <| dS (BI rfl (nes57 _ _ n m)) <| d_end <| RK hK22 ?_
 refine w_if rfl (fun hg80 => ?_) (fun hg80 => ?_)
 · replace hg80 := XT hg80
   exact absurd (Option.some.inj (hn.symm.trans hm)) hg80
 replace hg80 := XF hg80
 refine w_skip <| k_block <| KK hK21 <| w_region <| rS (MV rfl) <| rS (BI rfl (b_add ⟨by omega, by omega⟩)) <| rS (AG rfl) <| r_nil ?_
 have hb23 : (Value.int .i64 (((j + 1) : Nat) : Int)) = (Value.int .i64 (((j : Nat) : Int) + 1)) := by exact congrArg (Value.int .i64) (by omega)
 refine k_then (hJ17 ⟨(j + 1), (by first | omega | (simp only []; omega))⟩ _ _ _ rfl (by first | omega | (simp; omega)) (Sub.cons rfl <| Sub.cons rfl <| sub_val rfl hb23 <| Sub.nil _) (fun w hs => St.sel [0, 1, 2, 3, 4, 5, 6, 7] rfl rfl hs))
end
section
open Go.RowKit
set_option linter.unusedVariables false
set_option maxRecDepth 100000 in
set_option maxHeartbeats 4000000 in
theorem postTimes_c (d : GuardM) (kA : Option Addr) (kC : Nat) (pA : Option Addr) (pC : Nat) (nA : Option Addr) (nC : Nat) (a : Int) (k : Int) (nd : Int) (l : List Int) (lA : Option Addr) (lC : Nat) (hraw : GuardRaw d) (hlm : l.length ≤ maxLen) :
    FnV Try.prog 3 [(Value.agg (GuardV.cells (GuardV.mk (TrackV.mk (Slc.mk kA d.Track.length kC)) (Slc.mk pA d.Posts.length pC) (Slc.mk nA d.Needs.length nC) d.Tower d.Radio)).toArray), (Value.int .i64 a), (Value.int .i64 k), (Value.int .i64 nd), (Value.slice lA l.length lC)] [(rd kA d.Track.length 9 (d.Track.map StretchV.cells)), (rd pA d.Posts.length 7 (d.Posts.map PostV.cells)), (rd nA d.Needs.length 3 (d.Needs.map NeedV.cells)), (rd lA l.length 1 (l.map iC))] (Value.bool true) := by
 simp only [maxLen] at hlm
 refine fnV_of go3 Try.func3 rfl rfl fun w0 Q hQ hN => ?_
 try dsimp only
 refine WS fun _ hK1 => BXA rfl fun b2 => rS (AG rfl) <| RK hK1 <| w_seq fun _ hK3 => WS fun _ hK4 => rS (LW 0 rfl tk32 rfl rfl) <| rS (CL (pgreat_c d kA kC pA pC nA nC hraw) (ha_at 1 rfl rfl <| ha_at 2 rfl rfl <| ha_at 3 rfl rfl <| ha_nil) rfl) <| rS (MV rfl) ?_
 refine r_bool (t := 31) rfl (fun hg31 => ?_) (fun hg31 => ?_)
 · replace hg31 := DT hg31
   refine rS (OX rfl) <| rS (OX rfl) <| rS (OX rfl) <| rS (PK rfl) <| RK hK4 <| w_if_true rfl <| WS fun _ hK5 => rS (AG rfl) <| RK hK5 <| w_ret ?_
   refine Q1 hQ rfl rfl rfl ?_
   first | rfl | exact congrArg Value.bool (decide_eq_true rfl)
 replace hg31 := DF hg31
 refine rS (MV rfl) <| rS (LN rfl ut33) <| rS (BI rfl b_gtr) <| rS (PK rfl) <| RK hK4 ?_
 refine w_if rfl (fun hg35 => ?_) (fun hg35 => ?_)
 · replace hg35 := DT hg35
   refine WS fun _ hK6 => rS (AG rfl) <| RK hK6 <| w_ret <| Q1 hQ rfl rfl rfl ?_
   first | rfl | exact congrArg Value.bool (decide_eq_true rfl)
 replace hg35 := DF hg35
 refine WK hK3 <| WS fun _ hK7 => ?_
 have hin := hraw.small hg31
 have hll : l.length ≤ 1000000 := by omega
 refine rS (LW 0 rfl tk32 rfl rfl) <| cX (ptwin_c d kA kC pA pC nA nC (by first | assumption | omega | (simp; done) | (simp; omega))) (ha_at 1 rfl rfl <| ha_at 2 rfl rfl <| ha_at 3 rfl rfl <| ha_nil) rfl fun y8 hy9 => ?_
 obtain ⟨a110, c111, a212, c213, a314, c315⟩ := y8
 try dsimp only
 refine r_bs0 rfl te33 rfl fun b16 => rS (MV rfl) <| r_blk_own (es := (List.map iC [])) (C' := [own (some ⟨b16, 0, none⟩) 0 3 1 (List.map iC []), _, _, _, _, _, _, _, _]) 0 rfl (by simp) rfl (by simp [maxLen]) rfl <| r_append (es2 := (List.map iC l)) (m' := l.length) 0 rfl rfl rfl ta33 rfl rfl (by simp) (has_at 8 rfl) (one_iC _) (by first | omega | (simp; omega)) (by first | (simp only [maxLen]; omega) | (simp [maxLen]; omega)) (by simp) (by simp) rfl fun a17 c18 => ?_
 try dsimp only
 refine AL rfl tz32 fun b19 => SW0 rfl ts32 rfl <| rS (AG rfl) <| RK hK7 <| WS fun _ hK20 => rS (LW 0 rfl tk32 rfl rfl) <| rS (MV rfl) <| rS (MV rfl) <| rS (CL (Far_c d a110 c111 a212 c213 a314 c315 a k (by first | assumption | omega | (simp; done) | (simp; omega))) (ha_cons (has_own_n (n := d.Track.length) 2 rfl (by simp)) <| ha_cons (has_own_n (n := d.Posts.length) 3 rfl (by simp)) <| ha_cons (has_own_n (n := d.Needs.length) 4 rfl (by simp)) <| ha_nil) rfl) <| rS (MV rfl) ?_
 refine rS (EX rfl) <| rS (EX rfl) <| rS (AG rfl) <| rS (AG rfl) <| RK hK20 <| WS fun _ hK21 => rS (LW 5 rfl tk32 rfl rfl) <| rS (MV rfl) <| rS (MV rfl) <| rS (CL (rFar_c d kA kC pA pC nA nC a k (by first | assumption | omega | (simp; done) | (simp; omega))) (ha_at 6 rfl rfl <| ha_at 7 rfl rfl <| ha_at 8 rfl rfl <| ha_nil) rfl) ?_
 refine rS (MV rfl) <| rS (EX rfl) <| rS (EX rfl) <| rS (AG rfl) <| rS (AG rfl) <| RK hK21 <| WS fun _ hK22 => rS (LW 0 rfl tk32 rfl rfl) <| rS (MV rfl) <| rS (MV rfl) ?_
 refine rS (CL (Time_c d a110 c111 a212 c213 a314 c315 a k (by first | assumption | omega | (simp; done) | (simp; omega))) (ha_cons (has_own_n (n := d.Track.length) 2 rfl (by simp)) <| ha_cons (has_own_n (n := d.Posts.length) 3 rfl (by simp)) <| ha_cons (has_own_n (n := d.Needs.length) 4 rfl (by simp)) <| ha_nil) rfl) <| rS (MV rfl) <| rS (EX rfl) <| rS (EX rfl) <| rS (AG rfl) <| rS (AG rfl) <| RK hK22 <| WS fun _ hK23 => rS (LW 5 rfl tk32 rfl rfl) <| rS (MV rfl) ?_
 refine rS (MV rfl) <| rS (CL (rTime_c d kA kC pA pC nA nC a k (by first | assumption | omega | (simp; done) | (simp; omega))) (ha_at 6 rfl rfl <| ha_at 7 rfl rfl <| ha_at 8 rfl rfl <| ha_nil) rfl) <| rS (MV rfl) <| rS (EX rfl) <| rS (EX rfl) <| rS (AG rfl) <| rS (AG rfl) <| RK hK23 <| WS fun _ hK24 => rS (LW 0 rfl tk32 rfl rfl) ?_
 refine rS (MV rfl) <| cX (Called_c d a110 c111 a212 c213 a314 c315 l a17 c18 (by first | assumption | omega | (simp; done) | (simp; omega)) (by first | assumption | omega | (simp; done) | (simp; omega))) (ha_cons (has_own_n (n := d.Track.length) 2 rfl (by simp)) <| ha_cons (has_own_n (n := d.Posts.length) 3 rfl (by simp)) <| ha_cons (has_own_n (n := d.Needs.length) 4 rfl (by simp)) <| ha_cons (has_own_n (n := l.length) 1 rfl (by simp)) <| ha_nil) rfl fun y25 hy26 => ?_
 obtain ⟨a27, c28⟩ := y25
 try dsimp only
 refine rS (MV rfl) <| rS (EX rfl) <| rS (EX rfl) <| rS (AG rfl) <| rS (AG rfl) <| RK hK24 <| WS fun _ hK29 => rS (LW 6 rfl tk32 rfl rfl) <| rS (MV rfl) <| cX (rCalled_c d kA kC pA pC nA nC l lA lC (by first | assumption | omega | (simp; done) | (simp; omega)) (by first | assumption | omega | (simp; done) | (simp; omega))) (ha_at 7 rfl rfl <| ha_at 8 rfl rfl <| ha_at 9 rfl rfl <| ha_at 10 rfl rfl <| ha_nil) rfl fun y30 hy31 => ?_
 obtain ⟨a32, c33⟩ := y30
 try dsimp only
 refine rS (MV rfl) <| rS (EX rfl) <| rS (EX rfl) <| rS (AG rfl) <| rS (AG rfl) <| RK hK29 <| WS fun _ hK34 => rS (LW 2 rfl tk32 rfl rfl) <| rS (MV rfl) <| rS (MV rfl) ?_
 refine cX (Meets_c d a110 c111 a212 c213 a314 c315 nd l a17 c18 (by first | assumption | omega | (simp; done) | (simp; omega)) (by first | assumption | omega | (simp; done) | (simp; omega))) (ha_cons (has_own_n (n := d.Track.length) 4 rfl (by simp)) <| ha_cons (has_own_n (n := d.Posts.length) 5 rfl (by simp)) <| ha_cons (has_own_n (n := d.Needs.length) 6 rfl (by simp)) <| ha_cons (has_own_n (n := l.length) 3 rfl (by simp)) <| ha_nil) rfl fun y35 hy36 => ?_
 obtain ⟨a37, c38⟩ := y35
 try dsimp only
 refine rS (MV rfl) <| rS (EX rfl) <| rS (EX rfl) <| rS (AG rfl) <| rS (AG rfl) <| RK hK34 <| WS fun _ hK39 => rS (LW 8 rfl tk32 rfl rfl) <| rS (MV rfl) <| rS (MV rfl) ?_
 refine cX (rMeets_c d kA kC pA pC nA nC nd l lA lC (by first | assumption | omega | (simp; done) | (simp; omega)) (by first | assumption | omega | (simp; done) | (simp; omega))) (ha_at 9 rfl rfl <| ha_at 10 rfl rfl <| ha_at 11 rfl rfl <| ha_at 12 rfl rfl <| ha_nil) rfl fun y40 hy41 => ?_
 obtain ⟨a42, c43⟩ := y40
 try dsimp only
 refine rS (MV rfl) <| rS (EX rfl) <| rS (EX rfl) <| rS (AG rfl) <| rS (AG rfl) <| RK hK39 <| w_seq fun _ hK44 => w_draw mixed 56 (by kernel_rfl) <| dS (LW 4 rfl tk32 rfl rfl) <| dS (CL (pcheck_c d a110 c111 a212 c213 a314 c315 (by first | assumption | omega | (simp; done) | (simp; omega))) (ha_cons (has_own_n (n := d.Track.length) 6 rfl (by simp)) <| ha_cons (has_own_n (n := d.Posts.length) 7 rfl (by simp)) <| ha_cons (has_own_n (n := d.Needs.length) 8 rfl (by simp)) <| ha_nil) rfl) ?_
 refine dS (LW 9 rfl tk32 rfl rfl) <| dS (CL (rpcheck_c d kA kC pA pC nA nC (by first | assumption | omega | (simp; done) | (simp; omega))) (ha_at 10 rfl rfl <| ha_at 11 rfl rfl <| ha_at 12 rfl rfl <| ha_nil) rfl) <| dS (BI rfl b_eql) <| dS (MV rfl) ?_
 refine d_bool (t := 100) rfl (fun h45 => ?_) (fun h45 => ?_)
 rotate_left 1
 · replace h45 := DF h45
   exact absurd rfl h45
 replace h45 := DT h45
 refine dS (MV rfl) <| dS (MV rfl) <| dS (BI rfl b_eql) <| dS (PK rfl) <| dS (MV rfl) ?_
 refine d_bool (t := 105) rfl (fun h46 => ?_) (fun h46 => ?_)
 rotate_left 1
 · replace h46 := DF h46
   exact absurd rfl h46
 replace h46 := DT h46
 refine dS (MV rfl) <| dS (MV rfl) <| dS (BI rfl b_eql) <| dS (PK rfl) <| dS (MV rfl) ?_
 refine d_bool (t := 110) rfl (fun h47 => ?_) (fun h47 => ?_)
 rotate_left 1
 · replace h47 := DF h47
   exact absurd rfl h47
 replace h47 := DT h47
 refine dS (MV rfl) <| dS (MV rfl) <| dS (BI rfl b_eql) <| dS (PK rfl) <| dS (MV rfl) ?_
 refine d_bool (t := 115) rfl (fun h48 => ?_) (fun h48 => ?_)
 rotate_left 1
 · replace h48 := DF h48
   exact absurd rfl h48
 replace h48 := DT h48
 refine dS (MV rfl) <| dS (MV rfl) <| dS (BI rfl b_eql) <| dS (PK rfl) <| dS (MV rfl) ?_
 refine d_bool (t := 120) rfl (fun h49 => ?_) (fun h49 => ?_)
 rotate_left 1
 · replace h49 := DF h49
   exact absurd rfl h49
 replace h49 := DT h49
 refine dS (MV rfl) <| dS (MV rfl) <| dS (CL (sameints_c (calledV d l) a27 c28 (calledV d l) a32 c33 (by exact Nat.le_trans calledV_len hin.pst) (by exact Nat.le_trans calledV_len hin.pst)) (ha_cons (has_own_n (n := (calledV d l).length) 3 rfl (by simp)) <| ha_cons (has_own_n (n := (calledV d l).length) 2 rfl (by simp)) <| ha_nil) rfl) <| dS (PK rfl) <| dS (MV rfl) ?_
 refine d_bool (t := 125) rfl (fun h50 => ?_) (fun h50 => ?_)
 rotate_left 1
 · replace h50 := DF h50
   exact absurd rfl h50
 replace h50 := DT h50
 refine dS (MV rfl) <| dS (MV rfl) <| dS (BI rfl b_eql) <| dS (PK rfl) <| dS (MV rfl) ?_
 refine d_bool (t := 130) rfl (fun h51 => ?_) (fun h51 => ?_)
 rotate_left 1
 · replace h51 := DF h51
   exact absurd rfl h51
 replace h51 := DT h51
 refine dS (MV rfl) <| dS (MV rfl) <| dS (CL (sameints_c (meetsV d nd l) a37 c38 (meetsV d nd l) a42 c43 (by exact Nat.le_trans meetsV_len hin.pst) (by exact Nat.le_trans meetsV_len hin.pst)) (ha_cons (has_own_n (n := (meetsV d nd l).length) 1 rfl (by simp)) <| ha_cons (has_own_n (n := (meetsV d nd l).length) 0 rfl (by simp)) <| ha_nil) rfl) <| dS (PK rfl) <| dS (MV rfl) ?_
 refine d_bool (t := 135) rfl (fun h52 => ?_) (fun h52 => ?_)
 rotate_left 1
 · replace h52 := DF h52
   exact absurd rfl h52
 replace h52 := DT h52
 refine dS (MV rfl) <| dS (MV rfl) <| dS (BI rfl b_eql) <| dS (PK rfl) <| dS (MV rfl) ?_
 refine d_bool (t := 140) rfl (fun h53 => ?_) (fun h53 => ?_)
 rotate_left 1
 · replace h53 := DF h53
   exact absurd rfl h53
 replace h53 := DT h53
 refine dS (LW 4 rfl tk32 rfl rfl) <| dS (LW 9 rfl tk32 rfl rfl) <| dS (CL (rsame_c d a110 c111 a212 c213 a314 c315 kA kC pA pC nA nC (by first | assumption | omega | (simp; done) | (simp; omega))) (ha_cons (has_own_n (n := d.Track.length) 6 rfl (by simp)) <| ha_cons (has_own_n (n := d.Posts.length) 7 rfl (by simp)) <| ha_cons (has_own_n (n := d.Needs.length) 8 rfl (by simp)) <| ha_at 10 rfl rfl <| ha_at 11 rfl rfl <| ha_at 12 rfl rfl <| ha_nil) rfl) <| dS (PK rfl) <| dS (MV rfl) <| dS (MV rfl) <| dS (MV rfl) <| dS (CL (sameints_c l a17 c18 l lA lC (by omega) (by omega)) (ha_cons (has_own_n (n := l.length) 5 rfl (by simp)) <| ha_at 13 rfl rfl <| ha_nil) rfl) <| dS (PK rfl) <| dS (AG rfl) ?_
 refine d_end <| RK hK44 <| w_ret <| Q1 hQ rfl rfl rfl ?_
 first | rfl | exact congrArg Value.bool (decide_eq_true rfl)
end
section
open Go.RowKit
set_option linter.unusedVariables false
def ReadsAs {α : Type} (cells : α → List Value) (sz : Nat) (R : World → α → Prop) (w : World) (s : Slc) : Prop := ∃ l : List α, s.n = l.length ∧ (rd s.a l.length sz (l.map cells)).holds w ∧ (∀ x ∈ l, R w x) ∧ l.length ≤ maxLen ∧ s.n ≤ s.c
theorem open_guard {w : World} {s : GuardV} {R1 : World → StretchV → Prop} {R2 : World → PostV → Prop} {R3 : World → NeedV → Prop} (h1 : ReadsAs StretchV.cells 9 R1 w s.Track.Stretches) (hs : ∀ x, R1 w x → 0 ≤ x.Side ∧ x.Side ≤ 255) (h2 : ReadsAs PostV.cells 7 R2 w s.Posts) (hp : ∀ x, R2 w x → 0 ≤ x.Kind ∧ x.Kind ≤ 255) (h3 : ReadsAs NeedV.cells 3 R3 w s.Needs) (hn : ∀ x, R3 w x → 0 ≤ x.Kind ∧ x.Kind ≤ 255) :
    ∃ (d : GuardM) (kA : Option Addr) (kC : Nat) (pA : Option Addr) (pC : Nat) (nA : Option Addr) (nC : Nat), s = GuardV.mk (TrackV.mk (Slc.mk kA d.Track.length kC)) (Slc.mk pA d.Posts.length pC) (Slc.mk nA d.Needs.length nC) d.Tower d.Radio ∧ GuardRaw d ∧
      ((rd kA d.Track.length 9 (d.Track.map StretchV.cells)).holds w ∧ (rd pA d.Posts.length 7 (d.Posts.map PostV.cells)).holds w ∧ (rd nA d.Needs.length 3 (d.Needs.map NeedV.cells)).holds w) ∧ d.Tower = s.Tower ∧ d.Radio = s.Radio := by
  obtain ⟨⟨⟨ka, kn, kc⟩⟩, ⟨pa, pn, pc⟩, ⟨na, nn, nc⟩, tw, ra⟩ := s
  obtain ⟨ts, t1, t2, t3, t4, t5⟩ := h1
  obtain ⟨ps, p1, p2, p3, p4, p5⟩ := h2
  obtain ⟨ns, n1, n2, n3, n4, n5⟩ := h3
  simp only at t1 p1 n1
  subst t1 p1 n1
  exact ⟨⟨ts, ps, ns, tw, ra⟩, ka, kc, pa, pc, na, nc, rfl, ⟨t4, fun x hx => hs x (t3 x hx), p4, fun x hx => hp x (p3 x hx), n4, fun x hx => hn x (n3 x hx)⟩, ⟨t2, p2, n2⟩, rfl, rfl⟩
end
section
open Go.ChangeShapes Go.WideShapes Go.ChangeAt Go.RowKit
set_option linter.unusedVariables false
theorem cz32 : Try.prog.cellsOf 32 = 7 := by kernel_rfl
theorem cz24 : Try.prog.cellsOf 24 = 1 := by kernel_rfl
theorem cz22 : Try.prog.cellsOf 22 = 1 := by kernel_rfl
theorem cz110 : Try.prog.cellsOf 110 = 9 := by kernel_rfl
theorem cz3 : Try.prog.cellsOf 3 = 1 := by kernel_rfl
def Is3 (w : World) (n : Int) : Prop := In64 n
theorem op3 : OpR Try.prog 3 Int iC Is3 := op_i64 ut3
theorem cz28 : Try.prog.cellsOf 28 = 2 := by kernel_rfl
structure Is28 (w : World) (s : SpanV) : Prop where
  Lo : Is3 w s.Lo
  Hi : Is3 w s.Hi
theorem fx28 : fL Try.prog 28 = some [(3, 0), (3, 1)] := by kernel_rfl
theorem op28 : OpR Try.prog 28 SpanV SpanV.cells Is28 := fun {H} enc w base sp held fuel cs x h => by
  obtain ⟨hl, hp⟩ := op_parts fx28 h
  obtain ⟨n0, y0, h0⟩ := hp 0 3 0 rfl
  obtain ⟨s0, c0, r0⟩ := op3 _ _ _ _ _ _ _ _ h0
  obtain ⟨n1, y1, h1⟩ := hp 1 3 1 rfl
  obtain ⟨s1, c1, r1⟩ := op3 _ _ _ _ _ _ _ _ h1
  refine ⟨⟨s0, s1⟩, ?_, ⟨r0, r1⟩⟩
  have e1 := parts_last (hl.trans cz28) (by rw [cz3]) c1
  have e0 := parts_cons c0 (m := 1) (by rw [cz3]) e1
  exact e0
theorem cz5 : Try.prog.cellsOf 5 = 1 := by kernel_rfl
def Is5 (w : World) (n : Int) : Prop := 0 ≤ n ∧ n ≤ 255
theorem op5 : OpR Try.prog 5 Int iC_u8 Is5 := op_u8 ut5
structure Is110 (w : World) (s : StretchV) : Prop where
  Id : Is3 w s.Id
  Long : Is28 w s.Long
  Fall : Is28 w s.Fall
  Radius : Is28 w s.Radius
  Side : Is5 w s.Side
  Wall : Is3 w s.Wall
theorem fx110 : fL Try.prog 110 = some [(3, 0), (28, 1), (28, 3), (28, 5), (5, 7), (3, 8)] := by kernel_rfl
theorem op110 : OpR Try.prog 110 StretchV StretchV.cells Is110 := fun {H} enc w base sp held fuel cs x h => by
  obtain ⟨hl, hp⟩ := op_parts fx110 h
  obtain ⟨n0, y0, h0⟩ := hp 0 3 0 rfl
  obtain ⟨s0, c0, r0⟩ := op3 _ _ _ _ _ _ _ _ h0
  obtain ⟨n1, y1, h1⟩ := hp 1 28 1 rfl
  obtain ⟨s1, c1, r1⟩ := op28 _ _ _ _ _ _ _ _ h1
  obtain ⟨n2, y2, h2⟩ := hp 2 28 3 rfl
  obtain ⟨s2, c2, r2⟩ := op28 _ _ _ _ _ _ _ _ h2
  obtain ⟨n3, y3, h3⟩ := hp 3 28 5 rfl
  obtain ⟨s3, c3, r3⟩ := op28 _ _ _ _ _ _ _ _ h3
  obtain ⟨n4, y4, h4⟩ := hp 4 5 7 rfl
  obtain ⟨s4, c4, r4⟩ := op5 _ _ _ _ _ _ _ _ h4
  obtain ⟨n5, y5, h5⟩ := hp 5 3 8 rfl
  obtain ⟨s5, c5, r5⟩ := op3 _ _ _ _ _ _ _ _ h5
  refine ⟨⟨s0, s1, s2, s3, s4, s5⟩, ?_, ⟨r0, r1, r2, r3, r4, r5⟩⟩
  have e5 := parts_last (hl.trans cz110) (by rw [cz3]) c5
  have e4 := parts_cons c4 (m := 8) (by rw [cz5]) e5
  have e3 := parts_cons c3 (m := 7) (by rw [cz28]) e4
  have e2 := parts_cons c2 (m := 5) (by rw [cz28]) e3
  have e1 := parts_cons c1 (m := 3) (by rw [cz28]) e2
  have e0 := parts_cons c0 (m := 1) (by rw [cz3]) e1
  exact e0
def Is22 (w : World) (s : Slc) : Prop := ∃ l : List StretchV, s.n = l.length ∧ (rd s.a l.length 9 (l.map StretchV.cells)).holds w ∧ (∀ x ∈ l, Is110 w x) ∧ l.length ≤ maxLen ∧ s.n ≤ s.c
theorem op22 : OpR Try.prog 22 Slc (fun s => [Value.slice s.a s.n s.c]) Is22 := op_slice ut22 cz110 op110
structure Is24 (w : World) (s : TrackV) : Prop where
  Stretches : Is22 w s.Stretches
theorem fx24 : fL Try.prog 24 = some [(22, 0)] := by kernel_rfl
theorem op24 : OpR Try.prog 24 TrackV TrackV.cells Is24 := fun {H} enc w base sp held fuel cs x h => by
  obtain ⟨hl, hp⟩ := op_parts fx24 h
  obtain ⟨n0, y0, h0⟩ := hp 0 22 0 rfl
  obtain ⟨s0, c0, r0⟩ := op22 _ _ _ _ _ _ _ _ h0
  refine ⟨⟨s0⟩, ?_, ⟨r0⟩⟩
  have e0 := parts_last (hl.trans cz24) (by rw [cz22]) c0
  exact e0
theorem cz25 : Try.prog.cellsOf 25 = 1 := by kernel_rfl
theorem cz62 : Try.prog.cellsOf 62 = 7 := by kernel_rfl
theorem cz30 : Try.prog.cellsOf 30 = 3 := by kernel_rfl
structure Is30 (w : World) (s : SpotV) : Prop where
  Stretch : Is3 w s.Stretch
  Off : Is28 w s.Off
theorem fx30 : fL Try.prog 30 = some [(3, 0), (28, 1)] := by kernel_rfl
theorem op30 : OpR Try.prog 30 SpotV SpotV.cells Is30 := fun {H} enc w base sp held fuel cs x h => by
  obtain ⟨hl, hp⟩ := op_parts fx30 h
  obtain ⟨n0, y0, h0⟩ := hp 0 3 0 rfl
  obtain ⟨s0, c0, r0⟩ := op3 _ _ _ _ _ _ _ _ h0
  obtain ⟨n1, y1, h1⟩ := hp 1 28 1 rfl
  obtain ⟨s1, c1, r1⟩ := op28 _ _ _ _ _ _ _ _ h1
  refine ⟨⟨s0, s1⟩, ?_, ⟨r0, r1⟩⟩
  have e1 := parts_last (hl.trans cz30) (by rw [cz28]) c1
  have e0 := parts_cons c0 (m := 1) (by rw [cz3]) e1
  exact e0
structure Is62 (w : World) (s : PostV) : Prop where
  Id : Is3 w s.Id
  Kind : Is5 w s.Kind
  Spot : Is30 w s.Spot
  Delay : Is3 w s.Delay
  Pace : Is3 w s.Pace
theorem fx62 : fL Try.prog 62 = some [(3, 0), (5, 1), (30, 2), (3, 5), (3, 6)] := by kernel_rfl
theorem op62 : OpR Try.prog 62 PostV PostV.cells Is62 := fun {H} enc w base sp held fuel cs x h => by
  obtain ⟨hl, hp⟩ := op_parts fx62 h
  obtain ⟨n0, y0, h0⟩ := hp 0 3 0 rfl
  obtain ⟨s0, c0, r0⟩ := op3 _ _ _ _ _ _ _ _ h0
  obtain ⟨n1, y1, h1⟩ := hp 1 5 1 rfl
  obtain ⟨s1, c1, r1⟩ := op5 _ _ _ _ _ _ _ _ h1
  obtain ⟨n2, y2, h2⟩ := hp 2 30 2 rfl
  obtain ⟨s2, c2, r2⟩ := op30 _ _ _ _ _ _ _ _ h2
  obtain ⟨n3, y3, h3⟩ := hp 3 3 5 rfl
  obtain ⟨s3, c3, r3⟩ := op3 _ _ _ _ _ _ _ _ h3
  obtain ⟨n4, y4, h4⟩ := hp 4 3 6 rfl
  obtain ⟨s4, c4, r4⟩ := op3 _ _ _ _ _ _ _ _ h4
  refine ⟨⟨s0, s1, s2, s3, s4⟩, ?_, ⟨r0, r1, r2, r3, r4⟩⟩
  have e4 := parts_last (hl.trans cz62) (by rw [cz3]) c4
  have e3 := parts_cons c3 (m := 6) (by rw [cz3]) e4
  have e2 := parts_cons c2 (m := 5) (by rw [cz30]) e3
  have e1 := parts_cons c1 (m := 2) (by rw [cz5]) e2
  have e0 := parts_cons c0 (m := 1) (by rw [cz3]) e1
  exact e0
def Is25 (w : World) (s : Slc) : Prop := ∃ l : List PostV, s.n = l.length ∧ (rd s.a l.length 7 (l.map PostV.cells)).holds w ∧ (∀ x ∈ l, Is62 w x) ∧ l.length ≤ maxLen ∧ s.n ≤ s.c
theorem op25 : OpR Try.prog 25 Slc (fun s => [Value.slice s.a s.n s.c]) Is25 := op_slice ut25 cz62 op62
theorem cz26 : Try.prog.cellsOf 26 = 1 := by kernel_rfl
theorem cz57 : Try.prog.cellsOf 57 = 3 := by kernel_rfl
structure Is57 (w : World) (s : NeedV) : Prop where
  Stretch : Is3 w s.Stretch
  Kind : Is5 w s.Kind
  Seconds : Is3 w s.Seconds
theorem fx57 : fL Try.prog 57 = some [(3, 0), (5, 1), (3, 2)] := by kernel_rfl
theorem op57 : OpR Try.prog 57 NeedV NeedV.cells Is57 := fun {H} enc w base sp held fuel cs x h => by
  obtain ⟨hl, hp⟩ := op_parts fx57 h
  obtain ⟨n0, y0, h0⟩ := hp 0 3 0 rfl
  obtain ⟨s0, c0, r0⟩ := op3 _ _ _ _ _ _ _ _ h0
  obtain ⟨n1, y1, h1⟩ := hp 1 5 1 rfl
  obtain ⟨s1, c1, r1⟩ := op5 _ _ _ _ _ _ _ _ h1
  obtain ⟨n2, y2, h2⟩ := hp 2 3 2 rfl
  obtain ⟨s2, c2, r2⟩ := op3 _ _ _ _ _ _ _ _ h2
  refine ⟨⟨s0, s1, s2⟩, ?_, ⟨r0, r1, r2⟩⟩
  have e2 := parts_last (hl.trans cz57) (by rw [cz3]) c2
  have e1 := parts_cons c1 (m := 2) (by rw [cz5]) e2
  have e0 := parts_cons c0 (m := 1) (by rw [cz3]) e1
  exact e0
def Is26 (w : World) (s : Slc) : Prop := ∃ l : List NeedV, s.n = l.length ∧ (rd s.a l.length 3 (l.map NeedV.cells)).holds w ∧ (∀ x ∈ l, Is57 w x) ∧ l.length ≤ maxLen ∧ s.n ≤ s.c
theorem op26 : OpR Try.prog 26 Slc (fun s => [Value.slice s.a s.n s.c]) Is26 := op_slice ut26 cz57 op57
structure Is32 (w : World) (s : GuardV) : Prop where
  Track : Is24 w s.Track
  Posts : Is25 w s.Posts
  Needs : Is26 w s.Needs
  Tower : Is30 w s.Tower
  Radio : Is3 w s.Radio
theorem fx32 : fL Try.prog 32 = some [(24, 0), (25, 1), (26, 2), (30, 3), (3, 6)] := by kernel_rfl
theorem op32 : OpR Try.prog 32 GuardV GuardV.cells Is32 := fun {H} enc w base sp held fuel cs x h => by
  obtain ⟨hl, hp⟩ := op_parts fx32 h
  obtain ⟨n0, y0, h0⟩ := hp 0 24 0 rfl
  obtain ⟨s0, c0, r0⟩ := op24 _ _ _ _ _ _ _ _ h0
  obtain ⟨n1, y1, h1⟩ := hp 1 25 1 rfl
  obtain ⟨s1, c1, r1⟩ := op25 _ _ _ _ _ _ _ _ h1
  obtain ⟨n2, y2, h2⟩ := hp 2 26 2 rfl
  obtain ⟨s2, c2, r2⟩ := op26 _ _ _ _ _ _ _ _ h2
  obtain ⟨n3, y3, h3⟩ := hp 3 30 3 rfl
  obtain ⟨s3, c3, r3⟩ := op30 _ _ _ _ _ _ _ _ h3
  obtain ⟨n4, y4, h4⟩ := hp 4 3 6 rfl
  obtain ⟨s4, c4, r4⟩ := op3 _ _ _ _ _ _ _ _ h4
  refine ⟨⟨s0, s1, s2, s3, s4⟩, ?_, ⟨r0, r1, r2, r3, r4⟩⟩
  have e4 := parts_last (hl.trans cz32) (by rw [cz3]) c4
  have e3 := parts_cons c3 (m := 6) (by rw [cz30]) e4
  have e2 := parts_cons c2 (m := 3) (by rw [cz26]) e3
  have e1 := parts_cons c1 (m := 2) (by rw [cz25]) e2
  have e0 := parts_cons c0 (m := 1) (by rw [cz24]) e1
  exact e0
def Is33 (w : World) (s : Slc) : Prop := ∃ l : List Int, s.n = l.length ∧ (rd s.a l.length 1 (l.map iC)).holds w ∧ (∀ x ∈ l, Is3 w x) ∧ l.length ≤ maxLen ∧ s.n ≤ s.c
theorem op33 : OpR Try.prog 33 Slc (fun s => [Value.slice s.a s.n s.c]) Is33 := op_slice ut33 cz3 op3
theorem own_postTimes : ownKnob Try.prog.godebug = none := by kernel_rfl
theorem laid_postTimes : laidOutB Try.prog = true := by kernel_rfl
set_option maxRecDepth 100000 in
theorem postTimes_lifted (os : Os) (started : os.Started) (H : Type) (enc : TypeId × Value → H) :
    ReturnsInHanded {} Try.checked os 3 .any (Rows.postTimesSpec.pre6 enc Try.prog Try.f3 Rows.postTimesRow.domain false) (Rows.postTimesSpec.post enc Try.prog Try.f3 false true false false) := by
  refine returnsInHanded_of_change (C := Try.checked) own_postTimes started (by kernel_rfl) Try.func3
    (ChangeSpec.witness6 (enc := enc) (C := Try.checked) false ⟨#[], #[.agg #[(Value.slice none 0 0), (Value.slice none 0 0), (Value.slice none 0 0), (Value.int .i64 0), (Value.int .i64 0), (Value.int .i64 0), (Value.int .i64 0)], Value.int .i64 0, Value.int .i64 0, Value.int .i64 0, Value.slice none 0 0], []⟩ 8 (by kernel_rfl) (by kernel_rfl) (by kernel_rfl) (by kernel_rfl)) ?_
  intro W base args ds gs before hval0 hW hcnd _
  have hval : ∀ (j : Nat) t v, Try.f3.params[j]? = some t → args[j]? = some v → Value.okWide Try.prog W .any base t v := hval0
  have hW' := hW
  obtain ⟨p, q, hA0, hV, rfl, hfz, hnd⟩ := hW
  have hA : DataW.TrodAll enc Try.prog W 0 (fun _ => true) true Try.f3.params.toList args.toList ds p := hA0
  have hA1 := hA
  rw [Try.params3] at hA hval
  obtain ⟨v0, vs0, d0, ds0, p0, q0, hargs, rfl, rfl, h0, r0⟩ := trodAll_cons hA
  obtain ⟨v1, vs1, d1, ds1, p1, q1, rfl, rfl, rfl, h1, r1⟩ := trodAll_cons r0
  obtain ⟨v2, vs2, d2, ds2, p2, q2, rfl, rfl, rfl, h2, r2⟩ := trodAll_cons r1
  obtain ⟨v3, vs3, d3, ds3, p3, q3, rfl, rfl, rfl, h3, r3⟩ := trodAll_cons r2
  obtain ⟨v4, vs4, d4, ds4, p4, q4, rfl, rfl, rfl, h4, r4⟩ := trodAll_cons r3
  obtain ⟨rfl, rfl, rfl⟩ := trodAll_nil r4
  obtain rfl : args = #[v0, v1, v2, v3, v4] := by cases args; simp_all
  obtain ⟨rfl, rfl⟩ := trodVars_none hV
  obtain ⟨s0, rfl, R0⟩ := arg_struct fx32 op32 (hval 0 32 v0 rfl rfl) h0
  obtain ⟨s1, rfl, R1⟩ := arg_int (k := .i64) ut3 (hval 1 3 v1 rfl rfl) h1
  obtain ⟨s2, rfl, R2⟩ := arg_int (k := .i64) ut3 (hval 2 3 v2 rfl rfl) h2
  obtain ⟨s3, rfl, R3⟩ := arg_int (k := .i64) ut3 (hval 3 3 v3 rfl rfl) h3
  obtain ⟨s4, rfl, R4⟩ := arg_slice op33 ut33 (hval 4 33 v4 rfl rfl) h4
  simp only [List.append_nil] at hW' hA1
  obtain ⟨d, kA, kC, pA, pC, nA, nC, rfl, hraw, hg3, _⟩ := open_guard (R1 := Is110) (R2 := Is62) (R3 := Is57) R0.Track.Stretches (fun x hx => hx.Side) R0.Posts (fun x hx => hx.Kind) R0.Needs (fun x hx => hx.Kind)
  obtain ⟨lA, ln, lC⟩ := s4
  obtain ⟨bl, hnb, hrdb, hallb, hmaxb⟩ := R4
  simp only at hnb hrdb
  subst hnb
  have hrun := (postTimes_c d kA kC pA pC nA nC s1 s2 s3 bl lA lC hraw hmaxb.1).run W (by intro A hA; simp only [List.mem_cons, List.not_mem_nil, or_false] at hA; rcases hA with rfl | rfl | rfl | rfl; exact hg3.1; exact hg3.2.1; exact hg3.2.2; exact hrdb)
  refine (hrun).mono fun e W' ⟨he, hk⟩ => ?_
  subst he
  exact ⟨_, rfl, law_post laid_postTimes hW' hA1 rfl rfl (by kernel_rfl) hk.below (by kernel_rfl) ut4⟩
/-- the statement -/
theorem postTimes_said : Rows.PostTimesSaid :=
  OpenClaim.holds_of_wide 3 Try.f3 rfl rfl rfl rfl rfl rfl rfl ⟨rfl, rfl, rfl, rfl, rfl⟩ rfl rfl rfl rfl rfl (by kernel_rfl) Try.func3 (by kernel_rfl)
    (of_decide_eq_true (by kernel_rfl)) (by unfold Func.isWrapper; first | (rw [if_pos (by decide +kernel)]; kernel_rfl) | (rw [if_neg (by decide +kernel)]; exact ⟨rfl, rfl⟩))
    (fun os started H enc _ => postTimes_lifted os started H enc)
#print axioms postTimes_said
end
end Go.Proofs.Ytlncplfcbmcjgaa
