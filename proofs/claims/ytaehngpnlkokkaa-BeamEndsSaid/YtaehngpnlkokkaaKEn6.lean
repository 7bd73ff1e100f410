/-
  The statement beamEnds_said, part 6 of 6: E1, L7, LineOpen, RideOpen, Ends0.
  Conditions: none.
-/
import Derived.Test.YtaehngpnlkokkaaKEn1
import Derived.Test.YtaehngpnlkokkaaKEn2
import Derived.Test.YtaehngpnlkokkaaKEn3
import Derived.Test.YtaehngpnlkokkaaKEn4
import Derived.Test.YtaehngpnlkokkaaKEn5
import Derived.Test.YtaehngpnlkokkaaRows
import Derived.Test.YtaehngpnlkokkaaProg
import Derived.KernelRfl
namespace Go.Proofs.Ytaehngpnlkokkaa
section
open Go.RowKit
set_option linter.unusedVariables false
set_option maxRecDepth 100000 in
set_option maxHeartbeats 400000 in
theorem tell_c (l : LineM) (kA : Option Addr) (kC : Nat) (az : List RA) (cA : Option Addr) (cC : Nat) (bA : Option Addr) (bC : Nat) (r : RideM) (sgA : Option Addr) (sgC : Nat) (hin : LineIn l az) (hle : lineE l = 0) (hr : RideOk l r) :
    FnX Try.prog 32 [(Value.agg (LineV.cells (LineV.mk (TrackV.mk (Slc.mk kA l.Track.length kC)) l.Fast (Slc.mk cA l.Clocks.length cC) (Slc.mk bA l.Beams.length bC) l.Finish l.Fakes l.Misses)).toArray), (Value.agg (RideV.cells (RideV.mk r.Start r.Now (Slc.mk sgA r.Signals.length sgC))).toArray)] [(rd kA l.Track.length 9 (l.Track.map StretchV.cells)), (rd cA l.Clocks.length 2 (List.zipWith ClockM.cells l.Clocks az)), (bun (nest ClockM.rds l.Clocks az)), (rd bA l.Beams.length 4 (l.Beams.map BeamV.cells)), (rd sgA r.Signals.length 2 (r.Signals.map SignalV.cells))] (fun (x : (Option Addr) × Nat × (Option Addr) × Nat) => (Value.tuple [(Value.agg (KnownV.cells (KnownV.mk (Slc.mk x.1 ((leasts l l.Beams.length).length) x.2.1) (Slc.mk x.2.2.1 ((sigsL l r r.Signals.length).length) x.2.2.2))).toArray), (Value.bool true)].toArray)) (fun (x : (Option Addr) × Nat × (Option Addr) × Nat) => True) (fun (x : (Option Addr) × Nat × (Option Addr) × Nat) => [(own x.1 x.2.1 3 1 ((leasts l l.Beams.length).map iC)), (own x.2.2.1 x.2.2.2 34 2 ((sigsL l r r.Signals.length).map SpanV.cells))]) := by
 have htk := hin.trk
 have hck := hin.cks
 have has := hin.as_
 have hbm := hin.bms
 obtain ⟨htr, hok⟩ := lineE_zero hle
 have hhd := hok.head
 unfold HeadOk at hhd
 have hrl := hr.len
 refine fnX_of go32 Try.func32 rfl rfl fun w0 Q hQ hN => ?_
 try dsimp only
 refine WS fun _ hK1 => BXA rfl fun b2 => BXA rfl fun b3 => AL rfl tz83 fun b4 => rS (AG rfl) <| RK hK1 <| WS fun _ hK5 => AL rfl tz83 fun b6 => RK hK5 <| w_seq fun _ hK7 => ?_
 refine WS fun _ hK8 => rS (FA 3 rfl fo28_3 rfl) <| rS (L1 (Value.slice bA l.Beams.length bC) 3 rfl tk26 rfl rfl) <| rS (LN rfl ut26) <| rS (MV rfl) <| RK hK8 <| w_block <| w_own_nil 3 1 ?_
 have hinit : (0 ≤ l.Beams.length) := by exact Nat.zero_le _
 refine w_loop (ι := { z : Nat × (Option Addr) × Nat // (z.1 ≤ l.Beams.length) }) (fun z => [(2, (Value.pointer (some ⟨b2, 0, none⟩))), (3, (Value.pointer (some ⟨b3, 0, none⟩))), (4, (Value.pointer (some ⟨b4, 0, none⟩))), (6, (Value.pointer (some ⟨b6, 0, none⟩))), (16, (Value.int .i64 ((l.Beams.length : Nat) : Int))), (17, (Value.int .i64 ((z.1.1 : Nat) : Int)))]) (fun z => [(own z.1.2.1 z.1.2.2 3 1 ((leasts l z.1.1).map iC)), (blk b6 83 (KnownV.cells (KnownV.mk (Slc.mk z.1.2.1 ((leasts l z.1.1).length) z.1.2.2) (Slc.mk none 0 0)))), (blk b4 83 (KnownV.cells (KnownV.mk (Slc.mk none 0 0) (Slc.mk none 0 0)))), (blk b3 69 (RideV.cells (RideV.mk r.Start r.Now (Slc.mk sgA r.Signals.length sgC)))), (blk b2 28 (LineV.cells (LineV.mk (TrackV.mk (Slc.mk kA l.Track.length kC)) l.Fast (Slc.mk cA l.Clocks.length cC) (Slc.mk bA l.Beams.length bC) l.Finish l.Fakes l.Misses))), (rd kA l.Track.length 9 (l.Track.map StretchV.cells)).ro, (rd cA l.Clocks.length 2 (List.zipWith ClockM.cells l.Clocks az)).ro, (bun (nest ClockM.rds l.Clocks az)).ro, (rd bA l.Beams.length 4 (l.Beams.map BeamV.cells)).ro, (rd sgA r.Signals.length 2 (r.Signals.map SignalV.cells)).ro]) (fun z => l.Beams.length - z.1.1) ⟨(0, none, 0), hinit⟩ (Sub.cons rfl <| Sub.cons rfl <| Sub.cons rfl <| Sub.cons rfl <| Sub.cons rfl <| Sub.cons rfl <| Sub.nil _) (fun w hs => St.sel [0, 1, 2, 3, 4, 5, 6, 7, 8, 9] rfl rfl hs) ?_
 clear hinit
 rintro ⟨⟨b, a, c⟩, hl3_0⟩ J9 hJ9
 try dsimp only at hl3_0
 try dsimp only
 refine WS fun _ hK10 => rS (BI rfl b_lss) <| RK hK10 <| w_seq fun _ hK11 => ?_
 refine w_if rfl (fun h12 => ?_) (fun h12 => ?_)
 · replace h12 := DT h12
   refine WK hK11 <| w_seq fun _ hK13 => w_block <| WS fun _ hK14 => rS (MV rfl) <| rS (AG rfl) <| RK hK14 <| WS fun _ hK15 => rS (LW 4 rfl tk28 rfl rfl) <| rS (MV rfl) ?_
   refine rS (CL (Least_c l kA kC az cA cC bA bC ((b : Nat) : Int) hin) (ha_at 5 rfl rfl <| ha_at 6 rfl rfl <| ha_at 7 rfl rfl <| ha_at 8 rfl rfl <| ha_nil) rfl) <| rS (MV rfl) <| rS (EX rfl) <| rS (EX rfl) <| rS (AG rfl) <| rS (AG rfl) <| RK hK15 <| w_seq fun _ hK16 => WS fun _ hK17 => ?_
   have hlv := least_in (i := ((b : Nat) : Int)) hle (by omega)
   rw [Int.toNat_natCast] at hlv
   have hlb := leastF_bb htr hok (i := b) (by omega)
   refine rS (MV rfl) <| rS (BI rfl b_neq) <| rS (MV rfl) ?_
   refine r_bool (t := 28) rfl (fun h28 => ?_) (fun h28 => ?_)
   · replace h28 := XT h28
     exact absurd hlv.1 h28
   replace h28 := XF h28
   refine rS (MV rfl) <| rS (BI rfl b_lss) <| rS (PK rfl) <| RK hK17 ?_
   refine w_if rfl (fun h31 => ?_) (fun h31 => ?_)
   · replace h31 := DT h31
     exfalso; rw [hlv.2] at h31; omega
   replace h31 := DF h31
   refine WK hK16 <| w_region <| rS (FA 0 rfl fo83_0 rfl) <| rS (L1 (Value.slice a ((leasts l b).length) c) 1 rfl tk57 rfl rfl) <| rS (MV rfl) <| r_bs (xs := [.tmp 35]) (cs := [(Value.int .i64 (leastV l ((b : Nat) : Int)))]) rfl te57 tz3 rfl rfl rfl rfl (by simp [Value.cells]) rfl rfl fun b18 => r_append (es2 := (List.map iC (leasts l (b + 1)))) (m' := (leasts l (b + 1)).length) 1 rfl rfl rfl ta57 rfl rfl (by simp) (has_rd_blk (es := List.map iC [(leastV l ((b : Nat) : Int))]) 0 rfl rfl (by simp [iC_length]) rfl) (one_iC _) (by simp only [leasts_len]; omega) (by simp only [maxLen, leasts_len]; omega) (by rw [leasts_succ, hlv.2]; simp) (by simp) rfl fun a19 c20 => ?_
   try dsimp only
   refine rS (FA 0 rfl fo83_0 rfl) <| ST2 (KnownV.cells (KnownV.mk (Slc.mk a19 ((leasts l (b + 1)).length) c20) (Slc.mk none 0 0))) rfl ts57 rfl rfl <| r_nil <| k_block <| KK hK13 <| w_region <| rS (BI rfl (b_add ⟨by omega, by omega⟩)) <| rS (MV rfl) <| r_nil ?_
   have hb21 : (Value.int .i64 (((b + 1) : Nat) : Int)) = (Value.int .i64 (((b : Nat) : Int) + 1)) := by exact congrArg (Value.int .i64) (by omega)
   refine k_then (hJ9 ⟨((b + 1), a19, c20), (by first | omega | (simp only []; omega))⟩ _ _ _ rfl (by first | omega | (simp; omega)) (Sub.cons rfl <| Sub.cons rfl <| Sub.cons rfl <| Sub.cons rfl <| Sub.cons rfl <| sub_val rfl hb21 <| Sub.nil _) (fun w hs => St.sel [1, 2, 3, 4, 5, 6, 7, 8, 9, 10] rfl rfl hs))
 replace h12 := DF h12
 refine w_exit <| k_exit_then <| k_exit_then <| k_exit_same <| KK hK7 <| w_seq fun _ hK22 => WS fun _ hK23 => ?_
 rw [show leasts l b = (leasts l l.Beams.length) from by rw [show b = l.Beams.length by omega]]
 refine rS (FA 2 rfl fo69_2 rfl) <| rS (L1 (Value.slice sgA r.Signals.length sgC) 3 rfl tk67 rfl rfl) <| rS (LN rfl ut67) <| rS (MV rfl) <| RK hK23 <| w_block <| w_own_nil 34 2 ?_
 have hinit : (0 ≤ r.Signals.length) := by exact Nat.zero_le _
 refine w_loop (ι := { z : Nat × (Option Addr) × Nat // (z.1 ≤ r.Signals.length) }) (fun z => [(2, (Value.pointer (some ⟨b2, 0, none⟩))), (3, (Value.pointer (some ⟨b3, 0, none⟩))), (4, (Value.pointer (some ⟨b4, 0, none⟩))), (6, (Value.pointer (some ⟨b6, 0, none⟩))), (41, (Value.slice sgA r.Signals.length sgC)), (42, (Value.int .i64 ((r.Signals.length : Nat) : Int))), (43, (Value.int .i64 ((z.1.1 : Nat) : Int)))]) (fun z => [(own z.1.2.1 z.1.2.2 34 2 ((sigsL l r z.1.1).map SpanV.cells)), (own a c 3 1 ((leasts l l.Beams.length).map iC)), (blk b6 83 (KnownV.cells (KnownV.mk (Slc.mk a ((leasts l l.Beams.length).length) c) (Slc.mk z.1.2.1 ((sigsL l r z.1.1).length) z.1.2.2)))), (blk b4 83 (KnownV.cells (KnownV.mk (Slc.mk none 0 0) (Slc.mk none 0 0)))), (blk b3 69 (RideV.cells (RideV.mk r.Start r.Now (Slc.mk sgA r.Signals.length sgC)))), (blk b2 28 (LineV.cells (LineV.mk (TrackV.mk (Slc.mk kA l.Track.length kC)) l.Fast (Slc.mk cA l.Clocks.length cC) (Slc.mk bA l.Beams.length bC) l.Finish l.Fakes l.Misses))), (rd kA l.Track.length 9 (l.Track.map StretchV.cells)).ro, (rd cA l.Clocks.length 2 (List.zipWith ClockM.cells l.Clocks az)).ro, (bun (nest ClockM.rds l.Clocks az)).ro, (rd bA l.Beams.length 4 (l.Beams.map BeamV.cells)).ro, (rd sgA r.Signals.length 2 (r.Signals.map SignalV.cells)).ro]) (fun z => r.Signals.length - z.1.1) ⟨(0, none, 0), hinit⟩ (Sub.cons rfl <| Sub.cons rfl <| Sub.cons rfl <| Sub.cons rfl <| Sub.cons rfl <| Sub.cons rfl <| Sub.cons rfl <| Sub.nil _) (fun w hs => St.sel [0, 1, 2, 3, 4, 5, 6, 7, 8, 9, 10] rfl rfl hs) ?_
 clear hinit
 rintro ⟨⟨i, ta, tc⟩, hl11_0⟩ J24 hJ24
 try dsimp only at hl11_0
 try dsimp only
 refine WS fun _ hK25 => rS (BI rfl b_lss) <| RK hK25 <| w_seq fun _ hK26 => ?_
 refine w_if rfl (fun h27 => ?_) (fun h27 => ?_)
 rotate_left 1
 · replace h27 := DF h27
   refine w_exit <| k_exit_then <| k_exit_then <| k_exit_same <| KK hK22 <| WS fun _ hK45 => ?_
   rw [show sigsL l r i = (sigsL l r r.Signals.length) from by rw [show i = r.Signals.length by omega]]
   refine rS (LW 2 rfl tk83 rfl rfl) <| SW3 rfl ts83 rfl <| rS (AG rfl) <| RK hK45 <| w_ret ?_
   refine hQ _ _ _ (l_nil (vs := [(Value.agg (KnownV.cells (KnownV.mk (Slc.mk a ((leasts l l.Beams.length).length) c) (Slc.mk ta ((sigsL l r r.Signals.length).length) tc))).toArray), (Value.bool true)]) ⟨⟨_, rfl, .inl ⟨_, _, tk83, at_blk (vs := (KnownV.cells (KnownV.mk (Slc.mk a ((leasts l l.Beams.length).length) c) (Slc.mk ta ((sigsL l r r.Signals.length).length) tc)))) 3 rfl rfl, rfl, rfl⟩⟩, rfl, trivial⟩ fun w hs => endX (a, c, ta, tc) [1, 0] ?_ ?_ rfl rfl rfl hs)
   · rfl
   · trivial
 replace h27 := DT h27
 refine WK hK26 <| w_seq fun _ hK28 => w_block <| WS fun _ hK29 => ?_
 obtain ⟨s, hs⟩ : ∃ y_, r.Signals[i]? = some y_ := ⟨r.Signals[i]'(by omega), List.getElem?_eq_getElem _⟩
 have hsm : (r.Signals.map SignalV.cells)[i]? = some (SignalV.cells s) := by rw [List.getElem?_map, hs]; rfl
 refine rS (IA i rfl (has_at 10 rfl) te67 (by decide) (by omega) (by omega)) <| rS (LEN i 0 (SignalV.cells s) rfl tk30 (has_at 10 rfl) hsm rfl (by decide) rfl rfl) <| AL rfl tz30 fun b30 => SW0 rfl ts30 rfl <| RK hK29 <| WS fun _ hK31 => rS (LW 6 rfl tk28 rfl rfl) <| rS (LW 0 rfl tk30 rfl rfl) <| rS (CL (When_c l kA kC az cA cC bA bC s hin) (ha_at 7 rfl rfl <| ha_at 8 rfl rfl <| ha_at 9 rfl rfl <| ha_at 10 rfl rfl <| ha_nil) rfl) <| rS (MV rfl) ?_
 have hsg := (hr.sig i s hs).1
 have hte := told_e hle hsg
 have hst := sigT_when hle hsg
 refine rS (EX rfl) <| rS (EX rfl) <| AL rfl tz34 fun b32 => SW0 rfl ts34 rfl <| rS (AG rfl) <| RK hK31 <| w_seq fun _ hK33 => WS fun _ hK34 => rS (MV rfl) <| rS (BI rfl b_neq) ?_
 refine RK hK34 ?_
 refine w_if rfl (fun h54 => ?_) (fun h54 => ?_)
 rotate_left 1
 · replace h54 := XF h54
   refine WK hK33 <| w_region <| rS (FA 1 rfl fo83_1 rfl) <| rS (L1 (Value.slice ta ((sigsL l r i).length) tc) 4 rfl tk81 rfl rfl) <| rS (LW 0 rfl tk34 rfl rfl) <| r_bs (xs := [.tmp 61]) (cs := (SpanV.cells (whenV l s))) rfl te81 tz34 rfl rfl rfl rfl (by simp [Value.cells, SpanV.cells_length]) rfl rfl fun b41 => r_append (es2 := (List.map SpanV.cells (sigsL l r (i + 1)))) (m' := (sigsL l r (i + 1)).length) 3 rfl rfl rfl ta81 rfl rfl (by simp) (has_rd_blk (es := List.map SpanV.cells [(whenV l s)]) 0 rfl rfl (by simp [SpanV.cells_length]) rfl) (one_SpanV_cells _) (by rw [sigsL_len (by omega)]; omega) (by rw [sigsL_len (by omega)]; simp only [maxLen]; omega) (by rw [sigsL_succ hs]; first | (rw [hst.1 h54]; simp; done) | (rw [hst.2 h54]; simp; done)) (by simp) rfl fun a42 c43 => ?_
   try dsimp only
   refine rS (FA 1 rfl fo83_1 rfl) <| ST5 (KnownV.cells (KnownV.mk (Slc.mk a ((leasts l l.Beams.length).length) c) (Slc.mk a42 ((sigsL l r (i + 1)).length) c43))) rfl ts81 rfl rfl <| r_nil <| k_block <| KK hK28 <| w_region <| rS (BI rfl (b_add ⟨by omega, by omega⟩)) <| rS (MV rfl) <| r_nil ?_
   have hb44 : (Value.int .i64 (((i + 1) : Nat) : Int)) = (Value.int .i64 (((i : Nat) : Int) + 1)) := by exact congrArg (Value.int .i64) (by omega)
   refine k_then (hJ24 ⟨((i + 1), a42, c43), (by first | omega | (simp only []; omega))⟩ _ _ _ rfl (by first | omega | (simp; omega)) (Sub.cons rfl <| Sub.cons rfl <| Sub.cons rfl <| Sub.cons rfl <| Sub.cons rfl <| Sub.cons rfl <| sub_val rfl hb44 <| Sub.nil _) (fun w hs => St.sel [3, 4, 5, 6, 7, 8, 9, 10, 11, 12, 13] rfl rfl hs))
 replace h54 := XT h54
 refine w_seq fun _ hK35 => WS fun _ hK36 => rS (MV rfl) <| rS (BI rfl b_neq) <| RK hK36 ?_
 refine w_if rfl (fun h56 => ?_) (fun h56 => ?_)
 · replace h56 := XT h56
   exfalso; have := hte.1; omega
 replace h56 := XF h56
 refine WK hK35 <| w_region <| rS (CL (lspan_c 1 0) (ha_nil) rfl) <| SW0 rfl ts34 rfl <| RK hK33 <| w_region <| rS (FA 1 rfl fo83_1 rfl) <| rS (L1 (Value.slice ta ((sigsL l r i).length) tc) 4 rfl tk81 rfl rfl) <| rS (LW 0 rfl tk34 rfl rfl) <| r_bs (xs := [.tmp 61]) (cs := (SpanV.cells (SpanV.mk 1 0))) rfl te81 tz34 rfl rfl rfl rfl (by simp [Value.cells, SpanV.cells_length]) rfl rfl fun b37 => ?_
 refine r_append (es2 := (List.map SpanV.cells (sigsL l r (i + 1)))) (m' := (sigsL l r (i + 1)).length) 3 rfl rfl rfl ta81 rfl rfl (by simp) (has_rd_blk (es := List.map SpanV.cells [(SpanV.mk 1 0)]) 0 rfl rfl (by simp [SpanV.cells_length]) rfl) (one_SpanV_cells _) (by rw [sigsL_len (by omega)]; omega) (by rw [sigsL_len (by omega)]; simp only [maxLen]; omega) (by rw [sigsL_succ hs]; first | (rw [hst.1 h54]; simp; done) | (rw [hst.2 h54]; simp; done)) (by simp) rfl fun a38 c39 => ?_
 try dsimp only
 refine rS (FA 1 rfl fo83_1 rfl) <| ST5 (KnownV.cells (KnownV.mk (Slc.mk a ((leasts l l.Beams.length).length) c) (Slc.mk a38 ((sigsL l r (i + 1)).length) c39))) rfl ts81 rfl rfl <| r_nil <| k_block <| KK hK28 <| w_region <| rS (BI rfl (b_add ⟨by omega, by omega⟩)) <| rS (MV rfl) <| r_nil ?_
 have hb40 : (Value.int .i64 (((i + 1) : Nat) : Int)) = (Value.int .i64 (((i : Nat) : Int) + 1)) := by exact congrArg (Value.int .i64) (by omega)
 refine k_then (hJ24 ⟨((i + 1), a38, c39), (by first | omega | (simp only []; omega))⟩ _ _ _ rfl (by first | omega | (simp; omega)) (Sub.cons rfl <| Sub.cons rfl <| Sub.cons rfl <| Sub.cons rfl <| Sub.cons rfl <| Sub.cons rfl <| sub_val rfl hb40 <| Sub.nil _) (fun w hs => St.sel [3, 4, 5, 6, 7, 8, 9, 10, 11, 12, 13] rfl rfl hs))
set_option maxRecDepth 100000 in
set_option maxHeartbeats 400000 in
theorem canstep_c (l : LineM) (kA : Option Addr) (kC : Nat) (az : List RA) (cA : Option Addr) (cC : Nat) (bA : Option Addr) (bC : Nat) (r : RideM) (sgA : Option Addr) (sgC : Nat) (d : Nat) (k : Nat) (kb : Nat) (fr : Int) (go_ : Int) (mi : Int) (on : Int) (at_ : Int) (wA : Option Addr) (wC : Nat) (tA : Option Addr) (tC : Nat) (hin : LineIn l az) (hle : lineE l = 0) (hr : RideOk l r) (hk : d + k = kb) (hkb : kb ≤ l.Beams.length) (hf : 0 ≤ fr ∧ fr ≤ 86400000) (hg : 0 ≤ go_ ∧ go_ ≤ (d : Int)) (hm : 0 ≤ mi ∧ mi ≤ (d : Int)) (hat : -10 ≤ at_ ∧ at_ ≤ 90000000) (hrec : ∀ (k2 d2 : Nat) (f2 g2 m2 : Int), k2 < k → d2 + k2 = kb → 0 ≤ f2 ∧ f2 ≤ 86400000 → 0 ≤ g2 ∧ g2 ≤ (d2 : Int) → 0 ≤ m2 ∧ m2 ≤ (d2 : Int) → FnV Try.prog 33 [(Value.agg (LineV.cells (LineV.mk (TrackV.mk (Slc.mk kA l.Track.length kC)) l.Fast (Slc.mk cA l.Clocks.length cC) (Slc.mk bA l.Beams.length bC) l.Finish l.Fakes l.Misses)).toArray), (Value.agg (RideV.cells (RideV.mk r.Start r.Now (Slc.mk sgA r.Signals.length sgC))).toArray), (Value.agg (KnownV.cells (KnownV.mk (Slc.mk wA ((leasts l l.Beams.length).length) wC) (Slc.mk tA ((sigsL l r r.Signals.length).length) tC))).toArray), (Value.int .i64 ((d2 : Nat) : Int)), (Value.int .i64 f2), (Value.int .i64 g2), (Value.int .i64 m2), (Value.int .i64 ((kb : Nat) : Int)), (Value.int .i64 on), (Value.int .i64 at_)] [(rd kA l.Track.length 9 (l.Track.map StretchV.cells)), (rd cA l.Clocks.length 2 (List.zipWith ClockM.cells l.Clocks az)), (bun (nest ClockM.rds l.Clocks az)), (rd bA l.Beams.length 4 (l.Beams.map BeamV.cells)), (rd sgA r.Signals.length 2 (r.Signals.map SignalV.cells)), (rd wA ((leasts l l.Beams.length).length) 1 ((leasts l l.Beams.length).map iC)), (rd tA ((sigsL l r r.Signals.length).length) 2 ((sigsL l r r.Signals.length).map SpanV.cells))] (Value.bool (canF l r on at_ k2 d2 f2 g2 m2))) :
    FnV Try.prog 33 [(Value.agg (LineV.cells (LineV.mk (TrackV.mk (Slc.mk kA l.Track.length kC)) l.Fast (Slc.mk cA l.Clocks.length cC) (Slc.mk bA l.Beams.length bC) l.Finish l.Fakes l.Misses)).toArray), (Value.agg (RideV.cells (RideV.mk r.Start r.Now (Slc.mk sgA r.Signals.length sgC))).toArray), (Value.agg (KnownV.cells (KnownV.mk (Slc.mk wA ((leasts l l.Beams.length).length) wC) (Slc.mk tA ((sigsL l r r.Signals.length).length) tC))).toArray), (Value.int .i64 ((d : Nat) : Int)), (Value.int .i64 fr), (Value.int .i64 go_), (Value.int .i64 mi), (Value.int .i64 ((kb : Nat) : Int)), (Value.int .i64 on), (Value.int .i64 at_)] [(rd kA l.Track.length 9 (l.Track.map StretchV.cells)), (rd cA l.Clocks.length 2 (List.zipWith ClockM.cells l.Clocks az)), (bun (nest ClockM.rds l.Clocks az)), (rd bA l.Beams.length 4 (l.Beams.map BeamV.cells)), (rd sgA r.Signals.length 2 (r.Signals.map SignalV.cells)), (rd wA ((leasts l l.Beams.length).length) 1 ((leasts l l.Beams.length).map iC)), (rd tA ((sigsL l r r.Signals.length).length) 2 ((sigsL l r r.Signals.length).map SpanV.cells))] (Value.bool (canF l r on at_ k d fr go_ mi)) := by
 have htk := hin.trk
 have hck := hin.cks
 have has := hin.as_
 have hbm := hin.bms
 obtain ⟨htr, hok⟩ := lineE_zero hle
 have hhd := hok.head
 unfold HeadOk at hhd
 have hrl := hr.len
 have hrt := hr.time
 refine fnV_of go33 Try.func33 rfl rfl fun w0 Q hQ hN => ?_
 try dsimp only
 refine WS fun _ hK1 => BXA rfl fun b2 => BXA rfl fun b3 => BXA rfl fun b4 => rS (AG rfl) <| RK hK1 <| w_seq fun _ hK5 => WS fun _ hK6 => rS (MV rfl) <| rS (MV rfl) ?_
 refine rS (BI rfl b_eql) <| RK hK6 ?_
 refine w_if rfl (fun h28 => ?_) (fun h28 => ?_)
 · replace h28 := DT h28
   refine WS fun _ hK7 => rS (MV rfl) <| rS (FA 6 rfl fo28_6 rfl) <| rS (L1 (Value.int .i64 l.Misses) 2 rfl tk3 rfl rfl) <| rS (BI rfl b_leq) <| rS (MV rfl) ?_
   refine r_bool (t := 33) rfl (fun h33 => ?_) (fun h33 => ?_)
   rotate_left 1
   · replace h33 := DF h33
     refine rS (OX rfl) <| rS (OX rfl) <| rS (OX rfl) <| rS (OX rfl) <| rS (OX rfl) <| rS (OX rfl) <| rS (OX rfl) <| rS (OX rfl) <| rS (PK rfl) <| rS (AG rfl) ?_
     refine RK hK7 <| w_ret <| Q1 hQ rfl rfl rfl ?_
     first | (obtain rfl : k = 0 := (by omega); rw [canF_zero]; first | exact congrArg Value.bool (decide_eq_decide.2 ⟨fun q => ⟨h33, q⟩, fun q => q.2⟩) | exact congrArg Value.bool (decide_eq_false fun q => h33 q.1).symm) | exact congrArg Value.bool (canF_miss h46).symm | exact congrArg Value.bool (canF_yes h46 (j := j) (by omega) ((can_take (sigZ_neg (by omega)) (by subst hyl; dsimp only; omega)).trans ((if_pos (by omega)).trans h128))).symm | exact congrArg Value.bool (canF_yes h46 (j := j) (by omega) ((can_take (sigZ_pos (by omega) hs h68) (by subst hyl hzl; dsimp only; omega)).trans ((if_neg (by omega)).trans h128))).symm | exact congrArg Value.bool (canF_no h46 (by omega) hl6_1).symm
   replace h33 := DT h33
   refine rS (FA 2 rfl fo69_2 rfl) <| rS (L1 (Value.slice sgA r.Signals.length sgC) 1 rfl tk67 rfl rfl) <| rS (LN rfl ut67) <| rS (MV rfl) <| rS (BI rfl (b_sub ⟨by omega, by omega⟩)) <| rS (FA 5 rfl fo28_5 rfl) <| rS (L1 (Value.int .i64 l.Fakes) 2 rfl tk3 rfl rfl) <| rS (BI rfl b_leq) <| rS (PK rfl) <| rS (AG rfl) ?_
   refine RK hK7 <| w_ret <| Q1 hQ rfl rfl rfl ?_
   first | (obtain rfl : k = 0 := (by omega); rw [canF_zero]; first | exact congrArg Value.bool (decide_eq_decide.2 ⟨fun q => ⟨h33, q⟩, fun q => q.2⟩) | exact congrArg Value.bool (decide_eq_false fun q => h33 q.1).symm) | exact congrArg Value.bool (canF_miss h46).symm | exact congrArg Value.bool (canF_yes h46 (j := j) (by omega) ((can_take (sigZ_neg (by omega)) (by subst hyl; dsimp only; omega)).trans ((if_pos (by omega)).trans h128))).symm | exact congrArg Value.bool (canF_yes h46 (j := j) (by omega) ((can_take (sigZ_pos (by omega) hs h68) (by subst hyl hzl; dsimp only; omega)).trans ((if_neg (by omega)).trans h128))).symm | exact congrArg Value.bool (canF_no h46 (by omega) hl6_1).symm
 replace h28 := DF h28
 refine WK hK5 <| w_seq fun _ hK8 => WS fun _ hK9 => ?_
 obtain ⟨k1, rfl⟩ : ∃ k1, k = k1 + 1 := ⟨k - 1, by omega⟩
 refine rS (MV rfl) <| rS (FA 6 rfl fo28_6 rfl) <| rS (L1 (Value.int .i64 l.Misses) 2 rfl tk3 rfl rfl) <| rS (BI rfl b_gtr) <| RK hK9 ?_
 refine w_if rfl (fun h46 => ?_) (fun h46 => ?_)
 · replace h46 := DT h46
   refine WS fun _ hK10 => rS (AG rfl) <| RK hK10 <| w_ret <| Q1 hQ rfl rfl rfl ?_
   first | (obtain rfl : k = 0 := (by omega); rw [canF_zero]; first | exact congrArg Value.bool (decide_eq_decide.2 ⟨fun q => ⟨h33, q⟩, fun q => q.2⟩) | exact congrArg Value.bool (decide_eq_false fun q => h33 q.1).symm) | exact congrArg Value.bool (canF_miss h46).symm | exact congrArg Value.bool (canF_yes h46 (j := j) (by omega) ((can_take (sigZ_neg (by omega)) (by subst hyl; dsimp only; omega)).trans ((if_pos (by omega)).trans h128))).symm | exact congrArg Value.bool (canF_yes h46 (j := j) (by omega) ((can_take (sigZ_pos (by omega) hs h68) (by subst hyl hzl; dsimp only; omega)).trans ((if_neg (by omega)).trans h128))).symm | exact congrArg Value.bool (canF_no h46 (by omega) hl6_1).symm
 replace h46 := DF h46
 refine WK hK8 <| w_seq fun _ hK11 => WS fun _ hK12 => rS (AG rfl) <| RK hK12 <| w_block ?_
 have hinit : (0 ≤ r.Signals.length + 1) ∧ (∀ q : Nat, q < 0 → canI l r on at_ d fr go_ mi (fun t g m => canF l r on at_ k1 (d + 1) t g m) ((q : Int) - 1) = false) := by exact ⟨Nat.zero_le _, fun q hq => absurd hq (Nat.not_lt_zero _)⟩
 have hb13 : (Value.int .i64 (((0 : Nat) : Int) - 1)) = (Value.int .i64 (-1)) := by exact congrArg (Value.int .i64) (by omega)
 refine w_loop (ι := { z : Nat // (z ≤ r.Signals.length + 1) ∧ (∀ q : Nat, q < z → canI l r on at_ d fr go_ mi (fun t g m => canF l r on at_ k1 (d + 1) t g m) ((q : Int) - 1) = false) }) (fun z => [(3, (Value.int .i64 ((d : Nat) : Int))), (4, (Value.int .i64 fr)), (5, (Value.int .i64 go_)), (6, (Value.int .i64 mi)), (7, (Value.int .i64 ((kb : Nat) : Int))), (8, (Value.int .i64 on)), (9, (Value.int .i64 at_)), (10, (Value.pointer (some ⟨b2, 0, none⟩))), (11, (Value.pointer (some ⟨b3, 0, none⟩))), (12, (Value.pointer (some ⟨b4, 0, none⟩))), (21, (Value.int .i64 (((z.1 : Nat) : Int) - 1)))]) (fun z => [(blk b4 83 (KnownV.cells (KnownV.mk (Slc.mk wA ((leasts l l.Beams.length).length) wC) (Slc.mk tA ((sigsL l r r.Signals.length).length) tC)))), (blk b3 69 (RideV.cells (RideV.mk r.Start r.Now (Slc.mk sgA r.Signals.length sgC)))), (blk b2 28 (LineV.cells (LineV.mk (TrackV.mk (Slc.mk kA l.Track.length kC)) l.Fast (Slc.mk cA l.Clocks.length cC) (Slc.mk bA l.Beams.length bC) l.Finish l.Fakes l.Misses))), (rd kA l.Track.length 9 (l.Track.map StretchV.cells)).ro, (rd cA l.Clocks.length 2 (List.zipWith ClockM.cells l.Clocks az)).ro, (bun (nest ClockM.rds l.Clocks az)).ro, (rd bA l.Beams.length 4 (l.Beams.map BeamV.cells)).ro, (rd sgA r.Signals.length 2 (r.Signals.map SignalV.cells)).ro, (rd wA ((leasts l l.Beams.length).length) 1 ((leasts l l.Beams.length).map iC)).ro, (rd tA ((sigsL l r r.Signals.length).length) 2 ((sigsL l r r.Signals.length).map SpanV.cells)).ro]) (fun z => r.Signals.length + 1 - z.1) ⟨0, hinit⟩ (Sub.cons rfl <| Sub.cons rfl <| Sub.cons rfl <| Sub.cons rfl <| Sub.cons rfl <| Sub.cons rfl <| Sub.cons rfl <| Sub.cons rfl <| Sub.cons rfl <| Sub.cons rfl <| sub_val rfl hb13 <| Sub.nil _) (fun w hs => St.sel [0, 1, 2, 3, 4, 5, 6, 7, 8, 9] rfl rfl hs) ?_
 clear hinit
 rintro ⟨j, ⟨hl6_0, hl6_1⟩⟩ J14 hJ14
 try dsimp only
 refine w_seq fun _ hK15 => WS fun _ hK16 => rS (MV rfl) <| rS (FA 2 rfl fo69_2 rfl) <| rS (L1 (Value.slice sgA r.Signals.length sgC) 1 rfl tk67 rfl rfl) <| rS (LN rfl ut67) <| rS (BI rfl b_lss) <| RK hK16 ?_
 refine w_if rfl (fun h17 => ?_) (fun h17 => ?_)
 rotate_left 1
 · replace h17 := DF h17
   refine w_exit <| k_exit_then <| k_exit_then <| k_exit_same <| KK hK11 <| WS fun _ hK70 => rS (AG rfl) <| RK hK70 <| w_ret <| Q1 hQ rfl rfl rfl ?_
   first | (obtain rfl : k = 0 := (by omega); rw [canF_zero]; first | exact congrArg Value.bool (decide_eq_decide.2 ⟨fun q => ⟨h33, q⟩, fun q => q.2⟩) | exact congrArg Value.bool (decide_eq_false fun q => h33 q.1).symm) | exact congrArg Value.bool (canF_miss h46).symm | exact congrArg Value.bool (canF_yes h46 (j := j) (by omega) ((can_take (sigZ_neg (by omega)) (by subst hyl; dsimp only; omega)).trans ((if_pos (by omega)).trans h128))).symm | exact congrArg Value.bool (canF_yes h46 (j := j) (by omega) ((can_take (sigZ_pos (by omega) hs h68) (by subst hyl hzl; dsimp only; omega)).trans ((if_neg (by omega)).trans h128))).symm | exact congrArg Value.bool (canF_no h46 (by omega) hl6_1).symm
 replace h17 := DT h17
 refine WK hK15 <| w_seq fun _ hK18 => w_block <| WS fun _ hK19 => rS (FA 0 rfl fo69_0 rfl) <| rS (L1 (Value.int .i64 r.Start) 1 rfl tk3 rfl rfl) <| rS (FA 1 rfl fo69_1 rfl) <| rS (L1 (Value.int .i64 r.Now) 1 rfl tk3 rfl rfl) <| rS (CL (lspan_c r.Start r.Now) (ha_nil) rfl) <| AL rfl tz34 fun b20 => ?_
 refine SW0 rfl ts34 rfl <| RK hK19 <| w_seq fun _ hK21 => WS fun _ hK22 => rS (MV rfl) <| rS (BI rfl b_geq) <| RK hK22 ?_
 refine w_if rfl (fun h60 => ?_) (fun h60 => ?_)
 rotate_left 1
 · replace h60 := DF h60
   refine WK hK21 <| w_seq fun _ hK48 => w_draw mixed 15 (by kernel_rfl) <| dS (MV rfl) <| dS (FA 0 rfl fo83_0 rfl) <| dS (L1 (Value.slice wA ((leasts l l.Beams.length).length) wC) 1 rfl tk57 rfl rfl) <| dS (MV rfl) ?_
   have hll := leasts_len (l := l) (n := l.Beams.length)
   obtain ⟨y, hy⟩ : ∃ y_, (leasts l l.Beams.length)[d]? = some y_ := ⟨(leasts l l.Beams.length)[d]'(by omega), List.getElem?_eq_getElem _⟩
   have hym : ((leasts l l.Beams.length).map iC)[d]? = some (iC y) := by rw [List.getElem?_map, hy]; rfl
   refine dS (IA d rfl (has_at 9 rfl) te57 (by decide) (by omega) (by omega)) <| dS (LE1 d 0 (Value.int .i64 y) rfl tk3 (has_at 9 rfl) hym rfl (by decide) rfl) ?_
   have hyl := leasts_at hy
   have hyb := leastF_bb htr hok (i := d) (by omega)
   rw [← hyl] at hyb
   refine dS (BI rfl (b_add ⟨by omega, by omega⟩)) <| dS (FA 0 rfl fo34_0 rfl) <| dS (L1 (Value.int .i64 r.Start) 0 rfl tk3 rfl rfl) <| dS (MX rfl) <| dS (MV rfl) <| dS (MV rfl) <| dS (AG rfl) <| dS (AG rfl) <| dS (AG rfl) <| d_end ?_
   refine RK hK48 <| w_seq fun _ hK49 => WS fun _ hK50 => rS (MV rfl) <| rS (MV rfl) <| rS (BI rfl b_eql) <| RK hK50 ?_
   refine w_if rfl (fun h102 => ?_) (fun h102 => ?_)
   rotate_left 1
   · replace h102 := DF h102
     refine WK hK49 <| w_seq fun _ hK62 => WS fun _ hK63 => rS (MV rfl) <| rS (FA 1 rfl fo34_1 rfl) <| rS (L1 (Value.int .i64 r.Now) 0 rfl tk3 rfl rfl) <| rS (BI rfl b_gtr) <| RK hK63 ?_
     refine w_if rfl (fun h110 => ?_) (fun h110 => ?_)
     · replace h110 := DT h110
       refine w_exit <| k_exit_then <| k_exit_same <| KK hK18 <| w_region <| rS (MV rfl) <| rS (BI rfl (b_add ⟨by omega, by omega⟩)) <| rS (AG rfl) <| r_nil ?_
       have hb64 : (Value.int .i64 ((((j + 1) : Nat) : Int) - 1)) = (Value.int .i64 ((((j : Nat) : Int) - 1) + 1)) := by exact congrArg (Value.int .i64) (by omega)
       refine k_then (hJ14 ⟨(j + 1), ⟨by omega, by first | exact can_upto hl6_1 (canI_none (sigZ_other (by omega) hs h68)) | exact can_upto hl6_1 (can_skip (sigZ_neg (by omega)) (by subst hyl; dsimp only; omega)) | exact can_upto hl6_1 (can_skip (sigZ_pos (by omega) hs h68) (by subst hyl hzl; dsimp only; omega)) | exact can_upto hl6_1 ((can_take (sigZ_neg (by omega)) (by subst hyl; dsimp only; omega)).trans ((if_pos (by omega)).trans h128)) | exact can_upto hl6_1 ((can_take (sigZ_pos (by omega) hs h68) (by subst hyl hzl; dsimp only; omega)).trans ((if_neg (by omega)).trans h128))⟩⟩ _ _ _ rfl (by first | omega | (simp; omega)) (Sub.cons rfl <| Sub.cons rfl <| Sub.cons rfl <| Sub.cons rfl <| Sub.cons rfl <| Sub.cons rfl <| Sub.cons rfl <| Sub.cons rfl <| Sub.cons rfl <| Sub.cons rfl <| sub_val rfl hb64 <| Sub.nil _) (fun w hs => St.sel [1, 2, 3, 4, 5, 6, 7, 8, 9, 10] rfl rfl hs))
     replace h110 := DF h110
     refine WK hK62 <| w_seq fun _ hK65 => WS fun _ hK66 => rS (MV rfl) <| rS (BI rfl b_geq) <| RK hK66 ?_
     refine w_if rfl (fun h112 => ?_) (fun h112 => ?_)
     · replace h112 := DT h112
       exfalso; omega
     replace h112 := DF h112
     refine w_region <| rS (MV rfl) <| rS (BI rfl (b_add ⟨by omega, by omega⟩)) <| rS (AG rfl) <| RK hK65 <| WS fun _ hK67 => rS (LW 3 rfl tk28 rfl rfl) <| rS (LW 2 rfl tk69 rfl rfl) <| rS (LW 1 rfl tk83 rfl rfl) <| rS (MV rfl) ?_
     refine rS (BI rfl (b_add ⟨by omega, by omega⟩)) <| rS (MV rfl) <| rS (MV rfl) <| rS (MV rfl) <| rS (MV rfl) <| rS (MV rfl) <| rS (MV rfl) <| rS (CL (hrec k1 (d + 1) (max (fr + y) r.Start) go_ (mi + 1) (by omega) (by omega) (by omega) (by omega) (by omega)) (ha_at 4 rfl rfl <| ha_at 5 rfl rfl <| ha_at 6 rfl rfl <| ha_at 7 rfl rfl <| ha_at 8 rfl rfl <| ha_at 9 rfl rfl <| ha_at 10 rfl rfl <| ha_nil) rfl) <| RK hK67 ?_
     refine w_if rfl (fun h128 => ?_) (fun h128 => ?_)
     · refine WS fun _ hK68 => ?_
       refine rS (AG rfl) <| RK hK68 <| w_ret <| Q1 hQ rfl rfl rfl ?_
       first | (obtain rfl : k = 0 := (by omega); rw [canF_zero]; first | exact congrArg Value.bool (decide_eq_decide.2 ⟨fun q => ⟨h33, q⟩, fun q => q.2⟩) | exact congrArg Value.bool (decide_eq_false fun q => h33 q.1).symm) | exact congrArg Value.bool (canF_miss h46).symm | exact congrArg Value.bool (canF_yes h46 (j := j) (by omega) ((can_take (sigZ_neg (by omega)) (by subst hyl; dsimp only; omega)).trans ((if_pos (by omega)).trans h128))).symm | exact congrArg Value.bool (canF_yes h46 (j := j) (by omega) ((can_take (sigZ_pos (by omega) hs h68) (by subst hyl hzl; dsimp only; omega)).trans ((if_neg (by omega)).trans h128))).symm | exact congrArg Value.bool (canF_no h46 (by omega) hl6_1).symm
     refine w_skip <| k_block <| KK hK18 <| w_region <| rS (MV rfl) <| rS (BI rfl (b_add ⟨by omega, by omega⟩)) <| rS (AG rfl) <| r_nil ?_
     have hb69 : (Value.int .i64 ((((j + 1) : Nat) : Int) - 1)) = (Value.int .i64 ((((j : Nat) : Int) - 1) + 1)) := by exact congrArg (Value.int .i64) (by omega)
     refine k_then (hJ14 ⟨(j + 1), ⟨by omega, by first | exact can_upto hl6_1 (canI_none (sigZ_other (by omega) hs h68)) | exact can_upto hl6_1 (can_skip (sigZ_neg (by omega)) (by subst hyl; dsimp only; omega)) | exact can_upto hl6_1 (can_skip (sigZ_pos (by omega) hs h68) (by subst hyl hzl; dsimp only; omega)) | exact can_upto hl6_1 ((can_take (sigZ_neg (by omega)) (by subst hyl; dsimp only; omega)).trans ((if_pos (by omega)).trans h128)) | exact can_upto hl6_1 ((can_take (sigZ_pos (by omega) hs h68) (by subst hyl hzl; dsimp only; omega)).trans ((if_neg (by omega)).trans h128))⟩⟩ _ _ _ rfl (by first | omega | (simp; omega)) (Sub.cons rfl <| Sub.cons rfl <| Sub.cons rfl <| Sub.cons rfl <| Sub.cons rfl <| Sub.cons rfl <| Sub.cons rfl <| Sub.cons rfl <| Sub.cons rfl <| Sub.cons rfl <| sub_val rfl hb69 <| Sub.nil _) (fun w hs => St.sel [1, 2, 3, 4, 5, 6, 7, 8, 9, 10] rfl rfl hs))
   replace h102 := DT h102
   refine w_seq fun _ hK51 => WS fun _ hK52 => rS (MV rfl) <| rS (MV rfl) <| rS (BI rfl b_lss) <| RK hK52 ?_
   refine w_if rfl (fun h105 => ?_) (fun h105 => ?_)
   · replace h105 := DT h105
     refine w_exit <| k_exit_then <| k_exit_then <| k_exit_same <| KK hK18 <| w_region <| rS (MV rfl) <| rS (BI rfl (b_add ⟨by omega, by omega⟩)) <| rS (AG rfl) <| r_nil ?_
     have hb53 : (Value.int .i64 ((((j + 1) : Nat) : Int) - 1)) = (Value.int .i64 ((((j : Nat) : Int) - 1) + 1)) := by exact congrArg (Value.int .i64) (by omega)
     refine k_then (hJ14 ⟨(j + 1), ⟨by omega, by first | exact can_upto hl6_1 (canI_none (sigZ_other (by omega) hs h68)) | exact can_upto hl6_1 (can_skip (sigZ_neg (by omega)) (by subst hyl; dsimp only; omega)) | exact can_upto hl6_1 (can_skip (sigZ_pos (by omega) hs h68) (by subst hyl hzl; dsimp only; omega)) | exact can_upto hl6_1 ((can_take (sigZ_neg (by omega)) (by subst hyl; dsimp only; omega)).trans ((if_pos (by omega)).trans h128)) | exact can_upto hl6_1 ((can_take (sigZ_pos (by omega) hs h68) (by subst hyl hzl; dsimp only; omega)).trans ((if_neg (by omega)).trans h128))⟩⟩ _ _ _ rfl (by first | omega | (simp; omega)) (Sub.cons rfl <| Sub.cons rfl <| Sub.cons rfl <| Sub.cons rfl <| Sub.cons rfl <| Sub.cons rfl <| Sub.cons rfl <| Sub.cons rfl <| Sub.cons rfl <| Sub.cons rfl <| sub_val rfl hb53 <| Sub.nil _) (fun w hs => St.sel [1, 2, 3, 4, 5, 6, 7, 8, 9, 10] rfl rfl hs))
   replace h105 := DF h105
   refine WK hK51 <| w_region <| rS (MV rfl) <| rS (AG rfl) <| RK hK49 <| w_seq fun _ hK54 => WS fun _ hK55 => rS (MV rfl) <| rS (FA 1 rfl fo34_1 rfl) <| rS (L1 (Value.int .i64 r.Now) 0 rfl tk3 rfl rfl) ?_
   refine rS (BI rfl b_gtr) <| RK hK55 ?_
   refine w_if rfl (fun h110 => ?_) (fun h110 => ?_)
   · replace h110 := DT h110
     refine w_exit <| k_exit_then <| k_exit_same <| KK hK18 <| w_region <| rS (MV rfl) <| rS (BI rfl (b_add ⟨by omega, by omega⟩)) <| rS (AG rfl) <| r_nil ?_
     have hb56 : (Value.int .i64 ((((j + 1) : Nat) : Int) - 1)) = (Value.int .i64 ((((j : Nat) : Int) - 1) + 1)) := by exact congrArg (Value.int .i64) (by omega)
     refine k_then (hJ14 ⟨(j + 1), ⟨by omega, by first | exact can_upto hl6_1 (canI_none (sigZ_other (by omega) hs h68)) | exact can_upto hl6_1 (can_skip (sigZ_neg (by omega)) (by subst hyl; dsimp only; omega)) | exact can_upto hl6_1 (can_skip (sigZ_pos (by omega) hs h68) (by subst hyl hzl; dsimp only; omega)) | exact can_upto hl6_1 ((can_take (sigZ_neg (by omega)) (by subst hyl; dsimp only; omega)).trans ((if_pos (by omega)).trans h128)) | exact can_upto hl6_1 ((can_take (sigZ_pos (by omega) hs h68) (by subst hyl hzl; dsimp only; omega)).trans ((if_neg (by omega)).trans h128))⟩⟩ _ _ _ rfl (by first | omega | (simp; omega)) (Sub.cons rfl <| Sub.cons rfl <| Sub.cons rfl <| Sub.cons rfl <| Sub.cons rfl <| Sub.cons rfl <| Sub.cons rfl <| Sub.cons rfl <| Sub.cons rfl <| Sub.cons rfl <| sub_val rfl hb56 <| Sub.nil _) (fun w hs => St.sel [1, 2, 3, 4, 5, 6, 7, 8, 9, 10] rfl rfl hs))
   replace h110 := DF h110
   refine WK hK54 <| w_seq fun _ hK57 => WS fun _ hK58 => rS (MV rfl) <| rS (BI rfl b_geq) <| RK hK58 ?_
   refine w_if rfl (fun h112 => ?_) (fun h112 => ?_)
   · replace h112 := DT h112
     exfalso; omega
   replace h112 := DF h112
   refine w_region <| rS (MV rfl) <| rS (BI rfl (b_add ⟨by omega, by omega⟩)) <| rS (AG rfl) <| RK hK57 <| WS fun _ hK59 => rS (LW 3 rfl tk28 rfl rfl) <| rS (LW 2 rfl tk69 rfl rfl) <| rS (LW 1 rfl tk83 rfl rfl) <| rS (MV rfl) ?_
   refine rS (BI rfl (b_add ⟨by omega, by omega⟩)) <| rS (MV rfl) <| rS (MV rfl) <| rS (MV rfl) <| rS (MV rfl) <| rS (MV rfl) <| rS (MV rfl) <| rS (CL (hrec k1 (d + 1) at_ go_ (mi + 1) (by omega) (by omega) (by omega) (by omega) (by omega)) (ha_at 4 rfl rfl <| ha_at 5 rfl rfl <| ha_at 6 rfl rfl <| ha_at 7 rfl rfl <| ha_at 8 rfl rfl <| ha_at 9 rfl rfl <| ha_at 10 rfl rfl <| ha_nil) rfl) <| RK hK59 ?_
   refine w_if rfl (fun h128 => ?_) (fun h128 => ?_)
   · refine WS fun _ hK60 => ?_
     refine rS (AG rfl) <| RK hK60 <| w_ret <| Q1 hQ rfl rfl rfl ?_
     first | (obtain rfl : k = 0 := (by omega); rw [canF_zero]; first | exact congrArg Value.bool (decide_eq_decide.2 ⟨fun q => ⟨h33, q⟩, fun q => q.2⟩) | exact congrArg Value.bool (decide_eq_false fun q => h33 q.1).symm) | exact congrArg Value.bool (canF_miss h46).symm | exact congrArg Value.bool (canF_yes h46 (j := j) (by omega) ((can_take (sigZ_neg (by omega)) (by subst hyl; dsimp only; omega)).trans ((if_pos (by omega)).trans h128))).symm | exact congrArg Value.bool (canF_yes h46 (j := j) (by omega) ((can_take (sigZ_pos (by omega) hs h68) (by subst hyl hzl; dsimp only; omega)).trans ((if_neg (by omega)).trans h128))).symm | exact congrArg Value.bool (canF_no h46 (by omega) hl6_1).symm
   refine w_skip <| k_block <| KK hK18 <| w_region <| rS (MV rfl) <| rS (BI rfl (b_add ⟨by omega, by omega⟩)) <| rS (AG rfl) <| r_nil ?_
   have hb61 : (Value.int .i64 ((((j + 1) : Nat) : Int) - 1)) = (Value.int .i64 ((((j : Nat) : Int) - 1) + 1)) := by exact congrArg (Value.int .i64) (by omega)
   refine k_then (hJ14 ⟨(j + 1), ⟨by omega, by first | exact can_upto hl6_1 (canI_none (sigZ_other (by omega) hs h68)) | exact can_upto hl6_1 (can_skip (sigZ_neg (by omega)) (by subst hyl; dsimp only; omega)) | exact can_upto hl6_1 (can_skip (sigZ_pos (by omega) hs h68) (by subst hyl hzl; dsimp only; omega)) | exact can_upto hl6_1 ((can_take (sigZ_neg (by omega)) (by subst hyl; dsimp only; omega)).trans ((if_pos (by omega)).trans h128)) | exact can_upto hl6_1 ((can_take (sigZ_pos (by omega) hs h68) (by subst hyl hzl; dsimp only; omega)).trans ((if_neg (by omega)).trans h128))⟩⟩ _ _ _ rfl (by first | omega | (simp; omega)) (Sub.cons rfl <| Sub.cons rfl <| Sub.cons rfl <| Sub.cons rfl <| Sub.cons rfl <| Sub.cons rfl <| Sub.cons rfl <| Sub.cons rfl <| Sub.cons rfl <| Sub.cons rfl <| sub_val rfl hb61 <| Sub.nil _) (fun w hs => St.sel [1, 2, 3, 4, 5, 6, 7, 8, 9, 10] rfl rfl hs))
 replace h60 := DT h60
 refine w_seq fun _ hK23 => WS fun _ hK24 => rS (FA 2 rfl fo69_2 rfl) <| rS (L1 (Value.slice sgA r.Signals.length sgC) 2 rfl tk67 rfl rfl) <| rS (MV rfl) ?_
 obtain ⟨s, hs⟩ : ∃ y_, r.Signals[((((j : Nat) : Int) - 1)).toNat]? = some y_ := ⟨r.Signals[((((j : Nat) : Int) - 1)).toNat]'(by omega), List.getElem?_eq_getElem _⟩
 have hsm : (r.Signals.map SignalV.cells)[((((j : Nat) : Int) - 1)).toNat]? = some (SignalV.cells s) := by rw [List.getElem?_map, hs]; rfl
 refine rS (IA (((((j : Nat) : Int) - 1)).toNat) rfl (has_at 8 rfl) te67 (by decide) (by omega) (by omega)) <| rS (FAR ((((((j : Nat) : Int) - 1)).toNat) * 2) rfl (has_at 8 rfl) (Nat.mul_pos (by omega) (by decide)) fo30_0 rfl) <| rS (LE1 (((((j : Nat) : Int) - 1)).toNat) 0 (Value.int .i64 s.Beam) rfl tk3 (has_at 8 rfl) hsm rfl (by decide) rfl) <| rS (MV rfl) <| rS (BI rfl b_neq) <| RK hK24 ?_
 refine w_if rfl (fun h68 => ?_) (fun h68 => ?_)
 · replace h68 := XT h68
   refine w_exit <| k_exit_then <| k_exit_then <| k_exit_same <| KK hK18 <| w_region <| rS (MV rfl) <| rS (BI rfl (b_add ⟨by omega, by omega⟩)) <| rS (AG rfl) <| r_nil ?_
   have hb25 : (Value.int .i64 ((((j + 1) : Nat) : Int) - 1)) = (Value.int .i64 ((((j : Nat) : Int) - 1) + 1)) := by exact congrArg (Value.int .i64) (by omega)
   refine k_then (hJ14 ⟨(j + 1), ⟨by omega, by first | exact can_upto hl6_1 (canI_none (sigZ_other (by omega) hs h68)) | exact can_upto hl6_1 (can_skip (sigZ_neg (by omega)) (by subst hyl; dsimp only; omega)) | exact can_upto hl6_1 (can_skip (sigZ_pos (by omega) hs h68) (by subst hyl hzl; dsimp only; omega)) | exact can_upto hl6_1 ((can_take (sigZ_neg (by omega)) (by subst hyl; dsimp only; omega)).trans ((if_pos (by omega)).trans h128)) | exact can_upto hl6_1 ((can_take (sigZ_pos (by omega) hs h68) (by subst hyl hzl; dsimp only; omega)).trans ((if_neg (by omega)).trans h128))⟩⟩ _ _ _ rfl (by first | omega | (simp; omega)) (Sub.cons rfl <| Sub.cons rfl <| Sub.cons rfl <| Sub.cons rfl <| Sub.cons rfl <| Sub.cons rfl <| Sub.cons rfl <| Sub.cons rfl <| Sub.cons rfl <| Sub.cons rfl <| sub_val rfl hb25 <| Sub.nil _) (fun w hs => St.sel [1, 2, 3, 4, 5, 6, 7, 8, 9, 10] rfl rfl hs))
 replace h68 := XF h68
 refine WK hK23 <| w_draw mixed 19 (by kernel_rfl) <| dS (FA 0 rfl fo34_0 rfl) <| dS (L1 (Value.int .i64 r.Start) 0 rfl tk3 rfl rfl) <| dS (FA 1 rfl fo83_1 rfl) <| dS (L1 (Value.slice tA ((sigsL l r r.Signals.length).length) tC) 1 rfl tk81 rfl rfl) <| dS (MV rfl) ?_
 have htl := sigsL_len (l := l) (r := r) (Nat.le_refl _)
 obtain ⟨z, hz⟩ : ∃ y_, (sigsL l r r.Signals.length)[((((j : Nat) : Int) - 1)).toNat]? = some y_ := ⟨(sigsL l r r.Signals.length)[((((j : Nat) : Int) - 1)).toNat]'(by omega), List.getElem?_eq_getElem _⟩
 have hzm : ((sigsL l r r.Signals.length).map SpanV.cells)[((((j : Nat) : Int) - 1)).toNat]? = some (SpanV.cells z) := by rw [List.getElem?_map, hz]; rfl
 refine dS (IA (((((j : Nat) : Int) - 1)).toNat) rfl (has_at 10 rfl) te81 (by decide) (by omega) (by omega)) ?_
 have hzl := sigsL_at hs hz
 have hzb := sigT_b l s
 rw [← hzl] at hzb
 refine dS (FAR ((((((j : Nat) : Int) - 1)).toNat) * 2) rfl (has_at 10 rfl) (Nat.mul_pos (by omega) (by decide)) fo34_0 rfl) <| dS (LE1 (((((j : Nat) : Int) - 1)).toNat) 0 (Value.int .i64 z.Lo) rfl tk3 (has_at 10 rfl) hzm rfl (by decide) rfl) <| dS (MX rfl) <| dS (FA 1 rfl fo34_1 rfl) <| dS (L1 (Value.int .i64 r.Now) 0 rfl tk3 rfl rfl) <| dS (FA 1 rfl fo83_1 rfl) <| dS (L1 (Value.slice tA ((sigsL l r r.Signals.length).length) tC) 1 rfl tk81 rfl rfl) <| dS (MV rfl) <| dS (IA (((((j : Nat) : Int) - 1)).toNat) rfl (has_at 10 rfl) te81 (by decide) (by omega) (by omega)) <| dS (FAR (((((((j : Nat) : Int) - 1)).toNat) * 2) + 1) rfl (has_at 10 rfl) (Nat.mul_pos (by omega) (by decide)) fo34_1 rfl) ?_
 refine dS (LE1 (((((j : Nat) : Int) - 1)).toNat) 1 (Value.int .i64 z.Hi) rfl tk3 (has_at 10 rfl) hzm rfl (by decide) rfl) <| dS (MN rfl) <| dS (CL (lspan_c (max r.Start z.Lo) (min r.Now z.Hi)) (ha_nil) rfl) <| d_end <| SW0 rfl ts34 rfl <| RK hK21 <| w_seq fun _ hK26 => w_draw mixed 15 (by kernel_rfl) <| dS (MV rfl) <| dS (FA 0 rfl fo83_0 rfl) ?_
 refine dS (L1 (Value.slice wA ((leasts l l.Beams.length).length) wC) 1 rfl tk57 rfl rfl) <| dS (MV rfl) ?_
 have hll := leasts_len (l := l) (n := l.Beams.length)
 obtain ⟨y, hy⟩ : ∃ y_, (leasts l l.Beams.length)[d]? = some y_ := ⟨(leasts l l.Beams.length)[d]'(by omega), List.getElem?_eq_getElem _⟩
 have hym : ((leasts l l.Beams.length).map iC)[d]? = some (iC y) := by rw [List.getElem?_map, hy]; rfl
 refine dS (IA d rfl (has_at 9 rfl) te57 (by decide) (by omega) (by omega)) <| dS (LE1 d 0 (Value.int .i64 y) rfl tk3 (has_at 9 rfl) hym rfl (by decide) rfl) ?_
 have hyl := leasts_at hy
 have hyb := leastF_bb htr hok (i := d) (by omega)
 rw [← hyl] at hyb
 refine dS (BI rfl (b_add ⟨by omega, by omega⟩)) <| dS (FA 0 rfl fo34_0 rfl) <| dS (L1 (Value.int .i64 (max r.Start z.Lo)) 0 rfl tk3 rfl rfl) <| dS (MX rfl) <| dS (MV rfl) <| dS (MV rfl) <| dS (AG rfl) <| dS (AG rfl) <| dS (AG rfl) <| d_end ?_
 refine RK hK26 <| w_seq fun _ hK27 => WS fun _ hK28 => rS (MV rfl) <| rS (MV rfl) <| rS (BI rfl b_eql) <| RK hK28 ?_
 refine w_if rfl (fun h102 => ?_) (fun h102 => ?_)
 rotate_left 1
 · replace h102 := DF h102
   refine WK hK27 <| w_seq fun _ hK40 => WS fun _ hK41 => rS (MV rfl) <| rS (FA 1 rfl fo34_1 rfl) <| rS (L1 (Value.int .i64 (min r.Now z.Hi)) 0 rfl tk3 rfl rfl) <| rS (BI rfl b_gtr) <| RK hK41 ?_
   refine w_if rfl (fun h110 => ?_) (fun h110 => ?_)
   · replace h110 := DT h110
     refine w_exit <| k_exit_then <| k_exit_same <| KK hK18 <| w_region <| rS (MV rfl) <| rS (BI rfl (b_add ⟨by omega, by omega⟩)) <| rS (AG rfl) <| r_nil ?_
     have hb42 : (Value.int .i64 ((((j + 1) : Nat) : Int) - 1)) = (Value.int .i64 ((((j : Nat) : Int) - 1) + 1)) := by exact congrArg (Value.int .i64) (by omega)
     refine k_then (hJ14 ⟨(j + 1), ⟨by omega, by first | exact can_upto hl6_1 (canI_none (sigZ_other (by omega) hs h68)) | exact can_upto hl6_1 (can_skip (sigZ_neg (by omega)) (by subst hyl; dsimp only; omega)) | exact can_upto hl6_1 (can_skip (sigZ_pos (by omega) hs h68) (by subst hyl hzl; dsimp only; omega)) | exact can_upto hl6_1 ((can_take (sigZ_neg (by omega)) (by subst hyl; dsimp only; omega)).trans ((if_pos (by omega)).trans h128)) | exact can_upto hl6_1 ((can_take (sigZ_pos (by omega) hs h68) (by subst hyl hzl; dsimp only; omega)).trans ((if_neg (by omega)).trans h128))⟩⟩ _ _ _ rfl (by first | omega | (simp; omega)) (Sub.cons rfl <| Sub.cons rfl <| Sub.cons rfl <| Sub.cons rfl <| Sub.cons rfl <| Sub.cons rfl <| Sub.cons rfl <| Sub.cons rfl <| Sub.cons rfl <| Sub.cons rfl <| sub_val rfl hb42 <| Sub.nil _) (fun w hs => St.sel [1, 2, 3, 4, 5, 6, 7, 8, 9, 10] rfl rfl hs))
   replace h110 := DF h110
   refine WK hK40 <| w_seq fun _ hK43 => WS fun _ hK44 => rS (MV rfl) <| rS (BI rfl b_geq) <| RK hK44 ?_
   refine w_if rfl (fun h112 => ?_) (fun h112 => ?_)
   rotate_left 1
   · replace h112 := DF h112
     exfalso; omega
   replace h112 := DT h112
   refine w_region <| rS (MV rfl) <| rS (BI rfl (b_add ⟨by omega, by omega⟩)) <| rS (AG rfl) <| RK hK43 <| WS fun _ hK45 => rS (LW 3 rfl tk28 rfl rfl) <| rS (LW 2 rfl tk69 rfl rfl) <| rS (LW 1 rfl tk83 rfl rfl) <| rS (MV rfl) ?_
   refine rS (BI rfl (b_add ⟨by omega, by omega⟩)) <| rS (MV rfl) <| rS (MV rfl) <| rS (MV rfl) <| rS (MV rfl) <| rS (MV rfl) <| rS (MV rfl) <| rS (CL (hrec k1 (d + 1) (max (fr + y) (max r.Start z.Lo)) (go_ + 1) mi (by omega) (by omega) (by omega) (by omega) (by omega)) (ha_at 4 rfl rfl <| ha_at 5 rfl rfl <| ha_at 6 rfl rfl <| ha_at 7 rfl rfl <| ha_at 8 rfl rfl <| ha_at 9 rfl rfl <| ha_at 10 rfl rfl <| ha_nil) rfl) <| RK hK45 ?_
   refine w_if rfl (fun h128 => ?_) (fun h128 => ?_)
   · refine WS fun _ hK46 => ?_
     refine rS (AG rfl) <| RK hK46 <| w_ret <| Q1 hQ rfl rfl rfl ?_
     first | (obtain rfl : k = 0 := (by omega); rw [canF_zero]; first | exact congrArg Value.bool (decide_eq_decide.2 ⟨fun q => ⟨h33, q⟩, fun q => q.2⟩) | exact congrArg Value.bool (decide_eq_false fun q => h33 q.1).symm) | exact congrArg Value.bool (canF_miss h46).symm | exact congrArg Value.bool (canF_yes h46 (j := j) (by omega) ((can_take (sigZ_neg (by omega)) (by subst hyl; dsimp only; omega)).trans ((if_pos (by omega)).trans h128))).symm | exact congrArg Value.bool (canF_yes h46 (j := j) (by omega) ((can_take (sigZ_pos (by omega) hs h68) (by subst hyl hzl; dsimp only; omega)).trans ((if_neg (by omega)).trans h128))).symm | exact congrArg Value.bool (canF_no h46 (by omega) hl6_1).symm
   refine w_skip <| k_block <| KK hK18 <| w_region <| rS (MV rfl) <| rS (BI rfl (b_add ⟨by omega, by omega⟩)) <| rS (AG rfl) <| r_nil ?_
   have hb47 : (Value.int .i64 ((((j + 1) : Nat) : Int) - 1)) = (Value.int .i64 ((((j : Nat) : Int) - 1) + 1)) := by exact congrArg (Value.int .i64) (by omega)
   refine k_then (hJ14 ⟨(j + 1), ⟨by omega, by first | exact can_upto hl6_1 (canI_none (sigZ_other (by omega) hs h68)) | exact can_upto hl6_1 (can_skip (sigZ_neg (by omega)) (by subst hyl; dsimp only; omega)) | exact can_upto hl6_1 (can_skip (sigZ_pos (by omega) hs h68) (by subst hyl hzl; dsimp only; omega)) | exact can_upto hl6_1 ((can_take (sigZ_neg (by omega)) (by subst hyl; dsimp only; omega)).trans ((if_pos (by omega)).trans h128)) | exact can_upto hl6_1 ((can_take (sigZ_pos (by omega) hs h68) (by subst hyl hzl; dsimp only; omega)).trans ((if_neg (by omega)).trans h128))⟩⟩ _ _ _ rfl (by first | omega | (simp; omega)) (Sub.cons rfl <| Sub.cons rfl <| Sub.cons rfl <| Sub.cons rfl <| Sub.cons rfl <| Sub.cons rfl <| Sub.cons rfl <| Sub.cons rfl <| Sub.cons rfl <| Sub.cons rfl <| sub_val rfl hb47 <| Sub.nil _) (fun w hs => St.sel [1, 2, 3, 4, 5, 6, 7, 8, 9, 10] rfl rfl hs))
 replace h102 := DT h102
 refine w_seq fun _ hK29 => WS fun _ hK30 => rS (MV rfl) <| rS (MV rfl) <| rS (BI rfl b_lss) <| RK hK30 ?_
 refine w_if rfl (fun h105 => ?_) (fun h105 => ?_)
 · replace h105 := DT h105
   refine w_exit <| k_exit_then <| k_exit_then <| k_exit_same <| KK hK18 <| w_region <| rS (MV rfl) <| rS (BI rfl (b_add ⟨by omega, by omega⟩)) <| rS (AG rfl) <| r_nil ?_
   have hb31 : (Value.int .i64 ((((j + 1) : Nat) : Int) - 1)) = (Value.int .i64 ((((j : Nat) : Int) - 1) + 1)) := by exact congrArg (Value.int .i64) (by omega)
   refine k_then (hJ14 ⟨(j + 1), ⟨by omega, by first | exact can_upto hl6_1 (canI_none (sigZ_other (by omega) hs h68)) | exact can_upto hl6_1 (can_skip (sigZ_neg (by omega)) (by subst hyl; dsimp only; omega)) | exact can_upto hl6_1 (can_skip (sigZ_pos (by omega) hs h68) (by subst hyl hzl; dsimp only; omega)) | exact can_upto hl6_1 ((can_take (sigZ_neg (by omega)) (by subst hyl; dsimp only; omega)).trans ((if_pos (by omega)).trans h128)) | exact can_upto hl6_1 ((can_take (sigZ_pos (by omega) hs h68) (by subst hyl hzl; dsimp only; omega)).trans ((if_neg (by omega)).trans h128))⟩⟩ _ _ _ rfl (by first | omega | (simp; omega)) (Sub.cons rfl <| Sub.cons rfl <| Sub.cons rfl <| Sub.cons rfl <| Sub.cons rfl <| Sub.cons rfl <| Sub.cons rfl <| Sub.cons rfl <| Sub.cons rfl <| Sub.cons rfl <| sub_val rfl hb31 <| Sub.nil _) (fun w hs => St.sel [1, 2, 3, 4, 5, 6, 7, 8, 9, 10] rfl rfl hs))
 replace h105 := DF h105
 refine WK hK29 <| w_region <| rS (MV rfl) <| rS (AG rfl) <| RK hK27 <| w_seq fun _ hK32 => WS fun _ hK33 => rS (MV rfl) <| rS (FA 1 rfl fo34_1 rfl) <| rS (L1 (Value.int .i64 (min r.Now z.Hi)) 0 rfl tk3 rfl rfl) ?_
 refine rS (BI rfl b_gtr) <| RK hK33 ?_
 refine w_if rfl (fun h110 => ?_) (fun h110 => ?_)
 · replace h110 := DT h110
   refine w_exit <| k_exit_then <| k_exit_same <| KK hK18 <| w_region <| rS (MV rfl) <| rS (BI rfl (b_add ⟨by omega, by omega⟩)) <| rS (AG rfl) <| r_nil ?_
   have hb34 : (Value.int .i64 ((((j + 1) : Nat) : Int) - 1)) = (Value.int .i64 ((((j : Nat) : Int) - 1) + 1)) := by exact congrArg (Value.int .i64) (by omega)
   refine k_then (hJ14 ⟨(j + 1), ⟨by omega, by first | exact can_upto hl6_1 (canI_none (sigZ_other (by omega) hs h68)) | exact can_upto hl6_1 (can_skip (sigZ_neg (by omega)) (by subst hyl; dsimp only; omega)) | exact can_upto hl6_1 (can_skip (sigZ_pos (by omega) hs h68) (by subst hyl hzl; dsimp only; omega)) | exact can_upto hl6_1 ((can_take (sigZ_neg (by omega)) (by subst hyl; dsimp only; omega)).trans ((if_pos (by omega)).trans h128)) | exact can_upto hl6_1 ((can_take (sigZ_pos (by omega) hs h68) (by subst hyl hzl; dsimp only; omega)).trans ((if_neg (by omega)).trans h128))⟩⟩ _ _ _ rfl (by first | omega | (simp; omega)) (Sub.cons rfl <| Sub.cons rfl <| Sub.cons rfl <| Sub.cons rfl <| Sub.cons rfl <| Sub.cons rfl <| Sub.cons rfl <| Sub.cons rfl <| Sub.cons rfl <| Sub.cons rfl <| sub_val rfl hb34 <| Sub.nil _) (fun w hs => St.sel [1, 2, 3, 4, 5, 6, 7, 8, 9, 10] rfl rfl hs))
 replace h110 := DF h110
 refine WK hK32 <| w_seq fun _ hK35 => WS fun _ hK36 => rS (MV rfl) <| rS (BI rfl b_geq) <| RK hK36 ?_
 refine w_if rfl (fun h112 => ?_) (fun h112 => ?_)
 rotate_left 1
 · replace h112 := DF h112
   exfalso; omega
 replace h112 := DT h112
 refine w_region <| rS (MV rfl) <| rS (BI rfl (b_add ⟨by omega, by omega⟩)) <| rS (AG rfl) <| RK hK35 <| WS fun _ hK37 => rS (LW 3 rfl tk28 rfl rfl) <| rS (LW 2 rfl tk69 rfl rfl) <| rS (LW 1 rfl tk83 rfl rfl) <| rS (MV rfl) ?_
 refine rS (BI rfl (b_add ⟨by omega, by omega⟩)) <| rS (MV rfl) <| rS (MV rfl) <| rS (MV rfl) <| rS (MV rfl) <| rS (MV rfl) <| rS (MV rfl) <| rS (CL (hrec k1 (d + 1) at_ (go_ + 1) mi (by omega) (by omega) (by omega) (by omega) (by omega)) (ha_at 4 rfl rfl <| ha_at 5 rfl rfl <| ha_at 6 rfl rfl <| ha_at 7 rfl rfl <| ha_at 8 rfl rfl <| ha_at 9 rfl rfl <| ha_at 10 rfl rfl <| ha_nil) rfl) <| RK hK37 ?_
 refine w_if rfl (fun h128 => ?_) (fun h128 => ?_)
 · refine WS fun _ hK38 => ?_
   refine rS (AG rfl) <| RK hK38 <| w_ret <| Q1 hQ rfl rfl rfl ?_
   first | (obtain rfl : k = 0 := (by omega); rw [canF_zero]; first | exact congrArg Value.bool (decide_eq_decide.2 ⟨fun q => ⟨h33, q⟩, fun q => q.2⟩) | exact congrArg Value.bool (decide_eq_false fun q => h33 q.1).symm) | exact congrArg Value.bool (canF_miss h46).symm | exact congrArg Value.bool (canF_yes h46 (j := j) (by omega) ((can_take (sigZ_neg (by omega)) (by subst hyl; dsimp only; omega)).trans ((if_pos (by omega)).trans h128))).symm | exact congrArg Value.bool (canF_yes h46 (j := j) (by omega) ((can_take (sigZ_pos (by omega) hs h68) (by subst hyl hzl; dsimp only; omega)).trans ((if_neg (by omega)).trans h128))).symm | exact congrArg Value.bool (canF_no h46 (by omega) hl6_1).symm
 refine w_skip <| k_block <| KK hK18 <| w_region <| rS (MV rfl) <| rS (BI rfl (b_add ⟨by omega, by omega⟩)) <| rS (AG rfl) <| r_nil ?_
 have hb39 : (Value.int .i64 ((((j + 1) : Nat) : Int) - 1)) = (Value.int .i64 ((((j : Nat) : Int) - 1) + 1)) := by exact congrArg (Value.int .i64) (by omega)
 refine k_then (hJ14 ⟨(j + 1), ⟨by omega, by first | exact can_upto hl6_1 (canI_none (sigZ_other (by omega) hs h68)) | exact can_upto hl6_1 (can_skip (sigZ_neg (by omega)) (by subst hyl; dsimp only; omega)) | exact can_upto hl6_1 (can_skip (sigZ_pos (by omega) hs h68) (by subst hyl hzl; dsimp only; omega)) | exact can_upto hl6_1 ((can_take (sigZ_neg (by omega)) (by subst hyl; dsimp only; omega)).trans ((if_pos (by omega)).trans h128)) | exact can_upto hl6_1 ((can_take (sigZ_pos (by omega) hs h68) (by subst hyl hzl; dsimp only; omega)).trans ((if_neg (by omega)).trans h128))⟩⟩ _ _ _ rfl (by first | omega | (simp; omega)) (Sub.cons rfl <| Sub.cons rfl <| Sub.cons rfl <| Sub.cons rfl <| Sub.cons rfl <| Sub.cons rfl <| Sub.cons rfl <| Sub.cons rfl <| Sub.cons rfl <| Sub.cons rfl <| sub_val rfl hb39 <| Sub.nil _) (fun w hs => St.sel [1, 2, 3, 4, 5, 6, 7, 8, 9, 10] rfl rfl hs))
theorem can_c (l : LineM) (kA : Option Addr) (kC : Nat) (az : List RA) (cA : Option Addr) (cC : Nat) (bA : Option Addr) (bC : Nat) (r : RideM) (sgA : Option Addr) (sgC : Nat) (d : Nat) (k : Nat) (kb : Nat) (fr : Int) (go_ : Int) (mi : Int) (on : Int) (at_ : Int) (wA : Option Addr) (wC : Nat) (tA : Option Addr) (tC : Nat) (hin : LineIn l az) (hle : lineE l = 0) (hr : RideOk l r) (hk : d + k = kb) (hkb : kb ≤ l.Beams.length) (hf : 0 ≤ fr ∧ fr ≤ 86400000) (hg : 0 ≤ go_ ∧ go_ ≤ (d : Int)) (hm : 0 ≤ mi ∧ mi ≤ (d : Int)) (hat : -10 ≤ at_ ∧ at_ ≤ 90000000) :
    FnV Try.prog 33 [(Value.agg (LineV.cells (LineV.mk (TrackV.mk (Slc.mk kA l.Track.length kC)) l.Fast (Slc.mk cA l.Clocks.length cC) (Slc.mk bA l.Beams.length bC) l.Finish l.Fakes l.Misses)).toArray), (Value.agg (RideV.cells (RideV.mk r.Start r.Now (Slc.mk sgA r.Signals.length sgC))).toArray), (Value.agg (KnownV.cells (KnownV.mk (Slc.mk wA ((leasts l l.Beams.length).length) wC) (Slc.mk tA ((sigsL l r r.Signals.length).length) tC))).toArray), (Value.int .i64 ((d : Nat) : Int)), (Value.int .i64 fr), (Value.int .i64 go_), (Value.int .i64 mi), (Value.int .i64 ((kb : Nat) : Int)), (Value.int .i64 on), (Value.int .i64 at_)] [(rd kA l.Track.length 9 (l.Track.map StretchV.cells)), (rd cA l.Clocks.length 2 (List.zipWith ClockM.cells l.Clocks az)), (bun (nest ClockM.rds l.Clocks az)), (rd bA l.Beams.length 4 (l.Beams.map BeamV.cells)), (rd sgA r.Signals.length 2 (r.Signals.map SignalV.cells)), (rd wA ((leasts l l.Beams.length).length) 1 ((leasts l l.Beams.length).map iC)), (rd tA ((sigsL l r r.Signals.length).length) 2 ((sigsL l r r.Signals.length).map SpanV.cells))] (Value.bool (canF l r on at_ k d fr go_ mi)) := by
  induction k using Nat.strongRecOn generalizing d fr go_ mi with
  | ind k ih => exact canstep_c l kA kC az cA cC bA bC r sgA sgC d k kb fr go_ mi on at_ wA wC tA tC hin hle hr hk hkb hf hg hm hat (fun k2 d2 f2 g2 m2 e1 e2 e3 e4 e5 => ih k2 e1 d2 f2 g2 m2 e2 e3 e4 e5)
end
section
open Go.RowKit
set_option linter.unusedVariables false
set_option maxRecDepth 100000 in
set_option maxHeartbeats 8000000 in
theorem beamEnds_c (l : LineM) (kA : Option Addr) (kC : Nat) (az : List RA) (cA : Option Addr) (cC : Nat) (bA : Option Addr) (bC : Nat) (r : RideM) (sgA : Option Addr) (sgC : Nat) (hraw : LineRaw l az) (hrr : r.Signals.length ≤ 9223372036854775807) :
    FnV Try.prog 8 [(Value.agg (LineV.cells (LineV.mk (TrackV.mk (Slc.mk kA l.Track.length kC)) l.Fast (Slc.mk cA l.Clocks.length cC) (Slc.mk bA l.Beams.length bC) l.Finish l.Fakes l.Misses)).toArray), (Value.agg (RideV.cells (RideV.mk r.Start r.Now (Slc.mk sgA r.Signals.length sgC))).toArray)] [(rd kA l.Track.length 9 (l.Track.map StretchV.cells)), (rd cA l.Clocks.length 2 (List.zipWith ClockM.cells l.Clocks az)), (bun (nest ClockM.rds l.Clocks az)), (rd bA l.Beams.length 4 (l.Beams.map BeamV.cells)), (rd sgA r.Signals.length 2 (r.Signals.map SignalV.cells))] (Value.bool true) := by
 refine fnV_of go8 Try.func8 rfl rfl fun w0 Q hQ hN => ?_
 try dsimp only
 refine WS fun _ hK1 => BXA rfl fun b2 => BXA rfl fun b3 => rS (AG rfl) <| RK hK1 <| WS fun _ hK4 => rS (CL alive_c (ha_nil) rfl) <| rS (AG rfl) <| RK hK4 <| w_seq fun _ hK5 => ?_
 refine WS fun _ hK6 => rS (LW 1 rfl tk28 rfl rfl) <| rS (CL (ready_c l kA kC az cA cC bA bC hraw) (ha_at 2 rfl rfl <| ha_at 3 rfl rfl <| ha_at 4 rfl rfl <| ha_at 5 rfl rfl <| ha_nil) rfl) <| rS (NT rfl) <| rS (MV rfl) ?_
 refine r_bool (t := 32) rfl (fun h32 => ?_) (fun h32 => ?_)
 · replace h32 := XT h32
   refine rS (OX rfl) <| rS (OX rfl) <| rS (OX rfl) <| rS (OX rfl) <| rS (PK rfl) <| rS (MV rfl) <| rS (OX rfl) <| rS (OX rfl) <| rS (PK rfl) <| RK hK6 ?_
   refine w_if_true rfl <| WS fun _ hK7 => rS (MV rfl) <| rS (AG rfl) <| RK hK7 <| w_ret <| Q1 hQ rfl rfl rfl ?_
   first | rfl | exact congrArg Value.bool (decide_eq_true (ran_ok (by simpa using h246))) | exact congrArg Value.bool (decide_eq_true (by omega))
 replace h32 := XF h32
 refine rS (LW 1 rfl tk28 rfl rfl) <| rS (LW 0 rfl tk69 rfl rfl) <| rS (CL (right_c l kA kC az cA cC bA bC r sgA sgC (by exact hraw.small h32.1) hrr) (ha_at 2 rfl rfl <| ha_at 3 rfl rfl <| ha_at 4 rfl rfl <| ha_at 5 rfl rfl <| ha_at 6 rfl rfl <| ha_nil) rfl) <| rS (NT rfl) <| rS (PK rfl) <| rS (MV rfl) ?_
 refine r_bool (t := 38) rfl (fun h38 => ?_) (fun h38 => ?_)
 · replace h38 := XT h38
   refine rS (OX rfl) <| rS (OX rfl) <| rS (PK rfl) <| RK hK6 <| w_if_true rfl <| WS fun _ hK8 => rS (MV rfl) <| rS (AG rfl) <| RK hK8 <| w_ret ?_
   refine Q1 hQ rfl rfl rfl ?_
   first | rfl | exact congrArg Value.bool (decide_eq_true (ran_ok (by simpa using h246))) | exact congrArg Value.bool (decide_eq_true (by omega))
 replace h38 := XF h38
 refine rS (MV rfl) <| rS (NT rfl) <| rS (PK rfl) <| RK hK6 <| w_if_false rfl <| WK hK5 <| WS fun _ hK9 => ?_
 have hin := hraw.small h32.1
 have hrt := h38.time
 have hrl := h38.len
 obtain ⟨htr, hok⟩ := lineE_zero h32.2
 have hhd := hok.head
 unfold HeadOk at hhd
 have hbm := hin.bms
 have hwl := whereV_len (l := l) (r := r)
 have hwn : (watchL l r).n = l.Beams.length := leasts_len
 have hlp : ∀ d, d < l.Beams.length → 1 ≤ leastF l d := fun d hd => (leastF_b htr hok hd).1
 refine rS (LW 1 rfl tk28 rfl rfl) <| rS (LW 0 rfl tk69 rfl rfl) <| cX (Where_c l kA kC az cA cC bA bC r sgA sgC (by exact hin) (by show r.Signals.length ≤ 1000000; omega)) (ha_at 2 rfl rfl <| ha_at 3 rfl rfl <| ha_at 4 rfl rfl <| ha_at 5 rfl rfl <| ha_at 6 rfl rfl <| ha_nil) rfl fun y10 hy11 => ?_
 obtain ⟨a12, c13⟩ := y10
 try dsimp only
 refine rS (MV rfl) <| rS (EX rfl) <| rS (EX rfl) <| rS (AG rfl) <| rS (AG rfl) <| RK hK9 <| WS fun _ hK14 => rS (LW 2 rfl tk28 rfl rfl) <| rS (LW 1 rfl tk69 rfl rfl) <| rS (CL (Clear_c l kA kC az cA cC bA bC r sgA sgC (by exact hin) (by show r.Signals.length ≤ 1000000; omega)) (ha_at 3 rfl rfl <| ha_at 4 rfl rfl <| ha_at 5 rfl rfl <| ha_at 6 rfl rfl <| ha_at 7 rfl rfl <| ha_nil) rfl) ?_
 refine rS (MV rfl) <| rS (EX rfl) <| rS (EX rfl) <| rS (AG rfl) <| rS (AG rfl) <| RK hK14 <| w_seq fun _ hK15 => WS fun _ hK16 => rS (MV rfl) <| rS (BI rfl b_neq) ?_
 refine RK hK16 ?_
 refine w_if rfl (fun h56 => ?_) (fun h56 => ?_)
 · replace h56 := XT h56
   refine WS fun _ hK17 => rS (MV rfl) ?_
   have h8 : openE l r 0 = 8 := by unfold openE at h56 ⊢; rw [if_pos h32.2, if_pos h38, if_pos rfl] at h56 ⊢; split at h56 <;> first | rfl | (exact absurd rfl h56) | (rw [if_pos (by assumption)])
   have hwz : (whereV l r).length = 0 := by rw [whereV_no h56]; rfl
   refine rS (MV rfl) <| rS (MV rfl) <| rS (BI rfl b_eql) <| rS (PK rfl) <| rS (MV rfl) ?_
   refine r_bool (t := 62) rfl (fun h62 => ?_) (fun h62 => ?_)
   rotate_left 1
   · replace h62 := DF h62
     exact absurd h8 h62
   replace h62 := DT h62
   refine rS (MV rfl) <| rS (MV rfl) <| rS (BI rfl b_eql) <| rS (PK rfl) <| rS (MV rfl) ?_
   refine r_bool (t := 67) rfl (fun h67 => ?_) (fun h67 => ?_)
   rotate_left 1
   · replace h67 := DF h67
     exact absurd rfl h67
   replace h67 := DT h67
   refine rS (MV rfl) <| rS (LN rfl ut57) <| rS (BI rfl b_eql) <| rS (PK rfl) <| rS (AG rfl) <| RK hK17 <| w_ret <| Q1 hQ rfl rfl rfl ?_
   first | rfl | exact congrArg Value.bool (decide_eq_true (ran_ok (by simpa using h246))) | exact congrArg Value.bool (decide_eq_true (by omega))
 replace h56 := XF h56
 refine WK hK15 <| w_seq fun _ hK18 => WS fun _ hK19 => rS (MV rfl) <| rS (BI rfl b_neq) ?_
 have hwp := whereV_pos h56
 have hwe := where_ends h56
 have hwk := whereV_ok h56
 refine rS (MV rfl) ?_
 refine r_bool (t := 74) rfl (fun h74 => ?_) (fun h74 => ?_)
 · replace h74 := XT h74
   exfalso; omega
 replace h74 := XF h74
 refine rS (MV rfl) <| rS (LN rfl ut57) <| rS (BI rfl b_eql) <| rS (PK rfl) <| RK hK19 ?_
 refine w_if rfl (fun h78 => ?_) (fun h78 => ?_)
 · replace h78 := DT h78
   exfalso; omega
 replace h78 := DF h78
 refine WK hK18 <| WS fun _ hK20 => rS (LW 2 rfl tk28 rfl rfl) <| rS (LW 1 rfl tk69 rfl rfl) <| cX (tell_c l kA kC az cA cC bA bC r sgA sgC (by exact hin) (by exact h32.2) (by exact h38)) (ha_at 3 rfl rfl <| ha_at 4 rfl rfl <| ha_at 5 rfl rfl <| ha_at 6 rfl rfl <| ha_at 7 rfl rfl <| ha_nil) rfl fun y21 hy22 => ?_
 obtain ⟨a23, c24, ta25, tc26⟩ := y21
 try dsimp only
 refine rS (MV rfl) <| rS (EX rfl) <| rS (EX rfl) <| AL rfl tz83 fun b27 => SW0 rfl ts83 rfl <| rS (AG rfl) <| RK hK20 <| w_seq fun _ hK28 => WS fun _ hK29 => rS (MV rfl) ?_
 refine rS (NT rfl) <| RK hK29 <| w_if_false rfl <| WK hK28 <| WS fun _ hK30 => rS (AG rfl) <| RK hK30 <| w_seq fun _ hK31 => WS fun _ hK32 => rS (AG rfl) ?_
 refine RK hK32 <| w_block ?_
 have hinit : (0 ≤ l.Beams.length + 1) := by exact Nat.zero_le _
 refine w_loop (ι := { z : Nat // (z ≤ l.Beams.length + 1) }) (fun z => [(2, (Value.pointer (some ⟨b2, 0, none⟩))), (3, (Value.pointer (some ⟨b3, 0, none⟩))), (5, (Value.bool true)), (6, (Value.slice a12 ((whereV l r).length) c13)), (7, (Value.int .i64 (openE l r 0))), (8, (Value.int .u8 (clearV l r))), (9, (Value.int .i64 (openE l r 0))), (10, (Value.pointer (some ⟨b27, 0, none⟩))), (11, (Value.bool true)), (12, (Value.int .i64 (((numsTo (watchL l r) z.1).length : Nat) : Int))), (13, (Value.int .i64 ((z.1 : Nat) : Int)))]) (fun z => [(blk b27 83 (KnownV.cells (KnownV.mk (Slc.mk a23 ((leasts l l.Beams.length).length) c24) (Slc.mk ta25 ((sigsL l r r.Signals.length).length) tc26)))), (own a23 c24 3 1 ((leasts l l.Beams.length).map iC)), (own ta25 tc26 34 2 ((sigsL l r r.Signals.length).map SpanV.cells)), (own a12 c13 3 1 ((whereV l r).map iC)), (blk b3 69 (RideV.cells (RideV.mk r.Start r.Now (Slc.mk sgA r.Signals.length sgC)))), (blk b2 28 (LineV.cells (LineV.mk (TrackV.mk (Slc.mk kA l.Track.length kC)) l.Fast (Slc.mk cA l.Clocks.length cC) (Slc.mk bA l.Beams.length bC) l.Finish l.Fakes l.Misses))), (rd kA l.Track.length 9 (l.Track.map StretchV.cells)).ro, (rd cA l.Clocks.length 2 (List.zipWith ClockM.cells l.Clocks az)).ro, (bun (nest ClockM.rds l.Clocks az)).ro, (rd bA l.Beams.length 4 (l.Beams.map BeamV.cells)).ro, (rd sgA r.Signals.length 2 (r.Signals.map SignalV.cells)).ro]) (fun z => l.Beams.length + 1 - z.1) ⟨0, hinit⟩ (Sub.cons rfl <| Sub.cons rfl <| Sub.cons rfl <| Sub.cons rfl <| Sub.cons rfl <| Sub.cons rfl <| Sub.cons rfl <| Sub.cons rfl <| Sub.cons rfl <| Sub.cons rfl <| Sub.cons rfl <| Sub.nil _) (fun w hs => St.sel [0, 1, 2, 3, 4, 5, 6, 7, 8, 9, 10] rfl rfl hs) ?_
 clear hinit
 rintro ⟨k, hl15_0⟩ J33 hJ33
 try dsimp only
 refine w_seq fun _ hK34 => WS fun _ hK35 => rS (MV rfl) <| rS (FA 3 rfl fo28_3 rfl) <| rS (L1 (Value.slice bA l.Beams.length bC) 5 rfl tk26 rfl rfl) <| rS (LN rfl ut26) <| rS (BI rfl b_leq) <| RK hK35 ?_
 refine w_if rfl (fun h36 => ?_) (fun h36 => ?_)
 · replace h36 := DT h36
   refine WK hK34 <| w_seq fun _ hK37 => w_block <| WS fun _ hK38 => ?_
   have hct := can_told (r := r) hlp (k := k) (by omega) (at_ := 0)
   have hnl := nums_len (w := (watchL l r)) (k := k) (by omega)
   rw [← show numsF (watchL l r) = numsF (watchL l r) from rfl] at hnl
   refine rS (MV rfl) <| rS (MV rfl) <| rS (LN rfl ut57) <| rS (BI rfl b_lss) <| rS (MV rfl) ?_
   refine r_bool (t := 98) rfl (fun h98 => ?_) (fun h98 => ?_)
   rotate_left 1
   · replace h98 := DF h98
     refine rS (OX rfl) <| rS (OX rfl) <| rS (OX rfl) <| rS (OX rfl) <| rS (OX rfl) <| rS (OX rfl) <| rS (PK rfl) <| rS (AG rfl) <| RK hK38 <| w_seq fun _ hK47 => ?_
     refine WS fun _ hK48 => rS (MV rfl) <| RK hK48 <| w_if_false rfl <| WK hK47 <| WS fun _ hK49 => rS (MV rfl) <| rS (LW 5 rfl tk28 rfl rfl) <| rS (LW 4 rfl tk69 rfl rfl) <| rS (LW 0 rfl tk83 rfl rfl) ?_
     refine rS (FA 0 rfl fo69_0 rfl) <| rS (L1 (Value.int .i64 r.Start) 4 rfl tk3 rfl rfl) <| rS (MV rfl) <| rS (CL (can_c l kA kC az cA cC bA bC r sgA sgC 0 k k r.Start 0 0 (-1) 0 a23 c24 ta25 tc26 (by exact hin) (by exact h32.2) (by exact h38) (by omega) (by omega) (by omega) (by omega) (by omega) (by omega)) (ha_at 6 rfl rfl <| ha_at 7 rfl rfl <| ha_at 8 rfl rfl <| ha_at 9 rfl rfl <| ha_at 10 rfl rfl <| ha_cons (has_own_n (n := (leasts l l.Beams.length).length) 1 rfl (by simp)) <| ha_cons (has_own_n (n := (sigsL l r r.Signals.length).length) 2 rfl (by simp)) <| ha_nil) rfl) <| rS (BI rfl (b_neqb ut4)) <| RK hK49 ?_
     refine w_if rfl (fun h117 => ?_) (fun h117 => ?_)
     · rw [Bool.not_eq_true'] at h117
       exfalso; first | (have e := told_true (w := (watchL l r)) (k := k) (q := q) (by omega) (by rw [← hwk]; exact hq) h106; rw [hct, e, decide_eq_true h106] at h117; simp at h117; done) | (have e := told_false (w := (watchL l r)) (k := k) (by omega) (fun q3 h3 => by rw [← hwk, hq] at h3; cases h3; exact h106); rw [hct, e, decide_eq_false h106] at h117; simp at h117; done) | (have e := told_false (w := (watchL l r)) (k := k) (by omega) (fun q3 h3 => absurd (List.getElem?_eq_some_iff.1 h3).1 (by rw [← hwk]; omega)); rw [hct, e] at h117; simp at h117; done)
     rw [Bool.not_eq_false'] at h117
     refine w_skip <| k_block <| KK hK37 <| w_region <| rS (MV rfl) <| rS (BI rfl (b_add ⟨by omega, by omega⟩)) <| rS (AG rfl) <| r_nil ?_
     have hb50 : (Value.int .i64 (((numsTo (watchL l r) (k + 1)).length : Nat) : Int)) = (Value.int .i64 (((numsTo (watchL l r) k).length : Nat) : Int)) := by first | (have e := told_true (w := (watchL l r)) (k := k) (q := q) (by omega) (by rw [← hwk]; exact hq) h106; exact congrArg (Value.int .i64) (by rw [told_len (by omega) e]; simp)) | (have e := told_false (w := (watchL l r)) (k := k) (by omega) (fun q3 h3 => by rw [← hwk, hq] at h3; cases h3; exact h106); exact congrArg (Value.int .i64) (by rw [told_len (by omega) e]; simp)) | (have e := told_false (w := (watchL l r)) (k := k) (by omega) (fun q3 h3 => absurd (List.getElem?_eq_some_iff.1 h3).1 (by rw [← hwk]; omega)); exact congrArg (Value.int .i64) (by rw [told_len (by omega) e]; simp))
     have hb51 : (Value.int .i64 (((k + 1) : Nat) : Int)) = (Value.int .i64 (((k : Nat) : Int) + 1)) := by exact congrArg (Value.int .i64) (by omega)
     refine k_then (hJ33 ⟨(k + 1), (by first | omega | (simp only []; omega))⟩ _ _ _ rfl (by first | omega | (simp; omega)) (Sub.cons rfl <| Sub.cons rfl <| Sub.cons rfl <| Sub.cons rfl <| Sub.cons rfl <| Sub.cons rfl <| Sub.cons rfl <| Sub.cons rfl <| Sub.cons rfl <| sub_val rfl hb50 <| sub_val rfl hb51 <| Sub.nil _) (fun w hs => St.sel [0, 1, 2, 3, 4, 5, 6, 7, 8, 9, 10] rfl rfl hs))
   replace h98 := DT h98
   refine rS (MV rfl) <| rS (MV rfl) ?_
   obtain ⟨q, hq⟩ : ∃ y_, (whereV l r)[(numsTo (watchL l r) k).length]? = some y_ := ⟨(whereV l r)[(numsTo (watchL l r) k).length]'(by omega), List.getElem?_eq_getElem _⟩
   have hqm : ((whereV l r).map iC)[(numsTo (watchL l r) k).length]? = some (iC q) := by rw [List.getElem?_map, hq]; rfl
   refine rS (IA ((numsTo (watchL l r) k).length) rfl (has_own_n (n := (whereV l r).length) 3 rfl (by simp)) te57 (by decide) (by omega) (by omega)) <| rS (LE1 ((numsTo (watchL l r) k).length) 0 (Value.int .i64 q) rfl tk3 (has_own_n (n := (whereV l r).length) 3 rfl (by simp)) hqm rfl (by decide) rfl) <| rS (MV rfl) <| rS (BI rfl b_eql) <| rS (PK rfl) <| rS (AG rfl) <| RK hK38 <| w_seq fun _ hK39 => WS fun _ hK40 => rS (MV rfl) ?_
   refine RK hK40 ?_
   refine w_if rfl (fun h106 => ?_) (fun h106 => ?_)
   rotate_left 1
   · replace h106 := DF h106
     refine WK hK39 <| WS fun _ hK44 => rS (MV rfl) <| rS (LW 5 rfl tk28 rfl rfl) <| rS (LW 4 rfl tk69 rfl rfl) <| rS (LW 0 rfl tk83 rfl rfl) <| rS (FA 0 rfl fo69_0 rfl) <| rS (L1 (Value.int .i64 r.Start) 4 rfl tk3 rfl rfl) <| rS (MV rfl) <| rS (CL (can_c l kA kC az cA cC bA bC r sgA sgC 0 k k r.Start 0 0 (-1) 0 a23 c24 ta25 tc26 (by exact hin) (by exact h32.2) (by exact h38) (by omega) (by omega) (by omega) (by omega) (by omega) (by omega)) (ha_at 6 rfl rfl <| ha_at 7 rfl rfl <| ha_at 8 rfl rfl <| ha_at 9 rfl rfl <| ha_at 10 rfl rfl <| ha_cons (has_own_n (n := (leasts l l.Beams.length).length) 1 rfl (by simp)) <| ha_cons (has_own_n (n := (sigsL l r r.Signals.length).length) 2 rfl (by simp)) <| ha_nil) rfl) ?_
     refine rS (BI rfl (b_neqb ut4)) <| RK hK44 ?_
     refine w_if rfl (fun h117 => ?_) (fun h117 => ?_)
     · rw [Bool.not_eq_true'] at h117
       exfalso; first | (have e := told_true (w := (watchL l r)) (k := k) (q := q) (by omega) (by rw [← hwk]; exact hq) h106; rw [hct, e, decide_eq_true h106] at h117; simp at h117; done) | (have e := told_false (w := (watchL l r)) (k := k) (by omega) (fun q3 h3 => by rw [← hwk, hq] at h3; cases h3; exact h106); rw [hct, e, decide_eq_false h106] at h117; simp at h117; done) | (have e := told_false (w := (watchL l r)) (k := k) (by omega) (fun q3 h3 => absurd (List.getElem?_eq_some_iff.1 h3).1 (by rw [← hwk]; omega)); rw [hct, e] at h117; simp at h117; done)
     rw [Bool.not_eq_false'] at h117
     refine w_skip <| k_block <| KK hK37 <| w_region <| rS (MV rfl) <| rS (BI rfl (b_add ⟨by omega, by omega⟩)) <| rS (AG rfl) <| r_nil ?_
     have hb45 : (Value.int .i64 (((numsTo (watchL l r) (k + 1)).length : Nat) : Int)) = (Value.int .i64 (((numsTo (watchL l r) k).length : Nat) : Int)) := by first | (have e := told_true (w := (watchL l r)) (k := k) (q := q) (by omega) (by rw [← hwk]; exact hq) h106; exact congrArg (Value.int .i64) (by rw [told_len (by omega) e]; simp)) | (have e := told_false (w := (watchL l r)) (k := k) (by omega) (fun q3 h3 => by rw [← hwk, hq] at h3; cases h3; exact h106); exact congrArg (Value.int .i64) (by rw [told_len (by omega) e]; simp)) | (have e := told_false (w := (watchL l r)) (k := k) (by omega) (fun q3 h3 => absurd (List.getElem?_eq_some_iff.1 h3).1 (by rw [← hwk]; omega)); exact congrArg (Value.int .i64) (by rw [told_len (by omega) e]; simp))
     have hb46 : (Value.int .i64 (((k + 1) : Nat) : Int)) = (Value.int .i64 (((k : Nat) : Int) + 1)) := by exact congrArg (Value.int .i64) (by omega)
     refine k_then (hJ33 ⟨(k + 1), (by first | omega | (simp only []; omega))⟩ _ _ _ rfl (by first | omega | (simp; omega)) (Sub.cons rfl <| Sub.cons rfl <| Sub.cons rfl <| Sub.cons rfl <| Sub.cons rfl <| Sub.cons rfl <| Sub.cons rfl <| Sub.cons rfl <| Sub.cons rfl <| sub_val rfl hb45 <| sub_val rfl hb46 <| Sub.nil _) (fun w hs => St.sel [0, 1, 2, 3, 4, 5, 6, 7, 8, 9, 10] rfl rfl hs))
   replace h106 := DT h106
   refine w_region <| rS (MV rfl) <| rS (BI rfl (b_add ⟨by omega, by omega⟩)) <| rS (AG rfl) <| RK hK39 <| WS fun _ hK41 => rS (MV rfl) <| rS (LW 5 rfl tk28 rfl rfl) <| rS (LW 4 rfl tk69 rfl rfl) <| rS (LW 0 rfl tk83 rfl rfl) ?_
   refine rS (FA 0 rfl fo69_0 rfl) <| rS (L1 (Value.int .i64 r.Start) 4 rfl tk3 rfl rfl) <| rS (MV rfl) <| rS (CL (can_c l kA kC az cA cC bA bC r sgA sgC 0 k k r.Start 0 0 (-1) 0 a23 c24 ta25 tc26 (by exact hin) (by exact h32.2) (by exact h38) (by omega) (by omega) (by omega) (by omega) (by omega) (by omega)) (ha_at 6 rfl rfl <| ha_at 7 rfl rfl <| ha_at 8 rfl rfl <| ha_at 9 rfl rfl <| ha_at 10 rfl rfl <| ha_cons (has_own_n (n := (leasts l l.Beams.length).length) 1 rfl (by simp)) <| ha_cons (has_own_n (n := (sigsL l r r.Signals.length).length) 2 rfl (by simp)) <| ha_nil) rfl) <| rS (BI rfl (b_neqb ut4)) <| RK hK41 ?_
   refine w_if rfl (fun h117 => ?_) (fun h117 => ?_)
   · rw [Bool.not_eq_true'] at h117
     exfalso; first | (have e := told_true (w := (watchL l r)) (k := k) (q := q) (by omega) (by rw [← hwk]; exact hq) h106; rw [hct, e, decide_eq_true h106] at h117; simp at h117; done) | (have e := told_false (w := (watchL l r)) (k := k) (by omega) (fun q3 h3 => by rw [← hwk, hq] at h3; cases h3; exact h106); rw [hct, e, decide_eq_false h106] at h117; simp at h117; done) | (have e := told_false (w := (watchL l r)) (k := k) (by omega) (fun q3 h3 => absurd (List.getElem?_eq_some_iff.1 h3).1 (by rw [← hwk]; omega)); rw [hct, e] at h117; simp at h117; done)
   rw [Bool.not_eq_false'] at h117
   refine w_skip <| k_block <| KK hK37 <| w_region <| rS (MV rfl) <| rS (BI rfl (b_add ⟨by omega, by omega⟩)) <| rS (AG rfl) <| r_nil ?_
   have hb42 : (Value.int .i64 (((numsTo (watchL l r) (k + 1)).length : Nat) : Int)) = (Value.int .i64 ((((numsTo (watchL l r) k).length : Nat) : Int) + 1)) := by first | (have e := told_true (w := (watchL l r)) (k := k) (q := q) (by omega) (by rw [← hwk]; exact hq) h106; exact congrArg (Value.int .i64) (by rw [told_len (by omega) e]; simp)) | (have e := told_false (w := (watchL l r)) (k := k) (by omega) (fun q3 h3 => by rw [← hwk, hq] at h3; cases h3; exact h106); exact congrArg (Value.int .i64) (by rw [told_len (by omega) e]; simp)) | (have e := told_false (w := (watchL l r)) (k := k) (by omega) (fun q3 h3 => absurd (List.getElem?_eq_some_iff.1 h3).1 (by rw [← hwk]; omega)); exact congrArg (Value.int .i64) (by rw [told_len (by omega) e]; simp))
   have hb43 : (Value.int .i64 (((k + 1) : Nat) : Int)) = (Value.int .i64 (((k : Nat) : Int) + 1)) := by exact congrArg (Value.int .i64) (by omega)
   refine k_then (hJ33 ⟨(k + 1), (by first | omega | (simp only []; omega))⟩ _ _ _ rfl (by first | omega | (simp; omega)) (Sub.cons rfl <| Sub.cons rfl <| Sub.cons rfl <| Sub.cons rfl <| Sub.cons rfl <| Sub.cons rfl <| Sub.cons rfl <| Sub.cons rfl <| Sub.cons rfl <| sub_val rfl hb42 <| sub_val rfl hb43 <| Sub.nil _) (fun w hs => St.sel [0, 1, 2, 3, 4, 5, 6, 7, 8, 9, 10] rfl rfl hs))
 replace h36 := DF h36
 refine w_exit <| k_exit_then <| k_exit_then <| k_exit_same <| KK hK31 <| w_seq fun _ hK52 => WS fun _ hK53 => ?_
 have hend : (numsTo (watchL l r) k).length = (whereV l r).length := by rw [hwk]; unfold numsF; rw [show k = (watchL l r).n + 1 by omega]
 refine rS (MV rfl) <| rS (MV rfl) <| rS (LN rfl ut57) <| rS (BI rfl b_neq) <| RK hK53 ?_
 refine w_if rfl (fun h121 => ?_) (fun h121 => ?_)
 · replace h121 := XT h121
   exfalso; omega
 replace h121 := XF h121
 refine WK hK52 <| WS fun _ hK54 => rS (MV rfl) <| rS (MV rfl) <| rS (LN rfl ut57) <| rS (BI rfl (b_sub ⟨by omega, by omega⟩)) ?_
 obtain ⟨q, hq⟩ : ∃ y_, (whereV l r)[((whereV l r).length - 1)]? = some y_ := ⟨(whereV l r)[((whereV l r).length - 1)]'(by omega), List.getElem?_eq_getElem _⟩
 have hqm : ((whereV l r).map iC)[((whereV l r).length - 1)]? = some (iC q) := by rw [List.getElem?_map, hq]; rfl
 refine rS (IA ((whereV l r).length - 1) rfl (has_own_n (n := (whereV l r).length) 3 rfl (by simp)) te57 (by decide) (by omega) (by omega)) ?_
 have hqx : q = maxL (whereV l r) := by have := hwe.2; rw [hq] at this; exact Option.some.inj this
 refine rS (LE1 ((whereV l r).length - 1) 0 (Value.int .i64 q) rfl tk3 (has_own_n (n := (whereV l r).length) 3 rfl (by simp)) hqm rfl (by decide) rfl) <| rS (AG rfl) <| RK hK54 <| WS fun _ hK55 => rS (AG rfl) <| RK hK55 ?_
 refine w_join (ι := Unit) (fun z => [(2, (Value.pointer (some ⟨b2, 0, none⟩))), (3, (Value.pointer (some ⟨b3, 0, none⟩))), (5, (Value.bool true)), (8, (Value.int .u8 (clearV l r))), (10, (Value.pointer (some ⟨b27, 0, none⟩))), (15, (Value.int .i64 q)), (16, (Value.int .u8 (clearV l r)))]) (fun z => [(blk b27 83 (KnownV.cells (KnownV.mk (Slc.mk a23 ((leasts l l.Beams.length).length) c24) (Slc.mk ta25 ((sigsL l r r.Signals.length).length) tc26)))), (own a23 c24 3 1 ((leasts l l.Beams.length).map iC)), (own ta25 tc26 34 2 ((sigsL l r r.Signals.length).map SpanV.cells)), (own a12 c13 3 1 ((whereV l r).map iC)), (blk b3 69 (RideV.cells (RideV.mk r.Start r.Now (Slc.mk sgA r.Signals.length sgC)))), (blk b2 28 (LineV.cells (LineV.mk (TrackV.mk (Slc.mk kA l.Track.length kC)) l.Fast (Slc.mk cA l.Clocks.length cC) (Slc.mk bA l.Beams.length bC) l.Finish l.Fakes l.Misses))), (rd kA l.Track.length 9 (l.Track.map StretchV.cells)).ro, (rd cA l.Clocks.length 2 (List.zipWith ClockM.cells l.Clocks az)).ro, (bun (nest ClockM.rds l.Clocks az)).ro, (rd bA l.Beams.length 4 (l.Beams.map BeamV.cells)).ro, (rd sgA r.Signals.length 2 (r.Signals.map SignalV.cells)).ro]) ?_ fun K56 hK56 => ?_
 · intro _
   try dsimp only
   refine w_seq fun _ hK57 => WS fun _ hK58 => rS (MV rfl) <| rS (MV rfl) <| rS (BI rfl b_neq) <| RK hK58 ?_
   refine w_if rfl (fun h142 => ?_) (fun h142 => ?_)
   · replace h142 := XT h142
     exact absurd rfl h142
   replace h142 := XF h142
   refine WK hK57 <| w_seq fun _ hK59 => WS fun _ hK60 => rS (FA 3 rfl fo28_3 rfl) <| rS (L1 (Value.slice bA l.Beams.length bC) 5 rfl tk26 rfl rfl) <| rS (LN rfl ut26) <| rS (MV rfl) <| RK hK60 <| w_block ?_
   have hinit : (0 ≤ l.Beams.length) := by exact Nat.zero_le _
   refine w_loop (ι := { z : Nat // (z ≤ l.Beams.length) }) (fun z => [(2, (Value.pointer (some ⟨b2, 0, none⟩))), (3, (Value.pointer (some ⟨b3, 0, none⟩))), (5, (Value.bool true)), (10, (Value.pointer (some ⟨b27, 0, none⟩))), (15, (Value.int .i64 q)), (144, (Value.slice bA l.Beams.length bC)), (145, (Value.int .i64 ((l.Beams.length : Nat) : Int))), (146, (Value.int .i64 ((z.1 : Nat) : Int)))]) (fun z => [(blk b27 83 (KnownV.cells (KnownV.mk (Slc.mk a23 ((leasts l l.Beams.length).length) c24) (Slc.mk ta25 ((sigsL l r r.Signals.length).length) tc26)))), (own a23 c24 3 1 ((leasts l l.Beams.length).map iC)), (own ta25 tc26 34 2 ((sigsL l r r.Signals.length).map SpanV.cells)), (own a12 c13 3 1 ((whereV l r).map iC)), (blk b3 69 (RideV.cells (RideV.mk r.Start r.Now (Slc.mk sgA r.Signals.length sgC)))), (blk b2 28 (LineV.cells (LineV.mk (TrackV.mk (Slc.mk kA l.Track.length kC)) l.Fast (Slc.mk cA l.Clocks.length cC) (Slc.mk bA l.Beams.length bC) l.Finish l.Fakes l.Misses))), (rd kA l.Track.length 9 (l.Track.map StretchV.cells)).ro, (rd cA l.Clocks.length 2 (List.zipWith ClockM.cells l.Clocks az)).ro, (bun (nest ClockM.rds l.Clocks az)).ro, (rd bA l.Beams.length 4 (l.Beams.map BeamV.cells)).ro, (rd sgA r.Signals.length 2 (r.Signals.map SignalV.cells)).ro]) (fun z => l.Beams.length - z.1) ⟨0, hinit⟩ (Sub.cons rfl <| Sub.cons rfl <| Sub.cons rfl <| Sub.cons rfl <| Sub.cons rfl <| Sub.cons rfl <| Sub.cons rfl <| Sub.cons rfl <| Sub.nil _) (fun w hs => St.sel [0, 1, 2, 3, 4, 5, 6, 7, 8, 9, 10] rfl rfl hs) ?_
   clear hinit
   rintro ⟨b, hl33_0⟩ J61 hJ61
   try dsimp only
   refine WS fun _ hK62 => rS (BI rfl b_lss) <| RK hK62 <| w_seq fun _ hK63 => ?_
   refine w_if rfl (fun h64 => ?_) (fun h64 => ?_)
   rotate_left 1
   · replace h64 := DF h64
     refine w_exit <| k_exit_then <| k_exit_then <| k_exit_same <| KK hK59 <| WS fun _ hK150 => rS (LW 5 rfl tk28 rfl rfl) <| rS (LW 4 rfl tk69 rfl rfl) <| rS (CL (Ran_c l kA kC az cA cC bA bC r sgA sgC (by exact hin) (by show r.Signals.length ≤ 1000000; omega)) (ha_at 6 rfl rfl <| ha_at 7 rfl rfl <| ha_at 8 rfl rfl <| ha_at 9 rfl rfl <| ha_at 10 rfl rfl <| ha_nil) rfl) <| rS (MV rfl) ?_
     refine rS (EX rfl) <| rS (EX rfl) <| AL rfl tz34 fun b151 => SW0 rfl ts34 rfl <| rS (AG rfl) <| RK hK150 <| WS fun _ hK152 => rS (LW 6 rfl tk28 rfl rfl) <| rS (LW 5 rfl tk69 rfl rfl) <| rS (FA 4 rfl fo28_4 rfl) ?_
     refine rS (L1 (Value.int .i64 l.Finish) 6 rfl tk3 rfl rfl) <| rS (CL (Passed_c l kA kC az cA cC bA bC r sgA sgC l.Finish (by exact hin) (by show r.Signals.length ≤ 1000000; omega)) (ha_at 7 rfl rfl <| ha_at 8 rfl rfl <| ha_at 9 rfl rfl <| ha_at 10 rfl rfl <| ha_at 11 rfl rfl <| ha_nil) rfl) <| rS (MV rfl) <| rS (EX rfl) <| rS (EX rfl) <| AL rfl tz34 fun b153 => SW0 rfl ts34 rfl <| rS (AG rfl) <| RK hK152 <| w_seq fun _ hK154 => ?_
     refine w_draw mixed 26 (by kernel_rfl) <| dS (MV rfl) <| dS (MV rfl) <| dS (MV rfl) <| dS (MV rfl) <| dS (BI rfl b_eql) <| dS (PK rfl) <| dS (MV rfl) ?_
     refine d_bool (t := 243) rfl (fun h243 => ?_) (fun h243 => ?_)
     rotate_left 1
     · replace h243 := DF h243
       exact absurd rfl h243
     replace h243 := DT h243
     refine dS (MV rfl) <| dS (BI rfl b_neq) <| dS (MV rfl) ?_
     refine d_bool (t := 246) rfl (fun h246 => ?_) (fun h246 => ?_)
     · replace h246 := XT h246
       refine dS (OX rfl) <| dS (OX rfl) <| dS (OX rfl) <| dS (OX rfl) <| dS (OX rfl) <| dS (OX rfl) <| dS (OX rfl) <| dS (OX rfl) <| dS (OX rfl) <| dS (OX rfl) ?_
       refine dS (OX rfl) <| dS (OX rfl) <| dS (OX rfl) <| dS (PK rfl) <| dS (PK rfl) <| dS (AG rfl) <| d_end <| RK hK154 <| w_ret <| Q1 hQ rfl rfl rfl ?_
       first | rfl | exact congrArg Value.bool (decide_eq_true (ran_ok (by simpa using h246))) | exact congrArg Value.bool (decide_eq_true (by omega))
     replace h246 := XF h246
     have hpb2 := passed_b (l := l) (r := r) (b := l.Finish) (by simpa using h246)
     refine dS (LW 1 rfl tk34 rfl rfl) <| dS (FA 0 rfl fo34_0 rfl) <| dS (L1 (Value.int .i64 ((passedV l r l.Finish).Lo)) 0 rfl tk3 rfl rfl) <| dS (FA 0 rfl fo69_0 rfl) <| dS (L1 (Value.int .i64 r.Start) 6 rfl tk3 rfl rfl) <| dS (BI rfl (b_sub ⟨by omega, by omega⟩)) <| dS (FA 1 rfl fo34_1 rfl) <| dS (L1 (Value.int .i64 ((passedV l r l.Finish).Hi)) 0 rfl tk3 rfl rfl) <| dS (FA 0 rfl fo69_0 rfl) <| dS (L1 (Value.int .i64 r.Start) 6 rfl tk3 rfl rfl) ?_
     refine dS (BI rfl (b_sub ⟨by omega, by omega⟩)) <| dS (CL (lspan_c (((passedV l r l.Finish).Lo) - r.Start) (((passedV l r l.Finish).Hi) - r.Start)) (ha_nil) rfl) <| dS (BI rfl (eqs34 _ _ (ranV l r) (SpanV.mk (((passedV l r l.Finish).Lo) - r.Start) (((passedV l r l.Finish).Hi) - r.Start)))) <| dS (PK rfl) <| dS (PK rfl) <| dS (AG rfl) <| d_end <| RK hK154 <| w_ret <| Q1 hQ rfl rfl rfl ?_
     first | rfl | exact congrArg Value.bool (decide_eq_true (ran_ok (by simpa using h246))) | exact congrArg Value.bool (decide_eq_true (by omega))
   replace h64 := DT h64
   refine WK hK63 <| w_seq fun _ hK65 => w_block <| WS fun _ hK66 => rS (MV rfl) <| rS (AG rfl) <| RK hK66 <| WS fun _ hK67 => rS (LW 5 rfl tk28 rfl rfl) <| rS (LW 4 rfl tk69 rfl rfl) ?_
   refine rS (MV rfl) <| rS (CL (Passed_c l kA kC az cA cC bA bC r sgA sgC ((b : Nat) : Int) (by exact hin) (by show r.Signals.length ≤ 1000000; omega)) (ha_at 6 rfl rfl <| ha_at 7 rfl rfl <| ha_at 8 rfl rfl <| ha_at 9 rfl rfl <| ha_at 10 rfl rfl <| ha_nil) rfl) <| rS (MV rfl) <| rS (EX rfl) <| rS (EX rfl) <| AL rfl tz34 fun b68 => SW0 rfl ts34 rfl <| rS (AG rfl) <| RK hK67 <| w_seq fun _ hK69 => ?_
   refine WS fun _ hK70 => ?_
   have hpm := passed_most h56 (b := b) (by omega)
   rw [← hqx] at hpm
   refine rS (MV rfl) <| rS (MV rfl) <| rS (BI rfl b_lss) <| rS (MV rfl) <| rS (BI rfl b_eql) <| rS (BI rfl (b_neqb ut4)) <| rS (MV rfl) ?_
   refine r_bool (t := 162) rfl (fun h162 => ?_) (fun h162 => ?_)
   · rw [Bool.not_eq_true'] at h162
     exfalso; by_cases e : passedE l r ((b : Nat) : Int) = 0; (rw [decide_eq_true e, decide_eq_true (hpm.2.1.1 e)] at h162; cases h162); (rw [decide_eq_false e, decide_eq_false (fun u => e (hpm.2.1.2 u))] at h162; cases h162)
   rw [Bool.not_eq_false'] at h162
   refine rS (MV rfl) <| rS (BI rfl b_neq) <| rS (MV rfl) ?_
   refine r_bool (t := 165) rfl (fun h165 => ?_) (fun h165 => ?_)
   · replace h165 := XT h165
     refine rS (MV rfl) <| rS (BI rfl b_neq) <| rS (PK rfl) <| rS (PK rfl) <| RK hK70 ?_
     refine w_if rfl (fun h169 => ?_) (fun h169 => ?_)
     · replace h169 := XT h169
       exfalso; have := hpm.1; omega
     replace h169 := XF h169
     refine WK hK69 <| w_seq fun _ hK71 => WS fun _ hK72 => rS (MV rfl) <| rS (BI rfl b_neq) <| RK hK72 ?_
     refine w_if rfl (fun h171 => ?_) (fun h171 => ?_)
     rotate_left 1
     · replace h171 := XF h171
       exfalso; omega
     replace h171 := XT h171
     refine w_exit <| k_exit_then <| k_exit_same <| KK hK65 <| w_region <| rS (BI rfl (b_add ⟨by omega, by omega⟩)) <| rS (MV rfl) <| r_nil ?_
     have hb73 : (Value.int .i64 (((b + 1) : Nat) : Int)) = (Value.int .i64 (((b : Nat) : Int) + 1)) := by exact congrArg (Value.int .i64) (by omega)
     refine k_then (hJ61 ⟨(b + 1), (by first | omega | (simp only []; omega))⟩ _ _ _ rfl (by first | omega | (simp; omega)) (Sub.cons rfl <| Sub.cons rfl <| Sub.cons rfl <| Sub.cons rfl <| Sub.cons rfl <| Sub.cons rfl <| Sub.cons rfl <| sub_val rfl hb73 <| Sub.nil _) (fun w hs => St.sel [1, 2, 3, 4, 5, 6, 7, 8, 9, 10, 11] rfl rfl hs))
   replace h165 := XF h165
   refine rS (OX rfl) <| rS (OX rfl) <| rS (PK rfl) <| rS (PK rfl) <| RK hK70 <| w_if_false rfl <| WK hK69 <| w_seq fun _ hK74 => WS fun _ hK75 => rS (MV rfl) ?_
   refine rS (BI rfl b_neq) <| RK hK75 ?_
   refine w_if rfl (fun h171 => ?_) (fun h171 => ?_)
   · replace h171 := XT h171
     exfalso; omega
   replace h171 := XF h171
   refine WK hK74 <| WS fun _ hK76 => ?_
   have hpb := passed_b (by simpa using h171 : passedE l r ((b : Nat) : Int) = 0)
   refine rS (FA 0 rfl fo34_0 rfl) <| rS (L1 (Value.int .i64 ((passedV l r ((b : Nat) : Int)).Lo)) 0 rfl tk3 rfl rfl) <| rS (BI rfl (b_sub ⟨by omega, by omega⟩)) <| rS (FA 0 rfl fo34_0 rfl) <| rS (L1 (Value.int .i64 ((passedV l r ((b : Nat) : Int)).Lo)) 0 rfl tk3 rfl rfl) <| rS (FA 1 rfl fo34_1 rfl) <| rS (L1 (Value.int .i64 ((passedV l r ((b : Nat) : Int)).Hi)) 0 rfl tk3 rfl rfl) <| rS (FA 1 rfl fo34_1 rfl) <| rS (L1 (Value.int .i64 ((passedV l r ((b : Nat) : Int)).Hi)) 0 rfl tk3 rfl rfl) <| rS (BI rfl (b_add ⟨by omega, by omega⟩)) ?_
   refine r_bs (xs := [.tmp 174, .tmp 176, .tmp 178, .tmp 181]) (cs := [(Value.int .i64 (((passedV l r ((b : Nat) : Int)).Lo) - 1)), (Value.int .i64 ((passedV l r ((b : Nat) : Int)).Lo)), (Value.int .i64 ((passedV l r ((b : Nat) : Int)).Hi)), (Value.int .i64 (((passedV l r ((b : Nat) : Int)).Hi) + 1))]) rfl te57 tz3 rfl rfl rfl rfl (by simp [Value.cells]) rfl rfl fun b77 => rS (LN rfl ut57) <| rS (MV rfl) <| RK hK76 <| w_block <| w_rounds 5 <| ro_succ fun R78 hR78 => WS fun _ hK79 => rS (SX (sd_bin (r := .bool true) rfl rfl rfl b_lss) rfl rfl) <| RK hK79 ?_
   refine w_seq fun _ hK80 => w_if_true rfl <| WK hK80 ?_
   refine w_join (ι := Unit) (fun z => [(2, (Value.pointer (some ⟨b2, 0, none⟩))), (3, (Value.pointer (some ⟨b3, 0, none⟩))), (5, (Value.bool true)), (10, (Value.pointer (some ⟨b27, 0, none⟩))), (15, (Value.int .i64 q)), (17, (Value.int .i64 ((b : Nat) : Int))), (18, (Value.pointer (some ⟨b68, 0, none⟩))), (144, (Value.slice bA l.Beams.length bC)), (145, (Value.int .i64 ((l.Beams.length : Nat) : Int))), (146, (Value.int .i64 ((b : Nat) : Int))), (182, (Value.slice (some ⟨b77, 0, none⟩) 4 4)), (183, (Value.int .i64 4)), (184, (Value.int .i64 0))]) (fun z => [(blk b77 3 [(Value.int .i64 (((passedV l r ((b : Nat) : Int)).Lo) - 1)), (Value.int .i64 ((passedV l r ((b : Nat) : Int)).Lo)), (Value.int .i64 ((passedV l r ((b : Nat) : Int)).Hi)), (Value.int .i64 (((passedV l r ((b : Nat) : Int)).Hi) + 1))]), (blk b68 34 (SpanV.cells (passedV l r ((b : Nat) : Int)))), (blk b27 83 (KnownV.cells (KnownV.mk (Slc.mk a23 ((leasts l l.Beams.length).length) c24) (Slc.mk ta25 ((sigsL l r r.Signals.length).length) tc26)))), (own a23 c24 3 1 ((leasts l l.Beams.length).map iC)), (own ta25 tc26 34 2 ((sigsL l r r.Signals.length).map SpanV.cells)), (own a12 c13 3 1 ((whereV l r).map iC)), (blk b3 69 (RideV.cells (RideV.mk r.Start r.Now (Slc.mk sgA r.Signals.length sgC)))), (blk b2 28 (LineV.cells (LineV.mk (TrackV.mk (Slc.mk kA l.Track.length kC)) l.Fast (Slc.mk cA l.Clocks.length cC) (Slc.mk bA l.Beams.length bC) l.Finish l.Fakes l.Misses))), (rd kA l.Track.length 9 (l.Track.map StretchV.cells)).ro, (rd cA l.Clocks.length 2 (List.zipWith ClockM.cells l.Clocks az)).ro, (bun (nest ClockM.rds l.Clocks az)).ro, (rd bA l.Beams.length 4 (l.Beams.map BeamV.cells)).ro, (rd sgA r.Signals.length 2 (r.Signals.map SignalV.cells)).ro]) ?_ fun K81 hK81 => ?_
   · intro _
     try dsimp only
     refine w_region <| rS (SX (sd_bin (r := .int .i64 1) rfl rfl rfl (b_add ⟨by decide, by decide⟩)) rfl rfl) <| rS (MV rfl) <| RK hR78 <| ro_succ fun R82 hR82 => WS fun _ hK83 => rS (SX (sd_bin (r := .bool true) rfl rfl rfl b_lss) rfl rfl) <| RK hK83 <| w_seq fun _ hK84 => w_if_true rfl ?_
     refine WK hK84 ?_
     refine w_join (ι := Unit) (fun z => [(2, (Value.pointer (some ⟨b2, 0, none⟩))), (3, (Value.pointer (some ⟨b3, 0, none⟩))), (5, (Value.bool true)), (10, (Value.pointer (some ⟨b27, 0, none⟩))), (15, (Value.int .i64 q)), (17, (Value.int .i64 ((b : Nat) : Int))), (18, (Value.pointer (some ⟨b68, 0, none⟩))), (144, (Value.slice bA l.Beams.length bC)), (145, (Value.int .i64 ((l.Beams.length : Nat) : Int))), (146, (Value.int .i64 ((b : Nat) : Int))), (182, (Value.slice (some ⟨b77, 0, none⟩) 4 4)), (183, (Value.int .i64 4)), (184, (Value.int .i64 1))]) (fun z => [(blk b77 3 [(Value.int .i64 (((passedV l r ((b : Nat) : Int)).Lo) - 1)), (Value.int .i64 ((passedV l r ((b : Nat) : Int)).Lo)), (Value.int .i64 ((passedV l r ((b : Nat) : Int)).Hi)), (Value.int .i64 (((passedV l r ((b : Nat) : Int)).Hi) + 1))]), (blk b68 34 (SpanV.cells (passedV l r ((b : Nat) : Int)))), (blk b27 83 (KnownV.cells (KnownV.mk (Slc.mk a23 ((leasts l l.Beams.length).length) c24) (Slc.mk ta25 ((sigsL l r r.Signals.length).length) tc26)))), (own a23 c24 3 1 ((leasts l l.Beams.length).map iC)), (own ta25 tc26 34 2 ((sigsL l r r.Signals.length).map SpanV.cells)), (own a12 c13 3 1 ((whereV l r).map iC)), (blk b3 69 (RideV.cells (RideV.mk r.Start r.Now (Slc.mk sgA r.Signals.length sgC)))), (blk b2 28 (LineV.cells (LineV.mk (TrackV.mk (Slc.mk kA l.Track.length kC)) l.Fast (Slc.mk cA l.Clocks.length cC) (Slc.mk bA l.Beams.length bC) l.Finish l.Fakes l.Misses))), (rd kA l.Track.length 9 (l.Track.map StretchV.cells)).ro, (rd cA l.Clocks.length 2 (List.zipWith ClockM.cells l.Clocks az)).ro, (bun (nest ClockM.rds l.Clocks az)).ro, (rd bA l.Beams.length 4 (l.Beams.map BeamV.cells)).ro, (rd sgA r.Signals.length 2 (r.Signals.map SignalV.cells)).ro]) ?_ fun K85 hK85 => ?_
     · intro _
       try dsimp only
       refine w_region <| rS (SX (sd_bin (r := .int .i64 2) rfl rfl rfl (b_add ⟨by decide, by decide⟩)) rfl rfl) <| rS (MV rfl) <| RK hR82 <| ro_succ fun R86 hR86 => WS fun _ hK87 => rS (SX (sd_bin (r := .bool true) rfl rfl rfl b_lss) rfl rfl) <| RK hK87 <| w_seq fun _ hK88 => w_if_true rfl ?_
       refine WK hK88 ?_
       refine w_join (ι := Unit) (fun z => [(2, (Value.pointer (some ⟨b2, 0, none⟩))), (3, (Value.pointer (some ⟨b3, 0, none⟩))), (5, (Value.bool true)), (10, (Value.pointer (some ⟨b27, 0, none⟩))), (15, (Value.int .i64 q)), (17, (Value.int .i64 ((b : Nat) : Int))), (18, (Value.pointer (some ⟨b68, 0, none⟩))), (144, (Value.slice bA l.Beams.length bC)), (145, (Value.int .i64 ((l.Beams.length : Nat) : Int))), (146, (Value.int .i64 ((b : Nat) : Int))), (182, (Value.slice (some ⟨b77, 0, none⟩) 4 4)), (183, (Value.int .i64 4)), (184, (Value.int .i64 2))]) (fun z => [(blk b77 3 [(Value.int .i64 (((passedV l r ((b : Nat) : Int)).Lo) - 1)), (Value.int .i64 ((passedV l r ((b : Nat) : Int)).Lo)), (Value.int .i64 ((passedV l r ((b : Nat) : Int)).Hi)), (Value.int .i64 (((passedV l r ((b : Nat) : Int)).Hi) + 1))]), (blk b68 34 (SpanV.cells (passedV l r ((b : Nat) : Int)))), (blk b27 83 (KnownV.cells (KnownV.mk (Slc.mk a23 ((leasts l l.Beams.length).length) c24) (Slc.mk ta25 ((sigsL l r r.Signals.length).length) tc26)))), (own a23 c24 3 1 ((leasts l l.Beams.length).map iC)), (own ta25 tc26 34 2 ((sigsL l r r.Signals.length).map SpanV.cells)), (own a12 c13 3 1 ((whereV l r).map iC)), (blk b3 69 (RideV.cells (RideV.mk r.Start r.Now (Slc.mk sgA r.Signals.length sgC)))), (blk b2 28 (LineV.cells (LineV.mk (TrackV.mk (Slc.mk kA l.Track.length kC)) l.Fast (Slc.mk cA l.Clocks.length cC) (Slc.mk bA l.Beams.length bC) l.Finish l.Fakes l.Misses))), (rd kA l.Track.length 9 (l.Track.map StretchV.cells)).ro, (rd cA l.Clocks.length 2 (List.zipWith ClockM.cells l.Clocks az)).ro, (bun (nest ClockM.rds l.Clocks az)).ro, (rd bA l.Beams.length 4 (l.Beams.map BeamV.cells)).ro, (rd sgA r.Signals.length 2 (r.Signals.map SignalV.cells)).ro]) ?_ fun K89 hK89 => ?_
       · intro _
         try dsimp only
         refine w_region <| rS (SX (sd_bin (r := .int .i64 3) rfl rfl rfl (b_add ⟨by decide, by decide⟩)) rfl rfl) <| rS (MV rfl) <| RK hR86 <| ro_succ fun R90 hR90 => WS fun _ hK91 => rS (SX (sd_bin (r := .bool true) rfl rfl rfl b_lss) rfl rfl) <| RK hK91 <| w_seq fun _ hK92 => w_if_true rfl ?_
         refine WK hK92 ?_
         refine w_join (ι := Unit) (fun z => [(2, (Value.pointer (some ⟨b2, 0, none⟩))), (3, (Value.pointer (some ⟨b3, 0, none⟩))), (5, (Value.bool true)), (10, (Value.pointer (some ⟨b27, 0, none⟩))), (15, (Value.int .i64 q)), (17, (Value.int .i64 ((b : Nat) : Int))), (18, (Value.pointer (some ⟨b68, 0, none⟩))), (144, (Value.slice bA l.Beams.length bC)), (145, (Value.int .i64 ((l.Beams.length : Nat) : Int))), (146, (Value.int .i64 ((b : Nat) : Int))), (182, (Value.slice (some ⟨b77, 0, none⟩) 4 4)), (183, (Value.int .i64 4)), (184, (Value.int .i64 3))]) (fun z => [(blk b77 3 [(Value.int .i64 (((passedV l r ((b : Nat) : Int)).Lo) - 1)), (Value.int .i64 ((passedV l r ((b : Nat) : Int)).Lo)), (Value.int .i64 ((passedV l r ((b : Nat) : Int)).Hi)), (Value.int .i64 (((passedV l r ((b : Nat) : Int)).Hi) + 1))]), (blk b68 34 (SpanV.cells (passedV l r ((b : Nat) : Int)))), (blk b27 83 (KnownV.cells (KnownV.mk (Slc.mk a23 ((leasts l l.Beams.length).length) c24) (Slc.mk ta25 ((sigsL l r r.Signals.length).length) tc26)))), (own a23 c24 3 1 ((leasts l l.Beams.length).map iC)), (own ta25 tc26 34 2 ((sigsL l r r.Signals.length).map SpanV.cells)), (own a12 c13 3 1 ((whereV l r).map iC)), (blk b3 69 (RideV.cells (RideV.mk r.Start r.Now (Slc.mk sgA r.Signals.length sgC)))), (blk b2 28 (LineV.cells (LineV.mk (TrackV.mk (Slc.mk kA l.Track.length kC)) l.Fast (Slc.mk cA l.Clocks.length cC) (Slc.mk bA l.Beams.length bC) l.Finish l.Fakes l.Misses))), (rd kA l.Track.length 9 (l.Track.map StretchV.cells)).ro, (rd cA l.Clocks.length 2 (List.zipWith ClockM.cells l.Clocks az)).ro, (bun (nest ClockM.rds l.Clocks az)).ro, (rd bA l.Beams.length 4 (l.Beams.map BeamV.cells)).ro, (rd sgA r.Signals.length 2 (r.Signals.map SignalV.cells)).ro]) ?_ fun K93 hK93 => ?_
         · intro _
           try dsimp only
           refine w_region <| rS (SX (sd_bin (r := .int .i64 4) rfl rfl rfl (b_add ⟨by decide, by decide⟩)) rfl rfl) <| rS (MV rfl) <| RK hR90 <| ro_succ fun R94 hR94 => WS fun _ hK95 => rS (SX (sd_bin (r := .bool false) rfl rfl rfl b_lss) rfl rfl) <| RK hK95 <| w_seq fun _ hK96 => w_if_false rfl ?_
           refine w_exit <| k_exit_then <| k_exit_then <| k_exit_same <| k_block <| KK hK65 <| w_region <| rS (BI rfl (b_add ⟨by omega, by omega⟩)) <| rS (MV rfl) <| r_nil ?_
           have hb97 : (Value.int .i64 (((b + 1) : Nat) : Int)) = (Value.int .i64 (((b : Nat) : Int) + 1)) := by exact congrArg (Value.int .i64) (by omega)
           refine k_then (hJ61 ⟨(b + 1), (by first | omega | (simp only []; omega))⟩ _ _ _ rfl (by first | omega | (simp; omega)) (Sub.cons rfl <| Sub.cons rfl <| Sub.cons rfl <| Sub.cons rfl <| Sub.cons rfl <| Sub.cons rfl <| Sub.cons rfl <| sub_val rfl hb97 <| Sub.nil _) (fun w hs => St.sel [2, 3, 4, 5, 6, 7, 8, 9, 10, 11, 12] rfl rfl hs))
         refine w_block <| WS fun _ hK98 => rS (IAB 3 3 rfl te57 rfl (by decide) rfl) <| rS (L1 (Value.int .i64 (((passedV l r ((b : Nat) : Int)).Hi) + 1)) 0 rfl tk3 rfl rfl) <| rS (AG rfl) <| RK hK98 <| WS fun _ hK99 => rS (AG rfl) <| RK hK99 <| w_seq fun _ hK100 => ?_
         refine WS fun _ hK101 => rS (MV rfl) <| rS (BI rfl (b_add ⟨by omega, by omega⟩)) <| rS (AG rfl) <| RK hK101 <| w_block ?_
         have hinit : (b + 1 + 0 ≤ l.Beams.length + 1) ∧ (false = true ↔ ∃ k, b + 1 ≤ k ∧ k < b + 1 + 0 ∧ canF l r ((b : Nat) : Int) (((passedV l r ((b : Nat) : Int)).Hi) + 1) k 0 r.Start 0 0 = true) := by exact ⟨by omega, by constructor; (intro h; cases h); (rintro ⟨k, h1, h2, _⟩; omega)⟩
         have hb102 : (Value.int .i64 (((b + 1 + 0) : Nat) : Int)) = (Value.int .i64 (((b : Nat) : Int) + 1)) := by exact congrArg (Value.int .i64) (by omega)
         refine w_loop (ι := { z : Nat × Bool // (b + 1 + z.1 ≤ l.Beams.length + 1) ∧ (z.2 = true ↔ ∃ k, b + 1 ≤ k ∧ k < b + 1 + z.1 ∧ canF l r ((b : Nat) : Int) (((passedV l r ((b : Nat) : Int)).Hi) + 1) k 0 r.Start 0 0 = true) }) (fun z => [(2, (Value.pointer (some ⟨b2, 0, none⟩))), (3, (Value.pointer (some ⟨b3, 0, none⟩))), (5, (Value.bool true)), (10, (Value.pointer (some ⟨b27, 0, none⟩))), (15, (Value.int .i64 q)), (17, (Value.int .i64 ((b : Nat) : Int))), (18, (Value.pointer (some ⟨b68, 0, none⟩))), (21, (Value.int .i64 (((passedV l r ((b : Nat) : Int)).Hi) + 1))), (22, (Value.bool z.1.2)), (23, (Value.int .i64 (((b + 1 + z.1.1) : Nat) : Int))), (144, (Value.slice bA l.Beams.length bC)), (145, (Value.int .i64 ((l.Beams.length : Nat) : Int))), (146, (Value.int .i64 ((b : Nat) : Int))), (182, (Value.slice (some ⟨b77, 0, none⟩) 4 4)), (183, (Value.int .i64 4)), (184, (Value.int .i64 3))]) (fun z => [(blk b77 3 [(Value.int .i64 (((passedV l r ((b : Nat) : Int)).Lo) - 1)), (Value.int .i64 ((passedV l r ((b : Nat) : Int)).Lo)), (Value.int .i64 ((passedV l r ((b : Nat) : Int)).Hi)), (Value.int .i64 (((passedV l r ((b : Nat) : Int)).Hi) + 1))]), (blk b68 34 (SpanV.cells (passedV l r ((b : Nat) : Int)))), (blk b27 83 (KnownV.cells (KnownV.mk (Slc.mk a23 ((leasts l l.Beams.length).length) c24) (Slc.mk ta25 ((sigsL l r r.Signals.length).length) tc26)))), (own a23 c24 3 1 ((leasts l l.Beams.length).map iC)), (own ta25 tc26 34 2 ((sigsL l r r.Signals.length).map SpanV.cells)), (own a12 c13 3 1 ((whereV l r).map iC)), (blk b3 69 (RideV.cells (RideV.mk r.Start r.Now (Slc.mk sgA r.Signals.length sgC)))), (blk b2 28 (LineV.cells (LineV.mk (TrackV.mk (Slc.mk kA l.Track.length kC)) l.Fast (Slc.mk cA l.Clocks.length cC) (Slc.mk bA l.Beams.length bC) l.Finish l.Fakes l.Misses))), (rd kA l.Track.length 9 (l.Track.map StretchV.cells)).ro, (rd cA l.Clocks.length 2 (List.zipWith ClockM.cells l.Clocks az)).ro, (bun (nest ClockM.rds l.Clocks az)).ro, (rd bA l.Beams.length 4 (l.Beams.map BeamV.cells)).ro, (rd sgA r.Signals.length 2 (r.Signals.map SignalV.cells)).ro]) (fun z => l.Beams.length + 1 - (b + 1 + z.1.1)) ⟨(0, false), hinit⟩ (Sub.cons rfl <| Sub.cons rfl <| Sub.cons rfl <| Sub.cons rfl <| Sub.cons rfl <| Sub.cons rfl <| Sub.cons rfl <| Sub.cons rfl <| Sub.cons rfl <| sub_val rfl hb102 <| Sub.cons rfl <| Sub.cons rfl <| Sub.cons rfl <| Sub.cons rfl <| Sub.cons rfl <| Sub.cons rfl <| Sub.nil _) (fun w hs => St.sel [0, 1, 2, 3, 4, 5, 6, 7, 8, 9, 10, 11, 12] rfl rfl hs) ?_
         clear hinit
         rintro ⟨⟨j, ib⟩, ⟨hl44_0, hl44_1⟩⟩ J103 hJ103
         try dsimp only at hl44_0 hl44_1
         try dsimp only
         refine w_seq fun _ hK104 => WS fun _ hK105 => rS (MV rfl) <| rS (FA 3 rfl fo28_3 rfl) <| rS (L1 (Value.slice bA l.Beams.length bC) 7 rfl tk26 rfl rfl) <| rS (LN rfl ut26) <| rS (BI rfl b_leq) <| RK hK105 ?_
         refine w_if rfl (fun h106 => ?_) (fun h106 => ?_)
         rotate_left 1
         · replace h106 := DF h106
           refine w_exit <| k_exit_then <| k_exit_then <| k_exit_same <| KK hK100 <| WS fun _ hK110 => ?_
           have hib := ends_ib h56 (b := b) (j := j) (by omega) (by simpa using h171) (by omega) (by omega) hl44_1 (by simp)
           refine rS (MV rfl) <| rS (MV rfl) <| rS (FA 0 rfl fo34_0 rfl) <| rS (L1 (Value.int .i64 ((passedV l r ((b : Nat) : Int)).Lo)) 1 rfl tk3 rfl rfl) <| rS (BI rfl b_eql) <| rS (MV rfl) ?_
           refine r_bool (t := 214) rfl (fun h214 => ?_) (fun h214 => ?_)
           · replace h214 := DT h214
             refine rS (OX rfl) <| rS (OX rfl) <| rS (OX rfl) <| rS (OX rfl) <| rS (PK rfl) <| rS (BI rfl (b_neqb ut4)) <| RK hK110 ?_
             refine w_if rfl (fun h220 => ?_) (fun h220 => ?_)
             · rw [Bool.not_eq_true'] at h220
               exfalso; first | exact clash_yes hib (.inl h214) h220 | exact clash_yes hib (.inl rfl) h220 | exact clash_no hib h214 h220 | exact clash_yes hib (.inr rfl) h220
             rw [Bool.not_eq_false'] at h220
             refine w_skip <| k_block ?_
             refine k_then (k_sub (Sub.cons rfl <| Sub.cons rfl <| Sub.cons rfl <| Sub.cons rfl <| Sub.cons rfl <| Sub.cons rfl <| Sub.cons rfl <| Sub.cons rfl <| Sub.cons rfl <| Sub.cons rfl <| Sub.cons rfl <| Sub.cons rfl <| Sub.cons rfl <| Sub.nil _) (fun w hs => St.sel [0, 1, 2, 3, 4, 5, 6, 7, 8, 9, 10, 11, 12] rfl rfl hs) (hK93 ()))
           replace h214 := DF h214
           refine rS (MV rfl) <| rS (FA 1 rfl fo34_1 rfl) <| rS (L1 (Value.int .i64 ((passedV l r ((b : Nat) : Int)).Hi)) 1 rfl tk3 rfl rfl) <| rS (BI rfl b_eql) <| rS (PK rfl) <| rS (BI rfl (b_neqb ut4)) <| RK hK110 ?_
           refine w_if rfl (fun h220 => ?_) (fun h220 => ?_)
           · rw [Bool.not_eq_true'] at h220
             exfalso; first | exact clash_yes hib (.inl h214) h220 | exact clash_yes hib (.inl rfl) h220 | exact clash_no hib h214 h220 | exact clash_yes hib (.inr rfl) h220
           rw [Bool.not_eq_false'] at h220
           refine w_skip <| k_block ?_
           refine k_then (k_sub (Sub.cons rfl <| Sub.cons rfl <| Sub.cons rfl <| Sub.cons rfl <| Sub.cons rfl <| Sub.cons rfl <| Sub.cons rfl <| Sub.cons rfl <| Sub.cons rfl <| Sub.cons rfl <| Sub.cons rfl <| Sub.cons rfl <| Sub.cons rfl <| Sub.nil _) (fun w hs => St.sel [0, 1, 2, 3, 4, 5, 6, 7, 8, 9, 10, 11, 12] rfl rfl hs) (hK93 ()))
         replace h106 := DT h106
         refine WK hK104 <| w_seq fun _ hK107 => w_block <| w_region <| rS (MV rfl) <| rS (MV rfl) ?_
         refine r_bool (t := 198) rfl (fun h198 => ?_) (fun h198 => ?_)
         · refine rS (OX rfl) ?_
           refine rS (OX rfl) <| rS (OX rfl) <| rS (OX rfl) <| rS (OX rfl) <| rS (OX rfl) <| rS (OX rfl) <| rS (OX rfl) <| rS (OX rfl) <| rS (PK rfl) <| rS (AG rfl) ?_
           refine r_nil <| k_block <| KK hK107 <| w_region <| rS (MV rfl) <| rS (BI rfl (b_add ⟨by omega, by omega⟩)) <| rS (AG rfl) <| r_nil ?_
           have hb108 : (Value.int .i64 (((b + 1 + (j + 1)) : Nat) : Int)) = (Value.int .i64 ((((b + 1 + j) : Nat) : Int) + 1)) := by exact congrArg (Value.int .i64) (by omega)
           refine k_then (hJ103 ⟨((j + 1), true), ⟨by omega, by first | exact ex_yes hl44_1 h198 | exact ex_no hl44_1 h198⟩⟩ _ _ _ rfl (by simp only []; omega) (Sub.cons rfl <| Sub.cons rfl <| Sub.cons rfl <| Sub.cons rfl <| Sub.cons rfl <| Sub.cons rfl <| Sub.cons rfl <| Sub.cons rfl <| Sub.cons rfl <| sub_val rfl hb108 <| Sub.cons rfl <| Sub.cons rfl <| Sub.cons rfl <| Sub.cons rfl <| Sub.cons rfl <| Sub.cons rfl <| Sub.nil _) (fun w hs => St.sel [0, 1, 2, 3, 4, 5, 6, 7, 8, 9, 10, 11, 12] rfl rfl hs))
         refine rS (LW 7 rfl tk28 rfl rfl) <| rS (LW 6 rfl tk69 rfl rfl) <| rS (LW 2 rfl tk83 rfl rfl) <| rS (FA 0 rfl fo69_0 rfl) <| rS (L1 (Value.int .i64 r.Start) 6 rfl tk3 rfl rfl) <| rS (MV rfl) <| rS (MV rfl) <| rS (MV rfl) <| rS (CL (can_c l kA kC az cA cC bA bC r sgA sgC 0 (b + 1 + j) (b + 1 + j) r.Start 0 0 ((b : Nat) : Int) (((passedV l r ((b : Nat) : Int)).Hi) + 1) a23 c24 ta25 tc26 (by exact hin) (by exact h32.2) (by exact h38) (by omega) (by omega) (by omega) (by omega) (by omega) (by omega)) (ha_at 8 rfl rfl <| ha_at 9 rfl rfl <| ha_at 10 rfl rfl <| ha_at 11 rfl rfl <| ha_at 12 rfl rfl <| ha_cons (has_own_n (n := (leasts l l.Beams.length).length) 3 rfl (by simp)) <| ha_cons (has_own_n (n := (sigsL l r r.Signals.length).length) 4 rfl (by simp)) <| ha_nil) rfl) <| rS (PK rfl) ?_
         refine rS (AG rfl) <| r_nil <| k_block <| KK hK107 <| w_region <| rS (MV rfl) <| rS (BI rfl (b_add ⟨by omega, by omega⟩)) <| rS (AG rfl) <| r_nil ?_
         have hb109 : (Value.int .i64 (((b + 1 + (j + 1)) : Nat) : Int)) = (Value.int .i64 ((((b + 1 + j) : Nat) : Int) + 1)) := by exact congrArg (Value.int .i64) (by omega)
         refine k_then (hJ103 ⟨((j + 1), (canF l r ((b : Nat) : Int) (((passedV l r ((b : Nat) : Int)).Hi) + 1) (b + 1 + j) 0 r.Start 0 0)), ⟨by omega, by first | exact ex_yes hl44_1 h198 | exact ex_no hl44_1 h198⟩⟩ _ _ _ rfl (by simp only []; omega) (Sub.cons rfl <| Sub.cons rfl <| Sub.cons rfl <| Sub.cons rfl <| Sub.cons rfl <| Sub.cons rfl <| Sub.cons rfl <| Sub.cons rfl <| Sub.cons rfl <| sub_val rfl hb109 <| Sub.cons rfl <| Sub.cons rfl <| Sub.cons rfl <| Sub.cons rfl <| Sub.cons rfl <| Sub.cons rfl <| Sub.nil _) (fun w hs => St.sel [0, 1, 2, 3, 4, 5, 6, 7, 8, 9, 10, 11, 12] rfl rfl hs))
       refine w_block <| WS fun _ hK111 => rS (IAB 2 2 rfl te57 rfl (by decide) rfl) <| rS (L1 (Value.int .i64 ((passedV l r ((b : Nat) : Int)).Hi)) 0 rfl tk3 rfl rfl) <| rS (AG rfl) <| RK hK111 <| WS fun _ hK112 => rS (AG rfl) <| RK hK112 <| w_seq fun _ hK113 => ?_
       refine WS fun _ hK114 => rS (MV rfl) <| rS (BI rfl (b_add ⟨by omega, by omega⟩)) <| rS (AG rfl) <| RK hK114 <| w_block ?_
       have hinit : (b + 1 + 0 ≤ l.Beams.length + 1) ∧ (false = true ↔ ∃ k, b + 1 ≤ k ∧ k < b + 1 + 0 ∧ canF l r ((b : Nat) : Int) ((passedV l r ((b : Nat) : Int)).Hi) k 0 r.Start 0 0 = true) := by exact ⟨by omega, by constructor; (intro h; cases h); (rintro ⟨k, h1, h2, _⟩; omega)⟩
       have hb115 : (Value.int .i64 (((b + 1 + 0) : Nat) : Int)) = (Value.int .i64 (((b : Nat) : Int) + 1)) := by exact congrArg (Value.int .i64) (by omega)
       refine w_loop (ι := { z : Nat × Bool // (b + 1 + z.1 ≤ l.Beams.length + 1) ∧ (z.2 = true ↔ ∃ k, b + 1 ≤ k ∧ k < b + 1 + z.1 ∧ canF l r ((b : Nat) : Int) ((passedV l r ((b : Nat) : Int)).Hi) k 0 r.Start 0 0 = true) }) (fun z => [(2, (Value.pointer (some ⟨b2, 0, none⟩))), (3, (Value.pointer (some ⟨b3, 0, none⟩))), (5, (Value.bool true)), (10, (Value.pointer (some ⟨b27, 0, none⟩))), (15, (Value.int .i64 q)), (17, (Value.int .i64 ((b : Nat) : Int))), (18, (Value.pointer (some ⟨b68, 0, none⟩))), (21, (Value.int .i64 ((passedV l r ((b : Nat) : Int)).Hi))), (22, (Value.bool z.1.2)), (23, (Value.int .i64 (((b + 1 + z.1.1) : Nat) : Int))), (144, (Value.slice bA l.Beams.length bC)), (145, (Value.int .i64 ((l.Beams.length : Nat) : Int))), (146, (Value.int .i64 ((b : Nat) : Int))), (182, (Value.slice (some ⟨b77, 0, none⟩) 4 4)), (183, (Value.int .i64 4)), (184, (Value.int .i64 2))]) (fun z => [(blk b77 3 [(Value.int .i64 (((passedV l r ((b : Nat) : Int)).Lo) - 1)), (Value.int .i64 ((passedV l r ((b : Nat) : Int)).Lo)), (Value.int .i64 ((passedV l r ((b : Nat) : Int)).Hi)), (Value.int .i64 (((passedV l r ((b : Nat) : Int)).Hi) + 1))]), (blk b68 34 (SpanV.cells (passedV l r ((b : Nat) : Int)))), (blk b27 83 (KnownV.cells (KnownV.mk (Slc.mk a23 ((leasts l l.Beams.length).length) c24) (Slc.mk ta25 ((sigsL l r r.Signals.length).length) tc26)))), (own a23 c24 3 1 ((leasts l l.Beams.length).map iC)), (own ta25 tc26 34 2 ((sigsL l r r.Signals.length).map SpanV.cells)), (own a12 c13 3 1 ((whereV l r).map iC)), (blk b3 69 (RideV.cells (RideV.mk r.Start r.Now (Slc.mk sgA r.Signals.length sgC)))), (blk b2 28 (LineV.cells (LineV.mk (TrackV.mk (Slc.mk kA l.Track.length kC)) l.Fast (Slc.mk cA l.Clocks.length cC) (Slc.mk bA l.Beams.length bC) l.Finish l.Fakes l.Misses))), (rd kA l.Track.length 9 (l.Track.map StretchV.cells)).ro, (rd cA l.Clocks.length 2 (List.zipWith ClockM.cells l.Clocks az)).ro, (bun (nest ClockM.rds l.Clocks az)).ro, (rd bA l.Beams.length 4 (l.Beams.map BeamV.cells)).ro, (rd sgA r.Signals.length 2 (r.Signals.map SignalV.cells)).ro]) (fun z => l.Beams.length + 1 - (b + 1 + z.1.1)) ⟨(0, false), hinit⟩ (Sub.cons rfl <| Sub.cons rfl <| Sub.cons rfl <| Sub.cons rfl <| Sub.cons rfl <| Sub.cons rfl <| Sub.cons rfl <| Sub.cons rfl <| Sub.cons rfl <| sub_val rfl hb115 <| Sub.cons rfl <| Sub.cons rfl <| Sub.cons rfl <| Sub.cons rfl <| Sub.cons rfl <| Sub.cons rfl <| Sub.nil _) (fun w hs => St.sel [0, 1, 2, 3, 4, 5, 6, 7, 8, 9, 10, 11, 12] rfl rfl hs) ?_
       clear hinit
       rintro ⟨⟨j, ib⟩, ⟨hl44_0, hl44_1⟩⟩ J116 hJ116
       try dsimp only at hl44_0 hl44_1
       try dsimp only
       refine w_seq fun _ hK117 => WS fun _ hK118 => rS (MV rfl) <| rS (FA 3 rfl fo28_3 rfl) <| rS (L1 (Value.slice bA l.Beams.length bC) 7 rfl tk26 rfl rfl) <| rS (LN rfl ut26) <| rS (BI rfl b_leq) <| RK hK118 ?_
       refine w_if rfl (fun h119 => ?_) (fun h119 => ?_)
       rotate_left 1
       · replace h119 := DF h119
         refine w_exit <| k_exit_then <| k_exit_then <| k_exit_same <| KK hK113 <| WS fun _ hK123 => ?_
         have hib := ends_ib h56 (b := b) (j := j) (by omega) (by simpa using h171) (by omega) (by omega) hl44_1 (by simp)
         refine rS (MV rfl) <| rS (MV rfl) <| rS (FA 0 rfl fo34_0 rfl) <| rS (L1 (Value.int .i64 ((passedV l r ((b : Nat) : Int)).Lo)) 1 rfl tk3 rfl rfl) <| rS (BI rfl b_eql) <| rS (MV rfl) ?_
         refine r_bool (t := 214) rfl (fun h214 => ?_) (fun h214 => ?_)
         · replace h214 := DT h214
           refine rS (OX rfl) <| rS (OX rfl) <| rS (OX rfl) <| rS (OX rfl) <| rS (PK rfl) <| rS (BI rfl (b_neqb ut4)) <| RK hK123 ?_
           refine w_if rfl (fun h220 => ?_) (fun h220 => ?_)
           · rw [Bool.not_eq_true'] at h220
             exfalso; first | exact clash_yes hib (.inl h214) h220 | exact clash_yes hib (.inl rfl) h220 | exact clash_no hib h214 h220 | exact clash_yes hib (.inr rfl) h220
           rw [Bool.not_eq_false'] at h220
           refine w_skip <| k_block ?_
           refine k_then (k_sub (Sub.cons rfl <| Sub.cons rfl <| Sub.cons rfl <| Sub.cons rfl <| Sub.cons rfl <| Sub.cons rfl <| Sub.cons rfl <| Sub.cons rfl <| Sub.cons rfl <| Sub.cons rfl <| Sub.cons rfl <| Sub.cons rfl <| Sub.cons rfl <| Sub.nil _) (fun w hs => St.sel [0, 1, 2, 3, 4, 5, 6, 7, 8, 9, 10, 11, 12] rfl rfl hs) (hK89 ()))
         replace h214 := DF h214
         refine rS (MV rfl) <| rS (FA 1 rfl fo34_1 rfl) <| rS (L1 (Value.int .i64 ((passedV l r ((b : Nat) : Int)).Hi)) 1 rfl tk3 rfl rfl) <| rS (BI rfl b_eql) <| rS (PK rfl) <| rS (BI rfl (b_neqb ut4)) <| RK hK123 ?_
         refine w_if rfl (fun h220 => ?_) (fun h220 => ?_)
         · rw [Bool.not_eq_true'] at h220
           exfalso; first | exact clash_yes hib (.inl h214) h220 | exact clash_yes hib (.inl rfl) h220 | exact clash_no hib h214 h220 | exact clash_yes hib (.inr rfl) h220
         rw [Bool.not_eq_false'] at h220
         refine w_skip <| k_block ?_
         refine k_then (k_sub (Sub.cons rfl <| Sub.cons rfl <| Sub.cons rfl <| Sub.cons rfl <| Sub.cons rfl <| Sub.cons rfl <| Sub.cons rfl <| Sub.cons rfl <| Sub.cons rfl <| Sub.cons rfl <| Sub.cons rfl <| Sub.cons rfl <| Sub.cons rfl <| Sub.nil _) (fun w hs => St.sel [0, 1, 2, 3, 4, 5, 6, 7, 8, 9, 10, 11, 12] rfl rfl hs) (hK89 ()))
       replace h119 := DT h119
       refine WK hK117 <| w_seq fun _ hK120 => w_block <| w_region <| rS (MV rfl) <| rS (MV rfl) ?_
       refine r_bool (t := 198) rfl (fun h198 => ?_) (fun h198 => ?_)
       · refine rS (OX rfl) ?_
         refine rS (OX rfl) <| rS (OX rfl) <| rS (OX rfl) <| rS (OX rfl) <| rS (OX rfl) <| rS (OX rfl) <| rS (OX rfl) <| rS (OX rfl) <| rS (PK rfl) <| rS (AG rfl) ?_
         refine r_nil <| k_block <| KK hK120 <| w_region <| rS (MV rfl) <| rS (BI rfl (b_add ⟨by omega, by omega⟩)) <| rS (AG rfl) <| r_nil ?_
         have hb121 : (Value.int .i64 (((b + 1 + (j + 1)) : Nat) : Int)) = (Value.int .i64 ((((b + 1 + j) : Nat) : Int) + 1)) := by exact congrArg (Value.int .i64) (by omega)
         refine k_then (hJ116 ⟨((j + 1), true), ⟨by omega, by first | exact ex_yes hl44_1 h198 | exact ex_no hl44_1 h198⟩⟩ _ _ _ rfl (by simp only []; omega) (Sub.cons rfl <| Sub.cons rfl <| Sub.cons rfl <| Sub.cons rfl <| Sub.cons rfl <| Sub.cons rfl <| Sub.cons rfl <| Sub.cons rfl <| Sub.cons rfl <| sub_val rfl hb121 <| Sub.cons rfl <| Sub.cons rfl <| Sub.cons rfl <| Sub.cons rfl <| Sub.cons rfl <| Sub.cons rfl <| Sub.nil _) (fun w hs => St.sel [0, 1, 2, 3, 4, 5, 6, 7, 8, 9, 10, 11, 12] rfl rfl hs))
       refine rS (LW 7 rfl tk28 rfl rfl) <| rS (LW 6 rfl tk69 rfl rfl) <| rS (LW 2 rfl tk83 rfl rfl) <| rS (FA 0 rfl fo69_0 rfl) <| rS (L1 (Value.int .i64 r.Start) 6 rfl tk3 rfl rfl) <| rS (MV rfl) <| rS (MV rfl) <| rS (MV rfl) <| rS (CL (can_c l kA kC az cA cC bA bC r sgA sgC 0 (b + 1 + j) (b + 1 + j) r.Start 0 0 ((b : Nat) : Int) ((passedV l r ((b : Nat) : Int)).Hi) a23 c24 ta25 tc26 (by exact hin) (by exact h32.2) (by exact h38) (by omega) (by omega) (by omega) (by omega) (by omega) (by omega)) (ha_at 8 rfl rfl <| ha_at 9 rfl rfl <| ha_at 10 rfl rfl <| ha_at 11 rfl rfl <| ha_at 12 rfl rfl <| ha_cons (has_own_n (n := (leasts l l.Beams.length).length) 3 rfl (by simp)) <| ha_cons (has_own_n (n := (sigsL l r r.Signals.length).length) 4 rfl (by simp)) <| ha_nil) rfl) <| rS (PK rfl) ?_
       refine rS (AG rfl) <| r_nil <| k_block <| KK hK120 <| w_region <| rS (MV rfl) <| rS (BI rfl (b_add ⟨by omega, by omega⟩)) <| rS (AG rfl) <| r_nil ?_
       have hb122 : (Value.int .i64 (((b + 1 + (j + 1)) : Nat) : Int)) = (Value.int .i64 ((((b + 1 + j) : Nat) : Int) + 1)) := by exact congrArg (Value.int .i64) (by omega)
       refine k_then (hJ116 ⟨((j + 1), (canF l r ((b : Nat) : Int) ((passedV l r ((b : Nat) : Int)).Hi) (b + 1 + j) 0 r.Start 0 0)), ⟨by omega, by first | exact ex_yes hl44_1 h198 | exact ex_no hl44_1 h198⟩⟩ _ _ _ rfl (by simp only []; omega) (Sub.cons rfl <| Sub.cons rfl <| Sub.cons rfl <| Sub.cons rfl <| Sub.cons rfl <| Sub.cons rfl <| Sub.cons rfl <| Sub.cons rfl <| Sub.cons rfl <| sub_val rfl hb122 <| Sub.cons rfl <| Sub.cons rfl <| Sub.cons rfl <| Sub.cons rfl <| Sub.cons rfl <| Sub.cons rfl <| Sub.nil _) (fun w hs => St.sel [0, 1, 2, 3, 4, 5, 6, 7, 8, 9, 10, 11, 12] rfl rfl hs))
     refine w_block <| WS fun _ hK124 => rS (IAB 1 1 rfl te57 rfl (by decide) rfl) <| rS (L1 (Value.int .i64 ((passedV l r ((b : Nat) : Int)).Lo)) 0 rfl tk3 rfl rfl) <| rS (AG rfl) <| RK hK124 <| WS fun _ hK125 => rS (AG rfl) <| RK hK125 <| w_seq fun _ hK126 => ?_
     refine WS fun _ hK127 => rS (MV rfl) <| rS (BI rfl (b_add ⟨by omega, by omega⟩)) <| rS (AG rfl) <| RK hK127 <| w_block ?_
     have hinit : (b + 1 + 0 ≤ l.Beams.length + 1) ∧ (false = true ↔ ∃ k, b + 1 ≤ k ∧ k < b + 1 + 0 ∧ canF l r ((b : Nat) : Int) ((passedV l r ((b : Nat) : Int)).Lo) k 0 r.Start 0 0 = true) := by exact ⟨by omega, by constructor; (intro h; cases h); (rintro ⟨k, h1, h2, _⟩; omega)⟩
     have hb128 : (Value.int .i64 (((b + 1 + 0) : Nat) : Int)) = (Value.int .i64 (((b : Nat) : Int) + 1)) := by exact congrArg (Value.int .i64) (by omega)
     refine w_loop (ι := { z : Nat × Bool // (b + 1 + z.1 ≤ l.Beams.length + 1) ∧ (z.2 = true ↔ ∃ k, b + 1 ≤ k ∧ k < b + 1 + z.1 ∧ canF l r ((b : Nat) : Int) ((passedV l r ((b : Nat) : Int)).Lo) k 0 r.Start 0 0 = true) }) (fun z => [(2, (Value.pointer (some ⟨b2, 0, none⟩))), (3, (Value.pointer (some ⟨b3, 0, none⟩))), (5, (Value.bool true)), (10, (Value.pointer (some ⟨b27, 0, none⟩))), (15, (Value.int .i64 q)), (17, (Value.int .i64 ((b : Nat) : Int))), (18, (Value.pointer (some ⟨b68, 0, none⟩))), (21, (Value.int .i64 ((passedV l r ((b : Nat) : Int)).Lo))), (22, (Value.bool z.1.2)), (23, (Value.int .i64 (((b + 1 + z.1.1) : Nat) : Int))), (144, (Value.slice bA l.Beams.length bC)), (145, (Value.int .i64 ((l.Beams.length : Nat) : Int))), (146, (Value.int .i64 ((b : Nat) : Int))), (182, (Value.slice (some ⟨b77, 0, none⟩) 4 4)), (183, (Value.int .i64 4)), (184, (Value.int .i64 1))]) (fun z => [(blk b77 3 [(Value.int .i64 (((passedV l r ((b : Nat) : Int)).Lo) - 1)), (Value.int .i64 ((passedV l r ((b : Nat) : Int)).Lo)), (Value.int .i64 ((passedV l r ((b : Nat) : Int)).Hi)), (Value.int .i64 (((passedV l r ((b : Nat) : Int)).Hi) + 1))]), (blk b68 34 (SpanV.cells (passedV l r ((b : Nat) : Int)))), (blk b27 83 (KnownV.cells (KnownV.mk (Slc.mk a23 ((leasts l l.Beams.length).length) c24) (Slc.mk ta25 ((sigsL l r r.Signals.length).length) tc26)))), (own a23 c24 3 1 ((leasts l l.Beams.length).map iC)), (own ta25 tc26 34 2 ((sigsL l r r.Signals.length).map SpanV.cells)), (own a12 c13 3 1 ((whereV l r).map iC)), (blk b3 69 (RideV.cells (RideV.mk r.Start r.Now (Slc.mk sgA r.Signals.length sgC)))), (blk b2 28 (LineV.cells (LineV.mk (TrackV.mk (Slc.mk kA l.Track.length kC)) l.Fast (Slc.mk cA l.Clocks.length cC) (Slc.mk bA l.Beams.length bC) l.Finish l.Fakes l.Misses))), (rd kA l.Track.length 9 (l.Track.map StretchV.cells)).ro, (rd cA l.Clocks.length 2 (List.zipWith ClockM.cells l.Clocks az)).ro, (bun (nest ClockM.rds l.Clocks az)).ro, (rd bA l.Beams.length 4 (l.Beams.map BeamV.cells)).ro, (rd sgA r.Signals.length 2 (r.Signals.map SignalV.cells)).ro]) (fun z => l.Beams.length + 1 - (b + 1 + z.1.1)) ⟨(0, false), hinit⟩ (Sub.cons rfl <| Sub.cons rfl <| Sub.cons rfl <| Sub.cons rfl <| Sub.cons rfl <| Sub.cons rfl <| Sub.cons rfl <| Sub.cons rfl <| Sub.cons rfl <| sub_val rfl hb128 <| Sub.cons rfl <| Sub.cons rfl <| Sub.cons rfl <| Sub.cons rfl <| Sub.cons rfl <| Sub.cons rfl <| Sub.nil _) (fun w hs => St.sel [0, 1, 2, 3, 4, 5, 6, 7, 8, 9, 10, 11, 12] rfl rfl hs) ?_
     clear hinit
     rintro ⟨⟨j, ib⟩, ⟨hl44_0, hl44_1⟩⟩ J129 hJ129
     try dsimp only at hl44_0 hl44_1
     try dsimp only
     refine w_seq fun _ hK130 => WS fun _ hK131 => rS (MV rfl) <| rS (FA 3 rfl fo28_3 rfl) <| rS (L1 (Value.slice bA l.Beams.length bC) 7 rfl tk26 rfl rfl) <| rS (LN rfl ut26) <| rS (BI rfl b_leq) <| RK hK131 ?_
     refine w_if rfl (fun h132 => ?_) (fun h132 => ?_)
     rotate_left 1
     · replace h132 := DF h132
       refine w_exit <| k_exit_then <| k_exit_then <| k_exit_same <| KK hK126 <| WS fun _ hK136 => ?_
       have hib := ends_ib h56 (b := b) (j := j) (by omega) (by simpa using h171) (by omega) (by omega) hl44_1 (by simp)
       refine rS (MV rfl) <| rS (MV rfl) <| rS (FA 0 rfl fo34_0 rfl) <| rS (L1 (Value.int .i64 ((passedV l r ((b : Nat) : Int)).Lo)) 1 rfl tk3 rfl rfl) <| rS (BI rfl b_eql) <| rS (MV rfl) ?_
       refine r_bool (t := 214) rfl (fun h214 => ?_) (fun h214 => ?_)
       rotate_left 1
       · replace h214 := DF h214
         exact absurd rfl h214
       replace h214 := DT h214
       refine rS (OX rfl) <| rS (OX rfl) <| rS (OX rfl) <| rS (OX rfl) <| rS (PK rfl) <| rS (BI rfl (b_neqb ut4)) <| RK hK136 ?_
       refine w_if rfl (fun h220 => ?_) (fun h220 => ?_)
       · rw [Bool.not_eq_true'] at h220
         exfalso; first | exact clash_yes hib (.inl h214) h220 | exact clash_yes hib (.inl rfl) h220 | exact clash_no hib h214 h220 | exact clash_yes hib (.inr rfl) h220
       rw [Bool.not_eq_false'] at h220
       refine w_skip <| k_block ?_
       refine k_then (k_sub (Sub.cons rfl <| Sub.cons rfl <| Sub.cons rfl <| Sub.cons rfl <| Sub.cons rfl <| Sub.cons rfl <| Sub.cons rfl <| Sub.cons rfl <| Sub.cons rfl <| Sub.cons rfl <| Sub.cons rfl <| Sub.cons rfl <| Sub.cons rfl <| Sub.nil _) (fun w hs => St.sel [0, 1, 2, 3, 4, 5, 6, 7, 8, 9, 10, 11, 12] rfl rfl hs) (hK85 ()))
     replace h132 := DT h132
     refine WK hK130 <| w_seq fun _ hK133 => w_block <| w_region <| rS (MV rfl) <| rS (MV rfl) ?_
     refine r_bool (t := 198) rfl (fun h198 => ?_) (fun h198 => ?_)
     · refine rS (OX rfl) ?_
       refine rS (OX rfl) <| rS (OX rfl) <| rS (OX rfl) <| rS (OX rfl) <| rS (OX rfl) <| rS (OX rfl) <| rS (OX rfl) <| rS (OX rfl) <| rS (PK rfl) <| rS (AG rfl) ?_
       refine r_nil <| k_block <| KK hK133 <| w_region <| rS (MV rfl) <| rS (BI rfl (b_add ⟨by omega, by omega⟩)) <| rS (AG rfl) <| r_nil ?_
       have hb134 : (Value.int .i64 (((b + 1 + (j + 1)) : Nat) : Int)) = (Value.int .i64 ((((b + 1 + j) : Nat) : Int) + 1)) := by exact congrArg (Value.int .i64) (by omega)
       refine k_then (hJ129 ⟨((j + 1), true), ⟨by omega, by first | exact ex_yes hl44_1 h198 | exact ex_no hl44_1 h198⟩⟩ _ _ _ rfl (by simp only []; omega) (Sub.cons rfl <| Sub.cons rfl <| Sub.cons rfl <| Sub.cons rfl <| Sub.cons rfl <| Sub.cons rfl <| Sub.cons rfl <| Sub.cons rfl <| Sub.cons rfl <| sub_val rfl hb134 <| Sub.cons rfl <| Sub.cons rfl <| Sub.cons rfl <| Sub.cons rfl <| Sub.cons rfl <| Sub.cons rfl <| Sub.nil _) (fun w hs => St.sel [0, 1, 2, 3, 4, 5, 6, 7, 8, 9, 10, 11, 12] rfl rfl hs))
     refine rS (LW 7 rfl tk28 rfl rfl) <| rS (LW 6 rfl tk69 rfl rfl) <| rS (LW 2 rfl tk83 rfl rfl) <| rS (FA 0 rfl fo69_0 rfl) <| rS (L1 (Value.int .i64 r.Start) 6 rfl tk3 rfl rfl) <| rS (MV rfl) <| rS (MV rfl) <| rS (MV rfl) <| rS (CL (can_c l kA kC az cA cC bA bC r sgA sgC 0 (b + 1 + j) (b + 1 + j) r.Start 0 0 ((b : Nat) : Int) ((passedV l r ((b : Nat) : Int)).Lo) a23 c24 ta25 tc26 (by exact hin) (by exact h32.2) (by exact h38) (by omega) (by omega) (by omega) (by omega) (by omega) (by omega)) (ha_at 8 rfl rfl <| ha_at 9 rfl rfl <| ha_at 10 rfl rfl <| ha_at 11 rfl rfl <| ha_at 12 rfl rfl <| ha_cons (has_own_n (n := (leasts l l.Beams.length).length) 3 rfl (by simp)) <| ha_cons (has_own_n (n := (sigsL l r r.Signals.length).length) 4 rfl (by simp)) <| ha_nil) rfl) <| rS (PK rfl) ?_
     refine rS (AG rfl) <| r_nil <| k_block <| KK hK133 <| w_region <| rS (MV rfl) <| rS (BI rfl (b_add ⟨by omega, by omega⟩)) <| rS (AG rfl) <| r_nil ?_
     have hb135 : (Value.int .i64 (((b + 1 + (j + 1)) : Nat) : Int)) = (Value.int .i64 ((((b + 1 + j) : Nat) : Int) + 1)) := by exact congrArg (Value.int .i64) (by omega)
     refine k_then (hJ129 ⟨((j + 1), (canF l r ((b : Nat) : Int) ((passedV l r ((b : Nat) : Int)).Lo) (b + 1 + j) 0 r.Start 0 0)), ⟨by omega, by first | exact ex_yes hl44_1 h198 | exact ex_no hl44_1 h198⟩⟩ _ _ _ rfl (by simp only []; omega) (Sub.cons rfl <| Sub.cons rfl <| Sub.cons rfl <| Sub.cons rfl <| Sub.cons rfl <| Sub.cons rfl <| Sub.cons rfl <| Sub.cons rfl <| Sub.cons rfl <| sub_val rfl hb135 <| Sub.cons rfl <| Sub.cons rfl <| Sub.cons rfl <| Sub.cons rfl <| Sub.cons rfl <| Sub.cons rfl <| Sub.nil _) (fun w hs => St.sel [0, 1, 2, 3, 4, 5, 6, 7, 8, 9, 10, 11, 12] rfl rfl hs))
   refine w_block <| WS fun _ hK137 => rS (IAB 0 0 rfl te57 rfl (by decide) rfl) <| rS (L1 (Value.int .i64 (((passedV l r ((b : Nat) : Int)).Lo) - 1)) 0 rfl tk3 rfl rfl) <| rS (AG rfl) <| RK hK137 <| WS fun _ hK138 => rS (AG rfl) <| RK hK138 <| w_seq fun _ hK139 => ?_
   refine WS fun _ hK140 => rS (MV rfl) <| rS (BI rfl (b_add ⟨by omega, by omega⟩)) <| rS (AG rfl) <| RK hK140 <| w_block ?_
   have hinit : (b + 1 + 0 ≤ l.Beams.length + 1) ∧ (false = true ↔ ∃ k, b + 1 ≤ k ∧ k < b + 1 + 0 ∧ canF l r ((b : Nat) : Int) (((passedV l r ((b : Nat) : Int)).Lo) - 1) k 0 r.Start 0 0 = true) := by exact ⟨by omega, by constructor; (intro h; cases h); (rintro ⟨k, h1, h2, _⟩; omega)⟩
   have hb141 : (Value.int .i64 (((b + 1 + 0) : Nat) : Int)) = (Value.int .i64 (((b : Nat) : Int) + 1)) := by exact congrArg (Value.int .i64) (by omega)
   refine w_loop (ι := { z : Nat × Bool // (b + 1 + z.1 ≤ l.Beams.length + 1) ∧ (z.2 = true ↔ ∃ k, b + 1 ≤ k ∧ k < b + 1 + z.1 ∧ canF l r ((b : Nat) : Int) (((passedV l r ((b : Nat) : Int)).Lo) - 1) k 0 r.Start 0 0 = true) }) (fun z => [(2, (Value.pointer (some ⟨b2, 0, none⟩))), (3, (Value.pointer (some ⟨b3, 0, none⟩))), (5, (Value.bool true)), (10, (Value.pointer (some ⟨b27, 0, none⟩))), (15, (Value.int .i64 q)), (17, (Value.int .i64 ((b : Nat) : Int))), (18, (Value.pointer (some ⟨b68, 0, none⟩))), (21, (Value.int .i64 (((passedV l r ((b : Nat) : Int)).Lo) - 1))), (22, (Value.bool z.1.2)), (23, (Value.int .i64 (((b + 1 + z.1.1) : Nat) : Int))), (144, (Value.slice bA l.Beams.length bC)), (145, (Value.int .i64 ((l.Beams.length : Nat) : Int))), (146, (Value.int .i64 ((b : Nat) : Int))), (182, (Value.slice (some ⟨b77, 0, none⟩) 4 4)), (183, (Value.int .i64 4)), (184, (Value.int .i64 0))]) (fun z => [(blk b77 3 [(Value.int .i64 (((passedV l r ((b : Nat) : Int)).Lo) - 1)), (Value.int .i64 ((passedV l r ((b : Nat) : Int)).Lo)), (Value.int .i64 ((passedV l r ((b : Nat) : Int)).Hi)), (Value.int .i64 (((passedV l r ((b : Nat) : Int)).Hi) + 1))]), (blk b68 34 (SpanV.cells (passedV l r ((b : Nat) : Int)))), (blk b27 83 (KnownV.cells (KnownV.mk (Slc.mk a23 ((leasts l l.Beams.length).length) c24) (Slc.mk ta25 ((sigsL l r r.Signals.length).length) tc26)))), (own a23 c24 3 1 ((leasts l l.Beams.length).map iC)), (own ta25 tc26 34 2 ((sigsL l r r.Signals.length).map SpanV.cells)), (own a12 c13 3 1 ((whereV l r).map iC)), (blk b3 69 (RideV.cells (RideV.mk r.Start r.Now (Slc.mk sgA r.Signals.length sgC)))), (blk b2 28 (LineV.cells (LineV.mk (TrackV.mk (Slc.mk kA l.Track.length kC)) l.Fast (Slc.mk cA l.Clocks.length cC) (Slc.mk bA l.Beams.length bC) l.Finish l.Fakes l.Misses))), (rd kA l.Track.length 9 (l.Track.map StretchV.cells)).ro, (rd cA l.Clocks.length 2 (List.zipWith ClockM.cells l.Clocks az)).ro, (bun (nest ClockM.rds l.Clocks az)).ro, (rd bA l.Beams.length 4 (l.Beams.map BeamV.cells)).ro, (rd sgA r.Signals.length 2 (r.Signals.map SignalV.cells)).ro]) (fun z => l.Beams.length + 1 - (b + 1 + z.1.1)) ⟨(0, false), hinit⟩ (Sub.cons rfl <| Sub.cons rfl <| Sub.cons rfl <| Sub.cons rfl <| Sub.cons rfl <| Sub.cons rfl <| Sub.cons rfl <| Sub.cons rfl <| Sub.cons rfl <| sub_val rfl hb141 <| Sub.cons rfl <| Sub.cons rfl <| Sub.cons rfl <| Sub.cons rfl <| Sub.cons rfl <| Sub.cons rfl <| Sub.nil _) (fun w hs => St.sel [0, 1, 2, 3, 4, 5, 6, 7, 8, 9, 10, 11, 12] rfl rfl hs) ?_
   clear hinit
   rintro ⟨⟨j, ib⟩, ⟨hl44_0, hl44_1⟩⟩ J142 hJ142
   try dsimp only at hl44_0 hl44_1
   try dsimp only
   refine w_seq fun _ hK143 => WS fun _ hK144 => rS (MV rfl) <| rS (FA 3 rfl fo28_3 rfl) <| rS (L1 (Value.slice bA l.Beams.length bC) 7 rfl tk26 rfl rfl) <| rS (LN rfl ut26) <| rS (BI rfl b_leq) <| RK hK144 ?_
   refine w_if rfl (fun h145 => ?_) (fun h145 => ?_)
   rotate_left 1
   · replace h145 := DF h145
     refine w_exit <| k_exit_then <| k_exit_then <| k_exit_same <| KK hK139 <| WS fun _ hK149 => ?_
     have hib := ends_ib h56 (b := b) (j := j) (by omega) (by simpa using h171) (by omega) (by omega) hl44_1 (by simp)
     refine rS (MV rfl) <| rS (MV rfl) <| rS (FA 0 rfl fo34_0 rfl) <| rS (L1 (Value.int .i64 ((passedV l r ((b : Nat) : Int)).Lo)) 1 rfl tk3 rfl rfl) <| rS (BI rfl b_eql) <| rS (MV rfl) ?_
     refine r_bool (t := 214) rfl (fun h214 => ?_) (fun h214 => ?_)
     · replace h214 := DT h214
       refine rS (OX rfl) <| rS (OX rfl) <| rS (OX rfl) <| rS (OX rfl) <| rS (PK rfl) <| rS (BI rfl (b_neqb ut4)) <| RK hK149 ?_
       refine w_if rfl (fun h220 => ?_) (fun h220 => ?_)
       · rw [Bool.not_eq_true'] at h220
         exfalso; first | exact clash_yes hib (.inl h214) h220 | exact clash_yes hib (.inl rfl) h220 | exact clash_no hib h214 h220 | exact clash_yes hib (.inr rfl) h220
       rw [Bool.not_eq_false'] at h220
       refine w_skip <| k_block ?_
       refine k_then (k_sub (Sub.cons rfl <| Sub.cons rfl <| Sub.cons rfl <| Sub.cons rfl <| Sub.cons rfl <| Sub.cons rfl <| Sub.cons rfl <| Sub.cons rfl <| Sub.cons rfl <| Sub.cons rfl <| Sub.cons rfl <| Sub.cons rfl <| Sub.cons rfl <| Sub.nil _) (fun w hs => St.sel [0, 1, 2, 3, 4, 5, 6, 7, 8, 9, 10, 11, 12] rfl rfl hs) (hK81 ()))
     replace h214 := DF h214
     refine rS (MV rfl) <| rS (FA 1 rfl fo34_1 rfl) <| rS (L1 (Value.int .i64 ((passedV l r ((b : Nat) : Int)).Hi)) 1 rfl tk3 rfl rfl) <| rS (BI rfl b_eql) <| rS (PK rfl) <| rS (BI rfl (b_neqb ut4)) <| RK hK149 ?_
     refine w_if rfl (fun h220 => ?_) (fun h220 => ?_)
     · rw [Bool.not_eq_true'] at h220
       exfalso; first | exact clash_yes hib (.inl h214) h220 | exact clash_yes hib (.inl rfl) h220 | exact clash_no hib h214 h220 | exact clash_yes hib (.inr rfl) h220
     rw [Bool.not_eq_false'] at h220
     refine w_skip <| k_block ?_
     refine k_then (k_sub (Sub.cons rfl <| Sub.cons rfl <| Sub.cons rfl <| Sub.cons rfl <| Sub.cons rfl <| Sub.cons rfl <| Sub.cons rfl <| Sub.cons rfl <| Sub.cons rfl <| Sub.cons rfl <| Sub.cons rfl <| Sub.cons rfl <| Sub.cons rfl <| Sub.nil _) (fun w hs => St.sel [0, 1, 2, 3, 4, 5, 6, 7, 8, 9, 10, 11, 12] rfl rfl hs) (hK81 ()))
   replace h145 := DT h145
   refine WK hK143 <| w_seq fun _ hK146 => w_block <| w_region <| rS (MV rfl) <| rS (MV rfl) ?_
   refine r_bool (t := 198) rfl (fun h198 => ?_) (fun h198 => ?_)
   · refine rS (OX rfl) ?_
     refine rS (OX rfl) <| rS (OX rfl) <| rS (OX rfl) <| rS (OX rfl) <| rS (OX rfl) <| rS (OX rfl) <| rS (OX rfl) <| rS (OX rfl) <| rS (PK rfl) <| rS (AG rfl) ?_
     refine r_nil <| k_block <| KK hK146 <| w_region <| rS (MV rfl) <| rS (BI rfl (b_add ⟨by omega, by omega⟩)) <| rS (AG rfl) <| r_nil ?_
     have hb147 : (Value.int .i64 (((b + 1 + (j + 1)) : Nat) : Int)) = (Value.int .i64 ((((b + 1 + j) : Nat) : Int) + 1)) := by exact congrArg (Value.int .i64) (by omega)
     refine k_then (hJ142 ⟨((j + 1), true), ⟨by omega, by first | exact ex_yes hl44_1 h198 | exact ex_no hl44_1 h198⟩⟩ _ _ _ rfl (by simp only []; omega) (Sub.cons rfl <| Sub.cons rfl <| Sub.cons rfl <| Sub.cons rfl <| Sub.cons rfl <| Sub.cons rfl <| Sub.cons rfl <| Sub.cons rfl <| Sub.cons rfl <| sub_val rfl hb147 <| Sub.cons rfl <| Sub.cons rfl <| Sub.cons rfl <| Sub.cons rfl <| Sub.cons rfl <| Sub.cons rfl <| Sub.nil _) (fun w hs => St.sel [0, 1, 2, 3, 4, 5, 6, 7, 8, 9, 10, 11, 12] rfl rfl hs))
   refine rS (LW 7 rfl tk28 rfl rfl) <| rS (LW 6 rfl tk69 rfl rfl) <| rS (LW 2 rfl tk83 rfl rfl) <| rS (FA 0 rfl fo69_0 rfl) <| rS (L1 (Value.int .i64 r.Start) 6 rfl tk3 rfl rfl) <| rS (MV rfl) <| rS (MV rfl) <| rS (MV rfl) <| rS (CL (can_c l kA kC az cA cC bA bC r sgA sgC 0 (b + 1 + j) (b + 1 + j) r.Start 0 0 ((b : Nat) : Int) (((passedV l r ((b : Nat) : Int)).Lo) - 1) a23 c24 ta25 tc26 (by exact hin) (by exact h32.2) (by exact h38) (by omega) (by omega) (by omega) (by omega) (by omega) (by omega)) (ha_at 8 rfl rfl <| ha_at 9 rfl rfl <| ha_at 10 rfl rfl <| ha_at 11 rfl rfl <| ha_at 12 rfl rfl <| ha_cons (has_own_n (n := (leasts l l.Beams.length).length) 3 rfl (by simp)) <| ha_cons (has_own_n (n := (sigsL l r r.Signals.length).length) 4 rfl (by simp)) <| ha_nil) rfl) <| rS (PK rfl) ?_
   refine rS (AG rfl) <| r_nil <| k_block <| KK hK146 <| w_region <| rS (MV rfl) <| rS (BI rfl (b_add ⟨by omega, by omega⟩)) <| rS (AG rfl) <| r_nil ?_
   have hb148 : (Value.int .i64 (((b + 1 + (j + 1)) : Nat) : Int)) = (Value.int .i64 ((((b + 1 + j) : Nat) : Int) + 1)) := by exact congrArg (Value.int .i64) (by omega)
   refine k_then (hJ142 ⟨((j + 1), (canF l r ((b : Nat) : Int) (((passedV l r ((b : Nat) : Int)).Lo) - 1) (b + 1 + j) 0 r.Start 0 0)), ⟨by omega, by first | exact ex_yes hl44_1 h198 | exact ex_no hl44_1 h198⟩⟩ _ _ _ rfl (by simp only []; omega) (Sub.cons rfl <| Sub.cons rfl <| Sub.cons rfl <| Sub.cons rfl <| Sub.cons rfl <| Sub.cons rfl <| Sub.cons rfl <| Sub.cons rfl <| Sub.cons rfl <| sub_val rfl hb148 <| Sub.cons rfl <| Sub.cons rfl <| Sub.cons rfl <| Sub.cons rfl <| Sub.cons rfl <| Sub.cons rfl <| Sub.nil _) (fun w hs => St.sel [0, 1, 2, 3, 4, 5, 6, 7, 8, 9, 10, 11, 12] rfl rfl hs))
 refine w_block <| w_seq fun _ hK155 => w_draw mixed 7 (by kernel_rfl) <| dS (MV rfl) ?_
 obtain ⟨q2, hq2⟩ : ∃ y_, (whereV l r)[0]? = some y_ := ⟨(whereV l r)[0]'(by omega), List.getElem?_eq_getElem _⟩
 have hq2m : ((whereV l r).map iC)[0]? = some (iC q2) := by rw [List.getElem?_map, hq2]; rfl
 refine dS (IA 0 rfl (has_own_n (n := (whereV l r).length) 3 rfl (by simp)) te57 (by decide) rfl (by omega)) ?_
 have hqy : q2 = minL (whereV l r) := by have := hwe.1; rw [hq2] at this; exact Option.some.inj this
 have hci := clear_is h56
 rw [← hqx, ← hqy] at hci
 refine dS (LE1 0 0 (Value.int .i64 q2) rfl tk3 (has_own_n (n := (whereV l r).length) 3 rfl (by simp)) hq2m rfl (by decide) rfl) <| dS (FA 4 rfl fo28_4 rfl) <| dS (L1 (Value.int .i64 l.Finish) 5 rfl tk3 rfl rfl) <| dS (BI rfl b_gtr) <| dS (AG rfl) <| d_end <| RK hK155 ?_
 refine w_if rfl (fun h128 => ?_) (fun h128 => ?_)
 · replace h128 := DT h128
   refine w_region <| rS (AG rfl) <| r_nil <| k_block ?_
   have hb156 : (Value.int .u8 (clearV l r)) = (Value.int .u8 2) := by first | rw [hci.1 h128] | rw [hci.2.1 h128 h135] | rw [hci.2.2 h128 h135]
   refine k_then (k_sub (Sub.cons rfl <| Sub.cons rfl <| Sub.cons rfl <| Sub.cons rfl <| Sub.cons rfl <| Sub.cons rfl <| sub_val rfl hb156 <| Sub.nil _) (fun w hs => St.sel [0, 1, 2, 3, 4, 5, 6, 7, 8, 9, 10] rfl rfl hs) (hK56 ()))
 replace h128 := DF h128
 refine WS fun _ hK157 => rS (MV rfl) <| rS (FA 4 rfl fo28_4 rfl) <| rS (L1 (Value.int .i64 l.Finish) 5 rfl tk3 rfl rfl) <| rS (BI rfl b_leq) <| rS (AG rfl) <| RK hK157 ?_
 refine w_if rfl (fun h135 => ?_) (fun h135 => ?_)
 rotate_left 1
 · replace h135 := DF h135
   refine w_skip <| k_block ?_
   have hb159 : (Value.int .u8 (clearV l r)) = (Value.int .u8 1) := by first | rw [hci.1 h128] | rw [hci.2.1 h128 h135] | rw [hci.2.2 h128 h135]
   refine k_then (k_sub (Sub.cons rfl <| Sub.cons rfl <| Sub.cons rfl <| Sub.cons rfl <| Sub.cons rfl <| Sub.cons rfl <| sub_val rfl hb159 <| Sub.nil _) (fun w hs => St.sel [0, 1, 2, 3, 4, 5, 6, 7, 8, 9, 10] rfl rfl hs) (hK56 ()))
 replace h135 := DT h135
 refine w_region <| rS (AG rfl) <| r_nil <| k_block ?_
 have hb158 : (Value.int .u8 (clearV l r)) = (Value.int .u8 0) := by first | rw [hci.1 h128] | rw [hci.2.1 h128 h135] | rw [hci.2.2 h128 h135]
 refine k_then (k_sub (Sub.cons rfl <| Sub.cons rfl <| Sub.cons rfl <| Sub.cons rfl <| Sub.cons rfl <| Sub.cons rfl <| sub_val rfl hb158 <| Sub.nil _) (fun w hs => St.sel [0, 1, 2, 3, 4, 5, 6, 7, 8, 9, 10] rfl rfl hs) (hK56 ()))
end
section
open Go.RowKit
set_option linter.unusedVariables false
def ReadsAs {α : Type} (cells : α → List Value) (sz : Nat) (R : World → α → Prop) (w : World) (s : Slc) : Prop := ∃ l : List α, s.n = l.length ∧ (rd s.a l.length sz (l.map cells)).holds w ∧ (∀ x ∈ l, R w x) ∧ l.length ≤ maxLen ∧ s.n ≤ s.c
theorem open_clocks {w : World} {R : World → SyncV → Prop} : ∀ {l : List ClockV}, (∀ x ∈ l, ReadsAs SyncV.cells 3 R w x.Syncs) → ∃ (ms : List ClockM) (az : List RA), l.map ClockV.cells = List.zipWith ClockM.cells ms az ∧ ms.length = l.length ∧ az.length = l.length ∧ (∀ X ∈ nest ClockM.rds ms az, X.holds w) ∧
    (∀ (k : Nat) m (a : RA), ms[k]? = some m → az[k]? = some a → m.Syncs.length ≤ a.2 ∧ m.Syncs.length ≤ 9223372036854775807) ∧ ms.map (fun m => m.Drift) = l.map (fun x => x.Drift) ∧ ∀ (k : Nat) m y, ms[k]? = some m → y ∈ m.Syncs → R w y
  | [], _ => ⟨[], [], rfl, rfl, rfl, (fun X hX => by cases hX), (fun k m a h => by simp at h), rfl, (fun k m y h => by simp at h)⟩
  | x :: l, h => by
    obtain ⟨ms, az, h1, h2, h3, h4, h5, h6, h7⟩ := open_clocks (fun y hy => h y (List.mem_cons_of_mem _ hy))
    obtain ⟨sy, e1, e2, e3, e4, e5⟩ := h x (by simp)
    have e4' : sy.length ≤ 9223372036854775807 := e4
    refine ⟨⟨x.Drift, sy⟩ :: ms, (x.Syncs.a, x.Syncs.c) :: az, ?_, by simp [h2], by simp [h3], fun X hX => ?_, fun k m a hm ha => ?_, by simp [h6], fun k m y hm hy => ?_⟩
    · obtain ⟨dr, ⟨a, n, c⟩⟩ := x
      simp only at e1
      subst e1
      simp only [List.map_cons, List.zipWith_cons_cons, h1]
      rfl
    · rcases List.mem_append.1 hX with hX | hX
      · simp only [ClockM.rds, List.mem_singleton] at hX
        subst hX; exact e2
      · exact h4 X hX
    · cases k with
      | zero =>
        simp only [List.getElem?_cons_zero, Option.some.injEq] at hm ha
        subst hm ha
        exact ⟨by simp only; omega, e4'⟩
      | succ k => exact h5 k m a (by simpa using hm) (by simpa using ha)
    · cases k with
      | zero =>
        simp only [List.getElem?_cons_zero, Option.some.injEq] at hm
        subst hm
        exact e3 y hy
      | succ k => exact h7 k m y (by simpa using hm) hy
theorem open_line {w : World} {s : LineV} {R1 : World → StretchV → Prop} {R2 : World → ClockV → Prop} {R3 : World → BeamV → Prop} {R4 : World → SyncV → Prop} (h1 : ReadsAs StretchV.cells 9 R1 w s.Track.Stretches) (hs : ∀ x, R1 w x → 0 ≤ x.Side ∧ x.Side ≤ 255) (h2 : ReadsAs ClockV.cells 2 R2 w s.Clocks) (hc : ∀ x, R2 w x → ReadsAs SyncV.cells 3 R4 w x.Syncs) (h3 : ReadsAs BeamV.cells 4 R3 w s.Beams) :
    ∃ (l : LineM) (az : List RA) (kA : Option Addr) (kC : Nat) (cA : Option Addr) (cC : Nat) (bA : Option Addr) (bC : Nat), s = LineV.mk (TrackV.mk (Slc.mk kA l.Track.length kC)) l.Fast (Slc.mk cA l.Clocks.length cC) (Slc.mk bA l.Beams.length bC) l.Finish l.Fakes l.Misses ∧ LineRaw l az ∧
      ((rd kA l.Track.length 9 (l.Track.map StretchV.cells)).holds w ∧ (rd cA l.Clocks.length 2 (List.zipWith ClockM.cells l.Clocks az)).holds w ∧ (bun (nest ClockM.rds l.Clocks az)).holds w ∧ (rd bA l.Beams.length 4 (l.Beams.map BeamV.cells)).holds w) ∧ l.Fast = s.Fast ∧ l.Finish = s.Finish ∧ l.Fakes = s.Fakes ∧ l.Misses = s.Misses := by
  obtain ⟨⟨⟨ka, kn, kc⟩⟩, fa, ⟨ca, cn, cc⟩, ⟨ba, bn, bc⟩, fi, fk, mi⟩ := s
  obtain ⟨ts, t1, t2, t3, t4, t5⟩ := h1
  obtain ⟨cs, c1, c2, c3, c4, c5⟩ := h2
  obtain ⟨bs, b1, b2, b3, b4, b5⟩ := h3
  simp only at t1 c1 b1
  subst t1 c1 b1
  obtain ⟨ms, az, m1, m2, m3, m4, m5, _⟩ := open_clocks (fun x hx => hc x (c3 x hx))
  have t4' : ts.length ≤ 9223372036854775807 := t4
  have c4' : cs.length ≤ 9223372036854775807 := c4
  have b4' : bs.length ≤ 9223372036854775807 := b4
  refine ⟨⟨ts, fa, ms, bs, fi, fk, mi⟩, az, ka, kc, ca, cc, ba, bc, by simp only [m2], ⟨t4', fun x hx => hs x (t3 x hx), by simp only; omega, by simp only; omega, b4', m5⟩, ⟨t2, ?_, m4, b2⟩, rfl, rfl, rfl, rfl⟩
  simp only at c2 ⊢
  rw [m2, ← m1]; exact c2
end
section
open Go.RowKit
set_option linter.unusedVariables false
theorem open_ride {w : World} {s : RideV} {R : World → SignalV → Prop} (h : ReadsAs SignalV.cells 2 R w s.Signals) :
    ∃ (r : RideM) (gA : Option Addr) (gC : Nat), s = RideV.mk r.Start r.Now (Slc.mk gA r.Signals.length gC) ∧ r.Signals.length ≤ 9223372036854775807 ∧ (rd gA r.Signals.length 2 (r.Signals.map SignalV.cells)).holds w := by
  obtain ⟨st, nw, ⟨a, n, c⟩⟩ := s
  obtain ⟨l, h1, h2, h3, h4, h5⟩ := h
  simp only at h1
  subst h1
  exact ⟨⟨st, nw, l⟩, a, c, rfl, h4, h2⟩
end
section
open Go.ChangeShapes Go.WideShapes Go.ChangeAt Go.RowKit
set_option linter.unusedVariables false
theorem cz28 : Try.prog.cellsOf 28 = 7 := by kernel_rfl
theorem cz24 : Try.prog.cellsOf 24 = 1 := by kernel_rfl
theorem cz22 : Try.prog.cellsOf 22 = 1 := by kernel_rfl
theorem cz126 : Try.prog.cellsOf 126 = 9 := by kernel_rfl
theorem cz3 : Try.prog.cellsOf 3 = 1 := by kernel_rfl
def Is3 (w : World) (n : Int) : Prop := In64 n
theorem op3 : OpR Try.prog 3 Int iC Is3 := op_i64 ut3
theorem cz34 : Try.prog.cellsOf 34 = 2 := by kernel_rfl
structure Is34 (w : World) (s : SpanV) : Prop where
  Lo : Is3 w s.Lo
  Hi : Is3 w s.Hi
theorem fx34 : fL Try.prog 34 = some [(3, 0), (3, 1)] := by kernel_rfl
theorem op34 : OpR Try.prog 34 SpanV SpanV.cells Is34 := fun {H} enc w base sp held fuel cs x h => by
  obtain ⟨hl, hp⟩ := op_parts fx34 h
  obtain ⟨n0, y0, h0⟩ := hp 0 3 0 rfl
  obtain ⟨s0, c0, r0⟩ := op3 _ _ _ _ _ _ _ _ h0
  obtain ⟨n1, y1, h1⟩ := hp 1 3 1 rfl
  obtain ⟨s1, c1, r1⟩ := op3 _ _ _ _ _ _ _ _ h1
  refine ⟨⟨s0, s1⟩, ?_, ⟨r0, r1⟩⟩
  have e1 := parts_last (hl.trans cz34) (by rw [cz3]) c1
  have e0 := parts_cons c0 (m := 1) (by rw [cz3]) e1
  exact e0
theorem cz5 : Try.prog.cellsOf 5 = 1 := by kernel_rfl
def Is5 (w : World) (n : Int) : Prop := 0 ≤ n ∧ n ≤ 255
theorem op5 : OpR Try.prog 5 Int iC_u8 Is5 := op_u8 ut5
structure Is126 (w : World) (s : StretchV) : Prop where
  Id : Is3 w s.Id
  Long : Is34 w s.Long
  Fall : Is34 w s.Fall
  Radius : Is34 w s.Radius
  Side : Is5 w s.Side
  Wall : Is3 w s.Wall
theorem fx126 : fL Try.prog 126 = some [(3, 0), (34, 1), (34, 3), (34, 5), (5, 7), (3, 8)] := by kernel_rfl
theorem op126 : OpR Try.prog 126 StretchV StretchV.cells Is126 := fun {H} enc w base sp held fuel cs x h => by
  obtain ⟨hl, hp⟩ := op_parts fx126 h
  obtain ⟨n0, y0, h0⟩ := hp 0 3 0 rfl
  obtain ⟨s0, c0, r0⟩ := op3 _ _ _ _ _ _ _ _ h0
  obtain ⟨n1, y1, h1⟩ := hp 1 34 1 rfl
  obtain ⟨s1, c1, r1⟩ := op34 _ _ _ _ _ _ _ _ h1
  obtain ⟨n2, y2, h2⟩ := hp 2 34 3 rfl
  obtain ⟨s2, c2, r2⟩ := op34 _ _ _ _ _ _ _ _ h2
  obtain ⟨n3, y3, h3⟩ := hp 3 34 5 rfl
  obtain ⟨s3, c3, r3⟩ := op34 _ _ _ _ _ _ _ _ h3
  obtain ⟨n4, y4, h4⟩ := hp 4 5 7 rfl
  obtain ⟨s4, c4, r4⟩ := op5 _ _ _ _ _ _ _ _ h4
  obtain ⟨n5, y5, h5⟩ := hp 5 3 8 rfl
  obtain ⟨s5, c5, r5⟩ := op3 _ _ _ _ _ _ _ _ h5
  refine ⟨⟨s0, s1, s2, s3, s4, s5⟩, ?_, ⟨r0, r1, r2, r3, r4, r5⟩⟩
  have e5 := parts_last (hl.trans cz126) (by rw [cz3]) c5
  have e4 := parts_cons c4 (m := 8) (by rw [cz5]) e5
  have e3 := parts_cons c3 (m := 7) (by rw [cz34]) e4
  have e2 := parts_cons c2 (m := 5) (by rw [cz34]) e3
  have e1 := parts_cons c1 (m := 3) (by rw [cz34]) e2
  have e0 := parts_cons c0 (m := 1) (by rw [cz3]) e1
  exact e0
def Is22 (w : World) (s : Slc) : Prop := ∃ l : List StretchV, s.n = l.length ∧ (rd s.a l.length 9 (l.map StretchV.cells)).holds w ∧ (∀ x ∈ l, Is126 w x) ∧ l.length ≤ maxLen ∧ s.n ≤ s.c
theorem op22 : OpR Try.prog 22 Slc (fun s => [Value.slice s.a s.n s.c]) Is22 := op_slice ut22 cz126 op126
structure Is24 (w : World) (s : TrackV) : Prop where
  Stretches : Is22 w s.Stretches
theorem fx24 : fL Try.prog 24 = some [(22, 0)] := by kernel_rfl
theorem op24 : OpR Try.prog 24 TrackV TrackV.cells Is24 := fun {H} enc w base sp held fuel cs x h => by
  obtain ⟨hl, hp⟩ := op_parts fx24 h
  obtain ⟨n0, y0, h0⟩ := hp 0 22 0 rfl
  obtain ⟨s0, c0, r0⟩ := op22 _ _ _ _ _ _ _ _ h0
  refine ⟨⟨s0⟩, ?_, ⟨r0⟩⟩
  have e0 := parts_last (hl.trans cz24) (by rw [cz22]) c0
  exact e0
theorem cz25 : Try.prog.cellsOf 25 = 1 := by kernel_rfl
theorem cz64 : Try.prog.cellsOf 64 = 2 := by kernel_rfl
theorem cz62 : Try.prog.cellsOf 62 = 1 := by kernel_rfl
theorem cz61 : Try.prog.cellsOf 61 = 3 := by kernel_rfl
structure Is61 (w : World) (s : SyncV) : Prop where
  At : Is3 w s.At
  Ahead : Is34 w s.Ahead
theorem fx61 : fL Try.prog 61 = some [(3, 0), (34, 1)] := by kernel_rfl
theorem op61 : OpR Try.prog 61 SyncV SyncV.cells Is61 := fun {H} enc w base sp held fuel cs x h => by
  obtain ⟨hl, hp⟩ := op_parts fx61 h
  obtain ⟨n0, y0, h0⟩ := hp 0 3 0 rfl
  obtain ⟨s0, c0, r0⟩ := op3 _ _ _ _ _ _ _ _ h0
  obtain ⟨n1, y1, h1⟩ := hp 1 34 1 rfl
  obtain ⟨s1, c1, r1⟩ := op34 _ _ _ _ _ _ _ _ h1
  refine ⟨⟨s0, s1⟩, ?_, ⟨r0, r1⟩⟩
  have e1 := parts_last (hl.trans cz61) (by rw [cz34]) c1
  have e0 := parts_cons c0 (m := 1) (by rw [cz3]) e1
  exact e0
def Is62 (w : World) (s : Slc) : Prop := ∃ l : List SyncV, s.n = l.length ∧ (rd s.a l.length 3 (l.map SyncV.cells)).holds w ∧ (∀ x ∈ l, Is61 w x) ∧ l.length ≤ maxLen ∧ s.n ≤ s.c
theorem op62 : OpR Try.prog 62 Slc (fun s => [Value.slice s.a s.n s.c]) Is62 := op_slice ut62 cz61 op61
structure Is64 (w : World) (s : ClockV) : Prop where
  Drift : Is3 w s.Drift
  Syncs : Is62 w s.Syncs
theorem fx64 : fL Try.prog 64 = some [(3, 0), (62, 1)] := by kernel_rfl
theorem op64 : OpR Try.prog 64 ClockV ClockV.cells Is64 := fun {H} enc w base sp held fuel cs x h => by
  obtain ⟨hl, hp⟩ := op_parts fx64 h
  obtain ⟨n0, y0, h0⟩ := hp 0 3 0 rfl
  obtain ⟨s0, c0, r0⟩ := op3 _ _ _ _ _ _ _ _ h0
  obtain ⟨n1, y1, h1⟩ := hp 1 62 1 rfl
  obtain ⟨s1, c1, r1⟩ := op62 _ _ _ _ _ _ _ _ h1
  refine ⟨⟨s0, s1⟩, ?_, ⟨r0, r1⟩⟩
  have e1 := parts_last (hl.trans cz64) (by rw [cz62]) c1
  have e0 := parts_cons c0 (m := 1) (by rw [cz3]) e1
  exact e0
def Is25 (w : World) (s : Slc) : Prop := ∃ l : List ClockV, s.n = l.length ∧ (rd s.a l.length 2 (l.map ClockV.cells)).holds w ∧ (∀ x ∈ l, Is64 w x) ∧ l.length ≤ maxLen ∧ s.n ≤ s.c
theorem op25 : OpR Try.prog 25 Slc (fun s => [Value.slice s.a s.n s.c]) Is25 := op_slice ut25 cz64 op64
theorem cz26 : Try.prog.cellsOf 26 = 1 := by kernel_rfl
theorem cz55 : Try.prog.cellsOf 55 = 4 := by kernel_rfl
theorem cz53 : Try.prog.cellsOf 53 = 3 := by kernel_rfl
structure Is53 (w : World) (s : SpotV) : Prop where
  Stretch : Is3 w s.Stretch
  Off : Is34 w s.Off
theorem fx53 : fL Try.prog 53 = some [(3, 0), (34, 1)] := by kernel_rfl
theorem op53 : OpR Try.prog 53 SpotV SpotV.cells Is53 := fun {H} enc w base sp held fuel cs x h => by
  obtain ⟨hl, hp⟩ := op_parts fx53 h
  obtain ⟨n0, y0, h0⟩ := hp 0 3 0 rfl
  obtain ⟨s0, c0, r0⟩ := op3 _ _ _ _ _ _ _ _ h0
  obtain ⟨n1, y1, h1⟩ := hp 1 34 1 rfl
  obtain ⟨s1, c1, r1⟩ := op34 _ _ _ _ _ _ _ _ h1
  refine ⟨⟨s0, s1⟩, ?_, ⟨r0, r1⟩⟩
  have e1 := parts_last (hl.trans cz53) (by rw [cz34]) c1
  have e0 := parts_cons c0 (m := 1) (by rw [cz3]) e1
  exact e0
structure Is55 (w : World) (s : BeamV) : Prop where
  Spot : Is53 w s.Spot
  Clock : Is3 w s.Clock
theorem fx55 : fL Try.prog 55 = some [(53, 0), (3, 3)] := by kernel_rfl
theorem op55 : OpR Try.prog 55 BeamV BeamV.cells Is55 := fun {H} enc w base sp held fuel cs x h => by
  obtain ⟨hl, hp⟩ := op_parts fx55 h
  obtain ⟨n0, y0, h0⟩ := hp 0 53 0 rfl
  obtain ⟨s0, c0, r0⟩ := op53 _ _ _ _ _ _ _ _ h0
  obtain ⟨n1, y1, h1⟩ := hp 1 3 3 rfl
  obtain ⟨s1, c1, r1⟩ := op3 _ _ _ _ _ _ _ _ h1
  refine ⟨⟨s0, s1⟩, ?_, ⟨r0, r1⟩⟩
  have e1 := parts_last (hl.trans cz55) (by rw [cz3]) c1
  have e0 := parts_cons c0 (m := 3) (by rw [cz53]) e1
  exact e0
def Is26 (w : World) (s : Slc) : Prop := ∃ l : List BeamV, s.n = l.length ∧ (rd s.a l.length 4 (l.map BeamV.cells)).holds w ∧ (∀ x ∈ l, Is55 w x) ∧ l.length ≤ maxLen ∧ s.n ≤ s.c
theorem op26 : OpR Try.prog 26 Slc (fun s => [Value.slice s.a s.n s.c]) Is26 := op_slice ut26 cz55 op55
structure Is28 (w : World) (s : LineV) : Prop where
  Track : Is24 w s.Track
  Fast : Is3 w s.Fast
  Clocks : Is25 w s.Clocks
  Beams : Is26 w s.Beams
  Finish : Is3 w s.Finish
  Fakes : Is3 w s.Fakes
  Misses : Is3 w s.Misses
theorem fx28 : fL Try.prog 28 = some [(24, 0), (3, 1), (25, 2), (26, 3), (3, 4), (3, 5), (3, 6)] := by kernel_rfl
theorem op28 : OpR Try.prog 28 LineV LineV.cells Is28 := fun {H} enc w base sp held fuel cs x h => by
  obtain ⟨hl, hp⟩ := op_parts fx28 h
  obtain ⟨n0, y0, h0⟩ := hp 0 24 0 rfl
  obtain ⟨s0, c0, r0⟩ := op24 _ _ _ _ _ _ _ _ h0
  obtain ⟨n1, y1, h1⟩ := hp 1 3 1 rfl
  obtain ⟨s1, c1, r1⟩ := op3 _ _ _ _ _ _ _ _ h1
  obtain ⟨n2, y2, h2⟩ := hp 2 25 2 rfl
  obtain ⟨s2, c2, r2⟩ := op25 _ _ _ _ _ _ _ _ h2
  obtain ⟨n3, y3, h3⟩ := hp 3 26 3 rfl
  obtain ⟨s3, c3, r3⟩ := op26 _ _ _ _ _ _ _ _ h3
  obtain ⟨n4, y4, h4⟩ := hp 4 3 4 rfl
  obtain ⟨s4, c4, r4⟩ := op3 _ _ _ _ _ _ _ _ h4
  obtain ⟨n5, y5, h5⟩ := hp 5 3 5 rfl
  obtain ⟨s5, c5, r5⟩ := op3 _ _ _ _ _ _ _ _ h5
  obtain ⟨n6, y6, h6⟩ := hp 6 3 6 rfl
  obtain ⟨s6, c6, r6⟩ := op3 _ _ _ _ _ _ _ _ h6
  refine ⟨⟨s0, s1, s2, s3, s4, s5, s6⟩, ?_, ⟨r0, r1, r2, r3, r4, r5, r6⟩⟩
  have e6 := parts_last (hl.trans cz28) (by rw [cz3]) c6
  have e5 := parts_cons c5 (m := 6) (by rw [cz3]) e6
  have e4 := parts_cons c4 (m := 5) (by rw [cz3]) e5
  have e3 := parts_cons c3 (m := 4) (by rw [cz26]) e4
  have e2 := parts_cons c2 (m := 3) (by rw [cz25]) e3
  have e1 := parts_cons c1 (m := 2) (by rw [cz3]) e2
  have e0 := parts_cons c0 (m := 1) (by rw [cz24]) e1
  exact e0
theorem cz69 : Try.prog.cellsOf 69 = 3 := by kernel_rfl
theorem cz67 : Try.prog.cellsOf 67 = 1 := by kernel_rfl
theorem cz30 : Try.prog.cellsOf 30 = 2 := by kernel_rfl
structure Is30 (w : World) (s : SignalV) : Prop where
  Beam : Is3 w s.Beam
  Read : Is3 w s.Read
theorem fx30 : fL Try.prog 30 = some [(3, 0), (3, 1)] := by kernel_rfl
theorem op30 : OpR Try.prog 30 SignalV SignalV.cells Is30 := fun {H} enc w base sp held fuel cs x h => by
  obtain ⟨hl, hp⟩ := op_parts fx30 h
  obtain ⟨n0, y0, h0⟩ := hp 0 3 0 rfl
  obtain ⟨s0, c0, r0⟩ := op3 _ _ _ _ _ _ _ _ h0
  obtain ⟨n1, y1, h1⟩ := hp 1 3 1 rfl
  obtain ⟨s1, c1, r1⟩ := op3 _ _ _ _ _ _ _ _ h1
  refine ⟨⟨s0, s1⟩, ?_, ⟨r0, r1⟩⟩
  have e1 := parts_last (hl.trans cz30) (by rw [cz3]) c1
  have e0 := parts_cons c0 (m := 1) (by rw [cz3]) e1
  exact e0
def Is67 (w : World) (s : Slc) : Prop := ∃ l : List SignalV, s.n = l.length ∧ (rd s.a l.length 2 (l.map SignalV.cells)).holds w ∧ (∀ x ∈ l, Is30 w x) ∧ l.length ≤ maxLen ∧ s.n ≤ s.c
theorem op67 : OpR Try.prog 67 Slc (fun s => [Value.slice s.a s.n s.c]) Is67 := op_slice ut67 cz30 op30
structure Is69 (w : World) (s : RideV) : Prop where
  Start : Is3 w s.Start
  Now : Is3 w s.Now
  Signals : Is67 w s.Signals
theorem fx69 : fL Try.prog 69 = some [(3, 0), (3, 1), (67, 2)] := by kernel_rfl
theorem op69 : OpR Try.prog 69 RideV RideV.cells Is69 := fun {H} enc w base sp held fuel cs x h => by
  obtain ⟨hl, hp⟩ := op_parts fx69 h
  obtain ⟨n0, y0, h0⟩ := hp 0 3 0 rfl
  obtain ⟨s0, c0, r0⟩ := op3 _ _ _ _ _ _ _ _ h0
  obtain ⟨n1, y1, h1⟩ := hp 1 3 1 rfl
  obtain ⟨s1, c1, r1⟩ := op3 _ _ _ _ _ _ _ _ h1
  obtain ⟨n2, y2, h2⟩ := hp 2 67 2 rfl
  obtain ⟨s2, c2, r2⟩ := op67 _ _ _ _ _ _ _ _ h2
  refine ⟨⟨s0, s1, s2⟩, ?_, ⟨r0, r1, r2⟩⟩
  have e2 := parts_last (hl.trans cz69) (by rw [cz67]) c2
  have e1 := parts_cons c1 (m := 2) (by rw [cz3]) e2
  have e0 := parts_cons c0 (m := 1) (by rw [cz3]) e1
  exact e0
theorem own_beamEnds : ownKnob Try.prog.godebug = none := by kernel_rfl
theorem laid_beamEnds : laidOutB Try.prog = true := by kernel_rfl
set_option maxRecDepth 100000 in
theorem beamEnds_lifted (os : Os) (started : os.Started) (H : Type) (enc : TypeId × Value → H) :
    ReturnsInHanded {} Try.checked os 8 .any (Rows.beamEndsSpec.pre6 enc Try.prog Try.f8 Rows.beamEndsRow.domain false) (Rows.beamEndsSpec.post enc Try.prog Try.f8 false true false false) := by
  refine returnsInHanded_of_change (C := Try.checked) own_beamEnds started (by kernel_rfl) Try.func8
    (ChangeSpec.witness6 (enc := enc) (C := Try.checked) false ⟨#[], #[.agg #[(Value.slice none 0 0), (Value.int .i64 0), (Value.slice none 0 0), (Value.slice none 0 0), (Value.int .i64 0), (Value.int .i64 0), (Value.int .i64 0)], .agg #[(Value.int .i64 0), (Value.int .i64 0), (Value.slice none 0 0)]], []⟩ 8 (by kernel_rfl) (by kernel_rfl) (by kernel_rfl) (by kernel_rfl)) ?_
  intro W base args ds gs before hval0 hW hcnd _
  have hval : ∀ (j : Nat) t v, Try.f8.params[j]? = some t → args[j]? = some v → Value.okWide Try.prog W .any base t v := hval0
  have hW' := hW
  obtain ⟨p, q, hA0, hV, rfl, hfz, hnd⟩ := hW
  have hA : DataW.TrodAll enc Try.prog W 0 (fun _ => true) true Try.f8.params.toList args.toList ds p := hA0
  have hA1 := hA
  rw [Try.params8] at hA hval
  obtain ⟨v0, vs0, d0, ds0, p0, q0, hargs, rfl, rfl, h0, r0⟩ := trodAll_cons hA
  obtain ⟨v1, vs1, d1, ds1, p1, q1, rfl, rfl, rfl, h1, r1⟩ := trodAll_cons r0
  obtain ⟨rfl, rfl, rfl⟩ := trodAll_nil r1
  obtain rfl : args = #[v0, v1] := by cases args; simp_all
  obtain ⟨rfl, rfl⟩ := trodVars_none hV
  obtain ⟨s0, rfl, R0⟩ := arg_struct fx28 op28 (hval 0 28 v0 rfl rfl) h0
  obtain ⟨s1, rfl, R1⟩ := arg_struct fx69 op69 (hval 1 69 v1 rfl rfl) h1
  simp only [List.append_nil] at hW' hA1
  obtain ⟨l, az, kA, kC, cA, cC, bA, bC, rfl, hraw, hl4, _⟩ := open_line (R1 := Is126) (R2 := Is64) (R3 := Is55) (R4 := Is61) R0.Track.Stretches (fun x hx => hx.Side) R0.Clocks (fun x hx => hx.Syncs) R0.Beams
  obtain ⟨r, gA, gC, rfl, hrr, hrd⟩ := open_ride (R := Is30) R1.Signals
  have hrun := (beamEnds_c l kA kC az cA cC bA bC r gA gC hraw hrr).run W (by intro A hA; simp only [List.mem_cons, List.not_mem_nil, or_false] at hA; rcases hA with rfl | rfl | rfl | rfl | rfl; exact hl4.1; exact hl4.2.1; exact hl4.2.2.1; exact hl4.2.2.2; exact hrd)
  refine (hrun).mono fun e W' ⟨he, hk⟩ => ?_
  subst he
  exact ⟨_, rfl, law_post laid_beamEnds hW' hA1 rfl rfl (by kernel_rfl) hk.below (by kernel_rfl) ut4⟩
/-- the statement -/
theorem beamEnds_said : Rows.BeamEndsSaid :=
  OpenClaim.holds_of_wide 8 Try.f8 rfl rfl rfl rfl rfl rfl rfl ⟨rfl, rfl, rfl, rfl, rfl⟩ rfl rfl rfl rfl rfl (by kernel_rfl) Try.func8 (by kernel_rfl)
    (of_decide_eq_true (by kernel_rfl)) (by unfold Func.isWrapper; first | (rw [if_pos (by decide +kernel)]; kernel_rfl) | (rw [if_neg (by decide +kernel)]; exact ⟨rfl, rfl⟩))
    (fun os started H enc _ => beamEnds_lifted os started H enc)
#print axioms beamEnds_said
end
end Go.Proofs.Ytaehngpnlkokkaa
