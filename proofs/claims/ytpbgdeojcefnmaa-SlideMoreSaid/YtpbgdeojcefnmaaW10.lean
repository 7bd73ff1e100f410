/-
  Walks: kreisel/slide.Heads, kreisel/slide.Heads, kreisel/slide.Heads, kreisel/slide.Heads, kreisel/slide.Heads
-/
import Derived.Test.YtpbgdeojcefnmaaTab
import Derived.Test.YtpbgdeojcefnmaaShort
import Derived.Test.YtpbgdeojcefnmaaW7
import Derived.Test.YtpbgdeojcefnmaaW9
namespace Go.Proofs.Ytpbgdeojcefnmaa
open Go.RowKit
set_option linter.unusedVariables false

set_option maxRecDepth 100000 in
set_option maxHeartbeats 400000 in
theorem heads_bad (ts : List StretchV) (tsA : Option Addr) (tsC : Nat) (s : SledV) (hlen : ts.length ≤ 1000000) (hside : ∀ x ∈ ts, 0 ≤ x.Side ∧ x.Side ≤ 255) (htr : trackOk ts = false) :
    FnV Try.prog 18 [(Value.agg (TrackV.cells (TrackV.mk (Slc.mk tsA ts.length tsC))).toArray), (Value.agg (SledV.cells s).toArray)] [(rd tsA ts.length 9 (ts.map StretchV.cells))] (Value.tuple [(Value.slice none 0 0), (Value.int .i64 (bothE s ts))].toArray) := by
 have hb0 : ¬ bothE s ts = 0 := by rw [bothE_bad htr]; decide
 refine fnV_of go18 Try.func18 rfl rfl fun w0 Q hQ hN => ?_
 change WJ _ _ _ _ [(0, (Value.agg (TrackV.cells (TrackV.mk (Slc.mk tsA ts.length tsC))).toArray)), (1, (Value.agg (SledV.cells s).toArray))] [(rd tsA ts.length 9 (ts.map StretchV.cells)).ro]
 refine WS fun _ hK1 => ?_
 refine BXA rfl fun b2 => ?_
 refine BXA rfl fun b3 => ?_
 refine rS (AG rfl) ?_
 refine rS (AG rfl) ?_
 refine RK hK1 ?_
 refine WS fun _ hK4 => ?_
 refine rS (LW 1 rfl tk24 rfl rfl) ?_
 refine rS (LW 0 rfl tk28 rfl rfl) ?_
 refine rS (CL (open_bad ts tsA tsC s hlen hside htr) (ha_at 2 rfl rfl <| ha_nil) rfl) ?_
 refine rS (MV rfl) ?_
 refine rS (EX rfl) ?_
 refine rS (EX rfl) ?_
 refine rS (EX rfl) ?_
 refine AL rfl tz108 fun b5 => ?_
 refine AL rfl tz108 fun b6 => ?_
 refine SW1 rfl ts108 rfl ?_
 refine SW0 rfl ts108 rfl ?_
 refine rS (AG rfl) ?_
 refine RK hK4 ?_
 refine w_seq fun _ hK7 => ?_
 refine WS fun _ hK8 => ?_
 refine rS (MV rfl) ?_
 refine rS (BI rfl b_neq) ?_
 refine RK hK8 ?_
 refine w_if rfl (fun he => ?_) (fun he => ?_)
 rotate_left 1
 · replace he := XF he
   exact absurd he hb0
 replace he := XT he
 refine WS fun _ hK9 => ?_
 refine rS (MV rfl) ?_
 refine rS (AG rfl) ?_
 refine rS (AG rfl) ?_
 refine RK hK9 ?_
 refine w_ret ?_
 exact Q2 hQ rfl rfl rfl rfl rfl

set_option maxRecDepth 100000 in
set_option maxHeartbeats 400000 in
theorem heads_sled (ts : List StretchV) (tsA : Option Addr) (tsC : Nat) (s : SledV) (hlen : ts.length ≤ 1000000) (hside : ∀ x ∈ ts, 0 ≤ x.Side ∧ x.Side ≤ 255) (htr : trackOk ts = true) (hns : ¬ SledOk s) :
    FnV Try.prog 18 [(Value.agg (TrackV.cells (TrackV.mk (Slc.mk tsA ts.length tsC))).toArray), (Value.agg (SledV.cells s).toArray)] [(rd tsA ts.length 9 (ts.map StretchV.cells))] (Value.tuple [(Value.slice none 0 0), (Value.int .i64 (bothE s ts))].toArray) := by
 have hb0 : ¬ bothE s ts = 0 := by rw [bothE_sled htr hns]; decide
 refine fnV_of go18 Try.func18 rfl rfl fun w0 Q hQ hN => ?_
 change WJ _ _ _ _ [(0, (Value.agg (TrackV.cells (TrackV.mk (Slc.mk tsA ts.length tsC))).toArray)), (1, (Value.agg (SledV.cells s).toArray))] [(rd tsA ts.length 9 (ts.map StretchV.cells)).ro]
 refine WS fun _ hK1 => ?_
 refine BXA rfl fun b2 => ?_
 refine BXA rfl fun b3 => ?_
 refine rS (AG rfl) ?_
 refine rS (AG rfl) ?_
 refine RK hK1 ?_
 refine WS fun _ hK4 => ?_
 refine rS (LW 1 rfl tk24 rfl rfl) ?_
 refine rS (LW 0 rfl tk28 rfl rfl) ?_
 refine rS (CL (open_ok ts tsA tsC s hlen hside htr) (ha_at 2 rfl rfl <| ha_nil) rfl) ?_
 refine rS (MV rfl) ?_
 refine rS (EX rfl) ?_
 refine rS (EX rfl) ?_
 refine rS (EX rfl) ?_
 refine AL rfl tz108 fun b5 => ?_
 refine AL rfl tz108 fun b6 => ?_
 refine SW1 rfl ts108 rfl ?_
 refine SW0 rfl ts108 rfl ?_
 refine rS (AG rfl) ?_
 refine RK hK4 ?_
 refine w_seq fun _ hK7 => ?_
 refine WS fun _ hK8 => ?_
 refine rS (MV rfl) ?_
 refine rS (BI rfl b_neq) ?_
 refine RK hK8 ?_
 refine w_if rfl (fun he => ?_) (fun he => ?_)
 rotate_left 1
 · replace he := XF he
   exact absurd he hb0
 replace he := XT he
 refine WS fun _ hK9 => ?_
 refine rS (MV rfl) ?_
 refine rS (AG rfl) ?_
 refine rS (AG rfl) ?_
 refine RK hK9 ?_
 refine w_ret ?_
 exact Q2 hQ rfl rfl rfl rfl rfl

set_option maxRecDepth 100000 in
set_option maxHeartbeats 400000 in
theorem heads_ok (ts : List StretchV) (tsA : Option Addr) (tsC : Nat) (s : SledV) (hlen : ts.length ≤ 1000000) (hside : ∀ x ∈ ts, 0 ≤ x.Side ∧ x.Side ≤ 255) (htr : trackOk ts = true) (hs : SledOk s) :
    FnX Try.prog 18 [(Value.agg (TrackV.cells (TrackV.mk (Slc.mk tsA ts.length tsC))).toArray), (Value.agg (SledV.cells s).toArray)] [(rd tsA ts.length 9 (ts.map StretchV.cells))] (fun (x : (Option Addr) × Nat) => (Value.tuple [(Value.slice x.1 ((spansL s ts).length) x.2), (Value.int .i64 (bothE s ts))].toArray)) (fun (x : (Option Addr) × Nat) => True) (fun (x : (Option Addr) × Nat) => [(own x.1 x.2 26 2 ((spansL s ts).map SpanV.cells))]) := by
 have hb0 := bothE_ok htr hs
 have hst := trackOk_all htr
 have hl12 := trackOk_le htr
 have hl1 := trackOk_pos htr
 refine fnX_of go18 Try.func18 rfl rfl fun w0 Q hQ hN => ?_
 change WJ _ _ _ _ [(0, (Value.agg (TrackV.cells (TrackV.mk (Slc.mk tsA ts.length tsC))).toArray)), (1, (Value.agg (SledV.cells s).toArray))] [(rd tsA ts.length 9 (ts.map StretchV.cells)).ro]
 refine WS fun _ hK1 => ?_
 refine BXA rfl fun b2 => ?_
 refine BXA rfl fun b3 => ?_
 refine rS (AG rfl) ?_
 refine rS (AG rfl) ?_
 refine RK hK1 ?_
 refine WS fun _ hK4 => ?_
 refine rS (LW 1 rfl tk24 rfl rfl) ?_
 refine rS (LW 0 rfl tk28 rfl rfl) ?_
 refine rS (CL (open_ok ts tsA tsC s hlen hside htr) (ha_at 2 rfl rfl <| ha_nil) rfl) ?_
 refine rS (MV rfl) ?_
 refine rS (EX rfl) ?_
 refine rS (EX rfl) ?_
 refine rS (EX rfl) ?_
 refine AL rfl tz108 fun b5 => ?_
 refine AL rfl tz108 fun b6 => ?_
 refine SW1 rfl ts108 rfl ?_
 refine SW0 rfl ts108 rfl ?_
 refine rS (AG rfl) ?_
 refine RK hK4 ?_
 refine w_seq fun _ hK7 => ?_
 refine WS fun _ hK8 => ?_
 refine rS (MV rfl) ?_
 refine rS (BI rfl b_neq) ?_
 refine RK hK8 ?_
 refine w_if rfl (fun he => ?_) (fun he => ?_)
 · replace he := XT he
   exact absurd hb0 he
 replace he := XF he
 refine WK hK7 ?_
 refine WS fun _ hK9 => ?_
 refine AL rfl tz31 fun b10 => ?_
 refine RK hK9 ?_
 refine WS fun _ hK11 => ?_
 refine rS (LW 1 rfl tk108 rfl rfl) ?_
 refine cX (list_c s ts tsA tsC true hs (by first | assumption | omega | (simp; done) | (simp; omega)) (by first | assumption | omega | (simp; done) | (simp; omega))) (ha_at 5 rfl rfl <| ha_nil) rfl fun y12 hy13 => ?_
 obtain ⟨a14, c15⟩ := y12
 change RJ _ _ _ _ _ ((_, (Value.slice a14 ((headsL true s ts).length) c15)) :: _) ((own a14 c15 3 1 ((headsL true s ts).map iC)) :: _)
 refine AL rfl tz61 fun b16 => ?_
 refine SO0 rfl ts61 rfl rfl ?_
 refine RK hK11 ?_
 refine w_seq fun _ hK17 => ?_
 refine WS fun _ hK18 => ?_
 refine rS (LW 4 rfl tk108 rfl rfl) ?_
 refine cX (mkheads_c s false tsA ts.length tsC) (ha_nil) rfl fun b21 hy20 => ?_
 change RJ _ _ _ _ _ ((_, (Value.func (.func 93) [].toArray [(Value.pointer (some ⟨b21, 0, none⟩))].toArray)) :: _) ((blk b21 108 (RiderV.cells (RiderV.mk s (TrackV.mk (Slc.mk tsA ts.length tsC)) false))) :: _)
 refine RK hK18 ?_
 refine w_block ?_
 refine w_dup 8 rfl (by exact fun _ h => h) ?_
 refine w_own_nil 26 2 ?_
 refine w_range (L0 := [(9, (Value.pointer (some ⟨b10, 0, none⟩))), (10, (Value.pointer (some ⟨b16, 0, none⟩)))]) (F := [(rd tsA ts.length 9 (ts.map StretchV.cells)).ro, (blk b21 108 (RiderV.cells (RiderV.mk s (TrackV.mk (Slc.mk tsA ts.length tsC)) false)))]) (xs := (headV false s ts)) (fun k (y : (Option Addr) × Nat) => True) (fun k y => [(own y.1 y.2 26 2 (((spansL s ts).take k).map SpanV.cells)), (blk b16 61 [(Value.slice a14 ((headsL true s ts).length) c15)]), (own a14 c15 3 1 ((headsL true s ts).map iC)), (blk b10 31 [(Value.slice y.1 (((spansL s ts).take k).length) y.2)]), (rd tsA ts.length 9 (ts.map StretchV.cells)).ro]) (fun _ (_ : Unit) => False) (fun _ _ => []) [0, 3, 4, 5, 10] [1, 2] (none, 0) rfl rfl (iter_c s ts tsA tsC false b21 (by first | assumption | omega | (simp; done)) (by first | assumption | omega | (simp; done)) (by first | assumption | omega | (simp; done))) rfl rfl rfl (by trivial) (by simp only [List.forall_mem_cons, List.not_mem_nil, false_imp_iff, implies_true, and_true]; exact ⟨⟨_, by simp, (cov_ro (cov_refl _))⟩, ⟨_, by simp, (cov_refl _)⟩⟩) (by exact headV_lens) rfl (Sub.cons rfl <| Sub.cons rfl <| Sub.nil _) ?_ ?_ (fun _ _ _ h => h.elim) (fun _ _ h => h.elim)
 rotate_left 1
 · rintro r32 ⟨a, c⟩ hin33
   change KJ _ _ _ [(9, (Value.pointer (some ⟨b10, 0, none⟩))), (10, (Value.pointer (some ⟨b16, 0, none⟩)))] [(obj r32 (.deferred (some []))), (rd tsA ts.length 9 (ts.map StretchV.cells)).ro, (blk b21 108 (RiderV.cells (RiderV.mk s (TrackV.mk (Slc.mk tsA ts.length tsC)) false))), (own a c 26 2 (((spansL s ts).take ((headV false s ts).length)).map SpanV.cells)), (blk b16 61 [(Value.slice a14 ((headsL true s ts).length) c15)]), (own a14 c15 3 1 ((headsL true s ts).map iC)), (blk b10 31 [(Value.slice a (((spansL s ts).take ((headV false s ts).length)).length) c)]), (rd tsA ts.length 9 (ts.map StretchV.cells)).ro]
   rw [spans_take_end]
   refine k_block ?_
   refine KK hK17 ?_
   refine WS fun _ hK34 => ?_
   refine rS (L1W 6 rfl tk31 rfl) ?_
   refine rS (AG rfl) ?_
   refine rS (AG rfl) ?_
   refine RK hK34 ?_
   refine w_ret ?_
   refine hQ _ _ _ (l_mark 0 rfl rfl <| l_nil (vs := [(Value.slice a ((spansL s ts).length) c), (Value.int .i64 0)]) ⟨rfl, rfl, trivial⟩ fun w hs => endX (a, c) [3] ?_ ?_ rfl rfl rfl hs)
   · rw [hb0]; rfl
   · trivial
 rintro k x ⟨a, c⟩ l ra rb S w1 K22 Qr23 hx hin24 hK22 hQr23 _ _
 obtain ⟨hk, rfl⟩ := headV_out hx
 change WJ _ _ _ _ [(28, (Value.int .i64 (headAt false s ts k))), (27, (Value.int .i64 (k : Int))), (9, (Value.pointer (some ⟨b10, 0, none⟩))), (10, (Value.pointer (some ⟨b16, 0, none⟩)))] [(obj l (.loop ra)), (own a c 26 2 (((spansL s ts).take k).map SpanV.cells)), (blk b16 61 [(Value.slice a14 ((headsL true s ts).length) c15)]), (own a14 c15 3 1 ((headsL true s ts).map iC)), (blk b10 31 [(Value.slice a (((spansL s ts).take k).length) c)]), (rd tsA ts.length 9 (ts.map StretchV.cells)).ro]
 have hml := headsL_length (best := true) (s := s) (ts := ts)
 refine WS fun _ hK25 => ?_
 refine rS (AG rfl) ?_
 refine RK hK25 ?_
 refine w_region ?_
 refine rS (AG rfl) ?_
 refine r_nil ?_
 refine k_then (hK22 _ _ ?_)
 refine w_block ?_
 refine w_draw4 mixed [0, 1, 2, 3, 4, 5, 6] [7, 8, 9] [true, false, false, false, false, false, false] [true, false, false] [(obj l (.loop rb)), (blk b16 61 [(Value.slice a14 ((headsL true s ts).length) c15)]), (own a14 c15 3 1 ((headsL true s ts).map iC)), (rd tsA ts.length 9 (ts.map StretchV.cells)).ro] [(obj l (.loop rb)), (own a c 26 2 (((spansL s ts).take k).map SpanV.cells)), (blk b16 61 [(Value.slice a14 ((headsL true s ts).length) c15)]), (own a14 c15 3 1 ((headsL true s ts).map iC)), (blk b10 31 [(Value.slice a (((spansL s ts).take k).length) c)]), (rd tsA ts.length 9 (ts.map StretchV.cells)).ro] (by kernel_rfl) (fun w hs => St.sel [0, 2, 3, 5] rfl rfl hs) (fun w hs => St.sel [0, 1, 2, 3, 4, 5] rfl rfl hs) ?_
 refine fS rfl (L1W 4 rfl tk31 rfl) ?_
 refine eS rfl (MV rfl) ?_
 refine eS rfl (L1W 1 rfl tk61 rfl) ?_
 refine eS rfl (MV rfl) ?_
 obtain ⟨m, hm⟩ : ∃ y_, (headsL true s ts)[k]? = some y_ := ⟨(headsL true s ts)[k]'(by omega), List.getElem?_eq_getElem _⟩
 have hmm : ((headsL true s ts).map iC)[k]? = some (iC m) := by rw [List.getElem?_map, hm]; rfl
 refine eS rfl (IA k rfl (has_own_n (n := (headsL true s ts).length) 2 rfl (by simp)) te61 (by decide) (by omega) (by omega)) ?_
 have hmv : m = headAt true s ts k := by rw [headsL_get hk] at hm; exact (Option.some.inj hm).symm
 refine eS rfl (LE1 k 0 (Value.int .i64 m) rfl tk3 (has_own_n (n := (headsL true s ts).length) 2 rfl (by simp)) hmm rfl (by decide) rfl) ?_
 refine eS rfl (SX (sd_build (xs := [(0, .tmp 30), (1, .tmp 34)]) (cs := (SpanV.cells (SpanV.mk (headAt false s ts k) m))) rfl rfl (built_of tb26 rfl)) rfl rfl) ?_
 refine d_fin rfl ?_
 refine t5_cons rfl fun T26 hT26 => ?_
 refine r_bs (xs := [.tmp 35]) (cs := (SpanV.cells (SpanV.mk (headAt false s ts k) m))) rfl te31 tz26 rfl rfl rfl rfl (by simp [Value.cells, SpanV.cells_length]) rfl rfl fun b27 => ?_
 refine r_nil (hT26 _ _ (fun w hs => St.sel [1, 3, 4, 6] rfl rfl hs) (fun w hs => St.sel [1, 2, 3, 4, 5, 6] rfl rfl hs) ?_)
 refine t_cons rfl fun T28 hT28 => ?_
 refine r_append (es2 := (List.map SpanV.cells ((spansL s ts).take (k + 1)))) (m' := ((spansL s ts).take (k + 1)).length) 2 rfl rfl rfl ta31 rfl rfl (by simp) (has_rd_blk (es := List.map SpanV.cells [(SpanV.mk (headAt false s ts k) m)]) 0 rfl rfl (by simp [SpanV.cells_length]) rfl) (one_SpanV_cells _) (by simp [spansL_length]; omega) (by simp [spansL_length, maxLen]; omega) (by rw [spansL_take hk, hmv]; simp [spanAt]) (by simp) rfl fun a29 c30 => ?_
 change RJ _ _ _ _ _ _ [_, _, (own a29 c30 26 2 (List.map SpanV.cells ((spansL s ts).take (k + 1)))), _, _, _, _]
 refine r_nil (hT28 _ _ (fun w hs => St.sel [1, 3, 4, 6] rfl rfl hs) ?_)
 refine t_cons rfl fun T31 hT31 => ?_
 refine SO5 rfl ts31 rfl rfl ?_
 refine r_nil (hT31 _ _ (fun w hs => St.sel [1, 3, 4, 6] rfl rfl hs) ?_)
 refine t_fin rfl ?_
 refine k_block ?_
 exact hQr23 (a29, c30) _ _ (by trivial) (fun w hs => St.sel [1, 2, 3, 4, 5, 6] rfl rfl hs)

theorem heads_no (ts : List StretchV) (tsA : Option Addr) (tsC : Nat) (s : SledV) (hlen : ts.length ≤ 1000000) (hside : ∀ x ∈ ts, 0 ≤ x.Side ∧ x.Side ≤ 255) (hb : ¬ bothE s ts = 0) :
    FnV Try.prog 18 [(Value.agg (TrackV.cells (TrackV.mk (Slc.mk tsA ts.length tsC))).toArray), (Value.agg (SledV.cells s).toArray)] [(rd tsA ts.length 9 (ts.map StretchV.cells))] (Value.tuple [(Value.slice none 0 0), (Value.int .i64 (bothE s ts))].toArray) := by
  by_cases htr : trackOk ts = true
  · by_cases hs : SledOk s
    · exact absurd (bothE_ok htr hs) hb
    · exact heads_sled ts tsA tsC s hlen hside htr hs
  · exact heads_bad ts tsA tsC s hlen hside (by simpa using htr)

theorem heads_c (ts : List StretchV) (tsA : Option Addr) (tsC : Nat) (s : SledV) (hlen : ts.length ≤ 1000000) (hside : ∀ x ∈ ts, 0 ≤ x.Side ∧ x.Side ≤ 255) :
    FnX Try.prog 18 [(Value.agg (TrackV.cells (TrackV.mk (Slc.mk tsA ts.length tsC))).toArray), (Value.agg (SledV.cells s).toArray)] [(rd tsA ts.length 9 (ts.map StretchV.cells))] (fun (x : (Option Addr) × Nat) => (Value.tuple [(Value.slice x.1 ((spansU s ts).length) x.2), (Value.int .i64 (bothE s ts))].toArray)) (fun (x : (Option Addr) × Nat) => True) (fun (x : (Option Addr) × Nat) => [(own x.1 x.2 26 2 ((spansU s ts).map SpanV.cells))]) := by
  by_cases hb : bothE s ts = 0
  · obtain ⟨h1, h2⟩ := bothE_zero hb
    rw [spansU_ok h1 h2]
    exact heads_ok ts tsA tsC s hlen hside h1 h2
  · rw [spansU_no hb]
    exact FnV.toX (none, 0) (heads_no ts tsA tsC s hlen hside hb) trivial own_none

end Go.Proofs.Ytpbgdeojcefnmaa
