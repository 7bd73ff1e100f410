/-
  Walks: kreisel/slide.Heads, kreisel/slide.Heads, kreisel/slide.Heads, kreisel/slide.Heads, kreisel/slide.Heads, kreisel/kreiselref03.Heads, kreisel/kreiselref03.Heads, kreisel/kreiselref03.Heads, kreisel/slide.Speed, kreisel/kreiselref03.Speed, kreisel/kreiselref03.inside, kreisel/slide.Least, kreisel/slide.Least, kreisel/slide.Least, kreisel/slide.Least, kreisel/slide.Least, kreisel/kreiselref03.Least
-/
import Derived.Test.YtpbgdeojcefnmaaTab
import Derived.Test.YtpbgdeojcefnmaaShort
import Derived.Test.YtpbgdeojcefnmaaW4
import Derived.Test.YtpbgdeojcefnmaaW9
namespace Go.Proofs.Ytpbgdeojcefnmaa
open Go.RowKit
set_option linter.unusedVariables false

set_option maxRecDepth 100000 in
set_option maxHeartbeats 400000 in
theorem heads_bad (ts : List StretchV) (tsA : Option Addr) (tsC : Nat) (s : SledV) (hlen : ts.length ≤ 1000000) (hside : ∀ x ∈ ts, 0 ≤ x.Side ∧ x.Side ≤ 255) (htr : trackOk ts = false) :
    FnV Try.prog 18 [(Value.agg (TrackV.cells (TrackV.mk (Slc.mk tsA ts.length tsC))).toArray), (Value.agg (SledV.cells s).toArray)] [(rd tsA ts.length 9 (ts.map StretchV.cells))] (Value.tuple [(Value.slice none 0 0), (Value.int .i64 (bothE s ts))].toArray) := by
 have hb0 : ¬ bothE s ts = 0 := by rw [bothE_bad htr]; decide
 refine fnV_of go18 Try.func18 rfl rfl fun w0 Q hQ hN => ?_
 change WJ _ _ _ _ [(0, (Value.agg (TrackV.cells (TrackV.mk (Slc.mk tsA ts.length tsC))).toArray)), (1, (Value.agg (SledV.cells s).toArray))] [(rd tsA ts.length 9 (ts.map StretchV.cells)).ro]
 refine WS fun _ hK1 => ?_
 refine BXA rfl fun b2 => ?_
 refine BXA rfl fun b3 => ?_
 refine rS (AG rfl) ?_
 refine rS (AG rfl) ?_
 refine RK hK1 ?_
 refine WS fun _ hK4 => ?_
 refine rS (LW 1 rfl tk24 rfl rfl) ?_
 refine rS (LW 0 rfl tk28 rfl rfl) ?_
 refine rS (CL (open_bad ts tsA tsC s hlen hside htr) (ha_at 2 rfl rfl <| ha_nil) rfl) ?_
 refine rS (MV rfl) ?_
 refine rS (EX rfl) ?_
 refine rS (EX rfl) ?_
 refine rS (EX rfl) ?_
 refine AL rfl tz108 fun b5 => ?_
 refine AL rfl tz108 fun b6 => ?_
 refine SW1 rfl ts108 rfl ?_
 refine SW0 rfl ts108 rfl ?_
 refine rS (AG rfl) ?_
 refine RK hK4 ?_
 refine w_seq fun _ hK7 => ?_
 refine WS fun _ hK8 => ?_
 refine rS (MV rfl) ?_
 refine rS (BI rfl b_neq) ?_
 refine RK hK8 ?_
 refine w_if rfl (fun he => ?_) (fun he => ?_)
 rotate_left 1
 · replace he := XF he
   exact absurd he hb0
 replace he := XT he
 refine WS fun _ hK9 => ?_
 refine rS (MV rfl) ?_
 refine rS (AG rfl) ?_
 refine rS (AG rfl) ?_
 refine RK hK9 ?_
 refine w_ret ?_
 exact Q2 hQ rfl rfl rfl rfl rfl

set_option maxRecDepth 100000 in
set_option maxHeartbeats 400000 in
theorem heads_sled (ts : List StretchV) (tsA : Option Addr) (tsC : Nat) (s : SledV) (hlen : ts.length ≤ 1000000) (hside : ∀ x ∈ ts, 0 ≤ x.Side ∧ x.Side ≤ 255) (htr : trackOk ts = true) (hns : ¬ SledOk s) :
    FnV Try.prog 18 [(Value.agg (TrackV.cells (TrackV.mk (Slc.mk tsA ts.length tsC))).toArray), (Value.agg (SledV.cells s).toArray)] [(rd tsA ts.length 9 (ts.map StretchV.cells))] (Value.tuple [(Value.slice none 0 0), (Value.int .i64 (bothE s ts))].toArray) := by
 have hb0 : ¬ bothE s ts = 0 := by rw [bothE_sled htr hns]; decide
 refine fnV_of go18 Try.func18 rfl rfl fun w0 Q hQ hN => ?_
 change WJ _ _ _ _ [(0, (Value.agg (TrackV.cells (TrackV.mk (Slc.mk tsA ts.length tsC))).toArray)), (1, (Value.agg (SledV.cells s).toArray))] [(rd tsA ts.length 9 (ts.map StretchV.cells)).ro]
 refine WS fun _ hK1 => ?_
 refine BXA rfl fun b2 => ?_
 refine BXA rfl fun b3 => ?_
 refine rS (AG rfl) ?_
 refine rS (AG rfl) ?_
 refine RK hK1 ?_
 refine WS fun _ hK4 => ?_
 refine rS (LW 1 rfl tk24 rfl rfl) ?_
 refine rS (LW 0 rfl tk28 rfl rfl) ?_
 refine rS (CL (open_ok ts tsA tsC s hlen hside htr) (ha_at 2 rfl rfl <| ha_nil) rfl) ?_
 refine rS (MV rfl) ?_
 refine rS (EX rfl) ?_
 refine rS (EX rfl) ?_
 refine rS (EX rfl) ?_
 refine AL rfl tz108 fun b5 => ?_
 refine AL rfl tz108 fun b6 => ?_
 refine SW1 rfl ts108 rfl ?_
 refine SW0 rfl ts108 rfl ?_
 refine rS (AG rfl) ?_
 refine RK hK4 ?_
 refine w_seq fun _ hK7 => ?_
 refine WS fun _ hK8 => ?_
 refine rS (MV rfl) ?_
 refine rS (BI rfl b_neq) ?_
 refine RK hK8 ?_
 refine w_if rfl (fun he => ?_) (fun he => ?_)
 rotate_left 1
 · replace he := XF he
   exact absurd he hb0
 replace he := XT he
 refine WS fun _ hK9 => ?_
 refine rS (MV rfl) ?_
 refine rS (AG rfl) ?_
 refine rS (AG rfl) ?_
 refine RK hK9 ?_
 refine w_ret ?_
 exact Q2 hQ rfl rfl rfl rfl rfl

set_option maxRecDepth 100000 in
set_option maxHeartbeats 400000 in
theorem heads_ok (ts : List StretchV) (tsA : Option Addr) (tsC : Nat) (s : SledV) (hlen : ts.length ≤ 1000000) (hside : ∀ x ∈ ts, 0 ≤ x.Side ∧ x.Side ≤ 255) (htr : trackOk ts = true) (hs : SledOk s) :
    FnX Try.prog 18 [(Value.agg (TrackV.cells (TrackV.mk (Slc.mk tsA ts.length tsC))).toArray), (Value.agg (SledV.cells s).toArray)] [(rd tsA ts.length 9 (ts.map StretchV.cells))] (fun (x : (Option Addr) × Nat) => (Value.tuple [(Value.slice x.1 ((spansL s ts).length) x.2), (Value.int .i64 (bothE s ts))].toArray)) (fun (x : (Option Addr) × Nat) => True) (fun (x : (Option Addr) × Nat) => [(own x.1 x.2 26 2 ((spansL s ts).map SpanV.cells))]) := by
 have hb0 := bothE_ok htr hs
 have hst := trackOk_all htr
 have hl12 := trackOk_le htr
 have hl1 := trackOk_pos htr
 refine fnX_of go18 Try.func18 rfl rfl fun w0 Q hQ hN => ?_
 change WJ _ _ _ _ [(0, (Value.agg (TrackV.cells (TrackV.mk (Slc.mk tsA ts.length tsC))).toArray)), (1, (Value.agg (SledV.cells s).toArray))] [(rd tsA ts.length 9 (ts.map StretchV.cells)).ro]
 refine WS fun _ hK1 => ?_
 refine BXA rfl fun b2 => ?_
 refine BXA rfl fun b3 => ?_
 refine rS (AG rfl) ?_
 refine rS (AG rfl) ?_
 refine RK hK1 ?_
 refine WS fun _ hK4 => ?_
 refine rS (LW 1 rfl tk24 rfl rfl) ?_
 refine rS (LW 0 rfl tk28 rfl rfl) ?_
 refine rS (CL (open_ok ts tsA tsC s hlen hside htr) (ha_at 2 rfl rfl <| ha_nil) rfl) ?_
 refine rS (MV rfl) ?_
 refine rS (EX rfl) ?_
 refine rS (EX rfl) ?_
 refine rS (EX rfl) ?_
 refine AL rfl tz108 fun b5 => ?_
 refine AL rfl tz108 fun b6 => ?_
 refine SW1 rfl ts108 rfl ?_
 refine SW0 rfl ts108 rfl ?_
 refine rS (AG rfl) ?_
 refine RK hK4 ?_
 refine w_seq fun _ hK7 => ?_
 refine WS fun _ hK8 => ?_
 refine rS (MV rfl) ?_
 refine rS (BI rfl b_neq) ?_
 refine RK hK8 ?_
 refine w_if rfl (fun he => ?_) (fun he => ?_)
 · replace he := XT he
   exact absurd hb0 he
 replace he := XF he
 refine WK hK7 ?_
 refine WS fun _ hK9 => ?_
 refine AL rfl tz31 fun b10 => ?_
 refine RK hK9 ?_
 refine WS fun _ hK11 => ?_
 refine rS (LW 1 rfl tk108 rfl rfl) ?_
 refine cX (list_c s ts tsA tsC true hs (by first | assumption | omega | (simp; done) | (simp; omega)) (by first | assumption | omega | (simp; done) | (simp; omega))) (ha_at 5 rfl rfl <| ha_nil) rfl fun y12 hy13 => ?_
 obtain ⟨a14, c15⟩ := y12
 change RJ _ _ _ _ _ ((_, (Value.slice a14 ((headsL true s ts).length) c15)) :: _) ((own a14 c15 3 1 ((headsL true s ts).map iC)) :: _)
 refine AL rfl tz61 fun b16 => ?_
 refine SO0 rfl ts61 rfl rfl ?_
 refine RK hK11 ?_
 refine w_seq fun _ hK17 => ?_
 refine WS fun _ hK18 => ?_
 refine rS (LW 4 rfl tk108 rfl rfl) ?_
 refine cX (mkheads_c s false tsA ts.length tsC) (ha_nil) rfl fun b21 hy20 => ?_
 change RJ _ _ _ _ _ ((_, (Value.func (.func 93) [].toArray [(Value.pointer (some ⟨b21, 0, none⟩))].toArray)) :: _) ((blk b21 108 (RiderV.cells (RiderV.mk s (TrackV.mk (Slc.mk tsA ts.length tsC)) false))) :: _)
 refine RK hK18 ?_
 refine w_block ?_
 refine w_dup 8 rfl (by exact fun _ h => h) ?_
 refine w_own_nil 26 2 ?_
 refine w_range (L0 := [(9, (Value.pointer (some ⟨b10, 0, none⟩))), (10, (Value.pointer (some ⟨b16, 0, none⟩)))]) (F := [(rd tsA ts.length 9 (ts.map StretchV.cells)).ro, (blk b21 108 (RiderV.cells (RiderV.mk s (TrackV.mk (Slc.mk tsA ts.length tsC)) false)))]) (xs := (headV false s ts)) (fun k (y : (Option Addr) × Nat) => True) (fun k y => [(own y.1 y.2 26 2 (((spansL s ts).take k).map SpanV.cells)), (blk b16 61 [(Value.slice a14 ((headsL true s ts).length) c15)]), (own a14 c15 3 1 ((headsL true s ts).map iC)), (blk b10 31 [(Value.slice y.1 (((spansL s ts).take k).length) y.2)]), (rd tsA ts.length 9 (ts.map StretchV.cells)).ro]) (fun _ (_ : Unit) => False) (fun _ _ => []) [0, 3, 4, 5, 10] [1, 2] (none, 0) rfl rfl (iter_c s ts tsA tsC false b21 (by first | assumption | omega | (simp; done)) (by first | assumption | omega | (simp; done)) (by first | assumption | omega | (simp; done))) rfl rfl rfl (by trivial) (by simp only [List.forall_mem_cons, List.not_mem_nil, false_imp_iff, implies_true, and_true]; exact ⟨⟨_, by simp, (cov_ro (cov_refl _))⟩, ⟨_, by simp, (cov_refl _)⟩⟩) (by exact headV_lens) rfl (Sub.cons rfl <| Sub.cons rfl <| Sub.nil _) ?_ ?_ (fun _ _ _ h => h.elim) (fun _ _ h => h.elim)
 rotate_left 1
 · rintro r32 ⟨a, c⟩ hin33
   change KJ _ _ _ [(9, (Value.pointer (some ⟨b10, 0, none⟩))), (10, (Value.pointer (some ⟨b16, 0, none⟩)))] [(obj r32 (.deferred (some []))), (rd tsA ts.length 9 (ts.map StretchV.cells)).ro, (blk b21 108 (RiderV.cells (RiderV.mk s (TrackV.mk (Slc.mk tsA ts.length tsC)) false))), (own a c 26 2 (((spansL s ts).take ((headV false s ts).length)).map SpanV.cells)), (blk b16 61 [(Value.slice a14 ((headsL true s ts).length) c15)]), (own a14 c15 3 1 ((headsL true s ts).map iC)), (blk b10 31 [(Value.slice a (((spansL s ts).take ((headV false s ts).length)).length) c)]), (rd tsA ts.length 9 (ts.map StretchV.cells)).ro]
   rw [spans_take_end]
   refine k_block ?_
   refine KK hK17 ?_
   refine WS fun _ hK34 => ?_
   refine rS (L1W 6 rfl tk31 rfl) ?_
   refine rS (AG rfl) ?_
   refine rS (AG rfl) ?_
   refine RK hK34 ?_
   refine w_ret ?_
   refine hQ _ _ _ (l_mark 0 rfl rfl <| l_nil (vs := [(Value.slice a ((spansL s ts).length) c), (Value.int .i64 0)]) ⟨rfl, rfl, trivial⟩ fun w hs => endX (a, c) [3] ?_ ?_ rfl rfl rfl hs)
   · rw [hb0]; rfl
   · trivial
 rintro k x ⟨a, c⟩ l ra rb S w1 K22 Qr23 hx hin24 hK22 hQr23 xQr23 yQr23
 obtain ⟨hk, rfl⟩ := headV_out hx
 change WJ _ _ _ _ [(28, (Value.int .i64 (headAt false s ts k))), (27, (Value.int .i64 (k : Int))), (9, (Value.pointer (some ⟨b10, 0, none⟩))), (10, (Value.pointer (some ⟨b16, 0, none⟩)))] [(obj l (.loop ra)), (own a c 26 2 (((spansL s ts).take k).map SpanV.cells)), (blk b16 61 [(Value.slice a14 ((headsL true s ts).length) c15)]), (own a14 c15 3 1 ((headsL true s ts).map iC)), (blk b10 31 [(Value.slice a (((spansL s ts).take k).length) c)]), (rd tsA ts.length 9 (ts.map StretchV.cells)).ro]
 have hml := headsL_length (best := true) (s := s) (ts := ts)
 refine WS fun _ hK25 => ?_
 refine rS (AG rfl) ?_
 refine RK hK25 ?_
 refine w_region ?_
 refine rS (AG rfl) ?_
 refine r_nil ?_
 refine k_then (hK22 _ _ ?_)
 refine w_block ?_
 refine w_draw4 mixed [0, 1, 2, 3, 4, 5, 6] [7, 8, 9] [true, false, false, false, false, false, false] [true, false, false] [(obj l (.loop rb)), (blk b16 61 [(Value.slice a14 ((headsL true s ts).length) c15)]), (own a14 c15 3 1 ((headsL true s ts).map iC)), (rd tsA ts.length 9 (ts.map StretchV.cells)).ro] [(obj l (.loop rb)), (own a c 26 2 (((spansL s ts).take k).map SpanV.cells)), (blk b16 61 [(Value.slice a14 ((headsL true s ts).length) c15)]), (own a14 c15 3 1 ((headsL true s ts).map iC)), (blk b10 31 [(Value.slice a (((spansL s ts).take k).length) c)]), (rd tsA ts.length 9 (ts.map StretchV.cells)).ro] (by kernel_rfl) (fun w hs => St.sel [0, 2, 3, 5] rfl rfl hs) (fun w hs => St.sel [0, 1, 2, 3, 4, 5] rfl rfl hs) ?_
 refine fS rfl (L1W 4 rfl tk31 rfl) ?_
 refine eS rfl (MV rfl) ?_
 refine eS rfl (L1W 1 rfl tk61 rfl) ?_
 refine eS rfl (MV rfl) ?_
 obtain ⟨m, hm⟩ : ∃ y_, (headsL true s ts)[k]? = some y_ := ⟨(headsL true s ts)[k]'(by omega), List.getElem?_eq_getElem _⟩
 have hmm : ((headsL true s ts).map iC)[k]? = some (iC m) := by rw [List.getElem?_map, hm]; rfl
 refine eS rfl (IA k rfl (has_own_n (n := (headsL true s ts).length) 2 rfl (by simp)) te61 (by decide) (by omega) (by omega)) ?_
 have hmv : m = headAt true s ts k := by rw [headsL_get hk] at hm; exact (Option.some.inj hm).symm
 refine eS rfl (LE1 k 0 (Value.int .i64 m) rfl tk3 (has_own_n (n := (headsL true s ts).length) 2 rfl (by simp)) hmm rfl (by decide) rfl) ?_
 refine eS rfl (SX (sd_build (xs := [(0, .tmp 30), (1, .tmp 34)]) (cs := (SpanV.cells (SpanV.mk (headAt false s ts k) m))) rfl rfl (built_of tb26 rfl)) rfl rfl) ?_
 refine d_fin rfl ?_
 refine t5_cons rfl fun T26 hT26 => ?_
 refine r_bs (xs := [.tmp 35]) (cs := (SpanV.cells (SpanV.mk (headAt false s ts k) m))) rfl te31 tz26 rfl rfl rfl rfl (by simp [Value.cells, SpanV.cells_length]) rfl rfl fun b27 => ?_
 refine r_nil (hT26 _ _ (fun w hs => St.sel [1, 3, 4, 6] rfl rfl hs) (fun w hs => St.sel [1, 2, 3, 4, 5, 6] rfl rfl hs) ?_)
 refine t_cons rfl fun T28 hT28 => ?_
 refine r_append (es2 := (List.map SpanV.cells ((spansL s ts).take (k + 1)))) (m' := ((spansL s ts).take (k + 1)).length) 2 rfl rfl rfl ta31 rfl rfl (by simp) (has_rd_blk (es := List.map SpanV.cells [(SpanV.mk (headAt false s ts k) m)]) 0 rfl rfl (by simp [SpanV.cells_length]) rfl) (one_SpanV_cells _) (by simp [spansL_length]; omega) (by simp [spansL_length, maxLen]; omega) (by rw [spansL_take hk, hmv]; simp [spanAt]) (by simp) rfl fun a29 c30 => ?_
 change RJ _ _ _ _ _ _ [_, _, (own a29 c30 26 2 (List.map SpanV.cells ((spansL s ts).take (k + 1)))), _, _, _, _]
 refine r_nil (hT28 _ _ (fun w hs => St.sel [1, 3, 4, 6] rfl rfl hs) ?_)
 refine t_cons rfl fun T31 hT31 => ?_
 refine SO5 rfl ts31 rfl rfl ?_
 refine r_nil (hT31 _ _ (fun w hs => St.sel [1, 3, 4, 6] rfl rfl hs) ?_)
 refine t_fin rfl ?_
 refine k_block ?_
 exact hQr23 (a29, c30) _ _ (by trivial) (fun w hs => St.sel [1, 2, 3, 4, 5, 6] rfl rfl hs)

theorem heads_no (ts : List StretchV) (tsA : Option Addr) (tsC : Nat) (s : SledV) (hlen : ts.length ≤ 1000000) (hside : ∀ x ∈ ts, 0 ≤ x.Side ∧ x.Side ≤ 255) (hb : ¬ bothE s ts = 0) :
    FnV Try.prog 18 [(Value.agg (TrackV.cells (TrackV.mk (Slc.mk tsA ts.length tsC))).toArray), (Value.agg (SledV.cells s).toArray)] [(rd tsA ts.length 9 (ts.map StretchV.cells))] (Value.tuple [(Value.slice none 0 0), (Value.int .i64 (bothE s ts))].toArray) := by
  by_cases htr : trackOk ts = true
  · by_cases hs : SledOk s
    · exact absurd (bothE_ok htr hs) hb
    · exact heads_sled ts tsA tsC s hlen hside htr hs
  · exact heads_bad ts tsA tsC s hlen hside (by simpa using htr)

theorem heads_c (ts : List StretchV) (tsA : Option Addr) (tsC : Nat) (s : SledV) (hlen : ts.length ≤ 1000000) (hside : ∀ x ∈ ts, 0 ≤ x.Side ∧ x.Side ≤ 255) :
    FnX Try.prog 18 [(Value.agg (TrackV.cells (TrackV.mk (Slc.mk tsA ts.length tsC))).toArray), (Value.agg (SledV.cells s).toArray)] [(rd tsA ts.length 9 (ts.map StretchV.cells))] (fun (x : (Option Addr) × Nat) => (Value.tuple [(Value.slice x.1 ((spansU s ts).length) x.2), (Value.int .i64 (bothE s ts))].toArray)) (fun (x : (Option Addr) × Nat) => True) (fun (x : (Option Addr) × Nat) => [(own x.1 x.2 26 2 ((spansU s ts).map SpanV.cells))]) := by
  by_cases hb : bothE s ts = 0
  · obtain ⟨h1, h2⟩ := bothE_zero hb
    rw [spansU_ok h1 h2]
    exact heads_ok ts tsA tsC s hlen hside h1 h2
  · rw [spansU_no hb]
    exact FnV.toX (none, 0) (heads_no ts tsA tsC s hlen hside hb) trivial own_none

set_option maxRecDepth 100000 in
set_option maxHeartbeats 400000 in
theorem rHeads_no (ts : List StretchV) (tsA : Option Addr) (tsC : Nat) (s : SledV) (hlen : ts.length ≤ 1000000) (hside : ∀ x ∈ ts, 0 ≤ x.Side ∧ x.Side ≤ 255) (hc : 0 ≤ s.Class ∧ s.Class ≤ 255) (hb : ¬ bothE s ts = 0) :
    FnV Try.prog 19 [(Value.agg (TrackV.cells (TrackV.mk (Slc.mk tsA ts.length tsC))).toArray), (Value.agg (SledV.cells s).toArray)] [(rd tsA ts.length 9 (ts.map StretchV.cells))] (Value.tuple [(Value.slice none 0 0), (Value.int .i64 (bothE s ts))].toArray) := by
 refine fnV_of go19 Try.func19 rfl rfl fun w0 Q hQ hN => ?_
 change WJ _ _ _ _ [(0, (Value.agg (TrackV.cells (TrackV.mk (Slc.mk tsA ts.length tsC))).toArray)), (1, (Value.agg (SledV.cells s).toArray))] [(rd tsA ts.length 9 (ts.map StretchV.cells)).ro]
 refine WS fun _ hK1 => ?_
 refine BXA rfl fun b2 => ?_
 refine BXA rfl fun b3 => ?_
 refine rS (AG rfl) ?_
 refine rS (AG rfl) ?_
 refine RK hK1 ?_
 refine w_seq fun _ hK4 => ?_
 refine WS fun _ hK5 => ?_
 refine rS (LW 1 rfl tk24 rfl rfl) ?_
 refine rS (LW 0 rfl tk28 rfl rfl) ?_
 refine rS (CL (both_c ts tsA tsC s hlen hc) (ha_at 2 rfl rfl <| ha_nil) rfl) ?_
 refine rS (AG rfl) ?_
 refine RK hK5 ?_
 refine WS fun _ hK6 => ?_
 refine rS (MV rfl) ?_
 refine rS (BI rfl b_neq) ?_
 refine RK hK6 ?_
 refine w_if rfl (fun he => ?_) (fun he => ?_)
 rotate_left 1
 · replace he := XF he
   exact absurd he hb
 replace he := XT he
 refine WS fun _ hK7 => ?_
 refine rS (MV rfl) ?_
 refine rS (AG rfl) ?_
 refine rS (AG rfl) ?_
 refine RK hK7 ?_
 refine w_ret ?_
 exact Q2 hQ rfl rfl rfl rfl rfl

set_option maxRecDepth 100000 in
set_option maxHeartbeats 400000 in
theorem rHeads_ok (ts : List StretchV) (tsA : Option Addr) (tsC : Nat) (s : SledV) (hlen : ts.length ≤ 1000000) (hside : ∀ x ∈ ts, 0 ≤ x.Side ∧ x.Side ≤ 255) (hc : 0 ≤ s.Class ∧ s.Class ≤ 255) (htr : trackOk ts = true) (hs : SledOk s) :
    FnX Try.prog 19 [(Value.agg (TrackV.cells (TrackV.mk (Slc.mk tsA ts.length tsC))).toArray), (Value.agg (SledV.cells s).toArray)] [(rd tsA ts.length 9 (ts.map StretchV.cells))] (fun (x : (Option Addr) × Nat) => (Value.tuple [(Value.slice x.1 ((spansL s ts).length) x.2), (Value.int .i64 (bothE s ts))].toArray)) (fun (x : (Option Addr) × Nat) => True) (fun (x : (Option Addr) × Nat) => [(own x.1 x.2 26 2 ((spansL s ts).map SpanV.cells))]) := by
 have hb0 := bothE_ok htr hs
 have hst := trackOk_all htr
 have hl12 := trackOk_le htr
 refine fnX_of go19 Try.func19 rfl rfl fun w0 Q hQ hN => ?_
 change WJ _ _ _ _ [(0, (Value.agg (TrackV.cells (TrackV.mk (Slc.mk tsA ts.length tsC))).toArray)), (1, (Value.agg (SledV.cells s).toArray))] [(rd tsA ts.length 9 (ts.map StretchV.cells)).ro]
 refine WS fun _ hK1 => ?_
 refine BXA rfl fun b2 => ?_
 refine BXA rfl fun b3 => ?_
 refine rS (AG rfl) ?_
 refine rS (AG rfl) ?_
 refine RK hK1 ?_
 refine w_seq fun _ hK4 => ?_
 refine WS fun _ hK5 => ?_
 refine rS (LW 1 rfl tk24 rfl rfl) ?_
 refine rS (LW 0 rfl tk28 rfl rfl) ?_
 refine rS (CL (both_c ts tsA tsC s hlen hc) (ha_at 2 rfl rfl <| ha_nil) rfl) ?_
 refine rS (AG rfl) ?_
 refine RK hK5 ?_
 refine WS fun _ hK6 => ?_
 refine rS (MV rfl) ?_
 refine rS (BI rfl b_neq) ?_
 refine RK hK6 ?_
 refine w_if rfl (fun he => ?_) (fun he => ?_)
 · replace he := XT he
   exact absurd hb0 he
 replace he := XF he
 refine WK hK4 ?_
 refine WS fun _ hK7 => ?_
 refine rS (LW 1 rfl tk24 rfl rfl) ?_
 refine rS (LW 0 rfl tk28 rfl rfl) ?_
 refine cX (rheads_c ts tsA tsC s hs (by first | assumption | omega | (simp; done) | (simp; omega)) (by first | assumption | omega | (simp; done) | (simp; omega))) (ha_at 2 rfl rfl <| ha_nil) rfl fun y8 hy9 => ?_
 obtain ⟨a10, c11⟩ := y8
 change RJ _ _ _ _ _ ((_, (Value.slice a10 ((spansL s ts).length) c11)) :: _) ((own a10 c11 26 2 ((spansL s ts).map SpanV.cells)) :: _)
 refine rS (AG rfl) ?_
 refine rS (AG rfl) ?_
 refine RK hK7 ?_
 refine w_ret ?_
 refine hQ _ _ _ (l_nil (vs := [(Value.slice a10 ((spansL s ts).length) c11), (Value.int .i64 0)]) ⟨rfl, rfl, trivial⟩ fun w hs => endX (a10, c11) [0] ?_ ?_ rfl rfl rfl hs)
 · rw [hb0]; rfl
 · trivial

theorem rHeads_c (ts : List StretchV) (tsA : Option Addr) (tsC : Nat) (s : SledV) (hlen : ts.length ≤ 1000000) (hside : ∀ x ∈ ts, 0 ≤ x.Side ∧ x.Side ≤ 255) (hc : 0 ≤ s.Class ∧ s.Class ≤ 255) :
    FnX Try.prog 19 [(Value.agg (TrackV.cells (TrackV.mk (Slc.mk tsA ts.length tsC))).toArray), (Value.agg (SledV.cells s).toArray)] [(rd tsA ts.length 9 (ts.map StretchV.cells))] (fun (x : (Option Addr) × Nat) => (Value.tuple [(Value.slice x.1 ((spansU s ts).length) x.2), (Value.int .i64 (bothE s ts))].toArray)) (fun (x : (Option Addr) × Nat) => True) (fun (x : (Option Addr) × Nat) => [(own x.1 x.2 26 2 ((spansU s ts).map SpanV.cells))]) := by
  by_cases hb : bothE s ts = 0
  · obtain ⟨h1, h2⟩ := bothE_zero hb
    rw [spansU_ok h1 h2]
    exact rHeads_ok ts tsA tsC s hlen hside hc h1 h2
  · rw [spansU_no hb]
    exact FnV.toX (none, 0) (rHeads_no ts tsA tsC s hlen hside hc hb) trivial own_none

set_option maxRecDepth 100000 in
set_option maxHeartbeats 400000 in
theorem speed_c (ts : List StretchV) (tsA : Option Addr) (tsC : Nat) (s : SledV) (i : Int) (hlen : ts.length ≤ 1000000) (hside : ∀ x ∈ ts, 0 ≤ x.Side ∧ x.Side ≤ 255) :
    FnV Try.prog 20 [(Value.agg (TrackV.cells (TrackV.mk (Slc.mk tsA ts.length tsC))).toArray), (Value.agg (SledV.cells s).toArray), (Value.int .i64 i)] [(rd tsA ts.length 9 (ts.map StretchV.cells))] (Value.tuple [(Value.agg (SpanV.cells (speedV s ts i)).toArray), (Value.int .i64 (speedE s ts i))].toArray) := by
 refine fnV_of go20 Try.func20 rfl rfl fun w0 Q hQ hN => ?_
 change WJ _ _ _ _ [(0, (Value.agg (TrackV.cells (TrackV.mk (Slc.mk tsA ts.length tsC))).toArray)), (1, (Value.agg (SledV.cells s).toArray)), (2, (Value.int .i64 i))] [(rd tsA ts.length 9 (ts.map StretchV.cells)).ro]
 refine WS fun _ hK1 => ?_
 refine BXA rfl fun b2 => ?_
 refine BXA rfl fun b3 => ?_
 refine AL rfl tz26 fun b4 => ?_
 refine rS (AG rfl) ?_
 refine RK hK1 ?_
 refine WS fun _ hK5 => ?_
 refine rS (LW 2 rfl tk24 rfl rfl) ?_
 refine rS (LW 1 rfl tk28 rfl rfl) ?_
 refine cX (heads_c ts tsA tsC s hlen hside) (ha_at 3 rfl rfl <| ha_nil) rfl fun y6 hy7 => ?_
 obtain ⟨a8, c9⟩ := y6
 change RJ _ _ _ _ _ ((_, (Value.tuple [(Value.slice a8 ((spansU s ts).length) c9), (Value.int .i64 (bothE s ts))].toArray)) :: _) ((own a8 c9 26 2 ((spansU s ts).map SpanV.cells)) :: _)
 refine rS (MV rfl) ?_
 refine rS (EX rfl) ?_
 refine rS (EX rfl) ?_
 refine rS (AG rfl) ?_
 refine rS (AG rfl) ?_
 refine RK hK5 ?_
 refine w_seq fun _ hK10 => ?_
 refine WS fun _ hK11 => ?_
 refine rS (MV rfl) ?_
 refine rS (BI rfl b_neq) ?_
 refine RK hK11 ?_
 refine w_if rfl (fun he => ?_) (fun he => ?_)
 · replace he := XT he
   refine WS fun _ hK12 => ?_
   refine rS (SX (sd_build (xs := []) (cs := (SpanV.cells (SpanV.mk 0 0))) rfl rfl (built_of tb26 rfl)) rfl rfl) ?_
   refine rS (MV rfl) ?_
   refine SW1 rfl ts26 rfl ?_
   refine rS (AG rfl) ?_
   refine RK hK12 ?_
   refine w_ret ?_
   refine hQ _ _ _ (l_nil (vs := [(Value.agg (SpanV.cells (SpanV.mk 0 0)).toArray), (Value.int .i64 (bothE s ts))]) ⟨⟨_, rfl, .inl ⟨_, _, tk26, at_blk (vs := (SpanV.cells (SpanV.mk 0 0))) 1 rfl rfl, rfl, rfl⟩⟩, rfl, trivial⟩ fun w hs => endV ?_ hs)
   show (Value.tuple [(Value.agg (SpanV.cells (SpanV.mk 0 0)).toArray), (Value.int .i64 (bothE s ts))].toArray) = (Value.tuple [(Value.agg (SpanV.cells (speedV s ts i)).toArray), (Value.int .i64 (speedE s ts i))].toArray)
   clear hs w hQ hN hK12 hK11 hK10 hK5 hK1
   first | (rw [(speed_no (i := i) he).1, (speed_no (i := i) he).2] <;> rfl) | (rw [(speed_out (i := i) he (by omega)).1, (speed_out (i := i) he (by omega)).2] <;> rfl) | (rw [(speed_in (i := i) he (by omega)).1, (speed_in (i := i) he (by omega)).2, hyv] <;> rfl)
 replace he := XF he
 refine WK hK10 ?_
 refine w_seq fun _ hK13 => ?_
 refine WS fun _ hK14 => ?_
 obtain ⟨htr, hs⟩ := bothE_zero he
 have hst := trackOk_all htr
 have hl12 := trackOk_le htr
 have hsl := spansL_length (s := s) (ts := ts)
 rw [spansU_ok htr hs]
 refine rS (MV rfl) ?_
 refine rS (BI rfl b_lss) ?_
 refine rS (MV rfl) ?_
 refine r_bool (t := 22) rfl (fun h15 => ?_) (fun h15 => ?_)
 · replace h15 := DT h15
   refine rS (OX rfl) ?_
   refine rS (OX rfl) ?_
   refine rS (OX rfl) ?_
   refine rS (OX rfl) ?_
   refine rS (PK rfl) ?_
   refine RK hK14 ?_
   refine w_if_true rfl ?_
   refine WS fun _ hK16 => ?_
   refine rS (SX (sd_build (xs := []) (cs := (SpanV.cells (SpanV.mk 0 0))) rfl rfl (built_of tb26 rfl)) rfl rfl) ?_
   refine SW1 rfl ts26 rfl ?_
   refine rS (AG rfl) ?_
   refine RK hK16 ?_
   refine w_ret ?_
   refine hQ _ _ _ (l_nil (vs := [(Value.agg (SpanV.cells (SpanV.mk 0 0)).toArray), (Value.int .i64 2)]) ⟨⟨_, rfl, .inl ⟨_, _, tk26, at_blk (vs := (SpanV.cells (SpanV.mk 0 0))) 1 rfl rfl, rfl, rfl⟩⟩, rfl, trivial⟩ fun w hs => endV ?_ hs)
   show (Value.tuple [(Value.agg (SpanV.cells (SpanV.mk 0 0)).toArray), (Value.int .i64 2)].toArray) = (Value.tuple [(Value.agg (SpanV.cells (speedV s ts i)).toArray), (Value.int .i64 (speedE s ts i))].toArray)
   clear hs w hQ hN hK16 hK14 hK13 hK11 hK10 hK5 hK1
   first | (rw [(speed_no (i := i) he).1, (speed_no (i := i) he).2] <;> rfl) | (rw [(speed_out (i := i) he (by omega)).1, (speed_out (i := i) he (by omega)).2] <;> rfl) | (rw [(speed_in (i := i) he (by omega)).1, (speed_in (i := i) he (by omega)).2, hyv] <;> rfl)
 replace h15 := DF h15
 refine rS (MV rfl) ?_
 refine rS (MV rfl) ?_
 refine rS (LN rfl ut31) ?_
 refine rS (BI rfl b_geq) ?_
 refine rS (PK rfl) ?_
 refine RK hK14 ?_
 refine w_if rfl (fun h17 => ?_) (fun h17 => ?_)
 · replace h17 := DT h17
   refine WS fun _ hK18 => ?_
   refine rS (SX (sd_build (xs := []) (cs := (SpanV.cells (SpanV.mk 0 0))) rfl rfl (built_of tb26 rfl)) rfl rfl) ?_
   refine SW1 rfl ts26 rfl ?_
   refine rS (AG rfl) ?_
   refine RK hK18 ?_
   refine w_ret ?_
   refine hQ _ _ _ (l_nil (vs := [(Value.agg (SpanV.cells (SpanV.mk 0 0)).toArray), (Value.int .i64 2)]) ⟨⟨_, rfl, .inl ⟨_, _, tk26, at_blk (vs := (SpanV.cells (SpanV.mk 0 0))) 1 rfl rfl, rfl, rfl⟩⟩, rfl, trivial⟩ fun w hs => endV ?_ hs)
   show (Value.tuple [(Value.agg (SpanV.cells (SpanV.mk 0 0)).toArray), (Value.int .i64 2)].toArray) = (Value.tuple [(Value.agg (SpanV.cells (speedV s ts i)).toArray), (Value.int .i64 (speedE s ts i))].toArray)
   clear hs w hQ hN hK18 hK14 hK13 hK11 hK10 hK5 hK1
   first | (rw [(speed_no (i := i) he).1, (speed_no (i := i) he).2] <;> rfl) | (rw [(speed_out (i := i) he (by omega)).1, (speed_out (i := i) he (by omega)).2] <;> rfl) | (rw [(speed_in (i := i) he (by omega)).1, (speed_in (i := i) he (by omega)).2, hyv] <;> rfl)
 replace h17 := DF h17
 refine WK hK13 ?_
 refine w_seq fun _ hK19 => ?_
 refine w_draw mixed 13 (by kernel_rfl) ?_
 refine dS (MV rfl) ?_
 refine dS (MV rfl) ?_
 obtain ⟨y, hy⟩ : ∃ y_, (spansL s ts)[(i).toNat]? = some y_ := ⟨(spansL s ts)[(i).toNat]'(by omega), List.getElem?_eq_getElem _⟩
 have hym : ((spansL s ts).map SpanV.cells)[(i).toNat]? = some (SpanV.cells y) := by rw [List.getElem?_map, hy]; rfl
 refine dS (IA ((i).toNat) rfl (has_own_n (n := (spansL s ts).length) 0 rfl (by simp)) te31 (by decide) (by omega) (by omega)) ?_
 refine dS (FAR (((i).toNat) * 2) rfl (has_own_n (n := (spansL s ts).length) 0 rfl (by simp)) (Nat.mul_pos (by omega) (by decide)) fo26_0 rfl) ?_
 have hb0 := headAt_b (best := false) hs hst i.toNat
 have hb1 := headAt_b (best := true) hs hst i.toNat
 have hyv : y = spanAt s ts i.toNat := by rw [spansL_get (by omega)] at hy; exact (Option.some.inj hy).symm
 have hylo : 0 ≤ y.Lo ∧ y.Lo ≤ 400000 := by rw [hyv]; simp only [spanAt]; omega
 have hyhi : 0 ≤ y.Hi ∧ y.Hi ≤ 400000 := by rw [hyv]; simp only [spanAt]; omega
 refine dS (LE1 ((i).toNat) 0 (Value.int .i64 y.Lo) rfl tk3 (has_own_n (n := (spansL s ts).length) 0 rfl (by simp)) hym rfl (by decide) rfl) ?_
 refine dS (CL (slow_c y.Lo (by first | assumption | omega | (simp; done) | (simp; omega))) (ha_nil) rfl) ?_
 refine dS (MV rfl) ?_
 refine dS (MV rfl) ?_
 refine dS (IA ((i).toNat) rfl (has_own_n (n := (spansL s ts).length) 0 rfl (by simp)) te31 (by decide) (by omega) (by omega)) ?_
 refine dS (FAR ((((i).toNat) * 2) + 1) rfl (has_own_n (n := (spansL s ts).length) 0 rfl (by simp)) (Nat.mul_pos (by omega) (by decide)) fo26_1 rfl) ?_
 refine dS (LE1 ((i).toNat) 1 (Value.int .i64 y.Hi) rfl tk3 (has_own_n (n := (spansL s ts).length) 0 rfl (by simp)) hym rfl (by decide) rfl) ?_
 refine dS (CL (fast_c y.Hi (by first | assumption | omega | (simp; done) | (simp; omega))) (ha_nil) rfl) ?_
 refine dS (SX (sd_build (xs := [(0, .tmp 34), (1, .tmp 40)]) (cs := (SpanV.cells (SpanV.mk (slowF y.Lo) (fastF y.Hi)))) rfl rfl (built_of tb26 rfl)) rfl rfl) ?_
 refine d_end ?_
 refine SW1 rfl ts26 rfl ?_
 refine rS (AG rfl) ?_
 refine RK hK19 ?_
 refine w_ret ?_
 refine hQ _ _ _ (l_nil (vs := [(Value.agg (SpanV.cells (SpanV.mk (slowF y.Lo) (fastF y.Hi))).toArray), (Value.int .i64 0)]) ⟨⟨_, rfl, .inl ⟨_, _, tk26, at_blk (vs := (SpanV.cells (SpanV.mk (slowF y.Lo) (fastF y.Hi)))) 1 rfl rfl, rfl, rfl⟩⟩, rfl, trivial⟩ fun w hs => endV ?_ hs)
 show (Value.tuple [(Value.agg (SpanV.cells (SpanV.mk (slowF y.Lo) (fastF y.Hi))).toArray), (Value.int .i64 0)].toArray) = (Value.tuple [(Value.agg (SpanV.cells (speedV s ts i)).toArray), (Value.int .i64 (speedE s ts i))].toArray)
 clear hs w hQ hN hK19 hK14 hK13 hK11 hK10 hK5 hK1
 first | (rw [(speed_no (i := i) he).1, (speed_no (i := i) he).2] <;> rfl) | (rw [(speed_out (i := i) he (by omega)).1, (speed_out (i := i) he (by omega)).2] <;> rfl) | (rw [(speed_in (i := i) he (by omega)).1, (speed_in (i := i) he (by omega)).2, hyv] <;> rfl)

set_option maxRecDepth 100000 in
set_option maxHeartbeats 400000 in
theorem rSpeed_c (ts : List StretchV) (tsA : Option Addr) (tsC : Nat) (s : SledV) (i : Int) (hlen : ts.length ≤ 1000000) (hside : ∀ x ∈ ts, 0 ≤ x.Side ∧ x.Side ≤ 255) (hc : 0 ≤ s.Class ∧ s.Class ≤ 255) :
    FnV Try.prog 21 [(Value.agg (TrackV.cells (TrackV.mk (Slc.mk tsA ts.length tsC))).toArray), (Value.agg (SledV.cells s).toArray), (Value.int .i64 i)] [(rd tsA ts.length 9 (ts.map StretchV.cells))] (Value.tuple [(Value.agg (SpanV.cells (speedV s ts i)).toArray), (Value.int .i64 (speedE s ts i))].toArray) := by
 refine fnV_of go21 Try.func21 rfl rfl fun w0 Q hQ hN => ?_
 change WJ _ _ _ _ [(0, (Value.agg (TrackV.cells (TrackV.mk (Slc.mk tsA ts.length tsC))).toArray)), (1, (Value.agg (SledV.cells s).toArray)), (2, (Value.int .i64 i))] [(rd tsA ts.length 9 (ts.map StretchV.cells)).ro]
 refine WS fun _ hK1 => ?_
 refine BXA rfl fun b2 => ?_
 refine BXA rfl fun b3 => ?_
 refine AL rfl tz26 fun b4 => ?_
 refine rS (AG rfl) ?_
 refine RK hK1 ?_
 refine w_seq fun _ hK5 => ?_
 refine WS fun _ hK6 => ?_
 refine rS (LW 2 rfl tk24 rfl rfl) ?_
 refine rS (LW 1 rfl tk28 rfl rfl) ?_
 refine rS (CL (both_c ts tsA tsC s hlen hc) (ha_at 3 rfl rfl <| ha_nil) rfl) ?_
 refine rS (AG rfl) ?_
 refine RK hK6 ?_
 refine WS fun _ hK7 => ?_
 refine rS (MV rfl) ?_
 refine rS (BI rfl b_neq) ?_
 refine RK hK7 ?_
 refine w_if rfl (fun he => ?_) (fun he => ?_)
 · replace he := XT he
   refine WS fun _ hK8 => ?_
   refine rS (SX (sd_build (xs := []) (cs := (SpanV.cells (SpanV.mk 0 0))) rfl rfl (built_of tb26 rfl)) rfl rfl) ?_
   refine rS (MV rfl) ?_
   refine SW0 rfl ts26 rfl ?_
   refine rS (AG rfl) ?_
   refine RK hK8 ?_
   refine w_ret ?_
   refine hQ _ _ _ (l_nil (vs := [(Value.agg (SpanV.cells (SpanV.mk 0 0)).toArray), (Value.int .i64 (bothE s ts))]) ⟨⟨_, rfl, .inl ⟨_, _, tk26, at_blk (vs := (SpanV.cells (SpanV.mk 0 0))) 0 rfl rfl, rfl, rfl⟩⟩, rfl, trivial⟩ fun w hs => endV ?_ hs)
   show (Value.tuple [(Value.agg (SpanV.cells (SpanV.mk 0 0)).toArray), (Value.int .i64 (bothE s ts))].toArray) = (Value.tuple [(Value.agg (SpanV.cells (speedV s ts i)).toArray), (Value.int .i64 (speedE s ts i))].toArray)
   clear hs w hQ hN hK8 hK7 hK6 hK5 hK1
   first | (rw [(speed_no (i := i) he).1, (speed_no (i := i) he).2] <;> rfl) | (rw [(speed_out (i := i) he (by omega)).1, (speed_out (i := i) he (by omega)).2] <;> rfl) | (rw [(speed_in (i := i) he (by omega)).1, (speed_in (i := i) he (by omega)).2, hyv] <;> rfl)
 replace he := XF he
 refine WK hK5 ?_
 refine w_seq fun _ hK9 => ?_
 refine WS fun _ hK10 => ?_
 obtain ⟨htr, hs⟩ := bothE_zero he
 have hst := trackOk_all htr
 have hl12 := trackOk_le htr
 have hsl := spansL_length (s := s) (ts := ts)
 refine rS (MV rfl) ?_
 refine rS (FA 0 rfl fo24_0 rfl) ?_
 refine rS (L1 (Value.slice tsA ts.length tsC) 2 rfl tk22 rfl rfl) ?_
 refine rS (LN rfl ut22) ?_
 refine rS (CL (within3_c i 0 ((ts.length : Nat) : Int)) (ha_nil) rfl) ?_
 refine rS (NT rfl) ?_
 refine RK hK10 ?_
 refine w_if rfl (fun h11 => ?_) (fun h11 => ?_)
 · replace h11 := XT h11
   refine WS fun _ hK12 => ?_
   refine rS (SX (sd_build (xs := []) (cs := (SpanV.cells (SpanV.mk 0 0))) rfl rfl (built_of tb26 rfl)) rfl rfl) ?_
   refine SW0 rfl ts26 rfl ?_
   refine rS (AG rfl) ?_
   refine RK hK12 ?_
   refine w_ret ?_
   refine hQ _ _ _ (l_nil (vs := [(Value.agg (SpanV.cells (SpanV.mk 0 0)).toArray), (Value.int .i64 2)]) ⟨⟨_, rfl, .inl ⟨_, _, tk26, at_blk (vs := (SpanV.cells (SpanV.mk 0 0))) 0 rfl rfl, rfl, rfl⟩⟩, rfl, trivial⟩ fun w hs => endV ?_ hs)
   show (Value.tuple [(Value.agg (SpanV.cells (SpanV.mk 0 0)).toArray), (Value.int .i64 2)].toArray) = (Value.tuple [(Value.agg (SpanV.cells (speedV s ts i)).toArray), (Value.int .i64 (speedE s ts i))].toArray)
   clear hs w hQ hN hK12 hK10 hK9 hK7 hK6 hK5 hK1
   first | (rw [(speed_no (i := i) he).1, (speed_no (i := i) he).2] <;> rfl) | (rw [(speed_out (i := i) he (by omega)).1, (speed_out (i := i) he (by omega)).2] <;> rfl) | (rw [(speed_in (i := i) he (by omega)).1, (speed_in (i := i) he (by omega)).2, hyv] <;> rfl)
 replace h11 := XF h11
 refine WK hK9 ?_
 refine WS fun _ hK13 => ?_
 refine rS (LW 2 rfl tk24 rfl rfl) ?_
 refine rS (LW 1 rfl tk28 rfl rfl) ?_
 refine cX (rheads_c ts tsA tsC s (by first | assumption | omega | (simp; done) | (simp; omega)) (by first | assumption | omega | (simp; done) | (simp; omega)) (by first | assumption | omega | (simp; done) | (simp; omega))) (ha_at 3 rfl rfl <| ha_nil) rfl fun y14 hy15 => ?_
 obtain ⟨a16, c17⟩ := y14
 change RJ _ _ _ _ _ ((_, (Value.slice a16 ((spansL s ts).length) c17)) :: _) ((own a16 c17 26 2 ((spansL s ts).map SpanV.cells)) :: _)
 refine rS (MV rfl) ?_
 obtain ⟨y, hy⟩ : ∃ y_, (spansL s ts)[(i).toNat]? = some y_ := ⟨(spansL s ts)[(i).toNat]'(by omega), List.getElem?_eq_getElem _⟩
 have hym : ((spansL s ts).map SpanV.cells)[(i).toNat]? = some (SpanV.cells y) := by rw [List.getElem?_map, hy]; rfl
 refine rS (IA ((i).toNat) rfl (has_own_n (n := (spansL s ts).length) 0 rfl (by simp)) te31 (by decide) (by omega) (by omega)) ?_
 have hb0 := headAt_b (best := false) hs hst i.toNat
 have hb1 := headAt_b (best := true) hs hst i.toNat
 have hyv : y = spanAt s ts i.toNat := by rw [spansL_get (by omega)] at hy; exact (Option.some.inj hy).symm
 have hylo : 0 ≤ y.Lo ∧ y.Lo ≤ 400000 := by rw [hyv]; simp only [spanAt]; omega
 have hyhi : 0 ≤ y.Hi ∧ y.Hi ≤ 400000 := by rw [hyv]; simp only [spanAt]; omega
 refine rS (LEN ((i).toNat) 0 (SpanV.cells y) rfl tk26 (has_own_n (n := (spansL s ts).length) 0 rfl (by simp)) hym rfl (by decide) rfl rfl) ?_
 refine AL rfl tz26 fun b18 => ?_
 refine SW0 rfl ts26 rfl ?_
 refine RK hK13 ?_
 refine w_seq fun _ hK19 => ?_
 refine w_draw mixed 7 (by kernel_rfl) ?_
 refine dS (FA 0 rfl fo26_0 rfl) ?_
 refine dS (L1 (Value.int .i64 y.Lo) 0 rfl tk3 rfl rfl) ?_
 refine dS (CL (slow3_c y.Lo (by first | assumption | omega | (simp; done) | (simp; omega))) (ha_nil) rfl) ?_
 refine dS (FA 1 rfl fo26_1 rfl) ?_
 refine dS (L1 (Value.int .i64 y.Hi) 0 rfl tk3 rfl rfl) ?_
 refine dS (CL (fast3_c y.Hi (by first | assumption | omega | (simp; done) | (simp; omega))) (ha_nil) rfl) ?_
 refine dS (SX (sd_build (xs := [(0, .tmp 32), (1, .tmp 35)]) (cs := (SpanV.cells (SpanV.mk (slowF y.Lo) (fastF y.Hi)))) rfl rfl (built_of tb26 rfl)) rfl rfl) ?_
 refine d_end ?_
 refine SW2 rfl ts26 rfl ?_
 refine rS (AG rfl) ?_
 refine RK hK19 ?_
 refine w_ret ?_
 refine hQ _ _ _ (l_nil (vs := [(Value.agg (SpanV.cells (SpanV.mk (slowF y.Lo) (fastF y.Hi))).toArray), (Value.int .i64 0)]) ⟨⟨_, rfl, .inl ⟨_, _, tk26, at_blk (vs := (SpanV.cells (SpanV.mk (slowF y.Lo) (fastF y.Hi)))) 2 rfl rfl, rfl, rfl⟩⟩, rfl, trivial⟩ fun w hs => endV ?_ hs)
 show (Value.tuple [(Value.agg (SpanV.cells (SpanV.mk (slowF y.Lo) (fastF y.Hi))).toArray), (Value.int .i64 0)].toArray) = (Value.tuple [(Value.agg (SpanV.cells (speedV s ts i)).toArray), (Value.int .i64 (speedE s ts i))].toArray)
 clear hs w hQ hN hK19 hK13 hK10 hK9 hK7 hK6 hK5 hK1
 first | (rw [(speed_no (i := i) he).1, (speed_no (i := i) he).2] <;> rfl) | (rw [(speed_out (i := i) he (by omega)).1, (speed_out (i := i) he (by omega)).2] <;> rfl) | (rw [(speed_in (i := i) he (by omega)).1, (speed_in (i := i) he (by omega)).2, hyv] <;> rfl)

set_option maxRecDepth 100000 in
set_option maxHeartbeats 400000 in
theorem inside_c (ts : List StretchV) (tsA : Option Addr) (tsC : Nat) (s : SledV) (i : Int) (hs : SledOk s) (hst : ∀ x ∈ ts, StretchOk x) (hlen : ts.length ≤ 12) (hi : 0 ≤ i ∧ i < ts.length) :
    FnV Try.prog 73 [(Value.agg (TrackV.cells (TrackV.mk (Slc.mk tsA ts.length tsC))).toArray), (Value.agg (SledV.cells s).toArray), (Value.int .i64 i)] [(rd tsA ts.length 9 (ts.map StretchV.cells))] (Value.agg (SpanV.cells (SpanV.mk (inAt false s ts i.toNat) (inAt true s ts i.toNat))).toArray) := by
 refine fnV_of go73 Try.func73 rfl rfl fun w0 Q hQ hN => ?_
 change WJ _ _ _ _ [(0, (Value.agg (TrackV.cells (TrackV.mk (Slc.mk tsA ts.length tsC))).toArray)), (1, (Value.agg (SledV.cells s).toArray)), (2, (Value.int .i64 i))] [(rd tsA ts.length 9 (ts.map StretchV.cells)).ro]
 refine WS fun _ hK1 => ?_
 refine BXA rfl fun b2 => ?_
 refine BXA rfl fun b3 => ?_
 refine AL rfl tz26 fun b4 => ?_
 refine RK hK1 ?_
 refine WS fun _ hK5 => ?_
 refine rS (LW 2 rfl tk24 rfl rfl) ?_
 refine rS (LW 1 rfl tk28 rfl rfl) ?_
 refine cX (rheads_c ts tsA tsC s hs hst hlen) (ha_at 3 rfl rfl <| ha_nil) rfl fun y6 hy7 => ?_
 obtain ⟨a8, c9⟩ := y6
 change RJ _ _ _ _ _ ((_, (Value.slice a8 ((spansL s ts).length) c9)) :: _) ((own a8 c9 26 2 ((spansL s ts).map SpanV.cells)) :: _)
 refine rS (AG rfl) ?_
 refine RK hK5 ?_
 refine w_seq fun _ hK10 => ?_
 refine w_draw mixed 25 (by kernel_rfl) ?_
 have hsl := spansL_length (s := s) (ts := ts)
 refine dS (MV rfl) ?_
 refine dS (MV rfl) ?_
 obtain ⟨y, hy⟩ : ∃ y_, (spansL s ts)[(i).toNat]? = some y_ := ⟨(spansL s ts)[(i).toNat]'(by omega), List.getElem?_eq_getElem _⟩
 have hym : ((spansL s ts).map SpanV.cells)[(i).toNat]? = some (SpanV.cells y) := by rw [List.getElem?_map, hy]; rfl
 refine dS (IA ((i).toNat) rfl (has_own_n (n := (spansL s ts).length) 0 rfl (by simp)) te31 (by decide) (by omega) (by omega)) ?_
 refine dS (FAR (((i).toNat) * 2) rfl (has_own_n (n := (spansL s ts).length) 0 rfl (by simp)) (Nat.mul_pos (by omega) (by decide)) fo26_0 rfl) ?_
 refine dS (LE1 ((i).toNat) 0 (Value.int .i64 y.Lo) rfl tk3 (has_own_n (n := (spansL s ts).length) 0 rfl (by simp)) hym rfl (by decide) rfl) ?_
 refine dS (MV rfl) ?_
 refine dS (MV rfl) ?_
 refine dS (BI rfl (b_add ⟨by omega, by omega⟩)) ?_
 obtain ⟨z, hz⟩ : ∃ y_, (spansL s ts)[((i + 1)).toNat]? = some y_ := ⟨(spansL s ts)[((i + 1)).toNat]'(by omega), List.getElem?_eq_getElem _⟩
 have hzm : ((spansL s ts).map SpanV.cells)[((i + 1)).toNat]? = some (SpanV.cells z) := by rw [List.getElem?_map, hz]; rfl
 refine dS (IA (((i + 1)).toNat) rfl (has_own_n (n := (spansL s ts).length) 0 rfl (by simp)) te31 (by decide) (by omega) (by omega)) ?_
 refine dS (FAR ((((i + 1)).toNat) * 2) rfl (has_own_n (n := (spansL s ts).length) 0 rfl (by simp)) (Nat.mul_pos (by omega) (by decide)) fo26_0 rfl) ?_
 refine dS (LE1 (((i + 1)).toNat) 0 (Value.int .i64 z.Lo) rfl tk3 (has_own_n (n := (spansL s ts).length) 0 rfl (by simp)) hzm rfl (by decide) rfl) ?_
 refine dS (MX rfl) ?_
 refine dS (MV rfl) ?_
 refine dS (MV rfl) ?_
 refine dS (IA ((i).toNat) rfl (has_own_n (n := (spansL s ts).length) 0 rfl (by simp)) te31 (by decide) (by omega) (by omega)) ?_
 refine dS (FAR ((((i).toNat) * 2) + 1) rfl (has_own_n (n := (spansL s ts).length) 0 rfl (by simp)) (Nat.mul_pos (by omega) (by decide)) fo26_1 rfl) ?_
 refine dS (LE1 ((i).toNat) 1 (Value.int .i64 y.Hi) rfl tk3 (has_own_n (n := (spansL s ts).length) 0 rfl (by simp)) hym rfl (by decide) rfl) ?_
 refine dS (MV rfl) ?_
 refine dS (MV rfl) ?_
 refine dS (BI rfl (b_add ⟨by omega, by omega⟩)) ?_
 refine dS (IA (((i + 1)).toNat) rfl (has_own_n (n := (spansL s ts).length) 0 rfl (by simp)) te31 (by decide) (by omega) (by omega)) ?_
 refine dS (FAR (((((i + 1)).toNat) * 2) + 1) rfl (has_own_n (n := (spansL s ts).length) 0 rfl (by simp)) (Nat.mul_pos (by omega) (by decide)) fo26_1 rfl) ?_
 refine dS (LE1 (((i + 1)).toNat) 1 (Value.int .i64 z.Hi) rfl tk3 (has_own_n (n := (spansL s ts).length) 0 rfl (by simp)) hzm rfl (by decide) rfl) ?_
 refine dS (MX rfl) ?_
 refine dS (SX (sd_build (xs := [(0, .tmp 22), (1, .tmp 34)]) (cs := (SpanV.cells (SpanV.mk (max y.Lo z.Lo) (max y.Hi z.Hi)))) rfl rfl (built_of tb26 rfl)) rfl rfl) ?_
 refine d_end ?_
 refine SW1 rfl ts26 rfl ?_
 refine RK hK10 ?_
 refine w_ret ?_
 refine hQ _ _ _ (l_nil (vs := [(Value.agg (SpanV.cells (SpanV.mk (max y.Lo z.Lo) (max y.Hi z.Hi))).toArray)]) ⟨⟨_, rfl, .inl ⟨_, _, tk26, at_blk (vs := (SpanV.cells (SpanV.mk (max y.Lo z.Lo) (max y.Hi z.Hi)))) 1 rfl rfl, rfl, rfl⟩⟩, trivial⟩ fun w hs => endV ?_ hs)
 show (Value.agg (SpanV.cells (SpanV.mk (max y.Lo z.Lo) (max y.Hi z.Hi))).toArray) = (Value.agg (SpanV.cells (SpanV.mk (inAt false s ts i.toNat) (inAt true s ts i.toNat))).toArray)
 clear hs w hQ hN hK10 hK5 hK1
 have yv : y = spanAt s ts i.toNat := by rw [spansL_get (by omega)] at hy; exact (Option.some.inj hy).symm
 have zv : z = spanAt s ts (i + 1).toNat := by rw [spansL_get (by omega)] at hz; exact (Option.some.inj hz).symm
 have e1 := inAt_spans (best := false) hi.1 (show y.Lo = _ by rw [yv]; rfl) (show z.Lo = _ by rw [zv]; rfl)
 have e2 := inAt_spans (best := true) hi.1 (show y.Hi = _ by rw [yv]; rfl) (show z.Hi = _ by rw [zv]; rfl)
 rw [e1, e2]

set_option maxRecDepth 100000 in
set_option maxHeartbeats 400000 in
theorem least_bad (ts : List StretchV) (tsA : Option Addr) (tsC : Nat) (s : SledV) (i : Int) (hlen : ts.length ≤ 1000000) (hside : ∀ x ∈ ts, 0 ≤ x.Side ∧ x.Side ≤ 255) (htr : trackOk ts = false) :
    FnV Try.prog 24 [(Value.agg (TrackV.cells (TrackV.mk (Slc.mk tsA ts.length tsC))).toArray), (Value.agg (SledV.cells s).toArray), (Value.int .i64 i)] [(rd tsA ts.length 9 (ts.map StretchV.cells))] (Value.tuple [(Value.int .i64 (leastV s ts i)), (Value.int .i64 (leastE s ts i))].toArray) := by
 have hb0 : ¬ bothE s ts = 0 := by rw [bothE_bad htr]; decide
 refine fnV_of go24 Try.func24 rfl rfl fun w0 Q hQ hN => ?_
 change WJ _ _ _ _ [(0, (Value.agg (TrackV.cells (TrackV.mk (Slc.mk tsA ts.length tsC))).toArray)), (1, (Value.agg (SledV.cells s).toArray)), (2, (Value.int .i64 i))] [(rd tsA ts.length 9 (ts.map StretchV.cells)).ro]
 refine WS fun _ hK1 => ?_
 refine BXA rfl fun b2 => ?_
 refine BXA rfl fun b3 => ?_
 refine rS (AG rfl) ?_
 refine rS (AG rfl) ?_
 refine RK hK1 ?_
 refine WS fun _ hK4 => ?_
 refine rS (LW 1 rfl tk24 rfl rfl) ?_
 refine rS (LW 0 rfl tk28 rfl rfl) ?_
 refine rS (CL (open_bad ts tsA tsC s hlen hside htr) (ha_at 2 rfl rfl <| ha_nil) rfl) ?_
 refine rS (MV rfl) ?_
 refine rS (EX rfl) ?_
 refine rS (EX rfl) ?_
 refine rS (EX rfl) ?_
 refine AL rfl tz108 fun b5 => ?_
 refine AL rfl tz108 fun b6 => ?_
 refine SW1 rfl ts108 rfl ?_
 refine SW0 rfl ts108 rfl ?_
 refine rS (AG rfl) ?_
 refine RK hK4 ?_
 refine w_seq fun _ hK7 => ?_
 refine WS fun _ hK8 => ?_
 refine rS (MV rfl) ?_
 refine rS (BI rfl b_neq) ?_
 refine RK hK8 ?_
 refine w_if rfl (fun he => ?_) (fun he => ?_)
 rotate_left 1
 · replace he := XF he
   exact absurd he hb0
 replace he := XT he
 refine WS fun _ hK9 => ?_
 refine rS (MV rfl) ?_
 refine rS (AG rfl) ?_
 refine rS (AG rfl) ?_
 refine RK hK9 ?_
 refine w_ret ?_
 refine Q2 hQ rfl rfl rfl rfl ?_
 rw [(least_no (i := i) hb0).1, (least_no (i := i) hb0).2]

set_option maxRecDepth 100000 in
set_option maxHeartbeats 400000 in
theorem least_sled (ts : List StretchV) (tsA : Option Addr) (tsC : Nat) (s : SledV) (i : Int) (hlen : ts.length ≤ 1000000) (hside : ∀ x ∈ ts, 0 ≤ x.Side ∧ x.Side ≤ 255) (htr : trackOk ts = true) (hns : ¬ SledOk s) :
    FnV Try.prog 24 [(Value.agg (TrackV.cells (TrackV.mk (Slc.mk tsA ts.length tsC))).toArray), (Value.agg (SledV.cells s).toArray), (Value.int .i64 i)] [(rd tsA ts.length 9 (ts.map StretchV.cells))] (Value.tuple [(Value.int .i64 (leastV s ts i)), (Value.int .i64 (leastE s ts i))].toArray) := by
 have hb0 : ¬ bothE s ts = 0 := by rw [bothE_sled htr hns]; decide
 refine fnV_of go24 Try.func24 rfl rfl fun w0 Q hQ hN => ?_
 change WJ _ _ _ _ [(0, (Value.agg (TrackV.cells (TrackV.mk (Slc.mk tsA ts.length tsC))).toArray)), (1, (Value.agg (SledV.cells s).toArray)), (2, (Value.int .i64 i))] [(rd tsA ts.length 9 (ts.map StretchV.cells)).ro]
 refine WS fun _ hK1 => ?_
 refine BXA rfl fun b2 => ?_
 refine BXA rfl fun b3 => ?_
 refine rS (AG rfl) ?_
 refine rS (AG rfl) ?_
 refine RK hK1 ?_
 refine WS fun _ hK4 => ?_
 refine rS (LW 1 rfl tk24 rfl rfl) ?_
 refine rS (LW 0 rfl tk28 rfl rfl) ?_
 refine rS (CL (open_ok ts tsA tsC s hlen hside htr) (ha_at 2 rfl rfl <| ha_nil) rfl) ?_
 refine rS (MV rfl) ?_
 refine rS (EX rfl) ?_
 refine rS (EX rfl) ?_
 refine rS (EX rfl) ?_
 refine AL rfl tz108 fun b5 => ?_
 refine AL rfl tz108 fun b6 => ?_
 refine SW1 rfl ts108 rfl ?_
 refine SW0 rfl ts108 rfl ?_
 refine rS (AG rfl) ?_
 refine RK hK4 ?_
 refine w_seq fun _ hK7 => ?_
 refine WS fun _ hK8 => ?_
 refine rS (MV rfl) ?_
 refine rS (BI rfl b_neq) ?_
 refine RK hK8 ?_
 refine w_if rfl (fun he => ?_) (fun he => ?_)
 rotate_left 1
 · replace he := XF he
   exact absurd he hb0
 replace he := XT he
 refine WS fun _ hK9 => ?_
 refine rS (MV rfl) ?_
 refine rS (AG rfl) ?_
 refine rS (AG rfl) ?_
 refine RK hK9 ?_
 refine w_ret ?_
 refine Q2 hQ rfl rfl rfl rfl ?_
 rw [(least_no (i := i) hb0).1, (least_no (i := i) hb0).2]

set_option maxRecDepth 100000 in
set_option maxHeartbeats 400000 in
theorem least_ok (ts : List StretchV) (tsA : Option Addr) (tsC : Nat) (s : SledV) (i : Int) (hlen : ts.length ≤ 1000000) (hside : ∀ x ∈ ts, 0 ≤ x.Side ∧ x.Side ≤ 255) (htr : trackOk ts = true) (hs : SledOk s) :
    FnV Try.prog 24 [(Value.agg (TrackV.cells (TrackV.mk (Slc.mk tsA ts.length tsC))).toArray), (Value.agg (SledV.cells s).toArray), (Value.int .i64 i)] [(rd tsA ts.length 9 (ts.map StretchV.cells))] (Value.tuple [(Value.int .i64 (leastV s ts i)), (Value.int .i64 (leastE s ts i))].toArray) := by
 have hb0 := bothE_ok htr hs
 have hst := trackOk_all htr
 have hl12 := trackOk_le htr
 have hl1 := trackOk_pos htr
 refine fnV_of go24 Try.func24 rfl rfl fun w0 Q hQ hN => ?_
 change WJ _ _ _ _ [(0, (Value.agg (TrackV.cells (TrackV.mk (Slc.mk tsA ts.length tsC))).toArray)), (1, (Value.agg (SledV.cells s).toArray)), (2, (Value.int .i64 i))] [(rd tsA ts.length 9 (ts.map StretchV.cells)).ro]
 refine WS fun _ hK1 => ?_
 refine BXA rfl fun b2 => ?_
 refine BXA rfl fun b3 => ?_
 refine rS (AG rfl) ?_
 refine rS (AG rfl) ?_
 refine RK hK1 ?_
 refine WS fun _ hK4 => ?_
 refine rS (LW 1 rfl tk24 rfl rfl) ?_
 refine rS (LW 0 rfl tk28 rfl rfl) ?_
 refine rS (CL (open_ok ts tsA tsC s hlen hside htr) (ha_at 2 rfl rfl <| ha_nil) rfl) ?_
 refine rS (MV rfl) ?_
 refine rS (EX rfl) ?_
 refine rS (EX rfl) ?_
 refine rS (EX rfl) ?_
 refine AL rfl tz108 fun b5 => ?_
 refine AL rfl tz108 fun b6 => ?_
 refine SW1 rfl ts108 rfl ?_
 refine SW0 rfl ts108 rfl ?_
 refine rS (AG rfl) ?_
 refine RK hK4 ?_
 refine w_seq fun _ hK7 => ?_
 refine WS fun _ hK8 => ?_
 refine rS (MV rfl) ?_
 refine rS (BI rfl b_neq) ?_
 refine RK hK8 ?_
 refine w_if rfl (fun he => ?_) (fun he => ?_)
 · replace he := XT he
   exact absurd hb0 he
 replace he := XF he
 refine WK hK7 ?_
 refine w_seq fun _ hK9 => ?_
 refine WS fun _ hK10 => ?_
 refine rS (MV rfl) ?_
 refine rS (BI rfl b_lss) ?_
 refine rS (MV rfl) ?_
 refine r_bool (t := 26) rfl (fun h11 => ?_) (fun h11 => ?_)
 · replace h11 := DT h11
   refine rS (OX rfl) ?_
   refine rS (OX rfl) ?_
   refine rS (OX rfl) ?_
   refine rS (OX rfl) ?_
   refine rS (OX rfl) ?_
   refine rS (PK rfl) ?_
   refine RK hK10 ?_
   refine w_if_true rfl ?_
   refine WS fun _ hK12 => ?_
   refine rS (AG rfl) ?_
   refine rS (AG rfl) ?_
   refine RK hK12 ?_
   refine w_ret ?_
   refine Q2 hQ rfl rfl rfl rfl ?_
   first | rw [(least_out (i := i) hb0 (by omega)).1, (least_out (i := i) hb0 (by omega)).2] | rw [(least_none (i := i) hb0 hi hv).1, (least_none (i := i) hb0 hi hv).2] | (have e := least_slide (i := i) hb0 hi (by omega) hx (ceil_yes (by omega) hq); rw [e.1, e.2]) | (have e := least_slide (i := i) hb0 hi (by omega) hx (ceil_no (by omega) (by omega)); rw [e.1, e.2])
 replace h11 := DF h11
 refine rS (MV rfl) ?_
 refine rS (FA 0 rfl fo24_0 rfl) ?_
 refine rS (L1 (Value.slice tsA ts.length tsC) 3 rfl tk22 rfl rfl) ?_
 refine rS (LN rfl ut22) ?_
 refine rS (BI rfl b_geq) ?_
 refine rS (PK rfl) ?_
 refine RK hK10 ?_
 refine w_if rfl (fun h13 => ?_) (fun h13 => ?_)
 · replace h13 := DT h13
   refine WS fun _ hK14 => ?_
   refine rS (AG rfl) ?_
   refine rS (AG rfl) ?_
   refine RK hK14 ?_
   refine w_ret ?_
   refine Q2 hQ rfl rfl rfl rfl ?_
   first | rw [(least_out (i := i) hb0 (by omega)).1, (least_out (i := i) hb0 (by omega)).2] | rw [(least_none (i := i) hb0 hi hv).1, (least_none (i := i) hb0 hi hv).2] | (have e := least_slide (i := i) hb0 hi (by omega) hx (ceil_yes (by omega) hq); rw [e.1, e.2]) | (have e := least_slide (i := i) hb0 hi (by omega) hx (ceil_no (by omega) (by omega)); rw [e.1, e.2])
 replace h13 := DF h13
 refine WK hK9 ?_
 refine WS fun _ hK15 => ?_
 refine rS (LW 0 rfl tk108 rfl rfl) ?_
 refine cX (list_c s ts tsA tsC true hs (by first | assumption | omega | (simp; done) | (simp; omega)) (by first | assumption | omega | (simp; done) | (simp; omega))) (ha_at 4 rfl rfl <| ha_nil) rfl fun y16 hy17 => ?_
 obtain ⟨a18, c19⟩ := y16
 change RJ _ _ _ _ _ ((_, (Value.slice a18 ((headsL true s ts).length) c19)) :: _) ((own a18 c19 3 1 ((headsL true s ts).map iC)) :: _)
 refine rS (AG rfl) ?_
 refine RK hK15 ?_
 refine w_seq fun _ hK20 => ?_
 refine w_draw mixed 12 (by kernel_rfl) ?_
 have hml := headsL_length (best := true) (s := s) (ts := ts)
 have hi : 0 ≤ i ∧ i < ts.length := by omega
 have hib := inAt_b (best := true) hs hst (i := i.toNat) (by omega)
 have hfb := fastF_le (h := inAt true s ts i.toNat) hib.1 (by omega)
 refine dS (MV rfl) ?_
 refine dS (MV rfl) ?_
 obtain ⟨m, hm⟩ : ∃ y_, (headsL true s ts)[(i).toNat]? = some y_ := ⟨(headsL true s ts)[(i).toNat]'(by omega), List.getElem?_eq_getElem _⟩
 have hmm : ((headsL true s ts).map iC)[(i).toNat]? = some (iC m) := by rw [List.getElem?_map, hm]; rfl
 refine dS (IA ((i).toNat) rfl (has_own_n (n := (headsL true s ts).length) 0 rfl (by simp)) te61 (by decide) (by omega) (by omega)) ?_
 refine dS (LE1 ((i).toNat) 0 (Value.int .i64 m) rfl tk3 (has_own_n (n := (headsL true s ts).length) 0 rfl (by simp)) hmm rfl (by decide) rfl) ?_
 refine dS (MV rfl) ?_
 refine dS (MV rfl) ?_
 refine dS (BI rfl (b_add ⟨by omega, by omega⟩)) ?_
 obtain ⟨n, hn⟩ : ∃ y_, (headsL true s ts)[((i + 1)).toNat]? = some y_ := ⟨(headsL true s ts)[((i + 1)).toNat]'(by omega), List.getElem?_eq_getElem _⟩
 have hnm : ((headsL true s ts).map iC)[((i + 1)).toNat]? = some (iC n) := by rw [List.getElem?_map, hn]; rfl
 refine dS (IA (((i + 1)).toNat) rfl (has_own_n (n := (headsL true s ts).length) 0 rfl (by simp)) te61 (by decide) (by omega) (by omega)) ?_
 refine dS (LE1 (((i + 1)).toNat) 0 (Value.int .i64 n) rfl tk3 (has_own_n (n := (headsL true s ts).length) 0 rfl (by simp)) hnm rfl (by decide) rfl) ?_
 refine dS (MX rfl) ?_
 have mv : m = headAt true s ts i.toNat := by rw [headsL_get (by omega)] at hm; exact (Option.some.inj hm).symm
 have nv : n = headAt true s ts (i + 1).toNat := by rw [headsL_get (by omega)] at hn; exact (Option.some.inj hn).symm
 have hmx := inAt_spans (best := true) hi.1 mv nv
 rw [hmx]
 refine dS (CL (fast_c (inAt true s ts i.toNat) (by first | assumption | omega | (simp; done) | (simp; omega))) (ha_nil) rfl) ?_
 refine dS (AG rfl) ?_
 refine d_end ?_
 refine RK hK20 ?_
 refine w_seq fun _ hK21 => ?_
 refine WS fun _ hK22 => ?_
 refine rS (MV rfl) ?_
 refine rS (BI rfl b_eql) ?_
 refine RK hK22 ?_
 refine w_if rfl (fun hv => ?_) (fun hv => ?_)
 · replace hv := DT hv
   refine WS fun _ hK23 => ?_
   refine rS (AG rfl) ?_
   refine rS (AG rfl) ?_
   refine RK hK23 ?_
   refine w_ret ?_
   refine Q2 hQ rfl rfl rfl rfl ?_
   first | rw [(least_out (i := i) hb0 (by omega)).1, (least_out (i := i) hb0 (by omega)).2] | rw [(least_none (i := i) hb0 hi hv).1, (least_none (i := i) hb0 hi hv).2] | (have e := least_slide (i := i) hb0 hi (by omega) hx (ceil_yes (by omega) hq); rw [e.1, e.2]) | (have e := least_slide (i := i) hb0 hi (by omega) hx (ceil_no (by omega) (by omega)); rw [e.1, e.2])
 replace hv := DF hv
 refine WK hK21 ?_
 refine WS fun _ hK24 => ?_
 refine rS (FA 0 rfl fo24_0 rfl) ?_
 refine rS (L1 (Value.slice tsA ts.length tsC) 4 rfl tk22 rfl rfl) ?_
 refine rS (MV rfl) ?_
 obtain ⟨x, hx⟩ : ∃ y_, ts[(i).toNat]? = some y_ := ⟨ts[(i).toNat]'(by omega), List.getElem?_eq_getElem _⟩
 have hxm : (ts.map StretchV.cells)[(i).toNat]? = some (StretchV.cells x) := by rw [List.getElem?_map, hx]; rfl
 refine rS (IA ((i).toNat) rfl (has_at 5 rfl) te22 (by decide) (by omega) (by omega)) ?_
 refine rS (FAR ((((i).toNat) * 9) + 1) rfl (has_at 5 rfl) (Nat.mul_pos (by omega) (by decide)) fo77_1 rfl) ?_
 refine rS (FAR ((((i).toNat) * 9) + 1) rfl (has_at 5 rfl) (Nat.mul_pos (by omega) (by decide)) fo26_0 rfl) ?_
 refine rS (LE1 ((i).toNat) 1 (Value.int .i64 x.Long.Lo) rfl tk3 (has_at 5 rfl) hxm rfl (by decide) rfl) ?_
 have hxo := hst x (List.mem_of_getElem? hx)
 have q2 := hxo.2.1
 simp only [SpanOk] at q2
 refine rS (BI rfl (b_mul ⟨by omega, by omega⟩)) ?_
 refine rS (AG rfl) ?_
 refine RK hK24 ?_
 refine w_seq fun _ hK25 => ?_
 refine WS fun _ hK26 => ?_
 refine rS (MV rfl) ?_
 refine rS (MV rfl) ?_
 refine rS (BI rfl (b_rem (by omega) (by omega))) ?_
 refine rS (BI rfl b_gtr) ?_
 refine RK hK26 ?_
 refine w_if rfl (fun hq => ?_) (fun hq => ?_)
 rotate_left 1
 · replace hq := DF hq
   refine WK hK25 ?_
   refine WS fun _ hK28 => ?_
   refine rS (MV rfl) ?_
   refine rS (MV rfl) ?_
   refine rS (BI rfl (b_quo (by omega) (by omega) (by omega))) ?_
   refine rS (AG rfl) ?_
   refine rS (AG rfl) ?_
   refine RK hK28 ?_
   refine w_ret ?_
   refine Q2 hQ rfl rfl rfl rfl ?_
   first | rw [(least_out (i := i) hb0 (by omega)).1, (least_out (i := i) hb0 (by omega)).2] | rw [(least_none (i := i) hb0 hi hv).1, (least_none (i := i) hb0 hi hv).2] | (have e := least_slide (i := i) hb0 hi (by omega) hx (ceil_yes (by omega) hq); rw [e.1, e.2]) | (have e := least_slide (i := i) hb0 hi (by omega) hx (ceil_no (by omega) (by omega)); rw [e.1, e.2])
 replace hq := DT hq
 refine w_region ?_
 refine rS (MV rfl) ?_
 refine rS (MV rfl) ?_
 refine rS (BI rfl (b_add ⟨by omega, by omega⟩)) ?_
 refine rS (AG rfl) ?_
 refine RK hK25 ?_
 refine WS fun _ hK27 => ?_
 refine rS (MV rfl) ?_
 refine rS (MV rfl) ?_
 refine rS (BI rfl (b_quo (by omega) (by omega) (by omega))) ?_
 refine rS (AG rfl) ?_
 refine rS (AG rfl) ?_
 refine RK hK27 ?_
 refine w_ret ?_
 refine Q2 hQ rfl rfl rfl rfl ?_
 first | rw [(least_out (i := i) hb0 (by omega)).1, (least_out (i := i) hb0 (by omega)).2] | rw [(least_none (i := i) hb0 hi hv).1, (least_none (i := i) hb0 hi hv).2] | (have e := least_slide (i := i) hb0 hi (by omega) hx (ceil_yes (by omega) hq); rw [e.1, e.2]) | (have e := least_slide (i := i) hb0 hi (by omega) hx (ceil_no (by omega) (by omega)); rw [e.1, e.2])

theorem least_no_ (ts : List StretchV) (tsA : Option Addr) (tsC : Nat) (s : SledV) (i : Int) (hlen : ts.length ≤ 1000000) (hside : ∀ x ∈ ts, 0 ≤ x.Side ∧ x.Side ≤ 255) (hb : ¬ bothE s ts = 0) :
    FnV Try.prog 24 [(Value.agg (TrackV.cells (TrackV.mk (Slc.mk tsA ts.length tsC))).toArray), (Value.agg (SledV.cells s).toArray), (Value.int .i64 i)] [(rd tsA ts.length 9 (ts.map StretchV.cells))] (Value.tuple [(Value.int .i64 (leastV s ts i)), (Value.int .i64 (leastE s ts i))].toArray) := by
  by_cases htr : trackOk ts = true
  · by_cases hs : SledOk s
    · exact absurd (bothE_ok htr hs) hb
    · exact least_sled ts tsA tsC s i hlen hside htr hs
  · exact least_bad ts tsA tsC s i hlen hside (by simpa using htr)

theorem least_c (ts : List StretchV) (tsA : Option Addr) (tsC : Nat) (s : SledV) (i : Int) (hlen : ts.length ≤ 1000000) (hside : ∀ x ∈ ts, 0 ≤ x.Side ∧ x.Side ≤ 255) :
    FnV Try.prog 24 [(Value.agg (TrackV.cells (TrackV.mk (Slc.mk tsA ts.length tsC))).toArray), (Value.agg (SledV.cells s).toArray), (Value.int .i64 i)] [(rd tsA ts.length 9 (ts.map StretchV.cells))] (Value.tuple [(Value.int .i64 (leastV s ts i)), (Value.int .i64 (leastE s ts i))].toArray) := by
  by_cases hb : bothE s ts = 0
  · obtain ⟨h1, h2⟩ := bothE_zero hb
    exact least_ok ts tsA tsC s i hlen hside h1 h2
  · exact least_no_ ts tsA tsC s i hlen hside hb

set_option maxRecDepth 100000 in
set_option maxHeartbeats 400000 in
theorem rLeast_c (ts : List StretchV) (tsA : Option Addr) (tsC : Nat) (s : SledV) (i : Int) (hlen : ts.length ≤ 1000000) (hside : ∀ x ∈ ts, 0 ≤ x.Side ∧ x.Side ≤ 255) (hc : 0 ≤ s.Class ∧ s.Class ≤ 255) :
    FnV Try.prog 25 [(Value.agg (TrackV.cells (TrackV.mk (Slc.mk tsA ts.length tsC))).toArray), (Value.agg (SledV.cells s).toArray), (Value.int .i64 i)] [(rd tsA ts.length 9 (ts.map StretchV.cells))] (Value.tuple [(Value.int .i64 (leastV s ts i)), (Value.int .i64 (leastE s ts i))].toArray) := by
 refine fnV_of go25 Try.func25 rfl rfl fun w0 Q hQ hN => ?_
 change WJ _ _ _ _ [(0, (Value.agg (TrackV.cells (TrackV.mk (Slc.mk tsA ts.length tsC))).toArray)), (1, (Value.agg (SledV.cells s).toArray)), (2, (Value.int .i64 i))] [(rd tsA ts.length 9 (ts.map StretchV.cells)).ro]
 refine WS fun _ hK1 => ?_
 refine BXA rfl fun b2 => ?_
 refine BXA rfl fun b3 => ?_
 refine rS (AG rfl) ?_
 refine rS (AG rfl) ?_
 refine RK hK1 ?_
 refine w_seq fun _ hK4 => ?_
 refine WS fun _ hK5 => ?_
 refine rS (LW 1 rfl tk24 rfl rfl) ?_
 refine rS (LW 0 rfl tk28 rfl rfl) ?_
 refine rS (CL (both_c ts tsA tsC s hlen hc) (ha_at 2 rfl rfl <| ha_nil) rfl) ?_
 refine rS (AG rfl) ?_
 refine RK hK5 ?_
 refine WS fun _ hK6 => ?_
 refine rS (MV rfl) ?_
 refine rS (BI rfl b_neq) ?_
 refine RK hK6 ?_
 refine w_if rfl (fun he => ?_) (fun he => ?_)
 · replace he := XT he
   refine WS fun _ hK7 => ?_
   refine rS (MV rfl) ?_
   refine rS (AG rfl) ?_
   refine rS (AG rfl) ?_
   refine RK hK7 ?_
   refine w_ret ?_
   refine Q2 hQ rfl rfl rfl rfl ?_
   first | rw [(least_no (i := i) he).1, (least_no (i := i) he).2] | rw [(least_out (i := i) he (by omega)).1, (least_out (i := i) he (by omega)).2] | rw [(least_none (i := i) he hi hv).1, (least_none (i := i) he hi hv).2] | rw [(least_in (i := i) he hi hv hx).1, (least_in (i := i) he hi hv hx).2]
 replace he := XF he
 refine WK hK4 ?_
 refine w_seq fun _ hK8 => ?_
 refine WS fun _ hK9 => ?_
 obtain ⟨htr, hs⟩ := bothE_zero he
 have hst := trackOk_all htr
 have hl12 := trackOk_le htr
 refine rS (MV rfl) ?_
 refine rS (FA 0 rfl fo24_0 rfl) ?_
 refine rS (L1 (Value.slice tsA ts.length tsC) 1 rfl tk22 rfl rfl) ?_
 refine rS (LN rfl ut22) ?_
 refine rS (BI rfl (b_sub ⟨by omega, by omega⟩)) ?_
 refine rS (CL (within3_c i 0 (((ts.length : Nat) : Int) - 1)) (ha_nil) rfl) ?_
 refine rS (NT rfl) ?_
 refine RK hK9 ?_
 refine w_if rfl (fun h10 => ?_) (fun h10 => ?_)
 · replace h10 := XT h10
   refine WS fun _ hK11 => ?_
   refine rS (AG rfl) ?_
   refine rS (AG rfl) ?_
   refine RK hK11 ?_
   refine w_ret ?_
   refine Q2 hQ rfl rfl rfl rfl ?_
   first | rw [(least_no (i := i) he).1, (least_no (i := i) he).2] | rw [(least_out (i := i) he (by omega)).1, (least_out (i := i) he (by omega)).2] | rw [(least_none (i := i) he hi hv).1, (least_none (i := i) he hi hv).2] | rw [(least_in (i := i) he hi hv hx).1, (least_in (i := i) he hi hv hx).2]
 replace h10 := XF h10
 refine WK hK8 ?_
 refine WS fun _ hK12 => ?_
 have hi : 0 ≤ i ∧ i < ts.length := by omega
 have hib := inAt_b (best := true) hs hst (i := i.toNat) (by omega)
 have hfb := fastF_le (h := inAt true s ts i.toNat) hib.1 (by omega)
 refine rS (LW 1 rfl tk24 rfl rfl) ?_
 refine rS (LW 0 rfl tk28 rfl rfl) ?_
 refine rS (MV rfl) ?_
 refine rS (CL (inside_c ts tsA tsC s i (by first | assumption | omega | (simp; done) | (simp; omega)) (by first | assumption | omega | (simp; done) | (simp; omega)) (by first | assumption | omega | (simp; done) | (simp; omega)) (by first | assumption | omega | (simp; done) | (simp; omega))) (ha_at 2 rfl rfl <| ha_nil) rfl) ?_
 refine rS (SX (sd_field1 (v := (Value.int .i64 (inAt true s ts i.toNat))) rfl rfl fo26_1 tf26_1 rfl) rfl rfl) ?_
 refine rS (CL (fast3_c (inAt true s ts i.toNat) (by first | assumption | omega | (simp; done) | (simp; omega))) (ha_nil) rfl) ?_
 refine rS (AG rfl) ?_
 refine RK hK12 ?_
 refine w_seq fun _ hK13 => ?_
 refine WS fun _ hK14 => ?_
 refine rS (MV rfl) ?_
 refine rS (BI rfl b_eql) ?_
 refine RK hK14 ?_
 refine w_if rfl (fun hv => ?_) (fun hv => ?_)
 · replace hv := DT hv
   refine WS fun _ hK15 => ?_
   refine rS (AG rfl) ?_
   refine rS (AG rfl) ?_
   refine RK hK15 ?_
   refine w_ret ?_
   refine Q2 hQ rfl rfl rfl rfl ?_
   first | rw [(least_no (i := i) he).1, (least_no (i := i) he).2] | rw [(least_out (i := i) he (by omega)).1, (least_out (i := i) he (by omega)).2] | rw [(least_none (i := i) he hi hv).1, (least_none (i := i) he hi hv).2] | rw [(least_in (i := i) he hi hv hx).1, (least_in (i := i) he hi hv hx).2]
 replace hv := DF hv
 refine WK hK13 ?_
 refine WS fun _ hK16 => ?_
 refine rS (FA 0 rfl fo24_0 rfl) ?_
 refine rS (L1 (Value.slice tsA ts.length tsC) 1 rfl tk22 rfl rfl) ?_
 refine rS (MV rfl) ?_
 obtain ⟨x, hx⟩ : ∃ y_, ts[(i).toNat]? = some y_ := ⟨ts[(i).toNat]'(by omega), List.getElem?_eq_getElem _⟩
 have hxm : (ts.map StretchV.cells)[(i).toNat]? = some (StretchV.cells x) := by rw [List.getElem?_map, hx]; rfl
 refine rS (IA ((i).toNat) rfl (has_at 2 rfl) te22 (by decide) (by omega) (by omega)) ?_
 refine rS (FAR ((((i).toNat) * 9) + 1) rfl (has_at 2 rfl) (Nat.mul_pos (by omega) (by decide)) fo77_1 rfl) ?_
 refine rS (FAR ((((i).toNat) * 9) + 1) rfl (has_at 2 rfl) (Nat.mul_pos (by omega) (by decide)) fo26_0 rfl) ?_
 have hxo := hst x (List.mem_of_getElem? hx)
 have q2 := hxo.2.1
 simp only [SpanOk] at q2
 refine rS (LE1 ((i).toNat) 1 (Value.int .i64 x.Long.Lo) rfl tk3 (has_at 2 rfl) hxm rfl (by decide) rfl) ?_
 refine rS (BI rfl (b_mul ⟨by omega, by omega⟩)) ?_
 refine rS (MV rfl) ?_
 refine rS (BI rfl (b_add ⟨by omega, by omega⟩)) ?_
 refine rS (BI rfl (b_sub ⟨by omega, by omega⟩)) ?_
 refine rS (MV rfl) ?_
 refine rS (BI rfl (b_quo (by omega) (by omega) (by omega))) ?_
 refine rS (AG rfl) ?_
 refine rS (AG rfl) ?_
 refine RK hK16 ?_
 refine w_ret ?_
 refine Q2 hQ rfl rfl rfl rfl ?_
 first | rw [(least_no (i := i) he).1, (least_no (i := i) he).2] | rw [(least_out (i := i) he (by omega)).1, (least_out (i := i) he (by omega)).2] | rw [(least_none (i := i) he hi hv).1, (least_none (i := i) he hi hv).2] | rw [(least_in (i := i) he hi hv hx).1, (least_in (i := i) he hi hv hx).2]

end Go.Proofs.Ytpbgdeojcefnmaa
