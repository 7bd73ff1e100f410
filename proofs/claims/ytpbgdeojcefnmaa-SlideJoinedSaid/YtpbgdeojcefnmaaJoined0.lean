/-
  kreisel/kreisellaw03.SlideJoined returns true, whatever the input, and what came in reads as it did: the given statement Rows.SlideJoinedSaid.
  Conditions: none.
-/
import Derived.Test.YtpbgdeojcefnmaaRows
import Derived.Test.YtpbgdeojcefnmaaProg
import Derived.Test.YtpbgdeojcefnmaaOpen
import Derived.Test.YtpbgdeojcefnmaaW36
import Derived.KernelRfl
namespace Go.Proofs.Ytpbgdeojcefnmaa
open Go.ChangeShapes Go.WideShapes Go.ChangeAt Go.RowKit
set_option linter.unusedVariables false

theorem cz24 : Try.prog.cellsOf 24 = 1 := by kernel_rfl
theorem cz22 : Try.prog.cellsOf 22 = 1 := by kernel_rfl
theorem cz77 : Try.prog.cellsOf 77 = 9 := by kernel_rfl
theorem cz3 : Try.prog.cellsOf 3 = 1 := by kernel_rfl
def Is3 (w : World) (n : Int) : Prop := In64 n
theorem op3 : Op Try.prog 3 Int iC Is3 := op_i64 ut3
theorem cz26 : Try.prog.cellsOf 26 = 2 := by kernel_rfl
structure Is26 (w : World) (s : SpanV) : Prop where
  Lo : Is3 w s.Lo
  Hi : Is3 w s.Hi
theorem fx26 : fL Try.prog 26 = some [(3, 0), (3, 1)] := by kernel_rfl
theorem op26 : Op Try.prog 26 SpanV SpanV.cells Is26 := fun {H} enc w base sp held fuel cs x h => by
  obtain ⟨hl, hp⟩ := op_parts fx26 h
  obtain ⟨n0, y0, h0⟩ := hp 0 3 0 rfl
  obtain ⟨s0, c0, r0⟩ := op3 _ _ _ _ _ _ _ _ h0
  obtain ⟨n1, y1, h1⟩ := hp 1 3 1 rfl
  obtain ⟨s1, c1, r1⟩ := op3 _ _ _ _ _ _ _ _ h1
  refine ⟨⟨s0, s1⟩, ?_, ⟨r0, r1⟩⟩
  have e1 := parts_last (hl.trans cz26) (by rw [cz3]) c1
  have e0 := parts_cons c0 (m := 1) (by rw [cz3]) e1
  exact e0
theorem cz5 : Try.prog.cellsOf 5 = 1 := by kernel_rfl
def Is5 (w : World) (n : Int) : Prop := 0 ≤ n ∧ n ≤ 255
theorem op5 : Op Try.prog 5 Int iC_u8 Is5 := op_u8 ut5
structure Is77 (w : World) (s : StretchV) : Prop where
  Id : Is3 w s.Id
  Long : Is26 w s.Long
  Fall : Is26 w s.Fall
  Radius : Is26 w s.Radius
  Side : Is5 w s.Side
  Wall : Is3 w s.Wall
theorem fx77 : fL Try.prog 77 = some [(3, 0), (26, 1), (26, 3), (26, 5), (5, 7), (3, 8)] := by kernel_rfl
theorem op77 : Op Try.prog 77 StretchV StretchV.cells Is77 := fun {H} enc w base sp held fuel cs x h => by
  obtain ⟨hl, hp⟩ := op_parts fx77 h
  obtain ⟨n0, y0, h0⟩ := hp 0 3 0 rfl
  obtain ⟨s0, c0, r0⟩ := op3 _ _ _ _ _ _ _ _ h0
  obtain ⟨n1, y1, h1⟩ := hp 1 26 1 rfl
  obtain ⟨s1, c1, r1⟩ := op26 _ _ _ _ _ _ _ _ h1
  obtain ⟨n2, y2, h2⟩ := hp 2 26 3 rfl
  obtain ⟨s2, c2, r2⟩ := op26 _ _ _ _ _ _ _ _ h2
  obtain ⟨n3, y3, h3⟩ := hp 3 26 5 rfl
  obtain ⟨s3, c3, r3⟩ := op26 _ _ _ _ _ _ _ _ h3
  obtain ⟨n4, y4, h4⟩ := hp 4 5 7 rfl
  obtain ⟨s4, c4, r4⟩ := op5 _ _ _ _ _ _ _ _ h4
  obtain ⟨n5, y5, h5⟩ := hp 5 3 8 rfl
  obtain ⟨s5, c5, r5⟩ := op3 _ _ _ _ _ _ _ _ h5
  refine ⟨⟨s0, s1, s2, s3, s4, s5⟩, ?_, ⟨r0, r1, r2, r3, r4, r5⟩⟩
  have e5 := parts_last (hl.trans cz77) (by rw [cz3]) c5
  have e4 := parts_cons c4 (m := 8) (by rw [cz5]) e5
  have e3 := parts_cons c3 (m := 7) (by rw [cz26]) e4
  have e2 := parts_cons c2 (m := 5) (by rw [cz26]) e3
  have e1 := parts_cons c1 (m := 3) (by rw [cz26]) e2
  have e0 := parts_cons c0 (m := 1) (by rw [cz3]) e1
  exact e0
def Is22 (w : World) (s : Slc) : Prop := ∃ l : List StretchV, s.n = l.length ∧ (rd s.a l.length 9 (l.map StretchV.cells)).holds w ∧ (∀ x ∈ l, Is77 w x) ∧ l.length ≤ maxLen
theorem op22 : Op Try.prog 22 Slc (fun s => [Value.slice s.a s.n s.c]) Is22 := op_slice ut22 cz77 op77
structure Is24 (w : World) (s : TrackV) : Prop where
  Stretches : Is22 w s.Stretches
theorem fx24 : fL Try.prog 24 = some [(22, 0)] := by kernel_rfl
theorem op24 : Op Try.prog 24 TrackV TrackV.cells Is24 := fun {H} enc w base sp held fuel cs x h => by
  obtain ⟨hl, hp⟩ := op_parts fx24 h
  obtain ⟨n0, y0, h0⟩ := hp 0 22 0 rfl
  obtain ⟨s0, c0, r0⟩ := op22 _ _ _ _ _ _ _ _ h0
  refine ⟨⟨s0⟩, ?_, ⟨r0⟩⟩
  have e0 := parts_last (hl.trans cz24) (by rw [cz22]) c0
  exact e0
theorem cz28 : Try.prog.cellsOf 28 = 11 := by kernel_rfl
structure Is28 (w : World) (s : SledV) : Prop where
  Class : Is5 w s.Class
  Start : Is26 w s.Start
  Rub : Is26 w s.Rub
  Drag : Is26 w s.Drag
  Weight : Is26 w s.Weight
  Steer : Is26 w s.Steer
theorem fx28 : fL Try.prog 28 = some [(5, 0), (26, 1), (26, 3), (26, 5), (26, 7), (26, 9)] := by kernel_rfl
theorem op28 : Op Try.prog 28 SledV SledV.cells Is28 := fun {H} enc w base sp held fuel cs x h => by
  obtain ⟨hl, hp⟩ := op_parts fx28 h
  obtain ⟨n0, y0, h0⟩ := hp 0 5 0 rfl
  obtain ⟨s0, c0, r0⟩ := op5 _ _ _ _ _ _ _ _ h0
  obtain ⟨n1, y1, h1⟩ := hp 1 26 1 rfl
  obtain ⟨s1, c1, r1⟩ := op26 _ _ _ _ _ _ _ _ h1
  obtain ⟨n2, y2, h2⟩ := hp 2 26 3 rfl
  obtain ⟨s2, c2, r2⟩ := op26 _ _ _ _ _ _ _ _ h2
  obtain ⟨n3, y3, h3⟩ := hp 3 26 5 rfl
  obtain ⟨s3, c3, r3⟩ := op26 _ _ _ _ _ _ _ _ h3
  obtain ⟨n4, y4, h4⟩ := hp 4 26 7 rfl
  obtain ⟨s4, c4, r4⟩ := op26 _ _ _ _ _ _ _ _ h4
  obtain ⟨n5, y5, h5⟩ := hp 5 26 9 rfl
  obtain ⟨s5, c5, r5⟩ := op26 _ _ _ _ _ _ _ _ h5
  refine ⟨⟨s0, s1, s2, s3, s4, s5⟩, ?_, ⟨r0, r1, r2, r3, r4, r5⟩⟩
  have e5 := parts_last (hl.trans cz28) (by rw [cz26]) c5
  have e4 := parts_cons c4 (m := 9) (by rw [cz26]) e5
  have e3 := parts_cons c3 (m := 7) (by rw [cz26]) e4
  have e2 := parts_cons c2 (m := 5) (by rw [cz26]) e3
  have e1 := parts_cons c1 (m := 3) (by rw [cz26]) e2
  have e0 := parts_cons c0 (m := 1) (by rw [cz5]) e1
  exact e0



theorem own_slideJoined : ownKnob Try.prog.godebug = none := by kernel_rfl
theorem laid_slideJoined : laidOutB Try.prog = true := by kernel_rfl
set_option maxRecDepth 100000 in
theorem slideJoined_lifted (os : Os) (started : os.Started) (H : Type) (enc : TypeId × Value → H) :
    ReturnsInHanded {} Try.checked os 12 .any (Rows.slideJoinedSpec.pre6 enc Try.prog Try.f12 Rows.slideJoinedRow.domain false) (Rows.slideJoinedSpec.post enc Try.prog Try.f12 false true false false) := by
  refine returnsInHanded_of_change (C := Try.checked) own_slideJoined started (by kernel_rfl) Try.func12
    (ChangeSpec.witness6 (enc := enc) (C := Try.checked) false ⟨#[], #[.agg #[(Value.slice none 0 0)], .agg #[(Value.slice none 0 0)], .agg #[(Value.int .u8 0), (Value.int .i64 0), (Value.int .i64 0), (Value.int .i64 0), (Value.int .i64 0), (Value.int .i64 0), (Value.int .i64 0), (Value.int .i64 0), (Value.int .i64 0), (Value.int .i64 0), (Value.int .i64 0)]], []⟩ 8 (by kernel_rfl) (by kernel_rfl) (by kernel_rfl) (by kernel_rfl)) ?_
  intro W base args ds gs before hval0 hW hcnd _
  have hval : ∀ (j : Nat) t v, Try.f12.params[j]? = some t → args[j]? = some v → Value.okWide Try.prog W .any base t v := hval0
  have hW' := hW
  obtain ⟨p, q, hA0, hV, rfl, hfz, hnd⟩ := hW
  have hA : DataW.TrodAll enc Try.prog W 0 (fun _ => true) true Try.f12.params.toList args.toList ds p := hA0
  have hA1 := hA
  rw [Try.params12] at hA hval
  obtain ⟨v0, vs0, d0, ds0, p0, q0, hargs, rfl, rfl, h0, r0⟩ := trodAll_cons hA
  obtain ⟨v1, vs1, d1, ds1, p1, q1, rfl, rfl, rfl, h1, r1⟩ := trodAll_cons r0
  obtain ⟨v2, vs2, d2, ds2, p2, q2, rfl, rfl, rfl, h2, r2⟩ := trodAll_cons r1
  obtain ⟨rfl, rfl, rfl⟩ := trodAll_nil r2
  obtain rfl : args = #[v0, v1, v2] := by cases args; simp_all
  obtain ⟨rfl, rfl⟩ := trodVars_none hV
  obtain ⟨s0, rfl, R0⟩ := arg_struct fx24 op24 (hval 0 24 v0 rfl rfl) h0
  obtain ⟨s1, rfl, R1⟩ := arg_struct fx24 op24 (hval 1 24 v1 rfl rfl) h1
  obtain ⟨s2, rfl, R2⟩ := arg_struct fx28 op28 (hval 2 28 v2 rfl rfl) h2
  simp only [List.append_nil] at hW' hA1
  obtain ⟨⟨tA, tn, tC⟩⟩ := s0
  obtain ⟨l, hn, hrd, hall, hmax⟩ := R0.Stretches
  simp only at hn hrd
  subst hn
  obtain ⟨⟨uA, un, uC⟩⟩ := s1
  obtain ⟨lu, hnu, hrdu, hallu, hmaxu⟩ := R1.Stretches
  simp only at hnu hrdu
  subst hnu
  have hrun := (slideJoined_c l tA tC lu uA uC s2 (fun x hx => (hall x hx).Side) (fun x hx => (hallu x hx).Side) R2.Class).run W (by intro A hA; simp only [List.mem_cons, List.not_mem_nil, or_false] at hA; rcases hA with rfl | rfl; exact hrd; exact hrdu)
  refine (hrun).mono fun e W' ⟨he, hk⟩ => ?_
  subst he
  exact ⟨_, rfl, law_post laid_slideJoined hW' hA1 rfl rfl (by kernel_rfl) hk.below (by kernel_rfl) ut4⟩

/-- the statement -/
theorem slideJoined_said : Rows.SlideJoinedSaid :=
  OpenClaim.holds_of_wide 12 Try.f12 rfl rfl rfl rfl rfl rfl rfl ⟨rfl, rfl, rfl, rfl, rfl⟩ rfl rfl rfl rfl rfl (by kernel_rfl) Try.func12 (by kernel_rfl)
    (of_decide_eq_true (by kernel_rfl)) (by unfold Func.isWrapper; first | (rw [if_pos (by decide +kernel)]; kernel_rfl) | (rw [if_neg (by decide +kernel)]; exact ⟨rfl, rfl⟩))
    (fun os started H enc _ => slideJoined_lifted os started H enc)
#print axioms slideJoined_said
end Go.Proofs.Ytpbgdeojcefnmaa
