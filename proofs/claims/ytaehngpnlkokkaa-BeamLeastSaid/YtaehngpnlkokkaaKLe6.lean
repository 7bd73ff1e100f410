/-
  The statement beamLeast_said, part 6 of 6: Least0.
  Conditions: none.
-/
import Derived.Test.YtaehngpnlkokkaaKLe1
import Derived.Test.YtaehngpnlkokkaaKLe2
import Derived.Test.YtaehngpnlkokkaaKLe3
import Derived.Test.YtaehngpnlkokkaaKLe4
import Derived.Test.YtaehngpnlkokkaaKLe5
import Derived.Test.YtaehngpnlkokkaaRows
import Derived.Test.YtaehngpnlkokkaaProg
import Derived.KernelRfl
namespace Go.Proofs.Ytaehngpnlkokkaa
section
open Go.ChangeShapes Go.WideShapes Go.ChangeAt Go.RowKit
set_option linter.unusedVariables false
theorem cz28 : Try.prog.cellsOf 28 = 7 := by kernel_rfl
theorem cz24 : Try.prog.cellsOf 24 = 1 := by kernel_rfl
theorem cz22 : Try.prog.cellsOf 22 = 1 := by kernel_rfl
theorem cz126 : Try.prog.cellsOf 126 = 9 := by kernel_rfl
theorem cz3 : Try.prog.cellsOf 3 = 1 := by kernel_rfl
def Is3 (w : World) (n : Int) : Prop := In64 n
theorem op3 : OpR Try.prog 3 Int iC Is3 := op_i64 ut3
theorem cz34 : Try.prog.cellsOf 34 = 2 := by kernel_rfl
structure Is34 (w : World) (s : SpanV) : Prop where
  Lo : Is3 w s.Lo
  Hi : Is3 w s.Hi
theorem fx34 : fL Try.prog 34 = some [(3, 0), (3, 1)] := by kernel_rfl
theorem op34 : OpR Try.prog 34 SpanV SpanV.cells Is34 := fun {H} enc w base sp held fuel cs x h => by
  obtain ⟨hl, hp⟩ := op_parts fx34 h
  obtain ⟨n0, y0, h0⟩ := hp 0 3 0 rfl
  obtain ⟨s0, c0, r0⟩ := op3 _ _ _ _ _ _ _ _ h0
  obtain ⟨n1, y1, h1⟩ := hp 1 3 1 rfl
  obtain ⟨s1, c1, r1⟩ := op3 _ _ _ _ _ _ _ _ h1
  refine ⟨⟨s0, s1⟩, ?_, ⟨r0, r1⟩⟩
  have e1 := parts_last (hl.trans cz34) (by rw [cz3]) c1
  have e0 := parts_cons c0 (m := 1) (by rw [cz3]) e1
  exact e0
theorem cz5 : Try.prog.cellsOf 5 = 1 := by kernel_rfl
def Is5 (w : World) (n : Int) : Prop := 0 ≤ n ∧ n ≤ 255
theorem op5 : OpR Try.prog 5 Int iC_u8 Is5 := op_u8 ut5
structure Is126 (w : World) (s : StretchV) : Prop where
  Id : Is3 w s.Id
  Long : Is34 w s.Long
  Fall : Is34 w s.Fall
  Radius : Is34 w s.Radius
  Side : Is5 w s.Side
  Wall : Is3 w s.Wall
theorem fx126 : fL Try.prog 126 = some [(3, 0), (34, 1), (34, 3), (34, 5), (5, 7), (3, 8)] := by kernel_rfl
theorem op126 : OpR Try.prog 126 StretchV StretchV.cells Is126 := fun {H} enc w base sp held fuel cs x h => by
  obtain ⟨hl, hp⟩ := op_parts fx126 h
  obtain ⟨n0, y0, h0⟩ := hp 0 3 0 rfl
  obtain ⟨s0, c0, r0⟩ := op3 _ _ _ _ _ _ _ _ h0
  obtain ⟨n1, y1, h1⟩ := hp 1 34 1 rfl
  obtain ⟨s1, c1, r1⟩ := op34 _ _ _ _ _ _ _ _ h1
  obtain ⟨n2, y2, h2⟩ := hp 2 34 3 rfl
  obtain ⟨s2, c2, r2⟩ := op34 _ _ _ _ _ _ _ _ h2
  obtain ⟨n3, y3, h3⟩ := hp 3 34 5 rfl
  obtain ⟨s3, c3, r3⟩ := op34 _ _ _ _ _ _ _ _ h3
  obtain ⟨n4, y4, h4⟩ := hp 4 5 7 rfl
  obtain ⟨s4, c4, r4⟩ := op5 _ _ _ _ _ _ _ _ h4
  obtain ⟨n5, y5, h5⟩ := hp 5 3 8 rfl
  obtain ⟨s5, c5, r5⟩ := op3 _ _ _ _ _ _ _ _ h5
  refine ⟨⟨s0, s1, s2, s3, s4, s5⟩, ?_, ⟨r0, r1, r2, r3, r4, r5⟩⟩
  have e5 := parts_last (hl.trans cz126) (by rw [cz3]) c5
  have e4 := parts_cons c4 (m := 8) (by rw [cz5]) e5
  have e3 := parts_cons c3 (m := 7) (by rw [cz34]) e4
  have e2 := parts_cons c2 (m := 5) (by rw [cz34]) e3
  have e1 := parts_cons c1 (m := 3) (by rw [cz34]) e2
  have e0 := parts_cons c0 (m := 1) (by rw [cz3]) e1
  exact e0
def Is22 (w : World) (s : Slc) : Prop := ∃ l : List StretchV, s.n = l.length ∧ (rd s.a l.length 9 (l.map StretchV.cells)).holds w ∧ (∀ x ∈ l, Is126 w x) ∧ l.length ≤ maxLen ∧ s.n ≤ s.c
theorem op22 : OpR Try.prog 22 Slc (fun s => [Value.slice s.a s.n s.c]) Is22 := op_slice ut22 cz126 op126
structure Is24 (w : World) (s : TrackV) : Prop where
  Stretches : Is22 w s.Stretches
theorem fx24 : fL Try.prog 24 = some [(22, 0)] := by kernel_rfl
theorem op24 : OpR Try.prog 24 TrackV TrackV.cells Is24 := fun {H} enc w base sp held fuel cs x h => by
  obtain ⟨hl, hp⟩ := op_parts fx24 h
  obtain ⟨n0, y0, h0⟩ := hp 0 22 0 rfl
  obtain ⟨s0, c0, r0⟩ := op22 _ _ _ _ _ _ _ _ h0
  refine ⟨⟨s0⟩, ?_, ⟨r0⟩⟩
  have e0 := parts_last (hl.trans cz24) (by rw [cz22]) c0
  exact e0
theorem cz25 : Try.prog.cellsOf 25 = 1 := by kernel_rfl
theorem cz64 : Try.prog.cellsOf 64 = 2 := by kernel_rfl
theorem cz62 : Try.prog.cellsOf 62 = 1 := by kernel_rfl
theorem cz61 : Try.prog.cellsOf 61 = 3 := by kernel_rfl
structure Is61 (w : World) (s : SyncV) : Prop where
  At : Is3 w s.At
  Ahead : Is34 w s.Ahead
theorem fx61 : fL Try.prog 61 = some [(3, 0), (34, 1)] := by kernel_rfl
theorem op61 : OpR Try.prog 61 SyncV SyncV.cells Is61 := fun {H} enc w base sp held fuel cs x h => by
  obtain ⟨hl, hp⟩ := op_parts fx61 h
  obtain ⟨n0, y0, h0⟩ := hp 0 3 0 rfl
  obtain ⟨s0, c0, r0⟩ := op3 _ _ _ _ _ _ _ _ h0
  obtain ⟨n1, y1, h1⟩ := hp 1 34 1 rfl
  obtain ⟨s1, c1, r1⟩ := op34 _ _ _ _ _ _ _ _ h1
  refine ⟨⟨s0, s1⟩, ?_, ⟨r0, r1⟩⟩
  have e1 := parts_last (hl.trans cz61) (by rw [cz34]) c1
  have e0 := parts_cons c0 (m := 1) (by rw [cz3]) e1
  exact e0
def Is62 (w : World) (s : Slc) : Prop := ∃ l : List SyncV, s.n = l.length ∧ (rd s.a l.length 3 (l.map SyncV.cells)).holds w ∧ (∀ x ∈ l, Is61 w x) ∧ l.length ≤ maxLen ∧ s.n ≤ s.c
theorem op62 : OpR Try.prog 62 Slc (fun s => [Value.slice s.a s.n s.c]) Is62 := op_slice ut62 cz61 op61
structure Is64 (w : World) (s : ClockV) : Prop where
  Drift : Is3 w s.Drift
  Syncs : Is62 w s.Syncs
theorem fx64 : fL Try.prog 64 = some [(3, 0), (62, 1)] := by kernel_rfl
theorem op64 : OpR Try.prog 64 ClockV ClockV.cells Is64 := fun {H} enc w base sp held fuel cs x h => by
  obtain ⟨hl, hp⟩ := op_parts fx64 h
  obtain ⟨n0, y0, h0⟩ := hp 0 3 0 rfl
  obtain ⟨s0, c0, r0⟩ := op3 _ _ _ _ _ _ _ _ h0
  obtain ⟨n1, y1, h1⟩ := hp 1 62 1 rfl
  obtain ⟨s1, c1, r1⟩ := op62 _ _ _ _ _ _ _ _ h1
  refine ⟨⟨s0, s1⟩, ?_, ⟨r0, r1⟩⟩
  have e1 := parts_last (hl.trans cz64) (by rw [cz62]) c1
  have e0 := parts_cons c0 (m := 1) (by rw [cz3]) e1
  exact e0
def Is25 (w : World) (s : Slc) : Prop := ∃ l : List ClockV, s.n = l.length ∧ (rd s.a l.length 2 (l.map ClockV.cells)).holds w ∧ (∀ x ∈ l, Is64 w x) ∧ l.length ≤ maxLen ∧ s.n ≤ s.c
theorem op25 : OpR Try.prog 25 Slc (fun s => [Value.slice s.a s.n s.c]) Is25 := op_slice ut25 cz64 op64
theorem cz26 : Try.prog.cellsOf 26 = 1 := by kernel_rfl
theorem cz55 : Try.prog.cellsOf 55 = 4 := by kernel_rfl
theorem cz53 : Try.prog.cellsOf 53 = 3 := by kernel_rfl
structure Is53 (w : World) (s : SpotV) : Prop where
  Stretch : Is3 w s.Stretch
  Off : Is34 w s.Off
theorem fx53 : fL Try.prog 53 = some [(3, 0), (34, 1)] := by kernel_rfl
theorem op53 : OpR Try.prog 53 SpotV SpotV.cells Is53 := fun {H} enc w base sp held fuel cs x h => by
  obtain ⟨hl, hp⟩ := op_parts fx53 h
  obtain ⟨n0, y0, h0⟩ := hp 0 3 0 rfl
  obtain ⟨s0, c0, r0⟩ := op3 _ _ _ _ _ _ _ _ h0
  obtain ⟨n1, y1, h1⟩ := hp 1 34 1 rfl
  obtain ⟨s1, c1, r1⟩ := op34 _ _ _ _ _ _ _ _ h1
  refine ⟨⟨s0, s1⟩, ?_, ⟨r0, r1⟩⟩
  have e1 := parts_last (hl.trans cz53) (by rw [cz34]) c1
  have e0 := parts_cons c0 (m := 1) (by rw [cz3]) e1
  exact e0
structure Is55 (w : World) (s : BeamV) : Prop where
  Spot : Is53 w s.Spot
  Clock : Is3 w s.Clock
theorem fx55 : fL Try.prog 55 = some [(53, 0), (3, 3)] := by kernel_rfl
theorem op55 : OpR Try.prog 55 BeamV BeamV.cells Is55 := fun {H} enc w base sp held fuel cs x h => by
  obtain ⟨hl, hp⟩ := op_parts fx55 h
  obtain ⟨n0, y0, h0⟩ := hp 0 53 0 rfl
  obtain ⟨s0, c0, r0⟩ := op53 _ _ _ _ _ _ _ _ h0
  obtain ⟨n1, y1, h1⟩ := hp 1 3 3 rfl
  obtain ⟨s1, c1, r1⟩ := op3 _ _ _ _ _ _ _ _ h1
  refine ⟨⟨s0, s1⟩, ?_, ⟨r0, r1⟩⟩
  have e1 := parts_last (hl.trans cz55) (by rw [cz3]) c1
  have e0 := parts_cons c0 (m := 3) (by rw [cz53]) e1
  exact e0
def Is26 (w : World) (s : Slc) : Prop := ∃ l : List BeamV, s.n = l.length ∧ (rd s.a l.length 4 (l.map BeamV.cells)).holds w ∧ (∀ x ∈ l, Is55 w x) ∧ l.length ≤ maxLen ∧ s.n ≤ s.c
theorem op26 : OpR Try.prog 26 Slc (fun s => [Value.slice s.a s.n s.c]) Is26 := op_slice ut26 cz55 op55
structure Is28 (w : World) (s : LineV) : Prop where
  Track : Is24 w s.Track
  Fast : Is3 w s.Fast
  Clocks : Is25 w s.Clocks
  Beams : Is26 w s.Beams
  Finish : Is3 w s.Finish
  Fakes : Is3 w s.Fakes
  Misses : Is3 w s.Misses
theorem fx28 : fL Try.prog 28 = some [(24, 0), (3, 1), (25, 2), (26, 3), (3, 4), (3, 5), (3, 6)] := by kernel_rfl
theorem op28 : OpR Try.prog 28 LineV LineV.cells Is28 := fun {H} enc w base sp held fuel cs x h => by
  obtain ⟨hl, hp⟩ := op_parts fx28 h
  obtain ⟨n0, y0, h0⟩ := hp 0 24 0 rfl
  obtain ⟨s0, c0, r0⟩ := op24 _ _ _ _ _ _ _ _ h0
  obtain ⟨n1, y1, h1⟩ := hp 1 3 1 rfl
  obtain ⟨s1, c1, r1⟩ := op3 _ _ _ _ _ _ _ _ h1
  obtain ⟨n2, y2, h2⟩ := hp 2 25 2 rfl
  obtain ⟨s2, c2, r2⟩ := op25 _ _ _ _ _ _ _ _ h2
  obtain ⟨n3, y3, h3⟩ := hp 3 26 3 rfl
  obtain ⟨s3, c3, r3⟩ := op26 _ _ _ _ _ _ _ _ h3
  obtain ⟨n4, y4, h4⟩ := hp 4 3 4 rfl
  obtain ⟨s4, c4, r4⟩ := op3 _ _ _ _ _ _ _ _ h4
  obtain ⟨n5, y5, h5⟩ := hp 5 3 5 rfl
  obtain ⟨s5, c5, r5⟩ := op3 _ _ _ _ _ _ _ _ h5
  obtain ⟨n6, y6, h6⟩ := hp 6 3 6 rfl
  obtain ⟨s6, c6, r6⟩ := op3 _ _ _ _ _ _ _ _ h6
  refine ⟨⟨s0, s1, s2, s3, s4, s5, s6⟩, ?_, ⟨r0, r1, r2, r3, r4, r5, r6⟩⟩
  have e6 := parts_last (hl.trans cz28) (by rw [cz3]) c6
  have e5 := parts_cons c5 (m := 6) (by rw [cz3]) e6
  have e4 := parts_cons c4 (m := 5) (by rw [cz3]) e5
  have e3 := parts_cons c3 (m := 4) (by rw [cz26]) e4
  have e2 := parts_cons c2 (m := 3) (by rw [cz25]) e3
  have e1 := parts_cons c1 (m := 2) (by rw [cz3]) e2
  have e0 := parts_cons c0 (m := 1) (by rw [cz24]) e1
  exact e0
theorem own_beamLeast : ownKnob Try.prog.godebug = none := by kernel_rfl
theorem laid_beamLeast : laidOutB Try.prog = true := by kernel_rfl
set_option maxRecDepth 100000 in
theorem beamLeast_lifted (os : Os) (started : os.Started) (H : Type) (enc : TypeId × Value → H) :
    ReturnsInHanded {} Try.checked os 9 .any (Rows.beamLeastSpec.pre6 enc Try.prog Try.f9 Rows.beamLeastRow.domain false) (Rows.beamLeastSpec.post enc Try.prog Try.f9 false true false false) := by
  refine returnsInHanded_of_change (C := Try.checked) own_beamLeast started (by kernel_rfl) Try.func9
    (ChangeSpec.witness6 (enc := enc) (C := Try.checked) false ⟨#[], #[.agg #[(Value.slice none 0 0), (Value.int .i64 0), (Value.slice none 0 0), (Value.slice none 0 0), (Value.int .i64 0), (Value.int .i64 0), (Value.int .i64 0)]], []⟩ 8 (by kernel_rfl) (by kernel_rfl) (by kernel_rfl) (by kernel_rfl)) ?_
  intro W base args ds gs before hval0 hW hcnd _
  have hval : ∀ (j : Nat) t v, Try.f9.params[j]? = some t → args[j]? = some v → Value.okWide Try.prog W .any base t v := hval0
  have hW' := hW
  obtain ⟨p, q, hA0, hV, rfl, hfz, hnd⟩ := hW
  have hA : DataW.TrodAll enc Try.prog W 0 (fun _ => true) true Try.f9.params.toList args.toList ds p := hA0
  have hA1 := hA
  rw [Try.params9] at hA hval
  obtain ⟨v0, vs0, d0, ds0, p0, q0, hargs, rfl, rfl, h0, r0⟩ := trodAll_cons hA
  obtain ⟨rfl, rfl, rfl⟩ := trodAll_nil r0
  obtain rfl : args = #[v0] := by cases args; simp_all
  obtain ⟨rfl, rfl⟩ := trodVars_none hV
  obtain ⟨s0, rfl, R0⟩ := arg_struct fx28 op28 (hval 0 28 v0 rfl rfl) h0
  simp only [List.append_nil] at hW' hA1
  obtain ⟨l, az, kA, kC, cA, cC, bA, bC, rfl, hraw, hl4, _⟩ := open_line (R1 := Is126) (R2 := Is64) (R3 := Is55) (R4 := Is61) R0.Track.Stretches (fun x hx => hx.Side) R0.Clocks (fun x hx => hx.Syncs) R0.Beams
  have hrun := (beamLeast_c l kA kC az cA cC bA bC hraw).run W (by intro A hA; simp only [List.mem_cons, List.not_mem_nil, or_false] at hA; rcases hA with rfl | rfl | rfl | rfl; exact hl4.1; exact hl4.2.1; exact hl4.2.2.1; exact hl4.2.2.2)
  refine (hrun).mono fun e W' ⟨he, hk⟩ => ?_
  subst he
  exact ⟨_, rfl, law_post laid_beamLeast hW' hA1 rfl rfl (by kernel_rfl) hk.below (by kernel_rfl) ut4⟩
/-- the statement -/
theorem beamLeast_said : Rows.BeamLeastSaid :=
  OpenClaim.holds_of_wide 9 Try.f9 rfl rfl rfl rfl rfl rfl rfl ⟨rfl, rfl, rfl, rfl, rfl⟩ rfl rfl rfl rfl rfl (by kernel_rfl) Try.func9 (by kernel_rfl)
    (of_decide_eq_true (by kernel_rfl)) (by unfold Func.isWrapper; first | (rw [if_pos (by decide +kernel)]; kernel_rfl) | (rw [if_neg (by decide +kernel)]; exact ⟨rfl, rfl⟩))
    (fun os started H enc _ => beamLeast_lifted os started H enc)
#print axioms beamLeast_said
end
end Go.Proofs.Ytaehngpnlkokkaa
