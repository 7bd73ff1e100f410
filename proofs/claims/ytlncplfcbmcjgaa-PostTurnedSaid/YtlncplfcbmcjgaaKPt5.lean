/-
  The statement postTurned_said, part 5 of 5: Turned0.
  Conditions: none.
-/
import Derived.Test.YtlncplfcbmcjgaaKPt1
import Derived.Test.YtlncplfcbmcjgaaKPt2
import Derived.Test.YtlncplfcbmcjgaaKPt3
import Derived.Test.YtlncplfcbmcjgaaKPt4
import Derived.Test.YtlncplfcbmcjgaaRows
import Derived.Test.YtlncplfcbmcjgaaProg
import Derived.KernelRfl
namespace Go.Proofs.Ytlncplfcbmcjgaa
section
open Go.ChangeShapes Go.WideShapes Go.ChangeAt Go.RowKit
set_option linter.unusedVariables false
theorem cz32 : Try.prog.cellsOf 32 = 7 := by kernel_rfl
theorem cz24 : Try.prog.cellsOf 24 = 1 := by kernel_rfl
theorem cz22 : Try.prog.cellsOf 22 = 1 := by kernel_rfl
theorem cz110 : Try.prog.cellsOf 110 = 9 := by kernel_rfl
theorem cz3 : Try.prog.cellsOf 3 = 1 := by kernel_rfl
def Is3 (w : World) (n : Int) : Prop := In64 n
theorem op3 : OpR Try.prog 3 Int iC Is3 := op_i64 ut3
theorem cz28 : Try.prog.cellsOf 28 = 2 := by kernel_rfl
structure Is28 (w : World) (s : SpanV) : Prop where
  Lo : Is3 w s.Lo
  Hi : Is3 w s.Hi
theorem fx28 : fL Try.prog 28 = some [(3, 0), (3, 1)] := by kernel_rfl
theorem op28 : OpR Try.prog 28 SpanV SpanV.cells Is28 := fun {H} enc w base sp held fuel cs x h => by
  obtain ⟨hl, hp⟩ := op_parts fx28 h
  obtain ⟨n0, y0, h0⟩ := hp 0 3 0 rfl
  obtain ⟨s0, c0, r0⟩ := op3 _ _ _ _ _ _ _ _ h0
  obtain ⟨n1, y1, h1⟩ := hp 1 3 1 rfl
  obtain ⟨s1, c1, r1⟩ := op3 _ _ _ _ _ _ _ _ h1
  refine ⟨⟨s0, s1⟩, ?_, ⟨r0, r1⟩⟩
  have e1 := parts_last (hl.trans cz28) (by rw [cz3]) c1
  have e0 := parts_cons c0 (m := 1) (by rw [cz3]) e1
  exact e0
theorem cz5 : Try.prog.cellsOf 5 = 1 := by kernel_rfl
def Is5 (w : World) (n : Int) : Prop := 0 ≤ n ∧ n ≤ 255
theorem op5 : OpR Try.prog 5 Int iC_u8 Is5 := op_u8 ut5
structure Is110 (w : World) (s : StretchV) : Prop where
  Id : Is3 w s.Id
  Long : Is28 w s.Long
  Fall : Is28 w s.Fall
  Radius : Is28 w s.Radius
  Side : Is5 w s.Side
  Wall : Is3 w s.Wall
theorem fx110 : fL Try.prog 110 = some [(3, 0), (28, 1), (28, 3), (28, 5), (5, 7), (3, 8)] := by kernel_rfl
theorem op110 : OpR Try.prog 110 StretchV StretchV.cells Is110 := fun {H} enc w base sp held fuel cs x h => by
  obtain ⟨hl, hp⟩ := op_parts fx110 h
  obtain ⟨n0, y0, h0⟩ := hp 0 3 0 rfl
  obtain ⟨s0, c0, r0⟩ := op3 _ _ _ _ _ _ _ _ h0
  obtain ⟨n1, y1, h1⟩ := hp 1 28 1 rfl
  obtain ⟨s1, c1, r1⟩ := op28 _ _ _ _ _ _ _ _ h1
  obtain ⟨n2, y2, h2⟩ := hp 2 28 3 rfl
  obtain ⟨s2, c2, r2⟩ := op28 _ _ _ _ _ _ _ _ h2
  obtain ⟨n3, y3, h3⟩ := hp 3 28 5 rfl
  obtain ⟨s3, c3, r3⟩ := op28 _ _ _ _ _ _ _ _ h3
  obtain ⟨n4, y4, h4⟩ := hp 4 5 7 rfl
  obtain ⟨s4, c4, r4⟩ := op5 _ _ _ _ _ _ _ _ h4
  obtain ⟨n5, y5, h5⟩ := hp 5 3 8 rfl
  obtain ⟨s5, c5, r5⟩ := op3 _ _ _ _ _ _ _ _ h5
  refine ⟨⟨s0, s1, s2, s3, s4, s5⟩, ?_, ⟨r0, r1, r2, r3, r4, r5⟩⟩
  have e5 := parts_last (hl.trans cz110) (by rw [cz3]) c5
  have e4 := parts_cons c4 (m := 8) (by rw [cz5]) e5
  have e3 := parts_cons c3 (m := 7) (by rw [cz28]) e4
  have e2 := parts_cons c2 (m := 5) (by rw [cz28]) e3
  have e1 := parts_cons c1 (m := 3) (by rw [cz28]) e2
  have e0 := parts_cons c0 (m := 1) (by rw [cz3]) e1
  exact e0
def Is22 (w : World) (s : Slc) : Prop := ∃ l : List StretchV, s.n = l.length ∧ (rd s.a l.length 9 (l.map StretchV.cells)).holds w ∧ (∀ x ∈ l, Is110 w x) ∧ l.length ≤ maxLen ∧ s.n ≤ s.c
theorem op22 : OpR Try.prog 22 Slc (fun s => [Value.slice s.a s.n s.c]) Is22 := op_slice ut22 cz110 op110
structure Is24 (w : World) (s : TrackV) : Prop where
  Stretches : Is22 w s.Stretches
theorem fx24 : fL Try.prog 24 = some [(22, 0)] := by kernel_rfl
theorem op24 : OpR Try.prog 24 TrackV TrackV.cells Is24 := fun {H} enc w base sp held fuel cs x h => by
  obtain ⟨hl, hp⟩ := op_parts fx24 h
  obtain ⟨n0, y0, h0⟩ := hp 0 22 0 rfl
  obtain ⟨s0, c0, r0⟩ := op22 _ _ _ _ _ _ _ _ h0
  refine ⟨⟨s0⟩, ?_, ⟨r0⟩⟩
  have e0 := parts_last (hl.trans cz24) (by rw [cz22]) c0
  exact e0
theorem cz25 : Try.prog.cellsOf 25 = 1 := by kernel_rfl
theorem cz62 : Try.prog.cellsOf 62 = 7 := by kernel_rfl
theorem cz30 : Try.prog.cellsOf 30 = 3 := by kernel_rfl
structure Is30 (w : World) (s : SpotV) : Prop where
  Stretch : Is3 w s.Stretch
  Off : Is28 w s.Off
theorem fx30 : fL Try.prog 30 = some [(3, 0), (28, 1)] := by kernel_rfl
theorem op30 : OpR Try.prog 30 SpotV SpotV.cells Is30 := fun {H} enc w base sp held fuel cs x h => by
  obtain ⟨hl, hp⟩ := op_parts fx30 h
  obtain ⟨n0, y0, h0⟩ := hp 0 3 0 rfl
  obtain ⟨s0, c0, r0⟩ := op3 _ _ _ _ _ _ _ _ h0
  obtain ⟨n1, y1, h1⟩ := hp 1 28 1 rfl
  obtain ⟨s1, c1, r1⟩ := op28 _ _ _ _ _ _ _ _ h1
  refine ⟨⟨s0, s1⟩, ?_, ⟨r0, r1⟩⟩
  have e1 := parts_last (hl.trans cz30) (by rw [cz28]) c1
  have e0 := parts_cons c0 (m := 1) (by rw [cz3]) e1
  exact e0
structure Is62 (w : World) (s : PostV) : Prop where
  Id : Is3 w s.Id
  Kind : Is5 w s.Kind
  Spot : Is30 w s.Spot
  Delay : Is3 w s.Delay
  Pace : Is3 w s.Pace
theorem fx62 : fL Try.prog 62 = some [(3, 0), (5, 1), (30, 2), (3, 5), (3, 6)] := by kernel_rfl
theorem op62 : OpR Try.prog 62 PostV PostV.cells Is62 := fun {H} enc w base sp held fuel cs x h => by
  obtain ⟨hl, hp⟩ := op_parts fx62 h
  obtain ⟨n0, y0, h0⟩ := hp 0 3 0 rfl
  obtain ⟨s0, c0, r0⟩ := op3 _ _ _ _ _ _ _ _ h0
  obtain ⟨n1, y1, h1⟩ := hp 1 5 1 rfl
  obtain ⟨s1, c1, r1⟩ := op5 _ _ _ _ _ _ _ _ h1
  obtain ⟨n2, y2, h2⟩ := hp 2 30 2 rfl
  obtain ⟨s2, c2, r2⟩ := op30 _ _ _ _ _ _ _ _ h2
  obtain ⟨n3, y3, h3⟩ := hp 3 3 5 rfl
  obtain ⟨s3, c3, r3⟩ := op3 _ _ _ _ _ _ _ _ h3
  obtain ⟨n4, y4, h4⟩ := hp 4 3 6 rfl
  obtain ⟨s4, c4, r4⟩ := op3 _ _ _ _ _ _ _ _ h4
  refine ⟨⟨s0, s1, s2, s3, s4⟩, ?_, ⟨r0, r1, r2, r3, r4⟩⟩
  have e4 := parts_last (hl.trans cz62) (by rw [cz3]) c4
  have e3 := parts_cons c3 (m := 6) (by rw [cz3]) e4
  have e2 := parts_cons c2 (m := 5) (by rw [cz30]) e3
  have e1 := parts_cons c1 (m := 2) (by rw [cz5]) e2
  have e0 := parts_cons c0 (m := 1) (by rw [cz3]) e1
  exact e0
def Is25 (w : World) (s : Slc) : Prop := ∃ l : List PostV, s.n = l.length ∧ (rd s.a l.length 7 (l.map PostV.cells)).holds w ∧ (∀ x ∈ l, Is62 w x) ∧ l.length ≤ maxLen ∧ s.n ≤ s.c
theorem op25 : OpR Try.prog 25 Slc (fun s => [Value.slice s.a s.n s.c]) Is25 := op_slice ut25 cz62 op62
theorem cz26 : Try.prog.cellsOf 26 = 1 := by kernel_rfl
theorem cz57 : Try.prog.cellsOf 57 = 3 := by kernel_rfl
structure Is57 (w : World) (s : NeedV) : Prop where
  Stretch : Is3 w s.Stretch
  Kind : Is5 w s.Kind
  Seconds : Is3 w s.Seconds
theorem fx57 : fL Try.prog 57 = some [(3, 0), (5, 1), (3, 2)] := by kernel_rfl
theorem op57 : OpR Try.prog 57 NeedV NeedV.cells Is57 := fun {H} enc w base sp held fuel cs x h => by
  obtain ⟨hl, hp⟩ := op_parts fx57 h
  obtain ⟨n0, y0, h0⟩ := hp 0 3 0 rfl
  obtain ⟨s0, c0, r0⟩ := op3 _ _ _ _ _ _ _ _ h0
  obtain ⟨n1, y1, h1⟩ := hp 1 5 1 rfl
  obtain ⟨s1, c1, r1⟩ := op5 _ _ _ _ _ _ _ _ h1
  obtain ⟨n2, y2, h2⟩ := hp 2 3 2 rfl
  obtain ⟨s2, c2, r2⟩ := op3 _ _ _ _ _ _ _ _ h2
  refine ⟨⟨s0, s1, s2⟩, ?_, ⟨r0, r1, r2⟩⟩
  have e2 := parts_last (hl.trans cz57) (by rw [cz3]) c2
  have e1 := parts_cons c1 (m := 2) (by rw [cz5]) e2
  have e0 := parts_cons c0 (m := 1) (by rw [cz3]) e1
  exact e0
def Is26 (w : World) (s : Slc) : Prop := ∃ l : List NeedV, s.n = l.length ∧ (rd s.a l.length 3 (l.map NeedV.cells)).holds w ∧ (∀ x ∈ l, Is57 w x) ∧ l.length ≤ maxLen ∧ s.n ≤ s.c
theorem op26 : OpR Try.prog 26 Slc (fun s => [Value.slice s.a s.n s.c]) Is26 := op_slice ut26 cz57 op57
structure Is32 (w : World) (s : GuardV) : Prop where
  Track : Is24 w s.Track
  Posts : Is25 w s.Posts
  Needs : Is26 w s.Needs
  Tower : Is30 w s.Tower
  Radio : Is3 w s.Radio
theorem fx32 : fL Try.prog 32 = some [(24, 0), (25, 1), (26, 2), (30, 3), (3, 6)] := by kernel_rfl
theorem op32 : OpR Try.prog 32 GuardV GuardV.cells Is32 := fun {H} enc w base sp held fuel cs x h => by
  obtain ⟨hl, hp⟩ := op_parts fx32 h
  obtain ⟨n0, y0, h0⟩ := hp 0 24 0 rfl
  obtain ⟨s0, c0, r0⟩ := op24 _ _ _ _ _ _ _ _ h0
  obtain ⟨n1, y1, h1⟩ := hp 1 25 1 rfl
  obtain ⟨s1, c1, r1⟩ := op25 _ _ _ _ _ _ _ _ h1
  obtain ⟨n2, y2, h2⟩ := hp 2 26 2 rfl
  obtain ⟨s2, c2, r2⟩ := op26 _ _ _ _ _ _ _ _ h2
  obtain ⟨n3, y3, h3⟩ := hp 3 30 3 rfl
  obtain ⟨s3, c3, r3⟩ := op30 _ _ _ _ _ _ _ _ h3
  obtain ⟨n4, y4, h4⟩ := hp 4 3 6 rfl
  obtain ⟨s4, c4, r4⟩ := op3 _ _ _ _ _ _ _ _ h4
  refine ⟨⟨s0, s1, s2, s3, s4⟩, ?_, ⟨r0, r1, r2, r3, r4⟩⟩
  have e4 := parts_last (hl.trans cz32) (by rw [cz3]) c4
  have e3 := parts_cons c3 (m := 6) (by rw [cz30]) e4
  have e2 := parts_cons c2 (m := 3) (by rw [cz26]) e3
  have e1 := parts_cons c1 (m := 2) (by rw [cz25]) e2
  have e0 := parts_cons c0 (m := 1) (by rw [cz24]) e1
  exact e0
theorem own_postTurned : ownKnob Try.prog.godebug = none := by kernel_rfl
theorem laid_postTurned : laidOutB Try.prog = true := by kernel_rfl
set_option maxRecDepth 100000 in
theorem postTurned_lifted (os : Os) (started : os.Started) (H : Type) (enc : TypeId × Value → H) :
    ReturnsInHanded {} Try.checked os 12 .any (Rows.postTurnedSpec.pre6 enc Try.prog Try.f12 Rows.postTurnedRow.domain false) (Rows.postTurnedSpec.post enc Try.prog Try.f12 false true false false) := by
  refine returnsInHanded_of_change (C := Try.checked) own_postTurned started (by kernel_rfl) Try.func12
    (ChangeSpec.witness6 (enc := enc) (C := Try.checked) false ⟨#[], #[.agg #[(Value.slice none 0 0), (Value.slice none 0 0), (Value.slice none 0 0), (Value.int .i64 0), (Value.int .i64 0), (Value.int .i64 0), (Value.int .i64 0)], Value.int .u8 0], []⟩ 8 (by kernel_rfl) (by kernel_rfl) (by kernel_rfl) (by kernel_rfl)) ?_
  intro W base args ds gs before hval0 hW hcnd _
  have hval : ∀ (j : Nat) t v, Try.f12.params[j]? = some t → args[j]? = some v → Value.okWide Try.prog W .any base t v := hval0
  have hW' := hW
  obtain ⟨p, q, hA0, hV, rfl, hfz, hnd⟩ := hW
  have hA : DataW.TrodAll enc Try.prog W 0 (fun _ => true) true Try.f12.params.toList args.toList ds p := hA0
  have hA1 := hA
  rw [Try.params12] at hA hval
  obtain ⟨v0, vs0, d0, ds0, p0, q0, hargs, rfl, rfl, h0, r0⟩ := trodAll_cons hA
  obtain ⟨v1, vs1, d1, ds1, p1, q1, rfl, rfl, rfl, h1, r1⟩ := trodAll_cons r0
  obtain ⟨rfl, rfl, rfl⟩ := trodAll_nil r1
  obtain rfl : args = #[v0, v1] := by cases args; simp_all
  obtain ⟨rfl, rfl⟩ := trodVars_none hV
  obtain ⟨s0, rfl, R0⟩ := arg_struct fx32 op32 (hval 0 32 v0 rfl rfl) h0
  obtain ⟨s1, rfl, R1⟩ := arg_int (k := .u8) ut5 (hval 1 5 v1 rfl rfl) h1
  simp only [List.append_nil] at hW' hA1
  obtain ⟨d, kA, kC, pA, pC, nA, nC, rfl, hraw, hg3, _⟩ := open_guard (R1 := Is110) (R2 := Is62) (R3 := Is57) R0.Track.Stretches (fun x hx => hx.Side) R0.Posts (fun x hx => hx.Kind) R0.Needs (fun x hx => hx.Kind)
  have hb8 : 0 ≤ s1 ∧ s1 ≤ 255 := R1
  obtain ⟨bn, rfl⟩ : ∃ bn : Nat, s1 = (bn : Int) := ⟨s1.toNat, by omega⟩
  have hrun := (postTurned_c d kA kC pA pC nA nC bn hraw (by omega)).run W (by intro A hA; simp only [List.mem_cons, List.not_mem_nil, or_false] at hA; rcases hA with rfl | rfl | rfl; exact hg3.1; exact hg3.2.1; exact hg3.2.2)
  refine (hrun).mono fun e W' ⟨he, hk⟩ => ?_
  subst he
  exact ⟨_, rfl, law_post laid_postTurned hW' hA1 rfl rfl (by kernel_rfl) hk.below (by kernel_rfl) ut4⟩
/-- the statement -/
theorem postTurned_said : Rows.PostTurnedSaid :=
  OpenClaim.holds_of_wide 12 Try.f12 rfl rfl rfl rfl rfl rfl rfl ⟨rfl, rfl, rfl, rfl, rfl⟩ rfl rfl rfl rfl rfl (by kernel_rfl) Try.func12 (by kernel_rfl)
    (of_decide_eq_true (by kernel_rfl)) (by unfold Func.isWrapper; first | (rw [if_pos (by decide +kernel)]; kernel_rfl) | (rw [if_neg (by decide +kernel)]; exact ⟨rfl, rfl⟩))
    (fun os started H enc _ => postTurned_lifted os started H enc)
#print axioms postTurned_said
end
end Go.Proofs.Ytlncplfcbmcjgaa
