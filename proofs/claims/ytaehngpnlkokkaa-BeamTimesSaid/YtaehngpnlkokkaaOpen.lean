/-
  The last step: an argument's reading laid open to Lean's own values; a law's row from the law's contract.
  No condition: the theorems hold over whatever program.
-/
import Derived.Test.YtaehngpnlkokkaaDraw
import Derived.Test.YtaehngpnlkokkaaAux
import Derived.ProofKit
import Derived.Deep.Slices
import Derived.Below
import Derived.ChangeSame
namespace Go.Proofs.Ytaehngpnlkokkaa
open Go.ChangeShapes Go.WideShapes Go.ChangeAt Go.RowKit
set_option linter.unusedVariables false

/-- whatever reads at a type has these cells, and this is so of memory -/
def Op (P : Program) (t : TypeId) (α : Type) (cells : α → List Value) (R : World → α → Prop) : Prop :=
  ∀ {H : Type} (enc : TypeId × Value → H) (w : World) (base : Nat) (sp : Nat → Bool) (held : Bool) (fuel : Nat) (cs : List Value) (x : DataW H × List MemPlace),
    DataW.trod enc P w base sp held fuel t cs = some x → ∃ s : α, cs = cells s ∧ R w s
theorem op_int {P : Program} {t : TypeId} {k : IntKind} (ht : P.underlying t = some (.int k)) : Op P t Int (fun n => [.int k n]) (fun _ n => k.min ≤ n ∧ n ≤ k.max) := fun {H} enc w base sp held fuel cs x h => by
  obtain ⟨n, rfl, _, hw⟩ := DataW.trod_int ht h
  refine ⟨n, rfl, ?_⟩
  simpa [Lit.wf] using hw
theorem op_i64 {P : Program} {t : TypeId} (ht : P.underlying t = some (.int .i64)) : Op P t Int iC (fun _ n => In64 n) := op_int ht
theorem op_u8 {P : Program} {t : TypeId} (ht : P.underlying t = some (.int .u8)) : Op P t Int iC_u8 (fun _ n => 0 ≤ n ∧ n ≤ 255) := op_int ht
def iC_u16 (x : Int) : List Value := [.int .u16 x]
theorem op_u16 {P : Program} {t : TypeId} (ht : P.underlying t = some (.int .u16)) : Op P t Int iC_u16 (fun _ n => 0 ≤ n ∧ n ≤ 65535) := op_int ht
theorem op_u32 {P : Program} {t : TypeId} (ht : P.underlying t = some (.int .u32)) : Op P t Int iC_u32 (fun _ n => 0 ≤ n ∧ n ≤ 4294967295) := op_int ht
theorem op_bool {P : Program} {t : TypeId} (ht : P.underlying t = some .bool) : Op P t Bool (fun n => [.bool n]) (fun _ _ => True) := fun {H} enc w base sp held fuel cs x h => by
  obtain ⟨n, rfl, _⟩ := DataW.trod_bool ht h
  exact ⟨n, rfl, trivial⟩
theorem op_parts {H : Type} {enc : TypeId × Value → H} {P : Program} {w : World} {base : Nat} {sp : Nat → Bool} {held : Bool} {fuel t : Nat} {cs : List Value} {x : DataW H × List MemPlace} {l : List (Nat × Nat)} (hl : fL P t = some l)
    (h : DataW.trod enc P w base sp held fuel t cs = some x) : cs.length = P.cellsOf t ∧ ∀ (i ft off : Nat), l[i]? = some (ft, off) → ∃ n y, DataW.trod enc P w base sp held n ft ((cs.drop off).take (P.cellsOf ft)) = some y := by
  unfold fL at hl
  cases hu : P.underlying t with
  | none => simp [hu] at hl
  | some d =>
    cases d <;> simp [hu] at hl
    rename_i fs
    obtain ⟨xs, n, _, _, hlen, hsz, hf⟩ := DataW.trod_struct hu h
    refine ⟨hlen, fun i ft off hi => ?_⟩
    have hl2 := hl.2
    subst hl2
    simp only [List.getElem?_map, Option.map_eq_some_iff] at hi
    obtain ⟨f, hfi, hfe⟩ := hi
    simp only [Prod.mk.injEq] at hfe
    obtain ⟨rfl, rfl⟩ := hfe
    have hfi' : fs[i]? = some f := by simpa using hfi
    have hil : i < xs.length := by rw [hsz]; exact (Array.getElem?_eq_some_iff.1 hfi').1
    exact ⟨n, xs[i], by rw [hf i f hfi', List.getElem?_eq_getElem hil]⟩
theorem parts_last {cs a : List Value} {o n m : Nat} (hl : cs.length = m) (hm : o + n = m) (h : (cs.drop o).take n = a) : cs.drop o = a := by
  rwa [List.take_of_length_le (by rw [List.length_drop]; omega)] at h
theorem parts_cons {cs a b : List Value} {o n m : Nat} (h : (cs.drop o).take n = a) (hm : o + n = m) (hb : cs.drop m = b) : cs.drop o = a ++ b := by
  rw [← h, ← hb, ← hm, ← List.drop_drop, List.take_append_drop]
theorem op_slice {P : Program} {t e sz : Nat} {α : Type} {cells : α → List Value} {R : World → α → Prop} (ht : P.underlying t = some (.slice e)) (hc : P.cellsOf e = sz) (he : Op P e α cells R) :
    Op P t Slc (fun s => [.slice s.a s.n s.c]) (fun w s => ∃ l : List α, s.n = l.length ∧ (rd s.a l.length sz (l.map cells)).holds w ∧ (∀ x ∈ l, R w x) ∧ l.length ≤ maxLen ∧ s.n ≤ s.c) := fun {H} enc w base sp held fuel cs x h => by
  rcases Go.Deep.open_slice ht h with ⟨rfl, _⟩ | ⟨a, len, cap, m, n, D, Pl, rfl, hb, hl, hm, hmm, hx, hi⟩
  · exact ⟨⟨none, 0, 0⟩, rfl, [], rfl, ⟨rfl, by simp, fun h => by simp at h⟩, by simp, Nat.zero_le _, Nat.le_refl _⟩
  · rw [hc] at hi
    have hlm : len ≤ m := by rw [hmm]; split <;> omega
    have hex : ∀ k : Nat, k ≤ len → ∃ l : List α, l.length = k ∧ (∀ x ∈ l, R w x) ∧ ∀ (i : Nat) (x : α), l[i]? = some x → (cells x).length = sz ∧ ∀ (j : Nat) v, (cells x)[j]? = some v → w.cell? (a.add (i * sz + j)) = some v := by
      intro k
      induction k with
      | zero => exact fun _ => ⟨[], rfl, by simp, by simp⟩
      | succ k ih =>
        intro hk
        obtain ⟨l, h1, h2, h3⟩ := ih (by omega)
        obtain ⟨cs', hcs, htr⟩ := hi k (by omega)
        obtain ⟨_, hcl, hat⟩ := World.cells?_some hcs
        obtain ⟨s, rfl, hR⟩ := he enc w base sp held n cs' _ htr
        refine ⟨l ++ [s], by simp [h1], fun x hx => ?_, fun i x hx => ?_⟩
        · rcases List.mem_append.1 hx with hx | hx
          · exact h2 x hx
          · simp at hx; subst hx; exact hR
        · by_cases hil : i < l.length
          · rw [List.getElem?_append_left hil] at hx; exact h3 i x hx
          · have hik : i = k := by
              have := (List.getElem?_eq_some_iff.1 hx).1
              simp at this; omega
            subst hik
            rw [List.getElem?_append_right (by omega), h1] at hx
            simp at hx; subst hx
            refine ⟨hcl, fun j v hj => ?_⟩
            have hjl : j < sz := by rw [← hcl]; exact (List.getElem?_eq_some_iff.1 hj).1
            rw [← add_add, hat j hjl, hj]
    obtain ⟨l, h1, h2, h3⟩ := hex len (Nat.le_refl _)
    refine ⟨⟨some a, len, cap⟩, rfl, l, h1.symm, ⟨by simp, fun e he' => ?_, fun _ => ⟨a, rfl, fun i e' j v hi' hj => ?_⟩⟩, h2, by omega, hl⟩
    · obtain ⟨x, hx, rfl⟩ := List.mem_map.1 he'
      obtain ⟨i, hi'⟩ := List.getElem?_of_mem hx
      exact (h3 i x hi').1
    · rw [List.getElem?_map] at hi'
      obtain ⟨x, hx, rfl⟩ := Option.map_eq_some_iff.1 hi'
      exact (h3 i x hx).2 j v hj
/-! ### an argument's value -/
theorem arg_struct {H : Type} {enc : TypeId × Value → H} {P : Program} {w : World} {base : Nat} {sp : Nat → Bool} {held : Bool} {r : Reach} {b0 : Nat} {t : TypeId} {l : List (Nat × Nat)} {v : Value} {d : DataW H} {p : List MemPlace} {α : Type} {cells : α → List Value} {R : World → α → Prop}
    (hl : fL P t = some l) (ho : Op P t α cells R) (hv : Value.okWide P w r b0 t v) (h : DataW.Trod enc P w base sp held t v d p) : ∃ s, v = .agg (cells s).toArray ∧ R w s := by
  unfold fL at hl
  cases hu : P.underlying t with
  | none => simp [hu] at hl
  | some d =>
    cases d <;> simp [hu] at hl
    rename_i fs
    obtain ⟨cs, rfl, hsz⟩ := okWide_struct hu hv
    obtain ⟨fuel, hf⟩ := h
    obtain ⟨s, hc, hR⟩ := ho enc w base sp held fuel _ _ hf
    refine ⟨s, ?_, hR⟩
    simp only [Value.cells] at hc
    rw [← hc]
theorem arg_int {H : Type} {enc : TypeId × Value → H} {P : Program} {w : World} {base : Nat} {sp : Nat → Bool} {held : Bool} {r : Reach} {b0 : Nat} {t : TypeId} {k : IntKind} {v : Value} {d : DataW H} {p : List MemPlace}
    (ht : P.underlying t = some (.int k)) (hv : Value.okWide P w r b0 t v) (h : DataW.Trod enc P w base sp held t v d p) : ∃ n, v = .int k n ∧ k.min ≤ n ∧ n ≤ k.max := by
  obtain ⟨n, rfl, _, _, hw⟩ := open_int ht hv h
  refine ⟨n, rfl, ?_⟩
  simpa [Lit.wf] using hw

theorem arg_bool {H : Type} {enc : TypeId × Value → H} {P : Program} {w : World} {base : Nat} {sp : Nat → Bool} {held : Bool} {r : Reach} {b0 : Nat} {t : TypeId} {v : Value} {d : DataW H} {p : List MemPlace}
    (ht : P.underlying t = some .bool) (hv : Value.okWide P w r b0 t v) (h : DataW.Trod enc P w base sp held t v d p) : ∃ n, v = .bool n ∧ True := by
  obtain ⟨n, rfl⟩ := okWide_bool ht hv
  exact ⟨n, rfl, trivial⟩
theorem arg_slice {H : Type} {enc : TypeId × Value → H} {P : Program} {w : World} {base : Nat} {sp : Nat → Bool} {held : Bool} {r : Reach} {b0 : Nat} {t e : TypeId} {v : Value} {d : DataW H} {p : List MemPlace} {R : World → Slc → Prop}
    (ho : Op P t Slc (fun s => [.slice s.a s.n s.c]) R) (ht : P.underlying t = some (.slice e)) (hv : Value.okWide P w r b0 t v) (h : DataW.Trod enc P w base sp held t v d p) : ∃ s : Slc, v = .slice s.a s.n s.c ∧ R w s := by
  obtain ⟨a, n, c, rfl⟩ := okWide_slice ht hv
  obtain ⟨fuel, hf⟩ := h
  obtain ⟨s, hc, hR⟩ := ho enc w base sp held fuel _ _ hf
  simp only [Value.cells] at hc
  have : Value.slice a n c = .slice s.a s.n s.c := by simpa using hc
  exact ⟨s, this, hR⟩
/-! ### the row of a law that says true -/
section
variable {H : Type} {enc : TypeId × Value → H} {P : Program}
theorem trodAll_stays (hl : laidOutB P = true) {W W' : World} {sp : Nat → Bool} (hb : Below W.heap.size W W') : ∀ (ts : List TypeId) (vs : List Value) (ds : List (DataW H)) (ps : List MemPlace), (ts.all fun t => P.readableRec t && decide (t < P.types.size)) = true →
    DataW.TrodAll enc P W 0 (fun _ => true) true ts vs ds ps → (∀ x ∈ ps, x.block < W.heap.size) → (∀ x ∈ ps, sp x.block = true) → DataW.TrodAll enc P W' 0 sp true ts vs ds ps
  | [], [], [], ps, _, h, _, _ => h
  | t :: ts, v :: vs, d :: ds, ps, ha, h, hlt, hsp => by
    obtain ⟨p, q, h1, h2, rfl⟩ := h
    simp only [List.all_cons, Bool.and_eq_true, decide_eq_true_eq] at ha
    refine ⟨p, q, ?_, trodAll_stays hl hb ts vs ds q ha.2 h2 (fun x hx => hlt x (List.mem_append_right _ hx)) (fun x hx => hsp x (List.mem_append_right _ hx)), rfl⟩
    exact WideElems.Trod_stays hl ha.1.1 ha.1.2 h1 (fun x hx => hb.same (hlt x (List.mem_append_left _ hx))) (fun x hx => hsp x (List.mem_append_left _ hx))
  | [], [], _ :: _, _, _, h, _, _ => h.elim
  | [], _ :: _, _, _, _, h, _, _ => h.elim
  | _ :: _, [], _, _, _, h, _, _ => h.elim
  | _ :: _, _ :: _, [], _, _, h, _, _ => h.elim
/-- a law that said true and kept all that was there has answered its row -/
theorem law_post {f : Func} {s : ChangeSpec} {apart fresh handsOn : Bool} {W W' : World} {args : Array Value} {ds : List (DataW H)} {p : List MemPlace} {bt : TypeId} (hl : laidOutB P = true)
    (hW : DataW.Whole enc P f.params.toList s.vars apart W args.toList ds [] p) (hA : DataW.TrodAll enc P W 0 (fun _ => true) true f.params.toList args.toList ds p)
    (hv : s.vars = []) (hs : s.fn H (ds ++ []) = { results := [.lit (.bool true)], args := ds }) (hr : (f.params.toList.all fun t => P.readableRec t && decide (t < P.types.size)) = true)
    (hb : Below W.heap.size W W') (ht : f.resultTypes = #[bt]) (hu : P.underlying bt = some .bool) : s.post enc P f apart fresh handsOn false W args (.bool true) W' := by
  have hlt : ∀ x ∈ p, x.block < W.heap.size := fun x hx => hW.lt x hx
  refine ⟨ds, [], p, [], p, [], hW, ?_, ?_, ?_, World.keptBut_mono (fun x hx => ⟨hx, .inr (.inl hx)⟩) (hb.frame (· ∈ p)), fun h => by cases h⟩
  · rw [hs, ht]; exact trodAll_mk1 (shut_bool hu _)
  · rw [hs]; exact trodAll_stays hl hb _ _ _ _ hr hA hlt (fun x hx => by simpa using hlt x hx)
  · rw [hs, hv]; rfl
end
end Go.Proofs.Ytaehngpnlkokkaa
