/-
  Rules for memory: blocks of one's own, slices that are read, loads and stores; calls by contract.
  No condition: the theorems hold over whatever program.
-/
import Derived.Test.YtaehngpnlkokkaaOps
namespace Go.Proofs.Ytaehngpnlkokkaa
open Go.RowKit
set_option linter.unusedVariables false

/-! ## assertions -/
def Assn.ro (A : Assn) : Assn := { A with wf := fun _ => False, wr := false, wfoot := fun _ h => h.elim, whole := fun h => by cases h }
theorem lt_of_heap {w : World} {g : Nat} {o : Obj} (h : w.heap[g]? = some o) : g < w.heap.size := (Array.getElem?_eq_some_iff.1 h).1
/-- a block of one's own, known whole -/
def blk (g : Nat) (t : TypeId) (cs : List Value) : Assn where
  foot b := b = g
  wf b := b = g
  holds w := w.heap[g]? = some (.cells cs.toArray t (0, 0))
  wr := true
  wfoot _ h := h
  whole _ _ h := h
  lt w h b hb := hb ▸ lt_of_heap h
  keep w w' hk h := (hk g rfl).trans h
/-- an object that is no row of cells -/
def obj (g : Nat) (o : Obj) : Assn where
  foot b := b = g
  wf b := b = g
  holds w := w.heap[g]? = some o
  wr := true
  wfoot _ h := h
  whole _ _ h := h
  lt w h b hb := hb ▸ lt_of_heap h
  keep w w' hk h := (hk g rfl).trans h
/-- what stands at a place -/
def padd (A : Option Addr) (k : Nat) : Option Addr := A.map (·.add k)
theorem add_add (a : Addr) (i j : Nat) : (a.add i).add j = a.add (i + j) := by
  unfold Addr.add
  by_cases hi : i = 0 <;> by_cases hj : j = 0 <;> simp [hi, hj, Nat.add_assoc]
theorem add_block (a : Addr) (n : Nat) : (a.add n).block = a.block := by unfold Addr.add; split <;> rfl
theorem add_plain (g o k : Nat) : (⟨g, o, none⟩ : Addr).add k = ⟨g, o + k, none⟩ := by unfold Addr.add; split <;> simp_all
/-- a slice that reads as a list of elements, each its cells -/
def rd (A : Option Addr) (n sz : Nat) (es : List (List Value)) : Assn where
  foot b := 0 < n * sz ∧ ∃ ad, A = some ad ∧ b = ad.block
  holds w := es.length = n ∧ (∀ e ∈ es, e.length = sz) ∧ (0 < n * sz → ∃ ad, A = some ad ∧ ∀ i e j v, es[i]? = some e → e[j]? = some v → w.cell? (ad.add (i * sz + j)) = some v)
  wf _ := False
  wr := false
  wfoot _ h := h.elim
  whole h := by cases h
  lt w h b hb := by
    obtain ⟨h1, h2, h3⟩ := h
    obtain ⟨hn, ad, hA, rfl⟩ := hb
    obtain ⟨ad', hA', hc⟩ := h3 hn
    rw [hA] at hA'; cases hA'
    have hn0 : 0 < n := Nat.pos_of_mul_pos_right hn
    have hs0 : 0 < sz := Nat.pos_of_mul_pos_left hn
    have he : es[0]? = some (es[0]'(by omega)) := List.getElem?_eq_getElem (by omega)
    have hl : (es[0]'(by omega)).length = sz := h2 _ (List.getElem_mem _)
    have hv := hc 0 _ 0 _ he (List.getElem?_eq_getElem (by omega))
    have := World.block_lt_of_cell? w _ hv
    rwa [add_block] at this
  keep w w' hk h := by
    refine ⟨h.1, h.2.1, fun hn => ?_⟩
    obtain ⟨ad, hA, hc⟩ := h.2.2 hn
    refine ⟨ad, hA, fun i e j v hi hj => ?_⟩
    rw [World.cell?_of_block (w := w) (by rw [add_block]; exact hk _ ⟨hn, ad, hA, rfl⟩)]
    exact hc i e j v hi hj
/-! ## what a list of assertions gives -/
def Has (C : List Assn) (p : World → Prop) : Prop := ∀ w, (∀ A ∈ C, A.holds w) → p w
theorem has_at {C : List Assn} {A : Assn} (i : Nat) (h : C[i]? = some A) : Has C A.holds := fun w hw => hw A (List.mem_of_getElem? h)
def HasAll (C Cp : List Assn) : Prop := ∀ w, (∀ A ∈ C, A.holds w) → ∀ A ∈ Cp, A.holds w
theorem ha_nil {C : List Assn} : HasAll C [] := fun w _ A hA => by cases hA
theorem ha_cons {C Cp : List Assn} {A : Assn} (h : Has C A.holds) (t : HasAll C Cp) : HasAll C (A :: Cp) := fun w hw B hB => by
  rcases List.mem_cons.1 hB with rfl | hB
  · exact h w hw
  · exact t w hw B hB
theorem ha_at {C Cp : List Assn} {A B : Assn} (i : Nat) (h : C[i]? = some B) (e : B.holds = A.holds) (t : HasAll C Cp) : HasAll C (A :: Cp) := ha_cons (e ▸ has_at i h) t
theorem St.has {S : BS} {w0 w : World} {C : List Assn} {p : World → Prop} (h : St S w0 C w) (k : Has C p) : p w := k w h.holds
/-- a block that holds the elements of a list, one behind the other, from its head on -/
theorem rd_of_blk {w : World} {g : Nat} {t : TypeId} {cs : List Value} {n sz : Nat} {es : List (List Value)} (h : (blk g t cs).holds w) (h1 : es.length = n) (h2 : ∀ e ∈ es, e.length = sz) (h3 : es.flatten <+: cs) : (rd (some ⟨g, 0, none⟩) n sz es).holds w := by
  refine ⟨h1, h2, fun _ => ⟨_, rfl, fun i e j v hi hj => ?_⟩⟩
  have hfl : ∀ (es : List (List Value)) (i : Nat), (∀ e ∈ es, e.length = sz) → es[i]? = some e → es.flatten[i * sz + j]? = some v := by
    intro es
    induction es with
    | nil => intro i _ hi; simp at hi
    | cons x xs ih =>
      intro i hl hi
      have hx := hl x (by simp)
      have hjl : j < e.length := (List.getElem?_eq_some_iff.1 hj).1
      cases i with
      | zero =>
        simp at hi; subst hi
        simp only [List.flatten_cons, Nat.zero_mul, Nat.zero_add]
        rw [List.getElem?_append_left hjl]; exact hj
      | succ i =>
        simp only [List.flatten_cons]
        rw [List.getElem?_append_right (by rw [hx, Nat.succ_mul]; omega)]
        have : (i + 1) * sz + j - x.length = i * sz + j := by rw [hx, Nat.succ_mul]; omega
        rw [this]
        exact ih i (fun e he => hl e (by simp [he])) (by simpa using hi)
  have hv := hfl es i h2 hi
  obtain ⟨rest, hr⟩ := h3
  rw [add_plain, cell_of_row w g _ cs.toArray t (0, 0) h]
  simp only [List.getElem?_toArray, Nat.zero_add]
  rw [← hr, List.getElem?_append_left (List.getElem?_eq_some_iff.1 hv).1]
  exact hv

theorem has_rd_blk {C : List Assn} {g t : Nat} {cs : List Value} {n sz : Nat} {es : List (List Value)} (i : Nat) (hC : C[i]? = some (blk g t cs)) (h1 : es.length = n) (h2 : ∀ e ∈ es, e.length = sz) (h3 : es.flatten = cs) : Has C (rd (some ⟨g, 0, none⟩) n sz es).holds := fun w hw =>
  rd_of_blk (has_at i hC w hw) h1 h2 ⟨[], by simp [h3]⟩
theorem rd_nil {C : List Assn} (A : Option Addr) (sz : Nat) : Has C (rd A 0 sz []).holds := fun w _ => ⟨rfl, by simp, fun h => by simp at h⟩
/-! ## the program's tables -/
/-- the cells of a zero value; the places of the parts: where, how many cells -/
def tB (P : Program) (t : TypeId) : Option (List Value × List (Nat × Nat)) :=
  match P.info? t, P.underlying t with
  | some it, some (.array n e) =>
    match it.zero, P.info? e with
    | some z, some ie => some (z.cells.toList, (List.range n).map fun i => (i * ie.size, ie.size))
    | _, _ => none
  | some it, some (.struct fields) =>
    match it.zero, fields.toList.mapM (fun f => (P.info? f.type).map fun i => (f.offset, i.size)) with
    | some z, some places => some (z.cells.toList, places)
    | _, _ => none
  | _, _ => none
def bld (z : List Value) (pl : List (Nat × Nat)) : List (Nat × Value) → Option (List Value)
  | [] => some z
  | (i, v) :: rest => match pl[i]? with
    | none => none
    | some (off, sz) => if v.cells.toList.length = sz ∧ off + sz ≤ z.length then bld (z.take off ++ v.cells.toList ++ z.drop (off + sz)) pl rest else none
def fOff (P : Program) (s f : Nat) : Option Nat :=
  match P.underlying s with
  | some (.struct fs) => match fs[f]? with
    | some fl => match P.info? fl.type with
      | some i => if i.size = 0 then none else some fl.offset
      | none => none
    | none => none
  | _ => none
/-- is it a struct or an array; how many cells -/
def tK (P : Program) (t : TypeId) : Option (Bool × Nat) :=
  match P.underlying t, P.info? t with
  | some (.struct _), some i => some (true, i.size)
  | some (.array _ _), some i => some (true, i.size)
  | some _, some i => some (false, i.size)
  | _, _ => none
def tZ (P : Program) (t : TypeId) : Option (List Value) := ((P.info? t).bind (·.zero)).map (·.cells.toList)
def tE (P : Program) (t : TypeId) : Option (TypeId × Nat) :=
  match P.underlying t with
  | some (.slice e) => match P.info? e with
    | some i => some (e, i.size)
    | none => none
  | _ => none
def isGo (P : Program) (f : FuncId) : Bool :=
  match P.funcs[f]? with
  | some fn => !(fn.name == "runtime.NumGoroutine") && fn.body.isSome
  | none => false
theorem tK_agg {P : Program} {t : TypeId} {n : Nat} (h : tK P t = some (true, n)) (w : World) : (isAgg t).run P w = .ok true w ∧ (sizeOf t).run P w = .ok n w := by
  unfold tK at h
  cases hu : P.underlying t with
  | none => simp [hu] at h
  | some d =>
    cases hi : P.info? t with
    | none => cases d <;> simp [hu, hi] at h
    | some i =>
      cases d <;> simp [hu, hi] at h <;> (subst h; constructor <;> simp [isAgg, sizeOf, typeInfo, run_underlying hu, hi])
theorem tK_one {P : Program} {t : TypeId} {n : Nat} (h : tK P t = some (false, n)) (w : World) : (isAgg t).run P w = .ok false w ∧ (sizeOf t).run P w = .ok n w := by
  unfold tK at h
  cases hu : P.underlying t with
  | none => simp [hu] at h
  | some d =>
    cases hi : P.info? t with
    | none => cases d <;> simp [hu, hi] at h
    | some i =>
      cases d <;> simp [hu, hi] at h <;> (subst h; constructor <;> simp [isAgg, sizeOf, typeInfo, run_underlying hu, hi])
theorem run_fieldAt {P : Program} {s f k : Nat} (h : fOff P s f = some k) (a : Addr) (w : World) : (Instr.fieldAt s (.pointer (some a)) f).run P w = .ok (.pointer (some (a.add k))) w := by
  unfold fOff at h
  cases hu : P.underlying s with
  | none => simp [hu] at h
  | some d =>
    cases d <;> simp [hu] at h
    rename_i fs
    cases hf : fs[f]? with
    | none => simp [hf] at h
    | some fl =>
      simp only [hf] at h
      cases hi : P.info? fl.type with
      | none => simp [hi] at h
      | some i =>
        simp only [hi] at h
        by_cases hz : i.size = 0
        · simp [hz] at h
        · simp only [hz, if_false, Option.some.injEq] at h
          subst h
          simp [Instr.fieldAt, run_underlying hu, hf, Instr.sureAddr, fieldPlace, sizeOf, typeInfo, hi, hz]

section
variable {E : Env} {ops : Array Oper} {D : List Deferred} {L : List (Nat × Value)} {C : List Assn}
variable {dst : Option Tmp} {ty : TypeId} {ps : String} {af : Array Edge} {g : Option (Nat × Bool)}
/-! ## addresses -/
theorem sd_fa {x : Operand} {b o o' s f k : Nat} (hg : gOn ops L g = true) (hx : ev L x = some (.pointer (some ⟨b, o, none⟩))) (hf : fOff E.P s f = some k) (ho : o + k = o') :
    SD E ops ⟨dst, .fieldAddr s x f, ty, ps, af, g⟩ D L C (.pointer (some ⟨b, o', none⟩)) :=
  sd_pure hg (by simp) fun a w hfr _ => by
    simp [execOp, hfr.ev hx, run_fieldAt hf, add_plain, ho]
theorem sd_fa_rd {x : Operand} {A : Option Addr} {n sz : Nat} {es : List (List Value)} {k0 s f k k' : Nat} (hg : gOn ops L g = true) (hx : ev L x = some (.pointer (padd A k0))) (hR : Has C (rd A n sz es).holds) (hn : 0 < n * sz)
    (hf : fOff E.P s f = some k) (ho : k0 + k = k') : SD E ops ⟨dst, .fieldAddr s x f, ty, ps, af, g⟩ D L C (.pointer (padd A k')) :=
  sd_pure hg (by simp) fun a w hfr hs => by
    obtain ⟨ad, hA, _⟩ := (hs.has hR).2.2 hn
    subst hA
    simp [execOp, hfr.ev hx, padd, run_fieldAt hf, add_add, ho]
theorem run_indexAt {P : Program} {t e sz : Nat} (h : tE P t = some (e, sz)) {a : Addr} {n c : Nat} {k : Nat} (hk : k < n) (w : World) :
    (Instr.indexAt t (.slice (some a) n c) (.int .i64 (k : Int))).run P w = .ok (.pointer (some (a.add (k * sz)))) w := by
  unfold tE at h
  cases hu : P.underlying t with
  | none => simp [hu] at h
  | some d =>
    cases d <;> simp [hu] at h
    rename_i e'
    cases hi : P.info? e' with
    | none => simp [hi] at h
    | some i =>
      simp only [hi, Option.some.injEq, Prod.mk.injEq] at h
      obtain ⟨rfl, rfl⟩ := h
      have h1 : (0 : Int) ≤ (k : Int) ∧ (k : Int) < (n : Int) := by omega
      simp [Instr.indexAt, asIntOf, run_underlying hu, h1, sizeOf, typeInfo, hi, hk]
theorem sd_ia {x ix : Operand} {A : Option Addr} {n c sz e t k : Nat} {es : List (List Value)} {j : Int} (hg : gOn ops L g = true) (hx : ev L x = some (.slice A n c)) (hi : ev L ix = some (.int .i64 j)) (hR : Has C (rd A n sz es).holds)
    (ht : tE E.P t = some (e, sz)) (hz : 0 < sz) (hj : j = (k : Int)) (hk : k < n) : SD E ops ⟨dst, .indexAddr t x ix, ty, ps, af, g⟩ D L C (.pointer (padd A (k * sz))) :=
  sd_pure hg (by simp) fun a w hfr hs => by
    obtain ⟨ad, hA, _⟩ := (hs.has hR).2.2 (Nat.mul_pos (by omega) hz)
    subst hA hj
    simp [execOp, hfr.ev hx, hfr.ev hi, padd, run_indexAt ht hk]
theorem sd_ia_b {x ix : Operand} {b o n c sz e t k o' : Nat} {j : Int} (hg : gOn ops L g = true) (hx : ev L x = some (.slice (some ⟨b, o, none⟩) n c)) (hi : ev L ix = some (.int .i64 j))
    (ht : tE E.P t = some (e, sz)) (hj : j = (k : Int)) (hk : k < n) (ho : o + k * sz = o') : SD E ops ⟨dst, .indexAddr t x ix, ty, ps, af, g⟩ D L C (.pointer (some ⟨b, o', none⟩)) :=
  sd_pure hg (by simp) fun a w hfr hs => by
    subst hj
    simp [execOp, hfr.ev hx, hfr.ev hi, run_indexAt ht hk, add_plain, ho]
/-! ## loads -/
/-- what stands in memory from an address on -/
def At (C : List Assn) (A : Option Addr) (vs : List Value) : Prop := Has C fun w => ∃ ad, A = some ad ∧ ∀ j v, vs[j]? = some v → w.cell? (ad.add j) = some v
theorem at_blk {b o t : Nat} {cs vs : List Value} (i : Nat) (hC : C[i]? = some (blk b t cs)) (hv : (cs.drop o).take vs.length = vs) : At C (some ⟨b, o, none⟩) vs := fun w hw => by
  have h := has_at i hC w hw
  refine ⟨_, rfl, fun j v hj => ?_⟩
  rw [add_plain, cell_of_row w b _ cs.toArray t (0, 0) h]
  rw [← hv, List.getElem?_take] at hj
  split at hj
  · rw [List.getElem?_drop] at hj; simpa using hj
  · cases hj
theorem at_blkr {b o t : Nat} {cs vs : List Value} (i : Nat) (hC : C[i]? = some (blk b t cs).ro) (hv : (cs.drop o).take vs.length = vs) : At C (some ⟨b, o, none⟩) vs := fun w hw => by
  have h : (blk b t cs).holds w := has_at i hC w hw
  refine ⟨_, rfl, fun j v hj => ?_⟩
  rw [add_plain, cell_of_row w b _ cs.toArray t (0, 0) h]
  rw [← hv, List.getElem?_take] at hj
  split at hj
  · rw [List.getElem?_drop] at hj; simpa using hj
  · cases hj
theorem at_rd {A : Option Addr} {n sz k o m : Nat} {es : List (List Value)} {e vs : List Value} (hR : Has C (rd A n sz es).holds) (he : es[k]? = some e) (hm : m = k * sz + o) (hz : 0 < sz) (hv : (e.drop o).take vs.length = vs) : At C (padd A m) vs := fun w hw => by
  obtain ⟨h1, h2, h3⟩ := hR w hw
  have hk : k < n := by rw [← h1]; exact (List.getElem?_eq_some_iff.1 he).1
  obtain ⟨ad, hA, hc⟩ := h3 (Nat.mul_pos (by omega) hz)
  subst hA hm
  refine ⟨_, rfl, fun j v hj => ?_⟩
  rw [add_add, Nat.add_assoc]
  refine hc k e (o + j) v he ?_
  rw [← hv, List.getElem?_take] at hj
  split at hj
  · rw [List.getElem?_drop] at hj; exact hj
  · cases hj
theorem sd_ld1 {x : Operand} {A : Option Addr} {t n : Nat} {v : Value} (hg : gOn ops L g = true) (hx : ev L x = some (.pointer A)) (ht : tK E.P t = some (false, n)) (hc : At C A [v]) : SD E ops ⟨dst, .load t x, ty, ps, af, g⟩ D L C v :=
  sd_pure hg (by simp) fun a w hf hs => by
    obtain ⟨ad, hA, hcell⟩ := hs.has hc
    subst hA
    have h0 : w.cell? ad = some v := by simpa [Addr.add] using hcell 0 v rfl
    simp [execOp, hf.ev hx, Instr.loadAt, Instr.sureAddr, loadVar, (tK_one ht w).1, h0]
theorem sd_ldn {x : Operand} {A : Option Addr} {t n : Nat} {vs : List Value} (hg : gOn ops L g = true) (hx : ev L x = some (.pointer A)) (ht : tK E.P t = some (true, n)) (hc : At C A vs) (hn : vs.length = n) : SD E ops ⟨dst, .load t x, ty, ps, af, g⟩ D L C (.agg vs.toArray) :=
  sd_pure hg (by simp) fun a w hf hs => by
    obtain ⟨ad, hA, hcell⟩ := hs.has hc
    subst hA
    have hl : (loadCells ad n).run E.P w = .ok vs.toArray w := by rw [← hn]; exact run_loadCells_list w ad vs hcell
    simp [execOp, hf.ev hx, Instr.loadAt, Instr.sureAddr, loadVar, (tK_agg ht w).1, (tK_agg ht w).2, hl]
end
end Go.Proofs.Ytaehngpnlkokkaa
