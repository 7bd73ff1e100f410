/-
  Rules for what is new in memory, for stores, for calls by contract; a function's contract from its body.
  No condition: the theorems hold over whatever program.
-/
import Derived.Test.YtaehngpnlkokkaaMem
namespace Go.Proofs.Ytaehngpnlkokkaa
open Go.RowKit
set_option linter.unusedVariables false

/-! ## contracts -/
/-- what the call hands back is known -/
structure FnV (P : Program) (f : FuncId) (args : List Value) (Cp : List Assn) (v : Value) : Prop where
  go : isGo P f = true
  run : ∀ w, (∀ A ∈ Cp, A.holds w) → Calls P f args.toArray w fun e w' => e = .returned v ∧ Keeps no w w'
/-- what the call hands back is known up to something; what is new in memory -/
structure FnX (P : Program) (f : FuncId) (args : List Value) (Cp : List Assn) {α : Type} (V : α → Value) (p : α → Prop) (N : α → List Assn) : Prop where
  go : isGo P f = true
  run : ∀ w, (∀ A ∈ Cp, A.holds w) → Calls P f args.toArray w fun e w' => ∃ x, e = .returned (V x) ∧ p x ∧ Keeps no w w' ∧ New w w' (N x)
theorem run_callFunc {P : Program} {f : FuncId} (h : isGo P f = true) (args : Array Value) (w : World) : (callFunc f args).run P w = .ok (.enter f args) w := by
  unfold isGo at h
  cases hf : P.funcs[f]? with
  | none => simp [hf] at h
  | some fn =>
    simp only [hf, Bool.and_eq_true, Bool.not_eq_true', Option.isSome_iff_ne_none] at h
    have h1 := h.1
    have h2 : fn.body.isNone = false := by cases hb : fn.body <;> simp_all
    simp only [beq_eq_false_iff_ne, ne_eq] at h1
    simp [callFunc, program, Sem.run, hf, h1]
    exact fun hb => absurd hb h.2

section
variable {E : Env} {ops : Array Oper} {Q : Post} {rest : List Oper} {D : List Deferred} {L : List (Nat × Value)} {C : List Assn}
variable {dst : Option Tmp} {d : Nat} {ty : TypeId} {ps : String} {af : Array Edge} {g : Option (Nat × Bool)}
theorem run_call {a : Act} {fop : Operand} {xs : Array Operand} {ts : Array TypeId} {f : FuncId} {fi ca : Array Value} {vs args : List Value} {n : Nat} (hfr : Fr n D L a) (hgo : isGo E.P f = true) (hf : ev L fop = some (.func (.func f) fi ca))
    (hx : evs L xs.toList = some vs) (ha : fi.toList ++ vs ++ ca.toList = args) (w : World) :
    (execOp a.eval ⟨dst, .call { callee := .value fop, args := xs, argTypes := ts }, ty, ps, af, g⟩).run E.P w = .ok (.enter f args.toArray) w := by
  have h1 : xs.map a.eval = vs.toArray := by
    have := hfr.evs hx
    apply Array.ext'
    simp [this]
  have h2 : fi ++ vs.toArray ++ ca = args.toArray := by rw [← ha]; simp
  simp [execOp, resolve, hfr.ev hf, Deferred.ofValue, invoke, h1, h2, run_callFunc hgo]
theorem sd_call {fop : Operand} {xs : Array Operand} {ts : Array TypeId} {f : FuncId} {fi ca : Array Value} {vs args : List Value} {Cp : List Assn} {v : Value} (hg : gOn ops L g = true) (hf : ev L fop = some (.func (.func f) fi ca))
    (hx : evs L xs.toList = some vs) (ha : fi.toList ++ vs ++ ca.toList = args) (c : FnV E.P f args Cp v) (hC : HasAll C Cp) : SD E ops ⟨dst, .call { callee := .value fop, args := xs, argTypes := ts }, ty, ps, af, g⟩ D L C v := by
  intro a w hfr hs
  refine .inl ⟨gOn_wanted hfr hg, fun _ _ => trivial, ?_⟩
  rw [Oper.semAt_eq _ _ _ (by simp), run_call hfr c.go hf hx ha]
  refine ⟨fun h => by simp at h, (calls_in E.r (c.run w (hC w hs.holds))).mono fun e w' he => ?_⟩
  obtain ⟨rfl, hk⟩ := he
  exact ⟨rfl, hk⟩
theorem r_call {fop : Operand} {xs : Array Operand} {ts : Array TypeId} {f : FuncId} {fi ca : Array Value} {vs args : List Value} {Cp : List Assn} {α : Type} {V : α → Value} {p : α → Prop} {N : α → List Assn} (hg : gOn ops L g = true) (hf : ev L fop = some (.func (.func f) fi ca))
    (hx : evs L xs.toList = some vs) (ha : fi.toList ++ vs ++ ca.toList = args) (c : FnX E.P f args Cp V p N) (hC : HasAll C Cp) (hd : Nat.blt d E.n = true) (k : ∀ x, p x → RJ E ops Q rest D ((d, V x) :: L) (N x ++ C)) :
    RJ E ops Q (⟨some d, .call { callee := .value fop, args := xs, argTypes := ts }, ty, ps, af, g⟩ :: rest) D L C := by
  intro a w hfr hs
  have hd' : d < E.n := by rw [← Nat.blt_eq]; exact hd
  unfold wpL
  rw [if_pos (gOn_wanted hfr hg)]
  refine ⟨fun _ _ => trivial, ?_⟩
  rw [Oper.semAt_eq _ _ _ (by simp), run_call hfr c.go hf hx ha]
  refine ⟨fun h => by simp at h, (calls_in E.r (c.run w (hC w hs.holds))).mono fun e w' he => ?_⟩
  obtain ⟨x, rfl, hp, hk, hn⟩ := he
  exact k x hp _ _ (hfr.put hd' _) (hs.grow hk hn)
/-- a fact on the slots alone: parted -/
theorem r_bool {t : Nat} {b : Bool} (h : L.lookup t = some (.bool b)) (h1 : b = true → RJ E ops Q rest D ((t, .bool true) :: L) C) (h2 : b = false → RJ E ops Q rest D ((t, .bool false) :: L) C) : RJ E ops Q rest D L C := by
  have hsub : ∀ v : Bool, b = v → Sub L ((t, .bool v) :: L) := fun v hv => Sub.cons (hv ▸ h) (fun _ _ h => h)
  cases b
  · exact fun a w hf hs => h2 rfl a w (hf.sub (hsub _ rfl)) hs
  · exact fun a w hf hs => h1 rfl a w (hf.sub (hsub _ rfl)) hs
theorem r_sub {L' : List (Nat × Value)} {C' : List Assn} (hL : Sub L L') (hC : ∀ w, St E.S E.w0 C w → St E.S E.w0 C' w) (h : RJ E ops Q rest D L' C') : RJ E ops Q rest D L C := fun a w hf hs => h a w (hf.sub hL) (hC w hs)

/-! ## what is new -/
theorem new_blk {w : World} {t : TypeId} {cs : List Value} : New w (w.alloc (.cells cs.toArray t)) [blk w.heap.size t cs] :=
  ⟨fun A hA => by simp at hA; subst hA; exact heap_alloc_new w _, fun A hA b hb => by simp at hA; subst hA; exact Nat.le_of_eq (Eq.symm hb), List.pairwise_singleton _ _⟩
theorem r_new {o : Oper} {t : TypeId} {cs : List Value} {V : Nat → Value} (hg : gOn ops L o.guard = true) (ho : o.dst = some d) (hnd : ∀ c, o.op ≠ .defer c) (hd : Nat.blt d E.n = true)
    (hr : ∀ a w, Fr E.n D L a → St E.S E.w0 C w → (execOp a.eval o).run E.P w = .ok (.value (V w.heap.size)) (w.alloc (.cells cs.toArray t)))
    (k : ∀ b, RJ E ops Q rest D ((d, V b) :: L) (blk b t cs :: C)) : RJ E ops Q (o :: rest) D L C := by
  intro a w hfr hs
  have hd' : d < E.n := by rw [← Nat.blt_eq]; exact hd
  unfold wpL
  rw [if_pos (gOn_wanted hfr hg)]
  refine wp_value hnd (hr a w hfr hs) ?_
  rw [ho]
  exact k _ _ _ (hfr.put hd' _) (hs.grow (Keeps.alloc no w _) new_blk)
theorem r_alloc {t : TypeId} {cs : List Value} (hg : gOn ops L g = true) (hz : tZ E.P t = some cs) (hd : Nat.blt d E.n = true) (k : ∀ b, RJ E ops Q rest D ((d, .pointer (some ⟨b, 0, none⟩)) :: L) (blk b t cs :: C)) :
    RJ E ops Q (⟨some d, .alloc t, ty, ps, af, g⟩ :: rest) D L C := by
  refine r_new (V := fun b => .pointer (some ⟨b, 0, none⟩)) (t := t) (cs := cs) (by exact hg) rfl (by simp) hd (fun a w hfr _ => ?_) k
  unfold tZ at hz
  cases hi : E.P.info? t with
  | none => simp [hi] at hz
  | some i =>
    cases hzz : i.zero with
    | none => simp [hi, hzz] at hz
    | some z =>
      simp only [hi, hzz, Option.bind_some, Option.map_some, Option.some.injEq] at hz
      subst hz
      simp [execOp, Instr.alloc, zeroValue, typeInfo, hi, hzz, newVar, newRow]
theorem r_box {t : TypeId} {x : Operand} {v : Value} {cs : List Value} (hg : gOn ops L g = true) (hx : ev L x = some v) (hv : v.cells.toList = cs) (hd : Nat.blt d E.n = true) (k : ∀ b, RJ E ops Q rest D ((d, .pointer (some ⟨b, 0, none⟩)) :: L) (blk b t cs :: C)) :
    RJ E ops Q (⟨some d, .box t x, ty, ps, af, g⟩ :: rest) D L C := by
  refine r_new (V := fun b => .pointer (some ⟨b, 0, none⟩)) (t := t) (cs := cs) (by exact hg) rfl (by simp) hd (fun a w hfr _ => ?_) k
  subst hv
  simp [execOp, Instr.box, hfr.ev hx, newVar, newRow]
theorem r_bs0 {t e sz : Nat} (hg : gOn ops L g = true) (ht : tE E.P t = some (e, sz)) (hd : Nat.blt d E.n = true) (k : ∀ b, RJ E ops Q rest D ((d, .slice (some ⟨b, 0, none⟩) 0 0) :: L) (blk b e [] :: C)) :
    RJ E ops Q (⟨some d, .buildSlice t 0 #[], ty, ps, af, g⟩ :: rest) D L C := by
  refine r_new (V := fun b => .slice (some ⟨b, 0, none⟩) 0 0) (t := e) (cs := []) (by exact hg) rfl (by simp) hd (fun a w hfr _ => ?_) k
  unfold tE at ht
  cases hu : E.P.underlying t with
  | none => simp [hu] at ht
  | some dd =>
    cases dd <;> simp [hu] at ht
    rename_i e'
    cases hi : E.P.info? e' with
    | none => simp [hi] at ht
    | some i =>
      simp only [hi, Option.some.injEq, Prod.mk.injEq] at ht
      obtain ⟨rfl, rfl⟩ := ht
      have h0 : Array.range 0 = #[] := rfl
      simp [execOp, Instr.buildSlice, run_underlying hu, sizeOf, typeInfo, hi, Instr.fill, newRow, h0]

/-! ## what is filled in -/
theorem fold_set (off : Nat) : ∀ (xs : List Value) (k : Nat) (cs : Array Value), off + k + xs.length ≤ cs.size →
    ((xs.zipIdx k).foldl (fun (cs : Array Value) (p : Value × Nat) => cs.setIfInBounds (off + p.2) p.1) cs).toList = cs.toList.take (off + k) ++ xs ++ cs.toList.drop (off + k + xs.length) := by
  intro xs
  induction xs with
  | nil => intro k cs h; simp
  | cons x xs ih =>
    intro k cs h
    simp only [List.length_cons] at h
    simp only [List.zipIdx_cons, List.foldl_cons]
    rw [ih (k + 1) _ (by simp; omega)]
    have h1 : (cs.setIfInBounds (off + k) x).toList = cs.toList.set (off + k) x := by simp
    rw [h1]
    have hk : off + k < cs.toList.length := by simp; omega
    rw [show off + (k + 1) = off + k + 1 from by omega, List.take_add_one, List.take_set_of_le (Nat.le_refl _), List.getElem?_set_self hk, List.drop_set_of_lt (by omega)]
    simp [Nat.add_assoc, Nat.add_comm, Nat.add_left_comm]
/-- the cells of so many elements -/
theorem fill_all {sz : Nat} : ∀ (vs : List Value) (k : Nat) (cs : Array Value), (∀ v ∈ vs, v.cells.size = sz) → cs.size = (k + vs.length) * sz →
    ∃ r, Instr.fill (fun i => some (i * sz, sz)) cs ((vs.zipIdx k).map fun p => (p.2, p.1)) = some r ∧ r.toList = cs.toList.take (k * sz) ++ (vs.map (·.cells.toList)).flatten := by
  intro vs
  induction vs with
  | nil => intro k cs _ hs; exact ⟨cs, rfl, by simp at hs; rw [← hs, List.take_of_length_le (by simp)]; simp⟩
  | cons v vs ih =>
    intro k cs hv hs
    have hv0 := hv v (by simp)
    have hle : k * sz + sz ≤ cs.size := by
      rw [hs, ← Nat.succ_mul]
      exact Nat.mul_le_mul_right _ (by simp)
    have hf := fold_set (k * sz) v.cells.toList 0 cs (by simp [hv0]; exact hle)
    obtain ⟨r, h1, h2⟩ := ih (k + 1) (v.cells.toList.zipIdx.foldl (fun (cs : Array Value) (p : Value × Nat) => cs.setIfInBounds (k * sz + p.2) p.1) cs) (fun u hu => hv u (by simp [hu])) (by
      have hl := congrArg List.length hf
      simp only [Array.length_toList] at hl
      rw [hl]
      simp [hv0] at hs ⊢
      rw [show k + 1 + vs.length = k + (vs.length + 1) from by omega, ← hs]
      omega)
    refine ⟨r, ?_, ?_⟩
    · simp only [List.zipIdx_cons, List.map_cons, Instr.fill]
      rw [if_neg (by simp [hv0]; omega)]
      rw [← h1]
      congr 1
      rw [← Array.foldl_toList]
      simp [Array.toList_zipIdx]
    · rw [h2, hf]
      simp only [Nat.add_zero, List.map_cons, List.flatten_cons]
      rw [show (k + 1) * sz = k * sz + sz from Nat.succ_mul k sz]
      have hlen : (cs.toList.take (k * sz) ++ v.cells.toList).length = k * sz + sz := by simp [hv0]; omega
      rw [List.take_append_of_le_length (by rw [hlen]; omega), List.take_of_length_le (by rw [hlen]; omega)]
      simp
theorem r_bs {t e sz n : Nat} {xs : List Operand} {vs : List Value} {cs zs : List Value} (hg : gOn ops L g = true) (ht : tE E.P t = some (e, sz)) (hz : tZ E.P e = some zs) (hx : evs L xs = some vs) (hn : xs.length = n) (hp : Nat.blt 0 (n * sz) = true) (hb : Nat.ble (n * sz) 16777216 = true) (hv : ∀ v ∈ vs, v.cells.size = sz)
    (hc : (vs.map (·.cells.toList)).flatten = cs) (hd : Nat.blt d E.n = true) (k : ∀ b, RJ E ops Q rest D ((d, .slice (some ⟨b, 0, none⟩) n n) :: L) (blk b e cs :: C)) :
    RJ E ops Q (⟨some d, .buildSlice t n ((xs.zipIdx.map fun p => (p.2, p.1)).toArray), ty, ps, af, g⟩ :: rest) D L C := by
  refine r_new (V := fun b => .slice (some ⟨b, 0, none⟩) n n) (t := e) (cs := cs) (by exact hg) rfl (by simp) hd (fun a w hfr _ => ?_) k
  have hlen : vs.length = n := by
    have := hfr.evs hx
    rw [← this, List.length_map, hn]
  unfold tE at ht
  cases hu : E.P.underlying t with
  | none => simp [hu] at ht
  | some dd =>
    cases dd <;> simp [hu] at ht
    rename_i e'
    cases hi : E.P.info? e' with
    | none => simp [hi] at ht
    | some i =>
      simp only [hi, Option.some.injEq, Prod.mk.injEq] at ht
      obtain ⟨rfl, rfl⟩ := ht
      cases hzz : i.zero with
      | none => simp [tZ, hi, hzz] at hz
      | some z =>
        have hA : ((xs.zipIdx.map fun p => (p.2, p.1)).toArray.map fun ((i, x) : Nat × Operand) => (i, a.eval x)) = ((vs.zipIdx 0).map fun p => (p.2, p.1)).toArray := by
          rw [← hfr.evs hx]
          apply Array.ext'
          simp [List.zipIdx_map]
        obtain ⟨r, hr1, hr2⟩ := fill_all (sz := i.size) vs 0 ((Array.range (n * i.size)).map fun j => (if n * i.size = 0 then #[] else z.cells)[j % (if n * i.size = 0 then (#[] : Array Value) else z.cells).size]!) hv (by simp [hlen])
        simp only [Nat.zero_mul, List.take_zero, List.nil_append, hc] at hr2
        have hrr : r = cs.toArray := by rw [← hr2]
        subst hrr
        have hb' : ¬ (n * i.size > 2 ^ 24) := by have := Nat.le_of_ble_eq_true hb; omega
        have hzero : ¬ n * i.size = 0 := by rw [Nat.blt_eq] at hp; omega
        simp only [hzero, if_false] at hr1
        simp only [execOp, hA, Instr.buildSlice, Sem.run_bind, run_underlying hu, Result.andThen_ok, sizeOf, typeInfo, run_program, hi, Sem.run_pure, hzero, if_false, hb', zeroValue, hzz, hr1]
        simp [newRow]
/-! ## structs as values -/
theorem bld_fill {place : Nat → Option (Nat × Nat)} {pl : List (Nat × Nat)} (hp : ∀ i x, pl[i]? = some x → place i = some x) : ∀ (parts : List (Nat × Value)) (z : Array Value) (cs : List Value), bld z.toList pl parts = some cs → ∃ r, Instr.fill place z parts = some r ∧ r.toList = cs := by
  intro parts
  induction parts with
  | nil => intro z cs h; exact ⟨z, rfl, by simpa [bld] using h⟩
  | cons p rest ih =>
    obtain ⟨i, v⟩ := p
    intro z cs h
    simp only [bld] at h
    cases hi : pl[i]? with
    | none => simp [hi] at h
    | some x =>
      obtain ⟨off, sz⟩ := x
      simp only [hi] at h
      split at h
      · rename_i hc
        have hs : v.cells.size = sz := by simpa using hc.1
        have hz : off + sz ≤ z.size := by simpa using hc.2
        have hf := fold_set off v.cells.toList 0 z (by simp [hs]; exact hz)
        simp only [Nat.add_zero, Array.length_toList, hs] at hf
        rw [← hf] at h
        obtain ⟨r, h1, h2⟩ := ih _ cs h
        refine ⟨r, ?_, h2⟩
        simp only [Instr.fill, hp i _ hi]
        rw [if_neg (by simp [hs]; omega), ← h1]
        congr 1
        rw [← Array.foldl_toList]
        simp [Array.toList_zipIdx]
      · cases h
theorem built_of {P : Program} {t : TypeId} {z : List Value} {pl : List (Nat × Nat)} {parts : List (Nat × Value)} {cs : List Value} (h : tB P t = some (z, pl)) (hb : bld z pl parts = some cs) : (P.built t parts).map (·.toList) = some cs := by
  unfold tB at h
  unfold Program.built
  cases hit : P.info? t with
  | none => simp [hit] at h
  | some it =>
    cases hu : P.underlying t with
    | none => simp [hit, hu] at h
    | some d =>
      cases hz : it.zero with
      | none => cases d <;> simp [hit, hu, hz] at h
      | some zv =>
        cases d <;> try (simp [hit, hu] at h; done)
        case array n e =>
          cases hie : P.info? e with
          | none => simp [hit, hu, hz, hie] at h
          | some ie =>
            simp only [hit, hu, hz, hie, Option.some.injEq, Prod.mk.injEq] at h
            obtain ⟨h1, h2⟩ := h
            subst h1 h2
            obtain ⟨r, hr1, hr2⟩ := bld_fill (place := fun i => some (i * ie.size, ie.size)) (fun i x hi => by
              rw [List.getElem?_map] at hi
              cases hg : (List.range n)[i]? with
              | none => simp [hg] at hi
              | some j =>
                have hj : j = i := by
                  have := (List.getElem?_eq_some_iff.1 hg).2
                  simpa using this.symm
                subst hj
                simpa [hg] using hi) parts zv.cells cs hb
            simp only [hz, hie, hr1, Option.map_some, hr2]
        case struct fields =>
          cases hp : fields.toList.mapM (fun f => (P.info? f.type).map fun i => (f.offset, i.size)) with
          | none => simp [hit, hu, hz, hp] at h
          | some places =>
            simp only [hit, hu, hz, hp, Option.some.injEq, Prod.mk.injEq] at h
            obtain ⟨h1, h2⟩ := h
            subst h1 h2
            obtain ⟨r, hr1, hr2⟩ := bld_fill (place := (places.toArray[·]?)) (fun i x hi => by simpa using hi) parts zv.cells cs hb
            simp only [hz, hp, hr1, Option.map_some, hr2]
theorem sd_build {t : TypeId} {xs : List (Nat × Operand)} {vs : List Value} {cs : List Value} (hg : gOn ops L g = true) (hx : evs L (xs.map (·.2)) = some vs) (hb : (E.P.built t ((xs.map (·.1)).zip vs)).map (·.toList) = some cs) :
    SD E ops ⟨dst, .build t xs.toArray, ty, ps, af, g⟩ D L C (.agg cs.toArray) :=
  sd_pure hg (by simp) fun a w hf _ => by
    have hA : (xs.toArray.map fun ((i, x) : Nat × Operand) => (i, a.eval x)) = ((xs.map (·.1)).zip vs).toArray := by
      rw [← hf.evs hx]
      apply Array.ext'
      simp [List.zip_map', List.map_map]
    obtain ⟨cells, hc, hcc⟩ := Option.map_eq_some_iff.1 hb
    have hcells : cells = cs.toArray := by rw [← hcc]
    subst hcells
    have h1 := run_build (P := E.P) w t (((xs.map (·.1)).zip vs).toArray) cs.toArray (by simpa using hc)
    simp only [execOp, hA, Sem.run_bind, h1, Result.andThen_ok, Sem.run_pure]
theorem sd_field {t : TypeId} {x : Operand} {cs : List Value} {f o n : Nat} {vs : List Value} (hg : gOn ops L g = true) (hx : ev L x = some (.agg cs.toArray)) (hf : fOff E.P t f = some o) (ht : (match E.P.underlying t with | some (.struct fs) => (fs[f]?).map (fun fl => tK E.P fl.type) | _ => none) = some (some (true, n)))
    (hv : (cs.drop o).take n = vs) : SD E ops ⟨dst, .field t x f, ty, ps, af, g⟩ D L C (.agg vs.toArray) :=
  sd_pure hg (by simp) fun a w hfr _ => by
    unfold fOff at hf
    cases hu : E.P.underlying t with
    | none => simp [hu] at hf
    | some dd =>
      cases dd <;> simp [hu] at hf
      rename_i fs
      cases hff : fs[f]? with
      | none => simp [hff] at hf
      | some fl =>
        simp only [hu, hff, Option.map_some, Option.some.injEq] at ht
        simp only [hff] at hf
        cases hi : E.P.info? fl.type with
        | none => simp [hi] at hf
        | some i =>
          simp only [hi] at hf
          by_cases hz : i.size = 0
          · simp [hz] at hf
          · simp only [hz, if_false, Option.some.injEq] at hf
            subst hf
            simp [execOp, hfr.ev hx, Instr.field, run_underlying hu, hff, asAgg, part, (tK_agg ht w).1, (tK_agg ht w).2]
            exact hv
theorem sd_field1 {t : TypeId} {x : Operand} {cs : List Value} {f o n : Nat} {v : Value} (hg : gOn ops L g = true) (hx : ev L x = some (.agg cs.toArray)) (hf : fOff E.P t f = some o) (ht : (match E.P.underlying t with | some (.struct fs) => (fs[f]?).map (fun fl => tK E.P fl.type) | _ => none) = some (some (false, n)))
    (hv : cs[o]? = some v) : SD E ops ⟨dst, .field t x f, ty, ps, af, g⟩ D L C v :=
  sd_pure hg (by simp) fun a w hfr _ => by
    unfold fOff at hf
    cases hu : E.P.underlying t with
    | none => simp [hu] at hf
    | some dd =>
      cases dd <;> simp [hu] at hf
      rename_i fs
      cases hff : fs[f]? with
      | none => simp [hff] at hf
      | some fl =>
        simp only [hu, hff, Option.map_some, Option.some.injEq] at ht
        simp only [hff] at hf
        cases hi : E.P.info? fl.type with
        | none => simp [hi] at hf
        | some i =>
          simp only [hi] at hf
          by_cases hz : i.size = 0
          · simp [hz] at hf
          · simp only [hz, if_false, Option.some.injEq] at hf
            subst hf
            simp [execOp, hfr.ev hx, Instr.field, run_underlying hu, hff, asAgg, part, (tK_one ht w).1, hv]
theorem sd_extract {x : Operand} {vs : List Value} {i : Nat} {v : Value} (hg : gOn ops L g = true) (hx : ev L x = some (.tuple vs.toArray)) (hv : vs[i]? = some v) : SD E ops ⟨dst, .extract x i, ty, ps, af, g⟩ D L C v :=
  sd_pure hg (by simp) fun a w hf _ => by simp [execOp, hf.ev hx, Instr.extract, hv]
theorem sd_func {fn : Fn} {xs ys : Array Operand} {us vs : List Value} (hg : gOn ops L g = true) (hx : evs L xs.toList = some us) (hy : evs L ys.toList = some vs) : SD E ops ⟨dst, .makeFunc fn xs ys, ty, ps, af, g⟩ D L C (.func fn us.toArray vs.toArray) :=
  sd_pure hg (by simp) fun a w hf _ => by
    have h1 : xs.map a.eval = us.toArray := Array.ext' (by simp [hf.evs hx])
    have h2 : ys.map a.eval = vs.toArray := Array.ext' (by simp [hf.evs hy])
    simp [execOp, Instr.makeFunc, h1, h2]
/-! ## stores -/
theorem run_storeCells {P : Program} {b t : Nat} : ∀ (vs : List Value) (cs : List Value) (o i : Nat) (w : World), (∀ v ∈ vs, v.oneCell' = true) → o + i + vs.length ≤ cs.length → w.heap[b]? = some (.cells cs.toArray t (0, 0)) →
    ∃ w', (storeCells ⟨b, o, none⟩ vs i).run P w = .ok () w' ∧ w'.heap[b]? = some (.cells (cs.take (o + i) ++ vs ++ cs.drop (o + i + vs.length)).toArray t (0, 0)) ∧ Keeps (only b) w w' := by
  intro vs
  induction vs with
  | nil => intro cs o i w _ _ h; exact ⟨w, by simp [storeCells], by simpa using h, Keeps.refl _ _⟩
  | cons v vs ih =>
    intro cs o i w hv hl h
    simp only [List.length_cons] at hl
    have hlt := lt_of_heap h
    have hcell : w.cell? ((⟨b, o, none⟩ : Addr).add i) = some (cs[o + i]'(by omega)) := by
      rw [add_plain, cell_of_row w b _ cs.toArray t (0, 0) h]
      simp
    have hfz : w.frozen? ((⟨b, o, none⟩ : Addr).add i) = false := by rw [add_plain]; simp [World.frozen?, h]
    have hset : (w.setCell ((⟨b, o, none⟩ : Addr).add i) v).heap[b]? = some (.cells (cs.set (o + i) v).toArray t (0, 0)) := by
      rw [add_plain]
      simp [World.setCell, Array.getElem?_modify, h]
    have hkeep : Keeps (only b) w (w.setCell ((⟨b, o, none⟩ : Addr).add i) v) := ⟨rfl, rfl, rfl, by simp [World.setCell], fun k hk hn => Below.heap_setCell _ _ _ _ (by rw [add_block]; exact hn)⟩
    obtain ⟨w', h1, h2, h3⟩ := ih (cs.set (o + i) v) o (i + 1) _ (fun u hu => hv u (by simp [hu])) (by simp; omega) hset
    refine ⟨w', ?_, ?_, hkeep.trans h3⟩
    · have hv0 := hv v (by simp)
      have hst : (store ((⟨b, o, none⟩ : Addr).add i) v).run P w = .ok () (w.setCell ((⟨b, o, none⟩ : Addr).add i) v) := by
        rw [run_store P w _ v _ (by simpa [Value.oneCell'] using hv0)]
        simp [hcell, hfz]
      simp only [storeCells, Sem.run_bind, hst, Result.andThen_ok, h1]
    · rw [h2]
      congr 3
      rw [show o + (i + 1) = o + i + 1 from by omega, List.take_add_one, List.take_set_of_le (Nat.le_refl _), List.getElem?_set_self (by omega), List.drop_set_of_lt (by omega)]
      simp [Nat.add_assoc, Nat.add_comm, Nat.add_left_comm]
theorem St.upd {S : BS} {w0 w w' : World} {b : Nat} {A A' : Assn} (i : Nat) (h : St S w0 C w) (hC : C[i]? = some A) (hA : A.foot b) (hw : A.wr = true) (hk : Keeps (only b) w w') (hA' : ∀ x, A'.foot x → x = b) (hb : A'.holds w') : St S w0 (C.set i A') w' := by
  have hi : i < C.length := (List.getElem?_eq_some_iff.1 hC).1
  have hget : C[i] = A := (List.getElem?_eq_some_iff.1 hC).2
  have hAw := A.whole hw b hA
  have hown := h.own A (List.mem_of_getElem? hC) b hAw
  have hseen := h.seen A (List.mem_of_getElem? hC) b hA
  have hsep : ∀ j (hj : j < C.length), j ≠ i → ∀ x, (C[j]).foot x → x ≠ b := by
    intro j hj hne x hx he
    subst he
    rcases Nat.lt_or_gt_of_ne hne with hlt | hlt
    · have := List.pairwise_iff_getElem.1 h.sep j i hj hi hlt
      rw [hget] at this
      exact (this x hx hA).2 hAw
    · have := List.pairwise_iff_getElem.1 h.sep i j hi hj hlt
      rw [hget] at this
      exact (this x hA hx).1 hAw
  refine ⟨?_, ?_, ?_, ?_, ?_⟩
  · refine ⟨hk.os.trans h.keeps.os, hk.tape.trans h.keeps.tape, hk.output.trans h.keeps.output, Nat.le_trans h.keeps.size hk.size, fun k hkk hn => ?_⟩
    have hne : ¬ only b k := by
      rintro rfl
      rcases hown with h1 | h1
      · omega
      · exact hn h1
    exact (hk.block k (Nat.lt_of_lt_of_le hkk h.keeps.size) hne).trans (h.keeps.block k hkk hn)
  · intro B hB
    obtain ⟨j, hj, hjB⟩ := List.mem_iff_getElem.1 hB
    rw [List.getElem_set] at hjB
    split at hjB
    · subst hjB; exact hb
    · rename_i hne
      subst hjB
      have hj' : j < C.length := by simpa using hj
      have hm : C[j] ∈ C := List.getElem_mem hj'
      refine (C[j]).keep w w' (fun x hx => hk.block x ((C[j]).lt w (h.holds _ hm) x hx) ?_) (h.holds _ hm)
      exact hsep j hj' (Ne.symm hne) x hx
  · rw [List.pairwise_iff_getElem]
    intro p q hp hq hpq
    have hp' : p < C.length := by simpa using hp
    have hq' : q < C.length := by simpa using hq
    have hs := List.pairwise_iff_getElem.1 h.sep p q hp' hq' hpq
    rw [List.getElem_set, List.getElem_set]
    split
    · rename_i e1; subst e1
      rw [if_neg (by omega)]
      intro x hx hx'
      exact absurd (hA' x hx) (hsep q hq' (by omega) x hx')
    · split
      · rename_i e1; subst e1
        intro x hx hx'
        exact absurd (hA' x hx') (hsep p hp' (by omega) x hx)
      · exact hs
  · intro B hB x hx
    obtain ⟨j, hj, hjB⟩ := List.mem_iff_getElem.1 hB
    rw [List.getElem_set] at hjB
    split at hjB
    · subst hjB
      have := hA' x (A'.wfoot x hx)
      subst this; exact hown
    · subst hjB
      exact h.own _ (List.getElem_mem _) x hx
  · intro B hB x hx
    obtain ⟨j, hj, hjB⟩ := List.mem_iff_getElem.1 hB
    rw [List.getElem_set] at hjB
    split at hjB
    · subst hjB
      have := hA' x hx
      subst this; exact hseen
    · subst hjB
      exact h.seen _ (List.getElem_mem _) x hx
theorem St.store {S : BS} {w0 w w' : World} {b t : Nat} {cs cs' : List Value} (i : Nat) (h : St S w0 C w) (hC : C[i]? = some (blk b t cs)) (hk : Keeps (only b) w w') (hb : w'.heap[b]? = some (.cells cs'.toArray t (0, 0))) : St S w0 (C.set i (blk b t cs')) w' :=
  h.upd i hC rfl rfl hk (fun _ h => h) hb
theorem r_store {t n b o tt : Nat} {x y : Operand} {v : Value} {vs cs cs' : List Value} {C' : List Assn} (i : Nat) (hg : gOn ops L g = true) (hx : ev L x = some (.pointer (some ⟨b, o, none⟩))) (hy : ev L y = some v) (ht : (tK E.P t).map (·.2) = some n) (hv : v.cells.toList = vs) (hn : vs.length = n)
    (h1 : vs.all Value.oneCell' = true) (hC : C[i]? = some (blk b tt cs)) (hl : Nat.ble (o + n) cs.length = true) (hcs : cs.take o ++ vs ++ cs.drop (o + n) = cs') (hC' : C.set i (blk b tt cs') = C') (k : RJ E ops Q rest D L C') :
    RJ E ops Q (⟨none, .store t x y, ty, ps, af, g⟩ :: rest) D L C := by
  intro a w hfr hs
  unfold wpL
  rw [if_pos (gOn_wanted hfr hg)]
  have hl' := Nat.le_of_ble_eq_true hl
  obtain ⟨w', hr, hb', hk⟩ := run_storeCells (P := E.P) vs cs o 0 w (fun v hv => List.all_eq_true.1 h1 v hv) (by rw [hn]; exact hl') (hs.holds _ (List.mem_of_getElem? hC))
  have hsize : (sizeOf t).run E.P w = .ok n w := by
    obtain ⟨bn, hbn, rfl⟩ := Option.map_eq_some_iff.1 ht
    obtain ⟨bb, nn⟩ := bn
    cases bb
    · exact (tK_one hbn w).2
    · exact (tK_agg hbn w).2
  have hvs : v.cells.size = n := by rw [← hn, ← hv]; simp
  refine wp_skip (by simp) (w' := w') ?_ ?_
  · simp [execOp, hfr.ev hx, hfr.ev hy, Instr.storeAt, Instr.sureAddr, storeVar, hsize, hvs, hv, hr]
  · refine k _ _ ⟨hfr.defers, hfr.size, hfr.at_⟩ ?_
    rw [← hC']
    refine hs.store i hC hk ?_
    rw [hb']
    simp only [Nat.add_zero, hn, hcs]
end
end Go.Proofs.Ytaehngpnlkokkaa
