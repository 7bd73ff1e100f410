/-
  Rules for maps that are keyed by int: what a map holds is a list of pairs, each key once.
  No condition: the theorems hold over whatever program.
-/
import Derived.Test.YtaehngpnlkokkaaDraw
import Derived.Maps.RangeRun
namespace Go.Proofs.Ytaehngpnlkokkaa
open Go.RowKit
set_option linter.unusedVariables false

/-! ## lists of pairs -/
def setK {β : Type} (l : List (Int × β)) (x : Int) (y : β) : List (Int × β) := if (l.lookup x).isSome then l.map (fun p => if p.1 = x then (x, y) else p) else l ++ [(x, y)]
def delK {β : Type} (l : List (Int × β)) (x : Int) : List (Int × β) := l.filter fun p => !decide (p.1 = x)
def mapV {β γ : Type} (f : β → γ) (l : List (Int × β)) : List (Int × γ) := l.map fun p => (p.1, f p.2)
theorem mapV_len {β γ : Type} (f : β → γ) (l : List (Int × β)) : (mapV f l).length = l.length := by simp [mapV]
theorem mapV_lookup {β γ : Type} (f : β → γ) (x : Int) : ∀ l : List (Int × β), (mapV f l).lookup x = (l.lookup x).map f
  | [] => rfl
  | p :: l => by
    obtain ⟨k, v⟩ := p
    have ih := mapV_lookup f x l
    by_cases h : x = k
    · subst h; simp [mapV, List.lookup]
    · have : (x == k) = false := by simpa using h
      simp only [mapV, List.map_cons, List.lookup, this] at ih ⊢
      exact ih
theorem mapV_setK {β γ : Type} (f : β → γ) (l : List (Int × β)) (x : Int) (y : β) : mapV f (setK l x y) = setK (mapV f l) x (f y) := by
  unfold setK
  rw [mapV_lookup, Option.isSome_map]
  split
  · simp only [mapV, List.map_map]
    refine List.map_congr_left fun p _ => ?_
    simp only [Function.comp]
    split <;> rfl
  · simp [mapV]
theorem mapV_delK {β γ : Type} (f : β → γ) (l : List (Int × β)) (x : Int) : mapV f (delK l x) = delK (mapV f l) x := by
  unfold delK mapV
  rw [List.filter_map]
  rfl
theorem lookup_none {β : Type} {x : Int} : ∀ {l : List (Int × β)}, l.lookup x = none ↔ ∀ p ∈ l, p.1 ≠ x
  | [] => by simp
  | p :: l => by
    obtain ⟨k, v⟩ := p
    by_cases h : x = k
    · subst h; simp [List.lookup]
    · have hb : (x == k) = false := by simpa using h
      simp only [List.lookup, hb, List.mem_cons, forall_eq_or_imp]
      rw [lookup_none (l := l)]
      exact ⟨fun q => ⟨fun e => h e.symm, q⟩, fun q => q.2⟩
theorem lookup_mem {β : Type} {x : Int} {y : β} : ∀ {l : List (Int × β)}, (l.map (·.1)).Nodup → ((x, y) ∈ l ↔ l.lookup x = some y)
  | [], _ => by simp
  | p :: l, hn => by
    obtain ⟨k, v⟩ := p
    simp only [List.map_cons, List.nodup_cons] at hn
    by_cases h : x = k
    · subst h
      simp only [List.lookup, beq_self_eq_true, List.mem_cons, Prod.mk.injEq, true_and, Option.some.injEq]
      constructor
      · rintro (e | e)
        · exact e.symm
        · exact absurd (List.mem_map.2 ⟨_, e, rfl⟩) hn.1
      · intro e; exact .inl e.symm
    · have hb : (x == k) = false := by simpa using h
      simp only [List.lookup, hb, List.mem_cons, Prod.mk.injEq, h, false_and, false_or]
      exact lookup_mem hn.2

/-! ## what a map holds -/
structure MapIs (es : Array MapEntry) (c : Nat) (m : List (Int × Value)) : Prop where
  list : es.toList.map (fun e => (e.key, e.val)) = m.map (fun p => (Value.int .i64 p.1, p.2))
  keys : (m.map (·.1)).Nodup
  old : ∀ e ∈ es.toList, e.born < c
  born : (es.toList.map (·.born)).Nodup
def mp (b : Nat) (m : List (Int × Value)) : Assn where
  foot k := k = b
  wf k := k = b
  holds w := ∃ es c, w.heap[b]? = some (.map es c) ∧ MapIs es c m
  wr := true
  wfoot _ h := h
  whole _ _ h := h
  lt w h k hk := by obtain ⟨es, c, he, _⟩ := h; exact hk ▸ lt_of_heap he
  keep w w' hk h := by obtain ⟨es, c, he, hm⟩ := h; exact ⟨es, c, (hk b rfl).trans he, hm⟩
theorem MapIs.nil : MapIs #[] 0 [] := ⟨rfl, List.nodup_nil, by simp, List.nodup_nil⟩
theorem MapIs.size {es : Array MapEntry} {c : Nat} {m : List (Int × Value)} (h : MapIs es c m) : es.size = m.length := by
  have := congrArg List.length h.list
  simpa using this
theorem findNow_is (x : Int) : ∀ (es : List MapEntry) (m : List (Int × Value)) (i : Nat), es.map (fun e => (e.key, e.val)) = m.map (fun p => (Value.int .i64 p.1, p.2)) →
    (Instr.findNow (.int .i64) (.int .i64 x) es i = some none ∧ m.lookup x = none) ∨
    ∃ j v, Instr.findNow (.int .i64) (.int .i64 x) es i = some (some (i + j, v)) ∧ m[j]? = some (x, v) ∧ m.lookup x = some v
  | [], m, i, h => by
    cases m with
    | nil => exact .inl ⟨rfl, rfl⟩
    | cons p m => simp at h
  | e :: es, m, i, h => by
    cases m with
    | nil => simp at h
    | cons p m =>
      obtain ⟨k, v⟩ := p
      simp only [List.map_cons, List.cons.injEq, Prod.mk.injEq] at h
      obtain ⟨⟨hk, hv⟩, ht⟩ := h
      by_cases hx : x = k
      · subst hx
        refine .inr ⟨0, v, ?_, rfl, by simp [List.lookup]⟩
        simp [Instr.findNow, Instr.sameNow, hk, hv]
      · have hb : (x == k) = false := by simpa using hx
        rcases findNow_is x es m (i + 1) ht with ⟨h1, h2⟩ | ⟨j, v', h1, h2, h3⟩
        · exact .inl ⟨by simp [Instr.findNow, Instr.sameNow, hk, hb, h1], by simp [List.lookup, hb, h2]⟩
        · refine .inr ⟨j + 1, v', ?_, by simpa using h2, by simp [List.lookup, hb, h3]⟩
          simp only [Instr.findNow, Instr.sameNow, hk, hb, if_true, h1]
          simp; omega
theorem run_find {P : Program} {w : World} {kt : Nat} {x : Int} {es : Array MapEntry} {c : Nat} {m : List (Int × Value)} (hk : P.underlying kt = some (.int .i64)) (h : MapIs es c m) :
    ((Instr.findKey kt (.int .i64 x) es.toList).run P w = .ok none w ∧ m.lookup x = none) ∨
    ∃ j v, (Instr.findKey kt (.int .i64 x) es.toList).run P w = .ok (some (j, v)) w ∧ m[j]? = some (x, v) ∧ m.lookup x = some v := by
  rcases findNow_is x es.toList m 0 h.list with ⟨h1, h2⟩ | ⟨j, v, h1, h2, h3⟩
  · exact .inl ⟨MapKept.run_findKey hk h1, h2⟩
  · exact .inr ⟨j, v, MapKept.run_findKey hk (by simpa using h1), h2, h3⟩
theorem run_check {P : Program} {w : World} {kt : Nat} {x : Int} (hk : P.underlying kt = some (.int .i64)) (e : Bool) : (Instr.checkKey e 10000 kt (.int .i64 x)).run P w = .ok () w := by
  exact MapKept.run_checkKey hk (show MapKept.IsKey (.int .i64) (.int .i64 x) from rfl) e 9999

section
variable {E : Env} {ops : Array Oper} {Q : Post} {rest : List Oper} {D : List Deferred} {L : List (Nat × Value)} {C : List Assn}
variable {dst : Option Tmp} {d : Nat} {ty : TypeId} {ps : String} {af : Array Edge} {g : Option (Nat × Bool)}
theorem r_mkmap {t : TypeId} (hg : gOn ops L g = true) (hd : Nat.blt d E.n = true) (k : ∀ b, RJ E ops Q rest D ((d, .map (some b)) :: L) (mp b [] :: C)) : RJ E ops Q (⟨some d, .makeMap t none, ty, ps, af, g⟩ :: rest) D L C := by
  intro a w hfr hs
  have hd' : d < E.n := by rw [← Nat.blt_eq]; exact hd
  unfold wpL
  rw [if_pos (gOn_wanted hfr hg)]
  refine wp_value (v := .map (some w.heap.size)) (w' := w.alloc (.map #[] 0)) (by simp) ?_ ?_
  · simp [execOp, Instr.makeMap, newObj, Sem.run]
  · refine k _ _ _ (hfr.put hd' _) (hs.grow (Keeps.alloc no w _) (N := [mp w.heap.size []]) ⟨fun A hA => ?_, fun A hA b hb => ?_, List.pairwise_singleton _ _⟩)
    · simp at hA; subst hA; exact ⟨#[], 0, heap_alloc_new w _, MapIs.nil⟩
    · simp at hA; subst hA; exact Nat.le_of_eq (Eq.symm hb)
theorem keeps_set {w : World} {b : Nat} (o : Obj) : Keeps (only b) w { w with heap := w.heap.setIfInBounds b o } :=
  ⟨rfl, rfl, rfl, by simp, fun k hk hn => by simp only [only] at hn; exact Array.getElem?_setIfInBounds_ne (fun e => hn e.symm)⟩
theorem heap_set {w : World} {b : Nat} {o o' : Obj} (h : w.heap[b]? = some o) : ({ w with heap := w.heap.setIfInBounds b o' } : World).heap[b]? = some o' := by
  have := (Array.getElem?_eq_some_iff.1 h).1
  simp [Array.getElem?_setIfInBounds_self_of_lt this]
theorem MapIs.push {es : Array MapEntry} {c : Nat} {m : List (Int × Value)} (h : MapIs es c m) {x : Int} (hx : m.lookup x = none) (v : Value) : MapIs (es.push { key := .int .i64 x, val := v, born := c }) (c + 1) (m ++ [(x, v)]) := by
  refine ⟨by simp [h.list], ?_, ?_, ?_⟩
  · rw [List.map_append, List.nodup_append]
    refine ⟨h.keys, by simp, fun a ha b hb => ?_⟩
    simp at hb; subst hb
    obtain ⟨p, hp, rfl⟩ := List.mem_map.1 ha
    exact lookup_none.1 hx p hp
  · intro e he
    simp only [Array.toList_push, List.mem_append, List.mem_singleton] at he
    rcases he with he | rfl
    · exact Nat.lt_succ_of_lt (h.old e he)
    · exact Nat.lt_succ_self _
  · simp only [Array.toList_push, List.map_append, List.map_cons, List.map_nil]
    rw [List.nodup_append]
    refine ⟨h.born, by simp, fun a ha b hb => ?_⟩
    simp at hb; subst hb
    obtain ⟨p, hp, rfl⟩ := List.mem_map.1 ha
    exact Nat.ne_of_lt (h.old p hp)
theorem set_at {m : List (Int × Value)} {j : Nat} {x : Int} {v0 v : Value} (hn : (m.map (·.1)).Nodup) (hj : m[j]? = some (x, v0)) : m.map (fun p => if p.1 = x then (x, v) else p) = m.set j (x, v) := by
  refine List.ext_getElem? fun i => ?_
  rw [List.getElem?_map, List.getElem?_set]
  by_cases e : j = i
  · subst e
    have hl := (List.getElem?_eq_some_iff.1 hj).1
    rw [hj]; simp [hl]
  · rw [if_neg e]
    cases hi : m[i]? with
    | none => rfl
    | some p =>
      simp only [Option.map_some]
      rw [if_neg]
      intro hp
      have h1 : (m.map (·.1))[i]? = some x := by rw [List.getElem?_map, hi]; simp [hp]
      have h2 : (m.map (·.1))[j]? = some x := by rw [List.getElem?_map, hj]; rfl
      have hil := (List.getElem?_eq_some_iff.1 h1).1
      exact e (((List.getElem?_inj hil hn).1 (h1.trans h2.symm)).symm)
theorem MapIs.set {es : Array MapEntry} {c : Nat} {m : List (Int × Value)} (h : MapIs es c m) {x : Int} {j : Nat} {v0 : Value} (hj : m[j]? = some (x, v0)) (hx : m.lookup x = some v0) (v : Value) :
    MapIs (es.modify j fun e => { e with key := .int .i64 x, val := v }) c (setK m x v) := by
  have e1 : setK m x v = m.set j (x, v) := by unfold setK; rw [hx]; simpa using set_at h.keys hj
  have hl := (List.getElem?_eq_some_iff.1 hj).1
  have hsz := h.size
  have hje : j < es.size := by omega
  have e2 : (es.modify j fun e => { e with key := .int .i64 x, val := v }).toList = es.toList.set j { (es[j]) with key := .int .i64 x, val := v } := by
    refine List.ext_getElem? fun i => ?_
    rw [Array.getElem?_toList, Array.getElem?_modify, List.getElem?_set]
    by_cases e : j = i
    · subst e; simp [hje]
    · simp [e]
  have e3 : (es.toList.set j { (es[j]) with key := .int .i64 x, val := v }).map (·.born) = es.toList.map (·.born) := by
    rw [List.map_set]
    refine List.ext_getElem? fun i => ?_
    rw [List.getElem?_set]
    by_cases e : j = i
    · subst e; simp [hje]
    · rw [if_neg e]
  refine ⟨?_, ?_, ?_, ?_⟩
  · rw [e2, e1, List.map_set, List.map_set, h.list]
  · rw [e1, List.map_set]
    have : (m.map (·.1)).set j x = m.map (·.1) := by
      refine List.ext_getElem? fun i => ?_
      rw [List.getElem?_set]
      by_cases e : j = i
      · subst e; simp [hl]; simpa using (congrArg Prod.fst ((List.getElem?_eq_some_iff.1 hj).2)).symm
      · rw [if_neg e]
    simp only [this]
    exact h.keys
  · intro e he
    rw [e2] at he
    have hb : e.born ∈ (es.toList.set j { (es[j]) with key := .int .i64 x, val := v }).map (·.born) := List.mem_map.2 ⟨e, he, rfl⟩
    rw [e3] at hb
    obtain ⟨e', he', hq⟩ := List.mem_map.1 hb
    rw [← hq]; exact h.old e' he'
  · rw [e2, e3]; exact h.born
/-- m[x] = y -/
theorem r_mapset {t kt et : TypeId} {xm xk xv : Operand} {b : Nat} {x : Int} {v : Value} {m m' : List (Int × Value)} {C' : List Assn} (i : Nat) (hg : gOn ops L g = true) (hm : ev L xm = some (.map (some b))) (hk : ev L xk = some (.int .i64 x)) (hv : ev L xv = some v)
    (ht : E.P.underlying t = some (.map kt et)) (hkt : E.P.underlying kt = some (.int .i64)) (hC : C[i]? = some (mp b m)) (hm' : setK m x v = m') (hC' : C.set i (mp b m') = C') (k : RJ E ops Q rest D L C') :
    RJ E ops Q (⟨none, .mapUpdate t xm xk xv, ty, ps, af, g⟩ :: rest) D L C := by
  subst hm' hC'
  intro a w hfr hs
  unfold wpL
  rw [if_pos (gOn_wanted hfr hg)]
  obtain ⟨es, c, he, hi⟩ := hs.holds _ (List.mem_of_getElem? hC)
  have hget : (getObj b).run E.P w = .ok (.map es c) w := MapKept.run_getObj_map he
  rcases run_find (P := E.P) (w := w) (x := x) hkt hi with ⟨h1, h2⟩ | ⟨j, v0, h1, h2, h3⟩
  · refine wp_skip (w' := { w with heap := w.heap.setIfInBounds b (.map (es.push { key := .int .i64 x, val := v, born := c }) (c + 1)) }) (by simp) ?_ ?_
    · simp [execOp, hfr.ev hm, hfr.ev hk, hfr.ev hv, Instr.mapUpdate, run_underlying ht, hget, run_check hkt, h1, MapKept.run_setObj_map _ he]
    · refine k _ _ ⟨hfr.defers, hfr.size, hfr.at_⟩ (hs.upd (b := b) i hC rfl rfl (keeps_set _) (fun _ h => h) ⟨_, _, heap_set he, ?_⟩)
      have : setK m x v = m ++ [(x, v)] := by unfold setK; rw [h2]; rfl
      rw [this]; exact hi.push h2 v
  · have hsz := hi.size
    have hje : j < es.size := by have := (List.getElem?_eq_some_iff.1 h2).1; omega
    have hkey : (es[j]).key = .int .i64 x := by
      have := congrArg (fun l => l[j]?) hi.list
      simp [hje, h2] at this
      exact this.1
    refine wp_skip (w' := { w with heap := w.heap.setIfInBounds b (.map (es.modify j fun e => { e with key := .int .i64 x, val := v }) c) }) (by simp) ?_ ?_
    · simp [execOp, hfr.ev hm, hfr.ev hk, hfr.ev hv, Instr.mapUpdate, run_underlying ht, hget, run_check hkt, h1, MapKept.run_setObj_map _ he, Instr.keyThatStays, hje, hkey, Instr.sameBits]
    · exact k _ _ ⟨hfr.defers, hfr.size, hfr.at_⟩ (hs.upd (b := b) i hC rfl rfl (keeps_set _) (fun _ h => h) ⟨_, _, heap_set he, hi.set h2 h3 v⟩)
theorem MapIs.del {es : Array MapEntry} {c : Nat} {m : List (Int × Value)} (h : MapIs es c m) {x : Int} {j : Nat} {v0 : Value} (hj : m[j]? = some (x, v0)) : MapIs (es.eraseIdxIfInBounds j) c (delK m x) := by
  have hl := (List.getElem?_eq_some_iff.1 hj).1
  have hsz := h.size
  have hje : j < es.size := by omega
  have e1 : (es.eraseIdxIfInBounds j).toList = es.toList.eraseIdx j := by simp [Array.eraseIdxIfInBounds, hje]
  have e2 : delK m x = m.eraseIdx j := by
    have hn := h.keys
    clear h hsz hje e1
    induction m generalizing j with
    | nil => simp at hj
    | cons p m ih =>
      obtain ⟨k, v⟩ := p
      simp only [List.map_cons, List.nodup_cons] at hn
      cases j with
      | zero =>
        simp at hj
        obtain ⟨rfl, rfl⟩ := hj
        simp only [delK, List.eraseIdx_zero, List.tail_cons]
        rw [List.filter_cons_of_neg (by simp)]
        refine List.filter_eq_self.2 fun p hp => ?_
        have : p.1 ≠ k := fun e => hn.1 (List.mem_map.2 ⟨p, hp, e⟩)
        simpa using this
      | succ j =>
        simp only [List.getElem?_cons_succ] at hj
        have hne : k ≠ x := fun e => hn.1 (List.mem_map.2 ⟨_, List.mem_of_getElem? hj, e.symm⟩)
        simp only [delK, List.eraseIdx_cons_succ] at ih ⊢
        rw [List.filter_cons_of_pos (by simpa using hne), ih hj (by simpa using (List.getElem?_eq_some_iff.1 hj).1) hn.2]
  have sub : (es.eraseIdxIfInBounds j).toList.Sublist es.toList := by rw [e1]; exact List.eraseIdx_sublist _ _
  refine ⟨?_, ?_, fun e he => h.old e (sub.subset he), h.born.sublist (sub.map _)⟩
  · rw [e1, e2, ChangeMaps.map_eraseIdx, ChangeMaps.map_eraseIdx, h.list]
  · rw [e2]; exact h.keys.sublist ((List.eraseIdx_sublist _ _).map _)
theorem delK_self {m : List (Int × Value)} {x : Int} (h : m.lookup x = none) : delK m x = m := List.filter_eq_self.2 fun p hp => by simpa using lookup_none.1 h p hp
/-- delete(m, x) -/
theorem r_mapdel {t kt et : TypeId} {xm xk : Operand} {ts : Array TypeId} {b : Nat} {x : Int} {m m' : List (Int × Value)} {C' : List Assn} (i : Nat) (hg : gOn ops L g = true) (hm : ev L xm = some (.map (some b))) (hk : ev L xk = some (.int .i64 x)) (hts : ts[0]? = some t)
    (ht : E.P.underlying t = some (.map kt et)) (hkt : E.P.underlying kt = some (.int .i64)) (hC : C[i]? = some (mp b m)) (hm' : delK m x = m') (hC' : C.set i (mp b m') = C') (hd : Nat.blt d E.n = true) (k : RJ E ops Q rest D ((d, .tuple #[]) :: L) C') :
    RJ E ops Q (⟨some d, .call { callee := .builtin .delete, args := #[xm, xk], argTypes := ts }, ty, ps, af, g⟩ :: rest) D L C := by
  subst hm' hC'
  intro a w hfr hs
  have hd' : d < E.n := by rw [← Nat.blt_eq]; exact hd
  unfold wpL
  rw [if_pos (gOn_wanted hfr hg)]
  obtain ⟨es, c, he, hi⟩ := hs.holds _ (List.mem_of_getElem? hC)
  have hget : (getObj b).run E.P w = .ok (.map es c) w := MapKept.run_getObj_map he
  rcases run_find (P := E.P) (w := w) (x := x) hkt hi with ⟨h1, h2⟩ | ⟨j, v0, h1, h2, h3⟩
  · refine wp_value (v := .tuple #[]) (w' := { w with heap := w.heap.setIfInBounds b (.map es c) }) (by simp) ?_ ?_
    · simp [execOp, resolve, invoke, builtin, hfr.ev hm, hfr.ev hk, Builtin.delete_, hts, run_underlying ht, hget, run_check hkt, h1, MapKept.run_setObj_map _ he]
    · refine k _ _ (hfr.put hd' _) (hs.upd (b := b) i hC rfl rfl (keeps_set _) (fun _ h => h) ⟨_, _, heap_set he, ?_⟩)
      rw [delK_self h2]; exact hi
  · refine wp_value (v := .tuple #[]) (w' := { w with heap := w.heap.setIfInBounds b (.map (es.eraseIdxIfInBounds j) c) }) (by simp) ?_ ?_
    · simp [execOp, resolve, invoke, builtin, hfr.ev hm, hfr.ev hk, Builtin.delete_, hts, run_underlying ht, hget, run_check hkt, h1, MapKept.run_setObj_map _ he]
    · exact k _ _ (hfr.put hd' _) (hs.upd (b := b) i hC rfl rfl (keeps_set _) (fun _ h => h) ⟨_, _, heap_set he, hi.del h2⟩)
def tV (P : Program) (t : TypeId) : Option Value := (P.info? t).bind (·.zero)
theorem run_zv {P : Program} {t : TypeId} {z : Value} (h : tV P t = some z) (w : World) : (zeroValue t).run P w = .ok z w := by
  unfold tV at h
  cases hi : P.info? t with
  | none => simp [hi] at h
  | some i => simp only [hi, Option.bind_some] at h; simp [zeroValue, typeInfo, hi, h]
/-- y, ok := m[x] -/
theorem sd_look {t kt et : TypeId} {xm xk : Operand} {b : Nat} {x : Int} {z : Value} {m : List (Int × Value)} (hg : gOn ops L g = true) (hm : ev L xm = some (.map (some b))) (hk : ev L xk = some (.int .i64 x))
    (ht : E.P.underlying t = some (.map kt et)) (hkt : E.P.underlying kt = some (.int .i64)) (hz : tV E.P et = some z) (hC : Has C (mp b m).holds) :
    SD E ops ⟨dst, .lookup t xm xk true, ty, ps, af, g⟩ D L C (.tuple [(m.lookup x).getD z, .bool (m.lookup x).isSome].toArray) :=
  sd_pure hg (by simp) fun a w hfr hs => by
    obtain ⟨es, c, he, hi⟩ := hs.has hC
    have hget : (getObj b).run E.P w = .ok (.map es c) w := MapKept.run_getObj_map he
    rcases run_find (P := E.P) (w := w) (x := x) hkt hi with ⟨h1, h2⟩ | ⟨j, v0, h1, h2, h3⟩
    · simp [execOp, Instr.lookup, hfr.ev hm, hfr.ev hk, run_underlying ht, hget, run_check hkt, h1, h2, run_zv hz]
    · simp [execOp, Instr.lookup, hfr.ev hm, hfr.ev hk, run_underlying ht, hget, run_check hkt, h1, h3]
/-- m[x] -/
theorem sd_look1 {t kt et : TypeId} {xm xk : Operand} {b : Nat} {x : Int} {z : Value} {m : List (Int × Value)} (hg : gOn ops L g = true) (hm : ev L xm = some (.map (some b))) (hk : ev L xk = some (.int .i64 x))
    (ht : E.P.underlying t = some (.map kt et)) (hkt : E.P.underlying kt = some (.int .i64)) (hz : tV E.P et = some z) (hC : Has C (mp b m).holds) :
    SD E ops ⟨dst, .lookup t xm xk false, ty, ps, af, g⟩ D L C ((m.lookup x).getD z) :=
  sd_pure hg (by simp) fun a w hfr hs => by
    obtain ⟨es, c, he, hi⟩ := hs.has hC
    have hget : (getObj b).run E.P w = .ok (.map es c) w := MapKept.run_getObj_map he
    rcases run_find (P := E.P) (w := w) (x := x) hkt hi with ⟨h1, h2⟩ | ⟨j, v0, h1, h2, h3⟩
    · simp [execOp, Instr.lookup, hfr.ev hm, hfr.ev hk, run_underlying ht, hget, run_check hkt, h1, h2, run_zv hz]
    · simp [execOp, Instr.lookup, hfr.ev hm, hfr.ev hk, run_underlying ht, hget, run_check hkt, h1, h3]
/-- len(m) -/
theorem sd_lenm {t kt et : TypeId} {xm : Operand} {b : Nat} {m : List (Int × Value)} (hg : gOn ops L g = true) (hm : ev L xm = some (.map (some b))) (ht : E.P.underlying t = some (.map kt et)) (hC : Has C (mp b m).holds) :
    SD E ops ⟨dst, .call { callee := .builtin .len, args := #[xm], argTypes := #[t] }, ty, ps, af, g⟩ D L C (.int .i64 (m.length : Int)) :=
  sd_pure hg (by simp) fun a w hfr hs => by
    obtain ⟨es, c, he, hi⟩ := hs.has hC
    have hget : (getObj b).run E.P w = .ok (.map es c) w := MapKept.run_getObj_map he
    simp [execOp, resolve, invoke, builtin, hfr.ev hm, Builtin.len_, run_underlying ht, hget, hi.size, goInt]
theorem sd_look_v {β : Type} {t kt et : TypeId} {xm xk : Operand} {b : Nat} {x : Int} {f : β → Value} {z : β} {l : List (Int × β)} (hg : gOn ops L g = true) (hm : ev L xm = some (.map (some b))) (hk : ev L xk = some (.int .i64 x))
    (ht : E.P.underlying t = some (.map kt et)) (hkt : E.P.underlying kt = some (.int .i64)) (hz : tV E.P et = some (f z)) (hC : Has C (mp b (mapV f l)).holds) :
    SD E ops ⟨dst, .lookup t xm xk true, ty, ps, af, g⟩ D L C (.tuple [f ((l.lookup x).getD z), .bool (l.lookup x).isSome].toArray) := by
  have := sd_look (dst := dst) (ty := ty) (ps := ps) (af := af) (D := D) hg hm hk ht hkt hz hC
  rw [mapV_lookup] at this
  have e1 : ((l.lookup x).map f).getD (f z) = f ((l.lookup x).getD z) := by cases l.lookup x <;> rfl
  rw [e1, Option.isSome_map] at this
  exact this
theorem sd_look1_v {β : Type} {t kt et : TypeId} {xm xk : Operand} {b : Nat} {x : Int} {f : β → Value} {z : β} {l : List (Int × β)} (hg : gOn ops L g = true) (hm : ev L xm = some (.map (some b))) (hk : ev L xk = some (.int .i64 x))
    (ht : E.P.underlying t = some (.map kt et)) (hkt : E.P.underlying kt = some (.int .i64)) (hz : tV E.P et = some (f z)) (hC : Has C (mp b (mapV f l)).holds) :
    SD E ops ⟨dst, .lookup t xm xk false, ty, ps, af, g⟩ D L C (f ((l.lookup x).getD z)) := by
  have := sd_look1 (dst := dst) (ty := ty) (ps := ps) (af := af) (D := D) hg hm hk ht hkt hz hC
  rw [mapV_lookup] at this
  have e1 : ((l.lookup x).map f).getD (f z) = f ((l.lookup x).getD z) := by cases l.lookup x <;> rfl
  rw [e1] at this
  exact this
theorem sd_lenm_v {β : Type} {t kt et : TypeId} {xm : Operand} {b : Nat} {f : β → Value} {l : List (Int × β)} (hg : gOn ops L g = true) (hm : ev L xm = some (.map (some b))) (ht : E.P.underlying t = some (.map kt et)) (hC : Has C (mp b (mapV f l)).holds) :
    SD E ops ⟨dst, .call { callee := .builtin .len, args := #[xm], argTypes := #[t] }, ty, ps, af, g⟩ D L C (.int .i64 (l.length : Int)) := by
  have := sd_lenm (dst := dst) (ty := ty) (ps := ps) (af := af) (D := D) hg hm ht hC
  rwa [mapV_len] at this
end
theorem FnV.toX {P : Program} {f : FuncId} {args : List Value} {Cp : List Assn} {α : Type} {V : α → Value} {p : α → Prop} {N : α → List Assn} (x : α) (h : FnV P f args Cp (V x)) (hp : p x) (hN : ∀ w, ∀ A ∈ N x, A.holds w ∧ ∀ b, ¬ A.foot b) : FnX P f args Cp V p N :=
  ⟨h.go, fun w hw => (h.run w hw).mono fun e w' ⟨he, hk⟩ => ⟨x, he, hp, hk, fun A hA => (hN w' A hA).1, fun A hA b hb => absurd hb ((hN w' A hA).2 b), List.pairwise_iff_getElem.2 fun i j hi hj hij b hb => absurd hb ((hN w' _ (List.getElem_mem hi)).2 b)⟩⟩
theorem own_none {e sz : Nat} (w : World) : ∀ A ∈ [own none 0 e sz []], A.holds w ∧ ∀ b, ¬ A.foot b := fun A hA => by
  simp at hA; subst hA
  exact ⟨own_nil _ _ _, fun b ⟨ad, h1, _⟩ => by cases h1⟩
theorem has_own_n {C : List Assn} {a : Option Addr} {c e sz n : Nat} {es : List (List Value)} (i : Nat) (hC : C[i]? = some (own a c e sz es)) (hn : es.length = n) : Has C (rd a n sz es).holds := hn ▸ has_own i hC
abbrev iV : Int → Value := Value.int .i64
end Go.Proofs.Ytaehngpnlkokkaa
