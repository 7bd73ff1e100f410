/-
  A function's contract from its body; parts of a state by their places; rows that grow.
  No condition: the theorems hold over whatever program.
-/
import Derived.Test.YtaehngpnlkokkaaCall
import Derived.Maps.AppendAt
namespace Go.Proofs.Ytaehngpnlkokkaa
open Go.RowKit
set_option linter.unusedVariables false

/-! ## parts by their places -/
def sel (C : List Assn) (is : List Nat) : List Assn := is.filterMap (C[·]?)
theorem sel_mem {C : List Assn} {is : List Nat} {A : Assn} (h : A ∈ sel C is) : A ∈ C := by
  obtain ⟨i, _, hi⟩ := List.mem_filterMap.1 h
  exact List.mem_of_getElem? hi
theorem sel_sep {C : List Assn} (hC : C.Pairwise Sep) : ∀ {is : List Nat}, is.Nodup → (sel C is).Pairwise Sep := by
  intro is
  induction is with
  | nil => intro _; exact List.Pairwise.nil
  | cons i is ih =>
    intro hn
    rw [List.nodup_cons] at hn
    unfold sel
    cases hi : C[i]? with
    | none => simp only [List.filterMap_cons, hi]; exact ih hn.2
    | some A =>
      simp only [List.filterMap_cons, hi]
      refine List.Pairwise.cons (fun B hB => ?_) (ih hn.2)
      obtain ⟨j, hj, hjB⟩ := List.mem_filterMap.1 hB
      have hne : i ≠ j := fun e => hn.1 (e ▸ hj)
      obtain ⟨hi1, hi2⟩ := List.getElem?_eq_some_iff.1 hi
      obtain ⟨hj1, hj2⟩ := List.getElem?_eq_some_iff.1 hjB
      rcases Nat.lt_or_gt_of_ne hne with h | h
      · have := List.pairwise_iff_getElem.1 hC i j hi1 hj1 h
        rwa [hi2, hj2] at this
      · have := List.pairwise_iff_getElem.1 hC j i hj1 hi1 h
        rw [hi2, hj2] at this
        exact Sep.symm this
theorem nodup_of {is : List Nat} (h : decide is.Nodup = true) : is.Nodup := of_decide_eq_true h
theorem St.sel {S : BS} {w0 w : World} {C C' : List Assn} (is : List Nat) (hn : decide is.Nodup = true) (hC : Go.Proofs.Ytaehngpnlkokkaa.sel C is = C') (h : St S w0 C w) : St S w0 C' w := by
  subst hC
  exact h.sub (sel_sep h.sep (nodup_of hn)) (fun A hA => sel_mem hA)

/-! ## from the body -/
def mark (r : Nat) : Deferred := { target := .collected r, args := #[] }
/-- what is asked where a function is left -/
def LJ (E : Env) (fn : Func) (R : Ending → World → Prop) (D : List Deferred) (L : List (Nat × Value)) (C : List Assn) : Prop :=
  ∀ a w, Fr E.n D L a → St E.S E.w0 C w → LeavesInM (Fw none) 0 E.P fn a.tmps R D .returning w
def ResV (P : Program) (L : List (Nat × Value)) (C : List Assn) : List ResultVar → List Value → Prop
  | [], [] => True
  | .tmp t :: rs, v :: vs => L.lookup t = some v ∧ ResV P L C rs vs
  | .cell a t :: rs, v :: vs => (∃ A, L.lookup a = some (.pointer A) ∧ ((∃ n us, tK P t = some (true, n) ∧ At C A us ∧ us.length = n ∧ v = .agg us.toArray) ∨ (∃ n, tK P t = some (false, n) ∧ At C A [v]))) ∧ ResV P L C rs vs
  | _, _ => False
def tup (vs : List Value) : Value := match vs with | [v] => v | _ => .tuple vs.toArray
theorem run_loadAt_one {P : Program} {t n : Nat} {A : Option Addr} {v : Value} {w : World} (ht : tK P t = some (false, n)) (h : ∃ ad, A = some ad ∧ ∀ j u, [v][j]? = some u → w.cell? (ad.add j) = some u) : (do loadVar t (← asAddr (.pointer A)) : Sem Value).run P w = .ok v w := by
  obtain ⟨ad, rfl, hc⟩ := h
  have h0 : w.cell? ad = some v := by simpa [Addr.add] using hc 0 v rfl
  simp [asAddr, loadVar, (tK_one ht w).1, h0]
theorem run_loadAt_agg {P : Program} {t n : Nat} {A : Option Addr} {us : List Value} {w : World} (ht : tK P t = some (true, n)) (hn : us.length = n) (h : ∃ ad, A = some ad ∧ ∀ j u, us[j]? = some u → w.cell? (ad.add j) = some u) : (do loadVar t (← asAddr (.pointer A)) : Sem Value).run P w = .ok (.agg us.toArray) w := by
  obtain ⟨ad, rfl, hc⟩ := h
  have hl : (loadCells ad n).run P w = .ok us.toArray w := by rw [← hn]; exact run_loadCells_list w ad us hc
  simp [asAddr, loadVar, (tK_agg ht w).1, (tK_agg ht w).2, hl]
theorem run_resv {P : Program} {L : List (Nat × Value)} {C : List Assn} {tmps : Array Value} {w : World} (hL : ∀ t v, L.lookup t = some v → tmps[t]? = some v) (hw : ∀ A ∈ C, A.holds w) : ∀ (rs : List ResultVar) (vs : List Value), ResV P L C rs vs →
    (rs.mapM (fun
      | .tmp t => pure (tmps.getD t undef)
      | .cell a t => do loadVar t (← asAddr (tmps.getD a undef)) : ResultVar → Sem Value)).run P w = .ok vs w := by
  intro rs
  induction rs with
  | nil => intro vs h; cases vs with | nil => simp | cons v vs => exact h.elim
  | cons r rs ih =>
    intro vs h
    cases vs with
    | nil => cases r <;> exact h.elim
    | cons v vs =>
      cases r with
      | tmp t =>
        obtain ⟨h1, h2⟩ := h
        have hg : tmps.getD t undef = v := by simp [hL t v h1]
        simp only [List.mapM_cons, Sem.run_bind, hg, Sem.run_pure, Result.andThen_ok, ih vs h2]
      | cell a t =>
        obtain ⟨⟨A, h1, h3⟩, h2⟩ := h
        have hg : tmps.getD a undef = .pointer A := by simp [hL a _ h1]
        have hl : (do loadVar t (← asAddr (.pointer A)) : Sem Value).run P w = .ok v w := by
          rcases h3 with ⟨n, us, ht, hat, hn, rfl⟩ | ⟨n, ht, hat⟩
          · exact run_loadAt_agg ht hn (hat w hw)
          · exact run_loadAt_one ht (hat w hw)
        rw [← hg] at hl
        simp only [List.mapM_cons]
        rw [Sem.run_bind, hl]
        simp only [Result.andThen_ok, Sem.run_bind, ih vs h2, Sem.run_pure]
theorem run_results {P : Program} {fn : Func} {L : List (Nat × Value)} {C : List Assn} {tmps : Array Value} {w : World} {vs : List Value} (hL : ∀ t v, L.lookup t = some v → tmps[t]? = some v) (hw : ∀ A ∈ C, A.holds w) (h : ResV P L C fn.results.toList vs) : (results fn tmps).run P w = .ok (tup vs) w := by
  have h1 := run_resv hL hw _ _ h
  unfold results
  rw [Array.mapM_eq_mapM_toList]
  generalize (fn.results.toList.mapM _ : Sem (List Value)) = m at h1 ⊢
  match vs with
  | [] => simp [tup, h1]
  | [v] => simp [tup, h1]
  | u :: v :: vs => simp [tup, h1]
theorem l_nil {E : Env} {fn : Func} {R : Ending → World → Prop} {L : List (Nat × Value)} {C : List Assn} {vs : List Value} (h : ResV E.P L C fn.results.toList vs) (hR : ∀ w, St E.S E.w0 C w → R (.returned (tup vs)) w) : LJ E fn R [] L C :=
  fun a w hf hs => ⟨_, run_results hf.at_ hs.holds h, hR w hs⟩
theorem keeps_putObj {w : World} {b : Nat} (o : Obj) : Keeps (only b) w (w.putObj b o) := ⟨rfl, rfl, rfl, by simp [World.putObj], fun k _ hn => World.putObj_heap_other hn⟩
theorem l_mark {E : Env} {fn : Func} {R : Ending → World → Prop} {D : List Deferred} {L : List (Nat × Value)} {C C' : List Assn} {r : Nat} (i : Nat) (hC : C[i]? = some (obj r (.deferred (some [])))) (hC' : C.set i (obj r (.deferred none)) = C') (h : LJ E fn R D L C') : LJ E fn R (mark r :: D) L C := by
  intro a w hf hs
  have hb : w.heap[r]? = some (.deferred (some [])) := hs.holds _ (List.mem_of_getElem? hC)
  refine ⟨by simp, .inl ⟨r, _, rfl, run_takeDeferred hb, ?_⟩⟩
  refine h { a with defers := D } _ ⟨rfl, hf.size, hf.at_⟩ ?_
  rw [← hC']
  exact hs.upd i hC rfl rfl (keeps_putObj _) (fun _ h => h) (World.putObj_heap_same (lt_of_heap hb))
/-- the contract's end, out of the state -/
def EndX (w0 : World) {α : Type} (V : α → Value) (p : α → Prop) (N : α → List Assn) (e : Ending) (w' : World) : Prop := ∃ x, e = .returned (V x) ∧ p x ∧ Keeps no w0 w' ∧ New w0 w' (N x)
theorem endX {w0 w : World} {C : List Assn} {α : Type} {V : α → Value} {p : α → Prop} {N : α → List Assn} {v : Value} (x : α) (is : List Nat) (hV : v = V x) (hp : p x) (hn : decide is.Nodup = true) (hN : sel C is = N x) (hw : (N x).all (·.wr) = true) (hs : St fnS w0 C w) : EndX w0 V p N (.returned v) w := by
  refine ⟨x, by rw [hV], hp, hs.keeps, ?_⟩
  have h1 := St.sel is hn hN hs
  refine ⟨h1.holds, fun A hA b hb => ?_, h1.sep⟩
  rcases h1.own A hA b (A.whole (List.all_eq_true.1 hw A hA) b hb) with h | h
  · exact h
  · exact h.elim
def EndV (w0 : World) (v : Value) (e : Ending) (w' : World) : Prop := e = .returned v ∧ Keeps no w0 w'
theorem endV {w0 w : World} {C : List Assn} {u v : Value} (h : u = v) (hs : St fnS w0 C w) : EndV w0 v (.returned u) w := ⟨by rw [h], hs.keeps⟩
def fr0 (args : List Value) : List (Nat × Value) := (args.zipIdx 0).map fun p => (p.2, p.1)
theorem lookup_zip : ∀ (args : List Value) (k t : Nat) (v : Value), ((args.zipIdx k).map fun p => (p.2, p.1)).lookup t = some v → k ≤ t ∧ args[t - k]? = some v := by
  intro args
  induction args with
  | nil => intro k t v h; simp at h
  | cons x xs ih =>
    intro k t v h
    simp only [List.zipIdx_cons, List.map_cons, List.lookup] at h
    by_cases e : t = k
    · subst e; simp at h; subst h; simp
    · have : (t == k) = false := by simpa using e
      rw [this] at h
      obtain ⟨h1, h2⟩ := ih (k + 1) t v h
      refine ⟨by omega, ?_⟩
      rw [show t - k = (t - (k + 1)) + 1 from by omega]
      simpa using h2
theorem ro_holds {Cp : List Assn} {w : World} (h : ∀ A ∈ Cp, A.holds w) : St fnS w (Cp.map Assn.ro) w := by
  refine ⟨Keeps.refl _ _, fun A hA => ?_, ?_, fun A hA b hb => ?_, fun A hA b hb => .inr trivial⟩
  · obtain ⟨B, hB, rfl⟩ := List.mem_map.1 hA; exact h B hB
  · refine List.pairwise_of_forall_mem_list fun A hA B hB b _ _ => ?_
    obtain ⟨A', _, rfl⟩ := List.mem_map.1 hA
    obtain ⟨B', _, rfl⟩ := List.mem_map.1 hB
    exact ⟨fun h => h, fun h => h⟩
  · obtain ⟨B, _, rfl⟩ := List.mem_map.1 hA; exact hb.elim
theorem fn_of {P : Program} {f : FuncId} {fn : Func} {c : Code} {args : List Value} {Cp : List Assn} {R : World → Ending → World → Prop} (hf : P.funcs[f]? = some fn) (hb : fn.body = some c) (hn : Nat.ble args.length fn.ntmps = true)
    (h : ∀ (w0 : World) (Q : Post), (∀ D L C, LJ ⟨P, none, fn.ntmps, fnS, w0⟩ fn (R w0) D L C → KJ ⟨P, none, fn.ntmps, fnS, w0⟩ (Q .ret) D L C) → (∀ D L C, LJ ⟨P, none, fn.ntmps, fnS, w0⟩ fn (R w0) D L C → KJ ⟨P, none, fn.ntmps, fnS, w0⟩ (Q .normal) D L C) →
      WJ ⟨P, none, fn.ntmps, fnS, w0⟩ c Q [] (fr0 args) (Cp.map Assn.ro)) (w : World) (hw : ∀ A ∈ Cp, A.holds w) : Calls P f args.toArray w (R w) := by
  refine calls_of_in (callsIn_of_wp_marks hf hb trivial ?_ rfl)
  have hle := Nat.le_of_ble_eq_true hn
  refine h w (bodyPostM (Fw none) 0 P fn (R w)) ?_ ?_ _ w ⟨rfl, by simp; omega, fun t v hv => ?_⟩ (ro_holds hw)
  · intro D L C hl a w' hf' hs'
    have := hl a w' hf' hs'
    show LeavesInM (Fw none) 0 P fn a.tmps (R w) a.defers .returning w'
    rw [hf'.defers]; exact this
  · intro D L C hl a w' hf' hs'
    have := hl a w' hf' hs'
    show LeavesInM (Fw none) 0 P fn a.tmps (R w) a.defers .returning w'
    rw [hf'.defers]; exact this
  · obtain ⟨_, h2⟩ := lookup_zip args 0 t v hv
    have ht : t < args.length := by
      have := (List.getElem?_eq_some_iff.1 h2).1; omega
    simp only [Nat.sub_zero] at h2
    rw [Array.getElem?_append_left (by simpa using ht)]
    simpa using h2
theorem fnV_of {P : Program} {f : FuncId} {fn : Func} {c : Code} {args : List Value} {Cp : List Assn} {v : Value} (hgo : isGo P f = true) (hf : P.funcs[f]? = some fn) (hb : fn.body = some c) (hn : Nat.ble args.length fn.ntmps = true)
    (h : ∀ (w0 : World) (Q : Post), (∀ D L C, LJ ⟨P, none, fn.ntmps, fnS, w0⟩ fn (EndV w0 v) D L C → KJ ⟨P, none, fn.ntmps, fnS, w0⟩ (Q .ret) D L C) → (∀ D L C, LJ ⟨P, none, fn.ntmps, fnS, w0⟩ fn (EndV w0 v) D L C → KJ ⟨P, none, fn.ntmps, fnS, w0⟩ (Q .normal) D L C) →
      WJ ⟨P, none, fn.ntmps, fnS, w0⟩ c Q [] (fr0 args) (Cp.map Assn.ro)) : FnV P f args Cp v := ⟨hgo, fun w hw => fn_of (R := fun w0 => EndV w0 v) hf hb hn h w hw⟩
theorem fnX_of {P : Program} {f : FuncId} {fn : Func} {c : Code} {args : List Value} {Cp : List Assn} {α : Type} {V : α → Value} {p : α → Prop} {N : α → List Assn} (hgo : isGo P f = true) (hf : P.funcs[f]? = some fn) (hb : fn.body = some c) (hn : Nat.ble args.length fn.ntmps = true)
    (h : ∀ (w0 : World) (Q : Post), (∀ D L C, LJ ⟨P, none, fn.ntmps, fnS, w0⟩ fn (EndX w0 V p N) D L C → KJ ⟨P, none, fn.ntmps, fnS, w0⟩ (Q .ret) D L C) → (∀ D L C, LJ ⟨P, none, fn.ntmps, fnS, w0⟩ fn (EndX w0 V p N) D L C → KJ ⟨P, none, fn.ntmps, fnS, w0⟩ (Q .normal) D L C) →
      WJ ⟨P, none, fn.ntmps, fnS, w0⟩ c Q [] (fr0 args) (Cp.map Assn.ro)) : FnX P f args Cp V p N := ⟨hgo, fun w hw => fn_of (R := fun w0 => EndX w0 V p N) hf hb hn h w hw⟩
end Go.Proofs.Ytaehngpnlkokkaa
