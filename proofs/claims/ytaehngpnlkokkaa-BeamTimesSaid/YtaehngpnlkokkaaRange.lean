/-
  Ranges over functions: what an iterator yields, as a list; the loop's rounds.
  No condition: the theorems hold over whatever program.
-/
import Derived.Test.YtaehngpnlkokkaaAux
import Derived.RangeFuncNested
namespace Go.Proofs.Ytaehngpnlkokkaa
open Go.RowKit
set_option linter.unusedVariables false

/-! ## assertions together -/
def bund (C : List Assn) : Assn where
  foot b := ∃ A ∈ C, A.foot b
  wf b := ∃ A ∈ C, A.wf b
  holds w := (∀ A ∈ C, A.holds w) ∧ C.Pairwise Sep
  wr := C.all (·.wr)
  wfoot b := by rintro ⟨A, hA, h⟩; exact ⟨A, hA, A.wfoot b h⟩
  whole h b := by rintro ⟨A, hA, hb⟩; exact ⟨A, hA, A.whole (List.all_eq_true.1 h A hA) b hb⟩
  lt w h b := by rintro ⟨A, hA, hb⟩; exact A.lt w (h.1 A hA) b hb
  keep w w' hk h := ⟨fun A hA => A.keep w w' (fun b hb => hk b ⟨A, hA, hb⟩) (h.1 A hA), h.2⟩
theorem St.tied {S : BS} {w0 w : World} {C1 C2 : List Assn} (h : St S w0 (C1 ++ C2) w) : St S w0 (Go.Proofs.Ytaehngpnlkokkaa.bund C1 :: C2) w := by
  obtain ⟨p1, p2, p3⟩ := List.pairwise_append.1 h.sep
  refine ⟨h.keeps, fun A hA => ?_, List.Pairwise.cons (fun B hB b => ?_) p2, fun A hA b hb => ?_, fun A hA b hb => ?_⟩
  · rcases List.mem_cons.1 hA with rfl | hA
    · exact ⟨fun A hA => h.holds A (List.mem_append_left _ hA), p1⟩
    · exact h.holds A (List.mem_append_right _ hA)
  · rintro ⟨A, hA, hb⟩ hb'
    have hs := p3 A hA B hB b hb hb'
    refine ⟨?_, hs.2⟩
    rintro ⟨A', hA', hw⟩
    exact (p3 A' hA' B hB b (A'.wfoot b hw) hb').1 hw
  · rcases List.mem_cons.1 hA with rfl | hA
    · obtain ⟨A', hA', hb'⟩ := hb
      exact h.own A' (List.mem_append_left _ hA') b hb'
    · exact h.own A (List.mem_append_right _ hA) b hb
  · rcases List.mem_cons.1 hA with rfl | hA
    · obtain ⟨A', hA', hb'⟩ := hb
      exact h.seen A' (List.mem_append_left _ hA') b hb'
    · exact h.seen A (List.mem_append_right _ hA) b hb
theorem St.untied {S : BS} {w0 w : World} {C1 C2 : List Assn} (h : St S w0 (Go.Proofs.Ytaehngpnlkokkaa.bund C1 :: C2) w) : St S w0 (C1 ++ C2) w := by
  obtain ⟨p1, p2⟩ := List.pairwise_cons.1 h.sep
  have hb := h.holds _ (List.mem_cons_self ..)
  refine ⟨h.keeps, fun A hA => ?_, List.pairwise_append.2 ⟨hb.2, p2, fun A hA B hB b ha hb' => ?_⟩, fun A hA b hb' => ?_, fun A hA b hb' => ?_⟩
  · rcases List.mem_append.1 hA with hA | hA
    · exact hb.1 A hA
    · exact h.holds A (List.mem_cons_of_mem _ hA)
  · have hs := p1 B hB b ⟨A, hA, ha⟩ hb'
    exact ⟨fun hw => hs.1 ⟨A, hA, hw⟩, hs.2⟩
  · rcases List.mem_append.1 hA with hA | hA
    · exact h.own _ (List.mem_cons_self ..) b ⟨A, hA, hb'⟩
    · exact h.own A (List.mem_cons_of_mem _ hA) b hb'
  · rcases List.mem_append.1 hA with hA | hA
    · exact h.seen _ (List.mem_cons_self ..) b ⟨A, hA, hb'⟩
    · exact h.seen A (List.mem_cons_of_mem _ hA) b hb'
/-- from one world to another: A's blocks may have turned, or have gone to new ones: B holds -/
structure Mv (A B : Assn) (w w' : World) : Prop where
  holds : B.holds w'
  keeps : Keeps A.wf w w'
  wf : ∀ b, B.wf b → A.wf b ∨ w.heap.size ≤ b
  foot : ∀ b, B.foot b → A.foot b ∨ w.heap.size ≤ b
theorem St.mv {S : BS} {w0 w w' : World} {C : List Assn} {A B : Assn} (i : Nat) (h : St S w0 C w) (hC : C[i]? = some A) (m : Mv A B w w') : St S w0 (C.set i B) w' := by
  have hi : i < C.length := (List.getElem?_eq_some_iff.1 hC).1
  have hget : C[i] = A := (List.getElem?_eq_some_iff.1 hC).2
  have hmem : A ∈ C := List.mem_of_getElem? hC
  have hsep : ∀ j (hj : j < C.length), j ≠ i → ∀ x, (C[j]).foot x → A.foot x → ¬ (C[j]).wf x ∧ ¬ A.wf x := by
    intro j hj hne x hx he
    rcases Nat.lt_or_gt_of_ne hne with hlt | hlt
    · have := List.pairwise_iff_getElem.1 h.sep j i hj hi hlt
      rw [hget] at this
      exact this x hx he
    · have := List.pairwise_iff_getElem.1 h.sep i j hi hj hlt
      rw [hget] at this
      exact (this x he hx).symm
  have hnew : ∀ j (hj : j < C.length), j ≠ i → ∀ x, (C[j]).foot x → B.foot x → ¬ (C[j]).wf x ∧ ¬ B.wf x := by
    intro j hj hne x hx he
    have hlt := (C[j]).lt w (h.holds _ (List.getElem_mem hj)) x hx
    rcases m.foot x he with h1 | h1
    · obtain ⟨h2, h3⟩ := hsep j hj hne x hx h1
      refine ⟨h2, fun hw => ?_⟩
      rcases m.wf x hw with h4 | h4
      · exact h3 h4
      · omega
    · omega
  refine ⟨?_, ?_, ?_, ?_, ?_⟩
  · refine ⟨m.keeps.os.trans h.keeps.os, m.keeps.tape.trans h.keeps.tape, m.keeps.output.trans h.keeps.output, Nat.le_trans h.keeps.size m.keeps.size, fun k hkk hn => ?_⟩
    refine (m.keeps.block k (Nat.lt_of_lt_of_le hkk h.keeps.size) (fun e => ?_)).trans (h.keeps.block k hkk hn)
    rcases h.own A hmem k e with h1 | h1
    · omega
    · exact hn h1
  · intro X hX
    obtain ⟨j, hj, hjX⟩ := List.mem_iff_getElem.1 hX
    rw [List.getElem_set] at hjX
    split at hjX
    · subst hjX; exact m.holds
    · rename_i hne
      subst hjX
      have hj' : j < C.length := by simpa using hj
      have hm : C[j] ∈ C := List.getElem_mem hj'
      refine (C[j]).keep w w' (fun x hx => m.keeps.block x ((C[j]).lt w (h.holds _ hm) x hx) (fun e => ?_)) (h.holds _ hm)
      exact (hsep j hj' (Ne.symm hne) x hx (A.wfoot x e)).2 e
  · rw [List.pairwise_iff_getElem]
    intro p q hp hq hpq
    have hp' : p < C.length := by simpa using hp
    have hq' : q < C.length := by simpa using hq
    have hs := List.pairwise_iff_getElem.1 h.sep p q hp' hq' hpq
    rw [List.getElem_set, List.getElem_set]
    split
    · rename_i e1; subst e1
      rw [if_neg (by omega)]
      exact fun x hx hx' => (hnew q hq' (by omega) x hx' hx).symm
    · split
      · rename_i e1; subst e1
        exact fun x hx hx' => hnew p hp' (by omega) x hx hx'
      · exact hs
  · intro X hX x hx
    obtain ⟨j, hj, hjX⟩ := List.mem_iff_getElem.1 hX
    rw [List.getElem_set] at hjX
    split at hjX
    · subst hjX
      rcases m.wf x hx with h1 | h1
      · exact h.own A hmem x h1
      · exact .inl (Nat.le_trans h.keeps.size h1)
    · subst hjX
      exact h.own _ (List.getElem_mem _) x hx
  · intro X hX x hx
    obtain ⟨j, hj, hjX⟩ := List.mem_iff_getElem.1 hX
    rw [List.getElem_set] at hjX
    split at hjX
    · subst hjX
      rcases m.foot x hx with h1 | h1
      · exact h.seen A hmem x h1
      · exact .inl (Nat.le_trans h.keeps.size h1)
    · subst hjX
      exact h.seen _ (List.getElem_mem _) x hx
/-- a state that was entered with an assertion's blocks alone, left with others -/
theorem Mv.of {A : Assn} {w w' : World} {C : List Assn} (h : St ⟨A.wf, A.foot⟩ w C w') : Mv A (bund C) w w' := by
  refine ⟨⟨h.holds, h.sep⟩, h.keeps, ?_, ?_⟩
  · rintro b ⟨B, hB, hb⟩; exact (h.own B hB b hb).symm
  · rintro b ⟨B, hB, hb⟩; exact (h.seen B hB b hb).symm
theorem St.of_bund {w : World} {C : List Assn} (h : (bund C).holds w) : St ⟨(bund C).wf, (bund C).foot⟩ w C w :=
  ⟨Keeps.refl _ _, h.1, h.2, fun A hA b hb => .inr ⟨A, hA, hb⟩, fun A hA b hb => .inr ⟨A, hA, hb⟩⟩
/-- what is read by one is what another holds -/
structure Cov (B A : Assn) : Prop where
  holds : ∀ w, B.holds w → A.holds w
  foot : ∀ b, A.foot b → B.foot b
theorem cov_refl (A : Assn) : Cov A A := ⟨fun _ h => h, fun _ h => h⟩
theorem cov_ro {A B : Assn} (h : Cov B A) : Cov B.ro A := ⟨h.holds, h.foot⟩
theorem cov_own {a : Option Addr} {c e sz : Nat} {es : List (List Value)} : Cov (own a c e sz es) (rd a es.length sz es) := ⟨fun _ h => own_rd h, fun b h => h.2⟩
theorem cov_blk_rd {g t : Nat} {cs : List Value} {n sz : Nat} {es : List (List Value)} (h1 : es.length = n) (h2 : ∀ e ∈ es, e.length = sz) (h3 : es.flatten = cs) : Cov (blk g t cs) (rd (some ⟨g, 0, none⟩) n sz es) :=
  ⟨fun w h => rd_of_blk h h1 h2 ⟨[], by simp [h3]⟩, fun b h => by obtain ⟨_, ad, h1, h2⟩ := h; cases h1; exact h2⟩

/-! ## what an iterator yields -/
def Yl (w0 : World) (P : Program) (l : Nat) (xs : List (List Value)) (J : Nat → Assn → Prop) (Z : Assn → Prop) : Prop :=
  ∀ k x A w, xs[k]? = some x → J k A → w0.heap.size ≤ w.heap.size → A.holds w → YieldAt (Fw none) 0 P l x.toArray w fun e w' =>
    (e = .returned (.bool true) ∧ ∃ B, J (k + 1) B ∧ Mv A B w w') ∨ (e = .returned (.bool false) ∧ ∃ B, Z B ∧ Mv A B w w')
def EndS (J : Nat → Assn → Prop) (Z : Assn → Prop) (n : Nat) (A0 : Assn) (w0 : World) (e : Ending) (w' : World) : Prop :=
  ∃ v, e = .returned v ∧ ((∃ B, J n B ∧ Mv A0 B w0 w') ∨ ∃ B, Z B ∧ Mv A0 B w0 w')
structure SeqV (P : Program) (f : FuncId) (fi ca : List Value) (Cp : List Assn) (xs : List (List Value)) : Prop where
  go : isGo P f = true
  run : ∀ (l : Nat) (J : Nat → Assn → Prop) (Z : Assn → Prop) (A0 : Assn) (w : World), Yl w P l xs J Z → J 0 A0 → A0.holds w → (∀ A ∈ Cp, A.holds w) → (∀ A ∈ Cp, Sep A0 A.ro) →
    Calls P f (fi ++ Value.func (.yield l) #[] #[] :: ca).toArray w (EndS J Z xs.length A0 w)
def Fo (A0 : Assn) (w0 : World) (B : Assn) : Prop := ∀ b, B.foot b → A0.foot b ∨ w0.heap.size ≤ b
theorem endS {J : Nat → Assn → Prop} {Z : Assn → Prop} {n : Nat} {A0 B : Assn} {w0 w : World} {C : List Assn} {v : Value} (i : Nat) (hC : C[i]? = some B) (hJ : J n B) (hF : Fo A0 w0 B) (hs : St ⟨A0.wf, fun _ => True⟩ w0 C w) : EndS J Z n A0 w0 (.returned v) w :=
  ⟨v, rfl, .inl ⟨B, hJ, hs.holds B (List.mem_of_getElem? hC), hs.keeps, fun b hb => (hs.own B (List.mem_of_getElem? hC) b hb).symm, hF⟩⟩
theorem endSz {J : Nat → Assn → Prop} {Z : Assn → Prop} {n : Nat} {A0 B : Assn} {w0 w : World} {C : List Assn} {v : Value} (i : Nat) (hC : C[i]? = some B) (hJ : Z B) (hF : Fo A0 w0 B) (hs : St ⟨A0.wf, fun _ => True⟩ w0 C w) : EndS J Z n A0 w0 (.returned v) w :=
  ⟨v, rfl, .inr ⟨B, hJ, hs.holds B (List.mem_of_getElem? hC), hs.keeps, fun b hb => (hs.own B (List.mem_of_getElem? hC) b hb).symm, hF⟩⟩
theorem fn_of' {P : Program} {f : FuncId} {fn : Func} {c : Code} {args : List Value} {Cp : List Assn} {S : BS} {R : Ending → World → Prop} {w : World} (hf : P.funcs[f]? = some fn) (hb : fn.body = some c) (hn : Nat.ble args.length fn.ntmps = true)
    (h : ∀ (Q : Post), (∀ D L C, LJ ⟨P, none, fn.ntmps, S, w⟩ fn R D L C → KJ ⟨P, none, fn.ntmps, S, w⟩ (Q .ret) D L C) → (∀ D L C, LJ ⟨P, none, fn.ntmps, S, w⟩ fn R D L C → KJ ⟨P, none, fn.ntmps, S, w⟩ (Q .normal) D L C) →
      WJ ⟨P, none, fn.ntmps, S, w⟩ c Q [] (fr0 args) Cp) (hw : St S w Cp w) : Calls P f args.toArray w R := by
  refine calls_of_in (callsIn_of_wp_marks hf hb trivial ?_ rfl)
  have hle := Nat.le_of_ble_eq_true hn
  refine h (bodyPostM (Fw none) 0 P fn R) ?_ ?_ _ w ⟨rfl, by simp; omega, fun t v hv => ?_⟩ hw
  · intro D L C hl a w' hf' hs'
    have := hl a w' hf' hs'
    show LeavesInM (Fw none) 0 P fn a.tmps R a.defers .returning w'
    rw [hf'.defers]; exact this
  · intro D L C hl a w' hf' hs'
    have := hl a w' hf' hs'
    show LeavesInM (Fw none) 0 P fn a.tmps R a.defers .returning w'
    rw [hf'.defers]; exact this
  · obtain ⟨_, h2⟩ := lookup_zip args 0 t v hv
    have ht : t < args.length := by
      have := (List.getElem?_eq_some_iff.1 h2).1; omega
    simp only [Nat.sub_zero] at h2
    rw [Array.getElem?_append_left (by simpa using ht)]
    simpa using h2
theorem seqV_of {P : Program} {f : FuncId} {fn : Func} {c : Code} {fi ca : List Value} {Cp : List Assn} {xs : List (List Value)} (hgo : isGo P f = true) (hf : P.funcs[f]? = some fn) (hb : fn.body = some c) (hn : Nat.ble (fi.length + ca.length + 1) fn.ntmps = true)
    (h : ∀ (l : Nat) (J : Nat → Assn → Prop) (Z : Assn → Prop) (A0 : Assn) (w0 : World) (Q : Post), Yl w0 P l xs J Z → J 0 A0 → Fo A0 w0 A0 →
      (∀ D L C, LJ ⟨P, none, fn.ntmps, ⟨A0.wf, fun _ => True⟩, w0⟩ fn (EndS J Z xs.length A0 w0) D L C → KJ ⟨P, none, fn.ntmps, ⟨A0.wf, fun _ => True⟩, w0⟩ (Q .ret) D L C) →
      (∀ D L C, LJ ⟨P, none, fn.ntmps, ⟨A0.wf, fun _ => True⟩, w0⟩ fn (EndS J Z xs.length A0 w0) D L C → KJ ⟨P, none, fn.ntmps, ⟨A0.wf, fun _ => True⟩, w0⟩ (Q .normal) D L C) →
      WJ ⟨P, none, fn.ntmps, ⟨A0.wf, fun _ => True⟩, w0⟩ c Q [] (fr0 (fi ++ Value.func (.yield l) #[] #[] :: ca)) (A0 :: Cp.map Assn.ro)) : SeqV P f fi ca Cp xs := by
  refine ⟨hgo, fun l J Z A0 w hY hJ hA hCp hsep => ?_⟩
  refine fn_of' hf hb (by simpa [Nat.add_assoc] using hn) (h l J Z A0 w · hY hJ (fun b hb => .inl hb)) ?_
  have h0 := ro_holds hCp
  refine ⟨Keeps.refl _ _, fun A hA' => ?_, List.Pairwise.cons (fun B hB => ?_) h0.sep, fun A hA' b hb => ?_, fun _ _ _ _ => .inr trivial⟩
  · rcases List.mem_cons.1 hA' with rfl | hA'
    · exact hA
    · exact h0.holds A hA'
  · obtain ⟨B', hB', rfl⟩ := List.mem_map.1 hB
    exact hsep B' hB'
  · rcases List.mem_cons.1 hA' with rfl | hA'
    · exact .inr hb
    · obtain ⟨B', hB', rfl⟩ := List.mem_map.1 hA'
      exact hb.elim
section
variable {E : Env} {ops : Array Oper} {Q : Post} {rest : List Oper} {D : List Deferred} {L : List (Nat × Value)} {C : List Assn}
variable {d : Nat} {ty : TypeId} {ps : String} {af : Array Edge} {g : Option (Nat × Bool)}
/-- a call of yield -/
theorem r_yield {fop : Operand} {xs : Array Operand} {ts : Array TypeId} {l k : Nat} {vs : List Value} {ls : List (List Value)} {J : Nat → Assn → Prop} {Z : Assn → Prop} {A0 A : Assn} (i : Nat) (hY : Yl E.w0 E.P l ls J Z) (hJ : J k A) (hF : Fo A0 E.w0 A) (hg : gOn ops L g = true) (hf : ev L fop = some (.func (.yield l) #[] #[]))
    (hx : evs L xs.toList = some vs) (hk : ls[k]? = some vs) (hC : C[i]? = some A) (hd : Nat.blt d E.n = true)
    (k1 : ∀ B, J (k + 1) B → Fo A0 E.w0 B → RJ E ops Q rest D ((d, .bool true) :: L) (C.set i B))
    (k2 : ∀ B, Z B → Fo A0 E.w0 B → RJ E ops Q rest D ((d, .bool false) :: L) (C.set i B)) :
    RJ E ops Q (⟨some d, .call { callee := .value fop, args := xs, argTypes := ts }, ty, ps, af, g⟩ :: rest) D L C := by
  intro a w hfr hs
  have hd' : d < E.n := by rw [← Nat.blt_eq]; exact hd
  unfold wpL
  rw [if_pos (gOn_wanted hfr hg)]
  have h1 : xs.map a.eval = vs.toArray := by
    have := hfr.evs hx
    apply Array.ext'
    simp [this]
  obtain ⟨fn, tmps, assign, body, hy, hr⟩ := hY k vs A w hk hJ hs.keeps.size (hs.holds A (List.mem_of_getElem? hC))
  have hrun : (execOp a.eval ⟨some d, .call { callee := .value fop, args := xs, argTypes := ts }, ty, ps, af, g⟩).run E.P w = .ok (.round l fn tmps assign body) w := by
    simp [execOp, resolve, hfr.ev hf, Deferred.ofValue, invoke, h1, hy]
  refine ⟨fun _ _ => trivial, ?_⟩
  rw [Oper.semAt_eq _ _ _ (by simp), hrun]
  refine ⟨fun h => by simp at h, ?_⟩
  have hfo : ∀ (B : Assn) (w' : World), Mv A B w w' → Fo A0 E.w0 B := fun B w' m b hb => by
    rcases m.foot b hb with h2 | h2
    · exact hF b h2
    · exact .inr (Nat.le_trans hs.keeps.size h2)
  have hr' : RoundIn (Fw E.r) 0 E.P l fn tmps assign body w _ := hr
  refine hr'.mono fun e w' he => ?_
  rcases he with ⟨rfl, B, hB, m⟩ | ⟨rfl, B, hB, m⟩
  · exact k1 B hB (hfo B w' m) _ _ (hfr.put hd' _) (hs.mv i hC m)
  · exact k2 B hB (hfo B w' m) _ _ (hfr.put hd' _) (hs.mv i hC m)
end
/-! ## the loop -/
def parL (ps : List Tmp) (x : List Value) (L : List (Nat × Value)) : List (Nat × Value) := (ps.zip x).foldl (fun L p => (p.1, p.2) :: L) L
theorem fr_par {n : Nat} : ∀ (ps : List Tmp) (x : List Value) (L : List (Nat × Value)) (tmps : Array Value), (∀ t ∈ ps, t < n) → Fr n [] L { tmps := tmps, defers := [] } →
    Fr n [] (parL ps x L) { tmps := (ps.zip x).foldl (fun tmps (p : Tmp × Value) => tmps.setIfInBounds p.1 p.2) tmps, defers := [] } := by
  intro ps
  induction ps with
  | nil => intro x L tmps _ h; simpa [parL] using h
  | cons t ps ih =>
    intro x L tmps hlt h
    cases x with
    | nil => simpa [parL] using h
    | cons v x =>
      have := h.put (hlt t (by simp)) v
      simpa [parL] using ih x _ _ (fun t' ht => hlt t' (by simp [ht])) this
theorem w_range {E : Env} {Q : Post} {D : List Deferred} {L L0 : List (Nat × Value)} {C F : List Assn} {g : Operand} {ps : Array Tmp} {assign body : Code} {f : FuncId} {fi ca : List Value} {Cp : List Assn} {xs : List (List Value)} {ι κ : Type}
    (inv : Nat → ι → Prop) (Ci : Nat → ι → List Assn) (invx : Code → κ → Prop) (Cx : Code → κ → List Assn) (isJ isF : List Nat) (y0 : ι)
    (hr : E.r = none) (hg : ev L g = some (.func (.func f) fi.toArray ca.toArray)) (hs : SeqV E.P f fi ca Cp xs)
    (hnd : decide (isJ ++ isF).Nodup = true) (hJ : sel C isJ = Ci 0 y0) (hF : sel C isF = F) (h0 : inv 0 y0) (hCp : ∀ A ∈ Cp, ∃ B ∈ F, Cov B A)
    (hps : ∀ x ∈ xs, x.length = ps.size) (hpn : ps.toList.all (fun t => Nat.blt t E.n) = true) (hL : Sub L L0)
    (round : ∀ (k : Nat) (x : List Value) (y : ι) (l : Nat) (ra rb : Loop) (S : BS) (w0 : World) (K : Act → World → Prop) (Qr : Post), xs[k]? = some x → inv k y →
      (∀ L' C', WJ ⟨E.P, some l, E.n, S, w0⟩ body Qr [] L' (obj l (.loop rb) :: C') → KJ ⟨E.P, some l, E.n, S, w0⟩ K [] L' (obj l (.loop ra) :: C')) →
      (∀ y' L' C', inv (k + 1) y' → (∀ w, St S w0 C' w → St S w0 (obj l (.loop rb) :: Ci (k + 1) y') w) → KJ ⟨E.P, some l, E.n, S, w0⟩ (Qr .normal) [] L' C') →
      (∀ id z L' C', invx (.exit id) z → (∀ w, St S w0 C' w → St S w0 (obj l (.loop rb) :: Cx (.exit id) z) w) → KJ ⟨E.P, some l, E.n, S, w0⟩ (Qr (.exit id)) [] L' C') →
      (∀ z L' C', invx .ret z → (∀ w, St S w0 C' w → St S w0 (obj l (.loop rb) :: Cx .ret z) w) → KJ ⟨E.P, some l, E.n, S, w0⟩ (Qr .ret) [] L' C') →
      WJ ⟨E.P, some l, E.n, S, w0⟩ assign (Exit.then K (fun _ _ _ => False)) [] (parL ps.toList x L0) (obj l (.loop ra) :: Ci k y))
    (fin : ∀ r y, inv xs.length y → KJ E (Q .normal) (mark r :: D) L0 (obj r (.deferred (some [])) :: (F ++ Ci xs.length y)))
    (finx : ∀ r id z, invx (.exit id) z → KJ E (Q (.exit id)) (mark r :: D) L0 (obj r (.deferred (some [])) :: (F ++ Cx (.exit id) z)))
    (finr : ∀ r z, invx .ret z → KJ E (Q .ret) (mark r :: D) L0 (obj r (.deferred (some [])) :: (F ++ Cx .ret z))) : WJ E (.rangeFunc g ps assign body) Q D L C := by
  intro a w hf hst
  refine wpIn_rangeFunc fun fn _ => ?_
  show ∃ l mark w₁ d w₁' f args w₂, (Instr.enterLoop fn a.tmps ps assign body E.r).run E.P w = .ok (l, mark) w₁ ∧ _
  rw [hr]
  obtain ⟨rec, hrec⟩ : ∃ rec : LoopState → Option Code → Loop, rec = fun st pe => { state := st, pending := pe, fn, tmps := a.tmps, params := ps, assign, body, defers := w.heap.size } := ⟨_, rfl⟩
  obtain ⟨W1, hW1⟩ : ∃ W1, (w.alloc (.deferred (some []))).alloc (.loop (rec .ready none)) = W1 := ⟨_, rfl⟩
  have hev : a.eval g = .func (.func f) fi.toArray ca.toArray := hf.ev hg
  have hent : (Instr.enterLoop fn a.tmps ps assign body none).run E.P w = .ok (w.heap.size + 1, [mark w.heap.size]) W1 := by
    rw [← hW1, hrec]; exact run_enterLoop_outer _ _ _ _ _
  -- the state with the record and the block
  have hst1 : St E.S E.w0 ((obj (w.heap.size + 1) (.loop (rec .ready none)) :: Ci 0 y0) ++ (obj w.heap.size (.deferred (some [])) :: F)) W1 := by
    have h1 : St E.S E.w0 (Ci 0 y0 ++ F) w := St.sel (isJ ++ isF) hnd (by have h1 := hJ; have h2 := hF; unfold Go.Proofs.Ytaehngpnlkokkaa.sel at h1 h2 ⊢; rw [List.filterMap_append, h1, h2]) hst
    have hn : New w W1 [obj (w.heap.size + 1) (.loop (rec .ready none)), obj w.heap.size (.deferred (some []))] := by
      refine ⟨fun A hA => ?_, fun A hA b hb => ?_, ?_⟩
      · rcases List.mem_cons.1 hA with rfl | hA
        · show W1.heap[w.heap.size + 1]? = _
          rw [← hW1]; have := World.alloc_heap_new (w.alloc (.deferred (some []))) (.loop (rec .ready none)); rwa [World.size_alloc] at this
        · simp only [List.mem_singleton] at hA; subst hA
          show W1.heap[w.heap.size]? = _
          rw [← hW1]; exact (Below.heap_alloc _ _ _ (by simp)).trans (World.alloc_heap_new w _)
      · rcases List.mem_cons.1 hA with rfl | hA
        · have : b = w.heap.size + 1 := hb
          omega
        · simp only [List.mem_singleton] at hA; subst hA
          have : b = w.heap.size := hb
          omega
      · refine List.Pairwise.cons (fun B hB b h1 h2 => ?_) (List.pairwise_singleton _ _)
        simp only [List.mem_singleton] at hB; subst hB
        have e1 : b = w.heap.size + 1 := h1
        have e2 : b = w.heap.size := h2
        omega
    have hk : Keeps no w W1 := by rw [← hW1]; exact (Keeps.alloc no w _).trans (Keeps.alloc no _ _)
    have h2 := h1.grow hk hn
    refine h2.perm ?_
    simp only [List.cons_append, List.nil_append]
    exact List.Perm.cons _ (List.perm_middle.symm)
  have hb1 := hst1.tied
  obtain ⟨hs1, hs2⟩ := List.pairwise_cons.1 hb1.sep
  have hA0 := hb1.holds _ (List.mem_cons_self ..)
  let J : Nat → Assn → Prop := fun k A => ∃ y, inv k y ∧ A = bund (obj (w.heap.size + 1) (.loop (rec .ready none)) :: Ci k y)
  let Z : Assn → Prop := fun A => ∃ c z, (c = .ret ∨ ∃ id, c = .exit id) ∧ invx c z ∧ A = bund (obj (w.heap.size + 1) (.loop (rec .done (some c))) :: Cx c z)
  refine ⟨w.heap.size + 1, [mark w.heap.size], W1, { target := .fn (.func f) ca.toArray, args := fi.toArray ++ #[.func (.yield (w.heap.size + 1)) #[] #[]] }, W1, f,
    (fi ++ Value.func (.yield (w.heap.size + 1)) #[] #[] :: ca).toArray, W1, hent, ?_, fun _ _ => trivial, ?_, fun h => by simp at h, ?_⟩
  · simp only [resolve, hev]
    simp [Deferred.ofValue, Act.eval]
  · have : fi.toArray ++ #[Value.func (.yield (w.heap.size + 1)) #[] #[]] ++ ca.toArray = (fi ++ Value.func (.yield (w.heap.size + 1)) #[] #[] :: ca).toArray := by simp
    simp [invoke, run_callFunc hs.go]
  · refine (calls_in E.r (hs.run (w.heap.size + 1) J Z _ W1 ?_ ⟨y0, h0, rfl⟩ hA0 ?_ ?_)).mono ?_
    · -- a round
      rintro k x A W hx ⟨y, hy, rfl⟩ _ hA
      have hl : W.heap[w.heap.size + 1]? = some (.loop (rec .ready none)) := hA.1 _ (List.mem_cons_self ..)
      have hyl := run_yield (P := E.P) (args := x.toArray) hl (by rw [hrec]; simpa using hps x (List.mem_of_getElem? hx))
      rw [hrec] at hyl
      refine ⟨fn, _, assign, body, hyl, roundIn_of_wpIn trivial ?_⟩
      let A : Assn := bund (obj (w.heap.size + 1) (.loop (rec .ready none)) :: Ci k y)
      have hfr : Fr E.n [] (parL ps.toList x L0) { tmps := (ps.zip x.toArray).foldl (fun tmps (t, a) => tmps.setIfInBounds t a) a.tmps, defers := [] } := by
        have h1 := fr_par ps.toList x L0 a.tmps (fun t ht => by have := List.all_eq_true.1 hpn t ht; rwa [Nat.blt_eq] at this) ⟨rfl, hf.size, fun t v hv => hf.at_ t v (hL t v hv)⟩
        rw [← Array.foldl_toList]
        simpa using h1
      have hbusy : ∀ (c : Option Code) (b : Bool), ({ rec .busy none with state := if b then .ready else .done, pending := c } : Loop) = rec (if b then .ready else .done) c := fun c b => by rw [hrec]
      have hend : ∀ (c : Option Code) (w1 : World) (C' : List Assn) (S : BS), St S W (obj (w.heap.size + 1) (.loop (rec .busy none)) :: C') w1 →
          ∃ w2, (Instr.endRound (w.heap.size + 1) c).run E.P w1 = .ok (.bool c.isNone) w2 ∧ St S W (obj (w.heap.size + 1) (.loop (rec (if c.isNone then .ready else .done) c)) :: C') w2 := fun c w1 C' S hs1 => by
        have hl1 : w1.heap[w.heap.size + 1]? = some (.loop (rec .busy none)) := hs1.holds _ (List.mem_cons_self ..)
        refine ⟨_, run_endRound c hl1, ?_⟩
        have := hs1.upd (b := w.heap.size + 1) (A' := obj (w.heap.size + 1) (.loop (rec (if c.isNone then .ready else .done) c))) 0 rfl rfl rfl (keeps_putObj _) (fun _ h => h) (World.putObj_heap_same (lt_of_heap hl1))
        rw [hbusy]
        exact this
      refine round k x y (w.heap.size + 1) (rec .ready none) (rec .busy none) ⟨A.wf, A.foot⟩ W _ (roundPost E.P (w.heap.size + 1) (fun e w' => (e = .returned (.bool true) ∧ ∃ B, J (k + 1) B ∧ Mv A B W w') ∨ (e = .returned (.bool false) ∧ ∃ B, Z B ∧ Mv A B W w'))) hx hy ?_ ?_ ?_ ?_ _ _ hfr (St.of_bund hA)
      · intro L' C' hW a1 w1 hf1 hs1
        have hl1 : w1.heap[w.heap.size + 1]? = some (.loop (rec .ready none)) := hs1.holds _ (List.mem_cons_self ..)
        refine ⟨_, run_beginRound hl1 (by rw [hrec]), hW _ _ hf1 ?_⟩
        have := hs1.upd (b := w.heap.size + 1) (A' := obj (w.heap.size + 1) (.loop (rec .busy none))) 0 rfl rfl rfl (keeps_putObj _) (fun _ h => h) (World.putObj_heap_same (lt_of_heap hl1))
        have e : ({ rec .ready none with state := .busy } : Loop) = rec .busy none := by rw [hrec]
        rw [e]; exact this
      · intro y' L' C' hy' hC' a1 w1 hf1 hs1
        obtain ⟨w2, e1, e2⟩ := hend none w1 _ _ (hC' _ hs1)
        exact ⟨_, w2, e1, .inl ⟨rfl, _, ⟨y', hy', rfl⟩, Mv.of e2⟩⟩
      · intro id z L' C' hz hC' a1 w1 hf1 hs1
        obtain ⟨w2, e1, e2⟩ := hend (some (.exit id)) w1 _ _ (hC' _ hs1)
        exact ⟨_, w2, e1, .inr ⟨rfl, _, ⟨_, z, .inr ⟨id, rfl⟩, hz, rfl⟩, Mv.of e2⟩⟩
      · intro z L' C' hz hC' a1 w1 hf1 hs1
        obtain ⟨w2, e1, e2⟩ := hend (some .ret) w1 _ _ (hC' _ hs1)
        exact ⟨_, w2, e1, .inr ⟨rfl, _, ⟨_, z, .inl rfl, hz, rfl⟩, Mv.of e2⟩⟩
    · intro A hA
      obtain ⟨B, hB, hc⟩ := hCp A hA
      exact hc.holds _ (hb1.holds B (List.mem_cons_of_mem _ (List.mem_cons_of_mem _ hB)))
    · intro A hA b hb hb'
      obtain ⟨B, hB, hc⟩ := hCp A hA
      exact ⟨(hs1 B (List.mem_cons_of_mem _ hB) b hb (hc.foot b hb')).1, fun h => h⟩
    · rintro e w' ⟨v, rfl, hh⟩
      have hfin : Fr E.n (mark w.heap.size :: D) L0 { a with defers := [mark w.heap.size] ++ a.defers } := ⟨by simp [hf.defers], hf.size, fun t v hv => hf.at_ t v (hL t v hv)⟩
      have hleave : ∀ (st : LoopState) (c : Option Code) (C' : List Assn), st ≠ .busy → Mv (bund (obj (w.heap.size + 1) (.loop (rec .ready none)) :: Ci 0 y0)) (bund (obj (w.heap.size + 1) (.loop (rec st c)) :: C')) W1 w' →
          ∃ w2, (Instr.endLoop (w.heap.size + 1)).run E.P w' = .ok c w2 ∧ St E.S E.w0 (obj w.heap.size (.deferred (some [])) :: (F ++ C')) w2 := fun st c C' hne m => by
        have h1 := (hb1.mv 0 rfl m).untied
        have h1' : St E.S E.w0 ((obj (w.heap.size + 1) (.loop (rec st c)) :: C') ++ (obj w.heap.size (.deferred (some [])) :: F)) w' := h1
        have hl1 : w'.heap[w.heap.size + 1]? = some (.loop (rec st c)) := h1'.holds (obj (w.heap.size + 1) (.loop (rec st c))) (by simp)
        refine ⟨_, by have := run_endLoop (P := E.P) hl1 (by rw [hrec]; exact hne); rw [this, hrec], ?_⟩
        have h2 := h1'.upd (b := w.heap.size + 1) (A' := obj (w.heap.size + 1) (.loop { rec st c with state := .exhausted })) 0 rfl rfl rfl (keeps_putObj _) (fun _ h => h) (World.putObj_heap_same (lt_of_heap hl1))
        have h3 : St E.S E.w0 (C' ++ (obj w.heap.size (.deferred (some [])) :: F)) _ := h2.take (List.sublist_cons_self _ _)
        rw [hrec] at h3
        refine h3.perm ?_
        exact (List.perm_append_comm).trans (by simp)
      rcases hh with ⟨B, ⟨y, hy, rfl⟩, m⟩ | ⟨B, ⟨c, z, hc, hz, rfl⟩, m⟩
      · obtain ⟨w2, e1, e2⟩ := hleave .ready none _ (by simp) m
        exact ⟨none, w2, e1, fin w.heap.size y hy _ _ hfin e2⟩
      · obtain ⟨w2, e1, e2⟩ := hleave .done (some c) _ (by simp) m
        refine ⟨some c, w2, e1, ?_⟩
        rcases hc with rfl | ⟨id, rfl⟩
        · exact wpIn_ret (finr w.heap.size z hz _ _ hfin e2)
        · exact wpIn_exit (finx w.heap.size id z hz _ _ hfin e2)
end Go.Proofs.Ytaehngpnlkokkaa
