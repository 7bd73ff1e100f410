/-
  Rows that grow: append.
  No condition: the theorems hold over whatever program.
-/
import Derived.Test.YtaehngpnlkokkaaFun
namespace Go.Proofs.Ytaehngpnlkokkaa
open Go.RowKit
set_option linter.unusedVariables false

/-- a slice of one's own, that may be appended to -/
def own (a : Option Addr) (c : Nat) (e sz : Nat) (es : List (List Value)) : Assn where
  foot b := ∃ ad, a = some ad ∧ b = ad.block
  wf b := ∃ ad, a = some ad ∧ b = ad.block
  holds w := (∀ x ∈ es, x.length = sz) ∧ w.ownsRow 0 e sz (.slice a es.length c) es.length es.flatten
  wr := true
  wfoot _ h := h
  whole _ _ h := h
  lt w h b hb := by
    obtain ⟨ad, rfl, rfl⟩ := hb
    exact (h.2.lt ad.block rfl).2
  keep w w' hk h := by
    refine ⟨h.1, h.2.1, ?_⟩
    rcases h.2.2 with h1 | ⟨g, cap, cur, hv, h2, h3, h4⟩
    · exact .inl h1
    · refine .inr ⟨g, cap, cur, hv, h2, ?_, h4⟩
      injection hv with hv
      subst hv
      rw [hk g ⟨_, rfl, rfl⟩]; exact h3
theorem own_rd {w : World} {a : Option Addr} {c e sz : Nat} {es : List (List Value)} (h : (own a c e sz es).holds w) : (rd a es.length sz es).holds w := by
  obtain ⟨hl, hlen, h2⟩ := h
  rcases h2 with ⟨h1, h0⟩ | ⟨g, cap, cur, hv, _, h3, h4, h5, h6, h7⟩
  · exact ⟨rfl, hl, fun hn => by simp [h0] at hn⟩
  · injection hv with hv
    subst hv
    refine rd_of_blk (cs := cur.toList) (t := e) ?_ rfl hl ⟨cur.toList.drop (es.length * sz), ?_⟩
    · show w.heap[g]? = _
      rw [h3]
    · rw [← h7]; exact List.take_append_drop _ _
theorem has_own {C : List Assn} {a : Option Addr} {c e sz : Nat} {es : List (List Value)} (i : Nat) (hC : C[i]? = some (own a c e sz es)) : Has C (rd a es.length sz es).holds := fun w hw => own_rd (has_at i hC w hw)
theorem own_nil (w : World) (e sz : Nat) : (own none 0 e sz []).holds w := ⟨by simp, by simp, .inl ⟨rfl, rfl⟩⟩
theorem St.own_nil {S : BS} {w0 w : World} {C : List Assn} (h : St S w0 C w) (e sz : Nat) : St S w0 (Go.Proofs.Ytaehngpnlkokkaa.own none 0 e sz [] :: C) w := by
  refine ⟨h.keeps, fun A hA => ?_, List.Pairwise.cons (fun B _ b hb => ?_) h.sep, fun A hA b hb => ?_, fun A hA b hb => ?_⟩
  · rcases List.mem_cons.1 hA with rfl | hA
    · exact Go.Proofs.Ytaehngpnlkokkaa.own_nil w e sz
    · exact h.holds A hA
  · obtain ⟨ad, h1, _⟩ := hb; cases h1
  · rcases List.mem_cons.1 hA with rfl | hA
    · obtain ⟨ad, h1, _⟩ := hb; cases h1
    · exact h.own A hA b hb
  · rcases List.mem_cons.1 hA with rfl | hA
    · obtain ⟨ad, h1, _⟩ := hb; cases h1
    · exact h.seen A hA b hb
theorem r_own_nil {E : Env} {ops : Array Oper} {Q : Post} {rest : List Oper} {D : List Deferred} {L : List (Nat × Value)} {C : List Assn} (e sz : Nat) (k : RJ E ops Q rest D L (own none 0 e sz [] :: C)) : RJ E ops Q rest D L C := fun a w hf hs => k a w hf (hs.own_nil e sz)
theorem w_own_nil {E : Env} {c : Code} {Q : Post} {D : List Deferred} {L : List (Nat × Value)} {C : List Assn} (e sz : Nat) (k : WJ E c Q D L (own none 0 e sz [] :: C)) : WJ E c Q D L C := fun a w hf hs => k a w hf (hs.own_nil e sz)
theorem blk_own {w : World} {g e : Nat} {cs : List Value} {sz : Nat} {es : List (List Value)} (h : (blk g e cs).holds w) (h2 : ∀ x ∈ es, x.length = sz) (h3 : es.flatten = cs) (hm : es.length ≤ maxLen) : (own (some ⟨g, 0, none⟩) es.length e sz es).holds w := by
  have hl : es.flatten.length = es.length * sz := by
    clear h3 hm
    induction es with
    | nil => simp
    | cons x xs ih =>
      simp only [List.flatten_cons, List.length_append, List.length_cons]
      rw [ih (fun y hy => h2 y (by simp [hy])), h2 x (by simp), Nat.succ_mul, Nat.add_comm]
  refine ⟨h2, hl, .inr ⟨g, es.length, cs.toArray, rfl, Nat.zero_le _, h, Nat.le_refl _, hm, by simp [← h3, hl], ?_⟩⟩
  show List.take (es.length * sz) cs = es.flatten
  rw [← h3, ← hl]
  exact List.take_length
theorem r_blk_own {E : Env} {ops : Array Oper} {Q : Post} {rest : List Oper} {D : List Deferred} {L : List (Nat × Value)} {C C' : List Assn} {g e : Nat} {cs : List Value} {sz : Nat} {es : List (List Value)} (i : Nat) (hC : C[i]? = some (blk g e cs)) (h2 : ∀ x ∈ es, x.length = sz) (h3 : es.flatten = cs) (hm : es.length ≤ maxLen)
    (hC' : C.set i (own (some ⟨g, 0, none⟩) es.length e sz es) = C') (k : RJ E ops Q rest D L C') : RJ E ops Q rest D L C := fun a w hf hs => by
  refine k a w hf ?_
  rw [← hC']
  refine hs.upd i hC rfl rfl (Keeps.refl _ _) (fun x hx => ?_) (blk_own (hs.holds _ (List.mem_of_getElem? hC)) h2 h3 hm)
  obtain ⟨ad, h1, h2⟩ := hx
  cases h1; exact h2
/-- one assertion's block has turned, or has gone to a new one -/
theorem St.move {S : BS} {w0 w w' : World} {C : List Assn} {A A' : Assn} {row : Option Nat} (i : Nat) (h : St S w0 C w) (hC : C[i]? = some A) (hA : ∀ b, row = some b → A.foot b) (hw : A.wr = true) (hk : w.grownBy w' row) (hA' : ∀ x, A'.foot x → row = some x ∨ w.heap.size ≤ x) (hb : A'.holds w') : St S w0 (C.set i A') w' := by
  have hi : i < C.length := (List.getElem?_eq_some_iff.1 hC).1
  have hget : C[i] = A := (List.getElem?_eq_some_iff.1 hC).2
  have hmem : A ∈ C := List.mem_of_getElem? hC
  have hsep : ∀ j (hj : j < C.length), j ≠ i → ∀ x, (C[j]).foot x → ¬ A.foot x := by
    intro j hj hne x hx he
    rcases Nat.lt_or_gt_of_ne hne with hlt | hlt
    · have := List.pairwise_iff_getElem.1 h.sep j i hj hi hlt
      rw [hget] at this
      exact (this x hx he).2 (A.whole hw x he)
    · have := List.pairwise_iff_getElem.1 h.sep i j hi hj hlt
      rw [hget] at this
      exact (this x he hx).1 (A.whole hw x he)
  have hnew : ∀ j (hj : j < C.length), j ≠ i → ∀ x, (C[j]).foot x → ¬ A'.foot x := by
    intro j hj hne x hx he
    rcases hA' x he with h1 | h1
    · exact hsep j hj hne x hx (hA x h1)
    · have := (C[j]).lt w (h.holds _ (List.getElem_mem hj)) x hx
      omega
  refine ⟨?_, ?_, ?_, ?_, ?_⟩
  · refine ⟨hk.os.trans h.keeps.os, hk.tape.trans h.keeps.tape, hk.output.trans h.keeps.output, Nat.le_trans h.keeps.size hk.size, fun k hkk hn => ?_⟩
    refine (hk.block k (Nat.lt_of_lt_of_le hkk h.keeps.size) (fun e => ?_)).trans (h.keeps.block k hkk hn)
    rcases h.own A hmem k (A.whole hw k (hA k e.symm)) with h1 | h1
    · omega
    · exact hn h1
  · intro B hB
    obtain ⟨j, hj, hjB⟩ := List.mem_iff_getElem.1 hB
    rw [List.getElem_set] at hjB
    split at hjB
    · subst hjB; exact hb
    · rename_i hne
      subst hjB
      have hj' : j < C.length := by simpa using hj
      have hm : C[j] ∈ C := List.getElem_mem hj'
      refine (C[j]).keep w w' (fun x hx => hk.block x ((C[j]).lt w (h.holds _ hm) x hx) (fun e => ?_)) (h.holds _ hm)
      exact hsep j hj' (Ne.symm hne) x hx (hA x e.symm)
  · rw [List.pairwise_iff_getElem]
    intro p q hp hq hpq
    have hp' : p < C.length := by simpa using hp
    have hq' : q < C.length := by simpa using hq
    have hs := List.pairwise_iff_getElem.1 h.sep p q hp' hq' hpq
    rw [List.getElem_set, List.getElem_set]
    split
    · rename_i e1; subst e1
      rw [if_neg (by omega)]
      exact fun x hx hx' => absurd hx (hnew q hq' (by omega) x hx')
    · split
      · rename_i e1; subst e1
        exact fun x hx hx' => absurd hx' (hnew p hp' (by omega) x hx)
      · exact hs
  · intro B hB x hx
    obtain ⟨j, hj, hjB⟩ := List.mem_iff_getElem.1 hB
    rw [List.getElem_set] at hjB
    split at hjB
    · subst hjB
      rcases hA' x (A'.wfoot x hx) with h1 | h1
      · exact h.own A hmem x (A.whole hw x (hA x h1))
      · exact .inl (Nat.le_trans h.keeps.size h1)
    · subst hjB
      exact h.own _ (List.getElem_mem _) x hx
  · intro B hB x hx
    obtain ⟨j, hj, hjB⟩ := List.mem_iff_getElem.1 hB
    rw [List.getElem_set] at hjB
    split at hjB
    · subst hjB
      rcases hA' x hx with h1 | h1
      · exact h.seen A hmem x (hA x h1)
      · exact .inl (Nat.le_trans h.keeps.size h1)
    · subst hjB
      exact h.seen _ (List.getElem_mem _) x hx
def tA (P : Program) (t : TypeId) : Option (TypeId × Nat × Nat × Value) :=
  match P.underlying t with
  | some (.slice e) => match P.info? e with
    | some i => match i.zero with
      | some z => if z.cells.size = i.size then some (e, i.size, i.bytes, z) else none
      | none => none
    | none => none
  | _ => none
theorem tA_out {P : Program} {t e sz by_ : Nat} {z : Value} (h : tA P t = some (e, sz, by_, z)) : ∃ i, P.underlying t = some (.slice e) ∧ P.info? e = some i ∧ i.zero = some z ∧ i.size = sz ∧ i.bytes = by_ ∧ z.cells.size = sz := by
  unfold tA at h
  cases hu : P.underlying t with
  | none => simp [hu] at h
  | some d =>
    cases d <;> simp [hu] at h
    rename_i e'
    cases hi : P.info? e' with
    | none => simp [hi] at h
    | some i =>
      cases hz : i.zero with
      | none => simp [hi, hz] at h
      | some z' =>
        simp only [hi, hz] at h
        split at h
        · simp only [Option.some.injEq, Prod.mk.injEq] at h
          obtain ⟨rfl, rfl, rfl, rfl⟩ := h
          exact ⟨i, rfl, hi, hz, rfl, rfl, by assumption⟩
        · cases h
theorem run_append_nil {P : Program} (w : World) (t ty e : TypeId) (i : TypeInfo) (size : Nat) (ht : P.underlying t = some (.slice e)) (hi : P.info? e = some i)
    (v : Value) (n : Nat) (xs : List Value) (hown : w.ownsRow 0 e size v n xs) (c : Nat) : (Builtin.append_ #[t, t] ty #[v, .slice none 0 c]).run P w = .ok v w := by
  rcases hown.2 with ⟨rfl, rfl⟩ | ⟨g, cap, cur, rfl, _, _, hnc, _⟩
  · simp [Builtin.append_, run_underlying ht, sizeOf, typeInfo, hi, Builtin.lenOf, Builtin.firstCells]
  · simp [Builtin.append_, run_underlying ht, sizeOf, typeInfo, hi, Builtin.lenOf, Builtin.firstCells, hnc, storeCells]
theorem flat_at {w : World} {ad : Addr} {sz : Nat} : ∀ (es : List (List Value)) (k : Nat), (∀ e ∈ es, e.length = sz) → (∀ i e j v, es[i]? = some e → e[j]? = some v → w.cell? (ad.add ((k + i) * sz + j)) = some v) → ∀ j v, es.flatten[j]? = some v → w.cell? (ad.add (k * sz + j)) = some v := by
  intro es
  induction es with
  | nil => intro k _ _ j v hj; simp at hj
  | cons x xs ih =>
    intro k hl h j v hj
    have hx := hl x (by simp)
    simp only [List.flatten_cons] at hj
    rcases Nat.lt_or_ge j x.length with hlt | hge
    · rw [List.getElem?_append_left hlt] at hj
      exact h 0 x j v (by simp) hj
    · rw [List.getElem?_append_right hge] at hj
      have := ih (k + 1) (fun e he => hl e (by simp [he])) (fun i e j v hi hj => by
        have := h (i + 1) e j v (by simpa using hi) hj
        rwa [show k + 1 + i = k + (i + 1) from by omega]) (j - x.length) v hj
      rw [Nat.succ_mul] at this
      rwa [show k * sz + sz + (j - x.length) = k * sz + j from by omega] at this
section
variable {E : Env} {ops : Array Oper} {Q : Post} {rest : List Oper} {D : List Deferred} {L : List (Nat × Value)} {C : List Assn}
variable {d : Nat} {ty : TypeId} {ps : String} {af : Array Edge} {g : Option (Nat × Bool)}
theorem flatten_length_of {sz : Nat} : ∀ {es : List (List Value)}, (∀ x ∈ es, x.length = sz) → es.flatten.length = es.length * sz := by
  intro es
  induction es with
  | nil => intro _; simp
  | cons x xs ih =>
    intro h
    simp only [List.flatten_cons, List.length_append, List.length_cons]
    rw [ih (fun y hy => h y (by simp [hy])), h x (by simp), Nat.succ_mul, Nat.add_comm]
theorem r_append {s x : Operand} {t e sz by_ n m m' c c' : Nat} {z : Value} {a A : Option Addr} {es es' es2 : List (List Value)} (i : Nat) (hg : gOn ops L g = true) (hs : ev L s = some (.slice a n c)) (hx : ev L x = some (.slice A m c')) (ht : tA E.P t = some (e, sz, by_, z)) (hsz : Nat.blt 0 sz = true)
    (hC : C[i]? = some (own a c e sz es)) (hn : n = es.length) (hR : Has C (rd A m sz es').holds) (h1 : ∀ v ∈ es'.flatten, v.oneCell' = true) (hb : (n + m) * by_ ≤ 140737488355328) (hb2 : n + m ≤ maxLen) (hes : es ++ es' = es2) (hm' : es2.length = m') (hd : Nat.blt d E.n = true)
    (k : ∀ (a' : Option Addr) (c2 : Nat), RJ E ops Q rest D ((d, .slice a' m' c2) :: L) (C.set i (own a' c2 e sz es2))) :
    RJ E ops Q (⟨some d, .call { callee := .builtin .append, args := #[s, x], argTypes := #[t, t] }, ty, ps, af, g⟩ :: rest) D L C := by
  intro act w hfr hst
  have hd' : d < E.n := by rw [← Nat.blt_eq]; exact hd
  have hsz' : 0 < sz := by rw [← Nat.blt_eq]; exact hsz
  obtain ⟨inf, hu, hi, hz, h3, h4, h5⟩ := tA_out ht
  unfold wpL
  rw [if_pos (gOn_wanted hfr hg)]
  subst hn hes hm'
  obtain ⟨hl1, hown⟩ : (own a c e sz es).holds w := hst.holds _ (List.mem_of_getElem? hC)
  obtain ⟨hr1, hr2, hr3⟩ := hst.has hR
  have hl2 : ∀ x ∈ es ++ es', x.length = sz := fun x hx => by
    rcases List.mem_append.1 hx with h | h
    · exact hl1 x h
    · exact hr2 x h
  have main : ∃ v' w', (Builtin.append_ #[t, t] ty #[.slice a es.length c, .slice A m c']).run E.P w = .ok v' w' ∧ w'.ownsRow 0 e sz v' (es.length + m) (es.flatten ++ es'.flatten) ∧ w.grownBy w' (Value.slice a es.length c).ownBlock ∧ (v'.ownBlock = (Value.slice a es.length c).ownBlock ∨ v'.ownBlock = some w.heap.size) := by
    by_cases h0 : m = 0
    · subst h0
      have he : es' = [] := List.eq_nil_of_length_eq_zero hr1
      subst he
      cases A with
      | none => exact ⟨_, w, run_append_nil w t ty e inf sz hu hi _ _ _ hown c', by simpa using hown, World.grownBy.refl w _, .inl rfl⟩
      | some ad =>
        obtain ⟨v', w', q1, q2, q3, _, q5⟩ := run_append_own_at (P := E.P) w 0 t ty e inf z sz by_ hu hi hz h3 h4 h5 hsz' _ _ _ hown ad 0 c' [] (by simp) (by simp) (by simp) hb2 hb (Nat.zero_le _)
        exact ⟨v', w', q1, by simpa using q2, q3, q5⟩
    · obtain ⟨ad, hA, hc⟩ := hr3 (Nat.mul_pos (by omega) hsz')
      subst hA
      obtain ⟨v', w', q1, q2, q3, _, q5⟩ := run_append_own_at (P := E.P) w 0 t ty e inf z sz by_ hu hi hz h3 h4 h5 hsz' _ _ _ hown ad m c' es'.flatten (by rw [flatten_length_of hr2, hr1])
        (fun j v hj => by have := flat_at (w := w) (ad := ad) es' 0 hr2 (fun i e j v hi hj => by simpa using hc i e j v hi hj) j v hj; simpa using this) h1 hb2 hb (Nat.zero_le _)
      exact ⟨v', w', q1, q2, q3, q5⟩
  obtain ⟨v', w', q1, q2, q3, q5⟩ := main
  have hform : ∃ a' c2, v' = .slice a' (es ++ es').length c2 := by
    rcases q2.2 with ⟨rfl, h0⟩ | ⟨gg, cap, cur, rfl, _⟩
    · exact ⟨none, 0, by rw [List.length_append, hr1, h0]⟩
    · exact ⟨_, cap, by rw [List.length_append, hr1]⟩
  obtain ⟨a', c2, rfl⟩ := hform
  refine wp_value (by simp) (w' := w') (v := .slice a' (es ++ es').length c2) ?_ ?_
  · simp [execOp, resolve, invoke, builtin, hfr.ev hs, hfr.ev hx, q1]
  · refine k a' c2 _ _ (hfr.put hd' _) ?_
    refine hst.move i hC (row := (Value.slice a es.length c).ownBlock) (fun b hb => ?_) rfl q3 (fun y hy => ?_) ?_
    · cases a with
      | none => simp [Value.ownBlock] at hb
      | some ad => exact ⟨ad, rfl, by simpa [Value.ownBlock] using hb.symm⟩
    · obtain ⟨ad, rfl, rfl⟩ := hy
      rcases q5 with h | h
      · left; rw [← h]; rfl
      · right; simp [Value.ownBlock] at h; omega
    · refine ⟨hl2, ?_⟩
      rw [List.flatten_append]
      rw [show (es ++ es').length = es.length + m from by rw [List.length_append, hr1]] at q2 ⊢
      exact q2
end
end Go.Proofs.Ytaehngpnlkokkaa
