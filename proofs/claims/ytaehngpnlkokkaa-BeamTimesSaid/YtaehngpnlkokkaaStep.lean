/-
  Steps of operations: one operation from a frame and a state; regions in the text's order and in an open order.
  No condition: the theorems hold over whatever program.
-/
import Derived.Test.YtaehngpnlkokkaaCore
namespace Go.Proofs.Ytaehngpnlkokkaa
open Go.RowKit
set_option linter.unusedVariables false

/-- An operation that yields v, whatever else holds; the state stays. -/
def SD (E : Env) (ops : Array Oper) (o : Oper) (D : List Deferred) (L : List (Nat × Value)) (C : List Assn) (v : Value) : Prop :=
  ∀ a w, Fr E.n D L a → St E.S E.w0 C w →
    (Region.wanted o (yielded ops a.tmps) = true ∧ o.wpIn (Fw E.r) 0 E.P a w (fun a' w' => a' = a.put o.dst v ∧ Keeps no w w') (fun _ _ _ => False)) ∨
    (Region.wanted o (yielded ops a.tmps) = false ∧ v = undef)

/-- in the text's order -/
theorem r_sd {E : Env} {ops : Array Oper} {Q : Post} {o : Oper} {rest : List Oper} {D : List Deferred} {L : List (Nat × Value)} {C : List Assn} {v : Value} {d : Nat}
    (h : SD E ops o D L C v) (ho : o.dst = some d) (hd : Nat.blt d E.n = true) (k : RJ E ops Q rest D ((d, v) :: L) C) : RJ E ops Q (o :: rest) D L C := by
  intro a w hf hs
  have hd' : d < E.n := by rw [← Nat.blt_eq]; exact hd
  unfold wpL
  rcases h a w hf hs with ⟨hw, hh⟩ | ⟨hw, rfl⟩
  · rw [if_pos hw]
    refine wpIn_op_mono hh (fun a' w' ⟨ha, hs'⟩ => ?_) (fun _ _ _ hF => hF.elim)
    subst ha
    rw [ho]
    exact k _ _ (hf.put hd' v) (hs.same hs')
  · rw [if_neg (by simp [hw]), ho]
    exact k _ _ (hf.put hd' _) hs

/-! ## a region whose order is open -/
/-- the operations in the text's order, each with what it yields -/
def DJ (E : Env) (ops : Array Oper) (D : List Deferred) (C : List Assn) (F : List (Nat × Value) → Prop) : List Oper → List (Nat × Value) → Prop
  | [], L => F L
  | o :: rest, L => ∃ d v, o.dst = some d ∧ d < E.n ∧ SD E ops o D L C v ∧ DJ E ops D C F rest ((d, v) :: L)
theorem d_sd {E : Env} {ops : Array Oper} {F : List (Nat × Value) → Prop} {o : Oper} {rest : List Oper} {D : List Deferred} {L : List (Nat × Value)} {C : List Assn} {v : Value} {d : Nat}
    (h : SD E ops o D L C v) (ho : o.dst = some d) (hd : Nat.blt d E.n = true) (k : DJ E ops D C F rest ((d, v) :: L)) : DJ E ops D C F (o :: rest) L :=
  ⟨d, v, ho, by rw [← Nat.blt_eq]; exact hd, h, k⟩
theorem d_nil {E : Env} {ops : Array Oper} {F : List (Nat × Value) → Prop} {D : List Deferred} {L : List (Nat × Value)} {C : List Assn} (h : F L) : DJ E ops D C F [] L := h

/-- a set of numbers that is closed downwards -/
def Deps (ops : Array Oper) (S : Nat → Prop) (j : Nat) : Prop := ∀ o e, ops[j]? = some o → e ∈ o.after → Region.binds .any e = true → S e.on
/-- who stands before an operation, by the edges: a set of numbers as the bits of one -/
def mskOf (o : Oper) (acc : Array Nat) : Nat := o.after.toList.foldl (fun s e => if Region.binds .any e then s ||| (2 ^ e.on ||| acc.getD e.on 0) else s) 0
def mskL : List Oper → Array Nat → Array Nat
  | [], acc => acc
  | o :: os, acc => mskL os (acc.push (mskOf o acc))
def msk (ops : Array Oper) : Array Nat := mskL ops.toList #[]
def ancB (m : Array Nat) (j i : Nat) : Bool := (m.getD i 0).testBit j
theorem msk_fold (acc : Array Nat) (j : Nat) : ∀ (es : List Edge) (s : Nat), (es.foldl (fun s e => if Region.binds .any e then s ||| (2 ^ e.on ||| acc.getD e.on 0) else s) s).testBit j = true →
    s.testBit j = true ∨ ∃ e ∈ es, Region.binds .any e = true ∧ (e.on = j ∨ (acc.getD e.on 0).testBit j = true) := by
  intro es
  induction es with
  | nil => intro s h; exact .inl h
  | cons e es ih =>
    intro s h
    simp only [List.foldl_cons] at h
    rcases ih _ h with h1 | ⟨e', he', hb, hc⟩
    · by_cases hb : Region.binds .any e = true
      · rw [if_pos hb] at h1
        simp only [Nat.testBit_or, Bool.or_eq_true] at h1
        rcases h1 with h1 | h1 | h1
        · exact .inl h1
        · refine .inr ⟨e, by simp, hb, .inl ?_⟩
          rw [Nat.testBit_two_pow] at h1
          exact of_decide_eq_true h1
        · exact .inr ⟨e, by simp, hb, .inr h1⟩
      · rw [if_neg hb] at h1; exact .inl h1
    · exact .inr ⟨e', by simp [he'], hb, hc⟩
theorem mskL_closed {ops : Array Oper} {S : Nat → Prop} (hS : ∀ j, S j → Deps ops S j) : ∀ (os : List Oper) (acc : Array Nat), (∀ k, os[k]? = ops[acc.size + k]?) →
    (∀ i j, (acc.getD i 0).testBit j = true → Deps ops S i → S j) → ∀ i j, ((mskL os acc).getD i 0).testBit j = true → Deps ops S i → S j := by
  intro os
  induction os with
  | nil => intro acc _ h; exact h
  | cons o os ih =>
    intro acc hk h
    refine ih _ (fun k => by have := hk (k + 1); simp only [Array.size_push]; rw [show acc.size + 1 + k = acc.size + (k + 1) from by omega]; simpa using this) ?_
    intro i j hb hd
    have h0 : ops[acc.size]? = some o := by simpa using (hk 0).symm
    simp only [Array.getD_eq_getD_getElem?, Array.getElem?_push] at hb
    by_cases e : i = acc.size
    · subst e
      simp only [if_true, Option.getD_some] at hb
      rcases msk_fold acc j _ _ hb with h1 | ⟨e, he, hbind, h1⟩
      · simp at h1
      · have hSe : S e.on := hd o e h0 (by simpa using he) hbind
        rcases h1 with h1 | h1
        · exact h1 ▸ hSe
        · exact h _ _ h1 (hS _ hSe)
    · rw [if_neg e] at hb
      exact h i j (by rw [Array.getD_eq_getD_getElem?]; exact hb) hd
theorem ancB_closed {ops : Array Oper} {S : Nat → Prop} (hS : ∀ j, S j → Deps ops S j) {i j : Nat} (h : ancB (msk ops) j i = true) (hd : Deps ops S i) : S j :=
  mskL_closed hS ops.toList #[] (by simp) (fun i j hb => by simp at hb) i j h hd

/-- what is asked of a region's first n operations: each writes a slot of its own; whoever writes a slot that another looks at stands before it or behind it by the edges; the rest waits for all that stands before it -/
def chkM (m : Array Nat) (ops : Array Oper) (n : Nat) : Bool :=
  Nat.ble n ops.size &&
  ((List.range ops.size).all fun i => match ops[i]? with
    | none => false
    | some o => o.after.toList.all fun e => !Region.binds .any e || Nat.blt e.on i) &&
  ((List.range n).all fun i => match ops[i]? with
    | none => false
    | some o => o.dst.isSome && !(match o.op with | .select .. => true | .defer _ => true | _ => false) &&
      (List.range n).all fun j => j == i || match ops[j]? with
        | none => false
        | some p => match p.dst with
          | none => false
          | some d => o.dst != some d && (!(o.looksAt ops).contains d || (if j < i then ancB m j i else ancB m i j))) &&
  ((List.range' n (ops.size - n)).all fun i => (List.range i).all fun j => ancB m j i)
def chk (ops : Array Oper) (n : Nat) : Bool := chkM (msk ops) ops n
structure Chk (ops : Array Oper) (n : Nat) : Prop where
  le : n ≤ ops.size
  edge : ∀ i o e, ops[i]? = some o → e ∈ o.after → Region.binds .any e = true → e.on < i
  plain : ∀ i o, i < n → ops[i]? = some o → (∀ cs b, o.op ≠ .select cs b) ∧ (∀ c, o.op ≠ .defer c)
  apart : ∀ i j o p d, i < n → j < n → j ≠ i → ops[i]? = some o → ops[j]? = some p → p.dst = some d → o.dst ≠ some d ∧ (d ∈ o.looksAt ops → (j < i ∧ ancB (msk ops) j i = true) ∨ (i < j ∧ ancB (msk ops) i j = true))
  tail : ∀ i j, n ≤ i → i < ops.size → j < i → ancB (msk ops) j i = true
theorem Chk.of {ops : Array Oper} {n : Nat} (h : chk ops n = true) : Chk ops n := by
  simp only [chk, chkM, Bool.and_eq_true] at h
  obtain ⟨⟨⟨h1, h2⟩, h3⟩, h4⟩ := h
  have hle : n ≤ ops.size := Nat.le_of_ble_eq_true h1
  rw [List.all_eq_true] at h2 h3 h4
  refine ⟨hle, ?_, ?_, ?_, ?_⟩
  · intro i o e ho he hb
    have hi : i < ops.size := (Array.getElem?_eq_some_iff.1 ho).1
    have := h2 i (by simpa using hi)
    simp only [ho] at this
    rw [List.all_eq_true] at this
    have := this e (by simpa using he)
    rw [hb] at this
    simpa using this
  · intro i o hi ho
    have := h3 i (by simpa using hi)
    simp only [ho, Bool.and_eq_true] at this
    refine ⟨fun cs b hh => ?_, fun c hh => ?_⟩ <;> simp [hh] at this
  · intro i j o p d hi hj hne ho hp hd
    have := h3 i (by simpa using hi)
    simp only [ho, Bool.and_eq_true] at this
    have := this.2
    rw [List.all_eq_true] at this
    have := this j (by simpa using hj)
    simp only [hp, hd, Bool.or_eq_true, Bool.and_eq_true, beq_iff_eq, bne_iff_ne, ne_eq] at this
    rcases this with h | ⟨h5, h6⟩
    · exact absurd h hne
    · refine ⟨h5, fun hm => ?_⟩
      rcases h6 with h6 | h6
      · simp [hm] at h6
      · by_cases hlt : j < i
        · rw [if_pos hlt] at h6; exact .inl ⟨hlt, h6⟩
        · rw [if_neg hlt] at h6; exact .inr ⟨by omega, h6⟩
  · intro i j h5 h6 h7
    have := h4 i (by rw [List.mem_range'_1]; omega)
    rw [List.all_eq_true] at this
    exact this j (by simpa using h7)

/-- the frame, the activation behind the first i operations -/
def lat : List Oper → List Value → Nat → List (Nat × Value) → List (Nat × Value)
  | o :: os, v :: vs, i + 1, L => lat os vs i (match o.dst with | some d => (d, v) :: L | none => L)
  | _, _, _, L => L
def actAt : List Oper → List Value → Nat → Act → Act
  | o :: os, v :: vs, i + 1, a => actAt os vs i (a.put o.dst v)
  | _, _, _, a => a
theorem DJ.out {E : Env} {ops : Array Oper} {D : List Deferred} {C : List Assn} {F : List (Nat × Value) → Prop} : ∀ (os : List Oper) (L : List (Nat × Value)), DJ E ops D C F os L →
    ∃ vs : List Value, vs.length = os.length ∧ F (lat os vs os.length L) ∧ ∀ i o, os[i]? = some o → ∃ d v, o.dst = some d ∧ d < E.n ∧ vs[i]? = some v ∧ SD E ops o D (lat os vs i L) C v := by
  intro os
  induction os with
  | nil => intro L h; exact ⟨[], rfl, h, fun i o ho => by simp at ho⟩
  | cons o os ih =>
    intro L h
    obtain ⟨d, v, ho, hd, hsd, hk⟩ := h
    obtain ⟨vs, hl, hF, hall⟩ := ih _ hk
    refine ⟨v :: vs, by simp [hl], by simpa [lat, ho] using hF, fun i o' ho' => ?_⟩
    cases i with
    | zero => simp at ho'; subst ho'; exact ⟨d, v, ho, hd, by simp, by simpa [lat] using hsd⟩
    | succ i =>
      obtain ⟨d', v', h1, h2, h3, h4⟩ := hall i o' (by simpa using ho')
      exact ⟨d', v', h1, h2, by simpa using h3, by simpa [lat, ho] using h4⟩
theorem actAt_fr {n : Nat} {D : List Deferred} : ∀ (os : List Oper) (vs : List Value) (i : Nat) (L : List (Nat × Value)) (a : Act), (∀ (j : Nat) (o : Oper) (d : Nat), os[j]? = some o → o.dst = some d → d < n) → Fr n D L a → Fr n D (lat os vs i L) (actAt os vs i a) := by
  intro os
  induction os with
  | nil => intro vs i L a _ h; simpa [lat, actAt] using h
  | cons o os ih =>
    intro vs i L a hd h
    cases vs with
    | nil => simpa [lat, actAt] using h
    | cons v vs =>
      cases i with
      | zero => simpa [lat, actAt] using h
      | succ i =>
        simp only [lat, actAt]
        refine ih vs i _ _ (fun j o' d ho' hd' => hd (j + 1) o' d (by simpa using ho') hd') ?_
        cases ho : o.dst with
        | none => exact h
        | some d => exact h.put (hd 0 o d (by simp) ho) v
theorem actAt_other : ∀ (os : List Oper) (vs : List Value) (i : Nat) (a : Act) (t : Nat), (∀ (j : Nat) (o : Oper), j < i → os[j]? = some o → o.dst ≠ some t) → (actAt os vs i a).tmps[t]? = a.tmps[t]? := by
  intro os
  induction os with
  | nil => intro vs i a t _; simp [actAt]
  | cons o os ih =>
    intro vs i a t h
    cases vs with
    | nil => simp [actAt]
    | cons v vs =>
      cases i with
      | zero => simp [actAt]
      | succ i =>
        simp only [actAt]
        rw [ih vs i _ t (fun j o' hj ho' => h (j + 1) o' (by omega) (by simpa using ho'))]
        have h0 := h 0 o (by omega) (by simp)
        cases ho : o.dst with
        | none => rfl
        | some d => simp only [Act.put]; rw [Array.getElem?_setIfInBounds_ne (fun e => h0 (by rw [ho, e]))]
theorem actAt_at : ∀ (os : List Oper) (vs : List Value) (i : Nat) (a : Act) (k : Nat) (p : Oper) (d : Nat) (v : Value), k < i → os[k]? = some p → p.dst = some d → d < a.tmps.size → vs[k]? = some v →
    (∀ (j : Nat) (o : Oper), j < i → j ≠ k → os[j]? = some o → o.dst ≠ some d) → (actAt os vs i a).tmps[d]? = some v := by
  intro os
  induction os with
  | nil => intro vs i a k p d v _ hp; simp at hp
  | cons o os ih =>
    intro vs i a k p d v hk hp hpd hd hv h
    cases vs with
    | nil => simp at hv
    | cons u vs =>
      cases i with
      | zero => omega
      | succ i =>
        simp only [actAt]
        cases k with
        | zero =>
          simp at hp hv
          subst hp hv
          rw [actAt_other os vs i _ d (fun j o' hj ho' => h (j + 1) o' (by omega) (by omega) (by simpa using ho')), hpd]
          simp only [Act.put]
          rw [Array.getElem?_setIfInBounds_self_of_lt hd]
        | succ k =>
          refine ih vs i _ k p d v (by omega) (by simpa using hp) hpd ?_ (by simpa using hv) (fun j o' hj hne ho' => h (j + 1) o' (by omega) (by omega) (by simpa using ho'))
          cases o.dst <;> simp [Act.put, hd]

theorem eval_of_slot {a a' : Act} {t : Nat} (h : a.tmps[t]? = a'.tmps[t]?) : a.eval (.tmp t) = a'.eval (.tmp t) := by simp [Act.eval, h]
theorem eval_congr {ops : Array Oper} {o : Oper} {a a' : Act} (h : ∀ t ∈ o.looksAt ops, a.tmps[t]? = a'.tmps[t]?) : ∀ x ∈ o.op.operands, a.eval x = a'.eval x := by
  intro x hx
  cases x with
  | tmp t => exact eval_of_slot (h t (List.mem_append_left _ (List.mem_filterMap.2 ⟨.tmp t, by simpa using hx, rfl⟩)))
  | _ => rfl
theorem wanted_congr {ops : Array Oper} {o : Oper} {a a' : Act} (h : ∀ t ∈ o.looksAt ops, a.tmps[t]? = a'.tmps[t]?) : Region.wanted o (yielded ops a.tmps) = Region.wanted o (yielded ops a'.tmps) := by
  unfold Region.wanted
  cases hg : o.guard with
  | none => rfl
  | some gw =>
    obtain ⟨g, want⟩ := gw
    have hy : yielded ops a.tmps g = yielded ops a'.tmps g := by
      unfold yielded
      cases ht : (ops[g]?).bind (·.dst) with
      | none => rfl
      | some t => simp only [Option.bind_some]; rw [h t (List.mem_append_right _ (by simp [hg, ht]))]
    simp only [hy]
/-- what an operation does hangs on the slots that it looks at alone -/
theorem sd_swapk {E : Env} {ops : Array Oper} {o : Oper} {D : List Deferred} {L : List (Nat × Value)} {C : List Assn} {v : Value} {d : Nat} (h : SD E ops o D L C v) (ho : o.dst = some d) (hd : d < E.n)
    (hsel : ∀ cs b, o.op ≠ .select cs b) (hdef : ∀ c, o.op ≠ .defer c) {a a' : Act} (hf : Fr E.n D L a') (hl : ∀ t ∈ o.looksAt ops, a.tmps[t]? = a'.tmps[t]?) {w : World} (hs : St E.S E.w0 C w)
    {N : Act → World → Prop} {Q : Post} (hn : ∀ w', Keeps no w w' → N (a.put (some d) v) w') :
    if Region.wanted o (yielded ops a.tmps) then o.wpIn (Fw E.r) 0 E.P a w N Q else (∀ f, o.about E.P w a.eval = some f → (Fw E.r).fn f) ∧ N (a.put o.dst undef) w := by
  rw [wanted_congr hl]
  rcases h a' w hf hs with ⟨hw, hh⟩ | ⟨hw, rfl⟩
  · rw [if_pos hw]
    refine ⟨fun _ _ => trivial, ?_⟩
    have h2 := hh.2
    rw [Oper.semAt_eq _ _ _ hdef] at h2 ⊢
    rw [execOp_congr (ρ := a.eval) (ρ' := a'.eval) o hsel (eval_congr hl)]
    have hval : ∀ u, a'.put o.dst u = a'.put o.dst v → u = v := by
      intro u hu
      rw [ho] at hu
      have := congrArg (fun b : Act => b.tmps[d]?) hu
      simp only [Act.put] at this
      rw [Array.getElem?_setIfInBounds_self_of_lt (by rw [hf.size]; exact hd), Array.getElem?_setIfInBounds_self_of_lt (by rw [hf.size]; exact hd)] at this
      injection this
    have hgo : ∀ u w', (a'.put o.dst u = a'.put o.dst v ∧ Keeps no w w') → N (a.put o.dst u) w' := by
      rintro u w' ⟨hu, hs'⟩
      rw [hval u hu, ho]
      exact hn w' hs'
    generalize (execOp a'.eval o).run E.P w = res at h2
    cases res with
    | halt x w' => cases x <;> simp [Oper.uponIn] at h2
    | ok x w' =>
      cases x with
      | value u => exact hgo u w' h2
      | skip => exact hgo _ w' h2
      | defer dd =>
        have h3 : ({ a' with defers := dd :: a'.defers } : Act).put o.dst undef = a'.put o.dst v := h2.1
        rw [ho] at h3
        have := congrArg (fun b : Act => b.defers.length) h3
        simp [Act.put] at this
      | enter f args =>
        refine ⟨h2.1, h2.2.mono fun e w'' he => ?_⟩
        cases e with
        | returned u => exact hgo u w'' he
        | panicked ch => exact he.elim
        | outgrown => obtain ⟨_, _, hF⟩ := he; exact hF.elim
      | row x args => exact ⟨h2.1, h2.2.mono fun u w'' he => hgo u w'' he⟩
      | round l f tmps as bd =>
        refine ⟨h2.1, h2.2.mono fun e w'' he => ?_⟩
        cases e with
        | returned u => exact hgo u w'' he
        | panicked ch => exact he.elim
        | outgrown => obtain ⟨_, _, hF⟩ := he; exact hF.elim
      | _ => simp [Oper.uponIn] at h2
  · rw [if_neg (by simp [hw])]
    refine ⟨fun _ _ => trivial, ?_⟩
    rw [ho]
    exact hn w (Keeps.refl _ _)
theorem sd_swap {E : Env} {ops : Array Oper} {o : Oper} {D : List Deferred} {L : List (Nat × Value)} {C : List Assn} {v : Value} {d : Nat} (h : SD E ops o D L C v) (ho : o.dst = some d) (hd : d < E.n)
    (hsel : ∀ cs b, o.op ≠ .select cs b) (hdef : ∀ c, o.op ≠ .defer c) {a a' : Act} (hf : Fr E.n D L a') (hl : ∀ t ∈ o.looksAt ops, a.tmps[t]? = a'.tmps[t]?) {w : World} (hs : St E.S E.w0 C w)
    {N : Act → World → Prop} {Q : Post} (hn : ∀ w', St E.S E.w0 C w' → N (a.put (some d) v) w') :
    if Region.wanted o (yielded ops a.tmps) then o.wpIn (Fw E.r) 0 E.P a w N Q else (∀ f, o.about E.P w a.eval = some f → (Fw E.r).fn f) ∧ N (a.put o.dst undef) w :=
  sd_swapk h ho hd hsel hdef hf hl hs (fun w' hk => hn w' (hs.same hk))

/-! ### whatever the order -/
def unl (n : Nat) (listed : Array Bool) : List Nat := (List.range n).filter fun i => !listed.getD i false
theorem mem_unl {n : Nat} {listed : Array Bool} {i : Nat} : i ∈ unl n listed ↔ i < n ∧ listed.getD i false = false := by simp [unl]
theorem getD_set {listed : Array Bool} {i j : Nat} (hi : i < listed.size) (d : Bool) : (listed.setIfInBounds i true).getD j d = if j = i then true else listed.getD j d := by
  simp only [Array.getD_eq_getD_getElem?]
  by_cases e : j = i
  · subst e; rw [Array.getElem?_setIfInBounds_self_of_lt hi]; simp
  · rw [Array.getElem?_setIfInBounds_ne (fun h => e h.symm)]; simp [e]
theorem unl_set {n : Nat} {listed : Array Bool} {i : Nat} (hi : i < listed.size) : unl n (listed.setIfInBounds i true) = (unl n listed).filter (fun j => j != i) := by
  unfold unl
  rw [List.filter_filter]
  refine List.filter_congr fun j _ => ?_
  rw [getD_set hi]
  by_cases e : j = i <;> simp [e]
theorem unl_lt {n : Nat} {listed : Array Bool} {i : Nat} (hi : i < listed.size) (hm : i ∈ unl n listed) : (unl n (listed.setIfInBounds i true)).length < (unl n listed).length := by
  rw [unl_set hi]
  exact List.length_filter_lt_length_iff_exists.2 ⟨i, hm, by simp⟩
section
variable {ops : Array Oper} {listed : Array Bool}
theorem ready_of {i : Nat} (hs : listed.size = ops.size) (hi : i < ops.size) (hu : listed.getD i false = false) (hd : Deps ops (fun k => listed.getD k false = true) i) : i ∈ Region.ready .any ops listed := by
  rw [mem_ready]
  obtain ⟨o, ho⟩ : ∃ o, ops[i]? = some o := ⟨ops[i], Array.getElem?_eq_getElem hi⟩
  refine ⟨?_, o, ho, ?_⟩
  · rw [Array.getD_eq_getD_getElem?] at hu ⊢
    rw [Array.getElem?_eq_getElem (by omega)] at hu ⊢
    exact hu
  · intro e he hb
    exact hd o e ho he hb
theorem of_ready {i : Nat} (hs : listed.size = ops.size) (h : i ∈ Region.ready .any ops listed) : i < ops.size ∧ listed.getD i false = false ∧ Deps ops (fun k => listed.getD k false = true) i := by
  obtain ⟨hu, o, ho, hall⟩ := mem_ready.1 h
  have hi : i < ops.size := (Array.getElem?_eq_some_iff.1 ho).1
  refine ⟨hi, ?_, fun o' e ho' he hb => ?_⟩
  · rw [Array.getD_eq_getD_getElem?] at hu ⊢
    rw [Array.getElem?_eq_getElem (by omega)] at hu ⊢
    exact hu
  · rw [ho] at ho'; cases ho'
    exact hall e he hb
end
section
variable {r : Option Nat} {P : Program} {ops : Array Oper} {Q : Post} {n : Nat}
theorem any_tail (hc : Chk ops n) : ∀ (fuel : Nat) (listed : Array Bool) (a : Act) (w : World) (m : Nat), listed.size = ops.size → n ≤ m → (∀ i, i < ops.size → (listed.getD i false = true ↔ i < m)) → (unl ops.size listed).length ≤ fuel →
    wpL r P ops Q (ops.toList.drop m) a w → wpAnyIn (Fw r) 0 P .any ops Q fuel listed a w := by
  intro fuel
  induction fuel with
  | zero =>
    intro listed a w m hsz hnm hm hf h
    have hall : ∀ i, i < ops.size → listed.getD i false = true := fun i hi => by
      cases hg : listed.getD i false with
      | true => rfl
      | false =>
        have : i ∈ unl ops.size listed := mem_unl.2 ⟨hi, hg⟩
        have := List.length_pos_of_mem this
        omega
    have hmz : ops.size ≤ m := by
      rcases Nat.lt_or_ge m ops.size with hlt | hge
      · have := (hm m hlt).1 (hall m hlt); omega
      · exact hge
    refine ⟨?_, ?_⟩
    · rw [List.eq_nil_iff_forall_not_mem]
      intro i hi
      obtain ⟨h1, h2, _⟩ := of_ready hsz hi
      rw [hall i h1] at h2; cases h2
    · rw [List.drop_eq_nil_of_le (by simpa using hmz)] at h
      exact h
  | succ fuel ih =>
    intro listed a w m hsz hnm hm hf h
    have hcl : ∀ j, j < ops.size → listed.getD j false = true → Deps ops (fun k => listed.getD k false = true) j := fun j hj hl o e ho he hb => by
      have h1 := hc.edge j o e ho he hb
      have h2 := (hm j hj).1 hl
      exact (hm e.on (by omega)).2 (by omega)
    rcases Nat.lt_or_ge m ops.size with hlt | hge
    · obtain ⟨o, ho⟩ : ∃ o, ops[m]? = some o := ⟨ops[m], Array.getElem?_eq_getElem hlt⟩
      have hmr : m ∈ Region.ready .any ops listed := ready_of hsz hlt (by
        cases hg : listed.getD m false with
        | false => rfl
        | true => have := (hm m hlt).1 hg; omega) (fun o' e ho' he hb => (hm e.on (by have := hc.edge m o' e ho' he hb; omega)).2 (hc.edge m o' e ho' he hb))
      refine ⟨fun hnil => absurd hmr (by rw [hnil]; simp), fun i hi => ?_⟩
      obtain ⟨hi1, hi2, hi3⟩ := of_ready hsz hi
      have him : i = m := by
        have h1 : m ≤ i := by
          rcases Nat.lt_or_ge i m with hlt' | hge'
          · have := (hm i hi1).2 hlt'; rw [this] at hi2; cases hi2
          · exact hge'
        rcases Nat.lt_or_ge m i with h2 | h2
        · have hanc := hc.tail i m (by omega) hi1 h2
          have hS : listed.getD m false = true := ancB_closed (S := fun k => listed.getD k false = true) (fun j hj => by
            rcases Nat.lt_or_ge j ops.size with hj' | hj'
            · exact hcl j hj' hj
            · intro o' e ho'; rw [Array.getElem?_eq_none hj'] at ho'; cases ho') hanc hi3
          have := (hm m hlt).1 hS; omega
        · omega
      subst him
      have hdrop : ops.toList.drop i = o :: ops.toList.drop (i + 1) := by
        rw [List.drop_eq_getElem_cons (by simpa using hlt)]
        congr 1
        have := (Array.getElem?_eq_some_iff.1 ho).2
        simpa using this
      rw [hdrop] at h
      simp only [wpL] at h
      unfold wpOpIn
      simp only [ho]
      have hnext : ∀ a' w', wpL r P ops Q (ops.toList.drop (i + 1)) a' w' → wpAnyIn (Fw r) 0 P .any ops Q fuel (listed.setIfInBounds i true) a' w' := fun a' w' h' => by
        refine ih _ a' w' (i + 1) (by simpa using hsz) (by omega) (fun k hk => ?_) ?_ h'
        · rw [getD_set (by omega)]
          by_cases e : k = i
          · subst e; simp
          · simp only [e, if_false]; rw [hm k hk]; omega
        · have := unl_lt (n := ops.size) (by omega) (mem_unl.2 ⟨hi1, hi2⟩)
          omega
      split at h
      · rename_i hw
        rw [if_pos hw]
        exact wpIn_op_mono h hnext (fun _ _ _ h => h)
      · rename_i hw
        rw [if_neg hw]
        exact ⟨fun _ _ => trivial, hnext _ _ h⟩
    · refine ⟨fun _ => ?_, fun i hi => ?_⟩
      · rw [List.drop_eq_nil_of_le (by simpa using hge)] at h; exact h
      · obtain ⟨hi1, hi2, _⟩ := of_ready hsz hi
        have := (hm i hi1).2 (by omega)
        rw [this] at hi2; cases hi2
end

/-- A REGION WHOSE ORDER IS OPEN: its first n operations yield, each by itself, what they yield in the text's order; what stands behind waits for them. -/
theorem w_draw {E : Env} {id : Nat} {ops : Array Oper} {Q : Post} {D : List Deferred} {L : List (Nat × Value)} {C : List Assn} (hm : E.P.follows .mixedOrders = true) (n : Nat) (hc : chk ops n = true)
    (h : DJ E ops D C (fun L' => RJ E ops Q (ops.toList.drop n) D L' C) (ops.toList.take n) L) : WJ E (.region id ops true) Q D L C := by
  have hc := Chk.of hc
  intro a0 w0 hf0 hs0
  refine wpIn_region_any hm ?_
  have hs1 : St E.S E.w0 C ({ w0 with drawn := w0.drawn + 1 } : World) := hs0.same (Keeps.drew no w0)
  obtain ⟨vs, hvl, hF, hall⟩ := h.out
  have hlen : (ops.toList.take n).length = n := by rw [List.length_take]; have := hc.le; simp; omega
  have hop : ∀ i o, (ops.toList.take n)[i]? = some o ↔ (i < n ∧ ops[i]? = some o) := fun i o => by
    rw [List.getElem?_take]
    by_cases hi : i < n <;> simp [hi]
  have hdlt : ∀ (j : Nat) (o : Oper) (d : Nat), (ops.toList.take n)[j]? = some o → o.dst = some d → d < E.n := fun j o d ho hd => by
    obtain ⟨d', v, h1, h2, _⟩ := hall j o ho
    rw [h1] at hd; cases hd; exact h2
  -- the state of a partial order
  have key : ∀ (fuel : Nat) (listed : Array Bool) (a : Act) (w : World), listed.size = ops.size → (unl ops.size listed).length ≤ fuel → (∀ j, listed.getD j false = true → Deps ops (fun k => listed.getD k false = true) j) →
      (∀ j, n ≤ j → listed.getD j false = false) → a.defers = D → a.tmps.size = E.n → St E.S E.w0 C w →
      (∀ t, (∀ j o, j < n → ops[j]? = some o → listed.getD j false = true → o.dst ≠ some t) → a.tmps[t]? = a0.tmps[t]?) →
      (∀ j o d, j < n → ops[j]? = some o → listed.getD j false = true → o.dst = some d → a.tmps[d]? = vs[j]?) →
      wpAnyIn (Fw E.r) 0 E.P .any ops Q fuel listed a w := by
    intro fuel
    induction fuel with
    | zero =>
      intro listed a w hsz hu hcl hlow hd hz hs ht1 ht2
      have hall' : ∀ i, i < ops.size → listed.getD i false = true := fun i hi => by
        cases hg : listed.getD i false with
        | true => rfl
        | false =>
          have := List.length_pos_of_mem (mem_unl.2 ⟨hi, hg⟩)
          omega
      have hn : n = ops.size := by
        rcases Nat.lt_or_ge n ops.size with hlt | hge
        · have h1 := hall' n hlt; have h2 := hlow n (Nat.le_refl _); rw [h1] at h2; cases h2
        · exact Nat.le_antisymm hc.le hge
      have hact : Fr E.n D (lat (ops.toList.take n) vs (ops.toList.take n).length L) a := by
        have h1 := actAt_fr (ops.toList.take n) vs (ops.toList.take n).length L a0 hdlt hf0
        refine ⟨hd, hz, fun t v hv => ?_⟩
        rw [← h1.at_ t v hv]
        by_cases hw : ∃ j o, j < n ∧ ops[j]? = some o ∧ o.dst = some t
        · obtain ⟨j, o, hj, ho, hdst⟩ := hw
          obtain ⟨d', v', e1, e2, e3, _⟩ := hall j o ((hop j o).2 ⟨hj, ho⟩)
          rw [hdst] at e1; cases e1
          rw [ht2 j o t hj ho (hall' j (by omega)) hdst, e3]
          refine (actAt_at (ops.toList.take n) vs _ a0 j o t v' (by omega) ((hop j o).2 ⟨hj, ho⟩) hdst (by rw [hf0.size]; exact e2) e3 (fun k p hk hne hp => ?_)).symm
          obtain ⟨hk', hp'⟩ := (hop k p).1 hp
          exact (hc.apart k j p o t hk' hj (Ne.symm hne) hp' ho hdst).1
        · rw [ht1 t (fun j o hj ho _ hdst => hw ⟨j, o, hj, ho, hdst⟩)]
          refine (actAt_other (ops.toList.take n) vs _ a0 t (fun j o _ ho hdst => ?_)).symm
          obtain ⟨hj, ho'⟩ := (hop j o).1 ho
          exact hw ⟨j, o, hj, ho', hdst⟩
      refine any_tail hc 0 listed a w n hsz (Nat.le_refl _) (fun i hi => ⟨fun _ => by omega, fun _ => hall' i hi⟩) hu (hF a w hact hs)
    | succ fuel ih =>
      intro listed a w hsz hu hcl hlow hd hz hs ht1 ht2
      by_cases hdone : ∀ i, i < n → listed.getD i false = true
      · have hact : Fr E.n D (lat (ops.toList.take n) vs (ops.toList.take n).length L) a := by
          have h1 := actAt_fr (ops.toList.take n) vs (ops.toList.take n).length L a0 hdlt hf0
          refine ⟨hd, hz, fun t v hv => ?_⟩
          rw [← h1.at_ t v hv]
          by_cases hw : ∃ j o, j < n ∧ ops[j]? = some o ∧ o.dst = some t
          · obtain ⟨j, o, hj, ho, hdst⟩ := hw
            obtain ⟨d', v', e1, e2, e3, _⟩ := hall j o ((hop j o).2 ⟨hj, ho⟩)
            rw [hdst] at e1; cases e1
            rw [ht2 j o t hj ho (hdone j hj) hdst, e3]
            refine (actAt_at (ops.toList.take n) vs _ a0 j o t v' (by omega) ((hop j o).2 ⟨hj, ho⟩) hdst (by rw [hf0.size]; exact e2) e3 (fun k p hk hne hp => ?_)).symm
            obtain ⟨hk', hp'⟩ := (hop k p).1 hp
            exact (hc.apart k j p o t hk' hj (Ne.symm hne) hp' ho hdst).1
          · rw [ht1 t (fun j o hj ho _ hdst => hw ⟨j, o, hj, ho, hdst⟩)]
            refine (actAt_other (ops.toList.take n) vs _ a0 t (fun j o _ ho hdst => ?_)).symm
            obtain ⟨hj, ho'⟩ := (hop j o).1 ho
            exact hw ⟨j, o, hj, ho', hdst⟩
        refine any_tail hc (fuel + 1) listed a w n hsz (Nat.le_refl _) (fun i hi => ⟨fun hl => ?_, fun hl => hdone i hl⟩) hu (hF a w hact hs)
        rcases Nat.lt_or_ge i n with h1 | h1
        · exact h1
        · rw [hlow i h1] at hl; cases hl
      · refine ⟨fun hnil => ?_, fun i hi => ?_⟩
        · exfalso
          -- the least that is not listed is ready
          have hex : ∃ i, i < n ∧ listed.getD i false = false := by
            rcases Classical.em (∃ i, i < n ∧ listed.getD i false = false) with h1 | h1
            · exact h1
            · exact absurd (fun i hi => by
                cases hg : listed.getD i false with
                | true => rfl
                | false => exact absurd ⟨i, hi, hg⟩ h1) hdone
          obtain ⟨i, hi, hmin⟩ := exists_least hex
          have hr : i ∈ Region.ready .any ops listed := ready_of hsz (by have := hc.le; omega) hi.2 (fun o e ho he hb => by
            have h1 := hc.edge i o e ho he hb
            cases hg : listed.getD e.on false with
            | true => exact hg
            | false => exact absurd (hmin e.on ⟨by omega, hg⟩) (by omega))
          rw [hnil] at hr; cases hr
        · obtain ⟨hi1, hi2, hi3⟩ := of_ready hsz hi
          have hin : i < n := by
            rcases Nat.lt_or_ge i n with h1 | h1
            · exact h1
            · exfalso
              refine hdone fun j hj => ?_
              exact ancB_closed (S := fun k => listed.getD k false = true) hcl (hc.tail i j h1 hi1 (by omega)) hi3
          obtain ⟨o, ho⟩ : ∃ o, ops[i]? = some o := ⟨ops[i], Array.getElem?_eq_getElem hi1⟩
          obtain ⟨d, v, hod, hdn, hvi, hsd⟩ := hall i o ((hop i o).2 ⟨hin, ho⟩)
          obtain ⟨hsel, hdef⟩ := hc.plain i o hin ho
          have hfr := actAt_fr (ops.toList.take n) vs i L a0 hdlt hf0
          have hlook : ∀ t ∈ o.looksAt ops, a.tmps[t]? = (actAt (ops.toList.take n) vs i a0).tmps[t]? := by
            intro t htl
            by_cases hw : ∃ j p, j < n ∧ j ≠ i ∧ ops[j]? = some p ∧ p.dst = some t
            · obtain ⟨j, p, hj, hne, hp, hpd⟩ := hw
              obtain ⟨d', v', e1, e2, e3, _⟩ := hall j p ((hop j p).2 ⟨hj, hp⟩)
              rw [hpd] at e1; cases e1
              have hap := hc.apart i j o p t hin hj hne ho hp hpd
              rcases hap.2 htl with ⟨hlt, hanc⟩ | ⟨hlt, hanc⟩
              · have hS : listed.getD j false = true := ancB_closed (S := fun k => listed.getD k false = true) hcl hanc hi3
                rw [ht2 j p t hj hp hS hpd, e3]
                refine (actAt_at (ops.toList.take n) vs i a0 j p t v' hlt ((hop j p).2 ⟨hj, hp⟩) hpd (by rw [hf0.size]; exact e2) e3 (fun k q hk hne' hq => ?_)).symm
                obtain ⟨hk', hq'⟩ := (hop k q).1 hq
                exact (hc.apart k j q p t hk' hj (Ne.symm hne') hq' hp hpd).1
              · have hnS : listed.getD j false = false := by
                  cases hg : listed.getD j false with
                  | false => rfl
                  | true =>
                    have := ancB_closed (S := fun k => listed.getD k false = true) hcl hanc (hcl j hg)
                    rw [this] at hi2; cases hi2
                refine (ht1 t (fun k q hk hq hkl hqd => ?_)).trans (actAt_other (ops.toList.take n) vs i a0 t (fun k q hk hq hqd => ?_)).symm
                · by_cases e : k = j
                  · subst e; rw [hkl] at hnS; cases hnS
                  · exact (hc.apart k j q p t hk hj (Ne.symm e) hq hp hpd).1 hqd
                · obtain ⟨hk', hq'⟩ := (hop k q).1 hq
                  exact (hc.apart k j q p t hk' hj (by omega) hq' hp hpd).1 hqd
            · refine (ht1 t (fun k q hk hq hkl hqd => ?_)).trans (actAt_other (ops.toList.take n) vs i a0 t (fun k q hk hq hqd => ?_)).symm
              · by_cases e : k = i
                · subst e; rw [hkl] at hi2; cases hi2
                · exact hw ⟨k, q, hk, e, hq, hqd⟩
              · obtain ⟨hk', hq'⟩ := (hop k q).1 hq
                exact hw ⟨k, q, hk', by omega, hq', hqd⟩
          unfold wpOpIn
          simp only [ho]
          refine sd_swap hsd hod hdn hsel hdef hfr hlook hs (fun w' hs' => ?_)
          have hset : ∀ j, (listed.setIfInBounds i true).getD j false = if j = i then true else listed.getD j false := fun j => getD_set (by omega) false
          refine ih _ _ w' (by simpa using hsz) (by have := unl_lt (n := ops.size) (i := i) (listed := listed) (by omega) (mem_unl.2 ⟨hi1, hi2⟩); omega) ?_ ?_ hd (by simp [Act.put, hz]) hs' ?_ ?_
          · intro j hj o' e ho' he hb
            rw [hset] at hj ⊢
            by_cases e1 : e.on = i
            · simp [e1]
            · simp only [e1, if_false]
              by_cases e2 : j = i
              · subst e2; exact hi3 o' e ho' he hb
              · simp only [e2, if_false] at hj; exact hcl j hj o' e ho' he hb
          · intro j hj
            rw [hset, if_neg (by omega)]
            exact hlow j hj
          · intro t ht
            have hti : d ≠ t := fun e => by subst e; exact ht i o hin ho (by rw [hset]; simp) hod
            simp only [Act.put]
            rw [Array.getElem?_setIfInBounds_ne hti]
            refine ht1 t (fun j p hj hp hl => ht j p hj hp (by rw [hset]; split <;> simp [hl]))
          · intro j p d' hj hp hl hpd
            rw [hset] at hl
            simp only [Act.put]
            by_cases e : j = i
            · subst e
              rw [ho] at hp; cases hp
              rw [hod] at hpd; cases hpd
              rw [Array.getElem?_setIfInBounds_self_of_lt (by rw [hz]; exact hdn), hvi]
            · simp only [e, if_false] at hl
              have := (hc.apart i j o p d' hin hj e ho hp hpd).1
              rw [Array.getElem?_setIfInBounds_ne (fun h => this (by rw [hod, h]))]
              exact ht2 j p d' hj hp hl hpd
  refine key ops.size (Array.replicate ops.size false) a0 _ (by simp) ?_ ?_ ?_ hf0.defers hf0.size hs1 (fun _ _ => rfl) ?_
  · unfold unl; exact Nat.le_trans (List.length_filter_le _ _) (by simp)
  · intro j hj
    simp only [Array.getD_eq_getD_getElem?, Array.getElem?_replicate] at hj
    split at hj <;> simp at hj
  · intro j _
    simp only [Array.getD_eq_getD_getElem?, Array.getElem?_replicate]
    split <;> rfl
  · intro j o d _ _ hl
    simp only [Array.getD_eq_getD_getElem?, Array.getElem?_replicate] at hl
    split at hl <;> simp at hl
theorem d_end {E : Env} {ops : Array Oper} {Q : Post} {rest : List Oper} {D : List Deferred} {L : List (Nat × Value)} {C : List Assn} (h : RJ E ops Q rest D L C) : DJ E ops D C (fun L' => RJ E ops Q rest D L' C) [] L := h
theorem SD.sub {E : Env} {ops : Array Oper} {o : Oper} {D : List Deferred} {L L' : List (Nat × Value)} {C : List Assn} {v : Value} (hs : Sub L L') (h : SD E ops o D L' C v) : SD E ops o D L C v := fun a w hf hst => h a w (hf.sub hs) hst
theorem Sub.head {L L' : List (Nat × Value)} (hs : Sub L L') (d : Nat) (v : Value) : Sub ((d, v) :: L) ((d, v) :: L') := fun t u hu => by
  by_cases e : t = d
  · subst e; simpa [List.lookup] using hu
  · have he : (t == d) = false := by simpa using e
    simp only [List.lookup, he] at hu ⊢; exact hs t u hu
theorem DJ.sub {E : Env} {ops : Array Oper} {Q : Post} {rest : List Oper} {D : List Deferred} {C : List Assn} : ∀ {os : List Oper} {L L' : List (Nat × Value)}, Sub L L' → DJ E ops D C (fun L' => RJ E ops Q rest D L' C) os L' → DJ E ops D C (fun L' => RJ E ops Q rest D L' C) os L := by
  intro os
  induction os with
  | nil => intro L L' hs h a w hf hst; exact h a w (hf.sub hs) hst
  | cons o os ih =>
    intro L L' hs h
    obtain ⟨d, v, ho, hd, hsd, hk⟩ := h
    exact ⟨d, v, ho, hd, hsd.sub hs, ih (hs.head d v) hk⟩
theorem d_bool {E : Env} {ops : Array Oper} {Q : Post} {rest : List Oper} {D : List Deferred} {C : List Assn} {os : List Oper} {L : List (Nat × Value)} {t : Nat} {b : Bool} (h : L.lookup t = some (.bool b))
    (h1 : b = true → DJ E ops D C (fun L' => RJ E ops Q rest D L' C) os ((t, .bool true) :: L)) (h2 : b = false → DJ E ops D C (fun L' => RJ E ops Q rest D L' C) os ((t, .bool false) :: L)) : DJ E ops D C (fun L' => RJ E ops Q rest D L' C) os L := by
  have hsub : ∀ v : Bool, b = v → Sub L ((t, .bool v) :: L) := fun v hv => Sub.cons (hv ▸ h) (fun _ _ h => h)
  cases b
  · exact DJ.sub (hsub _ rfl) (h2 rfl)
  · exact DJ.sub (hsub _ rfl) (h1 rfl)
end Go.Proofs.Ytaehngpnlkokkaa
