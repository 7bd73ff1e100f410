/-
  A region whose order is open: what is left yields alone, and goes in the text's order.
  No condition: the theorems hold over whatever program.
-/
import Derived.Test.YtaehngpnlkokkaaDrawN
namespace Go.Proofs.Ytaehngpnlkokkaa
open Go.RowKit
set_option linter.unusedVariables false
def chkPM (m : Array Nat) (ops : Array Oper) (rem : List Nat) : Bool :=
  (List.range rem.length).all fun p => match (rem[p]?).bind fun i => (ops[i]?).map fun o => (i, o) with
    | none => false
    | some (i, o) => o.dst.isSome && plainOp o &&
      ((List.range rem.length).all fun q => q == p || match (rem[q]?).bind fun j => (ops[j]?).map fun o => (j, o) with
        | none => false
        | some (j, r) => i != j && match r.dst with
          | none => false
          | some d => o.dst != some d && (!(o.looksAt ops).contains d || (if q < p then ancB m j i else ancB m i j)))
def chkP (ops : Array Oper) (rem : List Nat) : Bool := chkPM (msk ops) ops rem
structure ChkP (ops : Array Oper) (rem : List Nat) : Prop where
  lt : ∀ i ∈ rem, i < ops.size
  plain : ∀ (p i : Nat) (o : Oper), rem[p]? = some i → ops[i]? = some o → (∀ cs b, o.op ≠ .select cs b) ∧ (∀ c, o.op ≠ .defer c)
  apart : ∀ (p q i j : Nat) (o r : Oper) (d : Nat), rem[p]? = some i → rem[q]? = some j → q ≠ p → ops[i]? = some o → ops[j]? = some r → r.dst = some d → i ≠ j ∧ o.dst ≠ some d ∧ (d ∈ o.looksAt ops → (q < p ∧ ancB (msk ops) j i = true) ∨ (p < q ∧ ancB (msk ops) i j = true))
theorem ChkP.of {ops : Array Oper} {rem : List Nat} (h : chkP ops rem = true) : ChkP ops rem := by
  simp only [chkP, chkPM] at h
  rw [List.all_eq_true] at h
  refine ⟨fun i hi => ?_, fun p i o hp ho => ?_, ?_⟩
  · obtain ⟨p, hp⟩ := List.mem_iff_getElem?.1 hi
    have := h p (by simpa using (List.getElem?_eq_some_iff.1 hp).1)
    simp only [hp, Option.bind_some] at this
    cases ho : ops[i]? with
    | none => simp [ho] at this
    | some o => exact (Array.getElem?_eq_some_iff.1 ho).1
  · have := h p (by simpa using (List.getElem?_eq_some_iff.1 hp).1)
    simp only [hp, ho, Option.bind_some, Option.map_some, Bool.and_eq_true] at this
    have := this.1.2
    refine ⟨fun cs b hh => ?_, fun c hh => ?_⟩ <;> simp [plainOp, hh] at this
  · intro p q i j o r d hp hq hne ho hr hd
    have := h p (by simpa using (List.getElem?_eq_some_iff.1 hp).1)
    simp only [hp, ho, Option.bind_some, Option.map_some, Bool.and_eq_true] at this
    have := this.2
    rw [List.all_eq_true] at this
    have := this q (by simpa using (List.getElem?_eq_some_iff.1 hq).1)
    simp only [hq, hr, hd, Option.bind_some, Option.map_some, Bool.or_eq_true, Bool.and_eq_true, beq_iff_eq, bne_iff_ne, ne_eq] at this
    rcases this with h | ⟨h7, h8, h9⟩
    · exact absurd h hne
    · refine ⟨h7, h8, fun hm => ?_⟩
      rcases h9 with h9 | h9
      · simp [hm] at h9
      · by_cases hlt : q < p
        · rw [if_pos hlt] at h9; exact .inl ⟨hlt, h9⟩
        · rw [if_neg hlt] at h9; exact .inr ⟨by omega, h9⟩
def dsts (ops : Array Oper) (is : List Nat) : List Nat := is.filterMap fun i => (ops[i]?).bind (·.dst)
def clearL (L : List (Nat × Value)) (ds : List Nat) : List (Nat × Value) := L.filter fun p => !ds.any (Nat.beq p.1)
theorem lookup_clear {L : List (Nat × Value)} {ds : List Nat} {t : Nat} {v : Value} (h : (clearL L ds).lookup t = some v) : L.lookup t = some v ∧ t ∉ ds := by
  induction L with
  | nil => simp [clearL] at h
  | cons p L ih =>
    obtain ⟨u, x⟩ := p
    unfold clearL at h ih
    rw [List.filter_cons] at h
    by_cases e : t = u
    · subst e
      split at h
      · rename_i hu
        simp [List.lookup] at h ⊢
        refine ⟨h, fun hm => ?_⟩
        simp only [Bool.not_eq_true', List.any_eq_false] at hu
        exact hu t hm (by simp)
      · exfalso
        rename_i hu
        have := (ih h).2
        simp only [Bool.not_eq_true', Bool.not_eq_false, List.any_eq_true] at hu
        obtain ⟨d, hd, he⟩ := hu
        have : t = d := Nat.eq_of_beq_eq_true he
        subst this
        exact this hd
    · have hne : (t == u) = false := by simpa using e
      split at h
      · simp only [List.lookup, hne] at h ⊢
        exact ih h
      · simp only [List.lookup, hne]
        exact ih h
set_option maxHeartbeats 1000000 in
/-- what is left yields alone -/
theorem n_pure {E : Env} {ops : Array Oper} {Q : Post} {D : List Deferred} {C' C1 C : List Assn} {tb rem : List Nat} {L : List (Nat × Value)} {n : Nat} (ds : List Nat) (hc : chkP ops rem = true) (hds : dsts ops rem = ds) (hn : rem.length = n) (L0 : List (Nat × Value)) (hL : clearL L ds = L0) (htb : (rem.all fun i => !tb.contains i) = true)
    (hC : ∀ w, St E.S E.w0 C w → St E.S E.w0 C' w) (h : DJ E ops D C (fun L' => RJ E ops Q [] D L' C) (pickL ops rem) L0) : TN E ops D C' C1 (fun L C => KJ E (Q .normal) D L C) tb n rem L C := by
  have hc := ChkP.of hc
  obtain ⟨vs, hvl, hF, hall⟩ := DJ.out _ _ h
  have hpl := pickL_length hc.lt
  have hg : ∀ (p i : Nat) (o : Oper), rem[p]? = some i → ops[i]? = some o → (pickL ops rem)[p]? = some o := fun p i o hp ho => by rw [pickL_get hc.lt, hp]; exact ho
  have hfg : ∀ (p : Nat) (o : Oper), (pickL ops rem)[p]? = some o → ∃ i, rem[p]? = some i ∧ ops[i]? = some o := fun p o h => by
    rw [pickL_get hc.lt] at h
    cases hp : rem[p]? with
    | none => simp [hp] at h
    | some i => exact ⟨i, rfl, by simpa [hp] using h⟩
  have hdlt : ∀ (j : Nat) (o : Oper) (d : Nat), (pickL ops rem)[j]? = some o → o.dst = some d → d < E.n := fun j o d ho hd => by
    obtain ⟨d', v, h1, h2, _⟩ := hall j o ho
    rw [h1] at hd; cases hd; exact h2
  have hclear : ∀ (t : Nat) (v : Value), L0.lookup t = some v → L.lookup t = some v ∧ ∀ (p i : Nat) (o : Oper), rem[p]? = some i → ops[i]? = some o → o.dst ≠ some t := fun t v hv => by
    rw [← hL] at hv
    refine ⟨(lookup_clear hv).1, fun p i o hp ho hd => (lookup_clear hv).2 ?_⟩
    rw [← hds]
    exact List.mem_filterMap.2 ⟨i, List.mem_of_getElem? hp, by simp [ho, hd]⟩
  have hnd : rem.Nodup := by
    rw [List.nodup_iff_pairwise_ne, List.pairwise_iff_getElem]
    intro q p hq hp hlt
    obtain ⟨o, ho⟩ : ∃ o, ops[rem[p]]? = some o := ⟨_, Array.getElem?_eq_getElem (hc.lt _ (List.getElem_mem hp))⟩
    obtain ⟨r, hr⟩ : ∃ r, ops[rem[q]]? = some r := ⟨_, Array.getElem?_eq_getElem (hc.lt _ (List.getElem_mem hq))⟩
    obtain ⟨d, v, h1, _⟩ := hall q r (hg q _ r (List.getElem?_eq_getElem hq) hr)
    exact (fun e => (hc.apart p q _ _ o r d (List.getElem?_eq_getElem hp) (List.getElem?_eq_getElem hq) (by omega) ho hr h1).1 e.symm)
  -- the frame that a state of the order has
  have key : ∀ (n : Nat) (rem' : List Nat) (L' : List (Nat × Value)), rem'.length = n → rem'.Nodup → (∀ i ∈ rem', i ∈ rem) → (∀ i j, i ∈ rem' → j ∈ rem → j ∉ rem' → ancB (msk ops) i j = false) →
      (∀ t, (∀ (p i : Nat) (o : Oper), rem[p]? = some i → ops[i]? = some o → o.dst ≠ some t) → L'.lookup t = L.lookup t) →
      (∀ (p i : Nat) (o : Oper) (d : Nat), rem[p]? = some i → ops[i]? = some o → o.dst = some d → i ∉ rem' → L'.lookup d = vs[p]?) →
      TN E ops D C' C1 (fun L C => KJ E (Q .normal) D L C) tb n rem' L' C := by
    intro n
    induction n with
    | zero =>
      intro rem' L' hl _ hsub _ hold hdone
      have hnil : rem' = [] := List.length_eq_zero_iff.1 hl
      subst hnil
      intro a w hf hs
      have hfL : Fr E.n D L0 a := ⟨hf.defers, hf.size, fun t v hv => hf.at_ t v (by rw [hold t (hclear t v hv).2]; exact (hclear t v hv).1)⟩
      have hfull := actAt_fr (pickL ops rem) vs (pickL ops rem).length L0 a hdlt hfL
      refine hF a w ⟨hf.defers, hf.size, fun t v hv => ?_⟩ hs
      have h1 := hfull.at_ t v hv
      rw [← h1]
      by_cases ht : ∀ (p i : Nat) (o : Oper), rem[p]? = some i → ops[i]? = some o → o.dst ≠ some t
      · exact (actAt_other _ vs _ a t (fun m u _ hu hud => by obtain ⟨x, hx1, hx2⟩ := hfg m u hu; exact ht m x u hx1 hx2 hud)).symm
      · have : ∃ (p i : Nat) (o : Oper), rem[p]? = some i ∧ ops[i]? = some o ∧ o.dst = some t := by
          refine Classical.byContradiction fun hh => ht fun p i o hp ho hd => hh ⟨p, i, o, hp, ho, hd⟩
        obtain ⟨p, i, o, hp, ho, hd⟩ := this
        obtain ⟨d', v', e1, e2, e3, _⟩ := hall p o (hg p i o hp ho)
        rw [hd] at e1; cases e1
        rw [hf.at_ t v' (by rw [hdone p i o t hp ho hd (by simp), e3])]
        refine (actAt_at _ vs _ a p o t v' (by rw [hpl]; exact (List.getElem?_eq_some_iff.1 hp).1) (hg p i o hp ho) hd (by rw [hf.size]; exact e2) e3 (fun m u hm hne hu => ?_)).symm
        obtain ⟨x, hx1, hx2⟩ := hfg m u hu
        exact (hc.apart m p x i u o t hx1 hp (Ne.symm hne) hx2 ho hd).2.1
    | succ n ih =>
      intro rem' L' hl hnd' hsub hcl hold hdone i hi o ho K hK a w hf hs
      rw [List.mem_filter, List.all_eq_true] at hi
      obtain ⟨hir, hmin⟩ := hi
      obtain ⟨p, hp⟩ := List.mem_iff_getElem?.1 (hsub i hir)
      obtain ⟨d, v, hod, hdn, hvi, hsd⟩ := hall p o (hg p i o hp ho)
      obtain ⟨hsel, hdef⟩ := hc.plain p i o hp ho
      have hfL : Fr E.n D L0 a := ⟨hf.defers, hf.size, fun t v hv => hf.at_ t v (by rw [hold t (hclear t v hv).2]; exact (hclear t v hv).1)⟩
      have hfrp := actAt_fr (pickL ops rem) vs p L0 a hdlt hfL
      have hlook : ∀ t ∈ o.looksAt ops, a.tmps[t]? = (actAt (pickL ops rem) vs p a).tmps[t]? := by
        intro t htl
        by_cases hw : ∃ (q j : Nat) (r : Oper), rem[q]? = some j ∧ q ≠ p ∧ ops[j]? = some r ∧ r.dst = some t
        · obtain ⟨q, j, r, hq, hne, hr, hrd⟩ := hw
          obtain ⟨d', v', e1, e2, e3, _⟩ := hall q r (hg q j r hq hr)
          rw [hrd] at e1; cases e1
          have hap := hc.apart p q i j o r t hp hq hne ho hr hrd
          rcases hap.2.2 htl with ⟨hlt, ha⟩ | ⟨hlt, ha⟩
          · have hj : j ∉ rem' := fun hj => by have := hmin j hj; rw [ha] at this; cases this
            rw [hf.at_ t v' (by rw [hdone q j r t hq hr hrd hj, e3])]
            refine (actAt_at (pickL ops rem) vs p a q r t v' hlt (hg q j r hq hr) hrd (by rw [hf.size]; exact e2) e3 (fun m u hm hne' hu => ?_)).symm
            obtain ⟨x, hx1, hx2⟩ := hfg m u hu
            exact (hc.apart m q x j u r t hx1 hq (Ne.symm hne') hx2 hr hrd).2.1
          · refine (actAt_other (pickL ops rem) vs p a t (fun m u hm hu hud => ?_)).symm
            obtain ⟨x, hx1, hx2⟩ := hfg m u hu
            exact (hc.apart m q x j u r t hx1 hq (by omega) hx2 hr hrd).2.1 hud
        · refine (actAt_other (pickL ops rem) vs p a t (fun m u hm hu hud => ?_)).symm
          obtain ⟨x, hx1, hx2⟩ := hfg m u hu
          exact hw ⟨m, x, u, hx1, by omega, hx2, hud⟩
      have hset : rem'.filter (· != i) = rem'.erase i := (hnd'.erase_eq_filter i).symm
      have hnext : TN E ops D C' C1 (fun L C => KJ E (Q .normal) D L C) tb n (rem'.filter (· != i)) ((d, v) :: L') C := by
        refine ih _ _ (by rw [hset, List.length_erase_of_mem hir, hl]; rfl) (hnd'.filter _) (fun j hj => hsub j (List.mem_filter.1 hj).1) (fun x y hx hy hny => ?_) (fun t ht => ?_) (fun q j r d' hq hr hrd hj => ?_)
        · have hx' := (List.mem_filter.1 hx).1
          by_cases e : y = i
          · subst e
            have := hmin x hx'
            simpa using this
          · exact hcl x y hx' hy fun hh => hny (List.mem_filter.2 ⟨hh, by simpa using e⟩)
        · have hne : (t == d) = false := by simpa using fun e => ht p i o hp ho (by rw [hod, e])
          simp only [List.lookup, hne]
          exact hold t ht
        · by_cases e : q = p
          · subst e
            rw [hp] at hq; cases hq
            rw [ho] at hr; cases hr
            rw [hod] at hrd; cases hrd
            simp [List.lookup, hvi]
          · have h9 := hc.apart p q i j o r d' hp hq e ho hr hrd
            have hne : (d' == d) = false := by simpa using fun e => h9.2.1 (by rw [hod, e])
            simp only [List.lookup, hne]
            refine hdone q j r d' hq hr hrd fun hh => hj (List.mem_filter.2 ⟨hh, by simpa using fun e => h9.1 e.symm⟩)
      have htbi : tb.contains i = false := by
        have := (List.all_eq_true.1 htb) i (hsub i hir)
        simpa using this
      have hgo := fun w' (hk : Keeps no w w') => hK ((d, v) :: L') C hC (fun hh => by rw [htbi] at hh; cases hh) hnext (a.put (some d) v) w' (hf.put hdn v) (hs.same hk)
      have := sd_swapk hsd hod hdn hsel hdef hfrp hlook (w := w) hs (N := K) (Q := NQ K) hgo
      unfold wpL
      by_cases hw : Region.wanted o (yielded ops a.tmps) = true
      · rw [if_pos hw] at this ⊢
        refine wpIn_op_mono this (fun a' w' hh => hh) (fun _ _ _ hF => hF)
      · rw [if_neg hw] at this ⊢
        exact this.2
  refine key n rem L hn hnd (fun _ h => h) (fun i j _ h1 h2 => absurd h1 h2) (fun _ _ => rfl) (fun p i o d hp ho hd hni => absurd (List.mem_of_getElem? hp) hni)
end Go.Proofs.Ytaehngpnlkokkaa
