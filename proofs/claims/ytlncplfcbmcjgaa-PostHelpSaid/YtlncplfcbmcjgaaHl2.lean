/-
  The statement postHelp_said, part 2 of 5: DrawN, Pure, Fm, It, Sort, Ptr, Short, Drop, Spot, Post, MapK, Called, Grow, Nest, Queue, Bits, RowsP, Meets, Answers, Best, ExP, Upto, Idx, Truth, Heard, Bools, Fix.
  Conditions: none.
-/
import Derived.Test.YtlncplfcbmcjgaaHl1
import Derived.Laws.OwnMore
import Derived.KernelRfl
namespace Go.Proofs.Ytlncplfcbmcjgaa
section
open Go.RowKit
set_option linter.unusedVariables false
def chkNM (m : Array Nat) (ops : Array Oper) (free T : List Nat) : Bool :=
  (free.all (Nat.blt · ops.size)) && (T.all (Nat.blt · ops.size)) && ((List.range ops.size).all fun i => free.contains i || T.contains i) && (T.all fun i => !free.contains i) &&
  ((List.range ops.size).all fun i => match ops[i]? with
    | none => false
    | some o => plainOp o && o.after.toList.all fun e => !Region.binds .any e || Nat.blt e.on i) &&
  ((List.range free.length).all fun p => match (free[p]?).bind fun i => (ops[i]?).map fun o => (i, o) with
    | none => false
    | some (i, o) => o.dst.isSome &&
      ((List.range free.length).all fun q => q == p || match (free[q]?).bind fun j => (ops[j]?).map fun o => (j, o) with
        | none => false
        | some (j, r) => match r.dst with
          | none => false
          | some d => o.dst != some d && (!(o.looksAt ops).contains d || (if q < p then ancB m j i else ancB m i j))) &&
      (T.all fun j => match ops[j]? with
        | none => false
        | some r => r.dst != o.dst && (match r.dst with | none => true | some d => !(o.looksAt ops).contains d || ancB m i j) && (match o.dst with | none => true | some d => !(r.looksAt ops).contains d || ancB m i j))) &&
  ((List.range T.length).all fun p => (List.range p).all fun q => match T[p]?, T[q]? with
    | some i, some j => i != j
    | _, _ => false)
def chkNNM (m : Array Nat) (ops : Array Oper) (free T : List Nat) (fe : List Bool) (tb : List Nat) : Bool :=
  chkNM m ops free T && (T.all fun j => tb.contains j || (List.range free.length).all fun p => !(fe[p]?).getD false || match free[p]? with
    | some i => ancB m i j
    | _ => false)
def chkNN (ops : Array Oper) (free T : List Nat) (fe : List Bool) (tb : List Nat) : Bool := chkNNM (msk ops) ops free T fe tb
def chkN (ops : Array Oper) (free T : List Nat) : Bool := chkNM (msk ops) ops free T
theorem chkN_out {ops : Array Oper} {free T : List Nat} {fe : List Bool} {tb : List Nat} (h : chkNN ops free T fe tb = true) : chkN ops free T = true ∧ ∀ (p i j : Nat), free[p]? = some i → j ∈ T → (fe[p]?).getD false = true → tb.contains j = true ∨ ancB (msk ops) i j = true := by
  simp only [chkNN, chkNNM, Bool.and_eq_true] at h
  refine ⟨h.1, fun p i j hp hj hf => ?_⟩
  have h2 := h.2
  rw [List.all_eq_true] at h2
  have h3 := h2 j hj
  rw [Bool.or_eq_true] at h3
  rcases h3 with h3 | h3
  · exact .inl h3
  · rw [List.all_eq_true] at h3
    have h4 := h3 p (by simpa using (List.getElem?_eq_some_iff.1 hp).1)
    simp only [hp, hf, Bool.not_true, Bool.false_or] at h4
    exact .inr h4
structure ChkN (ops : Array Oper) (free T : List Nat) : Prop where
  fl : ∀ i ∈ free, i < ops.size
  tl : ∀ i ∈ T, i < ops.size
  cover : ∀ i, i < ops.size → i ∈ free ∨ i ∈ T
  disj : ∀ i ∈ T, i ∉ free
  plain : ∀ (i : Nat) (o : Oper), ops[i]? = some o → (∀ cs b, o.op ≠ .select cs b) ∧ (∀ c, o.op ≠ .defer c)
  edge : ∀ (i : Nat) (o : Oper) (e : Edge), ops[i]? = some o → e ∈ o.after → Region.binds .any e = true → e.on < i
  apart : ∀ (p q i j : Nat) (o r : Oper) (d : Nat), free[p]? = some i → free[q]? = some j → q ≠ p → ops[i]? = some o → ops[j]? = some r → r.dst = some d → o.dst ≠ some d ∧ (d ∈ o.looksAt ops → (q < p ∧ ancB (msk ops) j i = true) ∨ (p < q ∧ ancB (msk ops) i j = true))
  ft : ∀ (i j : Nat) (o r : Oper), i ∈ free → j ∈ T → ops[i]? = some o → ops[j]? = some r → r.dst ≠ o.dst ∧ (∀ d, r.dst = some d → d ∈ o.looksAt ops → ancB (msk ops) i j = true) ∧ (∀ d, o.dst = some d → d ∈ r.looksAt ops → ancB (msk ops) i j = true)
  nodup : T.Nodup
theorem ChkN.of {ops : Array Oper} {free T : List Nat} (h : chkN ops free T = true) : ChkN ops free T := by
  simp only [chkN, chkNM, Bool.and_eq_true] at h
  obtain ⟨⟨⟨⟨⟨⟨h1, h2⟩, h3⟩, h4⟩, h5⟩, h6⟩, h7⟩ := h
  rw [List.all_eq_true] at h1 h2 h3 h4 h5 h6 h7
  have hfl : ∀ i ∈ free, i < ops.size := fun i hi => by have := h1 i hi; rwa [Nat.blt_eq] at this
  have htl : ∀ i ∈ T, i < ops.size := fun i hi => by have := h2 i hi; rwa [Nat.blt_eq] at this
  refine ⟨hfl, htl, fun i hi => ?_, fun i hi => ?_, fun i o ho => ?_, fun i o e ho he hb => ?_, ?_, ?_, ?_⟩
  · have := h3 i (by simpa using hi)
    simpa using this
  · have := h4 i hi
    simpa using this
  · have hi : i < ops.size := (Array.getElem?_eq_some_iff.1 ho).1
    have := h5 i (by simpa using hi)
    simp only [ho, Bool.and_eq_true] at this
    have := this.1
    refine ⟨fun cs b hh => ?_, fun c hh => ?_⟩ <;> simp [plainOp, hh] at this
  · have hi : i < ops.size := (Array.getElem?_eq_some_iff.1 ho).1
    have := h5 i (by simpa using hi)
    simp only [ho, Bool.and_eq_true] at this
    have := this.2
    rw [List.all_eq_true] at this
    have := this e (by simpa using he)
    rw [hb] at this
    simpa using this
  · intro p q i j o r d hp hq hne ho hr hd
    have := h6 p (by simpa using (List.getElem?_eq_some_iff.1 hp).1)
    simp only [hp, ho, Option.bind_some, Option.map_some, Bool.and_eq_true] at this
    have := this.1.2
    rw [List.all_eq_true] at this
    have := this q (by simpa using (List.getElem?_eq_some_iff.1 hq).1)
    simp only [hq, hr, hd, Option.bind_some, Option.map_some, Bool.or_eq_true, Bool.and_eq_true, beq_iff_eq, bne_iff_ne, ne_eq] at this
    rcases this with h | ⟨h8, h9⟩
    · exact absurd h hne
    · refine ⟨h8, fun hm => ?_⟩
      rcases h9 with h9 | h9
      · simp [hm] at h9
      · by_cases hlt : q < p
        · rw [if_pos hlt] at h9; exact .inl ⟨hlt, h9⟩
        · rw [if_neg hlt] at h9; exact .inr ⟨by omega, h9⟩
  · intro i j o r hi hj ho hr
    obtain ⟨p, hp⟩ := List.mem_iff_getElem?.1 hi
    have := h6 p (by simpa using (List.getElem?_eq_some_iff.1 hp).1)
    simp only [hp, ho, Option.bind_some, Option.map_some, Bool.and_eq_true] at this
    have := this.2
    rw [List.all_eq_true] at this
    have := this j hj
    simp only [hr, Bool.and_eq_true, bne_iff_ne, ne_eq] at this
    refine ⟨this.1.1, fun d hd hm => ?_, fun d hd hm => ?_⟩
    · have := this.1.2
      simp [hd, hm] at this; exact this
    · have := this.2
      simp [hd, hm] at this; exact this
  · rw [List.nodup_iff_pairwise_ne, List.pairwise_iff_getElem]
    intro q p hq hp hlt
    have := h7 p (by simpa using hp)
    rw [List.all_eq_true] at this
    have := this q (by simpa using hlt)
    simp only [List.getElem?_eq_getElem hp, List.getElem?_eq_getElem hq, bne_iff_ne, ne_eq] at this
    exact fun e => this e.symm
/-- the others, in whatever order the edges leave open; the part C' of the state stands throughout, the part C1 where the list tb says -/
def TN (E : Env) (ops : Array Oper) (D : List Deferred) (C' C1 : List Assn) (F : List (Nat × Value) → List Assn → Prop) (tb : List Nat) : Nat → List Nat → List (Nat × Value) → List Assn → Prop
  | 0, _, L, C => F L C
  | n + 1, rem, L, C => ∀ i ∈ rem.filter (fun i => rem.all fun j => !ancB (msk ops) j i), ∀ o, ops[i]? = some o → ∀ K : Act → World → Prop, (∀ L' C'', (∀ w, St E.S E.w0 C'' w → St E.S E.w0 C' w) → (tb.contains i = true → ∀ w, St E.S E.w0 C'' w → St E.S E.w0 C1 w) → TN E ops D C' C1 F tb n (rem.filter (· != i)) L' C'' → KJ E K D L' C'') → RJ E ops (NQ K) [o] D L C
set_option maxHeartbeats 1000000 in
theorem w_drawN {E : Env} {id : Nat} {ops : Array Oper} {Q : Post} {D : List Deferred} {L : List (Nat × Value)} {C : List Assn} (hm : E.P.follows .mixedOrders = true) (free T : List Nat) (fe : List Bool) (tb : List Nat) (C' C1 : List Assn) (hc : chkNN ops free T fe tb = true)
    (hC : ∀ w, St E.S E.w0 C w → St E.S E.w0 C' w) (hC1 : ∀ w, St E.S E.w0 C w → St E.S E.w0 C1 w)
    (h : DJ4 E ops D C' C1 (fun L' => TN E ops D C' C1 (fun L C => KJ E (Q .normal) D L C) tb T.length T L' C) fe (pickL ops free) L) : WJ E (.region id ops true) Q D L C := by
  obtain ⟨hc, hc4⟩ := chkN_out hc
  have hc := ChkN.of hc
  intro a0 w0 hf0 hs0
  refine wpIn_region_any hm ?_
  have hs1 : St E.S E.w0 C ({ w0 with drawn := w0.drawn + 1 } : World) := hs0.same (Keeps.drew no w0)
  obtain ⟨vs, hvl, hF, hall⟩ := DJ4.out _ _ _ h
  have hfl := pickL_length hc.fl
  have hgf : ∀ (p : Nat) (i : Nat) (o : Oper), free[p]? = some i → ops[i]? = some o → (pickL ops free)[p]? = some o := fun p i o hp ho => by rw [pickL_get hc.fl, hp]; exact ho
  have hfg : ∀ (p : Nat) (o : Oper), (pickL ops free)[p]? = some o → ∃ i, free[p]? = some i ∧ ops[i]? = some o := fun p o h => by
    rw [pickL_get hc.fl] at h
    cases hp : free[p]? with
    | none => simp [hp] at h
    | some i => exact ⟨i, rfl, by simpa [hp] using h⟩
  have hdlt : ∀ (j : Nat) (o : Oper) (d : Nat), (pickL ops free)[j]? = some o → o.dst = some d → d < E.n := fun j o d ho hd => by
    obtain ⟨d', v, h1, h2, _⟩ := hall j o ho
    rw [h1] at hd; cases hd; exact h2
  -- all is listed
  have done : ∀ (listed : Array Bool) (a : Act) (w : World) (rem : List Nat) (Lk : List (Nat × Value)) (Ck : List Assn) (af : Act), (∀ i, i < ops.size → listed.getD i false = true) →
      (∀ i ∈ T, (listed.getD i false = true ↔ i ∉ rem)) → (∀ i ∈ rem, i ∈ T) → rem.Nodup → a.defers = D → a.tmps.size = E.n →
      TN E ops D C' C1 (fun L C => KJ E (Q .normal) D L C) tb rem.length rem Lk Ck → Fr E.n D Lk af → St E.S E.w0 Ck w →
      (∀ t, (∀ (p i : Nat) (o : Oper), free[p]? = some i → ops[i]? = some o → o.dst ≠ some t) → af.tmps[t]? = a.tmps[t]?) →
      (∀ (p i : Nat) (o : Oper) (d : Nat), free[p]? = some i → ops[i]? = some o → o.dst = some d → af.tmps[d]? = vs[p]? ∧ (listed.getD i false = true → a.tmps[d]? = vs[p]?)) → Q .normal a w := by
    intro listed a w rem Lk Ck af hal hTk hrT hrn hd hz hT hfr hst hslot hfree
    have hk : rem = [] := by
      rw [List.eq_nil_iff_forall_not_mem]
      intro i hi
      exact (hTk i (hrT i hi)).1 (hal i (hc.tl i (hrT i hi))) hi
    subst hk
    have hT : KJ E (Q .normal) D Lk Ck := hT
    refine hT a w ⟨hd, hz, fun t v hv => ?_⟩ hst
    rw [← hfr.at_ t v hv]
    by_cases hw : ∃ (p i : Nat) (o : Oper), free[p]? = some i ∧ ops[i]? = some o ∧ o.dst = some t
    · obtain ⟨p, i, o, hp, ho, hdst⟩ := hw
      obtain ⟨e1, e2⟩ := hfree p i o t hp ho hdst
      rw [e1, e2 (hal i (hc.fl i (List.mem_of_getElem? hp)))]
    · exact (hslot t (fun p i o hp ho hdst => hw ⟨p, i, o, hp, ho, hdst⟩)).symm
  have key : ∀ (fuel : Nat) (listed : Array Bool) (a : Act) (w : World) (rem : List Nat) (Lk : List (Nat × Value)) (Ck : List Assn) (af : Act), listed.size = ops.size → (unl ops.size listed).length ≤ fuel → (∀ j, listed.getD j false = true → Deps ops (fun k => listed.getD k false = true) j) →
      (∀ i ∈ T, (listed.getD i false = true ↔ i ∉ rem)) → (∀ i ∈ rem, i ∈ T) → rem.Nodup → a.defers = D → a.tmps.size = E.n →
      TN E ops D C' C1 (fun L C => KJ E (Q .normal) D L C) tb rem.length rem Lk Ck → Fr E.n D Lk af → St E.S E.w0 Ck w → (∀ w, St E.S E.w0 Ck w → St E.S E.w0 C' w) → (∀ (p i : Nat), free[p]? = some i → (fe[p]?).getD false = true → listed.getD i false = false → ∀ w, St E.S E.w0 Ck w → St E.S E.w0 C1 w) →
      (∀ t, (∀ (p i : Nat) (o : Oper), free[p]? = some i → ops[i]? = some o → o.dst ≠ some t) → af.tmps[t]? = a.tmps[t]?) →
      (∀ t, (∀ (i : Nat) (o : Oper), listed.getD i false = true → ops[i]? = some o → o.dst ≠ some t) → a.tmps[t]? = a0.tmps[t]?) →
      (∀ (p i : Nat) (o : Oper) (d : Nat), free[p]? = some i → ops[i]? = some o → o.dst = some d → af.tmps[d]? = vs[p]? ∧ (listed.getD i false = true → a.tmps[d]? = vs[p]?)) →
      wpAnyIn (Fw E.r) 0 E.P .any ops Q fuel listed a w := by
    intro fuel
    induction fuel with
    | zero =>
      intro listed a w rem Lk Ck af hsz hu hcl hTk hrT hrn hd hz hT hfr hst hsub hsub1 hslot hold hfree
      have hall' : ∀ i, i < ops.size → listed.getD i false = true := fun i hi => by
        cases hg : listed.getD i false with
        | true => rfl
        | false =>
          have := List.length_pos_of_mem (mem_unl.2 ⟨hi, hg⟩)
          omega
      refine ⟨?_, done listed a w rem Lk Ck af hall' hTk hrT hrn hd hz hT hfr hst hslot hfree⟩
      rw [List.eq_nil_iff_forall_not_mem]
      intro i hi
      obtain ⟨h1, h2, _⟩ := of_ready hsz hi
      rw [hall' i h1] at h2; cases h2
    | succ fuel ih =>
      intro listed a w rem Lk Ck af hsz hu hcl hTk hrT hrn hd hz hT hfr hst hsub hsub1 hslot hold hfree
      refine ⟨fun hnil => ?_, fun i hi => ?_⟩
      · refine done listed a w rem Lk Ck af (fun i hi => ?_) hTk hrT hrn hd hz hT hfr hst hslot hfree
        cases hg : listed.getD i false with
        | true => rfl
        | false =>
          exfalso
          have hex : ∃ i, i < ops.size ∧ listed.getD i false = false := ⟨i, hi, hg⟩
          obtain ⟨j, hj, hmin⟩ := exists_least hex
          have hr : j ∈ Region.ready .any ops listed := ready_of hsz hj.1 hj.2 (fun o e ho he hb => by
            have h1 := hc.edge j o e ho he hb
            cases hg : listed.getD e.on false with
            | true => exact hg
            | false => exact absurd (hmin e.on ⟨by omega, hg⟩) (by omega))
          rw [hnil] at hr; cases hr
      · obtain ⟨hi1, hi2, hi3⟩ := of_ready hsz hi
        obtain ⟨o, ho⟩ : ∃ o, ops[i]? = some o := ⟨ops[i], Array.getElem?_eq_getElem hi1⟩
        obtain ⟨hsel, hdef⟩ := hc.plain i o ho
        have hset : ∀ j, (listed.setIfInBounds i true).getD j false = if j = i then true else listed.getD j false := fun j => getD_set (by omega) false
        have hun := unl_lt (n := ops.size) (i := i) (listed := listed) (by omega) (mem_unl.2 ⟨hi1, hi2⟩)
        have hcl' : ∀ j, (listed.setIfInBounds i true).getD j false = true → Deps ops (fun k => (listed.setIfInBounds i true).getD k false = true) j := by
          intro j hj o' e ho' he hb
          show (listed.setIfInBounds i true).getD e.on false = true
          rw [hset] at hj ⊢
          by_cases e1 : e.on = i
          · simp [e1]
          · simp only [e1, if_false]
            by_cases e2 : j = i
            · subst e2; exact hi3 o' e ho' he hb
            · simp only [e2, if_false] at hj; exact hcl j hj o' e ho' he hb
        have hanc : ∀ j, ancB (msk ops) j i = true → listed.getD j false = true := fun j hj => ancB_closed (S := fun k => listed.getD k false = true) hcl hj hi3
        have hnanc : ∀ j, ancB (msk ops) i j = true → listed.getD j false = false := fun j hj => by
          cases hg : listed.getD j false with
          | false => rfl
          | true =>
            have := ancB_closed (S := fun k => listed.getD k false = true) hcl hj (hcl j hg)
            rw [this] at hi2; cases hi2
        unfold wpOpIn
        simp only [ho]
        rcases hc.cover i hi1 with hin | hin
        · -- a free one
          obtain ⟨p, hp⟩ := List.mem_iff_getElem?.1 hin
          obtain ⟨d, v, hod, hdn, hvi, hsd⟩ := hall p o (hgf p i o hp ho)
          have hfrp := actAt_fr (pickL ops free) vs p L a0 hdlt hf0
          have hlook : ∀ t ∈ o.looksAt ops, a.tmps[t]? = (actAt (pickL ops free) vs p a0).tmps[t]? := by
            intro t htl
            by_cases hw : ∃ (q j : Nat) (r : Oper), free[q]? = some j ∧ q ≠ p ∧ ops[j]? = some r ∧ r.dst = some t
            · obtain ⟨q, j, r, hq, hne, hr, hrd⟩ := hw
              obtain ⟨d', v', e1, e2, e3, _⟩ := hall q r (hgf q j r hq hr)
              rw [hrd] at e1; cases e1
              have hap := hc.apart p q i j o r t hp hq hne ho hr hrd
              rcases hap.2 htl with ⟨hlt, ha⟩ | ⟨hlt, ha⟩
              · rw [(hfree q j r t hq hr hrd).2 (hanc j ha), e3]
                refine (actAt_at (pickL ops free) vs p a0 q r t v' hlt (hgf q j r hq hr) hrd (by rw [hf0.size]; exact e2) e3 (fun m u hm hne' hu => ?_)).symm
                obtain ⟨x, hx1, hx2⟩ := hfg m u hu
                exact (hc.apart m q x j u r t hx1 hq (Ne.symm hne') hx2 hr hrd).1
              · have hnS := hnanc j ha
                refine (hold t (fun m u hm hu hud => ?_)).trans (actAt_other (pickL ops free) vs p a0 t (fun m u hm hu hud => ?_)).symm
                · rcases hc.cover m (Array.getElem?_eq_some_iff.1 hu).1 with hmf | hmT
                  · obtain ⟨x, hx⟩ := List.mem_iff_getElem?.1 hmf
                    by_cases e : x = q
                    · subst e; rw [hq] at hx; cases hx; rw [hm] at hnS; cases hnS
                    · exact (hc.apart x q m j u r t hx hq (Ne.symm e) hu hr hrd).1 hud
                  · exact (hc.ft j m r u (List.mem_of_getElem? hq) hmT hr hu).1 (by rw [hud, hrd])
                · obtain ⟨x, hx1, hx2⟩ := hfg m u hu
                  exact (hc.apart m q x j u r t hx1 hq (by omega) hx2 hr hrd).1 hud
            · refine (hold t (fun m u hm hu hud => ?_)).trans (actAt_other (pickL ops free) vs p a0 t (fun m u hm hu hud => ?_)).symm
              · rcases hc.cover m (Array.getElem?_eq_some_iff.1 hu).1 with hmf | hmT
                · obtain ⟨x, hx⟩ := List.mem_iff_getElem?.1 hmf
                  by_cases e : x = p
                  · subst e; rw [hp] at hx; cases hx; rw [hm] at hi2; cases hi2
                  · exact hw ⟨x, m, u, hx, e, hu, hud⟩
                · have := hnanc m ((hc.ft i m o u hin hmT ho hu).2.1 t hud htl)
                  rw [hm] at this; cases this
              · obtain ⟨x, hx1, hx2⟩ := hfg m u hu
                exact hw ⟨m, x, u, hx1, by omega, hx2, hud⟩
          have hTi : ∀ j ∈ T, j ≠ i := fun j hmj e => hc.disj j hmj (e ▸ hin)
          have hgo : ∀ w', Keeps no w w' → wpAnyIn (Fw E.r) 0 E.P .any ops Q fuel (listed.setIfInBounds i true) (a.put (some d) v) w' := by
            intro w' hk
            refine ih _ _ w' rem Lk Ck af (by simpa using hsz) (by omega) hcl' (fun j hmj => ?_) hrT hrn hd (by simp [Act.put, hz]) hT hfr (hst.same hk) hsub (fun p' i' hp' hf' hl' => hsub1 p' i' hp' hf' (by rw [hset] at hl'; by_cases e : i' = i; (rw [if_pos e] at hl'; cases hl'); (rwa [if_neg e] at hl'))) (fun t ht => ?_) (fun t ht => ?_) (fun q j r d' hq hr hrd => ?_)
            · rw [hset, if_neg (hTi j hmj)]; exact hTk j hmj
            · have hne : d ≠ t := fun e => ht p i o hp ho (by rw [hod, e])
              simp only [Act.put]
              rw [Array.getElem?_setIfInBounds_ne hne]
              exact hslot t ht
            · have hne : d ≠ t := fun e => ht i o (by rw [hset]; simp) ho (by rw [hod, e])
              simp only [Act.put]
              rw [Array.getElem?_setIfInBounds_ne hne]
              exact hold t (fun m u hm hu => ht m u (by rw [hset]; split <;> simp [hm]) hu)
            · refine ⟨(hfree q j r d' hq hr hrd).1, fun hl => ?_⟩
              by_cases e : q = p
              · subst e
                rw [hp] at hq; cases hq
                rw [ho] at hr; cases hr
                rw [hod] at hrd; cases hrd
                simp only [Act.put]
                rw [Array.getElem?_setIfInBounds_self_of_lt (by rw [hz]; exact hdn), hvi]
              · have hne := (hc.apart p q i j o r d' hp hq e ho hr hrd).1
                simp only [Act.put]
                rw [Array.getElem?_setIfInBounds_ne (fun h => hne (by rw [hod, h]))]
                refine (hfree q j r d' hq hr hrd).2 ?_
                rw [hset] at hl
                by_cases e2 : j = i
                · subst e2
                  exact absurd (by rw [ho] at hr; cases hr; rw [hod] at hrd ⊢; exact hrd) hne
                · simpa [e2] using hl
          refine sd_swapk hsd hod hdn hsel hdef hfrp hlook ?_ hgo
          cases hfl : (fe[p]?).getD false with
          | true => exact hsub1 p i hp hfl hi2 w hst
          | false => exact hsub w hst
        · -- one of the others
          have hir : i ∈ rem := by
            rcases Classical.em (i ∈ rem) with h | h
            · exact h
            · have := (hTk i hin).2 h; rw [this] at hi2; cases hi2
          have hmin : i ∈ rem.filter (fun i => rem.all fun j => !ancB (msk ops) j i) := by
            rw [List.mem_filter]
            refine ⟨hir, List.all_eq_true.2 fun j hj => ?_⟩
            cases hab : ancB (msk ops) j i with
            | false => rfl
            | true => exact absurd hj ((hTk j (hrT j hj)).1 (hanc j hab))
          obtain ⟨nr, hnr⟩ : ∃ nr, rem.length = nr + 1 := ⟨rem.length - 1, by have := List.length_pos_of_mem hir; omega⟩
          have hnr' : (rem.filter (· != i)).length = nr := by
            have := hrn.erase_eq_filter i
            rw [← this, List.length_erase_of_mem hir, hnr]; rfl
          rw [hnr] at hT
          have hT := hT i hmin o ho
          have hlook : ∀ t ∈ o.looksAt ops, a.tmps[t]? = af.tmps[t]? := by
            intro t htl
            by_cases hw : ∃ (q j : Nat) (r : Oper), free[q]? = some j ∧ ops[j]? = some r ∧ r.dst = some t
            · obtain ⟨q, j, r, hq, hr, hrd⟩ := hw
              have ha := (hc.ft j i r o (List.mem_of_getElem? hq) hin hr ho).2.2 t hrd htl
              obtain ⟨e1, e2⟩ := hfree q j r t hq hr hrd
              rw [e1, e2 (hanc j ha)]
            · exact (hslot t (fun q j r hq hr hrd => hw ⟨q, j, r, hq, hr, hrd⟩)).symm
          refine op_swap hsel hdef hlook (hT (fun af' w' => af'.defers = D ∧ ∃ L' C'', (∀ w, St E.S E.w0 C'' w → St E.S E.w0 C' w) ∧ (tb.contains i = true → ∀ w, St E.S E.w0 C'' w → St E.S E.w0 C1 w) ∧ TN E ops D C' C1 (fun L C => KJ E (Q .normal) D L C) tb nr (rem.filter (· != i)) L' C'' ∧ Fr E.n D L' af' ∧ St E.S E.w0 C'' w')
            (fun L' C'' h1 h1' h2 af' w' h3 h4 => ⟨h3.defers, L', C'', h1, h1', h2, h3, h4⟩) af w hfr hst) (fun b w' hb => hb.1.trans hfr.defers.symm) ?_
          rintro u w' ⟨_, L', C'', h1, h1', h2, h3, h4⟩
          have hput : ∀ (b : Act) (t : Nat), o.dst ≠ some t → (b.put o.dst u).tmps[t]? = b.tmps[t]? := fun b t hne => by
            cases hod : o.dst with
            | none => rfl
            | some d => simp only [Act.put]; rw [Array.getElem?_setIfInBounds_ne (fun e => hne (by rw [hod, e]))]
          have hputs : ∀ (b : Act), (b.put o.dst u).tmps.size = b.tmps.size := fun b => by cases o.dst <;> simp [Act.put]
          refine ih _ _ w' (rem.filter (· != i)) L' C'' (af.put o.dst u) (by simpa using hsz) (by omega) hcl' (fun j hq => ?_) (fun j hj => hrT j (List.mem_filter.1 hj).1) (hrn.filter _) (by cases o.dst <;> exact hd) (by rw [hputs]; exact hz) (by rw [hnr']; exact h2) h3 h4 h1 (fun p' i' hp' hf' hl' => by
            rcases hc4 p' i' i hp' hin hf' with h5 | h5
            · exact h1' h5
            · have h6 := hanc i' h5
              rw [hset] at hl'
              by_cases e : i' = i
              · rw [if_pos e] at hl'; cases hl'
              · rw [if_neg e, h6] at hl'; cases hl') (fun t ht => ?_) (fun t ht => ?_) (fun q j r d' hq hr hrd => ?_)
          · rw [hset]
            by_cases e : j = i
            · subst e; simp
            · simp only [e, if_false, List.mem_filter, bne_iff_ne, ne_eq, not_false_eq_true, and_true]
              exact hTk j hq
          · by_cases hod : o.dst = some t
            · rw [hod]
              simp only [Act.put]
              by_cases hlt : t < E.n
              · rw [Array.getElem?_setIfInBounds_self_of_lt (by rw [hfr.size]; exact hlt), Array.getElem?_setIfInBounds_self_of_lt (by rw [hz]; exact hlt)]
              · rw [Array.getElem?_eq_none (by rw [Array.size_setIfInBounds, hfr.size]; exact Nat.le_of_not_lt hlt), Array.getElem?_eq_none (by rw [Array.size_setIfInBounds, hz]; exact Nat.le_of_not_lt hlt)]
            · rw [hput a t hod, hput af t hod]; exact hslot t ht
          · rw [hput a t (ht i o (by rw [hset]; simp) ho)]
            exact hold t (fun m' u' hm'' hu' => ht m' u' (by rw [hset]; split <;> simp [hm'']) hu')
          · have hne : o.dst ≠ some d' := fun e => (hc.ft j i r o (List.mem_of_getElem? hq) hin hr ho).1 (by rw [e, hrd])
            rw [hput a d' hne, hput af d' hne]
            refine ⟨(hfree q j r d' hq hr hrd).1, fun hl => (hfree q j r d' hq hr hrd).2 ?_⟩
            rw [hset] at hl
            have : j ≠ i := fun e => hc.disj i hin (e ▸ List.mem_of_getElem? hq)
            simpa [this] using hl
  refine key ops.size (Array.replicate ops.size false) a0 _ T _ C (actAt (pickL ops free) vs (pickL ops free).length a0) (by simp) ?_ ?_ ?_ (fun _ h => h) hc.nodup hf0.defers hf0.size (by simpa using hF) (actAt_fr _ vs _ L a0 hdlt hf0) hs1 hC (fun _ _ _ _ _ => hC1) ?_ (fun _ _ => rfl) ?_
  · unfold unl; exact Nat.le_trans (List.length_filter_le _ _) (by simp)
  · intro j hj
    simp only [Array.getD_eq_getD_getElem?, Array.getElem?_replicate] at hj
    split at hj <;> simp at hj
  · intro i hi
    simp only [Array.getD_eq_getD_getElem?, Array.getElem?_replicate]
    split <;> simp [hi]
  · intro t ht
    refine actAt_other _ vs _ a0 t (fun m u _ hu hud => ?_)
    obtain ⟨x, hx1, hx2⟩ := hfg m u hu
    exact ht m x u hx1 hx2 hud
  · intro p i o d hp ho hod
    obtain ⟨d', v', e1, e2, e3, _⟩ := hall p o (hgf p i o hp ho)
    rw [hod] at e1; cases e1
    refine ⟨?_, fun hl => ?_⟩
    · rw [e3]
      refine actAt_at _ vs _ a0 p o d v' (by rw [hfl]; exact (List.getElem?_eq_some_iff.1 hp).1) (hgf p i o hp ho) hod (by rw [hf0.size]; exact e2) e3 (fun m u hm hne hu => ?_)
      obtain ⟨x, hx1, hx2⟩ := hfg m u hu
      exact (hc.apart m p x i u o d hx1 hp (Ne.symm hne) hx2 ho hod).1
    · simp only [Array.getD_eq_getD_getElem?, Array.getElem?_replicate] at hl
      split at hl <;> simp at hl
theorem n_fin {E : Env} {ops : Array Oper} {D : List Deferred} {C' C1 : List Assn} {F : List (Nat × Value) → List Assn → Prop} {tb rem : List Nat} {L : List (Nat × Value)} {C : List Assn} (h : F L C) : TN E ops D C' C1 F tb 0 rem L C := h
def NStep (E : Env) (ops : Array Oper) (D : List Deferred) (C' C1 : List Assn) (F : List (Nat × Value) → List Assn → Prop) (tb : List Nat) (n : Nat) (rem : List Nat) (i : Nat) (L : List (Nat × Value)) (C : List Assn) : Prop :=
  ∀ o, ops[i]? = some o → ∀ K : Act → World → Prop, (∀ L' C'', (∀ w, St E.S E.w0 C'' w → St E.S E.w0 C' w) → (tb.contains i = true → ∀ w, St E.S E.w0 C'' w → St E.S E.w0 C1 w) → TN E ops D C' C1 F tb n rem L' C'' → KJ E K D L' C'') → RJ E ops (NQ K) [o] D L C
theorem n_step {E : Env} {ops : Array Oper} {D : List Deferred} {C' C1 : List Assn} {F : List (Nat × Value) → List Assn → Prop} {tb rem : List Nat} {n : Nat} {L : List (Nat × Value)} {C : List Assn} (ms : List Nat) (hm : rem.filter (fun i => rem.all fun j => !ancB (msk ops) j i) = ms)
    (h : ∀ i ∈ ms, NStep E ops D C' C1 F tb n (rem.filter (· != i)) i L C) : TN E ops D C' C1 F tb (n + 1) rem L C := fun i hi => h i (hm ▸ hi)
theorem n_cons {p : Nat → Prop} {i : Nat} {l : List Nat} (h : p i) (t : ∀ j ∈ l, p j) : ∀ j ∈ i :: l, p j := fun j hj => by
  rcases List.mem_cons.1 hj with rfl | hj
  · exact h
  · exact t j hj
theorem n_nil {p : Nat → Prop} : ∀ j ∈ ([] : List Nat), p j := fun j hj => by cases hj
theorem n_op {E : Env} {ops : Array Oper} {D : List Deferred} {C' C1 : List Assn} {F : List (Nat × Value) → List Assn → Prop} {tb rem rem' : List Nat} {n i : Nat} {L : List (Nat × Value)} {C : List Assn} {o : Oper} (ho : ops[i]? = some o) (hr : rem = rem') (ht : tb.contains i = false)
    (h : ∀ K : Act → World → Prop, (∀ L' C'', (∀ w, St E.S E.w0 C'' w → St E.S E.w0 C' w) → TN E ops D C' C1 F tb n rem' L' C'' → KJ E K D L' C'') → RJ E ops (NQ K) [o] D L C) : NStep E ops D C' C1 F tb n rem i L C := fun o' ho' K hK => by
  rw [ho] at ho'; cases ho'
  subst hr
  exact h K fun L' C'' h1 h2 => hK L' C'' h1 (fun h => by rw [ht] at h; cases h) h2
theorem n_op5 {E : Env} {ops : Array Oper} {D : List Deferred} {C' C1 : List Assn} {F : List (Nat × Value) → List Assn → Prop} {tb rem rem' : List Nat} {n i : Nat} {L : List (Nat × Value)} {C : List Assn} {o : Oper} (ho : ops[i]? = some o) (hr : rem = rem')
    (h : ∀ K : Act → World → Prop, (∀ L' C'', (∀ w, St E.S E.w0 C'' w → St E.S E.w0 C' w) → (∀ w, St E.S E.w0 C'' w → St E.S E.w0 C1 w) → TN E ops D C' C1 F tb n rem' L' C'' → KJ E K D L' C'') → RJ E ops (NQ K) [o] D L C) : NStep E ops D C' C1 F tb n rem i L C := fun o' ho' K hK => by
  rw [ho] at ho'; cases ho'
  subst hr
  exact h K fun L' C'' h1 h1' h2 => hK L' C'' h1 (fun _ => h1') h2
end
section
open Go.RowKit
set_option linter.unusedVariables false
def chkPM (m : Array Nat) (ops : Array Oper) (rem : List Nat) : Bool :=
  (List.range rem.length).all fun p => match (rem[p]?).bind fun i => (ops[i]?).map fun o => (i, o) with
    | none => false
    | some (i, o) => o.dst.isSome && plainOp o &&
      ((List.range rem.length).all fun q => q == p || match (rem[q]?).bind fun j => (ops[j]?).map fun o => (j, o) with
        | none => false
        | some (j, r) => i != j && match r.dst with
          | none => false
          | some d => o.dst != some d && (!(o.looksAt ops).contains d || (if q < p then ancB m j i else ancB m i j)))
def chkP (ops : Array Oper) (rem : List Nat) : Bool := chkPM (msk ops) ops rem
structure ChkP (ops : Array Oper) (rem : List Nat) : Prop where
  lt : ∀ i ∈ rem, i < ops.size
  plain : ∀ (p i : Nat) (o : Oper), rem[p]? = some i → ops[i]? = some o → (∀ cs b, o.op ≠ .select cs b) ∧ (∀ c, o.op ≠ .defer c)
  apart : ∀ (p q i j : Nat) (o r : Oper) (d : Nat), rem[p]? = some i → rem[q]? = some j → q ≠ p → ops[i]? = some o → ops[j]? = some r → r.dst = some d → i ≠ j ∧ o.dst ≠ some d ∧ (d ∈ o.looksAt ops → (q < p ∧ ancB (msk ops) j i = true) ∨ (p < q ∧ ancB (msk ops) i j = true))
theorem ChkP.of {ops : Array Oper} {rem : List Nat} (h : chkP ops rem = true) : ChkP ops rem := by
  simp only [chkP, chkPM] at h
  rw [List.all_eq_true] at h
  refine ⟨fun i hi => ?_, fun p i o hp ho => ?_, ?_⟩
  · obtain ⟨p, hp⟩ := List.mem_iff_getElem?.1 hi
    have := h p (by simpa using (List.getElem?_eq_some_iff.1 hp).1)
    simp only [hp, Option.bind_some] at this
    cases ho : ops[i]? with
    | none => simp [ho] at this
    | some o => exact (Array.getElem?_eq_some_iff.1 ho).1
  · have := h p (by simpa using (List.getElem?_eq_some_iff.1 hp).1)
    simp only [hp, ho, Option.bind_some, Option.map_some, Bool.and_eq_true] at this
    have := this.1.2
    refine ⟨fun cs b hh => ?_, fun c hh => ?_⟩ <;> simp [plainOp, hh] at this
  · intro p q i j o r d hp hq hne ho hr hd
    have := h p (by simpa using (List.getElem?_eq_some_iff.1 hp).1)
    simp only [hp, ho, Option.bind_some, Option.map_some, Bool.and_eq_true] at this
    have := this.2
    rw [List.all_eq_true] at this
    have := this q (by simpa using (List.getElem?_eq_some_iff.1 hq).1)
    simp only [hq, hr, hd, Option.bind_some, Option.map_some, Bool.or_eq_true, Bool.and_eq_true, beq_iff_eq, bne_iff_ne, ne_eq] at this
    rcases this with h | ⟨h7, h8, h9⟩
    · exact absurd h hne
    · refine ⟨h7, h8, fun hm => ?_⟩
      rcases h9 with h9 | h9
      · simp [hm] at h9
      · by_cases hlt : q < p
        · rw [if_pos hlt] at h9; exact .inl ⟨hlt, h9⟩
        · rw [if_neg hlt] at h9; exact .inr ⟨by omega, h9⟩
def dsts (ops : Array Oper) (is : List Nat) : List Nat := is.filterMap fun i => (ops[i]?).bind (·.dst)
def clearL (L : List (Nat × Value)) (ds : List Nat) : List (Nat × Value) := L.filter fun p => !ds.any (Nat.beq p.1)
theorem lookup_clear {L : List (Nat × Value)} {ds : List Nat} {t : Nat} {v : Value} (h : (clearL L ds).lookup t = some v) : L.lookup t = some v ∧ t ∉ ds := by
  induction L with
  | nil => simp [clearL] at h
  | cons p L ih =>
    obtain ⟨u, x⟩ := p
    unfold clearL at h ih
    rw [List.filter_cons] at h
    by_cases e : t = u
    · subst e
      split at h
      · rename_i hu
        simp [List.lookup] at h ⊢
        refine ⟨h, fun hm => ?_⟩
        simp only [Bool.not_eq_true', List.any_eq_false] at hu
        exact hu t hm (by simp)
      · exfalso
        rename_i hu
        have := (ih h).2
        simp only [Bool.not_eq_true', Bool.not_eq_false, List.any_eq_true] at hu
        obtain ⟨d, hd, he⟩ := hu
        have : t = d := Nat.eq_of_beq_eq_true he
        subst this
        exact this hd
    · have hne : (t == u) = false := by simpa using e
      split at h
      · simp only [List.lookup, hne] at h ⊢
        exact ih h
      · simp only [List.lookup, hne]
        exact ih h
set_option maxHeartbeats 1000000 in
/-- what is left yields alone -/
theorem n_pure {E : Env} {ops : Array Oper} {Q : Post} {D : List Deferred} {C' C1 C : List Assn} {tb rem : List Nat} {L : List (Nat × Value)} {n : Nat} (ds : List Nat) (hc : chkP ops rem = true) (hds : dsts ops rem = ds) (hn : rem.length = n) (L0 : List (Nat × Value)) (hL : clearL L ds = L0) (htb : (rem.all fun i => !tb.contains i) = true)
    (hC : ∀ w, St E.S E.w0 C w → St E.S E.w0 C' w) (h : DJ E ops D C (fun L' => RJ E ops Q [] D L' C) (pickL ops rem) L0) : TN E ops D C' C1 (fun L C => KJ E (Q .normal) D L C) tb n rem L C := by
  have hc := ChkP.of hc
  obtain ⟨vs, hvl, hF, hall⟩ := DJ.out _ _ h
  have hpl := pickL_length hc.lt
  have hg : ∀ (p i : Nat) (o : Oper), rem[p]? = some i → ops[i]? = some o → (pickL ops rem)[p]? = some o := fun p i o hp ho => by rw [pickL_get hc.lt, hp]; exact ho
  have hfg : ∀ (p : Nat) (o : Oper), (pickL ops rem)[p]? = some o → ∃ i, rem[p]? = some i ∧ ops[i]? = some o := fun p o h => by
    rw [pickL_get hc.lt] at h
    cases hp : rem[p]? with
    | none => simp [hp] at h
    | some i => exact ⟨i, rfl, by simpa [hp] using h⟩
  have hdlt : ∀ (j : Nat) (o : Oper) (d : Nat), (pickL ops rem)[j]? = some o → o.dst = some d → d < E.n := fun j o d ho hd => by
    obtain ⟨d', v, h1, h2, _⟩ := hall j o ho
    rw [h1] at hd; cases hd; exact h2
  have hclear : ∀ (t : Nat) (v : Value), L0.lookup t = some v → L.lookup t = some v ∧ ∀ (p i : Nat) (o : Oper), rem[p]? = some i → ops[i]? = some o → o.dst ≠ some t := fun t v hv => by
    rw [← hL] at hv
    refine ⟨(lookup_clear hv).1, fun p i o hp ho hd => (lookup_clear hv).2 ?_⟩
    rw [← hds]
    exact List.mem_filterMap.2 ⟨i, List.mem_of_getElem? hp, by simp [ho, hd]⟩
  have hnd : rem.Nodup := by
    rw [List.nodup_iff_pairwise_ne, List.pairwise_iff_getElem]
    intro q p hq hp hlt
    obtain ⟨o, ho⟩ : ∃ o, ops[rem[p]]? = some o := ⟨_, Array.getElem?_eq_getElem (hc.lt _ (List.getElem_mem hp))⟩
    obtain ⟨r, hr⟩ : ∃ r, ops[rem[q]]? = some r := ⟨_, Array.getElem?_eq_getElem (hc.lt _ (List.getElem_mem hq))⟩
    obtain ⟨d, v, h1, _⟩ := hall q r (hg q _ r (List.getElem?_eq_getElem hq) hr)
    exact (fun e => (hc.apart p q _ _ o r d (List.getElem?_eq_getElem hp) (List.getElem?_eq_getElem hq) (by omega) ho hr h1).1 e.symm)
  -- the frame that a state of the order has
  have key : ∀ (n : Nat) (rem' : List Nat) (L' : List (Nat × Value)), rem'.length = n → rem'.Nodup → (∀ i ∈ rem', i ∈ rem) → (∀ i j, i ∈ rem' → j ∈ rem → j ∉ rem' → ancB (msk ops) i j = false) →
      (∀ t, (∀ (p i : Nat) (o : Oper), rem[p]? = some i → ops[i]? = some o → o.dst ≠ some t) → L'.lookup t = L.lookup t) →
      (∀ (p i : Nat) (o : Oper) (d : Nat), rem[p]? = some i → ops[i]? = some o → o.dst = some d → i ∉ rem' → L'.lookup d = vs[p]?) →
      TN E ops D C' C1 (fun L C => KJ E (Q .normal) D L C) tb n rem' L' C := by
    intro n
    induction n with
    | zero =>
      intro rem' L' hl _ hsub _ hold hdone
      have hnil : rem' = [] := List.length_eq_zero_iff.1 hl
      subst hnil
      intro a w hf hs
      have hfL : Fr E.n D L0 a := ⟨hf.defers, hf.size, fun t v hv => hf.at_ t v (by rw [hold t (hclear t v hv).2]; exact (hclear t v hv).1)⟩
      have hfull := actAt_fr (pickL ops rem) vs (pickL ops rem).length L0 a hdlt hfL
      refine hF a w ⟨hf.defers, hf.size, fun t v hv => ?_⟩ hs
      have h1 := hfull.at_ t v hv
      rw [← h1]
      by_cases ht : ∀ (p i : Nat) (o : Oper), rem[p]? = some i → ops[i]? = some o → o.dst ≠ some t
      · exact (actAt_other _ vs _ a t (fun m u _ hu hud => by obtain ⟨x, hx1, hx2⟩ := hfg m u hu; exact ht m x u hx1 hx2 hud)).symm
      · have : ∃ (p i : Nat) (o : Oper), rem[p]? = some i ∧ ops[i]? = some o ∧ o.dst = some t := by
          refine Classical.byContradiction fun hh => ht fun p i o hp ho hd => hh ⟨p, i, o, hp, ho, hd⟩
        obtain ⟨p, i, o, hp, ho, hd⟩ := this
        obtain ⟨d', v', e1, e2, e3, _⟩ := hall p o (hg p i o hp ho)
        rw [hd] at e1; cases e1
        rw [hf.at_ t v' (by rw [hdone p i o t hp ho hd (by simp), e3])]
        refine (actAt_at _ vs _ a p o t v' (by rw [hpl]; exact (List.getElem?_eq_some_iff.1 hp).1) (hg p i o hp ho) hd (by rw [hf.size]; exact e2) e3 (fun m u hm hne hu => ?_)).symm
        obtain ⟨x, hx1, hx2⟩ := hfg m u hu
        exact (hc.apart m p x i u o t hx1 hp (Ne.symm hne) hx2 ho hd).2.1
    | succ n ih =>
      intro rem' L' hl hnd' hsub hcl hold hdone i hi o ho K hK a w hf hs
      rw [List.mem_filter, List.all_eq_true] at hi
      obtain ⟨hir, hmin⟩ := hi
      obtain ⟨p, hp⟩ := List.mem_iff_getElem?.1 (hsub i hir)
      obtain ⟨d, v, hod, hdn, hvi, hsd⟩ := hall p o (hg p i o hp ho)
      obtain ⟨hsel, hdef⟩ := hc.plain p i o hp ho
      have hfL : Fr E.n D L0 a := ⟨hf.defers, hf.size, fun t v hv => hf.at_ t v (by rw [hold t (hclear t v hv).2]; exact (hclear t v hv).1)⟩
      have hfrp := actAt_fr (pickL ops rem) vs p L0 a hdlt hfL
      have hlook : ∀ t ∈ o.looksAt ops, a.tmps[t]? = (actAt (pickL ops rem) vs p a).tmps[t]? := by
        intro t htl
        by_cases hw : ∃ (q j : Nat) (r : Oper), rem[q]? = some j ∧ q ≠ p ∧ ops[j]? = some r ∧ r.dst = some t
        · obtain ⟨q, j, r, hq, hne, hr, hrd⟩ := hw
          obtain ⟨d', v', e1, e2, e3, _⟩ := hall q r (hg q j r hq hr)
          rw [hrd] at e1; cases e1
          have hap := hc.apart p q i j o r t hp hq hne ho hr hrd
          rcases hap.2.2 htl with ⟨hlt, ha⟩ | ⟨hlt, ha⟩
          · have hj : j ∉ rem' := fun hj => by have := hmin j hj; rw [ha] at this; cases this
            rw [hf.at_ t v' (by rw [hdone q j r t hq hr hrd hj, e3])]
            refine (actAt_at (pickL ops rem) vs p a q r t v' hlt (hg q j r hq hr) hrd (by rw [hf.size]; exact e2) e3 (fun m u hm hne' hu => ?_)).symm
            obtain ⟨x, hx1, hx2⟩ := hfg m u hu
            exact (hc.apart m q x j u r t hx1 hq (Ne.symm hne') hx2 hr hrd).2.1
          · refine (actAt_other (pickL ops rem) vs p a t (fun m u hm hu hud => ?_)).symm
            obtain ⟨x, hx1, hx2⟩ := hfg m u hu
            exact (hc.apart m q x j u r t hx1 hq (by omega) hx2 hr hrd).2.1 hud
        · refine (actAt_other (pickL ops rem) vs p a t (fun m u hm hu hud => ?_)).symm
          obtain ⟨x, hx1, hx2⟩ := hfg m u hu
          exact hw ⟨m, x, u, hx1, by omega, hx2, hud⟩
      have hset : rem'.filter (· != i) = rem'.erase i := (hnd'.erase_eq_filter i).symm
      have hnext : TN E ops D C' C1 (fun L C => KJ E (Q .normal) D L C) tb n (rem'.filter (· != i)) ((d, v) :: L') C := by
        refine ih _ _ (by rw [hset, List.length_erase_of_mem hir, hl]; rfl) (hnd'.filter _) (fun j hj => hsub j (List.mem_filter.1 hj).1) (fun x y hx hy hny => ?_) (fun t ht => ?_) (fun q j r d' hq hr hrd hj => ?_)
        · have hx' := (List.mem_filter.1 hx).1
          by_cases e : y = i
          · subst e
            have := hmin x hx'
            simpa using this
          · exact hcl x y hx' hy fun hh => hny (List.mem_filter.2 ⟨hh, by simpa using e⟩)
        · have hne : (t == d) = false := by simpa using fun e => ht p i o hp ho (by rw [hod, e])
          simp only [List.lookup, hne]
          exact hold t ht
        · by_cases e : q = p
          · subst e
            rw [hp] at hq; cases hq
            rw [ho] at hr; cases hr
            rw [hod] at hrd; cases hrd
            simp [List.lookup, hvi]
          · have h9 := hc.apart p q i j o r d' hp hq e ho hr hrd
            have hne : (d' == d) = false := by simpa using fun e => h9.2.1 (by rw [hod, e])
            simp only [List.lookup, hne]
            refine hdone q j r d' hq hr hrd fun hh => hj (List.mem_filter.2 ⟨hh, by simpa using fun e => h9.1 e.symm⟩)
      have htbi : tb.contains i = false := by
        have := (List.all_eq_true.1 htb) i (hsub i hir)
        simpa using this
      have hgo := fun w' (hk : Keeps no w w') => hK ((d, v) :: L') C hC (fun hh => by rw [htbi] at hh; cases hh) hnext (a.put (some d) v) w' (hf.put hdn v) (hs.same hk)
      have := sd_swapk hsd hod hdn hsel hdef hfrp hlook (w := w) hs (N := K) (Q := NQ K) hgo
      unfold wpL
      by_cases hw : Region.wanted o (yielded ops a.tmps) = true
      · rw [if_pos hw] at this ⊢
        refine wpIn_op_mono this (fun a' w' hh => hh) (fun _ _ _ hF => hF)
      · rw [if_neg hw] at this ⊢
        exact this.2
  refine key n rem L hn hnd (fun _ h => h) (fun i j _ h1 h2 => absurd h1 h2) (fun _ _ => rfl) (fun p i o d hp ho hd hni => absurd (List.mem_of_getElem? hp) hni)
end
section
open Go.RowKit
set_option linter.unusedVariables false
theorem St.imp {S : BS} {w0 w : World} {C : List Assn} {A B : Assn} (i : Nat) (h : St S w0 C w) (hC : C[i]? = some A) (hh : ∀ w, A.holds w → B.holds w) (hf : ∀ b, B.foot b → A.foot b) (hw : ∀ b, B.wf b → A.wf b) : St S w0 (C.set i B) w :=
  h.mv i hC ⟨hh w (h.holds A (List.mem_of_getElem? hC)), Keeps.refl _ _, fun b hb => .inl (hw b hb), fun b hb => .inl (hf b hb)⟩
theorem k_imp {E : Env} {K : Act → World → Prop} {D : List Deferred} {L : List (Nat × Value)} {C C' : List Assn} {A B : Assn} (i : Nat) (hC : C[i]? = some A) (hh : (∀ w, A.holds w → B.holds w) ∧ (∀ b, B.foot b → A.foot b) ∧ ∀ b, B.wf b → A.wf b) (hC' : C.set i B = C') (h : KJ E K D L C') : KJ E K D L C := fun a w hf hs =>
  h a w hf (hC' ▸ hs.imp i hC hh.1 hh.2.1 hh.2.2)
structure FnM (P : Program) (f : FuncId) (args : List Value) (Cp : List Assn) (A : Assn) {α : Type} (V : α → Value) (p : α → Prop) (A' : α → Assn) : Prop where
  go : isGo P f = true
  run : ∀ w, A.holds w → (∀ B ∈ Cp, B.holds w) → (∀ B ∈ Cp, Sep A B.ro) → Calls P f args.toArray w fun e w' => ∃ x, e = .returned (V x) ∧ p x ∧ Mv A (A' x) w w'
def EndM (w0 : World) (A : Assn) {α : Type} (V : α → Value) (p : α → Prop) (A' : α → Assn) (e : Ending) (w' : World) : Prop := ∃ x, e = .returned (V x) ∧ p x ∧ Mv A (A' x) w0 w'
theorem endM {w0 w : World} {A : Assn} {C : List Assn} {α : Type} {V : α → Value} {p : α → Prop} {A' : α → Assn} {v : Value} (x : α) (i : Nat) (hV : v = V x) (hp : p x) (hC : C[i]? = some (A' x)) (hw : (A' x).wr = true) (hs : St ⟨A.wf, fun _ => True⟩ w0 C w) : EndM w0 A V p A' (.returned v) w :=
  ⟨x, by rw [hV], hp, hs.holds _ (List.mem_of_getElem? hC), hs.keeps, fun b hb => (hs.own _ (List.mem_of_getElem? hC) b hb).symm, fun b hb => by
    rcases hs.own _ (List.mem_of_getElem? hC) b ((A' x).whole hw b hb) with h | h
    · exact .inr h
    · exact .inl (A.wfoot b h)⟩
theorem fnM_of {P : Program} {f : FuncId} {fn : Func} {c : Code} {args : List Value} {Cp : List Assn} {A : Assn} {α : Type} {V : α → Value} {p : α → Prop} {A' : α → Assn} (hgo : isGo P f = true) (hf : P.funcs[f]? = some fn) (hb : fn.body = some c) (hn : Nat.ble args.length fn.ntmps = true)
    (h : ∀ (w0 : World) (Q : Post), (∀ D L C, LJ ⟨P, none, fn.ntmps, ⟨A.wf, fun _ => True⟩, w0⟩ fn (EndM w0 A V p A') D L C → KJ ⟨P, none, fn.ntmps, ⟨A.wf, fun _ => True⟩, w0⟩ (Q .ret) D L C) →
      (∀ D L C, LJ ⟨P, none, fn.ntmps, ⟨A.wf, fun _ => True⟩, w0⟩ fn (EndM w0 A V p A') D L C → KJ ⟨P, none, fn.ntmps, ⟨A.wf, fun _ => True⟩, w0⟩ (Q .normal) D L C) →
      WJ ⟨P, none, fn.ntmps, ⟨A.wf, fun _ => True⟩, w0⟩ c Q [] (fr0 args) (A :: Cp.map Assn.ro)) : FnM P f args Cp A V p A' := by
  refine ⟨hgo, fun w hA hCp hsep => ?_⟩
  refine fn_of' hf hb hn (h w) ?_
  have h0 := ro_holds hCp
  refine ⟨Keeps.refl _ _, fun B hB => ?_, List.Pairwise.cons (fun B hB => ?_) h0.sep, fun B hB b hb => ?_, fun _ _ _ _ => .inr trivial⟩
  · rcases List.mem_cons.1 hB with rfl | hB
    · exact hA
    · exact h0.holds B hB
  · obtain ⟨B', hB', rfl⟩ := List.mem_map.1 hB
    exact hsep B' hB'
  · rcases List.mem_cons.1 hB with rfl | hB
    · exact .inr hb
    · obtain ⟨B', hB', rfl⟩ := List.mem_map.1 hB
      exact hb.elim
/-- each of Cp is read from something of C that is not its i-th -/
def CovAll (C : List Assn) (i : Nat) (Cp : List Assn) : Prop := ∀ B ∈ Cp, ∃ j X, j ≠ i ∧ C[j]? = some X ∧ Cov X B
theorem cv_nil {C : List Assn} {i : Nat} : CovAll C i [] := fun B hB => by cases hB
theorem cv_cons {C Cp : List Assn} {i : Nat} {B X : Assn} (j : Nat) (hj : Nat.beq j i = false) (hC : C[j]? = some X) (h : Cov X B) (t : CovAll C i Cp) : CovAll C i (B :: Cp) := fun B' hB => by
  rcases List.mem_cons.1 hB with rfl | hB
  · exact ⟨j, X, fun e => by subst e; simp at hj, hC, h⟩
  · exact t B' hB
section
variable {E : Env} {ops : Array Oper} {Q : Post} {rest : List Oper} {D : List Deferred} {L : List (Nat × Value)} {C : List Assn}
variable {dst : Option Tmp} {d : Nat} {ty : TypeId} {ps : String} {af : Array Edge} {g : Option (Nat × Bool)}
theorem r_callm {fop : Operand} {xs : Array Operand} {ts : Array TypeId} {f : FuncId} {fi ca : Array Value} {vs args : List Value} {Cp : List Assn} {A : Assn} {α : Type} {V : α → Value} {p : α → Prop} {A' : α → Assn} (i : Nat) (hg : gOn ops L g = true) (hf : ev L fop = some (.func (.func f) fi ca))
    (hx : evs L xs.toList = some vs) (ha : fi.toList ++ vs ++ ca.toList = args) (c : FnM E.P f args Cp A V p A') (hC : C[i]? = some A) (hCp : CovAll C i Cp) (hd : Nat.blt d E.n = true) (k : ∀ x, p x → RJ E ops Q rest D ((d, V x) :: L) (C.set i (A' x))) :
    RJ E ops Q (⟨some d, .call { callee := .value fop, args := xs, argTypes := ts }, ty, ps, af, g⟩ :: rest) D L C := by
  intro a w hfr hs
  have hd' : d < E.n := by rw [← Nat.blt_eq]; exact hd
  unfold wpL
  rw [if_pos (gOn_wanted hfr hg)]
  refine ⟨fun _ _ => trivial, ?_⟩
  rw [Oper.semAt_eq _ _ _ (by simp), run_call hfr c.go hf hx ha]
  have hCm := List.mem_of_getElem? hC
  refine ⟨fun h => by simp at h, (calls_in E.r (c.run w (hs.holds A hCm) (fun B hB => ?_) (fun B hB b hb hb' => ?_))).mono fun e w' he => ?_⟩
  · obtain ⟨j, X, _, hX, hc⟩ := hCp B hB
    exact hc.holds w (hs.holds X (List.mem_of_getElem? hX))
  · obtain ⟨j, X, hne, hX, hc⟩ := hCp B hB
    have hXb := hc.foot b hb'
    have hj := (List.getElem?_eq_some_iff.1 hX).1
    have hi := (List.getElem?_eq_some_iff.1 hC).1
    have e1 := (List.getElem?_eq_some_iff.1 hX).2
    have e2 := (List.getElem?_eq_some_iff.1 hC).2
    refine ⟨?_, fun h => h⟩
    rcases Nat.lt_or_gt_of_ne hne with hlt | hlt
    · have := List.pairwise_iff_getElem.1 hs.sep j i hj hi hlt
      rw [e1, e2] at this
      exact (this b hXb hb).2
    · have := List.pairwise_iff_getElem.1 hs.sep i j hi hj hlt
      rw [e1, e2] at this
      exact (this b hb hXb).1
  · obtain ⟨x, rfl, hp, hm⟩ := he
    exact k x hp _ _ (hfr.put hd' _) (hs.mv i hC hm)
theorem flat_put {sz o l : Nat} {vs el : List Value} (hl : vs.length = l) (ho : o + l ≤ sz) : ∀ (es : List (List Value)) (k : Nat), (∀ x ∈ es, x.length = sz) → es[k]? = some el →
    es.flatten.take (k * sz + o) ++ vs ++ es.flatten.drop (k * sz + o + l) = (es.set k (el.take o ++ vs ++ el.drop (o + l))).flatten
  | [], k, _, h => by simp at h
  | x :: es, 0, hx, h => by
    simp at h; subst h
    have h1 : x.length = sz := hx x (by simp)
    simp only [List.flatten_cons, List.set_cons_zero, Nat.zero_mul, Nat.zero_add]
    rw [List.take_append_of_le_length (by omega), List.drop_append_of_le_length (by omega)]
    simp [List.append_assoc]
  | x :: es, k + 1, hx, h => by
    have h1 : x.length = sz := hx x (by simp)
    have ih := flat_put hl ho es k (fun y hy => hx y (by simp [hy])) (by simpa using h)
    simp only [List.flatten_cons, List.set_cons_succ]
    rw [← ih]
    have e1 : (k + 1) * sz + o = x.length + (k * sz + o) := by rw [h1, Nat.succ_mul]; omega
    have e2 : (k + 1) * sz + o + l = x.length + (k * sz + o + l) := by rw [h1, Nat.succ_mul]; omega
    rw [e1, List.take_length_add_append, show x.length + (k * sz + o) + l = x.length + (k * sz + o + l) by omega, List.drop_length_add_append]
    simp [List.append_assoc]
theorem r_store_own {t n c e sz k o m : Nat} {a : Option Addr} {x y : Operand} {v : Value} {vs el : List Value} {es es' : List (List Value)} {C' : List Assn} (i : Nat) (hg : gOn ops L g = true) (hx : ev L x = some (.pointer (padd a m))) (hy : ev L y = some v) (ht : (tK E.P t).map (·.2) = some n)
    (hv : v.cells.toList = vs) (hn : vs.length = n) (h1 : vs.all Value.oneCell' = true) (hC : C[i]? = some (own a c e sz es)) (hk : es[k]? = some el) (hm : m = k * sz + o) (ho : o + n ≤ sz) (hes : es.set k (el.take o ++ vs ++ el.drop (o + n)) = es') (hC' : C.set i (own a c e sz es') = C') (kk : RJ E ops Q rest D L C') :
    RJ E ops Q (⟨none, .store t x y, ty, ps, af, g⟩ :: rest) D L C := by
  subst hm hes hC'
  intro act w hfr hs
  unfold wpL
  rw [if_pos (gOn_wanted hfr hg)]
  obtain ⟨hl, hlen, hrow⟩ := hs.holds _ (List.mem_of_getElem? hC)
  have hke := (List.getElem?_eq_some_iff.1 hk).1
  rcases hrow with ⟨h2, h0⟩ | ⟨gg, cap, cur, hv2, hbase, h3, h4, h5, h6, h7⟩
  · omega
  · injection hv2 with hv2 hv3 hv4
    subst hv2 hv4
    have hfl := flatten_length_of hl
    have hks : k * sz + sz ≤ es.length * sz := by rw [← Nat.succ_mul]; exact Nat.mul_le_mul_right _ hke
    have hcl : es.length * sz ≤ cur.toList.length := by simp only [Array.length_toList, h6]; exact Nat.mul_le_mul_right _ h4
    have hol : k * sz + o + n ≤ cur.toList.length := by omega
    obtain ⟨w', hr, hb', hkk⟩ := run_storeCells (P := E.P) (t := e) vs cur.toList (k * sz + o) 0 w (fun v hv => List.all_eq_true.1 h1 v hv) (by rw [hn]; exact hol) (by rw [h3])
    have hsize : (sizeOf t).run E.P w = .ok n w := by
      obtain ⟨bn, hbn, rfl⟩ := Option.map_eq_some_iff.1 ht
      obtain ⟨bb, nn⟩ := bn
      cases bb
      · exact (tK_one hbn w).2
      · exact (tK_agg hbn w).2
    have hvs : v.cells.size = n := by rw [← hn, ← hv]; simp
    have hpa : padd (some (⟨gg, 0, none⟩ : Addr)) (k * sz + o) = some ⟨gg, k * sz + o, none⟩ := by
      simp only [padd, Option.map_some, add_plain, Nat.zero_add]
    refine wp_skip (by simp) (w' := w') ?_ ?_
    · simp [execOp, hfr.ev hx, hfr.ev hy, hpa, Instr.storeAt, Instr.sureAddr, storeVar, hsize, hvs, hv, hr]
    · refine kk _ _ ⟨hfr.defers, hfr.size, hfr.at_⟩ ?_
      have hel : el.length = sz := hl el (List.mem_of_getElem? hk)
      have hnew : ∀ y ∈ es.set k (el.take o ++ vs ++ el.drop (o + n)), y.length = sz := by
        intro y hy'
        rcases List.mem_or_eq_of_mem_set hy' with h | rfl
        · exact hl y h
        · simp; omega
      have hcap : cur.toList.length = c * sz := by simpa using h6
      refine hs.upd (b := gg) i hC ⟨_, rfl, rfl⟩ rfl hkk (fun y ⟨ad, hy1, hy2⟩ => by cases hy1; exact hy2) ⟨hnew, ?_⟩
      rw [List.length_set]
      refine ⟨by rw [flatten_length_of hnew, List.length_set], .inr ⟨gg, c, _, rfl, Nat.zero_le _, hb', h4, h5, ?_, ?_⟩⟩
      · simp only [List.size_toArray, List.length_append, List.length_take, List.length_drop, Nat.add_zero]
        omega
      · rw [Nat.add_zero, hn]
        have e0 := flat_put hn ho es k hl hk
        rw [← e0, ← h7]
        have q1 : k * sz + o ≤ es.length * sz := by omega
        show ((cur.toList.take (k * sz + o) ++ vs) ++ cur.toList.drop (k * sz + o + n)).take (es.length * sz) = _
        have hA : (cur.toList.take (k * sz + o) ++ vs).length = k * sz + o + n := by simp only [List.length_append, List.length_take]; omega
        rw [List.take_append, List.take_of_length_le (by omega), hA, List.take_take, Nat.min_eq_left q1, List.drop_take]
end
end
section
open Go.RowKit
set_option linter.unusedVariables false
theorem born_inj {l : List MapEntry} (h : (l.map (·.born)).Nodup) {x y : MapEntry} (hx : x ∈ l) (hy : y ∈ l) (e : x.born = y.born) : x = y := by
  obtain ⟨i, hi⟩ := List.getElem?_of_mem hx
  obtain ⟨j, hj⟩ := List.getElem?_of_mem hy
  have h1 : (l.map (·.born))[i]? = some x.born := by rw [List.getElem?_map, hi]; rfl
  have h2 : (l.map (·.born))[j]? = some x.born := by rw [List.getElem?_map, hj, e]; rfl
  have h3 := (List.getElem?_inj (List.getElem?_eq_some_iff.1 h1).1 h).1 (h1.trans h2.symm)
  subst h3
  exact Option.some.inj (hi.symm.trans hj)
section
variable {E : Env} {ops : Array Oper} {Q : Post} {rest : List Oper} {D : List Deferred} {L : List (Nat × Value)} {C : List Assn}
variable {dst : Option Tmp} {d : Nat} {ty : TypeId} {ps : String} {af : Array Edge} {g : Option (Nat × Bool)}
end
end
section
open Go.RowKit
set_option linter.unusedVariables false
theorem wrap_i64_u64 {n : Int} (h : 0 ≤ n ∧ n ≤ 18446744073709551615) : IntKind.u64.wrap n = n := by
  have e : IntKind.u64.wrap n = n % 18446744073709551616 := by simp [IntKind.wrap, IntKind.bits, IntKind.signed]
  rw [e]; omega
theorem wrap_u64_u8 {n : Int} (h : 0 ≤ n ∧ n ≤ 255) : IntKind.u8.wrap n = n := by
  have e : IntKind.u8.wrap n = n % 256 := by simp [IntKind.wrap, IntKind.bits, IntKind.signed]
  rw [e]; omega
section
variable {E : Env} {ops : Array Oper} {Q : Post} {rest : List Oper} {D : List Deferred} {L : List (Nat × Value)} {C : List Assn}
variable {d : Nat} {ty : TypeId} {ps : String} {af : Array Edge} {g : Option (Nat × Bool)}
/-- a byte of a string -/
theorem r_sidx {t : TypeId} {x ix : Operand} {s : ByteArray} {q : IntKind} {j : Int} {k : Nat} (hg : gOn ops L g = true) (hx : ev L x = some (.string s)) (hi : ev L ix = some (.int q j)) (ht : E.P.underlying t = some .string) (hj : j = (k : Int)) (hk : k < s.size) (hd : Nat.blt d E.n = true)
    (kk : ∀ b : Int, 0 ≤ b ∧ b ≤ 255 → RJ E ops Q rest D ((d, .int .u8 b) :: L) C) : RJ E ops Q (⟨some d, .index t x ix, ty, ps, af, g⟩ :: rest) D L C := by
  subst hj
  intro a w hfr hs
  have hd' : d < E.n := by rw [← Nat.blt_eq]; exact hd
  unfold wpL
  rw [if_pos (gOn_wanted hfr hg)]
  have hb : s[k]? = some s[k] := getElem?_pos s k hk
  refine wp_value (v := .int .u8 (s[k].toNat : Int)) (w' := w) (by simp) ?_ ?_
  · simp [execOp, hfr.ev hx, hfr.ev hi, Instr.index, asIntOf, run_underlying ht, hb]
  · refine kk _ ⟨by omega, ?_⟩ _ _ (hfr.put hd' _) hs
    have := s[k].toNat_lt
    omega
end
def Srt (m : List Int) (i : Nat) : Prop := ∀ p r, p < r → r < i → r < m.length → m.getD p 0 ≤ m.getD r 0
/-- sorted up to i, but for the one at j, which is not above those behind it -/
def Ins (m : List Int) (i j : Nat) : Prop := (∀ p r, p < r → r ≤ i → p ≠ j → r ≠ j → m.getD p 0 ≤ m.getD r 0) ∧ ∀ r, j < r → r ≤ i → m.getD j 0 ≤ m.getD r 0
theorem ins_start {m : List Int} {i : Nat} (h : Srt m i) (hi : i < m.length) : Ins m i i := ⟨fun p r hpr hri hp hr => h p r hpr (by omega) (by omega), fun r h1 h2 => by omega⟩
theorem getD_at {m : List Int} {j : Nat} {x : Int} (h : m[j]? = some x) : m.getD j 0 = x := by simp [List.getD, h]
theorem getD_swap {m : List Int} {j : Nat} {x y : Int} (hx : m[j]? = some x) (hy : m[j - 1]? = some y) (hj : 0 < j) (p : Nat) :
    ((m.set j y).set (j - 1) x).getD p 0 = if p = j - 1 then x else if p = j then y else m.getD p 0 := by
  have h1 := (List.getElem?_eq_some_iff.1 hx).1
  have h2 := (List.getElem?_eq_some_iff.1 hy).1
  simp only [List.getD, List.getElem?_set, List.length_set]
  by_cases e1 : j - 1 = p
  · subst e1; simp [h2]
  · have e1' : ¬ p = j - 1 := fun e => e1 e.symm
    rw [if_neg e1, if_neg e1']
    by_cases e2 : j = p
    · subst e2; simp [h1]
    · have e2' : ¬ p = j := fun e => e2 e.symm
      rw [if_neg e2, if_neg e2']
theorem ins_step {m : List Int} {i j : Nat} {x y : Int} (hx : m[j]? = some x) (hy : m[j - 1]? = some y) (hj : 0 < j) (hji : j ≤ i) (h : x < y) (hI : Ins m i j) : Ins ((m.set j y).set (j - 1) x) i (j - 1) := by
  have gx := getD_at hx
  have gy := getD_at hy
  refine ⟨fun p r hpr hri hp hr => ?_, fun r h1 h2 => ?_⟩
  · rw [getD_swap hx hy hj, getD_swap hx hy hj, if_neg hp, if_neg hr]
    by_cases e1 : p = j
    · rw [if_pos e1, if_neg (by omega), ← gy]
      exact hI.1 (j - 1) r (by omega) hri (by omega) (by omega)
    · rw [if_neg e1]
      by_cases e2 : r = j
      · rw [if_pos e2, ← gy]; exact hI.1 p (j - 1) (by omega) (by omega) e1 (by omega)
      · rw [if_neg e2]; exact hI.1 p r hpr hri e1 e2
  · rw [getD_swap hx hy hj, getD_swap hx hy hj, if_pos rfl, if_neg (by omega)]
    by_cases e : r = j
    · rw [if_pos e]; omega
    · rw [if_neg e, ← gx]; exact hI.2 r (by omega) h2
theorem ins_zero {m : List Int} {i j : Nat} (hj : ¬ 0 < j) (hI : Ins m i j) : Srt m (i + 1) := fun p r hpr hri _ => by
  by_cases e1 : p = j
  · subst e1; exact hI.2 r hpr (by omega)
  · exact hI.1 p r hpr (by omega) e1 (by omega)
theorem ins_stop {m : List Int} {i j : Nat} {x y : Int} (hx : m[j]? = some x) (hy : m[j - 1]? = some y) (hj : 0 < j) (hji : j ≤ i) (h : ¬ x < y) (hI : Ins m i j) : Srt m (i + 1) := fun p r hpr hri hl => by
  have gx := getD_at hx
  have gy := getD_at hy
  by_cases e1 : p = j
  · subst e1; exact hI.2 r hpr (by omega)
  · by_cases e2 : r = j
    · subst e2
      rw [gx]
      by_cases e3 : p = r - 1
      · subst e3; rw [gy]; omega
      · have := hI.1 p (r - 1) (by omega) (by omega) e1 (by omega)
        rw [gy] at this; omega
    · exact hI.1 p r hpr (by omega) e1 e2
theorem swap_perm {m : List Int} {j : Nat} {x y : Int} (hx : m[j]? = some x) (hy : m[j - 1]? = some y) : ((m.set j y).set (j - 1) x).Perm m := by
  obtain ⟨h1, rfl⟩ := List.getElem?_eq_some_iff.1 hx
  obtain ⟨h2, rfl⟩ := List.getElem?_eq_some_iff.1 hy
  exact List.set_set_perm h1 h2
theorem srt_one {m : List Int} : Srt m 1 := fun p r h1 h2 => by omega
theorem srt_all {m : List Int} {i : Nat} (h : Srt m i) (hi : m.length ≤ i) : m.Pairwise (· ≤ ·) := by
  rw [List.pairwise_iff_getElem]
  intro p r hp hr hpr
  have := h p r hpr (by omega) hr
  simpa [List.getD, hp, hr] using this
end
section
set_option linter.unusedVariables false
section
variable {E : Env} {ops : Array Oper} {D : List Deferred} {L : List (Nat × Value)} {C : List Assn} {dst : Option Tmp} {ty : TypeId} {ps : String} {af : Array Edge} {g : Option (Nat × Bool)}
theorem sd_nil_p {x : Operand} {ad : Addr} (hg : gOn ops L g = true) (hx : ev L x = some (.pointer (some ad))) :
    SD E ops ⟨dst, .nilCheck x, ty, ps, af, g⟩ D L C (.pointer (some ad)) :=
  sd_pure hg (by simp) fun a w hfr hs => by simp [execOp, hfr.ev hx]
end
end
section
open Go.RowKit
set_option linter.unusedVariables false
/-- an operation that hands v to its slot d -/
structure SE (E : Env) (ops : Array Oper) (o : Oper) (D : List Deferred) (L : List (Nat × Value)) (C : List Assn) (v : Value) (d : Nat) : Prop where
  h : SD E ops o D L C v
  o : o.dst = some d
  n : Nat.blt d E.n = true
theorem rS {E : Env} {ops : Array Oper} {Q : Post} {o : Oper} {rest : List Oper} {D : List Deferred} {L : List (Nat × Value)} {C : List Assn} {v : Value} {d : Nat}
    (h : SE E ops o D L C v d) (k : RJ E ops Q rest D ((d, v) :: L) C) : RJ E ops Q (o :: rest) D L C := r_sd h.h h.o h.n k
theorem dS {E : Env} {ops : Array Oper} {F : List (Nat × Value) → Prop} {o : Oper} {rest : List Oper} {D : List Deferred} {L : List (Nat × Value)} {C : List Assn} {v : Value} {d : Nat}
    (h : SE E ops o D L C v d) (k : DJ E ops D C F rest ((d, v) :: L)) : DJ E ops D C F (o :: rest) L := d_sd h.h h.o h.n k
theorem eS {E : Env} {ops : Array Oper} {D : List Deferred} {C' C1 : List Assn} {F : List (Nat × Value) → Prop} {bs : List Bool} {o : Oper} {l rest : List Oper} {L : List (Nat × Value)} {v : Value} {d : Nat}
    (hl : l = o :: rest) (h : SE E ops o D L C' v d) (k : DJ4 E ops D C' C1 F bs rest ((d, v) :: L)) : DJ4 E ops D C' C1 F (false :: bs) l L := d4_sd h.h hl h.o h.n k
theorem fS {E : Env} {ops : Array Oper} {D : List Deferred} {C' C1 : List Assn} {F : List (Nat × Value) → Prop} {bs : List Bool} {o : Oper} {l rest : List Oper} {L : List (Nat × Value)} {v : Value} {d : Nat}
    (hl : l = o :: rest) (h : SE E ops o D L C1 v d) (k : DJ4 E ops D C' C1 F bs rest ((d, v) :: L)) : DJ4 E ops D C' C1 F (true :: bs) l L := d5_sd h.h hl h.o h.n k
def gB (n : Nat) (ops : Array Oper) (L : List (Nat × Value)) (d : Nat) (g : Option (Nat × Bool)) : Bool := gOn ops L g && Nat.blt d n
theorem gB1 {n : Nat} {ops : Array Oper} {L : List (Nat × Value)} {d : Nat} {g : Option (Nat × Bool)} (h : gB n ops L d g = true) : gOn ops L g = true := by
  unfold gB at h; rw [Bool.and_eq_true] at h; exact h.1
theorem gB2 {n : Nat} {ops : Array Oper} {L : List (Nat × Value)} {d : Nat} {g : Option (Nat × Bool)} (h : gB n ops L d g = true) : Nat.blt d n = true := by
  unfold gB at h; rw [Bool.and_eq_true] at h; exact h.2
def vF (n : Nat) (ops : Array Oper) (L : List (Nat × Value)) (d : Nat) (g : Option (Nat × Bool)) (x : Operand) : Option Value := match gB n ops L d g with
  | true => ev L x
  | false => none
def bF (n : Nat) (ops : Array Oper) (L : List (Nat × Value)) (d : Nat) (g : Option (Nat × Bool)) (x y : Operand) : Option (Value × Value) := match gB n ops L d g with
  | true => match ev L x, ev L y with
    | some u, some v => some (u, v)
    | _, _ => none
  | false => none
def pF (n : Nat) (ops : Array Oper) (L : List (Nat × Value)) (d : Nat) (g : Option (Nat × Bool)) (c x y : Operand) : Option Value := match gB n ops L d g with
  | true => match ev L c with
    | some (.bool true) => ev L x
    | some (.bool false) => ev L y
    | _ => none
  | false => none
def xF (n : Nat) (ops : Array Oper) (L : List (Nat × Value)) (d : Nat) (g : Option (Nat × Bool)) (x : Operand) (i : Nat) : Option Value := match vF n ops L d g x with
  | some (.tuple vs) => vs.toList[i]?
  | _ => none
def uF (n : Nat) (ops : Array Oper) (L : List (Nat × Value)) (d : Nat) (g : Option (Nat × Bool)) (xs ys : List Operand) : Option (List Value × List Value) := match gB n ops L d g with
  | true => match evs L xs, evs L ys with
    | some u, some v => some (u, v)
    | _, _ => none
  | false => none
def cF (n : Nat) (ops : Array Oper) (L : List (Nat × Value)) (d : Nat) (g : Option (Nat × Bool)) (fop : Operand) (xs : List Operand) : Option (FuncId × List Value) := match gB n ops L d g with
  | true => match ev L fop, evs L xs with
    | some (.func (.func f) fi ca), some vs => some (f, fi.toList ++ vs ++ ca.toList)
    | _, _ => none
  | false => none
theorem vF_out {n : Nat} {ops : Array Oper} {L : List (Nat × Value)} {d : Nat} {g : Option (Nat × Bool)} {x : Operand} {v : Value} (h : vF n ops L d g x = some v) : gOn ops L g = true ∧ Nat.blt d n = true ∧ ev L x = some v := by
  unfold vF at h
  split at h
  · rename_i hb; exact ⟨gB1 hb, gB2 hb, h⟩
  · cases h
theorem bF_out {n : Nat} {ops : Array Oper} {L : List (Nat × Value)} {d : Nat} {g : Option (Nat × Bool)} {x y : Operand} {u v : Value} (h : bF n ops L d g x y = some (u, v)) : gOn ops L g = true ∧ Nat.blt d n = true ∧ ev L x = some u ∧ ev L y = some v := by
  unfold bF at h
  split at h
  · rename_i hb
    split at h
    · rename_i hx hy; cases h; exact ⟨gB1 hb, gB2 hb, hx, hy⟩
    · cases h
  · cases h
theorem uF_out {n : Nat} {ops : Array Oper} {L : List (Nat × Value)} {d : Nat} {g : Option (Nat × Bool)} {x y : List Operand} {u v : List Value} (h : uF n ops L d g x y = some (u, v)) : gOn ops L g = true ∧ Nat.blt d n = true ∧ evs L x = some u ∧ evs L y = some v := by
  unfold uF at h
  split at h
  · rename_i hb
    split at h
    · rename_i hx hy; cases h; exact ⟨gB1 hb, gB2 hb, hx, hy⟩
    · cases h
  · cases h
section
variable {E : Env} {ops : Array Oper} {Q : Post} {rest : List Oper} {D : List Deferred} {L : List (Nat × Value)} {C : List Assn}
variable {d : Nat} {ty : TypeId} {ps : String} {af : Array Edge} {g : Option (Nat × Bool)}
theorem SX {o : Oper} {v : Value} (h : SD E ops o D L C v) (ho : o.dst = some d) (hd : Nat.blt d E.n = true) : SE E ops o D L C v d := ⟨h, ho, hd⟩
theorem MV {x : Operand} {v : Value} (h : vF E.n ops L d g x = some v) : SE E ops ⟨some d, .move x, ty, ps, af, g⟩ D L C v d := by
  obtain ⟨h1, h2, h3⟩ := vF_out h; exact ⟨sd_move h1 h3, rfl, h2⟩
theorem AG {x : Operand} {v : Value} (h : vF E.n ops L d g x = some v) : SE E ops ⟨some d, .assign x, ty, ps, af, g⟩ D L C v d := by
  obtain ⟨h1, h2, h3⟩ := vF_out h; exact ⟨sd_assign h1 h3, rfl, h2⟩
theorem OX {op : Op} (h : (gOff ops L g && Nat.blt d E.n) = true) : SE E ops ⟨some d, op, ty, ps, af, g⟩ D L C undef d := by
  rw [Bool.and_eq_true] at h; exact ⟨sd_off h.1, rfl, h.2⟩
theorem NT {xt : TypeId} {x : Operand} {b : Bool} (h : vF E.n ops L d g x = some (.bool b)) : SE E ops ⟨some d, .unOp .not xt x, ty, ps, af, g⟩ D L C (.bool !b) d := by
  obtain ⟨h1, h2, h3⟩ := vF_out h; exact ⟨sd_not h1 h3, rfl, h2⟩
theorem NG {xt : TypeId} {x : Operand} {n : Int} (h : vF E.n ops L d g x = some (.int .i64 n)) (hb : In64 (-n)) : SE E ops ⟨some d, .unOp .neg xt x, ty, ps, af, g⟩ D L C (.int .i64 (-n)) d := by
  obtain ⟨h1, h2, h3⟩ := vF_out h; exact ⟨sd_neg h1 h3 hb, rfl, h2⟩
theorem PK {c x y : Operand} {v : Value} (h : pF E.n ops L d g c x y = some v) : SE E ops ⟨some d, .pick c x y, ty, ps, af, g⟩ D L C v d := by
  unfold pF at h
  split at h
  · rename_i hb
    split at h
    · rename_i hc; exact ⟨sd_pick_t (gB1 hb) hc h, rfl, gB2 hb⟩
    · rename_i hc; exact ⟨sd_pick_f (gB1 hb) hc h, rfl, gB2 hb⟩
    · cases h
  · cases h
theorem EX {x : Operand} {i : Nat} {v : Value} (h : xF E.n ops L d g x i = some v) : SE E ops ⟨some d, .extract x i, ty, ps, af, g⟩ D L C v d := by
  unfold xF at h
  split at h
  · rename_i vs hv
    obtain ⟨h1, h2, h3⟩ := vF_out hv
    exact ⟨sd_extract (vs := vs.toList) h1 (by simpa using h3) h, rfl, h2⟩
  · cases h
theorem LN {x : Operand} {t e : TypeId} {A : Option Addr} {n c : Nat} (h : vF E.n ops L d g x = some (.slice A n c)) (ht : E.P.underlying t = some (.slice e)) :
    SE E ops ⟨some d, .call { callee := .builtin .len, args := #[x], argTypes := #[t] }, ty, ps, af, g⟩ D L C (.int .i64 n) d := by
  obtain ⟨h1, h2, h3⟩ := vF_out h; exact ⟨sd_len h1 h3 ht, rfl, h2⟩
theorem BI {op : BinOp} {xt yt : TypeId} {x y : Operand} {u v r : Value} (h : bF E.n ops L d g x y = some (u, v)) (hb : BinRun E.P op xt x y u v r) : SE E ops ⟨some d, .binOp op xt x y yt, ty, ps, af, g⟩ D L C r d := by
  obtain ⟨h1, h2, h3, h4⟩ := bF_out h; exact ⟨sd_bin h1 h3 h4 hb, rfl, h2⟩
theorem MN {x y : Operand} {ts : Array TypeId} {a b : Int} {k : IntKind} (h : bF E.n ops L d g x y = some (.int k a, .int k b)) :
    SE E ops ⟨some d, .call { callee := .builtin .min, args := #[x, y], argTypes := ts }, ty, ps, af, g⟩ D L C (.int k (min a b)) d := by
  obtain ⟨h1, h2, h3, h4⟩ := bF_out h; exact ⟨sd_min h1 h3 h4, rfl, h2⟩
theorem MX {x y : Operand} {ts : Array TypeId} {a b : Int} {k : IntKind} (h : bF E.n ops L d g x y = some (.int k a, .int k b)) :
    SE E ops ⟨some d, .call { callee := .builtin .max, args := #[x, y], argTypes := ts }, ty, ps, af, g⟩ D L C (.int k (max a b)) d := by
  obtain ⟨h1, h2, h3, h4⟩ := bF_out h; exact ⟨sd_max h1 h3 h4, rfl, h2⟩
theorem FA (o' : Nat) {x : Operand} {b o s f k : Nat} (h : vF E.n ops L d g x = some (.pointer (some ⟨b, o, none⟩))) (hf : fOff E.P s f = some k) (ho : o + k = o') :
    SE E ops ⟨some d, .fieldAddr s x f, ty, ps, af, g⟩ D L C (.pointer (some ⟨b, o', none⟩)) d := by
  obtain ⟨h1, h2, h3⟩ := vF_out h; exact ⟨sd_fa h1 h3 hf ho, rfl, h2⟩
theorem FAR (k' : Nat) {x : Operand} {A : Option Addr} {n sz : Nat} {es : List (List Value)} {k0 s f k : Nat} (h : vF E.n ops L d g x = some (.pointer (padd A k0))) (hR : Has C (rd A n sz es).holds) (hn : 0 < n * sz)
    (hf : fOff E.P s f = some k) (ho : k0 + k = k') : SE E ops ⟨some d, .fieldAddr s x f, ty, ps, af, g⟩ D L C (.pointer (padd A k')) d := by
  obtain ⟨h1, h2, h3⟩ := vF_out h; exact ⟨sd_fa_rd h1 h3 hR hn hf ho, rfl, h2⟩
theorem IA (k : Nat) {x ix : Operand} {A : Option Addr} {n c sz e t : Nat} {es : List (List Value)} {j : Int} (h : bF E.n ops L d g x ix = some (.slice A n c, .int .i64 j)) (hR : Has C (rd A n sz es).holds)
    (ht : tE E.P t = some (e, sz)) (hz : 0 < sz) (hj : j = (k : Int)) (hk : k < n) : SE E ops ⟨some d, .indexAddr t x ix, ty, ps, af, g⟩ D L C (.pointer (padd A (k * sz))) d := by
  obtain ⟨h1, h2, h3, h4⟩ := bF_out h; exact ⟨sd_ia h1 h3 h4 hR ht hz hj hk, rfl, h2⟩
/-- the whole of a block, a part of it, one cell -/
theorem LW (i : Nat) {x : Operand} {b t tt n : Nat} {cs : List Value} (h : vF E.n ops L d g x = some (.pointer (some ⟨b, 0, none⟩))) (ht : tK E.P t = some (true, n)) (hC : C[i]? = some (blk b tt cs)) (hn : cs.length = n) :
    SE E ops ⟨some d, .load t x, ty, ps, af, g⟩ D L C (.agg cs.toArray) d := by
  obtain ⟨h1, h2, h3⟩ := vF_out h; exact ⟨sd_ldn h1 h3 ht (at_blk i hC (by simp)) hn, rfl, h2⟩
theorem LWR (i : Nat) {x : Operand} {b t tt n : Nat} {cs : List Value} (h : vF E.n ops L d g x = some (.pointer (some ⟨b, 0, none⟩))) (ht : tK E.P t = some (true, n)) (hC : C[i]? = some (blk b tt cs).ro) (hn : cs.length = n) :
    SE E ops ⟨some d, .load t x, ty, ps, af, g⟩ D L C (.agg cs.toArray) d := by
  obtain ⟨h1, h2, h3⟩ := vF_out h; exact ⟨sd_ldn h1 h3 ht (at_blkr i hC (by simp)) hn, rfl, h2⟩
theorem LP (vs : List Value) (i : Nat) {x : Operand} {b o t tt n : Nat} {cs : List Value} (h : vF E.n ops L d g x = some (.pointer (some ⟨b, o, none⟩))) (ht : tK E.P t = some (true, n)) (hC : C[i]? = some (blk b tt cs)) (hv : (cs.drop o).take vs.length = vs) (hn : vs.length = n) :
    SE E ops ⟨some d, .load t x, ty, ps, af, g⟩ D L C (.agg vs.toArray) d := by
  obtain ⟨h1, h2, h3⟩ := vF_out h; exact ⟨sd_ldn h1 h3 ht (at_blk i hC hv) hn, rfl, h2⟩
theorem LPR (vs : List Value) (i : Nat) {x : Operand} {b o t tt n : Nat} {cs : List Value} (h : vF E.n ops L d g x = some (.pointer (some ⟨b, o, none⟩))) (ht : tK E.P t = some (true, n)) (hC : C[i]? = some (blk b tt cs).ro) (hv : (cs.drop o).take vs.length = vs) (hn : vs.length = n) :
    SE E ops ⟨some d, .load t x, ty, ps, af, g⟩ D L C (.agg vs.toArray) d := by
  obtain ⟨h1, h2, h3⟩ := vF_out h; exact ⟨sd_ldn h1 h3 ht (at_blkr i hC hv) hn, rfl, h2⟩
theorem L1 (v : Value) (i : Nat) {x : Operand} {b o t tt n : Nat} {cs : List Value} (h : vF E.n ops L d g x = some (.pointer (some ⟨b, o, none⟩))) (ht : tK E.P t = some (false, n)) (hC : C[i]? = some (blk b tt cs)) (hv : (cs.drop o).take 1 = [v]) :
    SE E ops ⟨some d, .load t x, ty, ps, af, g⟩ D L C v d := by
  obtain ⟨h1, h2, h3⟩ := vF_out h; exact ⟨sd_ld1 h1 h3 ht (at_blk i hC hv), rfl, h2⟩
theorem L1R (v : Value) (i : Nat) {x : Operand} {b o t tt n : Nat} {cs : List Value} (h : vF E.n ops L d g x = some (.pointer (some ⟨b, o, none⟩))) (ht : tK E.P t = some (false, n)) (hC : C[i]? = some (blk b tt cs).ro) (hv : (cs.drop o).take 1 = [v]) :
    SE E ops ⟨some d, .load t x, ty, ps, af, g⟩ D L C v d := by
  obtain ⟨h1, h2, h3⟩ := vF_out h; exact ⟨sd_ld1 h1 h3 ht (at_blkr i hC hv), rfl, h2⟩
theorem L1W (i : Nat) {x : Operand} {b t tt n : Nat} {v : Value} (h : vF E.n ops L d g x = some (.pointer (some ⟨b, 0, none⟩))) (ht : tK E.P t = some (false, n)) (hC : C[i]? = some (blk b tt [v])) :
    SE E ops ⟨some d, .load t x, ty, ps, af, g⟩ D L C v d := by
  obtain ⟨h1, h2, h3⟩ := vF_out h; exact ⟨sd_ld1 h1 h3 ht (at_blk i hC rfl), rfl, h2⟩
theorem L1Q (i : Nat) {x : Operand} {b t tt n : Nat} {v : Value} (h : vF E.n ops L d g x = some (.pointer (some ⟨b, 0, none⟩))) (ht : tK E.P t = some (false, n)) (hC : C[i]? = some (blk b tt [v]).ro) :
    SE E ops ⟨some d, .load t x, ty, ps, af, g⟩ D L C v d := by
  obtain ⟨h1, h2, h3⟩ := vF_out h; exact ⟨sd_ld1 h1 h3 ht (at_blkr i hC rfl), rfl, h2⟩
/-- what is read of a row -/
theorem LE1 (k o : Nat) (v : Value) {x : Operand} {A : Option Addr} {t m n sz : Nat} {es : List (List Value)} {e : List Value} (h : vF E.n ops L d g x = some (.pointer (padd A m))) {nn : Nat} (ht : tK E.P t = some (false, nn)) (hR : Has C (rd A n sz es).holds) (he : es[k]? = some e) (hm : m = k * sz + o) (hz : 0 < sz) (hv : (e.drop o).take 1 = [v]) :
    SE E ops ⟨some d, .load t x, ty, ps, af, g⟩ D L C v d := by
  obtain ⟨h1, h2, h3⟩ := vF_out h; exact ⟨sd_ld1 h1 h3 ht (at_rd hR he hm hz hv), rfl, h2⟩
theorem LEN (k o : Nat) (vs : List Value) {x : Operand} {A : Option Addr} {t m n sz : Nat} {es : List (List Value)} {e : List Value} (h : vF E.n ops L d g x = some (.pointer (padd A m))) {nn : Nat} (ht : tK E.P t = some (true, nn)) (hR : Has C (rd A n sz es).holds) (he : es[k]? = some e) (hm : m = k * sz + o) (hz : 0 < sz) (hv : (e.drop o).take vs.length = vs) (hn : vs.length = nn) :
    SE E ops ⟨some d, .load t x, ty, ps, af, g⟩ D L C (.agg vs.toArray) d := by
  obtain ⟨h1, h2, h3⟩ := vF_out h; exact ⟨sd_ldn h1 h3 ht (at_rd hR he hm hz hv) hn, rfl, h2⟩
theorem CL {fop : Operand} {xs : Array Operand} {ts : Array TypeId} {f : FuncId} {args : List Value} {Cp : List Assn} {v : Value} (c : FnV E.P f args Cp v) (hC : HasAll C Cp) (h : cF E.n ops L d g fop xs.toList = some (f, args)) :
    SE E ops ⟨some d, .call { callee := .value fop, args := xs, argTypes := ts }, ty, ps, af, g⟩ D L C v d := by
  unfold cF at h
  split at h
  · rename_i hb
    split at h
    · rename_i hf hx; cases h; exact ⟨sd_call (gB1 hb) hf hx rfl c hC, rfl, gB2 hb⟩
    · cases h
  · cases h
theorem FU {fn : Fn} {xs ys : Array Operand} {us vs : List Value} (h : uF E.n ops L d g xs.toList ys.toList = some (us, vs)) : SE E ops ⟨some d, .makeFunc fn xs ys, ty, ps, af, g⟩ D L C (.func fn us.toArray vs.toArray) d := by
  obtain ⟨h1, h2, h3, h4⟩ := uF_out h; exact ⟨sd_func h1 h3 h4, rfl, h2⟩
theorem cX {fop : Operand} {xs : Array Operand} {ts : Array TypeId} {f : FuncId} {args : List Value} {Cp : List Assn} {α : Type} {V : α → Value} {p : α → Prop} {N : α → List Assn} (c : FnX E.P f args Cp V p N) (hC : HasAll C Cp)
    (h : cF E.n ops L d g fop xs.toList = some (f, args)) (k : ∀ x, p x → RJ E ops Q rest D ((d, V x) :: L) (N x ++ C)) :
    RJ E ops Q (⟨some d, .call { callee := .value fop, args := xs, argTypes := ts }, ty, ps, af, g⟩ :: rest) D L C := by
  unfold cF at h
  split at h
  · rename_i hb
    split at h
    · rename_i hf hx; cases h; exact r_call (gB1 hb) hf hx rfl c hC (gB2 hb) k
    · cases h
  · cases h
/-- a box of a struct, of one cell -/
theorem BXA {t : TypeId} {x : Operand} {cs : List Value} (h : vF E.n ops L d g x = some (.agg cs.toArray)) (k : ∀ b, RJ E ops Q rest D ((d, .pointer (some ⟨b, 0, none⟩)) :: L) (blk b t cs :: C)) :
    RJ E ops Q (⟨some d, .box t x, ty, ps, af, g⟩ :: rest) D L C := by
  obtain ⟨h1, h2, h3⟩ := vF_out h; exact r_box h1 h3 rfl h2 k
theorem BX1 {t : TypeId} {x : Operand} {v : Value} (h : vF E.n ops L d g x = some v) (hv : v.cells.toList = [v]) (k : ∀ b, RJ E ops Q rest D ((d, .pointer (some ⟨b, 0, none⟩)) :: L) (blk b t [v] :: C)) :
    RJ E ops Q (⟨some d, .box t x, ty, ps, af, g⟩ :: rest) D L C := by
  obtain ⟨h1, h2, h3⟩ := vF_out h; exact r_box h1 h3 hv h2 k
theorem AL {t : TypeId} {cs : List Value} (h : gB E.n ops L d g = true) (hz : tZ E.P t = some cs) (k : ∀ b, RJ E ops Q rest D ((d, .pointer (some ⟨b, 0, none⟩)) :: L) (blk b t cs :: C)) :
    RJ E ops Q (⟨some d, .alloc t, ty, ps, af, g⟩ :: rest) D L C := r_alloc (gB1 h) hz (gB2 h) k
/-- a store into the block at the place i of the state -/
def sF (ops : Array Oper) (L : List (Nat × Value)) (g : Option (Nat × Bool)) (x y : Operand) : Option (Value × Value) := match gOn ops L g with
  | true => match ev L x, ev L y with
    | some u, some v => some (u, v)
    | _, _ => none
  | false => none
theorem sF_out {ops : Array Oper} {L : List (Nat × Value)} {g : Option (Nat × Bool)} {x y : Operand} {u v : Value} (h : sF ops L g x y = some (u, v)) : gOn ops L g = true ∧ ev L x = some u ∧ ev L y = some v := by
  unfold sF at h
  split at h
  · rename_i hb
    split at h
    · rename_i hx hy; cases h; exact ⟨hb, hx, hy⟩
    · cases h
  · cases h
theorem st_ {t n b o tt : Nat} {x y : Operand} {v : Value} {cs cs' : List Value} {C' : List Assn} (i : Nat) (h : sF ops L g x y = some (.pointer (some ⟨b, o, none⟩), v)) (ht : (tK E.P t).map (·.2) = some n) (hC : C[i]? = some (blk b tt cs))
    (hk : (v.cells.toList.length == n && v.cells.toList.all Value.oneCell' && Nat.ble (o + n) cs.length) = true) (hcs : cs.take o ++ v.cells.toList ++ cs.drop (o + n) = cs') (hC' : C.set i (blk b tt cs') = C') (k : RJ E ops Q rest D L C') :
    RJ E ops Q (⟨none, .store t x y, ty, ps, af, g⟩ :: rest) D L C := by
  obtain ⟨h1, h2, h3⟩ := sF_out h
  simp only [Bool.and_eq_true, beq_iff_eq] at hk
  exact r_store i h1 h2 h3 ht rfl hk.1.1 hk.1.2 hC hk.2 hcs hC' k
/-- a store of a whole block, by a struct, by one cell -/
theorem sw_ {t n b tt : Nat} {x y : Operand} {cs cs' : List Value} {C' : List Assn} (i : Nat) (h : sF ops L g x y = some (.pointer (some ⟨b, 0, none⟩), .agg cs'.toArray)) (ht : (tK E.P t).map (·.2) = some n) (hC : C[i]? = some (blk b tt cs))
    (hk : (Nat.beq cs'.length n && cs'.all Value.oneCell' && Nat.beq n cs.length) = true) (hC' : C.set i (blk b tt cs') = C') (k : RJ E ops Q rest D L C') :
    RJ E ops Q (⟨none, .store t x y, ty, ps, af, g⟩ :: rest) D L C := by
  obtain ⟨h1, h2, h3⟩ := sF_out h
  simp only [Bool.and_eq_true] at hk
  obtain ⟨⟨hk1, hk2⟩, hk3⟩ := hk
  have e1 := Nat.eq_of_beq_eq_true hk1
  have e3 := Nat.eq_of_beq_eq_true hk3
  exact r_store i h1 h2 h3 ht rfl e1 hk2 hC (by rw [Nat.zero_add, e3]; exact Nat.ble_self_eq_true _) (by rw [Nat.zero_add, e3, List.take_zero, List.drop_length]; show [] ++ cs' ++ [] = cs'; simp) hC' k
theorem s1_ {t n b tt : Nat} {x y : Operand} {v u : Value} {C' : List Assn} (i : Nat) (h : sF ops L g x y = some (.pointer (some ⟨b, 0, none⟩), v)) (ht : (tK E.P t).map (·.2) = some n) (hC : C[i]? = some (blk b tt [u]))
    (hv : v.cells.toList = [v]) (hk : (Nat.beq n 1 && v.oneCell') = true) (hC' : C.set i (blk b tt [v]) = C') (k : RJ E ops Q rest D L C') :
    RJ E ops Q (⟨none, .store t x y, ty, ps, af, g⟩ :: rest) D L C := by
  obtain ⟨h1, h2, h3⟩ := sF_out h
  rw [Bool.and_eq_true] at hk
  obtain ⟨hk1, hk2⟩ := hk
  have e1 := Nat.eq_of_beq_eq_true hk1
  subst e1
  exact r_store i h1 h2 h3 ht hv rfl (by simp [hk2]) hC rfl rfl hC' k
theorem SW0 {t n b tt : Nat} {x y : Operand} {cs cs' : List Value} (h : sF ops L g x y = some (.pointer (some ⟨b, 0, none⟩), .agg cs'.toArray)) (ht : (tK E.P t).map (·.2) = some n) (hk : (Nat.beq cs'.length n && cs'.all Value.oneCell' && Nat.beq n cs.length) = true) (k : RJ E ops Q rest D L (blk b tt cs' :: C)) : RJ E ops Q (⟨none, .store t x y, ty, ps, af, g⟩ :: rest) D L (blk b tt cs :: C) := sw_ 0 h ht rfl hk rfl k
theorem SO0 {t n b tt : Nat} {x y : Operand} {v u : Value} (h : sF ops L g x y = some (.pointer (some ⟨b, 0, none⟩), v)) (ht : (tK E.P t).map (·.2) = some n) (hv : v.cells.toList = [v]) (hk : (Nat.beq n 1 && v.oneCell') = true) (k : RJ E ops Q rest D L (blk b tt [v] :: C)) : RJ E ops Q (⟨none, .store t x y, ty, ps, af, g⟩ :: rest) D L (blk b tt [u] :: C) := s1_ 0 h ht rfl hv hk rfl k
theorem SW1 {t n b tt : Nat} {x y : Operand} {cs cs' : List Value} {A0 : Assn} (h : sF ops L g x y = some (.pointer (some ⟨b, 0, none⟩), .agg cs'.toArray)) (ht : (tK E.P t).map (·.2) = some n) (hk : (Nat.beq cs'.length n && cs'.all Value.oneCell' && Nat.beq n cs.length) = true) (k : RJ E ops Q rest D L (A0 :: blk b tt cs' :: C)) : RJ E ops Q (⟨none, .store t x y, ty, ps, af, g⟩ :: rest) D L (A0 :: blk b tt cs :: C) := sw_ 1 h ht rfl hk rfl k
theorem SW2 {t n b tt : Nat} {x y : Operand} {cs cs' : List Value} {A0 A1 : Assn} (h : sF ops L g x y = some (.pointer (some ⟨b, 0, none⟩), .agg cs'.toArray)) (ht : (tK E.P t).map (·.2) = some n) (hk : (Nat.beq cs'.length n && cs'.all Value.oneCell' && Nat.beq n cs.length) = true) (k : RJ E ops Q rest D L (A0 :: A1 :: blk b tt cs' :: C)) : RJ E ops Q (⟨none, .store t x y, ty, ps, af, g⟩ :: rest) D L (A0 :: A1 :: blk b tt cs :: C) := sw_ 2 h ht rfl hk rfl k
theorem SW3 {t n b tt : Nat} {x y : Operand} {cs cs' : List Value} {A0 A1 A2 : Assn} (h : sF ops L g x y = some (.pointer (some ⟨b, 0, none⟩), .agg cs'.toArray)) (ht : (tK E.P t).map (·.2) = some n) (hk : (Nat.beq cs'.length n && cs'.all Value.oneCell' && Nat.beq n cs.length) = true) (k : RJ E ops Q rest D L (A0 :: A1 :: A2 :: blk b tt cs' :: C)) : RJ E ops Q (⟨none, .store t x y, ty, ps, af, g⟩ :: rest) D L (A0 :: A1 :: A2 :: blk b tt cs :: C) := sw_ 3 h ht rfl hk rfl k
theorem SO3 {t n b tt : Nat} {x y : Operand} {v u : Value} {A0 A1 A2 : Assn} (h : sF ops L g x y = some (.pointer (some ⟨b, 0, none⟩), v)) (ht : (tK E.P t).map (·.2) = some n) (hv : v.cells.toList = [v]) (hk : (Nat.beq n 1 && v.oneCell') = true) (k : RJ E ops Q rest D L (A0 :: A1 :: A2 :: blk b tt [v] :: C)) : RJ E ops Q (⟨none, .store t x y, ty, ps, af, g⟩ :: rest) D L (A0 :: A1 :: A2 :: blk b tt [u] :: C) := s1_ 3 h ht rfl hv hk rfl k
theorem SW4 {t n b tt : Nat} {x y : Operand} {cs cs' : List Value} {A0 A1 A2 A3 : Assn} (h : sF ops L g x y = some (.pointer (some ⟨b, 0, none⟩), .agg cs'.toArray)) (ht : (tK E.P t).map (·.2) = some n) (hk : (Nat.beq cs'.length n && cs'.all Value.oneCell' && Nat.beq n cs.length) = true) (k : RJ E ops Q rest D L (A0 :: A1 :: A2 :: A3 :: blk b tt cs' :: C)) : RJ E ops Q (⟨none, .store t x y, ty, ps, af, g⟩ :: rest) D L (A0 :: A1 :: A2 :: A3 :: blk b tt cs :: C) := sw_ 4 h ht rfl hk rfl k
theorem SW5 {t n b tt : Nat} {x y : Operand} {cs cs' : List Value} {A0 A1 A2 A3 A4 : Assn} (h : sF ops L g x y = some (.pointer (some ⟨b, 0, none⟩), .agg cs'.toArray)) (ht : (tK E.P t).map (·.2) = some n) (hk : (Nat.beq cs'.length n && cs'.all Value.oneCell' && Nat.beq n cs.length) = true) (k : RJ E ops Q rest D L (A0 :: A1 :: A2 :: A3 :: A4 :: blk b tt cs' :: C)) : RJ E ops Q (⟨none, .store t x y, ty, ps, af, g⟩ :: rest) D L (A0 :: A1 :: A2 :: A3 :: A4 :: blk b tt cs :: C) := sw_ 5 h ht rfl hk rfl k
theorem ST5 (cs' : List Value) {t n b o tt : Nat} {x y : Operand} {v : Value} {cs : List Value} {A0 A1 A2 A3 A4 : Assn} (h : sF ops L g x y = some (.pointer (some ⟨b, o, none⟩), v)) (ht : (tK E.P t).map (·.2) = some n) (hk : (v.cells.toList.length == n && v.cells.toList.all Value.oneCell' && Nat.ble (o + n) cs.length) = true) (hcs : cs.take o ++ v.cells.toList ++ cs.drop (o + n) = cs') (k : RJ E ops Q rest D L (A0 :: A1 :: A2 :: A3 :: A4 :: blk b tt cs' :: C)) : RJ E ops Q (⟨none, .store t x y, ty, ps, af, g⟩ :: rest) D L (A0 :: A1 :: A2 :: A3 :: A4 :: blk b tt cs :: C) := st_ 5 h ht rfl hk hcs rfl k
theorem SO6 {t n b tt : Nat} {x y : Operand} {v u : Value} {A0 A1 A2 A3 A4 A5 : Assn} (h : sF ops L g x y = some (.pointer (some ⟨b, 0, none⟩), v)) (ht : (tK E.P t).map (·.2) = some n) (hv : v.cells.toList = [v]) (hk : (Nat.beq n 1 && v.oneCell') = true) (k : RJ E ops Q rest D L (A0 :: A1 :: A2 :: A3 :: A4 :: A5 :: blk b tt [v] :: C)) : RJ E ops Q (⟨none, .store t x y, ty, ps, af, g⟩ :: rest) D L (A0 :: A1 :: A2 :: A3 :: A4 :: A5 :: blk b tt [u] :: C) := s1_ 6 h ht rfl hv hk rfl k
end
section
variable {E : Env} {y : Code} {Q : Post} {D : List Deferred} {L : List (Nat × Value)} {C : List Assn}
theorem WS {id : Nat} {ops : Array Oper} (h : ∀ K : Act → World → Prop, (∀ D L C, WJ E y Q D L C → KJ E K D L C) → RJ E ops (Exit.then K Q) ops.toList D L C) : WJ E (.seq (.region id ops false) y) Q D L C := w_seq fun K hK => w_region (h K hK)
theorem RK {ops : Array Oper} {K : Act → World → Prop} {Q' : Post} (hK : ∀ D L C, WJ E y Q D L C → KJ E K D L C) (k : WJ E y Q D L C) : RJ E ops (Exit.then K Q') [] D L C := r_nil (k_then (hK _ _ _ k))
theorem KK {K : Act → World → Prop} {Q' : Post} (hK : ∀ D L C, WJ E y Q D L C → KJ E K D L C) (k : WJ E y Q D L C) : KJ E (Exit.then K Q' .normal) D L C := k_then (hK _ _ _ k)
theorem WK {K : Act → World → Prop} {Q' : Post} (hK : ∀ D L C, WJ E y Q D L C → KJ E K D L C) (k : WJ E y Q D L C) : WJ E .skip (Exit.then K Q') D L C := w_skip (k_then (hK _ _ _ k))
end
theorem DT {p : Prop} [Decidable p] (h : decide p = true) : p := of_decide_eq_true h
theorem DF {p : Prop} [Decidable p] (h : decide p = false) : ¬ p := of_decide_eq_false h
theorem XT {p : Prop} [Decidable p] (h : (!decide p) = true) : ¬ p := by simpa using h
theorem XF {p : Prop} [Decidable p] (h : (!decide p) = false) : p := by simpa using h
/-- what a function hands back: one result, two, three, that lie in slots -/
theorem Q1 {E : Env} {fn : Func} {K : Act → World → Prop} {L : List (Nat × Value)} {C : List Assn} {t : Nat} {u v : Value} (hQ : ∀ D L C, LJ E fn (EndV E.w0 v) D L C → KJ E K D L C) (hS : E.S = fnS) (hr : fn.results.toList = [.tmp t]) (hl : L.lookup t = some u) (e : u = v) : KJ E K [] L C :=
  hQ _ _ _ (l_nil (vs := [u]) (by rw [hr]; exact ⟨hl, trivial⟩) fun w hs => endV e (by rw [hS] at hs; exact hs))
theorem Q2 {E : Env} {fn : Func} {K : Act → World → Prop} {L : List (Nat × Value)} {C : List Assn} {t s : Nat} {u x v : Value} (hQ : ∀ D L C, LJ E fn (EndV E.w0 v) D L C → KJ E K D L C) (hS : E.S = fnS) (hr : fn.results.toList = [.tmp t, .tmp s]) (hl : L.lookup t = some u) (hm : L.lookup s = some x) (e : Value.tuple [u, x].toArray = v) : KJ E K [] L C :=
  hQ _ _ _ (l_nil (vs := [u, x]) (by rw [hr]; exact ⟨hl, hm, trivial⟩) fun w hs => endV e (by rw [hS] at hs; exact hs))
theorem N1 {E : Env} {ops : Array Oper} {D : List Deferred} {C' C1 : List Assn} {F : List (Nat × Value) → List Assn → Prop} {tb rem : List Nat} {n : Nat} {L : List (Nat × Value)} {C : List Assn} (i : Nat)
    (h : NStep E ops D C' C1 F tb n (rem.filter (· != i)) i L C) (hm : rem.filter (fun i => rem.all fun j => !ancB (msk ops) j i) = [i] := by kernel_rfl) : TN E ops D C' C1 F tb (n + 1) rem L C := n_step [i] hm (n_cons h n_nil)
theorem NO {E : Env} {ops : Array Oper} {D : List Deferred} {C' C1 : List Assn} {F : List (Nat × Value) → List Assn → Prop} {tb rem : List Nat} {n i : Nat} {L : List (Nat × Value)} {C : List Assn} {o : Oper} (ho : ops[i]? = some o) (ht : tb.contains i = false) (rem' : List Nat)
    (h : ∀ K : Act → World → Prop, (∀ L' C'', (∀ w, St E.S E.w0 C'' w → St E.S E.w0 C' w) → TN E ops D C' C1 F tb n rem' L' C'' → KJ E K D L' C'') → RJ E ops (NQ K) [o] D L C) (hr : rem = rem' := by kernel_rfl) : NStep E ops D C' C1 F tb n rem i L C := n_op ho hr ht h
theorem RN {E : Env} {ops : Array Oper} {K : Act → World → Prop} {D : List Deferred} {L : List (Nat × Value)} {C C' : List Assn} {X : List (Nat × Value) → List Assn → Prop} (hT : ∀ L' C'', (∀ w, St E.S E.w0 C'' w → St E.S E.w0 C' w) → X L' C'' → KJ E K D L' C'')
    (l : List Nat) (h1 : decide l.Nodup = true) (h2 : sel C l = C') (h : X L C) : RJ E ops (NQ K) [] D L C := r_nil (hT _ _ (fun w hs => St.sel l h1 h2 hs) h)
theorem RD {E : Env} {ops : Array Oper} {K : Act → World → Prop} {D : List Deferred} {L : List (Nat × Value)} {C C' : List Assn} {X : List (Nat × Value) → List Assn → Prop} (hT : ∀ L' C'', (∀ w, St E.S E.w0 C'' w → St E.S E.w0 C' w) → X L' C'' → KJ E K D L' C'')
    (k : Nat) (h2 : C.drop k = C') (h : X L C) : RJ E ops (NQ K) [] D L C := r_nil (hT _ _ (fun w hs => h2 ▸ hs.take (List.drop_sublist k C)) h)
theorem ha3 {C : List Assn} {A A' B B' D D' : Assn} (i j k : Nat) (h1 : C[i]? = some A') (e1 : A'.holds = A.holds) (h2 : C[j]? = some B') (e2 : B'.holds = B.holds) (h3 : C[k]? = some D') (e3 : D'.holds = D.holds) : HasAll C [A, B, D] := ha_at i h1 e1 (ha_at j h2 e2 (ha_at k h3 e3 ha_nil))
end
section
set_option linter.unusedVariables false
def addZ (a b : SpanV) : SpanV := ⟨a.Lo + b.Lo, a.Hi + b.Hi⟩
def zeroZ : SpanV := ⟨0, 0⟩
def plusF (a : SpanV) (l : List SpanV) : SpanV := l.foldl addZ a
def In12 (z : SpanV) : Prop := (-1000000000 ≤ z.Lo ∧ z.Lo ≤ 1000000000) ∧ -1000000000 ≤ z.Hi ∧ z.Hi ≤ 1000000000
theorem plus_take {a : SpanV} {l : List SpanV} {i : Nat} {z : SpanV} (h : l[i]? = some z) : plusF a (l.take (i + 1)) = addZ (plusF a (l.take i)) z := by
  rw [List.take_add_one, h]; unfold plusF; simp
theorem plus_b {a : SpanV} {l : List SpanV} (ha : In12 a) (hl : ∀ z ∈ l, In12 z) : ∀ i : Nat, (-1000000000 - 1000000000 * (i : Int) ≤ (plusF a (l.take i)).Lo ∧ (plusF a (l.take i)).Lo ≤ 1000000000 + 1000000000 * (i : Int)) ∧ -1000000000 - 1000000000 * (i : Int) ≤ (plusF a (l.take i)).Hi ∧ (plusF a (l.take i)).Hi ≤ 1000000000 + 1000000000 * (i : Int) := by
  intro i
  induction i with
  | zero => unfold In12 at ha; simp [plusF]; omega
  | succ i ih =>
    cases h : l[i]? with
    | none => rw [List.take_add_one, h]; simp only [Option.toList_none, List.append_nil]; omega
    | some z =>
      have hz := hl z (List.mem_of_getElem? h)
      unfold In12 at hz
      rw [plus_take h]
      simp only [addZ]
      omega
theorem plus_all {a : SpanV} {l : List SpanV} {i : Nat} (h : l.length ≤ i) : plusF a (l.take i) = plusF a l := by rw [List.take_of_length_le h]
theorem plus_one {a z : SpanV} : Value.agg (SpanV.cells (plusF a [z])).toArray = Value.agg (SpanV.cells (addZ a z)).toArray := rfl
theorem plus_two {a y z : SpanV} : Value.agg (SpanV.cells (plusF a [y, z])).toArray = Value.agg (SpanV.cells (addZ (addZ a y) z)).toArray := rfl
/-- how long the run is from one mark, over so many stretches; by how much it falls -/
def longF (ts : List StretchV) (f : Nat) : Nat → SpanV
  | 0 => zeroZ
  | k + 1 => match ts[f + k]? with
    | some x => addZ (longF ts f k) x.Long
    | none => longF ts f k
def fallF (ts : List StretchV) (f : Nat) : Nat → SpanV
  | 0 => zeroZ
  | k + 1 => match ts[f + k]? with
    | some x => addZ (fallF ts f k) x.Fall
    | none => fallF ts f k
theorem longF_succ {ts : List StretchV} {f k : Nat} {x : StretchV} (h : ts[f + k]? = some x) : longF ts f (k + 1) = addZ (longF ts f k) x.Long := by simp [longF, h]
theorem fallF_succ {ts : List StretchV} {f k : Nat} {x : StretchV} (h : ts[f + k]? = some x) : fallF ts f (k + 1) = addZ (fallF ts f k) x.Fall := by simp [fallF, h]
theorem longF_b {ts : List StretchV} (ht : ∀ x ∈ ts, StretchOk x) (f : Nat) : ∀ k : Nat, (0 ≤ (longF ts f k).Lo ∧ (longF ts f k).Lo ≤ (longF ts f k).Hi) ∧ (longF ts f k).Hi ≤ 30000 * (k : Int) := by
  intro k
  induction k with
  | zero => simp [longF, zeroZ]
  | succ k ih =>
    simp only [longF]
    cases h : ts[f + k]? with
    | none => simp only; omega
    | some x =>
      have hx := (ht x (List.mem_of_getElem? h)).2.1
      simp only [SpanOk] at hx
      simp only [addZ]
      omega
theorem fallF_b {ts : List StretchV} (ht : ∀ x ∈ ts, StretchOk x) (f : Nat) : ∀ k : Nat, (0 ≤ (fallF ts f k).Lo ∧ (fallF ts f k).Lo ≤ (fallF ts f k).Hi) ∧ (fallF ts f k).Hi ≤ 5000 * (k : Int) := by
  intro k
  induction k with
  | zero => simp [fallF, zeroZ]
  | succ k ih =>
    simp only [fallF]
    cases h : ts[f + k]? with
    | none => simp only; omega
    | some x =>
      have hx := (ht x (List.mem_of_getElem? h)).2.2.1
      simp only [SpanOk] at hx
      simp only [addZ]
      omega
theorem longF_in {ts : List StretchV} (ht : ∀ x ∈ ts, StretchOk x) {f k : Nat} (hk : k ≤ 13) : In12 (longF ts f k) := by
  have := longF_b ht f k; unfold In12; omega
theorem fallF_in {ts : List StretchV} (ht : ∀ x ∈ ts, StretchOk x) {f k : Nat} (hk : k ≤ 13) : In12 (fallF ts f k) := by
  have := fallF_b ht f k; unfold In12; omega
theorem long_in12 {x : StretchV} (h : StretchOk x) : In12 x.Long := by have := h.2.1; simp only [SpanOk] at this; unfold In12; omega
theorem fall_in12 {x : StretchV} (h : StretchOk x) : In12 x.Fall := by have := h.2.2.1; simp only [SpanOk] at this; unfold In12; omega
theorem longF_one {ts : List StretchV} {f : Nat} {x : StretchV} (h : ts[f]? = some x) : longF ts f 1 = x.Long := by
  have : ts[f + 0]? = some x := by simpa using h
  rw [longF_succ this]; simp [longF, addZ, zeroZ]
theorem tr_no {ts : List StretchV} (h : ¬ (if trackOk ts = true then (0 : Int) else 10) = 0) : trackOk ts = false ∧ (if trackOk ts = true then (0 : Int) else 10) = 10 := by
  cases ht : trackOk ts with
  | true => rw [ht] at h; exact absurd rfl h
  | false => exact ⟨rfl, rfl⟩
theorem tr_yes {ts : List StretchV} (h : (if trackOk ts = true then (0 : Int) else 10) = 0) : trackOk ts = true := by
  cases ht : trackOk ts with
  | true => rfl
  | false => rw [ht] at h; exact absurd h (by decide)
/-- what the iterator of marks yields -/
def markV (ts : List StretchV) (f : Nat) : List (List Value) := (List.range (ts.length - f + 1)).map fun (k : Nat) => [.agg (longF ts f k).cells.toArray, .agg (fallF ts f k).cells.toArray]
theorem markV_length {ts : List StretchV} {f : Nat} : (markV ts f).length = ts.length - f + 1 := by simp [markV]
theorem markV_get {ts : List StretchV} {f k : Nat} (h : k ≤ ts.length - f) : (markV ts f)[k]? = some [.agg (longF ts f k).cells.toArray, .agg (fallF ts f k).cells.toArray] := by
  simp [markV, List.getElem?_range (show k < ts.length - f + 1 by omega)]
theorem markV_out {ts : List StretchV} {f k : Nat} {x : List Value} (h : (markV ts f)[k]? = some x) : k ≤ ts.length - f ∧ x = [.agg (longF ts f k).cells.toArray, .agg (fallF ts f k).cells.toArray] := by
  have hi : k < ts.length - f + 1 := by
    have := (List.getElem?_eq_some_iff.1 h).1
    simpa [markV] using this
  rw [markV_get (by omega)] at h
  exact ⟨by omega, (Option.some.inj h).symm⟩
theorem markV_lens {ts : List StretchV} {f : Nat} : ∀ x ∈ markV ts f, x.length = 2 := fun x hx => by
  obtain ⟨k, _, rfl⟩ := List.mem_map.1 hx; rfl
def dropE (ts : List StretchV) (f t : Int) : Int := if trackOk ts = true then (if 0 ≤ f ∧ f ≤ t ∧ t ≤ (ts.length : Int) then 0 else 2) else 10
def dropL (ts : List StretchV) (f t : Int) : SpanV := if dropE ts f t = 0 then longF ts f.toNat (t - f).toNat else zeroZ
def dropH (ts : List StretchV) (f t : Int) : SpanV := if dropE ts f t = 0 then fallF ts f.toNat (t - f).toNat else zeroZ
theorem dropE_bad {ts : List StretchV} {f t : Int} (h : trackOk ts = false) : dropE ts f t = 10 ∧ dropL ts f t = zeroZ ∧ dropH ts f t = zeroZ := by
  have e : dropE ts f t = 10 := by unfold dropE; rw [h]; rfl
  exact ⟨e, by unfold dropL; rw [e]; rfl, by unfold dropH; rw [e]; rfl⟩
theorem dropE_out {ts : List StretchV} {f t : Int} (h : trackOk ts = true) (h2 : ¬ (0 ≤ f ∧ f ≤ t ∧ t ≤ (ts.length : Int))) : dropE ts f t = 2 ∧ dropL ts f t = zeroZ ∧ dropH ts f t = zeroZ := by
  have e : dropE ts f t = 2 := by unfold dropE; rw [if_pos h, if_neg h2]
  exact ⟨e, by unfold dropL; rw [e]; rfl, by unfold dropH; rw [e]; rfl⟩
theorem dropE_in {ts : List StretchV} {f t : Int} (h : trackOk ts = true) (h2 : 0 ≤ f ∧ f ≤ t ∧ t ≤ (ts.length : Int)) : dropE ts f t = 0 ∧ dropL ts f t = longF ts f.toNat (t - f).toNat ∧ dropH ts f t = fallF ts f.toNat (t - f).toNat := by
  have e : dropE ts f t = 0 := by unfold dropE; rw [if_pos h, if_pos h2]
  exact ⟨e, if_pos e, if_pos e⟩
end
section
set_option linter.unusedVariables false
def SpotOk (ts : List StretchV) (s : SpotV) : Prop := (0 ≤ s.Stretch ∧ s.Stretch < (ts.length : Int)) ∧ ∃ x, ts[s.Stretch.toNat]? = some x ∧ SpanOk s.Off 0 (x.Long.Lo - 1)
noncomputable instance (ts : List StretchV) (s : SpotV) : Decidable (SpotOk ts s) := Classical.propDecidable _
theorem spot_yes {ts : List StretchV} {s : SpotV} {x : StretchV} (h : 0 ≤ s.Stretch ∧ s.Stretch < (ts.length : Int)) (hx : ts[s.Stretch.toNat]? = some x) : SpotOk ts s ↔ SpanOk s.Off 0 (x.Long.Lo - 1) :=
  ⟨fun h2 => by obtain ⟨y, hy, h3⟩ := h2.2; rw [hx] at hy; cases hy; exact h3, fun h2 => ⟨h, x, hx, h2⟩⟩
theorem spot_out {ts : List StretchV} {s : SpotV} (h : ¬ (0 ≤ s.Stretch ∧ s.Stretch < (ts.length : Int))) : ¬ SpotOk ts s := fun h2 => h h2.1
theorem spot_b {ts : List StretchV} {s : SpotV} (ht : ∀ x ∈ ts, StretchOk x) (h : SpotOk ts s) : (0 ≤ s.Off.Lo ∧ s.Off.Lo ≤ s.Off.Hi) ∧ s.Off.Hi ≤ 30000 := by
  obtain ⟨x, hx, h2⟩ := h.2
  have := (ht x (List.mem_of_getElem? hx)).2.1
  simp only [SpanOk] at h2 this
  omega
theorem stands_one {ts : List StretchV} {a : SpotV} : Value.bool (decide (∀ s ∈ [a], SpotOk ts s)) = Value.bool (decide (SpotOk ts a)) := congrArg _ (decide_eq_decide.2 (by simp))
theorem stands_two {ts : List StretchV} {a b : SpotV} : Value.bool (decide (∀ s ∈ [a, b], SpotOk ts s)) = Value.bool (decide (SpotOk ts a ∧ SpotOk ts b)) := congrArg _ (decide_eq_decide.2 (by simp))
def lessZ (z : SpanV) : SpanV := ⟨-z.Hi, -z.Lo⟩
def atF (ts : List StretchV) (s : SpotV) : SpanV := addZ (longF ts 0 s.Stretch.toNat) s.Off
noncomputable def atE (ts : List StretchV) (s : SpotV) : Int := if trackOk ts = true then (if SpotOk ts s then 0 else 12) else 10
noncomputable def atV (ts : List StretchV) (s : SpotV) : SpanV := if atE ts s = 0 then atF ts s else zeroZ
theorem at_bad {ts : List StretchV} {s : SpotV} (h : trackOk ts = false) : atE ts s = 10 ∧ atV ts s = zeroZ := by
  have e : atE ts s = 10 := by unfold atE; rw [h]; rfl
  exact ⟨e, by unfold atV; rw [e]; rfl⟩
theorem at_out {ts : List StretchV} {s : SpotV} (h : trackOk ts = true) (h2 : ¬ SpotOk ts s) : atE ts s = 12 ∧ atV ts s = zeroZ := by
  have e : atE ts s = 12 := by unfold atE; rw [if_pos h, if_neg h2]
  exact ⟨e, by unfold atV; rw [e]; rfl⟩
theorem at_in {ts : List StretchV} {s : SpotV} (h : trackOk ts = true) (h2 : SpotOk ts s) : atE ts s = 0 ∧ atV ts s = atF ts s := by
  have e : atE ts s = 0 := by unfold atE; rw [if_pos h, if_pos h2]
  exact ⟨e, if_pos e⟩
theorem at_zero {ts : List StretchV} {s : SpotV} (h : trackOk ts = true) : atE ts s = 0 ↔ SpotOk ts s := by
  unfold atE; rw [if_pos h]; split <;> simp [*]
def wayB (ts : List StretchV) (a b : SpotV) : SpanV := longF ts (min a.Stretch b.Stretch).toNat (max a.Stretch b.Stretch - min a.Stretch b.Stretch).toNat
def apartF (ts : List StretchV) (a b : SpotV) : SpanV := addZ (addZ (if b.Stretch < a.Stretch then lessZ (wayB ts a b) else wayB ts a b) b.Off) (lessZ a.Off)
noncomputable def apartE (ts : List StretchV) (a b : SpotV) : Int := if trackOk ts = true then (if SpotOk ts a ∧ SpotOk ts b then 0 else 12) else 10
noncomputable def apartV (ts : List StretchV) (a b : SpotV) : SpanV := if apartE ts a b = 0 then apartF ts a b else zeroZ
theorem apart_bad {ts : List StretchV} {a b : SpotV} (h : trackOk ts = false) : apartE ts a b = 10 ∧ apartV ts a b = zeroZ := by
  have e : apartE ts a b = 10 := by unfold apartE; rw [h]; rfl
  exact ⟨e, by unfold apartV; rw [e]; rfl⟩
theorem apart_out {ts : List StretchV} {a b : SpotV} (h : trackOk ts = true) (h2 : ¬ (SpotOk ts a ∧ SpotOk ts b)) : apartE ts a b = 12 ∧ apartV ts a b = zeroZ := by
  have e : apartE ts a b = 12 := by unfold apartE; rw [if_pos h, if_neg h2]
  exact ⟨e, by unfold apartV; rw [e]; rfl⟩
theorem apart_in {ts : List StretchV} {a b : SpotV} (h : trackOk ts = true) (h2 : SpotOk ts a ∧ SpotOk ts b) : apartE ts a b = 0 ∧ apartV ts a b = apartF ts a b := by
  have e : apartE ts a b = 0 := by unfold apartE; rw [if_pos h, if_pos h2]
  exact ⟨e, if_pos e⟩
theorem less_in {z : SpanV} (h : In12 z) : In12 (lessZ z) := by unfold In12 lessZ at *; simp only; omega
theorem off_in {ts : List StretchV} {s : SpotV} (ht : ∀ x ∈ ts, StretchOk x) (h : SpotOk ts s) : In12 s.Off := by have := spot_b ht h; unfold In12; omega
theorem wayB_b {ts : List StretchV} {a b : SpotV} (ht : ∀ x ∈ ts, StretchOk x) (hl : ts.length ≤ 12) (ha : SpotOk ts a) (hb : SpotOk ts b) : (0 ≤ (wayB ts a b).Lo ∧ (wayB ts a b).Lo ≤ (wayB ts a b).Hi) ∧ (wayB ts a b).Hi ≤ 360000 := by
  have h := longF_b ht (min a.Stretch b.Stretch).toNat (max a.Stretch b.Stretch - min a.Stretch b.Stretch).toNat
  have h1 := ha.1
  have h2 := hb.1
  unfold wayB
  omega
theorem apartF_b {ts : List StretchV} {a b : SpotV} (ht : ∀ x ∈ ts, StretchOk x) (hl : ts.length ≤ 12) (ha : SpotOk ts a) (hb : SpotOk ts b) : (-400000 ≤ (apartF ts a b).Lo ∧ (apartF ts a b).Lo ≤ (apartF ts a b).Hi) ∧ (apartF ts a b).Hi ≤ 400000 := by
  have h := wayB_b ht hl ha hb
  have h1 := spot_b ht ha
  have h2 := spot_b ht hb
  unfold apartF addZ lessZ
  split <;> simp only <;> omega
theorem pick_none {α : Type} {p : Nat → α → Bool} {l : List α} : ((l.zipIdx.filter fun q => p q.2 q.1).map fun q => (q.2 : Int)) = [] ↔ ∀ (i : Nat) x, l[i]? = some x → p i x = false := by
  rw [List.map_eq_nil_iff, List.filter_eq_nil_iff]
  constructor
  · intro h i x hx
    have := h (x, i) (by rw [List.mem_zipIdx_iff_getElem?]; simpa using hx)
    simpa using this
  · rintro h ⟨x, i⟩ hm
    rw [List.mem_zipIdx_iff_getElem?] at hm
    simpa using h i x (by simpa using hm)
/-- the places of a list at which something is so -/
def pckL {α : Type} (p : Nat → α → Bool) (l : List α) (n : Nat) : List Int := (((l.take n).zipIdx.filter fun q => p q.2 q.1).map fun q => (q.2 : Int))
theorem pckL_yes {α : Type} {p : Nat → α → Bool} {l : List α} {i : Nat} {x : α} (hx : l[i]? = some x) (h : p i x = true) : pckL p l (i + 1) = pckL p l i ++ [(i : Int)] := by
  have hi := (List.getElem?_eq_some_iff.1 hx).1
  unfold pckL
  rw [List.take_add_one, hx, List.zipIdx_append, List.filter_append, List.map_append]
  simp [Nat.min_eq_left (Nat.le_of_lt hi), h]
theorem pckL_no {α : Type} {p : Nat → α → Bool} {l : List α} {i : Nat} {x : α} (hx : l[i]? = some x) (h : p i x = false) : pckL p l (i + 1) = pckL p l i := by
  have hi := (List.getElem?_eq_some_iff.1 hx).1
  unfold pckL
  rw [List.take_add_one, hx, List.zipIdx_append, List.filter_append, List.map_append]
  simp [Nat.min_eq_left (Nat.le_of_lt hi), h]
theorem pckL_len {α : Type} {p : Nat → α → Bool} {l : List α} {n : Nat} : (pckL p l n).length ≤ n := by
  unfold pckL
  rw [List.length_map]
  refine Nat.le_trans (List.length_filter_le _ _) ?_
  rw [List.length_zipIdx, List.length_take]; omega
def pckF {α : Type} (p : Nat → α → Bool) (l : List α) : List Int := pckL p l l.length
theorem pckF_at {α : Type} {p : Nat → α → Bool} {l : List α} {n : Nat} (h : n = l.length) : pckL p l n = pckF p l := by rw [h]; rfl
theorem pckF_none {α : Type} {p : Nat → α → Bool} {l : List α} : (pckF p l).length = 0 ↔ ∀ (i : Nat) x, l[i]? = some x → p i x = false := by
  unfold pckF pckL
  rw [List.length_eq_zero_iff, List.take_length]
  exact pick_none
end
section
set_option linter.unusedVariables false
def greatF (l : List Int) : Int := l.foldl (fun n x => max (max n x) (-x)) 0
theorem great_take {l : List Int} {i : Nat} {x : Int} (h : l[i]? = some x) : greatF (l.take (i + 1)) = max (max (greatF (l.take i)) x) (-x) := by
  unfold greatF; rw [List.take_add_one, h, List.foldl_append]; rfl
def markF (ts : List StretchV) (s : SpotV) (m : Int) : Int := if m ≤ s.Stretch then (longF ts m.toNat (s.Stretch - m).toNat).Hi + s.Off.Hi else (longF ts s.Stretch.toNat (m - s.Stretch).toNat).Hi - s.Off.Lo
def farF (ts : List StretchV) (s : SpotV) (k : Int) : Int := max (markF ts s k) (markF ts s (k + 1))
theorem mark_b {ts : List StretchV} {s : SpotV} (ht : trackOk ts = true) (hs : SpotOk ts s) {m : Int} (hm : 0 ≤ m ∧ m ≤ ts.length) : 0 ≤ markF ts s m ∧ markF ts s m ≤ 400000 := by
  have hst := trackOk_all ht
  have hl := trackOk_le ht
  have h1 := spot_b hst hs
  have h2 := hs.1
  unfold markF
  split
  · have := longF_b hst m.toNat (s.Stretch - m).toNat
    omega
  · have h3 := longF_b hst s.Stretch.toNat (m - s.Stretch).toNat
    obtain ⟨x, hx, ho⟩ := hs.2
    have hp : (longF ts s.Stretch.toNat 1).Hi ≤ (longF ts s.Stretch.toNat (m - s.Stretch).toNat).Hi := by
      obtain ⟨k, hk⟩ : ∃ k, (m - s.Stretch).toNat = 1 + k := ⟨(m - s.Stretch).toNat - 1, by omega⟩
      rw [hk]
      clear hk h3
      induction k with
      | zero => exact Int.le_refl _
      | succ k ih =>
        refine Int.le_trans ih ?_
        rw [← Nat.add_assoc]
        simp only [longF]
        cases e : ts[s.Stretch.toNat + (1 + k)]? with
        | none => exact Int.le_refl _
        | some y =>
          have := (hst y (List.mem_of_getElem? e)).2.1
          simp only [SpanOk] at this
          simp only [addZ]; omega
    rw [longF_one hx] at hp
    have hxo := (hst x (List.mem_of_getElem? hx)).2.1
    simp only [SpanOk] at hxo ho
    omega
theorem far_b {ts : List StretchV} {s : SpotV} (ht : trackOk ts = true) (hs : SpotOk ts s) {k : Int} (hk : 0 ≤ k ∧ k < ts.length) : 0 ≤ farF ts s k ∧ farF ts s k ≤ 400000 := by
  have h1 := mark_b ht hs (m := k) (by omega)
  have h2 := mark_b ht hs (m := k + 1) (by omega)
  unfold farF; omega
/-- the place at which a stretch begins -/
theorem begin_ok {ts : List StretchV} (ht : trackOk ts = true) {k : Int} (hk : 0 ≤ k ∧ k < ts.length) : SpotOk ts ⟨k, ⟨0, 0⟩⟩ := by
  have hx : ts[k.toNat]? = some (ts[k.toNat]'(by omega)) := List.getElem?_eq_getElem (by omega)
  have := (trackOk_all ht _ (List.mem_of_getElem? hx)).2.1
  simp only [SpanOk] at this
  exact ⟨hk, _, hx, by simp only [SpanOk]; omega⟩
theorem long_more {ts : List StretchV} (hst : ∀ x ∈ ts, StretchOk x) (f : Nat) : ∀ k j : Nat, (longF ts f k).Lo ≤ (longF ts f (k + j)).Lo ∧ (longF ts f k).Hi ≤ (longF ts f (k + j)).Hi := by
  intro k j
  induction j with
  | zero => exact ⟨Int.le_refl _, Int.le_refl _⟩
  | succ j ih =>
    rw [← Nat.add_assoc]
    simp only [longF]
    cases e : ts[f + (k + j)]? with
    | none => exact ih
    | some y =>
      have := (hst y (List.mem_of_getElem? e)).2.1
      simp only [SpanOk] at this
      simp only [addZ]; omega
theorem begin_mark {ts : List StretchV} {s : SpotV} (ht : trackOk ts = true) (hs : SpotOk ts s) {k : Int} (hk : 0 ≤ k ∧ k < ts.length) : greatF [(apartF ts s ⟨k, ⟨0, 0⟩⟩).Lo, (apartF ts s ⟨k, ⟨0, 0⟩⟩).Hi] = markF ts s k := by
  have hst := trackOk_all ht
  have h1 := spot_b hst hs
  have h2 := hs.1
  show max (max (max (max 0 _) (-_)) _) (-_) = _
  unfold markF apartF wayB
  by_cases q : k < s.Stretch
  · rw [if_pos (show k ≤ s.Stretch by omega)]
    simp only
    rw [if_pos q, show min s.Stretch k = k by omega, show max s.Stretch k = s.Stretch by omega]
    have := longF_b hst k.toNat (s.Stretch - k).toNat
    simp only [addZ, lessZ]; omega
  · simp only
    rw [if_neg q, show min s.Stretch k = s.Stretch by omega, show max s.Stretch k = k by omega]
    by_cases e : k = s.Stretch
    · subst e
      rw [if_pos (Int.le_refl _), Int.sub_self]
      simp only [Int.toNat_zero, longF, addZ, lessZ, zeroZ]; omega
    · rw [if_neg (by omega)]
      obtain ⟨x, hx, ho⟩ := hs.2
      have hxo := (hst x (List.mem_of_getElem? hx)).2.1
      simp only [SpanOk] at hxo ho
      have hp := long_more hst s.Stretch.toNat 1 ((k - s.Stretch).toNat - 1)
      rw [show 1 + ((k - s.Stretch).toNat - 1) = (k - s.Stretch).toNat by omega, longF_one hx] at hp
      have := longF_b hst s.Stretch.toNat (k - s.Stretch).toNat
      simp only [addZ, lessZ]; omega
structure GuardM where
  Track : List StretchV
  Posts : List PostV
  Needs : List NeedV
  Tower : SpotV
  Radio : Int
  deriving DecidableEq
def prevId (ps : List PostV) (i : Nat) : Int := if i = 0 then -1 else ((ps[i - 1]?).map (·.Id)).getD 0
theorem prevId_zero {ps : List PostV} {i : Nat} (h : i = 0) : prevId ps i = -1 := if_pos h
theorem prevId_pos {ps : List PostV} {i : Nat} {y : PostV} (h : 0 < i) (hy : ps[i - 1]? = some y) : prevId ps i = y.Id := by unfold prevId; rw [if_neg (by omega), hy]; rfl
theorem prevId_succ {ps : List PostV} {i : Nat} {y : PostV} (hy : ps[i]? = some y) : prevId ps (i + 1) = y.Id := by unfold prevId; rw [if_neg (by omega), Nat.add_sub_cancel, hy]; rfl
def PostOk (ts : List StretchV) (ps : List PostV) (i : Nat) (p : PostV) : Prop := (prevId ps i < p.Id ∧ 0 ≤ p.Id ∧ p.Id ≤ 9999) ∧ (1 ≤ p.Kind ∧ p.Kind ≤ 3) ∧ SpotOk ts p.Spot ∧ (0 ≤ p.Delay ∧ p.Delay ≤ 36000) ∧ 1 ≤ p.Pace ∧ p.Pace ≤ 1000
def NeedOk (ts : List StretchV) (n : NeedV) : Prop := (0 ≤ n.Stretch ∧ n.Stretch ≤ (ts.length : Int) - 1) ∧ (1 ≤ n.Kind ∧ n.Kind ≤ 3) ∧ 0 ≤ n.Seconds ∧ n.Seconds ≤ 36000
structure GuardOk (d : GuardM) : Prop where
  len : d.Posts.length ≤ 8 ∧ d.Needs.length ≤ 10
  tower : SpotOk d.Track d.Tower
  radio : 0 ≤ d.Radio ∧ d.Radio ≤ 400000
  post : ∀ (i : Nat) p, d.Posts[i]? = some p → PostOk d.Track d.Posts i p
  need : ∀ n ∈ d.Needs, NeedOk d.Track n
noncomputable instance (d : GuardM) : Decidable (GuardOk d) := Classical.propDecidable _
noncomputable instance (ts : List StretchV) (n : NeedV) : Decidable (NeedOk ts n) := by unfold NeedOk; infer_instance
noncomputable instance (ts : List StretchV) (ps : List PostV) (i : Nat) (p : PostV) : Decidable (PostOk ts ps i p) := by unfold PostOk; infer_instance
noncomputable def guardE (d : GuardM) : Int := if trackOk d.Track = true then (if GuardOk d then 0 else 90) else 10
theorem guardE_bad {d : GuardM} (h : trackOk d.Track = false) : guardE d = 10 := by unfold guardE; rw [h]; rfl
theorem guardE_no {d : GuardM} (h : trackOk d.Track = true) (h2 : ¬ GuardOk d) : guardE d = 90 := by unfold guardE; rw [if_pos h, if_neg h2]
theorem guardE_ok {d : GuardM} (h : trackOk d.Track = true) (h2 : GuardOk d) : guardE d = 0 := by unfold guardE; rw [if_pos h, if_pos h2]
theorem guardE_zero {d : GuardM} (h : guardE d = 0) : trackOk d.Track = true ∧ GuardOk d := by
  unfold guardE at h
  split at h
  · split at h
    · exact ⟨by assumption, by assumption⟩
    · omega
  · omega
def timeF (ts : List StretchV) (p : PostV) (k : Int) : Int := p.Delay + (p.Pace * farF ts p.Spot k + 999) / 1000
theorem pace_b {a f : Int} (ha : 1 ≤ a ∧ a ≤ 1000) (hf : 0 ≤ f ∧ f ≤ 400000) : 0 ≤ a * f ∧ a * f ≤ 400000000 := by
  have h1 : 0 ≤ a * f := Int.mul_nonneg (by omega) hf.1
  have h2 : a * f ≤ 1000 * f := Int.mul_le_mul_of_nonneg_right ha.2 hf.1
  omega
def hearsP (d : GuardM) (a b : SpotV) : Prop := -d.Radio ≤ (apartF d.Track a b).Lo ∧ (apartF d.Track a b).Hi ≤ d.Radio
instance (d : GuardM) (a b : SpotV) : Decidable (hearsP d a b) := by unfold hearsP; infer_instance
inductive CallsP (d : GuardM) (S : Nat → Prop) : Nat → Prop
  | tower {i : Nat} {p : PostV} : S i → d.Posts[i]? = some p → hearsP d d.Tower p.Spot → CallsP d S i
  | post {k i : Nat} {q p : PostV} : CallsP d S k → d.Posts[k]? = some q → S i → d.Posts[i]? = some p → hearsP d q.Spot p.Spot → CallsP d S i
noncomputable instance (d : GuardM) (S : Nat → Prop) (i : Nat) : Decidable (CallsP d S i) := Classical.propDecidable _
theorem CallsP.lt {d : GuardM} {S : Nat → Prop} {i : Nat} (h : CallsP d S i) : i < d.Posts.length := by
  cases h with
  | tower _ hp _ => exact (List.getElem?_eq_some_iff.1 hp).1
  | post _ _ _ hp _ => exact (List.getElem?_eq_some_iff.1 hp).1
theorem CallsP.in_ {d : GuardM} {S : Nat → Prop} {i : Nat} (h : CallsP d S i) : S i := by cases h <;> assumption
theorem CallsP.mono {d : GuardM} {S T : Nat → Prop} (hst : ∀ i, i < d.Posts.length → S i → T i) {i : Nat} (h : CallsP d S i) : CallsP d T i := by
  induction h with
  | tower hs hp hh => exact .tower (hst _ (List.getElem?_eq_some_iff.1 hp).1 hs) hp hh
  | post _ hq hs hp hh ih => exact .post ih hq (hst _ (List.getElem?_eq_some_iff.1 hp).1 hs) hp hh
theorem calls_congr {d : GuardM} {S T : Nat → Prop} (h : ∀ i, i < d.Posts.length → (S i ↔ T i)) (i : Nat) : CallsP d S i ↔ CallsP d T i := ⟨fun c => c.mono fun i hi => (h i hi).1, fun c => c.mono fun i hi => (h i hi).2⟩
noncomputable def idxL (n : Nat) (p : Nat → Prop) : List Int := ((List.range n).filter fun i => @decide (p i) (Classical.propDecidable _)).map fun (i : Nat) => (i : Int)
theorem mem_idxL {n : Nat} {p : Nat → Prop} {x : Int} : x ∈ idxL n p ↔ ∃ i : Nat, x = (i : Int) ∧ i < n ∧ p i := by
  unfold idxL
  rw [List.mem_map]
  constructor
  · rintro ⟨i, hi, rfl⟩
    have := List.mem_filter.1 hi
    exact ⟨i, rfl, List.mem_range.1 this.1, by simpa using this.2⟩
  · rintro ⟨i, rfl, h1, h2⟩
    exact ⟨i, List.mem_filter.2 ⟨List.mem_range.2 h1, by simpa using h2⟩, rfl⟩
theorem mem_idx {n : Nat} {p : Nat → Prop} {i : Nat} : (i : Int) ∈ idxL n p ↔ i < n ∧ p i := by
  rw [mem_idxL]
  exact ⟨fun ⟨k, e, h⟩ => by obtain rfl : i = k := by omega
                             exact h, fun h => ⟨i, rfl, h⟩⟩
theorem idxL_yes {n : Nat} {p : Nat → Prop} (h : p n) : idxL (n + 1) p = idxL n p ++ [(n : Int)] := by
  unfold idxL; rw [List.range_succ, List.filter_append, List.map_append]; simp [h]
theorem idxL_no {n : Nat} {p : Nat → Prop} (h : ¬ p n) : idxL (n + 1) p = idxL n p := by
  unfold idxL; rw [List.range_succ, List.filter_append, List.map_append]; simp [h]
theorem idxL_len {n : Nat} {p : Nat → Prop} : (idxL n p).length ≤ n := by
  unfold idxL; rw [List.length_map]
  exact Nat.le_trans (List.length_filter_le _ _) (by simp)
theorem idxL_congr {n : Nat} {p q : Nat → Prop} (h : ∀ i, i < n → (p i ↔ q i)) : idxL n p = idxL n q := by
  induction n with
  | zero => rfl
  | succ n ih =>
    have ih := ih fun i hi => h i (by omega)
    by_cases e : p n
    · rw [idxL_yes e, idxL_yes ((h n (by omega)).1 e), ih]
    · rw [idxL_no e, idxL_no (fun q => e ((h n (by omega)).2 q)), ih]
theorem idxL_sorted {n : Nat} {p : Nat → Prop} : (idxL n p).Pairwise (· < ·) := by
  unfold idxL
  rw [List.pairwise_map]
  exact List.Pairwise.imp (fun h => by omega) (List.Pairwise.filter _ List.pairwise_lt_range)
theorem idxL_nil {n : Nat} {p : Nat → Prop} : idxL n p = [] ↔ ∀ i, i < n → ¬ p i := by
  constructor
  · intro h i hi hp
    have : (i : Int) ∈ idxL n p := mem_idx.2 ⟨hi, hp⟩
    rw [h] at this; cases this
  · intro h
    rw [List.eq_nil_iff_forall_not_mem]
    intro x hx
    obtain ⟨i, _, h1, h2⟩ := mem_idxL.1 hx
    exact h i h1 h2
/-- a sorted list is known by what is in it -/
theorem sorted_idx {l : List Int} {n : Nat} {p : Nat → Prop} (hs : l.Pairwise (· < ·)) (h : ∀ x, x ∈ l ↔ ∃ i : Nat, x = (i : Int) ∧ i < n ∧ p i) : l = idxL n p := by
  have key : ∀ {a b : List Int}, a.Pairwise (· < ·) → b.Pairwise (· < ·) → (∀ x, x ∈ a ↔ x ∈ b) → a = b := by
    intro a
    induction a with
    | nil => intro b _ _ h; symm; rw [List.eq_nil_iff_forall_not_mem]; intro x hx; exact absurd ((h x).2 hx) (by simp)
    | cons x a ih =>
      intro b ha hb h
      cases b with
      | nil => exact absurd ((h x).1 (by simp)) (by simp)
      | cons y b =>
        obtain ⟨ha1, ha2⟩ := List.pairwise_cons.1 ha
        obtain ⟨hb1, hb2⟩ := List.pairwise_cons.1 hb
        have e : x = y := by
          rcases List.mem_cons.1 ((h x).1 (by simp)) with e | e
          · exact e
          · rcases List.mem_cons.1 ((h y).2 (by simp)) with e2 | e2
            · exact e2.symm
            · have := hb1 x e; have := ha1 y e2; omega
        subst e
        congr 1
        refine ih ha2 hb2 fun z => ⟨fun hz => ?_, fun hz => ?_⟩
        · rcases List.mem_cons.1 ((h z).1 (List.mem_cons_of_mem _ hz)) with e | e
          · subst e; have := ha1 z hz; omega
          · exact e
        · rcases List.mem_cons.1 ((h z).2 (List.mem_cons_of_mem _ hz)) with e | e
          · subst e; have := hb1 z hz; omega
          · exact e
  exact key hs idxL_sorted fun x => by rw [h, mem_idxL]
noncomputable def calledL (d : GuardM) (S : Nat → Prop) : List Int := idxL d.Posts.length (CallsP d S)
def fitsP (d : GuardM) (n : NeedV) (i : Nat) : Prop := ∃ p, d.Posts[i]? = some p ∧ p.Kind = n.Kind ∧ timeF d.Track p n.Stretch ≤ n.Seconds
noncomputable def meetsL (d : GuardM) (n : NeedV) (S : Nat → Prop) : List Int := idxL d.Posts.length fun i => CallsP d S i ∧ fitsP d n i
def LackP (d : GuardM) (S : Nat → Prop) (j : Nat) : Prop := ∃ n, d.Needs[j]? = some n ∧ meetsL d n S = []
noncomputable def lacksL (d : GuardM) (S : Nat → Prop) : List Int := idxL d.Needs.length (LackP d S)
def less1 (S : Nat → Prop) (i : Nat) : Nat → Prop := fun k => S k ∧ k ≠ i
noncomputable def weakL (d : GuardM) (S : Nat → Prop) : List Int := idxL d.Posts.length fun i => S i ∧ lacksL d (less1 S i) ≠ []
def StrongP (d : GuardM) (S : Nat → Prop) : Prop := lacksL d S = [] ∧ weakL d S = []
noncomputable instance (d : GuardM) (S : Nat → Prop) : Decidable (StrongP d S) := Classical.propDecidable _
theorem called_congr {d : GuardM} {S T : Nat → Prop} (h : ∀ i, i < d.Posts.length → (S i ↔ T i)) : calledL d S = calledL d T := idxL_congr fun i _ => calls_congr h i
theorem meets_congr {d : GuardM} {n : NeedV} {S T : Nat → Prop} (h : ∀ i, i < d.Posts.length → (S i ↔ T i)) : meetsL d n S = meetsL d n T := idxL_congr fun i _ => by rw [calls_congr h i]
theorem lacks_congr {d : GuardM} {S T : Nat → Prop} (h : ∀ i, i < d.Posts.length → (S i ↔ T i)) : lacksL d S = lacksL d T := idxL_congr fun i _ => by unfold LackP; simp only [meets_congr h]
theorem weak_congr {d : GuardM} {S T : Nat → Prop} (h : ∀ i, i < d.Posts.length → (S i ↔ T i)) : weakL d S = weakL d T := idxL_congr fun i hi => by
  rw [h i hi, lacks_congr (S := less1 S i) (T := less1 T i) fun k hk => by unfold less1; rw [h k hk]]
theorem strong_congr {d : GuardM} {S T : Nat → Prop} (h : ∀ i, i < d.Posts.length → (S i ↔ T i)) : StrongP d S ↔ StrongP d T := by unfold StrongP; rw [lacks_congr h, weak_congr h]
noncomputable def argE (d : GuardM) (a k : Int) : Int := if guardE d = 0 then (if (0 ≤ a ∧ a ≤ (d.Posts.length : Int) - 1) ∧ 0 ≤ k ∧ k ≤ (d.Track.length : Int) - 1 then 0 else 2) else guardE d
noncomputable def farE (d : GuardM) (a k : Int) : Int := argE d a k
noncomputable def farV (d : GuardM) (a k : Int) : Int := if farE d a k = 0 then (match d.Posts[a.toNat]? with | some p => farF d.Track p.Spot k | none => 0) else 0
noncomputable def timeV (d : GuardM) (a k : Int) : Int := if farE d a k = 0 then (match d.Posts[a.toNat]? with | some p => timeF d.Track p k | none => 0) else 0
theorem far_bad {d : GuardM} {a k : Int} (h : ¬ guardE d = 0) : farE d a k = guardE d ∧ farV d a k = 0 ∧ timeV d a k = 0 := by
  have e : farE d a k = guardE d := if_neg h
  exact ⟨e, by unfold farV; rw [if_neg (by rw [e]; exact h)], by unfold timeV; rw [if_neg (by rw [e]; exact h)]⟩
theorem far_out {d : GuardM} {a k : Int} (h : guardE d = 0) (h2 : ¬ ((0 ≤ a ∧ a ≤ (d.Posts.length : Int) - 1) ∧ 0 ≤ k ∧ k ≤ (d.Track.length : Int) - 1)) : farE d a k = 2 ∧ farV d a k = 0 ∧ timeV d a k = 0 := by
  have e : farE d a k = 2 := by unfold farE argE; rw [if_pos h, if_neg h2]
  exact ⟨e, by unfold farV; rw [if_neg (by rw [e]; omega)], by unfold timeV; rw [if_neg (by rw [e]; omega)]⟩
theorem far_in {d : GuardM} {a k : Int} {p : PostV} (h : guardE d = 0) (h2 : (0 ≤ a ∧ a ≤ (d.Posts.length : Int) - 1) ∧ 0 ≤ k ∧ k ≤ (d.Track.length : Int) - 1) (hp : d.Posts[a.toNat]? = some p) : farE d a k = 0 ∧ farV d a k = farF d.Track p.Spot k ∧ timeV d a k = timeF d.Track p k := by
  have e : farE d a k = 0 := by unfold farE argE; rw [if_pos h, if_pos h2]
  exact ⟨e, by unfold farV; rw [if_pos e, hp], by unfold timeV; rw [if_pos e, hp]⟩
def prevE (l : List Int) (i : Nat) : Int := if i = 0 then -1 else (l[i - 1]?).getD 0
theorem prevE_zero {l : List Int} : prevE l 0 = -1 := rfl
theorem prevE_succ {l : List Int} {i : Nat} {x : Int} (h : l[i]? = some x) : prevE l (i + 1) = x := by unfold prevE; rw [if_neg (by omega), Nat.add_sub_cancel, h]; rfl
theorem prevE_pos {l : List Int} {i : Nat} {x : Int} (hi : 0 < i) (h : l[i - 1]? = some x) : prevE l i = x := by unfold prevE; rw [if_neg (by omega), h]; rfl
def EmptyAt (n : Nat) (l : List Int) (i : Nat) (x : Int) : Prop := prevE l i < x ∧ 0 ≤ x ∧ x ≤ (n : Int) - 1
def EmptyTo (n : Nat) (l : List Int) (i : Nat) : Prop := ∀ (j : Nat) x, j < i → l[j]? = some x → EmptyAt n l j x
def EmptyOk (n : Nat) (l : List Int) : Prop := ∀ (j : Nat) x, l[j]? = some x → EmptyAt n l j x
noncomputable instance (n : Nat) (l : List Int) : Decidable (EmptyOk n l) := Classical.propDecidable _
theorem empty_zero {n : Nat} {l : List Int} : EmptyTo n l 0 := fun j x hj => absurd hj (Nat.not_lt_zero _)
theorem empty_succ {n : Nat} {l : List Int} {i : Nat} {x : Int} (h : EmptyTo n l i) (hx : l[i]? = some x) (ho : EmptyAt n l i x) : EmptyTo n l (i + 1) := fun j y hj hy => by
  rcases Nat.lt_or_ge j i with q | q
  · exact h j y q hy
  · obtain rfl : j = i := by omega
    rw [hx] at hy; cases hy; exact ho
theorem empty_all {n : Nat} {l : List Int} {i : Nat} (h : EmptyTo n l i) (hi : l.length ≤ i) : EmptyOk n l := fun j x hx => h j x (by have := (List.getElem?_eq_some_iff.1 hx).1; omega) hx
theorem prevE_b {n : Nat} {l : List Int} {i : Nat} (hi : i ≤ l.length) (h : EmptyTo n l i) : -1 ≤ prevE l i ∧ prevE l i ≤ (n : Int) := by
  rcases Nat.eq_zero_or_pos i with e | e
  · subst e; rw [prevE_zero]; omega
  · have hy : l[i - 1]? = some (l[i - 1]'(by omega)) := List.getElem?_eq_getElem _
    have := h (i - 1) _ (by omega) hy
    unfold EmptyAt at this
    rw [prevE_pos e hy]; omega
theorem empty_mem {n : Nat} {l : List Int} (h : EmptyOk n l) : ∀ x ∈ l, 0 ≤ x ∧ x < (n : Int) := fun x hx => by
  obtain ⟨j, hj⟩ := List.getElem?_of_mem hx
  have := h j x hj
  unfold EmptyAt at this; omega
noncomputable def mannedE (d : GuardM) (l : List Int) : Int := if guardE d = 0 then (if EmptyOk d.Posts.length l then 0 else 2) else guardE d
theorem manned_bad {d : GuardM} {l : List Int} (h : ¬ guardE d = 0) : mannedE d l = guardE d := if_neg h
theorem manned_out {d : GuardM} {l : List Int} (h : guardE d = 0) (h2 : ¬ EmptyOk d.Posts.length l) : mannedE d l = 2 := by unfold mannedE; rw [if_pos h, if_neg h2]
theorem manned_in {d : GuardM} {l : List Int} (h : guardE d = 0) (h2 : EmptyOk d.Posts.length l) : mannedE d l = 0 := by unfold mannedE; rw [if_pos h, if_pos h2]
theorem manned_zero {d : GuardM} {l : List Int} (h : mannedE d l = 0) : guardE d = 0 ∧ EmptyOk d.Posts.length l := by
  unfold mannedE at h
  split at h
  · split at h
    · exact ⟨by assumption, by assumption⟩
    · omega
  · rename_i q; exact absurd h q
def notIn (l : List Int) : Nat → Prop := fun i => (i : Int) ∉ l
end
section
open Go.RowKit
set_option linter.unusedVariables false
set_option linter.unusedSectionVars false
/-- what is asked of keys -/
structure GKey (P : Program) (kt : Nat) {K : Type} (kV : K → Value) : Prop where
  check : ∀ (e : Bool) (x : K) (w : World), (Instr.checkKey e 10000 kt (kV x)).run P w = .ok () w
  find : ∀ (x : K) (w : World) (es : List MapEntry), (∀ e ∈ es, ∃ k, e.key = kV k) →
    ((Instr.findKey kt (kV x) es).run P w = .ok none w ∧ ∀ e ∈ es, e.key ≠ kV x) ∨ ∃ j e, (Instr.findKey kt (kV x) es).run P w = .ok (some (j, e.val)) w ∧ es[j]? = some e ∧ e.key = kV x
  bits : ∀ x, Instr.sameBits 10000 (kV x) (kV x) = true
  inj : ∀ x y, kV x = kV y → x = y
section
variable {K : Type} [DecidableEq K] {kV : K → Value}
def gsetK {β : Type} (l : List (K × β)) (x : K) (y : β) : List (K × β) := if (l.lookup x).isSome then l.map (fun p => if p.1 = x then (x, y) else p) else l ++ [(x, y)]
def gdelK {β : Type} (l : List (K × β)) (x : K) : List (K × β) := l.filter fun p => !decide (p.1 = x)
def gmapV {β γ : Type} (f : β → γ) (l : List (K × β)) : List (K × γ) := l.map fun p => (p.1, f p.2)
theorem gmapV_len {β γ : Type} (f : β → γ) (l : List (K × β)) : (gmapV f l).length = l.length := by simp [gmapV]
theorem gmapV_lookup {β γ : Type} (f : β → γ) (x : K) : ∀ l : List (K × β), (gmapV f l).lookup x = (l.lookup x).map f
  | [] => rfl
  | p :: l => by
    obtain ⟨k, v⟩ := p
    have ih := gmapV_lookup f x l
    by_cases h : x = k
    · subst h; simp [gmapV, List.lookup]
    · have : (x == k) = false := by simpa using h
      simp only [gmapV, List.map_cons, List.lookup, this] at ih ⊢
      exact ih
theorem gmapV_setK {β γ : Type} (f : β → γ) (l : List (K × β)) (x : K) (y : β) : gmapV f (gsetK l x y) = gsetK (gmapV f l) x (f y) := by
  unfold gsetK
  rw [gmapV_lookup, Option.isSome_map]
  split
  · simp only [gmapV, List.map_map]
    refine List.map_congr_left fun p _ => ?_
    simp only [Function.comp]
    split <;> rfl
  · simp [gmapV]
theorem gmapV_delK {β γ : Type} (f : β → γ) (l : List (K × β)) (x : K) : gmapV f (gdelK l x) = gdelK (gmapV f l) x := by
  unfold gdelK gmapV
  rw [List.filter_map]
  rfl
theorem glookup_none {β : Type} {x : K} : ∀ {l : List (K × β)}, l.lookup x = none ↔ ∀ p ∈ l, p.1 ≠ x
  | [] => by simp
  | p :: l => by
    obtain ⟨k, v⟩ := p
    by_cases h : x = k
    · subst h; simp [List.lookup]
    · have hb : (x == k) = false := by simpa using h
      simp only [List.lookup, hb, List.mem_cons, forall_eq_or_imp]
      rw [glookup_none (l := l)]
      exact ⟨fun q => ⟨fun e => h e.symm, q⟩, fun q => q.2⟩
theorem glookup_mem {β : Type} {x : K} {y : β} : ∀ {l : List (K × β)}, (l.map (·.1)).Nodup → ((x, y) ∈ l ↔ l.lookup x = some y)
  | [], _ => by simp
  | p :: l, hn => by
    obtain ⟨k, v⟩ := p
    simp only [List.map_cons, List.nodup_cons] at hn
    by_cases h : x = k
    · subst h
      simp only [List.lookup, beq_self_eq_true, List.mem_cons, Prod.mk.injEq, true_and, Option.some.injEq]
      constructor
      · rintro (e | e)
        · exact e.symm
        · exact absurd (List.mem_map.2 ⟨_, e, rfl⟩) hn.1
      · intro e; exact .inl e.symm
    · have hb : (x == k) = false := by simpa using h
      simp only [List.lookup, hb, List.mem_cons, Prod.mk.injEq, h, false_and, false_or]
      exact glookup_mem hn.2
structure gMapIs (kV : K → Value) (es : Array MapEntry) (c : Nat) (m : List (K × Value)) : Prop where
  list : es.toList.map (fun (e : MapEntry) => (e.key, e.val)) = m.map (fun p => (kV p.1, p.2))
  keys : (m.map (·.1)).Nodup
  old : ∀ e ∈ es.toList, e.born < c
  born : (es.toList.map (·.born)).Nodup
def gmp (kV : K → Value) (b : Nat) (m : List (K × Value)) : Assn where
  foot k := k = b
  wf k := k = b
  holds w := ∃ es c, w.heap[b]? = some (.map es c) ∧ gMapIs kV es c m
  wr := true
  wfoot _ h := h
  whole _ _ h := h
  lt w h k hk := by obtain ⟨es, c, he, _⟩ := h; exact hk ▸ lt_of_heap he
  keep w w' hk h := by obtain ⟨es, c, he, hm⟩ := h; exact ⟨es, c, (hk b rfl).trans he, hm⟩
theorem gMapIs.nil : gMapIs kV #[] 0 [] := ⟨rfl, List.nodup_nil, by simp, List.nodup_nil⟩
theorem gMapIs.size {es : Array MapEntry} {c : Nat} {m : List (K × Value)} (h : gMapIs kV es c m) : es.size = m.length := by
  have := congrArg List.length h.list
  simpa using this
theorem gfind_list {P : Program} {kt : Nat} (hk : GKey P kt kV) (x : K) : ∀ (es : List MapEntry) (m : List (K × Value)), es.map (fun (e : MapEntry) => (e.key, e.val)) = m.map (fun p => (kV p.1, p.2)) →
    ((∀ e ∈ es, e.key ≠ kV x) → m.lookup x = none) ∧ ∀ (j : Nat) (e : MapEntry), es[j]? = some e → e.key = kV x → m[j]? = some (x, e.val) := by
  intro es m h
  refine ⟨fun hn => glookup_none.2 fun p hp e => ?_, fun j e he hx => ?_⟩
  · have : (kV p.1, p.2) ∈ es.map (fun (e : MapEntry) => (e.key, e.val)) := by rw [h]; exact List.mem_map.2 ⟨p, hp, rfl⟩
    obtain ⟨z, hz, hze⟩ := List.mem_map.1 this
    simp only [Prod.mk.injEq] at hze
    exact hn z hz (by rw [hze.1, e])
  · have h1 : (es.map (fun (e : MapEntry) => (e.key, e.val)))[j]? = some (e.key, e.val) := by rw [List.getElem?_map, he]; rfl
    rw [h, List.getElem?_map] at h1
    cases hm : m[j]? with
    | none => simp [hm] at h1
    | some p =>
      simp only [hm, Option.map_some, Option.some.injEq, Prod.mk.injEq] at h1
      have := hk.inj _ _ (h1.1.trans hx)
      obtain ⟨k, v⟩ := p
      simp only at this h1
      rw [this, h1.2]
theorem grun_find {P : Program} {w : World} {kt : Nat} {x : K} {es : Array MapEntry} {c : Nat} {m : List (K × Value)} (hk : GKey P kt kV) (h : gMapIs kV es c m) :
    ((Instr.findKey kt (kV x) es.toList).run P w = .ok none w ∧ m.lookup x = none) ∨
    ∃ j v, (Instr.findKey kt (kV x) es.toList).run P w = .ok (some (j, v)) w ∧ m[j]? = some (x, v) ∧ m.lookup x = some v := by
  obtain ⟨q1, q2⟩ := gfind_list hk x es.toList m h.list
  rcases hk.find x w es.toList (fun e he => by
      have : (e.key, e.val) ∈ m.map (fun p => (kV p.1, p.2)) := by rw [← h.list]; exact List.mem_map.2 ⟨e, he, rfl⟩
      obtain ⟨p, _, hp⟩ := List.mem_map.1 this
      simp only [Prod.mk.injEq] at hp
      exact ⟨p.1, hp.1.symm⟩) with ⟨h1, h2⟩ | ⟨j, e, h1, h2, h3⟩
  · exact .inl ⟨h1, q1 h2⟩
  · have := q2 j e h2 h3
    exact .inr ⟨j, e.val, h1, this, (glookup_mem h.keys).1 (List.mem_of_getElem? this)⟩
theorem grun_check {P : Program} {w : World} {kt : Nat} {x : K} (hk : GKey P kt kV) (e : Bool) : (Instr.checkKey e 10000 kt (kV x)).run P w = .ok () w := hk.check e x w
section
variable {E : Env} {ops : Array Oper} {Q : Post} {rest : List Oper} {D : List Deferred} {L : List (Nat × Value)} {C : List Assn}
variable {dst : Option Tmp} {d : Nat} {ty : TypeId} {ps : String} {af : Array Edge} {g : Option (Nat × Bool)}
theorem gr_mkmap {t : TypeId} (hg : gOn ops L g = true) (hd : Nat.blt d E.n = true) (k : ∀ b, RJ E ops Q rest D ((d, .map (some b)) :: L) (gmp kV b [] :: C)) : RJ E ops Q (⟨some d, .makeMap t none, ty, ps, af, g⟩ :: rest) D L C := by
  intro a w hfr hs
  have hd' : d < E.n := by rw [← Nat.blt_eq]; exact hd
  unfold wpL
  rw [if_pos (gOn_wanted hfr hg)]
  refine wp_value (v := .map (some w.heap.size)) (w' := w.alloc (.map #[] 0)) (by simp) ?_ ?_
  · simp [execOp, Instr.makeMap, newObj, Sem.run]
  · refine k _ _ _ (hfr.put hd' _) (hs.grow (Keeps.alloc no w _) (N := [gmp kV w.heap.size []]) ⟨fun A hA => ?_, fun A hA b hb => ?_, List.pairwise_singleton _ _⟩)
    · simp at hA; subst hA; exact ⟨#[], 0, heap_alloc_new w _, gMapIs.nil⟩
    · simp at hA; subst hA; exact Nat.le_of_eq (Eq.symm hb)
theorem gMapIs.push {es : Array MapEntry} {c : Nat} {m : List (K × Value)} (h : gMapIs kV es c m) {x : K} (hx : m.lookup x = none) (v : Value) : gMapIs kV (es.push { key := kV x, val := v, born := c }) (c + 1) (m ++ [(x, v)]) := by
  refine ⟨by simp [h.list], ?_, ?_, ?_⟩
  · rw [List.map_append, List.nodup_append]
    refine ⟨h.keys, by simp, fun a ha b hb => ?_⟩
    simp at hb; subst hb
    obtain ⟨p, hp, rfl⟩ := List.mem_map.1 ha
    exact glookup_none.1 hx p hp
  · intro e he
    simp only [Array.toList_push, List.mem_append, List.mem_singleton] at he
    rcases he with he | rfl
    · exact Nat.lt_succ_of_lt (h.old e he)
    · exact Nat.lt_succ_self _
  · simp only [Array.toList_push, List.map_append, List.map_cons, List.map_nil]
    rw [List.nodup_append]
    refine ⟨h.born, by simp, fun a ha b hb => ?_⟩
    simp at hb; subst hb
    obtain ⟨p, hp, rfl⟩ := List.mem_map.1 ha
    exact Nat.ne_of_lt (h.old p hp)
theorem gset_at {m : List (K × Value)} {j : Nat} {x : K} {v0 v : Value} (hn : (m.map (·.1)).Nodup) (hj : m[j]? = some (x, v0)) : m.map (fun p => if p.1 = x then (x, v) else p) = m.set j (x, v) := by
  refine List.ext_getElem? fun i => ?_
  rw [List.getElem?_map, List.getElem?_set]
  by_cases e : j = i
  · subst e
    have hl := (List.getElem?_eq_some_iff.1 hj).1
    rw [hj]; simp [hl]
  · rw [if_neg e]
    cases hi : m[i]? with
    | none => rfl
    | some p =>
      simp only [Option.map_some]
      rw [if_neg]
      intro hp
      have h1 : (m.map (·.1))[i]? = some x := by rw [List.getElem?_map, hi]; simp [hp]
      have h2 : (m.map (·.1))[j]? = some x := by rw [List.getElem?_map, hj]; rfl
      have hil := (List.getElem?_eq_some_iff.1 h1).1
      exact e (((List.getElem?_inj hil hn).1 (h1.trans h2.symm)).symm)
theorem gMapIs.set {es : Array MapEntry} {c : Nat} {m : List (K × Value)} (h : gMapIs kV es c m) {x : K} {j : Nat} {v0 : Value} (hj : m[j]? = some (x, v0)) (hx : m.lookup x = some v0) (v : Value) :
    gMapIs kV (es.modify j fun e => { e with key := kV x, val := v }) c (gsetK m x v) := by
  have e1 : gsetK m x v = m.set j (x, v) := by unfold gsetK; rw [hx]; simpa using gset_at h.keys hj
  have hl := (List.getElem?_eq_some_iff.1 hj).1
  have hsz := h.size
  have hje : j < es.size := by omega
  have e2 : (es.modify j fun e => { e with key := kV x, val := v }).toList = es.toList.set j { (es[j]) with key := kV x, val := v } := by
    refine List.ext_getElem? fun i => ?_
    rw [Array.getElem?_toList, Array.getElem?_modify, List.getElem?_set]
    by_cases e : j = i
    · subst e; simp [hje]
    · simp [e]
  have e3 : (es.toList.set j { (es[j]) with key := kV x, val := v }).map (·.born) = es.toList.map (·.born) := by
    rw [List.map_set]
    refine List.ext_getElem? fun i => ?_
    rw [List.getElem?_set]
    by_cases e : j = i
    · subst e; simp [hje]
    · rw [if_neg e]
  refine ⟨?_, ?_, ?_, ?_⟩
  · rw [e2, e1, List.map_set, List.map_set, h.list]
  · rw [e1, List.map_set]
    have : (m.map (·.1)).set j x = m.map (·.1) := by
      refine List.ext_getElem? fun i => ?_
      rw [List.getElem?_set]
      by_cases e : j = i
      · subst e; simp [hl]; simpa using (congrArg Prod.fst ((List.getElem?_eq_some_iff.1 hj).2)).symm
      · rw [if_neg e]
    simp only [this]
    exact h.keys
  · intro e he
    rw [e2] at he
    have hb : e.born ∈ (es.toList.set j { (es[j]) with key := kV x, val := v }).map (·.born) := List.mem_map.2 ⟨e, he, rfl⟩
    rw [e3] at hb
    obtain ⟨e', he', hq⟩ := List.mem_map.1 hb
    rw [← hq]; exact h.old e' he'
  · rw [e2, e3]; exact h.born
/-- m[x] = y -/
theorem gr_mapset {t kt et : TypeId} {xm xk xv : Operand} {b : Nat} {x : K} {v : Value} {m m' : List (K × Value)} {C' : List Assn} (i : Nat) (hg : gOn ops L g = true) (hm : ev L xm = some (.map (some b))) (hk : ev L xk = some (kV x)) (hv : ev L xv = some v)
    (ht : E.P.underlying t = some (.map kt et)) (hkt : GKey E.P kt kV) (hC : C[i]? = some (gmp kV b m)) (hm' : gsetK m x v = m') (hC' : C.set i (gmp kV b m') = C') (k : RJ E ops Q rest D L C') :
    RJ E ops Q (⟨none, .mapUpdate t xm xk xv, ty, ps, af, g⟩ :: rest) D L C := by
  subst hm' hC'
  intro a w hfr hs
  unfold wpL
  rw [if_pos (gOn_wanted hfr hg)]
  obtain ⟨es, c, he, hi⟩ := hs.holds _ (List.mem_of_getElem? hC)
  have hget : (getObj b).run E.P w = .ok (.map es c) w := MapKept.run_getObj_map he
  rcases grun_find (P := E.P) (w := w) (x := x) hkt hi with ⟨h1, h2⟩ | ⟨j, v0, h1, h2, h3⟩
  · refine wp_skip (w' := { w with heap := w.heap.setIfInBounds b (.map (es.push { key := kV x, val := v, born := c }) (c + 1)) }) (by simp) ?_ ?_
    · simp [execOp, hfr.ev hm, hfr.ev hk, hfr.ev hv, Instr.mapUpdate, run_underlying ht, hget, grun_check hkt, h1, MapKept.run_setObj_map _ he]
    · refine k _ _ ⟨hfr.defers, hfr.size, hfr.at_⟩ (hs.upd (b := b) i hC rfl rfl (keeps_set _) (fun _ h => h) ⟨_, _, heap_set he, ?_⟩)
      have : gsetK m x v = m ++ [(x, v)] := by unfold gsetK; rw [h2]; rfl
      rw [this]; exact hi.push h2 v
  · have hsz := hi.size
    have hje : j < es.size := by have := (List.getElem?_eq_some_iff.1 h2).1; omega
    have hkey : (es[j]).key = kV x := by
      have := congrArg (fun l => l[j]?) hi.list
      simp [hje, h2] at this
      exact this.1
    refine wp_skip (w' := { w with heap := w.heap.setIfInBounds b (.map (es.modify j fun e => { e with key := kV x, val := v }) c) }) (by simp) ?_ ?_
    · simp [execOp, hfr.ev hm, hfr.ev hk, hfr.ev hv, Instr.mapUpdate, run_underlying ht, hget, grun_check hkt, h1, MapKept.run_setObj_map _ he, Instr.keyThatStays, hje, hkey, hkt.bits x]
    · exact k _ _ ⟨hfr.defers, hfr.size, hfr.at_⟩ (hs.upd (b := b) i hC rfl rfl (keeps_set _) (fun _ h => h) ⟨_, _, heap_set he, hi.set h2 h3 v⟩)
theorem gMapIs.del {es : Array MapEntry} {c : Nat} {m : List (K × Value)} (h : gMapIs kV es c m) {x : K} {j : Nat} {v0 : Value} (hj : m[j]? = some (x, v0)) : gMapIs kV (es.eraseIdxIfInBounds j) c (gdelK m x) := by
  have hl := (List.getElem?_eq_some_iff.1 hj).1
  have hsz := h.size
  have hje : j < es.size := by omega
  have e1 : (es.eraseIdxIfInBounds j).toList = es.toList.eraseIdx j := by simp [Array.eraseIdxIfInBounds, hje]
  have e2 : gdelK m x = m.eraseIdx j := by
    have hn := h.keys
    clear h hsz hje e1
    induction m generalizing j with
    | nil => simp at hj
    | cons p m ih =>
      obtain ⟨k, v⟩ := p
      simp only [List.map_cons, List.nodup_cons] at hn
      cases j with
      | zero =>
        simp at hj
        obtain ⟨rfl, rfl⟩ := hj
        simp only [gdelK, List.eraseIdx_zero, List.tail_cons]
        rw [List.filter_cons_of_neg (by simp)]
        refine List.filter_eq_self.2 fun p hp => ?_
        have : p.1 ≠ k := fun e => hn.1 (List.mem_map.2 ⟨p, hp, e⟩)
        simpa using this
      | succ j =>
        simp only [List.getElem?_cons_succ] at hj
        have hne : k ≠ x := fun e => hn.1 (List.mem_map.2 ⟨_, List.mem_of_getElem? hj, e.symm⟩)
        simp only [gdelK, List.eraseIdx_cons_succ] at ih ⊢
        rw [List.filter_cons_of_pos (by simpa using hne), ih hj (by simpa using (List.getElem?_eq_some_iff.1 hj).1) hn.2]
  have sub : (es.eraseIdxIfInBounds j).toList.Sublist es.toList := by rw [e1]; exact List.eraseIdx_sublist _ _
  refine ⟨?_, ?_, fun e he => h.old e (sub.subset he), h.born.sublist (sub.map _)⟩
  · rw [e1, e2, ChangeMaps.map_eraseIdx, ChangeMaps.map_eraseIdx, h.list]
  · rw [e2]; exact h.keys.sublist ((List.eraseIdx_sublist _ _).map _)
theorem gdelK_self {m : List (K × Value)} {x : K} (h : m.lookup x = none) : gdelK m x = m := List.filter_eq_self.2 fun p hp => by simpa using glookup_none.1 h p hp
/-- m[x] -/
theorem gsd_look1 {t kt et : TypeId} {xm xk : Operand} {b : Nat} {x : K} {z : Value} {m : List (K × Value)} (hg : gOn ops L g = true) (hm : ev L xm = some (.map (some b))) (hk : ev L xk = some (kV x))
    (ht : E.P.underlying t = some (.map kt et)) (hkt : GKey E.P kt kV) (hz : tV E.P et = some z) (hC : Has C (gmp kV b m).holds) :
    SD E ops ⟨dst, .lookup t xm xk false, ty, ps, af, g⟩ D L C ((m.lookup x).getD z) :=
  sd_pure hg (by simp) fun a w hfr hs => by
    obtain ⟨es, c, he, hi⟩ := hs.has hC
    have hget : (getObj b).run E.P w = .ok (.map es c) w := MapKept.run_getObj_map he
    rcases grun_find (P := E.P) (w := w) (x := x) hkt hi with ⟨h1, h2⟩ | ⟨j, v0, h1, h2, h3⟩
    · simp [execOp, Instr.lookup, hfr.ev hm, hfr.ev hk, run_underlying ht, hget, grun_check hkt, h1, h2, run_zv hz]
    · simp [execOp, Instr.lookup, hfr.ev hm, hfr.ev hk, run_underlying ht, hget, grun_check hkt, h1, h3]
/-- len(m) -/
theorem gsd_lenm {t kt et : TypeId} {xm : Operand} {b : Nat} {m : List (K × Value)} (hg : gOn ops L g = true) (hm : ev L xm = some (.map (some b))) (ht : E.P.underlying t = some (.map kt et)) (hC : Has C (gmp kV b m).holds) :
    SD E ops ⟨dst, .call { callee := .builtin .len, args := #[xm], argTypes := #[t] }, ty, ps, af, g⟩ D L C (.int .i64 (m.length : Int)) :=
  sd_pure hg (by simp) fun a w hfr hs => by
    obtain ⟨es, c, he, hi⟩ := hs.has hC
    have hget : (getObj b).run E.P w = .ok (.map es c) w := MapKept.run_getObj_map he
    simp [execOp, resolve, invoke, builtin, hfr.ev hm, Builtin.len_, run_underlying ht, hget, hi.size, goInt]
theorem gsd_look1_v {β : Type} {t kt et : TypeId} {xm xk : Operand} {b : Nat} {x : K} {f : β → Value} {z : β} {l : List (K × β)} (hg : gOn ops L g = true) (hm : ev L xm = some (.map (some b))) (hk : ev L xk = some (kV x))
    (ht : E.P.underlying t = some (.map kt et)) (hkt : GKey E.P kt kV) (hz : tV E.P et = some (f z)) (hC : Has C (gmp kV b (gmapV f l)).holds) :
    SD E ops ⟨dst, .lookup t xm xk false, ty, ps, af, g⟩ D L C (f ((l.lookup x).getD z)) := by
  have := gsd_look1 (dst := dst) (ty := ty) (ps := ps) (af := af) (D := D) hg hm hk ht hkt hz hC
  rw [gmapV_lookup] at this
  have e1 : ((l.lookup x).map f).getD (f z) = f ((l.lookup x).getD z) := by cases l.lookup x <;> rfl
  rw [e1] at this
  exact this
theorem gsd_lenm_v {β : Type} {t kt et : TypeId} {xm : Operand} {b : Nat} {f : β → Value} {l : List (K × β)} (hg : gOn ops L g = true) (hm : ev L xm = some (.map (some b))) (ht : E.P.underlying t = some (.map kt et)) (hC : Has C (gmp kV b (gmapV f l)).holds) :
    SD E ops ⟨dst, .call { callee := .builtin .len, args := #[xm], argTypes := #[t] }, ty, ps, af, g⟩ D L C (.int .i64 (l.length : Int)) := by
  have := gsd_lenm (dst := dst) (ty := ty) (ps := ps) (af := af) (D := D) hg hm ht hC
  rwa [gmapV_len] at this
end
theorem gdelK_lt {β : Type} {x : K} {y : β} {l : List (K × β)} (h : (x, y) ∈ l) : (gdelK l x).length < l.length := by
  unfold gdelK
  exact List.length_filter_lt_length_iff_exists.2 ⟨_, h, by simp⟩
/-- an iterator over a map: what is left; what came last -/
def gmi (kV : K → Value) (r b : Nat) (m left : List (K × Value)) (cur : Option (K × Value)) : Assn where
  foot k := k = r ∨ k = b
  wf k := k = r ∨ k = b
  holds w := r ≠ b ∧ ∃ (es : Array MapEntry) (c since : Nat) (seen : Array Nat) (st : Nat), w.heap[b]? = some (.map es c) ∧ gMapIs kV es c m ∧ w.heap[r]? = some (.mapIter (some b) since seen st) ∧ (∀ e ∈ es.toList, e.born < since) ∧ since ≤ st ∧ since ≤ c ∧
    (leftOf es seen).toList.map (fun (e : MapEntry) => (e.key, e.val)) = left.map (fun p => (kV p.1, p.2)) ∧
    ∀ p, cur = some p → ∃ (e : MapEntry) (seen0 : Array Nat), e ∈ es.toList ∧ seen = seen0.push e.born ∧ st = c ∧ e.key = kV p.1 ∧ e.val = p.2
  wr := true
  wfoot _ h := h
  whole _ _ h := h
  lt w h k hk := by
    obtain ⟨_, es, c, since, seen, st, h1, _, h2, _⟩ := h
    rcases hk with rfl | rfl
    · exact lt_of_heap h2
    · exact lt_of_heap h1
  keep w w' hk h := by
    obtain ⟨hne, es, c, since, seen, st, h1, h2, h3, h4⟩ := h
    exact ⟨hne, es, c, since, seen, st, (hk b (.inr rfl)).trans h1, h2, (hk r (.inl rfl)).trans h3, h4⟩
theorem gmi_none {r b : Nat} {m left : List (K × Value)} {cur : Option (K × Value)} : (∀ w, (gmi kV r b m left cur).holds w → (gmi kV r b m left none).holds w) ∧ (∀ k, (gmi kV r b m left none).foot k → (gmi kV r b m left cur).foot k) ∧ ∀ k, (gmi kV r b m left none).wf k → (gmi kV r b m left cur).wf k :=
  ⟨fun w h => by
    obtain ⟨hne, es, c, since, seen, st, h1, h2, h3, h4, h5, h5', h6, _⟩ := h
    exact ⟨hne, es, c, since, seen, st, h1, h2, h3, h4, h5, h5', h6, fun p hp => by cases hp⟩, fun _ h => h, fun _ h => h⟩
theorem gmi_mp {r b : Nat} {m left : List (K × Value)} {cur : Option (K × Value)} : (∀ w, (gmi kV r b m left cur).holds w → (gmp kV b m).holds w) ∧ (∀ k, (gmp kV b m).foot k → (gmi kV r b m left cur).foot k) ∧ ∀ k, (gmp kV b m).wf k → (gmi kV r b m left cur).wf k :=
  ⟨fun w h => by
    obtain ⟨hne, es, c, since, seen, st, h1, h2, _⟩ := h
    exact ⟨es, c, h1, h2⟩, fun _ h => .inr h, fun _ h => .inr h⟩
theorem gkey_inj {es : Array MapEntry} {c : Nat} {m : List (K × Value)} (hinj : ∀ x y, kV x = kV y → x = y) (hi : gMapIs kV es c m) {x y : MapEntry} (hx : x ∈ es.toList) (hy : y ∈ es.toList) (e : x.key = y.key) : x = y := by
  have hk : (es.toList.map (·.key)) = (m.map (·.1)).map kV := by
    have := congrArg (List.map Prod.fst) hi.list
    simpa [Function.comp_def] using this
  have h : (es.toList.map (·.key)).Nodup := by
    rw [hk, List.nodup_iff_pairwise_ne, List.pairwise_map]
    exact hi.keys.imp (fun hne he => hne (hinj _ _ he))
  obtain ⟨i, hii⟩ := List.getElem?_of_mem hx
  obtain ⟨j, hj⟩ := List.getElem?_of_mem hy
  have h1 : (es.toList.map (·.key))[i]? = some x.key := by rw [List.getElem?_map, hii]; rfl
  have h2 : (es.toList.map (·.key))[j]? = some x.key := by rw [List.getElem?_map, hj, e]; rfl
  have h3 := (List.getElem?_inj (List.getElem?_eq_some_iff.1 h1).1 h).1 (h1.trans h2.symm)
  subst h3
  exact Option.some.inj (hii.symm.trans hj)
section
variable {E : Env} {ops : Array Oper} {Q : Post} {rest : List Oper} {D : List Deferred} {L : List (Nat × Value)} {C : List Assn}
variable {dst : Option Tmp} {d : Nat} {ty : TypeId} {ps : String} {af : Array Edge} {g : Option (Nat × Bool)}
theorem gr_mrange {t kt et : TypeId} {xm : Operand} {b : Nat} {m : List (K × Value)} (i : Nat) (hg : gOn ops L g = true) (hm : ev L xm = some (.map (some b))) (ht : E.P.underlying t = some (.map kt et)) (hC : C[i]? = some (gmp kV b m)) (hd : Nat.blt d E.n = true)
    (k : ∀ r, RJ E ops Q rest D ((d, .pointer (some ⟨r, 0, none⟩)) :: L) (C.set i (gmi kV r b m m none))) : RJ E ops Q (⟨some d, .range t xm, ty, ps, af, g⟩ :: rest) D L C := by
  intro a w hfr hs
  have hd' : d < E.n := by rw [← Nat.blt_eq]; exact hd
  unfold wpL
  rw [if_pos (gOn_wanted hfr hg)]
  obtain ⟨es, c, he, hi⟩ := hs.holds _ (List.mem_of_getElem? hC)
  have hbl : b < w.heap.size := lt_of_heap he
  have hget : (getObj b).run E.P w = .ok (.map es c) w := MapKept.run_getObj_map he
  refine wp_value (v := .pointer (some ⟨w.heap.size, 0, none⟩)) (w' := w.alloc (.mapIter (some b) c #[] c)) (by simp) ?_ ?_
  · simp [execOp, Instr.range, hfr.ev hm, run_underlying ht, hget, newObj, Sem.run]
  · refine k _ _ _ (hfr.put hd' _) (hs.mv i hC ⟨⟨by omega, es, c, c, #[], c, ?_, hi, heap_alloc_new w _, hi.old, Nat.le_refl _, Nat.le_refl _, ?_, fun p hp => by cases hp⟩, Keeps.alloc _ w _, fun q hq => ?_, fun q hq => ?_⟩)
    · rw [Below.heap_alloc w _ b hbl]; exact he
    · have : leftOf es #[] = es := by unfold leftOf; exact Array.filter_eq_self.2 (by simp)
      rw [this]; exact hi.list
    · rcases hq with rfl | rfl
      · exact .inr (Nat.le_refl _)
      · exact .inl rfl
    · rcases hq with rfl | rfl
      · exact .inr (Nat.le_refl _)
      · exact .inl rfl
theorem gleft_keys {es : Array MapEntry} {c : Nat} {m left : List (K × Value)} {seen : Array Nat} (hinj : ∀ x y, kV x = kV y → x = y) (hi : gMapIs kV es c m) (h : (leftOf es seen).toList.map (fun (e : MapEntry) => (e.key, e.val)) = left.map (fun p => (kV p.1, p.2))) : (left.map (·.1)).Nodup := by
  have h1 : ((leftOf es seen).toList.map (·.key)).Sublist (es.toList.map (·.key)) := by
    unfold leftOf; rw [Array.toList_filter]; exact List.filter_sublist.map _
  have h2 : (es.toList.map (·.key)) = (m.map (·.1)).map kV := by
    have := congrArg (List.map Prod.fst) hi.list
    simpa [Function.comp_def] using this
  have h3 : ((leftOf es seen).toList.map (·.key)) = (left.map (·.1)).map kV := by
    have := congrArg (List.map Prod.fst) h
    simpa [Function.comp_def] using this
  rw [h2, h3] at h1
  have h4 : ((m.map (·.1)).map kV).Nodup := by
    rw [List.nodup_iff_pairwise_ne, List.pairwise_map]
    exact hi.keys.imp (fun hne he => hne (hinj _ _ he))
  have h5 := h4.sublist h1
  rw [List.nodup_iff_pairwise_ne, List.pairwise_map] at h5
  rw [List.nodup_iff_pairwise_ne]
  exact h5.imp (fun hne he => hne (by rw [he]))
theorem gr_mnext (hinj : ∀ x y, kV x = kV y → x = y) {xi : Operand} {r b : Nat} {m left : List (K × Value)} {cur : Option (K × Value)} (i : Nat) (hg : gOn ops L g = true) (hm : ev L xi = some (.pointer (some ⟨r, 0, none⟩))) (hC : C[i]? = some (gmi kV r b m left cur)) (hd : Nat.blt d E.n = true)
    (k0 : left = [] → RJ E ops Q rest D ((d, .tuple [.bool false].toArray) :: L) C)
    (k1 : ∀ x v, (x, v) ∈ left → (left.map (·.1)).Nodup → RJ E ops Q rest D ((d, .tuple [.bool true, kV x, v].toArray) :: L) (C.set i (gmi kV r b m (gdelK left x) (some (x, v))))) :
    RJ E ops Q (⟨some d, .next xi false, ty, ps, af, g⟩ :: rest) D L C := by
  intro a w hfr hs
  have hd' : d < E.n := by rw [← Nat.blt_eq]; exact hd
  unfold wpL
  rw [if_pos (gOn_wanted hfr hg)]
  obtain ⟨hne, es, c, since, seen, st, h1, hi, h3, hold, hsc, hsc2, hleft, _⟩ := hs.holds _ (List.mem_of_getElem? hC)
  rcases run_next_at (P := E.P) w ty r b since st seen es c h3 h1 hold hsc with ⟨h0, hr⟩ | ⟨e, he, w1, hw1, hr⟩
  · refine wp_value (v := .tuple #[.bool false]) (w' := w) (by simp) ?_ ?_
    · simp [execOp, hfr.ev hm, hr]
    · refine k0 ?_ _ _ (hfr.put hd' _) hs
      have : (leftOf es seen).toList = [] := by rw [← List.length_eq_zero_iff, Array.length_toList]; exact h0
      rw [this] at hleft
      exact List.map_eq_nil_iff.1 hleft.symm
  · have hmem : (e.key, e.val) ∈ left.map (fun p => (kV p.1, p.2)) := by rw [← hleft]; exact List.mem_map.2 ⟨e, he, rfl⟩
    obtain ⟨p, hp, hpe⟩ := List.mem_map.1 hmem
    obtain ⟨x, v⟩ := p
    simp only [Prod.mk.injEq] at hpe
    obtain ⟨hk, hv⟩ := hpe
    refine wp_value (v := .tuple #[.bool true, e.key, e.val]) (w' := ChangeMaps.setBlock w1 r (.mapIter (some b) since (seen.push e.born) c)) (by simp) ?_ ?_
    · simp [execOp, hfr.ev hm, hr]
    · rw [← hk, ← hv]
      have hnd := gleft_keys hinj hi hleft
      have hees : e ∈ es.toList := by unfold leftOf at he; rw [Array.toList_filter] at he; exact (List.mem_filter.1 he).1
      have hcs : c = c := rfl
      have hheap : w1.heap = w.heap := by rcases hw1 with rfl | rfl <;> rfl
      refine k1 x v hp hnd _ _ (hfr.put hd' _) (hs.mv i hC ⟨⟨hne, es, c, since, seen.push e.born, c, ?_, hi, ?_, hold, hsc2, hsc2, ?_, fun q hq => ?_⟩, ?_, fun q hq => .inl hq, fun q hq => .inl hq⟩)
      · show (w1.heap.setIfInBounds r _)[b]? = _
        rw [Array.getElem?_setIfInBounds_ne hne, hheap]; exact h1
      · show (w1.heap.setIfInBounds r _)[r]? = _
        rw [Array.getElem?_setIfInBounds_self_of_lt (by rw [hheap]; exact lt_of_heap h3)]
      · have hdk : leftOf es (seen.push e.born) = (leftOf es seen).filter (fun z => !(z.born == e.born)) := by
          unfold leftOf
          rw [Array.filter_filter]
          congr 1
          funext z
          simp only [Array.contains_push, Bool.not_or]
          rw [Bool.and_comm]
        rw [hdk, Array.toList_filter]
        have key : ∀ (l : List MapEntry) (ll : List (K × Value)), (∀ z ∈ l, z ∈ es.toList) → l.map (fun (e : MapEntry) => (e.key, e.val)) = ll.map (fun p => (kV p.1, p.2)) →
            (l.filter (fun z => !(z.born == e.born))).map (fun (e : MapEntry) => (e.key, e.val)) = (gdelK ll x).map (fun p => (kV p.1, p.2)) := by
          intro l
          induction l with
          | nil => intro ll _ h; cases ll with
            | nil => rfl
            | cons p ll => simp at h
          | cons z l ih =>
            intro ll hz h
            cases ll with
            | nil => simp at h
            | cons p ll =>
              simp only [List.map_cons, List.cons.injEq, Prod.mk.injEq] at h
              have ih' := ih ll (fun y hy => hz y (by simp [hy])) h.2
              have hiff : (z.born = e.born) ↔ (p.1 = x) := by
                constructor
                · intro hb
                  have : z = e := born_inj hi.born (hz z (by simp)) hees hb
                  rw [this] at h
                  have := h.1.1.symm.trans hk.symm
                  exact hinj _ _ this
                · intro hx
                  have hze : z.key = e.key := by rw [h.1.1, hx, hk]
                  rw [gkey_inj hinj hi (hz z (by simp)) hees hze]
              unfold gdelK at ih' ⊢
              by_cases hx : p.1 = x
              · rw [List.filter_cons_of_neg (by simp [hiff.2 hx]), List.filter_cons_of_neg (by simp [hx])]; exact ih'
              · rw [List.filter_cons_of_pos (by simpa using fun hb => hx (hiff.1 hb)), List.filter_cons_of_pos (by simpa using hx)]
                simp only [List.map_cons, h.1.1, h.1.2, ih']
        exact key _ _ (fun z hz => by unfold leftOf at hz; rw [Array.toList_filter] at hz; exact (List.mem_filter.1 hz).1) hleft
      · cases hq
        exact ⟨e, seen, hees, rfl, rfl, hk.symm, hv.symm⟩
      · refine ⟨?_, ?_, ?_, ?_, fun q hq hn => ?_⟩
        · rcases hw1 with rfl | rfl <;> rfl
        · rcases hw1 with rfl | rfl <;> rfl
        · rcases hw1 with rfl | rfl <;> rfl
        · show w.heap.size ≤ (w1.heap.setIfInBounds r _).size
          simp [hheap]
        · show (w1.heap.setIfInBounds r _)[q]? = _
          rw [Array.getElem?_setIfInBounds_ne (fun e => hn (.inl e.symm)), hheap]
theorem gsd_mentry {xi : Operand} {r b : Nat} {m left : List (K × Value)} {x : K} {v : Value} (i : Nat) (hg : gOn ops L g = true) (hm : ev L xi = some (.pointer (some ⟨r, 0, none⟩))) (hC : C[i]? = some (gmi kV r b m left (some (x, v)))) :
    SD E ops ⟨dst, .entry xi, ty, ps, af, g⟩ D L C (.tuple [kV x, v].toArray) :=
  sd_pure hg (by simp) fun a w hfr hs => by
    obtain ⟨hne, es, c, since, seen, st, h1, hi, h3, hold, hsc, hsc2, hleft, hcur⟩ := hs.holds _ (List.mem_of_getElem? hC)
    obtain ⟨e, seen0, he, rfl, rfl, hk, hv⟩ := hcur _ rfl
    have := run_entry_at (P := E.P) w r b since seen0 es st e h3 h1 he hi.born
    simp [execOp, hfr.ev hm, this, hk, hv]
theorem gr_mnext_v (hinj : ∀ x y, kV x = kV y → x = y) {β : Type} {f : β → Value} {xi : Operand} {r b : Nat} {m : List (K × Value)} {ll : List (K × β)} {cur : Option (K × Value)} (i : Nat) (hg : gOn ops L g = true) (hm : ev L xi = some (.pointer (some ⟨r, 0, none⟩))) (hC : C[i]? = some (gmi kV r b m (gmapV f ll) cur)) (hd : Nat.blt d E.n = true)
    (k0 : ll = [] → RJ E ops Q rest D ((d, .tuple [.bool false].toArray) :: L) C)
    (k1 : ∀ x y, (x, y) ∈ ll → (ll.map (·.1)).Nodup → RJ E ops Q rest D ((d, .tuple [.bool true, kV x, f y].toArray) :: L) (C.set i (gmi kV r b m (gmapV f (gdelK ll x)) (some (x, f y))))) :
    RJ E ops Q (⟨some d, .next xi false, ty, ps, af, g⟩ :: rest) D L C := by
  refine gr_mnext hinj i hg hm hC hd (fun h => k0 (List.map_eq_nil_iff.1 h)) (fun x v hxv hn => ?_)
  obtain ⟨p, hp, hpe⟩ := List.mem_map.1 hxv
  simp only [Prod.mk.injEq] at hpe
  obtain ⟨rfl, rfl⟩ := hpe
  have := k1 p.1 p.2 hp (by simpa [gmapV, Function.comp_def] using hn)
  rwa [gmapV_delK] at this
end
end
end
section
set_option linter.unusedVariables false
abbrev BM := List (Int × Bool)
def KeyOk (m : BM) (P : Nat → Prop) : Prop := (m.map (·.1)).Nodup ∧ ∀ x b, (x, b) ∈ m ↔ b = true ∧ ∃ i : Nat, x = (i : Int) ∧ P i
theorem key_nil : KeyOk [] (fun _ => False) := ⟨by simp, fun x b => by simp⟩
theorem key_iff {m : BM} {P R : Nat → Prop} (h : KeyOk m P) (he : ∀ i, P i ↔ R i) : KeyOk m R := ⟨h.1, fun x b => by rw [h.2]; simp only [he]⟩
theorem key_has {m : BM} {P : Nat → Prop} (h : KeyOk m P) {i : Nat} : ((i : Int), true) ∈ m ↔ P i := by
  rw [h.2]
  constructor
  · rintro ⟨_, k, e, hk⟩; obtain rfl : i = k := by omega
    exact hk
  · exact fun hp => ⟨rfl, i, rfl, hp⟩
theorem key_look {m : BM} {P : Nat → Prop} (h : KeyOk m P) {i : Nat} : (List.lookup (i : Int) m).getD false = true ↔ P i := by
  rw [← key_has h]
  constructor
  · intro hl
    cases e : List.lookup (i : Int) m with
    | none => rw [e] at hl; cases hl
    | some b =>
      rw [e, Option.getD_some] at hl; subst hl
      exact (glookup_mem h.1).2 e
  · intro hm; rw [(glookup_mem h.1).1 hm]; rfl
theorem key_ins {m : BM} {P : Nat → Prop} (h : KeyOk m P) {i : Nat} (hn : ¬ P i) : KeyOk (gsetK m (i : Int) true) (fun k => P k ∨ k = i) := by
  have e : gsetK m (i : Int) true = m ++ [((i : Int), true)] := by
    have : m.lookup (i : Int) = none := glookup_none.2 fun p hp q => by
      obtain ⟨x, b⟩ := p
      obtain ⟨_, k, e, hk⟩ := (h.2 x b).1 hp
      simp only at q
      obtain rfl : i = k := by omega
      exact hn hk
    unfold gsetK; rw [this]; rfl
  rw [e]
  refine ⟨?_, fun x b => ?_⟩
  · rw [List.map_append, List.nodup_append]
    refine ⟨h.1, by simp, fun a ha c hc => ?_⟩
    simp only [List.map_cons, List.map_nil, List.mem_singleton] at hc
    obtain ⟨⟨y, b⟩, hy, rfl⟩ := List.mem_map.1 ha
    obtain ⟨_, k, e, hk⟩ := (h.2 y b).1 hy
    subst hc
    intro q
    simp only at q
    obtain rfl : i = k := by omega
    exact hn hk
  · rw [List.mem_append, h.2, List.mem_singleton, Prod.mk.injEq]
    constructor
    · rintro (⟨rfl, k, rfl, hk⟩ | ⟨rfl, rfl⟩)
      · exact ⟨rfl, k, rfl, .inl hk⟩
      · exact ⟨rfl, i, rfl, .inr rfl⟩
    · rintro ⟨rfl, k, rfl, hk | rfl⟩
      · exact .inl ⟨rfl, k, rfl, hk⟩
      · exact .inr ⟨rfl, rfl⟩
theorem key_del {m : BM} {P : Nat → Prop} (h : KeyOk m P) {i : Nat} : KeyOk (gdelK m (i : Int)) (fun k => P k ∧ k ≠ i) := by
  have e : (gdelK m (i : Int)).map (·.1) = (m.map (·.1)).filter fun k => !decide (k = (i : Int)) := by
    unfold gdelK; rw [List.filter_map]; rfl
  refine ⟨by rw [e]; exact h.1.filter _, fun x b => ?_⟩
  unfold gdelK
  rw [List.mem_filter, h.2]
  simp only [Bool.not_eq_true', decide_eq_false_iff_not]
  constructor
  · rintro ⟨⟨rfl, k, rfl, hk⟩, hne⟩; exact ⟨rfl, k, rfl, hk, fun q => hne (by rw [q])⟩
  · rintro ⟨rfl, k, rfl, hk, hne⟩; exact ⟨⟨rfl, k, rfl, hk⟩, fun q => hne (by omega)⟩
theorem key_len {m : BM} {P : Nat → Prop} (h : KeyOk m P) {n : Nat} (hn : ∀ i, P i → i < n) : m.length ≤ n := by
  have hsub : ∀ x ∈ m.map (·.1), x ∈ (List.range n).map fun (i : Nat) => (i : Int) := fun x hx => by
    obtain ⟨⟨y, b⟩, hy, rfl⟩ := List.mem_map.1 hx
    obtain ⟨_, i, e, hi⟩ := (h.2 y b).1 hy
    exact List.mem_map.2 ⟨i, List.mem_range.2 (hn i hi), e.symm⟩
  have := List.Nodup.length_le_of_subset h.1 hsub
  simpa using this
theorem key_dellen {m : BM} {P : Nat → Prop} (h : KeyOk m P) {i : Nat} (hi : P i) : (gdelK m (i : Int)).length + 1 = m.length := by
  have hm := (key_has h).2 hi
  have hn := h.1
  clear h
  unfold gdelK
  induction m with
  | nil => cases hm
  | cons p m ih =>
    obtain ⟨x, b⟩ := p
    rw [List.map_cons, List.nodup_cons] at hn
    by_cases e : x = (i : Int)
    · subst e
      have : m.filter (fun p => !decide (p.1 = (i : Int))) = m := by
        rw [List.filter_eq_self]
        intro q hq
        simp only [Bool.not_eq_true', decide_eq_false_iff_not]
        exact fun e => hn.1 (List.mem_map.2 ⟨q, hq, e⟩)
      simp [this]
    · rcases List.mem_cons.1 hm with q | q
      · simp only [Prod.mk.injEq] at q; exact absurd q.1.symm e
      · have := ih q hn.2
        simp only [List.filter_cons, e, decide_false, Bool.not_false, if_true, List.length_cons]
        omega
def hearQ (d : GuardM) (P : Nat → Prop) (s : SpotV) (i : Nat) : Prop := P i ∧ ∃ p, d.Posts[i]? = some p ∧ hearsP d s p.Spot
noncomputable def moreL (d : GuardM) (P : Nat → Prop) (s : SpotV) : List Int := idxL d.Posts.length (hearQ d P s)
def spotOf (d : GuardM) (x : Int) : SpotV := ((d.Posts[x.toNat]?).map (·.Spot)).getD d.Tower
theorem spotOf_at {d : GuardM} {i : Nat} {p : PostV} (h : d.Posts[i]? = some p) : spotOf d (i : Int) = p.Spot := by unfold spotOf; rw [Int.toNat_natCast, h]; rfl
structure CallI (d : GuardM) (S L : Nat → Prop) (todo : List SpotV) (l : List Int) : Prop where
  left : ∀ i : Nat, L i ↔ (S i ∧ i < d.Posts.length) ∧ (i : Int) ∉ l
  calls : ∀ x ∈ l, ∃ i : Nat, x = (i : Int) ∧ CallsP d S i
  nodup : l.Nodup
  src : ∀ s ∈ todo, s = d.Tower ∨ ∃ (i : Nat) (p : PostV), CallsP d S i ∧ d.Posts[i]? = some p ∧ p.Spot = s
  tower : d.Tower ∈ todo ∨ ∀ (i : Nat) (p : PostV), L i → d.Posts[i]? = some p → ¬ hearsP d d.Tower p.Spot
  posts : ∀ (k : Nat) (q : PostV), (k : Int) ∈ l → d.Posts[k]? = some q → q.Spot ∈ todo ∨ ∀ (i : Nat) (p : PostV), L i → d.Posts[i]? = some p → ¬ hearsP d q.Spot p.Spot
theorem call_start {d : GuardM} {S L : Nat → Prop} (h : ∀ i, L i ↔ S i ∧ i < d.Posts.length) : CallI d S L [d.Tower] [] :=
  ⟨fun i => by rw [h]; simp, fun x hx => by simp at hx, by simp, fun s hs => .inl (by simpa using hs), .inl (by simp), fun k q hk => by simp at hk⟩
theorem call_step {d : GuardM} {S L L' : Nat → Prop} {s : SpotV} {rest : List SpotV} {l : List Int} (h : CallI d S L (s :: rest) l) (hl : ∀ i : Nat, L' i ↔ L i ∧ (i : Int) ∉ moreL d L s) : CallI d S L' (rest ++ (moreL d L s).map (spotOf d)) (l ++ moreL d L s) := by
  have hmore : ∀ x ∈ moreL d L s, ∃ i : Nat, x = (i : Int) ∧ CallsP d S i := by
    intro x hx
    obtain ⟨i, rfl, h1, hL, p, hp, hh⟩ := mem_idxL.1 hx
    refine ⟨i, rfl, ?_⟩
    have hS := ((h.left i).1 hL).1.1
    rcases h.src s (by simp) with e | ⟨k, q, hk, hq, e⟩
    · subst e; exact .tower hS hp hh
    · subst e; exact .post hk hq hS hp hh
  have hspot : ∀ (k : Nat) (q : PostV), (k : Int) ∈ moreL d L s → d.Posts[k]? = some q → q.Spot ∈ (moreL d L s).map (spotOf d) := fun k q hk hq => List.mem_map.2 ⟨(k : Int), hk, spotOf_at hq⟩
  have heard : ∀ (i : Nat) (p : PostV), L' i → d.Posts[i]? = some p → ¬ hearsP d s p.Spot := fun i p hi hp hh => by
    obtain ⟨h1, h2⟩ := (hl i).1 hi
    exact h2 (mem_idx.2 ⟨(List.getElem?_eq_some_iff.1 hp).1, h1, p, hp, hh⟩)
  refine ⟨fun i => ?_, fun x hx => ?_, ?_, fun z hz => ?_, ?_, fun k q hk hq => ?_⟩
  · rw [hl, h.left, List.mem_append]
    constructor
    · rintro ⟨⟨h1, h2⟩, h3⟩; exact ⟨h1, fun q => q.elim h2 h3⟩
    · rintro ⟨h1, h2⟩; exact ⟨⟨h1, fun q => h2 (.inl q)⟩, fun q => h2 (.inr q)⟩
  · rcases List.mem_append.1 hx with hx | hx
    · exact h.calls x hx
    · exact hmore x hx
  · rw [List.nodup_append]
    refine ⟨h.nodup, idxL_sorted.imp (fun h => by omega), fun a ha b hb e => ?_⟩
    subst e
    obtain ⟨i, rfl, _, hL, _⟩ := mem_idxL.1 hb
    exact ((h.left i).1 hL).2 ha
  · rcases List.mem_append.1 hz with hz | hz
    · exact h.src z (List.mem_cons_of_mem _ hz)
    · obtain ⟨x, hx, rfl⟩ := List.mem_map.1 hz
      obtain ⟨i, rfl, hc⟩ := hmore x hx
      have hp : d.Posts[i]? = some (d.Posts[i]'hc.lt) := List.getElem?_eq_getElem _
      exact .inr ⟨i, _, hc, hp, (spotOf_at hp).symm⟩
  · rcases h.tower with q | q
    · rcases List.mem_cons.1 q with e | q
      · right; rw [e]; exact heard
      · exact .inl (List.mem_append_left _ q)
    · exact .inr fun i p hi => q i p ((hl i).1 hi).1
  · rcases List.mem_append.1 hk with hk | hk
    · rcases h.posts k q hk hq with e | e
      · rcases List.mem_cons.1 e with e | e
        · right; rw [e]; exact heard
        · exact .inl (List.mem_append_left _ e)
      · exact .inr fun i p hi => e i p ((hl i).1 hi).1
    · exact .inl (List.mem_append_right _ (hspot k q hk hq))
theorem call_done {d : GuardM} {S L : Nat → Prop} {l s : List Int} (h : CallI d S L [] l) (hp : s.Perm l) (hs : s.Pairwise (· ≤ ·)) : s = calledL d S := by
  refine sorted_idx ?_ fun x => ?_
  · have hn : s.Nodup := hp.nodup_iff.2 h.nodup
    exact (hs.and hn).imp fun h => by have := h.1; have := h.2; omega
  · rw [hp.mem_iff]
    constructor
    · intro hx
      obtain ⟨i, rfl, hc⟩ := h.calls x hx
      exact ⟨i, rfl, hc.lt, hc⟩
    · rintro ⟨i, rfl, hi, hc⟩
      clear hi
      induction hc with
      | @tower i p hS hp hh =>
        rcases Classical.em ((i : Int) ∈ l) with q | q
        · exact q
        · rcases h.tower with e | e
          · cases e
          · exact absurd hh (e i p ((h.left i).2 ⟨⟨hS, (List.getElem?_eq_some_iff.1 hp).1⟩, q⟩) hp)
      | @post k i q p hk hq hS hp hh ih =>
        rcases Classical.em ((i : Int) ∈ l) with e | e
        · exact e
        · rcases h.posts k q ih hq with u | u
          · cases u
          · exact absurd hh (u i p ((h.left i).2 ⟨⟨hS, (List.getElem?_eq_some_iff.1 hp).1⟩, e⟩) hp)
theorem call_len {d : GuardM} {S L : Nat → Prop} {todo : List SpotV} {l : List Int} (h : CallI d S L todo l) : l.length ≤ d.Posts.length := by
  have hsub : ∀ x ∈ l, x ∈ (List.range d.Posts.length).map fun (i : Nat) => (i : Int) := fun x hx => by
    obtain ⟨i, rfl, hc⟩ := h.calls x hx
    exact List.mem_map.2 ⟨i, List.mem_range.2 hc.lt, rfl⟩
  have := (List.nodup_iff_count.1 h.nodup)
  have hl := List.Nodup.length_le_of_subset h.nodup hsub
  simpa using hl
theorem left_yes {m : BM} {S : Nat → Prop} {i : Nat} (h : KeyOk m (fun k => S k ∧ k < i)) (hb : S i) : KeyOk (gsetK m (i : Int) true) (fun k => S k ∧ k < i + 1) :=
  key_iff (key_ins h (fun q => by omega)) fun k => by
    constructor
    · rintro (⟨a, b⟩ | rfl)
      · exact ⟨a, by omega⟩
      · exact ⟨hb, by omega⟩
    · rintro ⟨a, b⟩
      by_cases e : k = i
      · exact .inr e
      · exact .inl ⟨a, by omega⟩
theorem left_no {m : BM} {S : Nat → Prop} {i : Nat} (h : KeyOk m (fun k => S k ∧ k < i)) (hb : ¬ S i) : KeyOk m (fun k => S k ∧ k < i + 1) :=
  key_iff h fun k => by
    constructor
    · rintro ⟨a, b⟩; exact ⟨a, by omega⟩
    · rintro ⟨a, b⟩
      by_cases e : k = i
      · subst e; exact absurd a hb
      · exact ⟨a, by omega⟩
theorem take_mem {k : List Int} {j : Nat} {x y : Int} (hx : k[j]? = some x) : y ∈ k.take (j + 1) ↔ y ∈ k.take j ∨ y = x := by
  rw [List.take_add_one, hx, List.mem_append]
  simp
theorem del_take {m : BM} {L : Nat → Prop} {k : List Int} {j : Nat} {x : Int} {i : Nat} (h : KeyOk m (fun q => L q ∧ (q : Int) ∉ k.take j)) (hx : k[j]? = some x) (hi : x = (i : Int)) : KeyOk (gdelK m x) (fun q => L q ∧ (q : Int) ∉ k.take (j + 1)) := by
  subst hi
  refine key_iff (key_del h) fun q => ?_
  rw [take_mem hx]
  constructor
  · rintro ⟨⟨a, b⟩, c⟩; exact ⟨a, fun e => e.elim b (fun e => c (by omega))⟩
  · rintro ⟨a, b⟩; exact ⟨⟨a, fun e => b (.inl e)⟩, fun e => b (.inr (by rw [e]))⟩
theorem nodup_take {k : List Int} {j : Nat} {x : Int} (hn : k.Nodup) (hx : k[j]? = some x) : x ∉ k.take j := by
  intro h
  obtain ⟨q, hq⟩ := List.getElem?_of_mem h
  have h1 := List.getElem?_eq_some_iff.1 hq
  obtain ⟨hq1, hq2⟩ := h1
  rw [List.length_take] at hq1
  rw [List.getElem?_take, if_pos (by omega)] at hq
  obtain ⟨hj1, hj2⟩ := List.getElem?_eq_some_iff.1 hx
  obtain ⟨hq3, hq4⟩ := List.getElem?_eq_some_iff.1 hq
  have := (List.pairwise_iff_getElem.1 hn) q j (by omega) hj1 (by omega)
  exact this (hq4.trans hj2.symm)
theorem del_takelen {m : BM} {L : Nat → Prop} {k : List Int} {j : Nat} {x : Int} {i : Nat} (h : KeyOk m (fun q => L q ∧ (q : Int) ∉ k.take j)) (hn : k.Nodup) (hx : k[j]? = some x) (hi : x = (i : Int)) (hL : L i) : (gdelK m x).length + 1 = m.length := by
  subst hi
  exact key_dellen h ⟨hL, nodup_take hn hx⟩
theorem more_nodup {d : GuardM} {L : Nat → Prop} {s : SpotV} : (moreL d L s).Nodup := idxL_sorted.imp fun h => by omega
theorem spotOf_x {d : GuardM} {x : Int} {p : PostV} (h : d.Posts[x.toNat]? = some p) : spotOf d x = p.Spot := by unfold spotOf; rw [h]; rfl
theorem map_take_snoc {d : GuardM} {k : List Int} {j : Nat} {x : Int} {p : PostV} (hx : k[j]? = some x) (hp : d.Posts[x.toNat]? = some p) : (k.take (j + 1)).map (spotOf d) = (k.take j).map (spotOf d) ++ [p.Spot] := by
  rw [List.take_add_one, hx, List.map_append]
  simp [spotOf_x hp]
theorem hears_great {d : GuardM} {a b : SpotV} (h1 : (apartF d.Track a b).Lo ≤ (apartF d.Track a b).Hi) (h2 : 0 ≤ d.Radio) : greatF [(apartF d.Track a b).Lo, (apartF d.Track a b).Hi] ≤ d.Radio ↔ hearsP d a b := by
  unfold hearsP
  show max (max (max (max 0 _) (-_)) _) (-_) ≤ _ ↔ _
  omega
theorem hears_near {d : GuardM} {a b : SpotV} (e : b = a) (h : a.Off.Lo = a.Off.Hi) (h2 : 0 ≤ d.Radio) : hearsP d a b := by
  subst e
  unfold hearsP apartF wayB
  rw [if_neg (by omega), show max b.Stretch b.Stretch - min b.Stretch b.Stretch = 0 by omega]
  simp only [Int.toNat_zero, longF, zeroZ, addZ, lessZ]
  omega
theorem src_spot {d : GuardM} (hok : GuardOk d) {S L : Nat → Prop} {td : List SpotV} {l : List Int} (h : CallI d S L td l) {s : SpotV} (hs : s ∈ td) : SpotOk d.Track s := by
  rcases h.src s hs with e | ⟨i, p, _, hp, e⟩
  · subst e; exact hok.tower
  · subst e; exact (hok.post i p hp).2.2.1
end
section
open Go.RowKit
set_option linter.unusedVariables false
/-- what of a slice is left from k on -/
def sub1 (A : Option Addr) (c k sz : Nat) : Option Addr := if c = k then A else A.map (·.add (k * sz))
section
variable {E : Env} {ops : Array Oper} {Q : Post} {rest : List Oper} {D : List Deferred} {L : List (Nat × Value)} {C : List Assn}
variable {d : Nat} {ty : TypeId} {ps : String} {af : Array Edge} {g : Option (Nat × Bool)}
theorem tE_size {P : Program} {t e sz : Nat} (h : tE P t = some (e, sz)) (w : World) : P.underlying t = some (.slice e) ∧ (sizeOf e).run P w = .ok sz w := by
  unfold tE at h
  split at h
  · rename_i e' hu
    split at h
    · rename_i i hi
      cases h
      exact ⟨hu, by simp [sizeOf, typeInfo, hi]⟩
    · cases h
  · cases h
theorem elem_of {P : Program} {t e : Nat} (h : P.underlying t = some (.slice e)) : P.underlying t = some (.slice (P.elem t)) := by
  rw [h]; simp [Program.elem, h]
theorem elem_is {P : Program} {t e : Nat} (h : P.underlying t = some (.slice e)) : P.elem t = e := by simp [Program.elem, h]
/-- s[k:] -/
theorem SLO (k : Nat) {x lo : Operand} {t e sz n c : Nat} {A : Option Addr} {j : Int} (h : bF E.n ops L d g x lo = some (.slice A n c, .int .i64 j)) (ht : tE E.P t = some (e, sz)) (hj : j = (k : Int)) (hk : k ≤ n) :
    SE E ops ⟨some d, .slice t x (some lo) none none, ty, ps, af, g⟩ D L C (.slice (sub1 A c k sz) (n - k) (c - k)) d := by
  obtain ⟨h1, h2, h3, h4⟩ := bF_out h
  subst hj
  refine ⟨sd_pure h1 (by simp) fun a w hfr hs => ?_, rfl, h2⟩
  obtain ⟨hu, hz⟩ := tE_size ht w
  have hr := run_slice_l (P := E.P) w t A n c (elem_of hu) .i64 (k : Int) (by omega) (by omega)
  rw [elem_is hu, hz] at hr
  simp only [Result.andThen, Int.toNat_natCast, sliced] at hr
  have hs2 := run_sliceAt_slice (P := E.P) w t (.slice A n c) (some (.int .i64 (k : Int))) none none (elem_of hu)
  simp [execOp, hfr.ev h3, hfr.ev h4, hs2, hr, sub1]
/-- s[:k] -/
theorem SHI (k : Nat) {x hi : Operand} {t e sz n c : Nat} {A : Option Addr} {j : Int} (h : bF E.n ops L d g x hi = some (.slice A n c, .int .i64 j)) (ht : tE E.P t = some (e, sz)) (hj : j = (k : Int)) (hk : k ≤ c) :
    SE E ops ⟨some d, .slice t x none (some hi) none, ty, ps, af, g⟩ D L C (.slice A k c) d := by
  obtain ⟨h1, h2, h3, h4⟩ := bF_out h
  subst hj
  refine ⟨sd_pure h1 (by simp) fun a w hfr hs => ?_, rfl, h2⟩
  obtain ⟨hu, hz⟩ := tE_size ht w
  have hr := run_slice_h (P := E.P) w t A n c (elem_of hu) .i64 (k : Int) (by omega) (by omega)
  rw [elem_is hu, hz] at hr
  have e0 : (if c = 0 then A else A.map (·.add (0 * sz))) = A := by
    split
    · rfl
    · cases A with
      | none => rfl
      | some ad => simp [Addr.add]
  simp only [Result.andThen, Int.toNat_natCast, sliced, e0, Nat.sub_zero] at hr
  have hs2 := run_sliceAt_slice (P := E.P) w t (.slice A n c) none (some (.int .i64 (k : Int))) none (elem_of hu)
  simp [execOp, hfr.ev h3, hfr.ev h4, hs2, hr]
end
theorem own_cap {w : World} {a : Option Addr} {c e sz : Nat} {es : List (List Value)} (h : (own a c e sz es).holds w) : es.length ≤ c := by
  rcases h.2.2 with ⟨h1, h2⟩ | ⟨g, cap, cur, hv, _, _, h4, _⟩
  · omega
  · injection hv with _ _ hc; omega
end
section
open Go.RowKit
set_option linter.unusedVariables false
/-- where a row lies, and its capacity -/
abbrev RA := Option Addr × Nat
/-- what is asked of memory by all elements -/
def nest {M A : Type} (f : M → A → List Assn) : List M → List A → List Assn
  | m :: ms, a :: asl => f m a ++ nest f ms asl
  | _, _ => []
theorem mem_nest {M A : Type} {f : M → A → List Assn} : ∀ {ms : List M} {asl : List A} {k : Nat} {m : M} {a : A} {X : Assn}, ms[k]? = some m → asl[k]? = some a → X ∈ f m a → X ∈ nest f ms asl
  | [], _, k, m, a, X, h, _, _ => by simp at h
  | _ :: _, [], k, m, a, X, _, h, _ => by simp at h
  | x :: ms, y :: asl, 0, m, a, X, h, h2, hX => by
    simp at h h2; subst h h2
    exact List.mem_append_left _ hX
  | x :: ms, y :: asl, k + 1, m, a, X, h, h2, hX => List.mem_append_right _ (mem_nest (ms := ms) (asl := asl) (k := k) (by simpa using h) (by simpa using h2) hX)
theorem nest_mem {M A : Type} {f : M → A → List Assn} : ∀ {ms : List M} {asl : List A} {X : Assn}, X ∈ nest f ms asl → ∃ (k : Nat) (m : M) (a : A), ms[k]? = some m ∧ asl[k]? = some a ∧ X ∈ f m a
  | [], _, X, h => by cases h
  | _ :: _, [], X, h => by cases h
  | x :: ms, y :: asl, X, h => by
    rcases List.mem_append.1 h with h | h
    · exact ⟨0, x, y, rfl, rfl, h⟩
    · obtain ⟨k, m, a, h1, h2, h3⟩ := nest_mem h
      exact ⟨k + 1, m, a, by simpa using h1, by simpa using h2, h3⟩
theorem nest_append {M A : Type} {f : M → A → List Assn} : ∀ {ms : List M} {asl : List A} {ns : List M} {bs : List A}, ms.length = asl.length → nest f (ms ++ ns) (asl ++ bs) = nest f ms asl ++ nest f ns bs
  | [], [], ns, bs, _ => rfl
  | [], _ :: _, ns, bs, h => by simp at h
  | _ :: _, [], ns, bs, h => by simp at h
  | x :: ms, y :: asl, ns, bs, h => by
    simp only [List.cons_append, nest, List.append_assoc]
    rw [nest_append (by simpa using h)]
theorem zip_get {M A β : Type} {f : M → A → β} {ms : List M} {asl : List A} {k : Nat} {m : M} {a : A} (h : ms[k]? = some m) (h2 : asl[k]? = some a) : (List.zipWith f ms asl)[k]? = some (f m a) := by
  rw [List.getElem?_zipWith, h, h2]
theorem has_inr {C L : List Assn} {A : Assn} (i : Nat) (hC : C[i]? = some (bun L).ro) (hm : A ∈ L) : Has C A.holds := fun w hw => hw _ (List.mem_of_getElem? hC) A hm
theorem bun_bund {M A : Type} {f g : M → A → List Assn} {ms : List M} {asl : List A} {C : List Assn} (i : Nat) (hC : C[i]? = some (bund (nest g ms asl))) (h : ∀ m a w, (∀ X ∈ g m a, X.holds w) → ∀ X ∈ f m a, X.holds w) : Has C (bun (nest f ms asl)).holds := fun w hw X hX => by
  have hb := hw _ (List.mem_of_getElem? hC)
  obtain ⟨k, m, a, h1, h2, h3⟩ := nest_mem hX
  exact h m a w (fun Y hY => hb.1 Y (mem_nest h1 h2 hY)) X h3
section
variable {E : Env} {ops : Array Oper} {Q : Post} {rest : List Oper} {D : List Deferred} {L : List (Nat × Value)} {C : List Assn}
variable {d : Nat} {ty : TypeId} {ps : String} {af : Array Edge} {g : Option (Nat × Bool)}
end
theorem St.tie {S : BS} {w0 w : World} {C : List Assn} {A : Assn} {L L' : List Assn} (h : St S w0 (A :: bund L :: C) w) (e : L ++ [A] = L') : St S w0 (bund L' :: C) w := by
  subst e
  have h1 : St S w0 (bund L :: A :: C) w := h.perm (List.Perm.swap _ _ _)
  have h2 : St S w0 (L ++ (A :: C)) w := h1.untied
  have h3 : St S w0 ((L ++ [A]) ++ C) w := by simpa using h2
  exact h3.tied
theorem St.tie0 {S : BS} {w0 w : World} {C : List Assn} (h : St S w0 C w) : St S w0 (bund [] :: C) w := St.tied (C1 := []) h
section
variable {E : Env} {Q : Post} {D : List Deferred} {L : List (Nat × Value)} {C : List Assn}
theorem w_tie0 {c : Code} (h : WJ E c Q D L (bund [] :: C)) : WJ E c Q D L C := fun a w hf hs => h a w hf hs.tie0
theorem k_tie {K : Act → World → Prop} {C1 : List Assn} {A : Assn} {X X' : List Assn} (i j : Nat) (hn : decide (j :: i :: (List.range C.length).filter fun k => k != i && k != j).Nodup = true) (hC : sel C (j :: i :: (List.range C.length).filter fun k => k != i && k != j) = A :: bund X :: C1) (e : X ++ [A] = X')
    (h : KJ E K D L (bund X' :: C1)) : KJ E K D L C := fun a w hf hs => h a w hf ((St.sel _ hn hC hs).tie e)
end
end
section
open Go.RowKit
set_option linter.unusedVariables false
/-- a slice of one's own whose first elements have been passed -/
def oq (a : Option Addr) (c : Nat) (e sz : Nat) (es : List (List Value)) : Assn where
  foot b := ∃ ad, a = some ad ∧ b = ad.block
  wf b := ∃ ad, a = some ad ∧ b = ad.block
  holds w := ∃ (a0 : Option Addr) (c0 : Nat) (pre : List (List Value)), (own a0 c0 e sz (pre ++ es)).holds w ∧ c + pre.length = c0 ∧ (0 < c → a = a0.map (·.add (pre.length * sz))) ∧ a.map (·.block) = a0.map (·.block)
  wr := true
  wfoot _ h := h
  whole _ _ h := h
  lt w h b hb := by
    obtain ⟨ad, rfl, rfl⟩ := hb
    obtain ⟨a0, c0, pre, h1, _, _, h2⟩ := h
    cases a0 with
    | none => simp at h2
    | some ad0 =>
      simp only [Option.map_some, Option.some.injEq] at h2
      rw [h2]; exact (own (some ad0) c0 e sz (pre ++ es)).lt w h1 _ ⟨_, rfl, rfl⟩
  keep w w' hk h := by
    obtain ⟨a0, c0, pre, h1, h2, h3, h4⟩ := h
    refine ⟨a0, c0, pre, (own a0 c0 e sz (pre ++ es)).keep w w' (fun b hb => ?_) h1, h2, h3, h4⟩
    obtain ⟨ad0, rfl, rfl⟩ := hb
    cases a with
    | none => simp at h4
    | some ad =>
      simp only [Option.map_some, Option.some.injEq] at h4
      exact hk _ ⟨ad, rfl, h4.symm⟩
theorem own_oq {w : World} {a : Option Addr} {c e sz : Nat} {es : List (List Value)} (h : (own a c e sz es).holds w) : (oq a c e sz es).holds w :=
  ⟨a, c, [], h, rfl, fun _ => by cases a <;> simp [Addr.add], rfl⟩
theorem oq_len {w : World} {a : Option Addr} {c e sz : Nat} {es : List (List Value)} (h : (oq a c e sz es).holds w) : es.length ≤ c := by
  obtain ⟨a0, c0, pre, h1, h2, _, _⟩ := h
  have := own_cap h1
  rw [List.length_append] at this; omega
theorem oq_rd {w : World} {a : Option Addr} {c e sz : Nat} {es : List (List Value)} (h : (oq a c e sz es).holds w) : (rd a es.length sz es).holds w := by
  have hlen := oq_len h
  obtain ⟨a0, c0, pre, h1, h2, h3, _⟩ := h
  obtain ⟨hr1, hr2, hr3⟩ := own_rd h1
  refine ⟨rfl, fun x hx => hr2 x (List.mem_append_right _ hx), fun hp => ?_⟩
  have hs : 0 < sz := Nat.pos_of_mul_pos_left hp
  have hn : 0 < es.length := Nat.pos_of_mul_pos_right hp
  obtain ⟨ad, hA, hc⟩ := hr3 (Nat.mul_pos (by rw [List.length_append]; omega) hs)
  refine ⟨ad.add (pre.length * sz), by rw [h3 (by omega), hA]; rfl, fun i x j v hx hv => ?_⟩
  have := hc (pre.length + i) x j v (by rw [List.getElem?_append_right (by omega), Nat.add_sub_cancel_left]; exact hx) hv
  rw [add_add, show pre.length * sz + (i * sz + j) = (pre.length + i) * sz + j by rw [Nat.add_mul, Nat.add_assoc]]
  exact this
theorem has_oq_n {C : List Assn} {a : Option Addr} {c e sz n : Nat} {es : List (List Value)} (i : Nat) (hC : C[i]? = some (oq a c e sz es)) (hn : es.length = n) : Has C (rd a n sz es).holds := fun w hw => by subst hn; exact oq_rd (hw _ (List.mem_of_getElem? hC))
/-- the first one is passed -/
theorem oq_next {w : World} {a : Option Addr} {c e sz : Nat} {x : List Value} {es : List (List Value)} (h : (oq a c e sz (x :: es)).holds w) : (oq (sub1 a c 1 sz) (c - 1) e sz es).holds w := by
  have hlen := oq_len h
  obtain ⟨a0, c0, pre, h1, h2, h3, h4⟩ := h
  simp only [List.length_cons] at hlen
  refine ⟨a0, c0, pre ++ [x], by rw [List.append_assoc]; exact h1, by rw [List.length_append]; simp; omega, fun hc => ?_, ?_⟩
  · unfold sub1
    rw [if_neg (by omega), h3 (by omega), Option.map_map, List.length_append]
    congr 1
    funext ad
    simp [Function.comp, add_add, Nat.add_mul]
  · unfold sub1
    split
    · exact h4
    · rw [← h4, Option.map_map]
      cases a <;> simp [Function.comp, Addr.add]
      split <;> rfl
theorem to_oq {a : Option Addr} {c e sz : Nat} {es : List (List Value)} : (∀ w, (own a c e sz es).holds w → (oq a c e sz es).holds w) ∧ (∀ b, (oq a c e sz es).foot b → (own a c e sz es).foot b) ∧ ∀ b, (oq a c e sz es).wf b → (own a c e sz es).wf b :=
  ⟨fun w h => own_oq h, fun b h => h, fun b h => h⟩
theorem next_oq {a : Option Addr} {c e sz : Nat} {x : List Value} {es : List (List Value)} : (∀ w, (oq a c e sz (x :: es)).holds w → (oq (sub1 a c 1 sz) (c - 1) e sz es).holds w) ∧ (∀ b, (oq (sub1 a c 1 sz) (c - 1) e sz es).foot b → (oq a c e sz (x :: es)).foot b) ∧ ∀ b, (oq (sub1 a c 1 sz) (c - 1) e sz es).wf b → (oq a c e sz (x :: es)).wf b := by
  have key : ∀ b, (∃ ad, sub1 a c 1 sz = some ad ∧ b = ad.block) → ∃ ad, a = some ad ∧ b = ad.block := by
    rintro b ⟨ad, h, rfl⟩
    unfold sub1 at h
    split at h
    · exact ⟨ad, h, rfl⟩
    · cases a with
      | none => cases h
      | some a1 =>
        simp only [Option.map_some, Option.some.injEq] at h
        refine ⟨a1, rfl, ?_⟩
        rw [← h]; unfold Addr.add; split <;> rfl
  exact ⟨fun w h => oq_next h, key, key⟩
theorem w_imp {E : Env} {code : Code} {Q : Post} {D : List Deferred} {L : List (Nat × Value)} {C C' : List Assn} {A B : Assn} (i : Nat) (hC : C[i]? = some A) (hh : (∀ w, A.holds w → B.holds w) ∧ (∀ b, B.foot b → A.foot b) ∧ ∀ b, B.wf b → A.wf b) (hC' : C.set i B = C') (h : WJ E code Q D L C') : WJ E code Q D L C := fun a w hf hs =>
  h a w hf (hC' ▸ hs.imp i hC hh.1 hh.2.1 hh.2.2)
section
variable {P : Program}
/-- append in place, behind an element that is not the first of the block -/
theorem run_append_off (w : World) (t ty e : TypeId) (i : TypeInfo) (ht : P.underlying t = some (.slice e)) (hi : P.info? e = some i) (g o sLen sCap : Nat) (cur : Array Value) (hg : w.heap[g]? = some (.cells cur e (0, 0)))
    (a : Addr) (m c : Nat) (news : List Value) (hl : news.length = m * i.size) (hnews : ∀ j u, news[j]? = some u → w.cell? (a.add j) = some u) (h1 : ∀ u ∈ news, u.oneCell' = true) (hroom : sLen + m ≤ sCap) (hfit : o + sLen * i.size + news.length ≤ cur.size) :
    (Builtin.append_ #[t, t] ty #[.slice (some ⟨g, o, none⟩) sLen sCap, .slice (some a) m c]).run P w =
      .ok (.slice (some ⟨g, o, none⟩) (sLen + m) sCap) (w.setRow g (cur.toList.take (o + sLen * i.size) ++ news ++ cur.toList.drop (o + sLen * i.size + news.length)).toArray) := by
  have hf := run_firstCells_some (P := P) w i.size m a m c news hl hnews
  have hst := run_storeCells_at P g (o + sLen * i.size) e news 0 cur w hg (by simpa using hfit) h1
  simp only [Nat.add_zero] at hst
  simp [Builtin.append_, run_underlying ht, sizeOf, typeInfo, hi, Builtin.lenOf, hroom, hf, Addr.add_lit, hst]
end
section
variable {E : Env} {ops : Array Oper} {Q : Post} {rest : List Oper} {D : List Deferred} {L : List (Nat × Value)} {C : List Assn}
variable {d : Nat} {ty : TypeId} {ps : String} {af : Array Edge} {g : Option (Nat × Bool)}
theorem r_appendq {s x : Operand} {t e sz by_ n m m' c c' : Nat} {z : Value} {a A : Option Addr} {es es' es2 : List (List Value)} (i : Nat) (hg : gOn ops L g = true) (hs : ev L s = some (.slice a n c)) (hx : ev L x = some (.slice A m c')) (ht : tA E.P t = some (e, sz, by_, z)) (hsz : Nat.blt 0 sz = true)
    (hC : C[i]? = some (oq a c e sz es)) (hn : n = es.length) (hR : Has C (rd A m sz es').holds) (h1 : ∀ v ∈ es'.flatten, v.oneCell' = true) (hm0 : 0 < m) (hb : (n + m) * by_ ≤ 140737488355328) (hb2 : n + m ≤ maxLen) (hes : es ++ es' = es2) (hm' : es2.length = m') (hd : Nat.blt d E.n = true)
    (k : ∀ (a' : Option Addr) (c2 : Nat), RJ E ops Q rest D ((d, .slice a' m' c2) :: L) (C.set i (oq a' c2 e sz es2))) :
    RJ E ops Q (⟨some d, .call { callee := .builtin .append, args := #[s, x], argTypes := #[t, t] }, ty, ps, af, g⟩ :: rest) D L C := by
  intro act w hfr hst
  have hd' : d < E.n := by rw [← Nat.blt_eq]; exact hd
  have hsz' : 0 < sz := by rw [← Nat.blt_eq]; exact hsz
  obtain ⟨inf, hu, hi, hz, h3, h4, h5⟩ := tA_out ht
  unfold wpL
  rw [if_pos (gOn_wanted hfr hg)]
  subst hn hes hm'
  have hoq : (oq a c e sz es).holds w := hst.holds _ (List.mem_of_getElem? hC)
  have hlc := oq_len hoq
  have hord := oq_rd hoq
  obtain ⟨hr1, hr2, hr3⟩ := hst.has hR
  obtain ⟨a0, c0, pre, hown0, hc0, hA0, hblk⟩ := id hoq
  obtain ⟨hl1, hown⟩ := id hown0
  have hle : ∀ x ∈ es, x.length = sz := fun x hx => hl1 x (List.mem_append_right _ hx)
  have hl2 : ∀ x ∈ es ++ es', x.length = sz := fun x hx => by
    rcases List.mem_append.1 hx with h | h
    · exact hle x h
    · exact hr2 x h
  obtain ⟨ad, hA, hc⟩ := hr3 (Nat.mul_pos hm0 hsz')
  subst hA
  have hflen : es'.flatten.length = m * inf.size := by rw [flatten_length_of hr2, hr1, h3]
  have helen : es.flatten.length = es.length * inf.size := by rw [flatten_length_of hle, h3]
  have hnews : ∀ j u, es'.flatten[j]? = some u → w.cell? (ad.add j) = some u := fun j v hj => by
    have := flat_at (w := w) (ad := ad) es' 0 hr2 (fun i e j v hi hj => by simpa using hc i e j v hi hj) j v hj
    simpa using this
  have main : ∃ a' c2 w', (Builtin.append_ #[t, t] ty #[.slice a es.length c, .slice (some ad) m c']).run E.P w = .ok (.slice a' (es.length + m) c2) w' ∧ (oq a' c2 e sz (es ++ es')).holds w' ∧ w.grownBy w' (a.map (·.block)) ∧ (∀ y, (∃ q, a' = some q ∧ y = q.block) → a.map (·.block) = some y ∨ w.heap.size ≤ y) := by
    by_cases hroom : es.length + m ≤ c
    · -- in place
      have hcp : 0 < c := by omega
      rcases hown.2 with ⟨h6, h7⟩ | ⟨gg, cap, cur, hv, hbg, hgg, hnc, hcm, hcs, htake⟩
      · injection h6 with _ _ h8
        omega
      · injection hv with hv1 hv2 hv3
        subst hv1 hv3
        have ha : a = some ⟨gg, pre.length * sz, none⟩ := by
          rw [hA0 hcp]; simp [Addr.add_lit]
        subst ha
        have hfit : pre.length * sz + es.length * inf.size + es'.flatten.length ≤ cur.size := by
          rw [hflen, h3, hcs, ← Nat.add_mul, ← Nat.add_mul]
          exact Nat.mul_le_mul_right _ (by omega)
        have hr := run_append_off (P := E.P) w t ty e inf hu hi gg (pre.length * sz) es.length c cur hgg ad m c' es'.flatten hflen hnews h1 hroom hfit
        have hpl : (pre ++ es).flatten.length = pre.length * sz + es.length * inf.size := by rw [flatten_length_of hl1, List.length_append, Nat.add_mul, h3]
        refine ⟨_, _, _, hr, ⟨some ⟨gg, 0, none⟩, c0, pre, ⟨fun x hx => ?_, ?_, .inr ⟨gg, c0, _, rfl, Nat.zero_le _, setRow_heap w gg cur _ e _ hgg, ?_, hcm, ?_, ?_⟩⟩, hc0, fun _ => by simp [Addr.add_lit], rfl⟩, ⟨rfl, rfl, rfl, by simp, fun k _ hk => setRow_other w gg k _ (fun e => hk (by simp [e]))⟩, ?_⟩
        · rcases List.mem_append.1 hx with h | h
          · exact hl1 x (List.mem_append_left _ h)
          · exact hl2 x h
        · rw [flatten_length_of (sz := sz) (fun x hx => by
            rcases List.mem_append.1 hx with h | h
            · exact hl1 x (List.mem_append_left _ h)
            · exact hl2 x h)]
        · rw [List.length_append, List.length_append, hr1]; omega
        · simp only [List.size_toArray, List.length_append, List.length_take, List.length_drop, Array.length_toList]
          omega
        · have e1 : (pre ++ (es ++ es')).length * sz = (pre ++ es).flatten.length + es'.flatten.length := by
            rw [hpl, hflen, h3, List.length_append, List.length_append, hr1, Nat.add_mul, Nat.add_mul, Nat.add_assoc]
          have e2 : cur.toList.take (pre.length * sz + es.length * inf.size) = (pre ++ es).flatten := by
            rw [← htake, List.length_append, Nat.add_mul, h3]
          rw [e1, ← List.length_append]
          show (cur.toList.take (pre.length * sz + es.length * inf.size) ++ es'.flatten ++ _).take _ = _
          rw [e2, List.take_left, ← List.append_assoc, List.flatten_append (L₁ := pre ++ es)]
        · rintro y ⟨q, hq, rfl⟩
          left
          cases hq; rfl
    · -- a new row
      have hgrow : ∀ (xs : List Value), xs = es.flatten → (w.drew.alloc (.cells (xs.toArray ++ es'.flatten.toArray ++ Builtin.zeroCells z.cells (grownCap w (es.length + m) c e - (es.length + m))) e)).ownsRow 0 e sz (.slice (some ⟨w.heap.size, 0, none⟩) (es.length + m) (grownCap w (es.length + m) c e)) (es.length + m) (es ++ es').flatten := by
        intro xs hxs
        subst hxs
        have hge := grownCap_ge w (es.length + m) c e
        have hcm : grownCap w (es.length + m) c e ≤ maxLen := grownCap_le_maxLen w (es.length + m) c e hb2
        have hlen : (es ++ es').flatten.length = (es.length + m) * sz := by rw [flatten_length_of hl2, List.length_append, hr1]
        refine ⟨hlen, .inr ⟨w.heap.size, _, _, rfl, Nat.zero_le _, heap_alloc_new w.drew _, hge, hcm, ?_, ?_⟩⟩
        · simp only [Array.size_append, List.size_toArray, size_zeroCells, h5, helen, hflen, h3, ← Nat.add_mul]
          congr 1
          omega
        · simp only [Array.toList_append, List.append_assoc]
          rw [← hlen, List.flatten_append, ← List.append_assoc]
          exact List.take_left
      have done : ∀ (xs : List Value), xs = es.flatten → (Builtin.append_ #[t, t] ty #[.slice a es.length c, .slice (some ad) m c']).run E.P w = .ok (.slice (some ⟨w.heap.size, 0, none⟩) (es.length + m) (grownCap w (es.length + m) c e)) (w.drew.alloc (.cells (xs.toArray ++ es'.flatten.toArray ++ Builtin.zeroCells z.cells (grownCap w (es.length + m) c e - (es.length + m))) e)) →
          ∃ a' c2 w', (Builtin.append_ #[t, t] ty #[.slice a es.length c, .slice (some ad) m c']).run E.P w = .ok (.slice a' (es.length + m) c2) w' ∧ (oq a' c2 e sz (es ++ es')).holds w' ∧ w.grownBy w' (a.map (·.block)) ∧ (∀ y, (∃ q, a' = some q ∧ y = q.block) → a.map (·.block) = some y ∨ w.heap.size ≤ y) := by
        intro xs hxs hrun
        refine ⟨_, _, _, hrun, own_oq ⟨hl2, ?_⟩, ⟨rfl, rfl, rfl, by simp, fun k hk _ => heap_alloc_old w.drew _ hk⟩, ?_⟩
        · rw [show (es ++ es').length = es.length + m by rw [List.length_append, hr1]]
          exact hgrow xs hxs
        · rintro y ⟨q, hq, rfl⟩
          cases hq; exact .inr (Nat.le_refl _)
      have hb48 : (es.length + m) * inf.bytes ≤ 140737488355328 := by rw [h4]; exact hb
      have hb2' : es.length + m ≤ 9223372036854775807 := by simp only [maxLen] at hb2; omega
      cases a with
      | none =>
        have he0 : es = [] := by
          cases es with
          | nil => rfl
          | cons x es =>
            obtain ⟨q, hq, _⟩ := hord.2.2 (Nat.mul_pos (by simp) hsz')
            cases hq
        subst he0
        have hc00 : c = 0 := by
          cases a0 with
          | none =>
            rcases hown.2 with ⟨h6, h7⟩ | ⟨gg, cap, cur, hv, _⟩
            · injection h6 with _ _ h8; omega
            · cases hv
          | some q => simp at hblk
        subst hc00
        have hr := Go.run_append_nil (P := E.P) w t ty e inf z hu hi hz ad m c' es'.flatten hflen hnews hm0 (by simp only [List.length_nil, Nat.zero_add] at hb2'; omega) (by simp only [List.length_nil, Nat.zero_add] at hb48; omega)
        refine done [] rfl ?_
        simpa using hr
      | some a1 =>
        have holds : ∀ j u, es.flatten[j]? = some u → w.cell? (a1.add j) = some u := fun j u hj => by
          have hpos : 0 < es.length * sz := by
            have := (List.getElem?_eq_some_iff.1 hj).1
            rw [flatten_length_of hle] at this; omega
          obtain ⟨q, hq, hcq⟩ := hord.2.2 hpos
          cases hq
          have := flat_at (w := w) (ad := a1) es 0 hle (fun i e j v hi hj => by simpa using hcq i e j v hi hj) j u hj
          simpa using this
        have hr := run_append_grow (P := E.P) w t ty e inf z hu hi hz a1 es.length c es.flatten helen holds ad m c' es'.flatten hflen hnews (by omega) (by omega) (growslice_fits (by omega) hb48)
        exact done _ rfl hr
  obtain ⟨a', c2, w', q1, q2, q3, q5⟩ := main
  have hm2 : (es ++ es').length = es.length + m := by rw [List.length_append, hr1]
  refine wp_value (by simp) (w' := w') (v := .slice a' (es ++ es').length c2) ?_ ?_
  · rw [hm2]; simp [execOp, resolve, invoke, builtin, hfr.ev hs, hfr.ev hx, q1]
  · refine k a' c2 _ _ (hfr.put hd' _) ?_
    exact hst.move i hC (row := a.map (·.block)) (fun b hb => by
      cases a with
      | none => cases hb
      | some q => exact ⟨q, rfl, by simpa using hb.symm⟩) rfl q3 (fun y hy => q5 y hy) q2
end
end
section
open Go.RowKit
set_option linter.unusedVariables false
theorem fnM_unbun {P : Program} {f : FuncId} {args : List Value} {Bs : List Assn} {A : Assn} {α : Type} {V : α → Value} {p : α → Prop} {A' : α → Assn} (h : FnM P f args [bun Bs] A V p A') : FnM P f args Bs A V p A' :=
  ⟨h.go, fun w hA hB hs => h.run w hA (fun B hb => by rw [List.mem_singleton.1 hb]; exact hB) fun B hb b h1 h2 => by
    rw [List.mem_singleton.1 hb] at h2 ⊢
    obtain ⟨X, hX, hXb⟩ := h2
    exact ⟨(hs X hX b h1 hXb).1, fun q => q⟩⟩
section
variable {P : Program} {t : TypeId} {x y : Operand}
theorem b_shrN {s i : Nat} {j : Int} {yk : IntKind} (hj : j = (i : Int)) (hi : i ≤ 64) : BinRun P .shr t x y (.int .i64 ((s : Nat) : Int)) (.int yk j) (.int .i64 ((s / 2 ^ i : Nat) : Int)) := fun w => by
  subst hj
  have h0 : ¬ ((i : Int) < 0) := by omega
  have h1 : min i 64 = i := by omega
  have e : Int.fdiv ((s : Nat) : Int) (2 ^ i) = ((s / 2 ^ i : Nat) : Int) := by
    rw [Int.fdiv_eq_ediv_of_nonneg _ (Int.pow_nonneg (by omega))]
    rw [Int.natCast_ediv]; simp
  have e2 : Op.shift .shr .i64 ((s : Nat) : Int) yk ((i : Nat) : Int) = (pure (.int .i64 ((s / 2 ^ i : Nat) : Int)) : Sem Value) := by
    unfold Op.shift
    rw [if_neg h0]
    show (pure (.int .i64 (Int.fdiv ((s : Nat) : Int) (2 ^ (min ((i : Nat) : Int).toNat 64)))) : Sem Value) = _
    rw [Int.toNat_natCast, h1, e]
  simp only [eqGuard_shr, binOp_shr, e2]
  rfl
theorem b_shl1 {i : Nat} {j : Int} {yk : IntKind} (hj : j = (i : Int)) (hi : i ≤ 62) : BinRun P .shl t x y (.int .i64 1) (.int yk j) (.int .i64 ((2 ^ i : Nat) : Int)) := fun w => by
  subst hj
  have h0 : ¬ ((i : Int) < 0) := by omega
  have h1 : min i 64 = i := by omega
  have hp : (2 ^ i : Nat) ≤ 4611686018427387904 := Nat.pow_le_pow_right (n := 2) (by omega) hi
  have hw : IntKind.i64.wrap ((2 : Int) ^ i) = ((2 ^ i : Nat) : Int) := by
    have : ((2 ^ i : Nat) : Int) = (2 : Int) ^ i := by simp
    rw [← this]
    generalize (2 ^ i : Nat) = q at hp
    exact wrap_in ⟨by omega, by omega⟩
  have e2 : Op.shift .shl .i64 1 yk ((i : Nat) : Int) = (pure (.int .i64 ((2 ^ i : Nat) : Int)) : Sem Value) := by
    unfold Op.shift
    rw [if_neg h0]
    show (pure (.int .i64 (IntKind.i64.wrap (1 * 2 ^ (min ((i : Nat) : Int).toNat 64)))) : Sem Value) = _
    rw [Int.toNat_natCast, h1, Int.one_mul, hw]
  simp only [eqGuard_shl, binOp_shl, e2]
  rfl
theorem bv_and1 {m : Nat} (hm : m < 2 ^ 63) : ((BitVec.ofInt 64 (m : Int)) &&& (BitVec.ofInt 64 1)).toNat = m % 2 := by
  have h1 : BitVec.ofInt 64 (m : Int) = BitVec.ofNat 64 m := by simp
  have h2 : BitVec.ofInt 64 1 = BitVec.ofNat 64 1 := by rfl
  rw [h1, h2, BitVec.toNat_and, BitVec.toNat_ofNat, BitVec.toNat_ofNat, Nat.mod_eq_of_lt (by omega), show 1 % 2 ^ 64 = 1 by rfl, Nat.and_one_is_mod]
theorem b_and1 {m : Nat} {a : Int} (ha : a = (m : Int)) (hm : m < 2 ^ 63) : BinRun P .and t x y (.int .i64 a) (.int .i64 1) (.int .i64 ((m % 2 : Nat) : Int)) := fun w => by
  subst ha
  have h := bv_and1 hm
  have hw : IntKind.i64.wrap (((m % 2 : Nat)) : Int) = ((m % 2 : Nat) : Int) := wrap_in ⟨by omega, by omega⟩
  have e : Op.intBits .and .i64 (m : Int) 1 = (pure (.int .i64 ((m % 2 : Nat) : Int)) : Sem Value) := by
    show (pure (.int .i64 (IntKind.i64.wrap (((BitVec.ofInt 64 (m : Int)) &&& (BitVec.ofInt 64 1)).toNat : Int))) : Sem Value) = _
    rw [h, hw]
  simp [eqGuard_and, binOp_and, e]
/-- a bit less -/
def clrB (s i : Nat) : Nat := if s.testBit i then s - 2 ^ i else s
theorem bv_clr : ∀ s : Fin 256, ∀ i : Fin 8, ((BitVec.ofInt 64 ((s.val : Nat) : Int)) &&& ~~~ (BitVec.ofInt 64 ((2 ^ i.val : Nat) : Int))).toNat = clrB s.val i.val := by decide +kernel
theorem b_andNot {s i : Nat} {a b : Int} (ha : a = (s : Int)) (hb : b = ((2 ^ i : Nat) : Int)) (hs : s < 256) (hi : i < 8) : BinRun P .andNot t x y (.int .i64 a) (.int .i64 b) (.int .i64 ((clrB s i : Nat) : Int)) := fun w => by
  subst ha hb
  have h := bv_clr ⟨s, hs⟩ ⟨i, hi⟩
  simp only at h
  have hc : clrB s i ≤ s := by
    unfold clrB
    split
    · exact Nat.sub_le _ _
    · exact Nat.le_refl _
  have hw : IntKind.i64.wrap ((clrB s i : Nat) : Int) = ((clrB s i : Nat) : Int) := wrap_in ⟨by omega, by omega⟩
  have e : Op.intBits .andNot .i64 (s : Int) ((2 ^ i : Nat) : Int) = (pure (.int .i64 ((clrB s i : Nat) : Int)) : Sem Value) := by
    show (pure (.int .i64 (IntKind.i64.wrap (((BitVec.ofInt 64 (s : Int)) &&& ~~~ (BitVec.ofInt 64 ((2 ^ i : Nat) : Int))).toNat : Int))) : Sem Value) = _
    rw [h, hw]
  simp only [eqGuard_andNot, binOp_andNot, e]
  rfl
theorem clr_bit : ∀ s : Fin 256, ∀ i k : Fin 8, (clrB s.val i.val).testBit k.val = (s.val.testBit k.val && decide (k.val ≠ i.val)) := by decide +kernel
theorem b_eqls {e : TypeId} {a : Option Addr} {n c : Nat} (ht : P.underlying t = some (.slice e)) : BinRun P .eql t x y (.slice a n c) (.slice none 0 0) (.bool (decide (a = none))) := fun w => by
  have e1 : (Op.equal t (.slice a n c) (.slice none 0 0)).run P w = .ok (decide (a = none)) w := by
    unfold Op.equal
    show (Op.equalIn (9999 + 1) t (.slice a n c) (.slice none 0 0)).run P w = _
    unfold Op.equalIn
    cases a <;> simp [run_underlying ht]
  have e2 : eqGuard .eql t x y (.slice a n c) (.slice none 0 0) = pure () := rfl
  rw [e2]
  show (Sem.run P (do let b ← Op.equal t (.slice a n c) (.slice none 0 0); pure (Value.bool b)) w) = _
  simp [e1]
end
section
variable {E : Env} {ops : Array Oper} {Q : Post} {rest : List Oper} {D : List Deferred} {L : List (Nat × Value)} {C : List Assn}
variable {dst : Option Tmp} {d : Nat} {ty : TypeId} {ps : String} {af : Array Edge} {g : Option (Nat × Bool)}
theorem sd_max3 {x y z : Operand} {ts : Array TypeId} {a b c : Int} {k : IntKind} (hg : gOn ops L g = true) (hx : ev L x = some (.int k a)) (hy : ev L y = some (.int k b)) (hz : ev L z = some (.int k c)) :
    SD E ops ⟨dst, .call { callee := .builtin .max, args := #[x, y, z], argTypes := ts }, ty, ps, af, g⟩ D L C (.int k (max (max a b) c)) :=
  sd_pure hg (by simp) fun q w hf _ => by
    have h1 : (if a < b then b else a) = max a b := by omega
    have h2 : (if max a b < c then c else max a b) = max (max a b) c := by omega
    simp [execOp, resolve, invoke, builtin, Builtin.max_, Builtin.max2, hf.ev hx, hf.ev hy, hf.ev hz, h1, h2]
/-- a row that lies nowhere is empty -/
theorem r_rd_nil {a : Option Addr} {n sz : Nat} {es : List (List Value)} (hR : Has C (rd a n sz es).holds) (ha : a = none) (hz : 0 < sz) (k : es = [] → RJ E ops Q rest D L C) : RJ E ops Q rest D L C := fun act w hf hs => by
  refine k ?_ act w hf hs
  obtain ⟨h1, h2, h3⟩ := hs.has hR
  rcases Nat.eq_zero_or_pos (n * sz) with h | h
  · have : n = 0 := by
      rcases Nat.mul_eq_zero.1 h with h | h
      · exact h
      · omega
    exact List.eq_nil_of_length_eq_zero (by omega)
  · obtain ⟨ad, h4, _⟩ := h3 h
    rw [ha] at h4; cases h4
theorem r_capq {a : Option Addr} {c e sz : Nat} {es : List (List Value)} (i : Nat) (hC : C[i]? = some (own a c e sz es)) (k : es.length ≤ c → RJ E ops Q rest D L C) : RJ E ops Q rest D L C := fun act w hf hs =>
  k (own_cap (hs.holds _ (List.mem_of_getElem? hC))) act w hf hs
theorem has_ror {A : Assn} (i : Nat) (h : C[i]? = some A.ro) : Has C A.holds := fun w hw => by
  have h2 := hw A.ro (List.mem_of_getElem? h)
  exact h2
/-- the end of a row is set to zero: it is no more of it -/
theorem r_clear {x : Operand} {t e sz by_ k n c c' : Nat} {z : Value} {a : Option Addr} {es : List (List Value)} (i : Nat) (hg : gOn ops L g = true) (hx : ev L x = some (.slice (sub1 a c k sz) (n - k) c')) (ht : tA E.P t = some (e, sz, by_, z)) (hz1 : ∀ v ∈ z.cells.toList, v.oneCell' = true)
    (hC : C[i]? = some (own a c e sz es)) (hn : n = es.length) (hk : k ≤ n) (K : RJ E ops Q rest D L (C.set i (own a c e sz (es.take k)))) :
    RJ E ops Q (⟨none, .call { callee := .builtin .clear, args := #[x], argTypes := #[t] }, ty, ps, af, g⟩ :: rest) D L C := by
  intro act w hfr hst
  obtain ⟨inf, hu, hi, hzr, h3, h4, h5⟩ := tA_out ht
  unfold wpL
  rw [if_pos (gOn_wanted hfr hg)]
  subst hn
  obtain ⟨hl1, hown⟩ : (own a c e sz es).holds w := hst.holds _ (List.mem_of_getElem? hC)
  have hle : ∀ y ∈ es.take k, y.length = sz := fun y hy => hl1 y (List.mem_of_mem_take hy)
  have hfl : (es.take k).flatten = es.flatten.take (k * sz) := by
    have h := List.take_append_drop k es
    have h6 : es.flatten = (es.take k).flatten ++ (es.drop k).flatten := by rw [← List.flatten_append, h]
    have h7 : (es.take k).flatten.length = k * sz := by rw [flatten_length_of hle, List.length_take]; congr 1; omega
    rw [h6, ← h7, List.take_left]
  by_cases h0 : es.length - k = 0
  · have hek : es.take k = es := List.take_of_length_le (by omega)
    refine wp_value (by simp) (w' := w) (v := .tuple #[]) ?_ ?_
    · rw [h0] at hx
      cases hs : sub1 a c k sz with
      | none => rw [hs] at hx; simp [execOp, resolve, invoke, builtin, Builtin.clear_, hfr.ev hx, run_underlying hu]
      | some q => rw [hs] at hx; simp [execOp, resolve, invoke, builtin, Builtin.clear_, hfr.ev hx, run_underlying hu]
    · rw [hek] at K
      exact K _ _ hfr (by
        have : C.set i (own a c e sz es) = C := by
          apply List.ext_getElem?
          intro q
          rw [List.getElem?_set]
          by_cases e1 : i = q
          · subst e1; rw [if_pos rfl, if_pos (List.getElem?_eq_some_iff.1 hC).1, hC]
          · rw [if_neg e1]
        rw [this]; exact hst)
  · rcases hown.2 with ⟨h6, h7⟩ | ⟨gg, cap, cur, hv, hbg, hgg, hnc, hcm, hcs, htake⟩
    · omega
    · injection hv with hv1 hv2 hv3
      subst hv1 hv3
      have hsub : sub1 (some (⟨gg, 0, none⟩ : Addr)) c k sz = some ⟨gg, k * sz, none⟩ := by
        unfold sub1; rw [if_neg (by omega)]; simp [Addr.add_lit]
      rw [hsub] at hx
      have hzl : (Builtin.zeroCells z.cells (es.length - k)).toList.length = (es.length - k) * sz := by
        rw [Array.length_toList, size_zeroCells, h5]
      have hsum : k * sz + (es.length - k) * sz = es.length * sz := by rw [← Nat.add_mul]; congr 1; omega
      have hle2 : es.length * sz ≤ cur.size := by rw [hcs]; exact Nat.mul_le_mul_right _ hnc
      have h1' : ∀ v ∈ (Builtin.zeroCells z.cells (es.length - k)).toList, v.oneCell' = true := fun v hv => by
        refine hz1 v ?_
        simp [Builtin.zeroCells] at hv
        obtain ⟨q, hq, hv⟩ := hv
        have hpos : 0 < z.cells.size := by
          rcases Nat.eq_zero_or_pos z.cells.size with h8 | h8
          · rw [h8] at hq; simp at hq
          · exact h8
        have hlt : q % z.cells.size < z.cells.size := Nat.mod_lt _ hpos
        rw [getElem!_pos z.cells _ hlt] at hv
        rw [← hv]; simp
      have hst' := run_storeCells_at E.P gg (k * sz) e (Builtin.zeroCells z.cells (es.length - k)).toList 0 cur w hgg (by rw [hzl]; omega) h1'
      simp only [Nat.add_zero] at hst'
      obtain ⟨q, hq⟩ : ∃ q, es.length - k = q + 1 := ⟨es.length - k - 1, by omega⟩
      refine wp_value (by simp) (w' := w.setRow gg (cur.toList.take (k * sz) ++ (Builtin.zeroCells z.cells (es.length - k)).toList ++ cur.toList.drop (k * sz + (Builtin.zeroCells z.cells (es.length - k)).toList.length)).toArray) (v := .tuple #[]) ?_ ?_
      · rw [hq] at hx hst' ⊢
        simp [execOp, resolve, invoke, builtin, Builtin.clear_, hfr.ev hx, run_underlying hu, zeroValue, typeInfo, hi, hzr, hst']
      · refine K _ _ hfr ?_
        refine hst.move i hC (row := some gg) (fun b hb => by cases hb; exact ⟨_, rfl, rfl⟩) rfl ⟨rfl, rfl, rfl, by simp, fun k' _ hk' => setRow_other w gg k' _ (fun e => hk' (by simp [e]))⟩ (fun y hy => by
          obtain ⟨ad, h8, rfl⟩ := hy
          cases h8; exact .inl rfl) ?_
        refine ⟨hle, ?_, .inr ⟨gg, c, _, rfl, Nat.zero_le _, setRow_heap w gg cur _ e _ hgg, ?_, hcm, ?_, ?_⟩⟩
        · exact flatten_length_of hle
        · rw [List.length_take]; omega
        · simp only [List.size_toArray, List.length_append, List.length_take, List.length_drop, Array.length_toList, hzl]
          have := hcs
          simp only [Array.length_toList] at hzl
          omega
        · have h9 : (es.take k).length * sz = k * sz := by rw [List.length_take]; congr 1; omega
          have h10 : (cur.toList.take (k * sz)).length = k * sz := by rw [List.length_take, Array.length_toList]; omega
          rw [h9, hfl, ← htake, List.take_take, Nat.min_eq_left (by omega)]
          show List.take (k * sz) (_ ++ _ ++ _) = _
          rw [List.append_assoc, List.take_left' h10]
end
end
section
open Go.RowKit
set_option linter.unusedVariables false
def sC (s : Slc) : List Value := [Value.slice s.a s.n s.c]
theorem sC_length : ∀ s, (sC s).length = 1 := fun s => rfl
theorem one_sC (l : List Slc) : ∀ v ∈ (l.map sC).flatten, v.oneCell' = true := one_flat (fun s => rfl) l
def rowS (l : List Int) (a : RA) : Slc := ⟨a.1, l.length, a.2⟩
def rowC (l : List Int) (a : RA) : List Value := [Value.slice a.1 l.length a.2]
def rowR (l : List Int) (a : RA) : List Assn := [rd a.1 l.length 1 (l.map iC)]
def rowO (l : List Int) (a : RA) : List Assn := [own a.1 a.2 3 1 (l.map iC)]
theorem rows_cells {ls : List (List Int)} {az : List RA} : (List.zipWith rowS ls az).map sC = List.zipWith rowC ls az := by
  rw [List.map_zipWith]; rfl
theorem rowO_R : ∀ (m : List Int) (a : RA) (w : World), (∀ X ∈ rowO m a, X.holds w) → ∀ X ∈ rowR m a, X.holds w := fun m a w h X hX => by
  simp only [rowR, List.mem_singleton] at hX
  subst hX
  have := own_rd (h _ (List.mem_singleton.2 rfl))
  simpa using this
theorem rowO_wr {l : List (List Int)} {bz : List RA} : (bund (nest rowO l bz)).wr = true := by
  show (nest rowO l bz).all (·.wr) = true
  rw [List.all_eq_true]
  intro X hX
  obtain ⟨k, m, a, _, _, h⟩ := nest_mem hX
  simp only [rowO, List.mem_singleton] at h
  subst h; rfl
theorem rows_len {ls : List (List Int)} {az : List RA} (h : az.length = ls.length) : (List.zipWith rowC ls az).length = ls.length := by simp [h]
/-- the times of posts -/
def timesP (d : GuardM) (p : PostV) (n : Nat) : List Int := (List.range n).map fun (k : Nat) => timeF d.Track p (k : Int)
def timesK (d : GuardM) (i : Nat) : List (List Int) := (d.Posts.take i).map fun p => timesP d p d.Track.length
def timesL (d : GuardM) : List (List Int) := timesK d d.Posts.length
theorem timesP_succ {d : GuardM} {p : PostV} {n : Nat} : timesP d p (n + 1) = timesP d p n ++ [timeF d.Track p (n : Int)] := by simp [timesP, List.range_succ]
theorem timesP_len {d : GuardM} {p : PostV} {n : Nat} : (timesP d p n).length = n := by simp [timesP]
theorem timesK_succ {d : GuardM} {i : Nat} {p : PostV} (h : d.Posts[i]? = some p) : timesK d (i + 1) = timesK d i ++ [timesP d p d.Track.length] := by unfold timesK; rw [List.take_add_one, h, List.map_append]; rfl
theorem timesK_len {d : GuardM} {i : Nat} (h : i ≤ d.Posts.length) : (timesK d i).length = i := by unfold timesK; rw [List.length_map, List.length_take]; omega
theorem timesL_len {d : GuardM} : (timesL d).length = d.Posts.length := timesK_len (Nat.le_refl _)
theorem timesL_at {d : GuardM} {i : Nat} {p : PostV} {m : List Int} (hp : d.Posts[i]? = some p) (hm : (timesL d)[i]? = some m) : m = timesP d p d.Track.length := by
  unfold timesL timesK at hm
  rw [List.take_length, List.getElem?_map, hp] at hm
  exact (Option.some.inj hm).symm
theorem timesP_at {d : GuardM} {p : PostV} {n k : Nat} {t : Int} (h : (timesP d p n)[k]? = some t) : t = timeF d.Track p (k : Int) := by
  unfold timesP at h
  rw [List.getElem?_map] at h
  have hd : k < n := by
    rcases Nat.lt_or_ge k n with q | q
    · exact q
    · rw [List.getElem?_eq_none (by simpa using q)] at h; cases h
  rw [List.getElem?_range hd] at h
  exact (Option.some.inj h).symm
theorem rows_snoc {d : GuardM} {i : Nat} {p : PostV} {tz : List RA} {a : RA} (hp : d.Posts[i]? = some p) (hl : tz.length = i) : List.zipWith rowS (timesK d (i + 1)) (tz ++ [a]) = List.zipWith rowS (timesK d i) tz ++ [rowS (timesP d p d.Track.length) a] := by
  have hi := (List.getElem?_eq_some_iff.1 hp).1
  rw [timesK_succ hp, List.zipWith_append (by rw [timesK_len (by omega), hl])]
  rfl
theorem nest_snoc {d : GuardM} {i : Nat} {p : PostV} {tz : List RA} {a : RA} (hp : d.Posts[i]? = some p) (hl : tz.length = i) : nest rowO (timesK d i) tz ++ [own a.1 a.2 3 1 ((timesP d p d.Track.length).map iC)] = nest rowO (timesK d (i + 1)) (tz ++ [a]) := by
  have hi := (List.getElem?_eq_some_iff.1 hp).1
  rw [timesK_succ hp, nest_append (by rw [timesK_len (by omega), hl])]
  simp [nest, rowO]
structure GuardIn (d : GuardM) : Prop where
  trk : d.Track.length ≤ 1000000
  side : ∀ x ∈ d.Track, 0 ≤ x.Side ∧ x.Side ≤ 255
  pst : d.Posts.length ≤ 1000000
  pk : ∀ p ∈ d.Posts, 0 ≤ p.Kind ∧ p.Kind ≤ 255
  nds : d.Needs.length ≤ 1000000
  nk : ∀ n ∈ d.Needs, 0 ≤ n.Kind ∧ n.Kind ≤ 255
structure GuardRaw (d : GuardM) : Prop where
  trk : d.Track.length ≤ 9223372036854775807
  side : ∀ x ∈ d.Track, 0 ≤ x.Side ∧ x.Side ≤ 255
  pst : d.Posts.length ≤ 9223372036854775807
  pk : ∀ p ∈ d.Posts, 0 ≤ p.Kind ∧ p.Kind ≤ 255
  nds : d.Needs.length ≤ 9223372036854775807
  nk : ∀ n ∈ d.Needs, 0 ≤ n.Kind ∧ n.Kind ≤ 255
def GreatG (d : GuardM) : Prop := 20 < (d.Track.length : Int) ∨ 12 < (d.Posts.length : Int) ∨ 15 < (d.Needs.length : Int)
instance (d : GuardM) : Decidable (GreatG d) := by unfold GreatG; infer_instance
theorem GuardRaw.small {d : GuardM} (h : GuardRaw d) (hg : ¬ GreatG d) : GuardIn d := by
  unfold GreatG at hg
  exact ⟨by omega, h.side, by omega, h.pk, by omega, h.nk⟩
def ReadyG (d : GuardM) : Prop := ¬ GreatG d ∧ guardE d = 0
noncomputable instance (d : GuardM) : Decidable (ReadyG d) := by unfold ReadyG; infer_instance
def PostsTo (d : GuardM) (i : Nat) : Prop := ∀ (j : Nat) p, j < i → d.Posts[j]? = some p → PostOk d.Track d.Posts j p
theorem posts_zero {d : GuardM} : PostsTo d 0 := fun j p hj => absurd hj (Nat.not_lt_zero _)
theorem posts_succ {d : GuardM} {i : Nat} {p : PostV} (h : PostsTo d i) (hp : d.Posts[i]? = some p) (ho : PostOk d.Track d.Posts i p) : PostsTo d (i + 1) := fun j y hj hy => by
  rcases Nat.lt_or_ge j i with q | q
  · exact h j y q hy
  · obtain rfl : j = i := by omega
    rw [hp] at hy; cases hy; exact ho
theorem prevId_b {d : GuardM} {i : Nat} (hi : i ≤ d.Posts.length) (h : PostsTo d i) : -1 ≤ prevId d.Posts i ∧ prevId d.Posts i ≤ 9999 := by
  rcases Nat.eq_zero_or_pos i with e | e
  · rw [prevId_zero e]; omega
  · have hy : d.Posts[i - 1]? = some (d.Posts[i - 1]'(by omega)) := List.getElem?_eq_getElem _
    have := (h (i - 1) _ (by omega) hy).1
    rw [prevId_pos e hy]; omega
theorem guard_yes {d : GuardM} {i : Nat} (h1 : d.Posts.length ≤ 8 ∧ d.Needs.length ≤ 10) (h2 : SpotOk d.Track d.Tower) (h3 : 0 ≤ d.Radio ∧ d.Radio ≤ 400000) (h4 : PostsTo d i) (hi : d.Posts.length ≤ i) (h5 : ∀ n ∈ d.Needs, NeedOk d.Track n) : GuardOk d :=
  ⟨h1, h2, h3, fun j p hp => h4 j p (by have := (List.getElem?_eq_some_iff.1 hp).1; omega) hp, h5⟩
theorem needs_any {d : GuardM} : (d.Needs.any fun n => !decide (NeedOk d.Track n)) = false ↔ ∀ n ∈ d.Needs, NeedOk d.Track n := by
  rw [List.any_eq_false]
  simp
theorem bit_iff {s i : Nat} : (((s / 2 ^ i % 2 : Nat) : Int) = 1) ↔ s.testBit i = true := by
  rw [Nat.testBit_eq_decide_div_mod_eq, decide_eq_true_eq]; omega
def bitS (s : Nat) : Nat → Prop := fun i => s.testBit i = true
def setAll (n : Nat) (l : List Int) : Nat := l.foldl (fun s x => clrB s x.toNat) (2 ^ n - 1)
theorem clr_le {s i : Nat} : clrB s i ≤ s := by
  unfold clrB
  split
  · exact Nat.sub_le _ _
  · exact Nat.le_refl _
theorem set_b {n : Nat} : ∀ (l : List Int) (s : Nat), l.foldl (fun s x => clrB s x.toNat) s ≤ s
  | [], s => Nat.le_refl _
  | x :: l, s => Nat.le_trans (set_b (n := n) l _) clr_le
theorem pow_256 {n : Nat} (h : n ≤ 8) : 1 ≤ 2 ^ n ∧ 2 ^ n ≤ 256 := ⟨Nat.one_le_two_pow, Nat.pow_le_pow_right (n := 2) (by omega) h⟩
theorem setAll_b {n : Nat} {l : List Int} (h : n ≤ 8) : setAll n l < 256 := by
  have h1 := set_b (n := n) l (2 ^ n - 1)
  have h2 := pow_256 h
  unfold setAll; omega
theorem set_take {n : Nat} {l : List Int} {i : Nat} {x : Int} (h : l[i]? = some x) : setAll n (l.take (i + 1)) = clrB (setAll n (l.take i)) x.toNat := by
  unfold setAll; rw [List.take_add_one, h, List.foldl_append]; rfl
theorem set_bit {n : Nat} (hn : n ≤ 8) : ∀ (l : List Int), (∀ x ∈ l, 0 ≤ x ∧ x < 8) → ∀ s, s < 256 → ∀ k, k < n → ((l.foldl (fun s x => clrB s x.toNat) s).testBit k = true ↔ s.testBit k = true ∧ (k : Int) ∉ l)
  | [], _, s, _, k, _ => by simp
  | x :: l, hl, s, hs, k, hk => by
    have hx := hl x (by simp)
    have h1 : clrB s x.toNat < 256 := Nat.lt_of_le_of_lt clr_le hs
    have h2 := clr_bit ⟨s, hs⟩ ⟨x.toNat, by omega⟩ ⟨k, by omega⟩
    simp only at h2
    rw [List.foldl_cons, set_bit hn l (fun y hy => hl y (List.mem_cons_of_mem _ hy)) _ h1 k hk, h2, Bool.and_eq_true, decide_eq_true_eq, List.mem_cons, not_or]
    constructor
    · rintro ⟨⟨a, b⟩, c⟩; exact ⟨a, by omega, c⟩
    · rintro ⟨a, b, c⟩; exact ⟨⟨a, by omega⟩, c⟩
theorem setAll_bit {n : Nat} (hn : n ≤ 8) {l : List Int} (hl : ∀ x ∈ l, 0 ≤ x ∧ x < 8) {k : Nat} (hk : k < n) : bitS (setAll n l) k ↔ (k : Int) ∉ l := by
  have h := pow_256 hn
  unfold bitS setAll
  rw [set_bit hn l hl _ (by omega) k hk]
  have : (2 ^ n - 1).testBit k = true := by rw [Nat.testBit_two_pow_sub_one, decide_eq_true_eq]; exact hk
  simp [this]
theorem clrS {s i : Nat} (hs : s < 256) (hi : i < 8) {k : Nat} (hk : k < 8) : bitS (clrB s i) k ↔ less1 (bitS s) i k := by
  have h := clr_bit ⟨s, hs⟩ ⟨i, hi⟩ ⟨k, hk⟩
  simp only at h
  unfold bitS less1
  rw [h, Bool.and_eq_true, decide_eq_true_eq]
end
section
set_option linter.unusedVariables false
def fitsX (d : GuardM) (n : NeedV) (x : Int) : Prop := fitsP d n x.toNat
noncomputable instance (d : GuardM) (n : NeedV) (x : Int) : Decidable (fitsX d n x) := Classical.propDecidable _
theorem fitsX_iff {d : GuardM} {n : NeedV} {x : Int} {p : PostV} (hp : d.Posts[x.toNat]? = some p) : fitsX d n x ↔ p.Kind = n.Kind ∧ timeF d.Track p n.Stretch ≤ n.Seconds := by
  unfold fitsX fitsP
  constructor
  · rintro ⟨q, hq, h⟩; rw [hp] at hq; cases hq; exact h
  · exact fun h => ⟨p, hp, h⟩
theorem meets_filter {d : GuardM} {n : NeedV} {S : Nat → Prop} : (calledL d S).filter (fun x => decide (fitsX d n x)) = meetsL d n S := by
  refine sorted_idx (List.Pairwise.filter _ idxL_sorted) fun x => ?_
  rw [List.mem_filter]
  unfold calledL
  rw [mem_idxL, decide_eq_true_eq]
  constructor
  · rintro ⟨⟨i, rfl, h1, h2⟩, h3⟩
    exact ⟨i, rfl, h1, h2, by unfold fitsX at h3; rwa [Int.toNat_natCast] at h3⟩
  · rintro ⟨i, rfl, h1, h2, h3⟩
    exact ⟨⟨i, rfl, h1, h2⟩, by unfold fitsX; rwa [Int.toNat_natCast]⟩
theorem called_mem {d : GuardM} {S : Nat → Prop} : ∀ x ∈ calledL d S, 0 ≤ x ∧ x < (d.Posts.length : Int) := fun x hx => by
  obtain ⟨i, rfl, h, _⟩ := mem_idxL.1 hx
  omega
theorem called_len {d : GuardM} {S : Nat → Prop} : (calledL d S).length ≤ d.Posts.length := idxL_len
theorem strong_one {d : GuardM} {S : Nat → Prop} (h : ¬ (((lacksL d S).length : Nat) : Int) = 0) : false = decide (StrongP d S) := (decide_eq_false fun q => h (by rw [q.1]; rfl)).symm
theorem strong_two {d : GuardM} {S : Nat → Prop} (h : (((lacksL d S).length : Nat) : Int) = 0) : decide ((((weakL d S).length : Nat) : Int) = 0) = decide (StrongP d S) := decide_eq_decide.2 ⟨fun q => ⟨List.eq_nil_of_length_eq_zero (by omega), List.eq_nil_of_length_eq_zero (by omega)⟩, fun q => by rw [q.2]; rfl⟩
structure DelI (p : Int → Bool) (l q : List Int) (i j : Nat) : Prop where
  len : q.length = l.length
  le : j ≤ l.length
  ij : i < j
  head : q.take i = (l.take j).filter fun u => !p u
  tail : ∀ k, j ≤ k → q[k]? = l[k]?
theorem find_first {p : Int → Bool} : ∀ {l : List Int} {i : Nat}, findI p l = (i : Int) → ∃ y, l[i]? = some y ∧ p y = true ∧ (l.take i).any p = false := by
  intro l i h
  unfold findI at h
  split at h
  · rename_i ha
    have e : l.findIdx p = i := by omega
    have hlt : l.findIdx p < l.length := List.findIdx_lt_length_of_exists (by simpa [List.any_eq_true] using ha)
    subst e
    refine ⟨l[l.findIdx p], List.getElem?_eq_getElem hlt, List.findIdx_getElem, ?_⟩
    rw [List.any_eq_false]
    intro x hx
    obtain ⟨k, hk⟩ := List.getElem?_of_mem hx
    obtain ⟨hk1, hk2⟩ := List.getElem?_eq_some_iff.1 hk
    rw [List.length_take] at hk1
    rw [List.getElem_take] at hk2
    have := List.not_of_lt_findIdx (p := p) (xs := l) (i := k) (by omega)
    rw [← hk2]; simpa using this
  · omega
theorem del_none {p : Int → Bool} {l : List Int} (h : findI p l = -1) : l = l.filter fun u => !p u := by
  symm
  rw [List.filter_eq_self]
  intro x hx
  unfold findI at h
  split at h
  · omega
  · rename_i ha
    have : p x = false := by
      cases e : p x with
      | false => rfl
      | true => exact absurd (List.any_eq_true.2 ⟨x, hx, e⟩) ha
    rw [this]; rfl
theorem del_start {p : Int → Bool} {l : List Int} (h : ¬ findI p l = -1) : (0 ≤ findI p l ∧ findI p l < (l.length : Int)) ∧ DelI p l l (findI p l).toNat ((findI p l).toNat + 1) := by
  have h0 : 0 ≤ findI p l := by unfold findI at h ⊢; split at h <;> rename_i q <;> simp [q] at h ⊢
  obtain ⟨y, h1, h2, h3⟩ := find_first (p := p) (l := l) (i := (findI p l).toNat) (by omega)
  have hlt := (List.getElem?_eq_some_iff.1 h1).1
  refine ⟨⟨h0, by omega⟩, rfl, by omega, by omega, ?_, fun k _ => rfl⟩
  rw [List.take_add_one, h1, List.filter_append]
  have e1 : (l.take (findI p l).toNat).filter (fun u => !p u) = l.take (findI p l).toNat := by
    rw [List.filter_eq_self]
    intro x hx
    rw [List.any_eq_false] at h3
    have := h3 x hx
    simpa using this
  rw [e1]
  simp [h2]
variable {p : Int → Bool} {l q : List Int} {i j : Nat} {y : Int}
theorem DelI.mem (h : DelI p l q i j) (hy : q[j]? = some y) : y ∈ l := by
  rw [h.tail j (Nat.le_refl _)] at hy
  exact List.mem_of_getElem? hy
theorem DelI.keep (h : DelI p l q i j) (hl : q.length = l.length) (hij : i < q.length) (hy : q[j]? = some y) (hp : p y = false) : DelI p l (q.set i y) (i + 1) (j + 1) := by
  have hlj := h.tail j (Nat.le_refl _)
  rw [hy] at hlj
  have hj := (List.getElem?_eq_some_iff.1 hlj.symm).1
  have := h.ij
  refine ⟨by rw [List.length_set]; exact hl, by omega, by omega, ?_, fun k hk => ?_⟩
  · rw [List.take_add_one, List.getElem?_set_self hij, List.take_add_one, ← hlj, List.filter_append, ← h.head, List.take_set_of_le (Nat.le_refl _)]
    simp [hp]
  · rw [List.getElem?_set_ne (by omega)]
    exact h.tail k (by omega)
theorem DelI.skip (h : DelI p l q i j) (hl : q.length = l.length) (hy : q[j]? = some y) (hp : p y = true) : DelI p l q i (j + 1) := by
  have hlj := h.tail j (Nat.le_refl _)
  rw [hy] at hlj
  have hj := (List.getElem?_eq_some_iff.1 hlj.symm).1
  have := h.ij
  refine ⟨hl, by omega, by omega, ?_, fun k hk => h.tail k (by omega)⟩
  rw [List.take_add_one, ← hlj, List.filter_append, ← h.head]
  simp [hp]
theorem DelI.done (h : DelI p l q i j) (hj : l.length ≤ j) : q.take i = l.filter (fun u => !p u) ∧ (l.filter fun u => !p u).length = i := by
  have h1 := h.head
  rw [List.take_of_length_le hj] at h1
  refine ⟨h1, ?_⟩
  rw [← h1, List.length_take]
  have := h.ij
  have := h.le
  have := h.len
  omega
end
section
set_option linter.unusedVariables false
def allS : Nat → Prop := fun _ => True
noncomputable def calledV (d : GuardM) (l : List Int) : List Int := if mannedE d l = 0 then calledL d (notIn l) else []
theorem calledV_ok {d : GuardM} {l : List Int} (h : mannedE d l = 0) : calledV d l = calledL d (notIn l) := if_pos h
theorem calledV_no {d : GuardM} {l : List Int} (h : ¬ mannedE d l = 0) : calledV d l = [] := if_neg h
noncomputable def lacksV (d : GuardM) (l : List Int) : List Int := if mannedE d l = 0 then lacksL d (notIn l) else []
theorem lacksV_ok {d : GuardM} {l : List Int} (h : mannedE d l = 0) : lacksV d l = lacksL d (notIn l) := if_pos h
noncomputable def meetsE (d : GuardM) (nd : Int) (l : List Int) : Int := if mannedE d l = 0 then (if 0 ≤ nd ∧ nd ≤ (d.Needs.length : Int) - 1 then 0 else 2) else mannedE d l
noncomputable def meetsV (d : GuardM) (nd : Int) (l : List Int) : List Int := if meetsE d nd l = 0 then (match d.Needs[nd.toNat]? with | some n => meetsL d n (notIn l) | none => []) else []
theorem meetsV_no {d : GuardM} {nd : Int} {l : List Int} (h : ¬ meetsE d nd l = 0) : meetsV d nd l = [] := if_neg h
theorem meetsE_bad {d : GuardM} {nd : Int} {l : List Int} (h : ¬ mannedE d l = 0) : ¬ meetsE d nd l = 0 ∧ meetsE d nd l = mannedE d l := by
  have e : meetsE d nd l = mannedE d l := if_neg h
  exact ⟨by rw [e]; exact h, e⟩
theorem meetsE_out {d : GuardM} {nd : Int} {l : List Int} (h : mannedE d l = 0) (h2 : ¬ (0 ≤ nd ∧ nd ≤ (d.Needs.length : Int) - 1)) : ¬ meetsE d nd l = 0 ∧ meetsE d nd l = 2 := by
  have e : meetsE d nd l = 2 := by unfold meetsE; rw [if_pos h, if_neg h2]
  exact ⟨by rw [e]; omega, e⟩
theorem meetsE_in {d : GuardM} {nd : Int} {l : List Int} {n : NeedV} (h : mannedE d l = 0) (h2 : 0 ≤ nd ∧ nd ≤ (d.Needs.length : Int) - 1) (hn : d.Needs[nd.toNat]? = some n) : meetsE d nd l = 0 ∧ meetsV d nd l = meetsL d n (notIn l) := by
  have e : meetsE d nd l = 0 := by unfold meetsE; rw [if_pos h, if_pos h2]
  exact ⟨e, by unfold meetsV; rw [if_pos e, hn]⟩
noncomputable def weakE (d : GuardM) : Int := if guardE d = 0 then (if lacksL d allS = [] then 0 else 6) else guardE d
noncomputable def weakV (d : GuardM) : List Int := if weakE d = 0 then weakL d allS else []
theorem weak_bad {d : GuardM} (h : ¬ guardE d = 0) : weakE d = guardE d ∧ weakV d = [] := by
  have e : weakE d = guardE d := if_neg h
  exact ⟨e, if_neg (by rw [e]; exact h)⟩
theorem weak_none {d : GuardM} (h : guardE d = 0) (h2 : ¬ lacksL d allS = []) : weakE d = 6 ∧ weakV d = [] := by
  have e : weakE d = 6 := by unfold weakE; rw [if_pos h, if_neg h2]
  exact ⟨e, if_neg (by rw [e]; omega)⟩
theorem weak_in {d : GuardM} (h : guardE d = 0) (h2 : lacksL d allS = []) : weakE d = 0 ∧ weakV d = weakL d allS := by
  have e : weakE d = 0 := by unfold weakE; rw [if_pos h, if_pos h2]
  exact ⟨e, if_pos e⟩
noncomputable def spareV (d : GuardM) : List Int := if guardE d = 0 then idxL d.Posts.length fun i => StrongP d (less1 allS i) else []
theorem spareV_ok {d : GuardM} (h : guardE d = 0) : spareV d = idxL d.Posts.length fun i => StrongP d (less1 allS i) := if_pos h
theorem spareV_no {d : GuardM} (h : ¬ guardE d = 0) : spareV d = [] := if_neg h
theorem spare_iff {d : GuardM} (hn : d.Posts.length ≤ 8) {j : Nat} (hj : j < d.Posts.length) : StrongP d (bitS (setAll d.Posts.length [((j : Nat) : Int)])) ↔ StrongP d (less1 allS j) :=
  strong_congr fun k hk => by
    rw [setAll_bit hn (by intro x hx; simp only [List.mem_singleton] at hx; omega) hk]
    unfold less1 allS
    simp; omega
end
section
set_option linter.unusedVariables false
def cmpF (x y : Int) : Int := if x < y then -1 else if y < x then 1 else 0
theorem cmp_lt {x y : Int} (h : x < y) : cmpF x y = -1 := if_pos h
theorem cmp_gt {x y : Int} (h : y < x) : cmpF x y = 1 := by unfold cmpF; rw [if_neg (by omega), if_pos h]
theorem cmp_eq {x y : Int} (h : ¬ x < y) (h2 : ¬ y < x) : cmpF x y = 0 := by unfold cmpF; rw [if_neg h, if_neg h2]
def cmpL : List Int → List Int → Int
  | [], [] => 0
  | [], _ :: _ => -1
  | _ :: _, [] => 1
  | x :: a, y :: b => if cmpF x y = 0 then cmpL a b else cmpF x y
variable {a b : List Int} {i : Nat} {x y : Int}
theorem drop_at (h : a[i]? = some x) : a.drop i = x :: a.drop (i + 1) := by
  obtain ⟨h1, h2⟩ := List.getElem?_eq_some_iff.1 h
  rw [List.drop_eq_getElem_cons h1, h2]
theorem cmp_step (hx : a[i]? = some x) (hy : b[i]? = some y) (h : cmpF x y = 0) : cmpL (a.drop i) (b.drop i) = cmpL (a.drop (i + 1)) (b.drop (i + 1)) := by
  rw [drop_at hx, drop_at hy, cmpL, if_pos h]
theorem cmp_at (hx : a[i]? = some x) (hy : b[i]? = some y) (h : ¬ cmpF x y = 0) : cmpL (a.drop i) (b.drop i) = cmpF x y := by
  rw [drop_at hx, drop_at hy, cmpL, if_neg h]
theorem cmp_out (ha : i < a.length) (hb : b.length ≤ i) : cmpL (a.drop i) (b.drop i) = 1 := by
  rw [List.drop_eq_nil_of_le hb, List.drop_eq_getElem_cons ha, cmpL]
theorem cmp_short (ha : a.length ≤ i) (hb : i < b.length) : cmpL (a.drop i) (b.drop i) = -1 := by
  rw [List.drop_eq_nil_of_le ha, List.drop_eq_getElem_cons hb, cmpL]
theorem cmp_same (ha : a.length ≤ i) (hb : b.length ≤ i) : cmpL (a.drop i) (b.drop i) = 0 := by
  rw [List.drop_eq_nil_of_le ha, List.drop_eq_nil_of_le hb, cmpL]
/-- longer than another one, or as long, and behind it -/
def Worse (a b : List Int) : Prop := b.length < a.length ∨ a.length = b.length ∧ 0 < cmpL a b
instance (a b : List Int) : Decidable (Worse a b) := by unfold Worse; infer_instance
noncomputable def bestTo (n : Nat) (p : Nat → Bool) : Nat → Option (List Int)
  | 0 => none
  | z + 1 => match bestTo n p z with
    | none => if p z = true then some (idxL n (bitS z)) else none
    | some b => if ¬ Worse (idxL n (bitS z)) b ∧ p z = true then some (idxL n (bitS z)) else some b
section
variable {n z : Nat} {p : Nat → Bool} {bo : Bool} {fl : List Int}
theorem best_no (h : bestTo n p z = cond bo (some fl) none) (hp : p z = false) : bestTo n p (z + 1) = cond bo (some fl) none := by
  cases bo
  · simp only [cond_false] at h ⊢; rw [bestTo, h]; simp [hp]
  · simp only [cond_true] at h ⊢; rw [bestTo, h]; simp [hp]
theorem best_worse (h : bestTo n p z = cond bo (some fl) none) (hb : bo = true) (hw : Worse (idxL n (bitS z)) fl) : bestTo n p (z + 1) = cond bo (some fl) none := by
  subst hb
  simp only [cond_true] at h ⊢
  rw [bestTo, h]; simp [hw]
theorem best_yes (h : bestTo n p z = cond bo (some fl) none) (hw : bo = true → ¬ Worse (idxL n (bitS z)) fl) (hp : p z = true) : bestTo n p (z + 1) = cond true (some (idxL n (bitS z))) none := by
  cases bo
  · simp only [cond_false] at h; rw [bestTo, h]; simp [hp]
  · simp only [cond_true] at h; rw [bestTo, h]; simp [hp, hw rfl]
end
noncomputable def bestF (d : GuardM) : Option (List Int) := bestTo d.Posts.length (fun z => decide (StrongP d (bitS z))) (2 ^ d.Posts.length)
noncomputable def fewE (d : GuardM) : Int := if guardE d = 0 then (match bestF d with | none => 6 | some _ => 0) else guardE d
noncomputable def fewV (d : GuardM) : List Int := if guardE d = 0 then (bestF d).getD [] else []
theorem few_bad {d : GuardM} (h : ¬ guardE d = 0) : fewE d = guardE d ∧ fewV d = [] := ⟨if_neg h, if_neg h⟩
theorem few_none {d : GuardM} (h : guardE d = 0) (h2 : bestF d = none) : fewE d = 6 ∧ fewV d = [] := by
  refine ⟨by unfold fewE; rw [if_pos h, h2], by unfold fewV; rw [if_pos h, h2]; rfl⟩
theorem few_some {d : GuardM} {l : List Int} (h : guardE d = 0) (h2 : bestF d = some l) : fewE d = 0 ∧ fewV d = l := by
  refine ⟨by unfold fewE; rw [if_pos h, h2], by unfold fewV; rw [if_pos h, h2]; rfl⟩
end
section
set_option linter.unusedVariables false
theorem idxL_is {n : Nat} {p : Nat → Prop} {l : List Int} (hs : l.Pairwise (· < ·)) (hb : ∀ x ∈ l, 0 ≤ x ∧ x < (n : Int)) (h : ∀ i, i < n → (p i ↔ (i : Int) ∈ l)) : idxL n p = l :=
  (sorted_idx hs fun x => ⟨fun hx => ⟨x.toNat, by have := hb x hx; omega, by have := hb x hx; omega, (h _ (by have := hb x hx; omega)).2 (by rw [Int.toNat_of_nonneg (hb x hx).1]; exact hx)⟩, fun ⟨i, e, h1, h2⟩ => e ▸ (h i h1).1 h2⟩).symm
def exTk : List StretchV := [⟨1, ⟨10000, 10200⟩, ⟨0, 0⟩, ⟨0, 0⟩, 0, 0⟩, ⟨2, ⟨5000, 5000⟩, ⟨0, 0⟩, ⟨2000, 2000⟩, 1, 0⟩]
def exP0 : PostV := ⟨2, 1, ⟨0, ⟨9000, 9000⟩⟩, 20, 10⟩
def exP1 : PostV := ⟨5, 1, ⟨1, ⟨1000, 1000⟩⟩, 30, 10⟩
def exP2 : PostV := ⟨6, 1, ⟨1, ⟨4000, 4000⟩⟩, 10, 10⟩
def exTw : SpotV := ⟨0, ⟨5000, 5000⟩⟩
def exPs : List PostV := [exP0, exP1, exP2]
def exG (r s : Int) : GuardM := ⟨exTk, exPs, [⟨1, 1, s⟩], exTw, r⟩
theorem exp_trk : trackOk exTk = true := by decide
theorem exp_at {i : Nat} {p : PostV} (h : exPs[i]? = some p) : i = 0 ∧ p = exP0 ∨ i = 1 ∧ p = exP1 ∨ i = 2 ∧ p = exP2 := by
  match i with
  | 0 => left; simp [exPs] at h; exact ⟨rfl, h.symm⟩
  | 1 => right; left; simp [exPs] at h; exact ⟨rfl, h.symm⟩
  | 2 => right; right; simp [exPs] at h; exact ⟨rfl, h.symm⟩
  | n + 3 => simp [exPs] at h
theorem exp_spot : SpotOk exTk exP0.Spot ∧ SpotOk exTk exP1.Spot ∧ SpotOk exTk exP2.Spot ∧ SpotOk exTk exTw :=
  ⟨⟨by decide, _, rfl, by simp only [SpanOk]; decide⟩, ⟨by decide, _, rfl, by simp only [SpanOk]; decide⟩, ⟨by decide, _, rfl, by simp only [SpanOk]; decide⟩, ⟨by decide, _, rfl, by simp only [SpanOk]; decide⟩⟩
theorem exp_ok {r s : Int} (hr : 0 ≤ r ∧ r ≤ 400000) (hs : 0 ≤ s ∧ s ≤ 36000) : GuardOk (exG r s) := by
  refine ⟨⟨show (3 : Nat) ≤ 8 by decide, show (1 : Nat) ≤ 10 by decide⟩, exp_spot.2.2.2, hr, fun i p hp => ?_, fun n hn => ?_⟩
  · rcases exp_at hp with ⟨rfl, rfl⟩ | ⟨rfl, rfl⟩ | ⟨rfl, rfl⟩
    · exact ⟨by show prevId exPs 0 < 2 ∧ _; decide, by decide, exp_spot.1, by decide, by decide⟩
    · exact ⟨by show prevId exPs 1 < 5 ∧ _; decide, by decide, exp_spot.2.1, by decide, by decide⟩
    · exact ⟨by show prevId exPs 2 < 6 ∧ _; decide, by decide, exp_spot.2.2.1, by decide, by decide⟩
  · have hn : n ∈ [NeedV.mk 1 1 s] := hn
    rw [List.mem_singleton] at hn
    subst hn
    exact ⟨by show (0 : Int) ≤ 1 ∧ (1 : Int) ≤ ((2 : Nat) : Int) - 1; decide, by show (1 : Int) ≤ 1 ∧ (1 : Int) ≤ 3; decide, hs⟩
theorem exp_in {r s : Int} : GuardIn (exG r s) := by
  refine ⟨show (2 : Nat) ≤ 1000000 by decide, fun x hx => ?_, show (3 : Nat) ≤ 1000000 by decide, fun p hp => ?_, show (1 : Nat) ≤ 1000000 by decide, fun n hn => ?_⟩
  · have : ∀ x ∈ exTk, 0 ≤ x.Side ∧ x.Side ≤ 255 := by decide
    exact this x hx
  · have : ∀ x ∈ exPs, 0 ≤ x.Kind ∧ x.Kind ≤ 255 := by decide
    exact this p hp
  · have hn : n ∈ [NeedV.mk 1 1 s] := hn
    rw [List.mem_singleton] at hn
    subst hn
    exact ⟨by show (0 : Int) ≤ 1; decide, by show (1 : Int) ≤ 255; decide⟩
theorem exp_e {r s : Int} (hr : 0 ≤ r ∧ r ≤ 400000) (hs : 0 ≤ s ∧ s ≤ 36000) : guardE (exG r s) = 0 := guardE_ok exp_trk (exp_ok hr hs)
theorem exp_far {a : Int} {p : PostV} {r s n t : Int} (hr : 0 ≤ r ∧ r ≤ 400000) (hs : 0 ≤ s ∧ s ≤ 36000) (ha : 0 ≤ a ∧ a ≤ 2) (hp : exPs[a.toNat]? = some p) (hn : farF exTk p.Spot 1 = n) (ht : timeF exTk p 1 = t) : farE (exG r s) a 1 = 0 ∧ farV (exG r s) a 1 = n ∧ timeV (exG r s) a 1 = t := by
  have h := far_in (d := exG r s) (a := a) (k := 1) (exp_e hr hs) ⟨⟨ha.1, ha.2⟩, by decide, by show (1 : Int) ≤ ((2 : Nat) : Int) - 1; decide⟩ hp
  exact ⟨h.1, h.2.1.trans hn, h.2.2.trans ht⟩
theorem exp_hear {r s : Int} (hr : r = 6000 ∨ r = 6200) {i k : Nat} {p q : PostV} (hp : exPs[i]? = some p) (hq : exPs[k]? = some q) : hearsP (exG r s) q.Spot p.Spot := by
  have key : ∀ p ∈ exPs, ∀ q ∈ exPs, -6000 ≤ (apartF exTk q.Spot p.Spot).Lo ∧ (apartF exTk q.Spot p.Spot).Hi ≤ 6000 := by decide
  have h := key p (List.mem_of_getElem? hp) q (List.mem_of_getElem? hq)
  show -r ≤ (apartF exTk q.Spot p.Spot).Lo ∧ (apartF exTk q.Spot p.Spot).Hi ≤ r
  omega
def exTo (r : Int) (i : Nat) : Prop := i = 0 ∨ r = 6200 ∧ i = 1
theorem exp_tower {r s : Int} (hr : r = 6000 ∨ r = 6200) {i : Nat} {p : PostV} (hp : exPs[i]? = some p) : hearsP (exG r s) exTw p.Spot ↔ exTo r i := by
  have h0 : (apartF exTk exTw exP0.Spot) = ⟨4000, 4000⟩ := by decide
  have h1 : (apartF exTk exTw exP1.Spot) = ⟨6000, 6200⟩ := by decide
  have h2 : (apartF exTk exTw exP2.Spot) = ⟨9000, 9200⟩ := by decide
  show (-r ≤ (apartF exTk exTw p.Spot).Lo ∧ (apartF exTk exTw p.Spot).Hi ≤ r) ↔ _
  unfold exTo
  rcases exp_at hp with ⟨rfl, rfl⟩ | ⟨rfl, rfl⟩ | ⟨rfl, rfl⟩
  · rw [h0]; rcases hr with rfl | rfl <;> decide
  · rw [h1]; rcases hr with rfl | rfl <;> decide
  · rw [h2]; rcases hr with rfl | rfl <;> decide
def exSo (r : Int) (S : Nat → Prop) : Prop := S 0 ∨ r = 6200 ∧ S 1
theorem exp_calls {r s : Int} (hr : r = 6000 ∨ r = 6200) {S : Nat → Prop} {i : Nat} : CallsP (exG r s) S i ↔ i < 3 ∧ S i ∧ exSo r S := by
  constructor
  · intro h
    induction h with
    | @tower i p hs hp hh =>
      refine ⟨(List.getElem?_eq_some_iff.1 hp).1, hs, ?_⟩
      rcases (exp_tower hr hp).1 hh with rfl | ⟨e, rfl⟩
      · exact .inl hs
      · exact .inr ⟨e, hs⟩
    | @post k i q p hk hq hs hp hh ih => exact ⟨(List.getElem?_eq_some_iff.1 hp).1, hs, ih.2.2⟩
  · rintro ⟨hi, hs, h⟩
    have hp : exPs[i]? = some (exPs[i]'hi) := List.getElem?_eq_getElem _
    rcases h with h | ⟨e, h⟩
    · exact .post (q := exP0) (.tower h rfl ((exp_tower (s := s) hr (i := 0) (p := exP0) rfl).2 (.inl rfl))) rfl hs hp (exp_hear hr hp (k := 0) rfl)
    · exact .post (q := exP1) (.tower h rfl ((exp_tower (s := s) hr (i := 1) (p := exP1) rfl).2 (.inr ⟨e, rfl⟩))) rfl hs hp (exp_hear hr hp (k := 1) rfl)
theorem exp_manned {r s : Int} (hr : r = 6000 ∨ r = 6200) (hs : 0 ≤ s ∧ s ≤ 36000) {l : List Int} (h : EmptyOk 3 l) : mannedE (exG r s) l = 0 := manned_in (exp_e (by omega) hs) h
theorem exp_called {l c : List Int} (h : EmptyOk 3 l) (hs : c.Pairwise (· < ·)) (hb : ∀ x ∈ c, 0 ≤ x ∧ x < 3) (hc : ∀ i : Nat, i < 3 → (((i : Int) ∉ l ∧ (0 : Int) ∉ l) ↔ (i : Int) ∈ c)) : mannedE (exG 6000 100) l = 0 ∧ calledV (exG 6000 100) l = c := by
  have hm : mannedE (exG 6000 100) l = 0 := exp_manned (.inl rfl) (by decide) h
  refine ⟨hm, ?_⟩
  rw [calledV_ok hm]
  exact idxL_is hs hb fun i hi => by
    rw [exp_calls (.inl rfl), ← hc i hi]
    unfold exSo notIn
    constructor
    · rintro ⟨_, h1, h2 | ⟨h2, _⟩⟩
      · exact ⟨h1, h2⟩
      · omega
    · rintro ⟨h1, h2⟩; exact ⟨hi, h1, .inl h2⟩
theorem empty_nil {n : Nat} : EmptyOk n [] := fun j x h => by simp at h
theorem empty_one {n : Nat} {x : Int} (h : 0 ≤ x ∧ x ≤ (n : Int) - 1) : EmptyOk n [x] := fun j y hy => by
  match j with
  | 0 => simp at hy; subst hy; exact ⟨by show (-1 : Int) < x; omega, h⟩
  | j + 1 => simp at hy
theorem exp_c0 : mannedE (exG 6000 100) [] = 0 ∧ calledV (exG 6000 100) [] = [0, 1, 2] := exp_called empty_nil (by decide) (by decide) (by decide)
theorem exp_c1 : mannedE (exG 6000 100) [0] = 0 ∧ calledV (exG 6000 100) [0] = [] := exp_called (empty_one (by decide)) (by decide) (by decide) (by decide)
theorem exp_c2 : mannedE (exG 6000 100) [1] = 0 ∧ calledV (exG 6000 100) [1] = [0, 2] := exp_called (empty_one (by decide)) (by decide) (by decide) (by decide)
theorem exp_fits {r : Int} {i : Nat} (hi : i < 3) : fitsP (exG r 100) ⟨1, 1, 100⟩ i := by
  have key : ∀ p ∈ exPs, p.Kind = 1 ∧ timeF exTk p 1 ≤ 100 := by decide
  have hp : exPs[i]? = some (exPs[i]'hi) := List.getElem?_eq_getElem _
  have := key _ (List.mem_of_getElem? hp)
  exact ⟨_, hp, this.1, this.2⟩
theorem exp_need {r s : Int} {j : Nat} {n : NeedV} (h : (exG r s).Needs[j]? = some n) : j = 0 ∧ n = ⟨1, 1, s⟩ := by
  match j with
  | 0 => simp [exG] at h; exact ⟨rfl, h.symm⟩
  | j + 1 => simp [exG] at h
theorem exp_lacks {r : Int} (hr : r = 6000 ∨ r = 6200) {S : Nat → Prop} : lacksL (exG r 100) S = [] ↔ exSo r S := by
  unfold lacksL
  rw [idxL_nil]
  constructor
  · intro h
    have h0 := h 0 (show 0 < 1 by decide)
    apply Classical.byContradiction
    intro hn
    refine h0 ⟨⟨1, 1, 100⟩, rfl, ?_⟩
    unfold meetsL
    rw [idxL_nil]
    rintro i hi ⟨hc, _⟩
    exact hn ((exp_calls hr).1 hc).2.2
  · rintro hs j _ ⟨n, hn, hm⟩
    obtain ⟨rfl, rfl⟩ := exp_need hn
    unfold meetsL at hm
    rw [idxL_nil] at hm
    rcases hs with h | ⟨e, h⟩
    · exact hm 0 (show 0 < 3 by decide) ⟨(exp_calls hr).2 ⟨by decide, h, .inl h⟩, exp_fits (by decide)⟩
    · exact hm 1 (show 1 < 3 by decide) ⟨(exp_calls hr).2 ⟨by decide, h, .inr ⟨e, h⟩⟩, exp_fits (by decide)⟩
theorem exp_meets : meetsE (exG 6000 100) 0 [] = 0 ∧ meetsV (exG 6000 100) 0 [] = [0, 1, 2] := by
  have hm : mannedE (exG 6000 100) [] = 0 := exp_c0.1
  have h := meetsE_in (nd := 0) hm ⟨by decide, by show (0 : Int) ≤ ((1 : Nat) : Int) - 1; decide⟩ (n := ⟨1, 1, 100⟩) rfl
  refine ⟨h.1, h.2.trans (idxL_is (by decide) (by decide) fun i hi => ?_)⟩
  have hi : i < 3 := hi
  rw [exp_calls (.inl rfl)]
  have : i = 0 ∨ i = 1 ∨ i = 2 := by omega
  constructor
  · intro _; rcases this with rfl | rfl | rfl <;> decide
  · intro _; exact ⟨⟨hi, by simp [notIn], .inl (by simp [notIn])⟩, exp_fits hi⟩
theorem exp_lackall {r : Int} (hr : r = 6000 ∨ r = 6200) : lacksL (exG r 100) allS = [] := (exp_lacks hr).2 (.inl trivial)
theorem exp_weak : weakE (exG 6000 100) = 0 ∧ weakV (exG 6000 100) = [0] := by
  have h := weak_in (d := exG 6000 100) (exp_e (by decide) (by decide)) (exp_lackall (.inl rfl))
  refine ⟨h.1, h.2.trans (idxL_is (by decide) (by decide) fun i hi => ?_)⟩
  rw [Ne, exp_lacks (.inl rfl)]
  unfold exSo less1 allS
  simp only [true_and, List.mem_singleton]
  omega
theorem exp_strong {S : Nat → Prop} : StrongP (exG 6200 100) S ↔ S 0 ∧ S 1 := by
  unfold StrongP weakL
  rw [exp_lacks (.inr rfl), idxL_nil]
  constructor
  · rintro ⟨h1, h2⟩
    have key : ∀ i, i < 3 → S i → exSo 6200 (less1 S i) := fun i hi hs => by
      apply Classical.byContradiction
      intro hn
      exact h2 i hi ⟨hs, fun e => hn ((exp_lacks (.inr rfl)).1 e)⟩
    rcases h1 with h | ⟨_, h⟩
    · rcases key 0 (by decide) h with q | ⟨_, q⟩
      · exact absurd rfl q.2
      · exact ⟨h, q.1⟩
    · rcases key 1 (by decide) h with q | ⟨_, q⟩
      · exact ⟨q.1, h⟩
      · exact absurd rfl q.2
  · rintro ⟨h0, h1⟩
    refine ⟨.inl h0, ?_⟩
    rintro i _ ⟨_, hn⟩
    refine hn ((exp_lacks (.inr rfl)).2 ?_)
    by_cases e : i = 0
    · exact .inr ⟨rfl, h1, by omega⟩
    · exact .inl ⟨h0, fun q => e q.symm⟩
theorem exp_spare : guardE (exG 6200 100) = 0 ∧ spareV (exG 6200 100) = [2] := by
  have h : guardE (exG 6200 100) = 0 := exp_e (by decide) (by decide)
  refine ⟨h, (spareV_ok h).trans (idxL_is (by decide) (by decide) fun i hi => ?_)⟩
  have hi : i < 3 := hi
  rw [exp_strong]
  unfold less1 allS
  simp only [true_and, List.mem_singleton]
  omega
theorem exp_few : fewE (exG 6200 100) = 0 ∧ fewV (exG 6200 100) = [0, 1] := by
  have h : guardE (exG 6200 100) = 0 := exp_e (by decide) (by decide)
  refine few_some h ?_
  have hp : (fun z => decide (StrongP (exG 6200 100) (bitS z))) = fun z => z.testBit 0 && z.testBit 1 := funext fun z => by
    by_cases q : z.testBit 0 = true ∧ z.testBit 1 = true
    · rw [q.1, q.2]; exact decide_eq_true (exp_strong.2 q)
    · rw [decide_eq_false fun e => q (exp_strong.1 e)]
      cases e0 : z.testBit 0 <;> cases e1 : z.testBit 1 <;> first | rfl | exact absurd ⟨e0, e1⟩ q
  unfold bestF
  rw [hp]
  show bestTo 3 _ 8 = _
  have b0 : bestTo 3 (fun z => z.testBit 0 && z.testBit 1) 0 = cond false (some ([] : List Int)) none := rfl
  have b3 := best_no (best_no (best_no b0 (by decide)) (by decide)) (by decide)
  have b4 := best_yes b3 (fun q => Bool.noConfusion q) (by decide)
  have e3 : idxL 3 (bitS 3) = [0, 1] := idxL_is (by decide) (by decide) (by unfold bitS; decide)
  have e7 : idxL 3 (bitS 7) = [0, 1, 2] := idxL_is (by decide) (by decide) (by unfold bitS; decide)
  have b7 := best_no (best_no (best_no b4 (by decide)) (by decide)) (by decide)
  have b8 := best_worse b7 rfl (by show Worse (idxL 3 (bitS 7)) (idxL 3 (bitS 3)); rw [e3, e7]; exact .inl (by decide))
  rw [show (some [0, 1] : Option (List Int)) = cond true (some (idxL 3 (bitS (0 + 1 + 1 + 1)))) none from by show _ = some (idxL 3 (bitS 3)); rw [e3]]
  exact b8
theorem calledV_len {d : GuardM} {l : List Int} : (calledV d l).length ≤ d.Posts.length := by
  unfold calledV; split
  · exact idxL_len
  · exact Nat.zero_le _
theorem meetsV_len {d : GuardM} {k : Int} {l : List Int} : (meetsV d k l).length ≤ d.Posts.length := by
  unfold meetsV; split
  · split
    · exact idxL_len
    · exact Nat.zero_le _
  · exact Nat.zero_le _
abbrev farOk (a n t : Int) : Prop := (farE (exG 6000 100) a 1 = 0 ∧ farV (exG 6000 100) a 1 = n) ∧ farE (exG 6000 100) a 1 = 0 ∧ timeV (exG 6000 100) a 1 = t
theorem exp_f {a : Int} {p : PostV} {n t : Int} (ha : 0 ≤ a ∧ a ≤ 2) (hp : exPs[a.toNat]? = some p) (hn : farF exTk p.Spot 1 = n) (ht : timeF exTk p 1 = t) : farOk a n t :=
  have h := exp_far (r := 6000) (s := 100) (by decide) (by decide) ha hp hn ht
  ⟨⟨h.1, h.2.1⟩, h.1, h.2.2⟩
theorem exp_f0 : farOk 0 6200 82 := exp_f (p := exP0) (by decide) rfl (by decide) (by decide)
theorem exp_f1 : farOk 1 4000 70 := exp_f (p := exP1) (by decide) rfl (by decide) (by decide)
end
section
set_option linter.unusedVariables false
theorem up_succ {α : Type} {l : List α} {P : Nat → α → Prop} {i : Nat} {x : α} (h : ∀ (j : Nat) y, j < i → l[j]? = some y → P j y) (hx : l[i]? = some x) (hp : P i x) : ∀ (j : Nat) y, j < i + 1 → l[j]? = some y → P j y := fun j y hj hy => by
  rcases Nat.lt_or_ge j i with q | q
  · exact h j y q hy
  · obtain rfl : j = i := by omega
    rw [hx] at hy; cases hy; exact hp
theorem up_mem {α : Type} {l : List α} {P : α → Prop} {i : Nat} (hi : l.length ≤ i) (h : ∀ (j : Nat) y, j < i → l[j]? = some y → P y) : ∀ y ∈ l, P y := fun y hy => by
  obtain ⟨j, hj⟩ := List.getElem?_of_mem hy
  exact h j y (by have := (List.getElem?_eq_some_iff.1 hj).1; omega) hj
end
section
set_option linter.unusedVariables false
theorem idx_len_yes {P : Nat → Prop} {j : Nat} (h : P j) : (idxL (j + 1) P).length = (idxL j P).length + 1 := by rw [idxL_yes h]; simp
theorem idx_len_no {P : Nat → Prop} {j : Nat} (h : ¬ P j) : (idxL (j + 1) P).length = (idxL j P).length := by rw [idxL_no h]
def WeakP (d : GuardM) (i : Nat) : Prop := weakE d = 0 ∧ lacksL d (less1 allS i) ≠ []
theorem weakV_idx {d : GuardM} : weakV d = idxL d.Posts.length (WeakP d) := by
  unfold weakV
  by_cases h : weakE d = 0
  · rw [if_pos h]
    exact idxL_congr fun i _ => ⟨fun q => ⟨h, q.2⟩, fun q => ⟨trivial, q.2⟩⟩
  · rw [if_neg h]
    exact (idxL_nil.2 fun i _ q => h q.1).symm
theorem lacksV_idx {d : GuardM} {l : List Int} (h : mannedE d l = 0) : lacksV d l = idxL d.Needs.length (LackP d (notIn l)) := lacksV_ok h
theorem calledV_idx {d : GuardM} {l : List Int} (h : mannedE d l = 0) : calledV d l = idxL d.Posts.length (CallsP d (notIn l)) := calledV_ok h
theorem notIn_nil {i : Nat} : notIn [] i ↔ allS i := by simp [notIn, allS]
theorem notIn_one {j i : Nat} : notIn [(j : Int)] i ↔ less1 allS j i := by simp [notIn, less1, allS]; omega
theorem lacks_nil {d : GuardM} (h : guardE d = 0) : mannedE d [] = 0 ∧ lacksV d [] = lacksL d allS := by
  have hm := manned_in h (empty_nil (n := d.Posts.length))
  exact ⟨hm, (lacksV_ok hm).trans (lacks_congr fun i _ => notIn_nil)⟩
theorem lacks_one {d : GuardM} {j : Nat} (h : guardE d = 0) (hj : j < d.Posts.length) : mannedE d [(j : Int)] = 0 ∧ lacksV d [(j : Int)] = lacksL d (less1 allS j) := by
  have hm := manned_in h (empty_one (n := d.Posts.length) (x := (j : Int)) ⟨by omega, by omega⟩)
  exact ⟨hm, (lacksV_ok hm).trans (lacks_congr fun i _ => notIn_one)⟩
theorem weak_iff {d : GuardM} (h : guardE d = 0) : weakE d = 0 ↔ lacksL d allS = [] := by
  unfold weakE; rw [if_pos h]
  by_cases q : lacksL d allS = []
  · rw [if_pos q]; exact ⟨fun _ => q, fun _ => rfl⟩
  · rw [if_neg q]; exact ⟨fun e => absurd e (by decide), fun e => absurd e q⟩
theorem weak_six {d : GuardM} (h : guardE d = 0) (h2 : ¬ weakE d = 0) : weakE d = 6 ∧ weakV d = [] := weak_none h fun q => h2 ((weak_iff h).2 q)
theorem meets_in {d : GuardM} {l : List Int} {j : Nat} {n : NeedV} (h : mannedE d l = 0) (hn : d.Needs[j]? = some n) : meetsE d (j : Int) l = 0 ∧ meetsV d (j : Int) l = meetsL d n (notIn l) := by
  have hj := (List.getElem?_eq_some_iff.1 hn).1
  exact meetsE_in h (by omega) (by rw [Int.toNat_natCast]; exact hn)
theorem lack_meets {d : GuardM} {l : List Int} {j : Nat} (h : mannedE d l = 0) (hj : j < d.Needs.length) : meetsE d (j : Int) l = 0 ∧ (LackP d (notIn l) j ↔ ((meetsV d (j : Int) l).length : Int) = 0) := by
  have hn : d.Needs[j]? = some (d.Needs[j]'hj) := List.getElem?_eq_getElem _
  have hm := meets_in h hn
  refine ⟨hm.1, ?_⟩
  rw [hm.2]
  constructor
  · rintro ⟨n, h1, h2⟩
    rw [hn] at h1; cases h1
    rw [h2]; rfl
  · intro q; exact ⟨_, hn, List.eq_nil_of_length_eq_zero (by omega)⟩
end
section
set_option linter.unusedVariables false
def chooseF (bl : List Int) (i : Int) : Int := if bl.length = 0 then 0 else bl.getD (i % (bl.length : Int)).toNat 0
def someF (s : SpanV) (b : Int) : Int := if b % 5 = 0 then s.Lo else (if b % 5 = 1 then s.Hi else s.Lo + b / 5 % (s.Hi - s.Lo + 1))
theorem someF_in {s : SpanV} {b : Int} (h : s.Lo ≤ s.Hi) : s.Lo ≤ someF s b ∧ someF s b ≤ s.Hi := by
  unfold someF
  have h1 := Int.emod_nonneg (b / 5) (show s.Hi - s.Lo + 1 ≠ 0 by omega)
  have h2 := Int.emod_lt_of_pos (b / 5) (show 0 < s.Hi - s.Lo + 1 by omega)
  split
  · omega
  · split <;> omega
theorem chooseF_b {bl : List Int} (hb : ∀ z ∈ bl, 0 ≤ z ∧ z ≤ 4294967295) (i : Int) : 0 ≤ chooseF bl i ∧ chooseF bl i ≤ 4294967295 := by
  unfold chooseF
  split
  · omega
  · rw [List.getD_eq_getElem?_getD]
    cases h : bl[(i % (bl.length : Int)).toNat]? with
    | none => simp
    | some z => exact hb z (List.mem_of_getElem? h)
theorem chooseF_at {bl : List Int} {i z : Int} (h : ¬ (bl.length : Int) = 0) (hz : bl[(i % (bl.length : Int)).toNat]? = some z) : chooseF bl i = z := by
  unfold chooseF; rw [if_neg (by omega), List.getD_eq_getElem?_getD, hz]; rfl
def tMark (bl : List Int) (ts : List StretchV) : Nat → Int
  | 0 => 0
  | i + 1 => tMark bl ts i + (match ts[i]? with | some x => someF x.Long (chooseF bl (i : Int)) | none => 0)
theorem tMark_succ {bl : List Int} {ts : List StretchV} {i : Nat} {x : StretchV} (h : ts[i]? = some x) : tMark bl ts (i + 1) = tMark bl ts i + someF x.Long (chooseF bl (i : Int)) := by rw [tMark, h]
def tMarks (bl : List Int) (ts : List StretchV) (n : Nat) : List Int := (List.range (n + 1)).map (tMark bl ts)
theorem tMarks_len {bl : List Int} {ts : List StretchV} {n : Nat} : (tMarks bl ts n).length = n + 1 := by simp [tMarks]
theorem tMarks_succ {bl : List Int} {ts : List StretchV} {n : Nat} : tMarks bl ts (n + 1) = tMarks bl ts n ++ [tMark bl ts (n + 1)] := by
  unfold tMarks; rw [List.range_succ (n := n + 1), List.map_append]; rfl
theorem tMarks_at {bl : List Int} {ts : List StretchV} {n i : Nat} {m : Int} (h : (tMarks bl ts n)[i]? = some m) : m = tMark bl ts i := by
  unfold tMarks at h
  rw [List.getElem?_map] at h
  have hi : i < n + 1 := by
    rcases Nat.lt_or_ge i (n + 1) with c | c
    · exact c
    · rw [List.getElem?_eq_none (by simpa using c)] at h; cases h
  rw [List.getElem?_range hi] at h
  exact (Option.some.inj h).symm
theorem tMark_span {bl : List Int} {ts : List StretchV} (hst : ∀ x ∈ ts, StretchOk x) {i : Nat} : ∀ k : Nat, i + k ≤ ts.length → (longF ts i k).Lo ≤ tMark bl ts (i + k) - tMark bl ts i ∧ tMark bl ts (i + k) - tMark bl ts i ≤ (longF ts i k).Hi
  | 0, _ => by simp [longF, zeroZ]
  | k + 1, h => by
    have ih := tMark_span (bl := bl) hst (i := i) k (by omega)
    have hx : ts[i + k]? = some (ts[i + k]'(by omega)) := List.getElem?_eq_getElem _
    have h1 := (hst _ (List.mem_of_getElem? hx)).2.1
    have h2 := someF_in (s := (ts[i + k]'(by omega)).Long) (b := chooseF bl ((i + k : Nat) : Int)) h1.1
    rw [← Nat.add_assoc, tMark_succ hx, longF_succ hx]
    simp only [addZ]; omega
theorem tMark_b {bl : List Int} {ts : List StretchV} (ht : trackOk ts = true) {i : Nat} (hi : i ≤ ts.length) : 0 ≤ tMark bl ts i ∧ tMark bl ts i ≤ 400000 := by
  have h1 := tMark_span (bl := bl) (trackOk_all ht) (i := 0) i (by omega)
  have h2 := longF_b (trackOk_all ht) 0 i
  have h3 := trackOk_le ht
  rw [Nat.zero_add] at h1
  have h0 : tMark bl ts 0 = 0 := rfl
  omega
theorem tMark_one {bl : List Int} {ts : List StretchV} (ht : trackOk ts = true) {i : Nat} (hi : i < ts.length) : tMark bl ts i ≤ tMark bl ts (i + 1) := by
  have h1 := tMark_span (bl := bl) (trackOk_all ht) (i := i) 1 (by omega)
  have h2 := longF_b (trackOk_all ht) i 1
  omega
/-- no place of a stretch is farther in a truth than is told -/
theorem far_truth {bl : List Int} {ts : List StretchV} {s : SpotV} {k : Nat} {o e : Int} (ht : trackOk ts = true) (hs : SpotOk ts s) (hk : k < ts.length) (ho : s.Off.Lo ≤ o ∧ o ≤ s.Off.Hi) (he : 0 ≤ e ∧ e ≤ tMark bl ts (k + 1) - tMark bl ts k) :
    max (tMark bl ts s.Stretch.toNat + o - tMark bl ts k - e) (-(tMark bl ts s.Stretch.toNat + o - tMark bl ts k - e)) ≤ farF ts s (k : Int) := by
  have hst := trackOk_all ht
  obtain ⟨hb, x, hx, hso⟩ := hs
  have hfb := far_b ht (s := s) ⟨hb, x, hx, hso⟩ (k := (k : Int)) (by omega)
  have hxo := (hst x (List.mem_of_getElem? hx)).2.1
  simp only [SpanOk] at hso hxo
  obtain ⟨m, hm⟩ : ∃ m : Nat, s.Stretch = (m : Int) := ⟨s.Stretch.toNat, by omega⟩
  rw [hm, Int.toNat_natCast] at hx
  unfold farF markF at hfb ⊢
  rw [hm] at hfb ⊢ hb
  simp only [Int.toNat_natCast] at hfb ⊢
  have hms := tMark_succ (bl := bl) hx
  have hsm := someF_in (s := x.Long) (b := chooseF bl (m : Int)) hxo.1
  rcases Nat.lt_trichotomy k m with c | c | c
  · have h1 := tMark_span (bl := bl) hst (i := k) (m - k) (by omega)
    have h2 := tMark_span (bl := bl) hst (i := k + 1) (m - (k + 1)) (by omega)
    have h3 := longF_b hst (k + 1) (m - (k + 1))
    rw [show k + (m - k) = m by omega] at h1
    rw [show k + 1 + (m - (k + 1)) = m by omega] at h2
    rw [if_pos (by omega)] at hfb ⊢
    rw [if_pos (by omega)] at hfb ⊢
    rw [show ((m : Int) - (k : Int)).toNat = m - k by omega] at hfb ⊢
    omega
  · subst c
    have h1 := tMark_span (bl := bl) hst (i := k) 1 (by omega)
    rw [if_pos (by omega), if_neg (by omega)] at hfb ⊢
    rw [show ((k : Int) - (k : Int)).toNat = 0 by omega, show ((k : Int) + 1 - (k : Int)).toNat = 1 by omega] at hfb ⊢
    simp only [longF, zeroZ] at hfb ⊢
    simp only [longF, zeroZ] at h1
    omega
  · have h1 := tMark_span (bl := bl) hst (i := m) (k + 1 - m) (by omega)
    have h2 := tMark_span (bl := bl) hst (i := m + 1) (k - (m + 1)) (by omega)
    have h3 := longF_b hst (m + 1) (k - (m + 1))
    rw [show m + (k + 1 - m) = k + 1 by omega] at h1
    rw [show m + 1 + (k - (m + 1)) = k by omega] at h2
    rw [if_neg (by omega), if_neg (by omega)] at hfb ⊢
    rw [show ((k : Int) + 1 - (m : Int)).toNat = k + 1 - m by omega] at hfb ⊢
    omega
end
section
set_option linter.unusedVariables false
def NearTo (d : GuardM) (l : List Int) (p : PostV) (m u : Nat) : Prop := hearsP d d.Tower p.Spot ∨ ∃ (k : Nat) (x : Int) (q : PostV), k < u ∧ l[k]? = some x ∧ x ≠ (m : Int) ∧ d.Posts[x.toNat]? = some q ∧ hearsP d q.Spot p.Spot
noncomputable instance (d : GuardM) (l : List Int) (p : PostV) (m u : Nat) : Decidable (NearTo d l p m u) := Classical.propDecidable _
theorem called_b {d : GuardM} {l : List Int} (h : mannedE d l = 0) {x : Int} (hx : x ∈ calledV d l) : 0 ≤ x ∧ x < (d.Posts.length : Int) := by
  rw [calledV_idx h] at hx
  obtain ⟨i, rfl, h1, _⟩ := mem_idxL.1 hx
  omega
end
section
open Go.RowKit
set_option linter.unusedVariables false
def boolC (b : Bool) : List Value := [.bool b]
@[simp] theorem boolC_length (b : Bool) : (boolC b).length = 1 := rfl
/-- the first i indices of which something is so; the others are not yet so -/
noncomputable def setB (n i : Nat) (P : Nat → Prop) : List Bool := (List.range n).map fun j => @decide (j < i ∧ P j) (Classical.propDecidable _)
noncomputable def boolsB (n : Nat) (P : Nat → Prop) : List Bool := setB n n P
@[simp] theorem setB_len {n i : Nat} {P : Nat → Prop} : (setB n i P).length = n := by simp [setB]
@[simp] theorem boolsB_len {n : Nat} {P : Nat → Prop} : (boolsB n P).length = n := setB_len
end
section
set_option linter.unusedVariables false
/-- a post hears the tower, or one of the first u posts that are in a set -/
def HearU (d : GuardM) (C : Nat → Prop) (p : PostV) (u : Nat) : Prop := hearsP d d.Tower p.Spot ∨ ∃ (k : Nat) (q : PostV), k < u ∧ C k ∧ d.Posts[k]? = some q ∧ hearsP d q.Spot p.Spot
noncomputable instance (d : GuardM) (C : Nat → Prop) (p : PostV) (u : Nat) : Decidable (HearU d C p u) := Classical.propDecidable _
section
variable {d : GuardM} {C M : Nat → Prop} {p q : PostV} {u i : Nat}
noncomputable def cnt (n : Nat) (C : Nat → Prop) : Nat := (idxL n C).length
theorem cnt_add {n : Nat} (hi : i < n) (hc : ¬ C i) : cnt n (fun j => C j ∨ j = i) = cnt n C + 1 := by
  unfold cnt
  induction n with
  | zero => omega
  | succ n ih =>
    by_cases e : i = n
    · subst e
      rw [idx_len_yes (P := fun j => C j ∨ j = i) (.inr rfl), idx_len_no hc]
      rw [idxL_congr (p := fun j => C j ∨ j = i) (q := C) fun j hj => ⟨fun q => q.resolve_right (by omega), .inl⟩]
    · have ih := ih (by omega)
      by_cases h : C n
      · rw [idx_len_yes (P := fun j => C j ∨ j = i) (.inl h), idx_len_yes h, ih]
      · rw [idx_len_no (P := fun j => C j ∨ j = i) (fun q => q.elim h (fun r => e r.symm)), idx_len_no h, ih]
end
section
variable {d : GuardM} {C C2 M : Nat → Prop} {m2 : Bool} {p : PostV} {u i : Nat}
end
end
end Go.Proofs.Ytlncplfcbmcjgaa
