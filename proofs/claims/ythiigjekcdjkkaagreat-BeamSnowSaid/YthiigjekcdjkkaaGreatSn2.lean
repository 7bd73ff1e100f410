/-
  The statement beamSnow_said, part 2 of 6: DrawN, Pure, Fm, It, Sort, Ptr, Short, MapK, Watch, Passes, Keys, MapR, RangeG, Grow, Nest, WMaps, NestS, Frozen, MarkD, Marks, WBounds, PassG, Drop, Spot, First, Line, Wrap.
  Conditions: none.
-/
import Derived.Test.YthiigjekcdjkkaaGreatSn1
import Derived.Laws.OwnMore
import Derived.WideKeyRuns
namespace Go.Proofs.YthiigjekcdjkkaaGreat
section
open Go.RowKit
set_option linter.unusedVariables false
def chkNM (m : Array Nat) (ops : Array Oper) (free T : List Nat) : Bool :=
  (free.all (Nat.blt · ops.size)) && (T.all (Nat.blt · ops.size)) && ((List.range ops.size).all fun i => free.contains i || T.contains i) && (T.all fun i => !free.contains i) &&
  ((List.range ops.size).all fun i => match ops[i]? with
    | none => false
    | some o => plainOp o && o.after.toList.all fun e => !Region.binds .any e || Nat.blt e.on i) &&
  ((List.range free.length).all fun p => match (free[p]?).bind fun i => (ops[i]?).map fun o => (i, o) with
    | none => false
    | some (i, o) => o.dst.isSome &&
      ((List.range free.length).all fun q => q == p || match (free[q]?).bind fun j => (ops[j]?).map fun o => (j, o) with
        | none => false
        | some (j, r) => match r.dst with
          | none => false
          | some d => o.dst != some d && (!(o.looksAt ops).contains d || (if q < p then ancB m j i else ancB m i j))) &&
      (T.all fun j => match ops[j]? with
        | none => false
        | some r => r.dst != o.dst && (match r.dst with | none => true | some d => !(o.looksAt ops).contains d || ancB m i j) && (match o.dst with | none => true | some d => !(r.looksAt ops).contains d || ancB m i j))) &&
  ((List.range T.length).all fun p => (List.range p).all fun q => match T[p]?, T[q]? with
    | some i, some j => i != j
    | _, _ => false)
def chkNNM (m : Array Nat) (ops : Array Oper) (free T : List Nat) (fe : List Bool) (tb : List Nat) : Bool :=
  chkNM m ops free T && (T.all fun j => tb.contains j || (List.range free.length).all fun p => !(fe[p]?).getD false || match free[p]? with
    | some i => ancB m i j
    | _ => false)
def chkNN (ops : Array Oper) (free T : List Nat) (fe : List Bool) (tb : List Nat) : Bool := chkNNM (msk ops) ops free T fe tb
def chkN (ops : Array Oper) (free T : List Nat) : Bool := chkNM (msk ops) ops free T
theorem chkN_out {ops : Array Oper} {free T : List Nat} {fe : List Bool} {tb : List Nat} (h : chkNN ops free T fe tb = true) : chkN ops free T = true ∧ ∀ (p i j : Nat), free[p]? = some i → j ∈ T → (fe[p]?).getD false = true → tb.contains j = true ∨ ancB (msk ops) i j = true := by
  simp only [chkNN, chkNNM, Bool.and_eq_true] at h
  refine ⟨h.1, fun p i j hp hj hf => ?_⟩
  have h2 := h.2
  rw [List.all_eq_true] at h2
  have h3 := h2 j hj
  rw [Bool.or_eq_true] at h3
  rcases h3 with h3 | h3
  · exact .inl h3
  · rw [List.all_eq_true] at h3
    have h4 := h3 p (by simpa using (List.getElem?_eq_some_iff.1 hp).1)
    simp only [hp, hf, Bool.not_true, Bool.false_or] at h4
    exact .inr h4
structure ChkN (ops : Array Oper) (free T : List Nat) : Prop where
  fl : ∀ i ∈ free, i < ops.size
  tl : ∀ i ∈ T, i < ops.size
  cover : ∀ i, i < ops.size → i ∈ free ∨ i ∈ T
  disj : ∀ i ∈ T, i ∉ free
  plain : ∀ (i : Nat) (o : Oper), ops[i]? = some o → (∀ cs b, o.op ≠ .select cs b) ∧ (∀ c, o.op ≠ .defer c)
  edge : ∀ (i : Nat) (o : Oper) (e : Edge), ops[i]? = some o → e ∈ o.after → Region.binds .any e = true → e.on < i
  apart : ∀ (p q i j : Nat) (o r : Oper) (d : Nat), free[p]? = some i → free[q]? = some j → q ≠ p → ops[i]? = some o → ops[j]? = some r → r.dst = some d → o.dst ≠ some d ∧ (d ∈ o.looksAt ops → (q < p ∧ ancB (msk ops) j i = true) ∨ (p < q ∧ ancB (msk ops) i j = true))
  ft : ∀ (i j : Nat) (o r : Oper), i ∈ free → j ∈ T → ops[i]? = some o → ops[j]? = some r → r.dst ≠ o.dst ∧ (∀ d, r.dst = some d → d ∈ o.looksAt ops → ancB (msk ops) i j = true) ∧ (∀ d, o.dst = some d → d ∈ r.looksAt ops → ancB (msk ops) i j = true)
  nodup : T.Nodup
theorem ChkN.of {ops : Array Oper} {free T : List Nat} (h : chkN ops free T = true) : ChkN ops free T := by
  simp only [chkN, chkNM, Bool.and_eq_true] at h
  obtain ⟨⟨⟨⟨⟨⟨h1, h2⟩, h3⟩, h4⟩, h5⟩, h6⟩, h7⟩ := h
  rw [List.all_eq_true] at h1 h2 h3 h4 h5 h6 h7
  have hfl : ∀ i ∈ free, i < ops.size := fun i hi => by have := h1 i hi; rwa [Nat.blt_eq] at this
  have htl : ∀ i ∈ T, i < ops.size := fun i hi => by have := h2 i hi; rwa [Nat.blt_eq] at this
  refine ⟨hfl, htl, fun i hi => ?_, fun i hi => ?_, fun i o ho => ?_, fun i o e ho he hb => ?_, ?_, ?_, ?_⟩
  · have := h3 i (by simpa using hi)
    simpa using this
  · have := h4 i hi
    simpa using this
  · have hi : i < ops.size := (Array.getElem?_eq_some_iff.1 ho).1
    have := h5 i (by simpa using hi)
    simp only [ho, Bool.and_eq_true] at this
    have := this.1
    refine ⟨fun cs b hh => ?_, fun c hh => ?_⟩ <;> simp [plainOp, hh] at this
  · have hi : i < ops.size := (Array.getElem?_eq_some_iff.1 ho).1
    have := h5 i (by simpa using hi)
    simp only [ho, Bool.and_eq_true] at this
    have := this.2
    rw [List.all_eq_true] at this
    have := this e (by simpa using he)
    rw [hb] at this
    simpa using this
  · intro p q i j o r d hp hq hne ho hr hd
    have := h6 p (by simpa using (List.getElem?_eq_some_iff.1 hp).1)
    simp only [hp, ho, Option.bind_some, Option.map_some, Bool.and_eq_true] at this
    have := this.1.2
    rw [List.all_eq_true] at this
    have := this q (by simpa using (List.getElem?_eq_some_iff.1 hq).1)
    simp only [hq, hr, hd, Option.bind_some, Option.map_some, Bool.or_eq_true, Bool.and_eq_true, beq_iff_eq, bne_iff_ne, ne_eq] at this
    rcases this with h | ⟨h8, h9⟩
    · exact absurd h hne
    · refine ⟨h8, fun hm => ?_⟩
      rcases h9 with h9 | h9
      · simp [hm] at h9
      · by_cases hlt : q < p
        · rw [if_pos hlt] at h9; exact .inl ⟨hlt, h9⟩
        · rw [if_neg hlt] at h9; exact .inr ⟨by omega, h9⟩
  · intro i j o r hi hj ho hr
    obtain ⟨p, hp⟩ := List.mem_iff_getElem?.1 hi
    have := h6 p (by simpa using (List.getElem?_eq_some_iff.1 hp).1)
    simp only [hp, ho, Option.bind_some, Option.map_some, Bool.and_eq_true] at this
    have := this.2
    rw [List.all_eq_true] at this
    have := this j hj
    simp only [hr, Bool.and_eq_true, bne_iff_ne, ne_eq] at this
    refine ⟨this.1.1, fun d hd hm => ?_, fun d hd hm => ?_⟩
    · have := this.1.2
      simp [hd, hm] at this; exact this
    · have := this.2
      simp [hd, hm] at this; exact this
  · rw [List.nodup_iff_pairwise_ne, List.pairwise_iff_getElem]
    intro q p hq hp hlt
    have := h7 p (by simpa using hp)
    rw [List.all_eq_true] at this
    have := this q (by simpa using hlt)
    simp only [List.getElem?_eq_getElem hp, List.getElem?_eq_getElem hq, bne_iff_ne, ne_eq] at this
    exact fun e => this e.symm
/-- the others, in whatever order the edges leave open; the part C' of the state stands throughout, the part C1 where the list tb says -/
def TN (E : Env) (ops : Array Oper) (D : List Deferred) (C' C1 : List Assn) (F : List (Nat × Value) → List Assn → Prop) (tb : List Nat) : Nat → List Nat → List (Nat × Value) → List Assn → Prop
  | 0, _, L, C => F L C
  | n + 1, rem, L, C => ∀ i ∈ rem.filter (fun i => rem.all fun j => !ancB (msk ops) j i), ∀ o, ops[i]? = some o → ∀ K : Act → World → Prop, (∀ L' C'', (∀ w, St E.S E.w0 C'' w → St E.S E.w0 C' w) → (tb.contains i = true → ∀ w, St E.S E.w0 C'' w → St E.S E.w0 C1 w) → TN E ops D C' C1 F tb n (rem.filter (· != i)) L' C'' → KJ E K D L' C'') → RJ E ops (NQ K) [o] D L C
set_option maxHeartbeats 1000000 in
theorem w_drawN {E : Env} {id : Nat} {ops : Array Oper} {Q : Post} {D : List Deferred} {L : List (Nat × Value)} {C : List Assn} (hm : E.P.follows .mixedOrders = true) (free T : List Nat) (fe : List Bool) (tb : List Nat) (C' C1 : List Assn) (hc : chkNN ops free T fe tb = true)
    (hC : ∀ w, St E.S E.w0 C w → St E.S E.w0 C' w) (hC1 : ∀ w, St E.S E.w0 C w → St E.S E.w0 C1 w)
    (h : DJ4 E ops D C' C1 (fun L' => TN E ops D C' C1 (fun L C => KJ E (Q .normal) D L C) tb T.length T L' C) fe (pickL ops free) L) : WJ E (.region id ops true) Q D L C := by
  obtain ⟨hc, hc4⟩ := chkN_out hc
  have hc := ChkN.of hc
  intro a0 w0 hf0 hs0
  refine wpIn_region_any hm ?_
  have hs1 : St E.S E.w0 C ({ w0 with drawn := w0.drawn + 1 } : World) := hs0.same (Keeps.drew no w0)
  obtain ⟨vs, hvl, hF, hall⟩ := DJ4.out _ _ _ h
  have hfl := pickL_length hc.fl
  have hgf : ∀ (p : Nat) (i : Nat) (o : Oper), free[p]? = some i → ops[i]? = some o → (pickL ops free)[p]? = some o := fun p i o hp ho => by rw [pickL_get hc.fl, hp]; exact ho
  have hfg : ∀ (p : Nat) (o : Oper), (pickL ops free)[p]? = some o → ∃ i, free[p]? = some i ∧ ops[i]? = some o := fun p o h => by
    rw [pickL_get hc.fl] at h
    cases hp : free[p]? with
    | none => simp [hp] at h
    | some i => exact ⟨i, rfl, by simpa [hp] using h⟩
  have hdlt : ∀ (j : Nat) (o : Oper) (d : Nat), (pickL ops free)[j]? = some o → o.dst = some d → d < E.n := fun j o d ho hd => by
    obtain ⟨d', v, h1, h2, _⟩ := hall j o ho
    rw [h1] at hd; cases hd; exact h2
  -- all is listed
  have done : ∀ (listed : Array Bool) (a : Act) (w : World) (rem : List Nat) (Lk : List (Nat × Value)) (Ck : List Assn) (af : Act), (∀ i, i < ops.size → listed.getD i false = true) →
      (∀ i ∈ T, (listed.getD i false = true ↔ i ∉ rem)) → (∀ i ∈ rem, i ∈ T) → rem.Nodup → a.defers = D → a.tmps.size = E.n →
      TN E ops D C' C1 (fun L C => KJ E (Q .normal) D L C) tb rem.length rem Lk Ck → Fr E.n D Lk af → St E.S E.w0 Ck w →
      (∀ t, (∀ (p i : Nat) (o : Oper), free[p]? = some i → ops[i]? = some o → o.dst ≠ some t) → af.tmps[t]? = a.tmps[t]?) →
      (∀ (p i : Nat) (o : Oper) (d : Nat), free[p]? = some i → ops[i]? = some o → o.dst = some d → af.tmps[d]? = vs[p]? ∧ (listed.getD i false = true → a.tmps[d]? = vs[p]?)) → Q .normal a w := by
    intro listed a w rem Lk Ck af hal hTk hrT hrn hd hz hT hfr hst hslot hfree
    have hk : rem = [] := by
      rw [List.eq_nil_iff_forall_not_mem]
      intro i hi
      exact (hTk i (hrT i hi)).1 (hal i (hc.tl i (hrT i hi))) hi
    subst hk
    have hT : KJ E (Q .normal) D Lk Ck := hT
    refine hT a w ⟨hd, hz, fun t v hv => ?_⟩ hst
    rw [← hfr.at_ t v hv]
    by_cases hw : ∃ (p i : Nat) (o : Oper), free[p]? = some i ∧ ops[i]? = some o ∧ o.dst = some t
    · obtain ⟨p, i, o, hp, ho, hdst⟩ := hw
      obtain ⟨e1, e2⟩ := hfree p i o t hp ho hdst
      rw [e1, e2 (hal i (hc.fl i (List.mem_of_getElem? hp)))]
    · exact (hslot t (fun p i o hp ho hdst => hw ⟨p, i, o, hp, ho, hdst⟩)).symm
  have key : ∀ (fuel : Nat) (listed : Array Bool) (a : Act) (w : World) (rem : List Nat) (Lk : List (Nat × Value)) (Ck : List Assn) (af : Act), listed.size = ops.size → (unl ops.size listed).length ≤ fuel → (∀ j, listed.getD j false = true → Deps ops (fun k => listed.getD k false = true) j) →
      (∀ i ∈ T, (listed.getD i false = true ↔ i ∉ rem)) → (∀ i ∈ rem, i ∈ T) → rem.Nodup → a.defers = D → a.tmps.size = E.n →
      TN E ops D C' C1 (fun L C => KJ E (Q .normal) D L C) tb rem.length rem Lk Ck → Fr E.n D Lk af → St E.S E.w0 Ck w → (∀ w, St E.S E.w0 Ck w → St E.S E.w0 C' w) → (∀ (p i : Nat), free[p]? = some i → (fe[p]?).getD false = true → listed.getD i false = false → ∀ w, St E.S E.w0 Ck w → St E.S E.w0 C1 w) →
      (∀ t, (∀ (p i : Nat) (o : Oper), free[p]? = some i → ops[i]? = some o → o.dst ≠ some t) → af.tmps[t]? = a.tmps[t]?) →
      (∀ t, (∀ (i : Nat) (o : Oper), listed.getD i false = true → ops[i]? = some o → o.dst ≠ some t) → a.tmps[t]? = a0.tmps[t]?) →
      (∀ (p i : Nat) (o : Oper) (d : Nat), free[p]? = some i → ops[i]? = some o → o.dst = some d → af.tmps[d]? = vs[p]? ∧ (listed.getD i false = true → a.tmps[d]? = vs[p]?)) →
      wpAnyIn (Fw E.r) 0 E.P .any ops Q fuel listed a w := by
    intro fuel
    induction fuel with
    | zero =>
      intro listed a w rem Lk Ck af hsz hu hcl hTk hrT hrn hd hz hT hfr hst hsub hsub1 hslot hold hfree
      have hall' : ∀ i, i < ops.size → listed.getD i false = true := fun i hi => by
        cases hg : listed.getD i false with
        | true => rfl
        | false =>
          have := List.length_pos_of_mem (mem_unl.2 ⟨hi, hg⟩)
          omega
      refine ⟨?_, done listed a w rem Lk Ck af hall' hTk hrT hrn hd hz hT hfr hst hslot hfree⟩
      rw [List.eq_nil_iff_forall_not_mem]
      intro i hi
      obtain ⟨h1, h2, _⟩ := of_ready hsz hi
      rw [hall' i h1] at h2; cases h2
    | succ fuel ih =>
      intro listed a w rem Lk Ck af hsz hu hcl hTk hrT hrn hd hz hT hfr hst hsub hsub1 hslot hold hfree
      refine ⟨fun hnil => ?_, fun i hi => ?_⟩
      · refine done listed a w rem Lk Ck af (fun i hi => ?_) hTk hrT hrn hd hz hT hfr hst hslot hfree
        cases hg : listed.getD i false with
        | true => rfl
        | false =>
          exfalso
          have hex : ∃ i, i < ops.size ∧ listed.getD i false = false := ⟨i, hi, hg⟩
          obtain ⟨j, hj, hmin⟩ := exists_least hex
          have hr : j ∈ Region.ready .any ops listed := ready_of hsz hj.1 hj.2 (fun o e ho he hb => by
            have h1 := hc.edge j o e ho he hb
            cases hg : listed.getD e.on false with
            | true => exact hg
            | false => exact absurd (hmin e.on ⟨by omega, hg⟩) (by omega))
          rw [hnil] at hr; cases hr
      · obtain ⟨hi1, hi2, hi3⟩ := of_ready hsz hi
        obtain ⟨o, ho⟩ : ∃ o, ops[i]? = some o := ⟨ops[i], Array.getElem?_eq_getElem hi1⟩
        obtain ⟨hsel, hdef⟩ := hc.plain i o ho
        have hset : ∀ j, (listed.setIfInBounds i true).getD j false = if j = i then true else listed.getD j false := fun j => getD_set (by omega) false
        have hun := unl_lt (n := ops.size) (i := i) (listed := listed) (by omega) (mem_unl.2 ⟨hi1, hi2⟩)
        have hcl' : ∀ j, (listed.setIfInBounds i true).getD j false = true → Deps ops (fun k => (listed.setIfInBounds i true).getD k false = true) j := by
          intro j hj o' e ho' he hb
          show (listed.setIfInBounds i true).getD e.on false = true
          rw [hset] at hj ⊢
          by_cases e1 : e.on = i
          · simp [e1]
          · simp only [e1, if_false]
            by_cases e2 : j = i
            · subst e2; exact hi3 o' e ho' he hb
            · simp only [e2, if_false] at hj; exact hcl j hj o' e ho' he hb
        have hanc : ∀ j, ancB (msk ops) j i = true → listed.getD j false = true := fun j hj => ancB_closed (S := fun k => listed.getD k false = true) hcl hj hi3
        have hnanc : ∀ j, ancB (msk ops) i j = true → listed.getD j false = false := fun j hj => by
          cases hg : listed.getD j false with
          | false => rfl
          | true =>
            have := ancB_closed (S := fun k => listed.getD k false = true) hcl hj (hcl j hg)
            rw [this] at hi2; cases hi2
        unfold wpOpIn
        simp only [ho]
        rcases hc.cover i hi1 with hin | hin
        · -- a free one
          obtain ⟨p, hp⟩ := List.mem_iff_getElem?.1 hin
          obtain ⟨d, v, hod, hdn, hvi, hsd⟩ := hall p o (hgf p i o hp ho)
          have hfrp := actAt_fr (pickL ops free) vs p L a0 hdlt hf0
          have hlook : ∀ t ∈ o.looksAt ops, a.tmps[t]? = (actAt (pickL ops free) vs p a0).tmps[t]? := by
            intro t htl
            by_cases hw : ∃ (q j : Nat) (r : Oper), free[q]? = some j ∧ q ≠ p ∧ ops[j]? = some r ∧ r.dst = some t
            · obtain ⟨q, j, r, hq, hne, hr, hrd⟩ := hw
              obtain ⟨d', v', e1, e2, e3, _⟩ := hall q r (hgf q j r hq hr)
              rw [hrd] at e1; cases e1
              have hap := hc.apart p q i j o r t hp hq hne ho hr hrd
              rcases hap.2 htl with ⟨hlt, ha⟩ | ⟨hlt, ha⟩
              · rw [(hfree q j r t hq hr hrd).2 (hanc j ha), e3]
                refine (actAt_at (pickL ops free) vs p a0 q r t v' hlt (hgf q j r hq hr) hrd (by rw [hf0.size]; exact e2) e3 (fun m u hm hne' hu => ?_)).symm
                obtain ⟨x, hx1, hx2⟩ := hfg m u hu
                exact (hc.apart m q x j u r t hx1 hq (Ne.symm hne') hx2 hr hrd).1
              · have hnS := hnanc j ha
                refine (hold t (fun m u hm hu hud => ?_)).trans (actAt_other (pickL ops free) vs p a0 t (fun m u hm hu hud => ?_)).symm
                · rcases hc.cover m (Array.getElem?_eq_some_iff.1 hu).1 with hmf | hmT
                  · obtain ⟨x, hx⟩ := List.mem_iff_getElem?.1 hmf
                    by_cases e : x = q
                    · subst e; rw [hq] at hx; cases hx; rw [hm] at hnS; cases hnS
                    · exact (hc.apart x q m j u r t hx hq (Ne.symm e) hu hr hrd).1 hud
                  · exact (hc.ft j m r u (List.mem_of_getElem? hq) hmT hr hu).1 (by rw [hud, hrd])
                · obtain ⟨x, hx1, hx2⟩ := hfg m u hu
                  exact (hc.apart m q x j u r t hx1 hq (by omega) hx2 hr hrd).1 hud
            · refine (hold t (fun m u hm hu hud => ?_)).trans (actAt_other (pickL ops free) vs p a0 t (fun m u hm hu hud => ?_)).symm
              · rcases hc.cover m (Array.getElem?_eq_some_iff.1 hu).1 with hmf | hmT
                · obtain ⟨x, hx⟩ := List.mem_iff_getElem?.1 hmf
                  by_cases e : x = p
                  · subst e; rw [hp] at hx; cases hx; rw [hm] at hi2; cases hi2
                  · exact hw ⟨x, m, u, hx, e, hu, hud⟩
                · have := hnanc m ((hc.ft i m o u hin hmT ho hu).2.1 t hud htl)
                  rw [hm] at this; cases this
              · obtain ⟨x, hx1, hx2⟩ := hfg m u hu
                exact hw ⟨m, x, u, hx1, by omega, hx2, hud⟩
          have hTi : ∀ j ∈ T, j ≠ i := fun j hmj e => hc.disj j hmj (e ▸ hin)
          have hgo : ∀ w', Keeps no w w' → wpAnyIn (Fw E.r) 0 E.P .any ops Q fuel (listed.setIfInBounds i true) (a.put (some d) v) w' := by
            intro w' hk
            refine ih _ _ w' rem Lk Ck af (by simpa using hsz) (by omega) hcl' (fun j hmj => ?_) hrT hrn hd (by simp [Act.put, hz]) hT hfr (hst.same hk) hsub (fun p' i' hp' hf' hl' => hsub1 p' i' hp' hf' (by rw [hset] at hl'; by_cases e : i' = i; (rw [if_pos e] at hl'; cases hl'); (rwa [if_neg e] at hl'))) (fun t ht => ?_) (fun t ht => ?_) (fun q j r d' hq hr hrd => ?_)
            · rw [hset, if_neg (hTi j hmj)]; exact hTk j hmj
            · have hne : d ≠ t := fun e => ht p i o hp ho (by rw [hod, e])
              simp only [Act.put]
              rw [Array.getElem?_setIfInBounds_ne hne]
              exact hslot t ht
            · have hne : d ≠ t := fun e => ht i o (by rw [hset]; simp) ho (by rw [hod, e])
              simp only [Act.put]
              rw [Array.getElem?_setIfInBounds_ne hne]
              exact hold t (fun m u hm hu => ht m u (by rw [hset]; split <;> simp [hm]) hu)
            · refine ⟨(hfree q j r d' hq hr hrd).1, fun hl => ?_⟩
              by_cases e : q = p
              · subst e
                rw [hp] at hq; cases hq
                rw [ho] at hr; cases hr
                rw [hod] at hrd; cases hrd
                simp only [Act.put]
                rw [Array.getElem?_setIfInBounds_self_of_lt (by rw [hz]; exact hdn), hvi]
              · have hne := (hc.apart p q i j o r d' hp hq e ho hr hrd).1
                simp only [Act.put]
                rw [Array.getElem?_setIfInBounds_ne (fun h => hne (by rw [hod, h]))]
                refine (hfree q j r d' hq hr hrd).2 ?_
                rw [hset] at hl
                by_cases e2 : j = i
                · subst e2
                  exact absurd (by rw [ho] at hr; cases hr; rw [hod] at hrd ⊢; exact hrd) hne
                · simpa [e2] using hl
          refine sd_swapk hsd hod hdn hsel hdef hfrp hlook ?_ hgo
          cases hfl : (fe[p]?).getD false with
          | true => exact hsub1 p i hp hfl hi2 w hst
          | false => exact hsub w hst
        · -- one of the others
          have hir : i ∈ rem := by
            rcases Classical.em (i ∈ rem) with h | h
            · exact h
            · have := (hTk i hin).2 h; rw [this] at hi2; cases hi2
          have hmin : i ∈ rem.filter (fun i => rem.all fun j => !ancB (msk ops) j i) := by
            rw [List.mem_filter]
            refine ⟨hir, List.all_eq_true.2 fun j hj => ?_⟩
            cases hab : ancB (msk ops) j i with
            | false => rfl
            | true => exact absurd hj ((hTk j (hrT j hj)).1 (hanc j hab))
          obtain ⟨nr, hnr⟩ : ∃ nr, rem.length = nr + 1 := ⟨rem.length - 1, by have := List.length_pos_of_mem hir; omega⟩
          have hnr' : (rem.filter (· != i)).length = nr := by
            have := hrn.erase_eq_filter i
            rw [← this, List.length_erase_of_mem hir, hnr]; rfl
          rw [hnr] at hT
          have hT := hT i hmin o ho
          have hlook : ∀ t ∈ o.looksAt ops, a.tmps[t]? = af.tmps[t]? := by
            intro t htl
            by_cases hw : ∃ (q j : Nat) (r : Oper), free[q]? = some j ∧ ops[j]? = some r ∧ r.dst = some t
            · obtain ⟨q, j, r, hq, hr, hrd⟩ := hw
              have ha := (hc.ft j i r o (List.mem_of_getElem? hq) hin hr ho).2.2 t hrd htl
              obtain ⟨e1, e2⟩ := hfree q j r t hq hr hrd
              rw [e1, e2 (hanc j ha)]
            · exact (hslot t (fun q j r hq hr hrd => hw ⟨q, j, r, hq, hr, hrd⟩)).symm
          refine op_swap hsel hdef hlook (hT (fun af' w' => af'.defers = D ∧ ∃ L' C'', (∀ w, St E.S E.w0 C'' w → St E.S E.w0 C' w) ∧ (tb.contains i = true → ∀ w, St E.S E.w0 C'' w → St E.S E.w0 C1 w) ∧ TN E ops D C' C1 (fun L C => KJ E (Q .normal) D L C) tb nr (rem.filter (· != i)) L' C'' ∧ Fr E.n D L' af' ∧ St E.S E.w0 C'' w')
            (fun L' C'' h1 h1' h2 af' w' h3 h4 => ⟨h3.defers, L', C'', h1, h1', h2, h3, h4⟩) af w hfr hst) (fun b w' hb => hb.1.trans hfr.defers.symm) ?_
          rintro u w' ⟨_, L', C'', h1, h1', h2, h3, h4⟩
          have hput : ∀ (b : Act) (t : Nat), o.dst ≠ some t → (b.put o.dst u).tmps[t]? = b.tmps[t]? := fun b t hne => by
            cases hod : o.dst with
            | none => rfl
            | some d => simp only [Act.put]; rw [Array.getElem?_setIfInBounds_ne (fun e => hne (by rw [hod, e]))]
          have hputs : ∀ (b : Act), (b.put o.dst u).tmps.size = b.tmps.size := fun b => by cases o.dst <;> simp [Act.put]
          refine ih _ _ w' (rem.filter (· != i)) L' C'' (af.put o.dst u) (by simpa using hsz) (by omega) hcl' (fun j hq => ?_) (fun j hj => hrT j (List.mem_filter.1 hj).1) (hrn.filter _) (by cases o.dst <;> exact hd) (by rw [hputs]; exact hz) (by rw [hnr']; exact h2) h3 h4 h1 (fun p' i' hp' hf' hl' => by
            rcases hc4 p' i' i hp' hin hf' with h5 | h5
            · exact h1' h5
            · have h6 := hanc i' h5
              rw [hset] at hl'
              by_cases e : i' = i
              · rw [if_pos e] at hl'; cases hl'
              · rw [if_neg e, h6] at hl'; cases hl') (fun t ht => ?_) (fun t ht => ?_) (fun q j r d' hq hr hrd => ?_)
          · rw [hset]
            by_cases e : j = i
            · subst e; simp
            · simp only [e, if_false, List.mem_filter, bne_iff_ne, ne_eq, not_false_eq_true, and_true]
              exact hTk j hq
          · by_cases hod : o.dst = some t
            · rw [hod]
              simp only [Act.put]
              by_cases hlt : t < E.n
              · rw [Array.getElem?_setIfInBounds_self_of_lt (by rw [hfr.size]; exact hlt), Array.getElem?_setIfInBounds_self_of_lt (by rw [hz]; exact hlt)]
              · rw [Array.getElem?_eq_none (by rw [Array.size_setIfInBounds, hfr.size]; exact Nat.le_of_not_lt hlt), Array.getElem?_eq_none (by rw [Array.size_setIfInBounds, hz]; exact Nat.le_of_not_lt hlt)]
            · rw [hput a t hod, hput af t hod]; exact hslot t ht
          · rw [hput a t (ht i o (by rw [hset]; simp) ho)]
            exact hold t (fun m' u' hm'' hu' => ht m' u' (by rw [hset]; split <;> simp [hm'']) hu')
          · have hne : o.dst ≠ some d' := fun e => (hc.ft j i r o (List.mem_of_getElem? hq) hin hr ho).1 (by rw [e, hrd])
            rw [hput a d' hne, hput af d' hne]
            refine ⟨(hfree q j r d' hq hr hrd).1, fun hl => (hfree q j r d' hq hr hrd).2 ?_⟩
            rw [hset] at hl
            have : j ≠ i := fun e => hc.disj i hin (e ▸ List.mem_of_getElem? hq)
            simpa [this] using hl
  refine key ops.size (Array.replicate ops.size false) a0 _ T _ C (actAt (pickL ops free) vs (pickL ops free).length a0) (by simp) ?_ ?_ ?_ (fun _ h => h) hc.nodup hf0.defers hf0.size (by simpa using hF) (actAt_fr _ vs _ L a0 hdlt hf0) hs1 hC (fun _ _ _ _ _ => hC1) ?_ (fun _ _ => rfl) ?_
  · unfold unl; exact Nat.le_trans (List.length_filter_le _ _) (by simp)
  · intro j hj
    simp only [Array.getD_eq_getD_getElem?, Array.getElem?_replicate] at hj
    split at hj <;> simp at hj
  · intro i hi
    simp only [Array.getD_eq_getD_getElem?, Array.getElem?_replicate]
    split <;> simp [hi]
  · intro t ht
    refine actAt_other _ vs _ a0 t (fun m u _ hu hud => ?_)
    obtain ⟨x, hx1, hx2⟩ := hfg m u hu
    exact ht m x u hx1 hx2 hud
  · intro p i o d hp ho hod
    obtain ⟨d', v', e1, e2, e3, _⟩ := hall p o (hgf p i o hp ho)
    rw [hod] at e1; cases e1
    refine ⟨?_, fun hl => ?_⟩
    · rw [e3]
      refine actAt_at _ vs _ a0 p o d v' (by rw [hfl]; exact (List.getElem?_eq_some_iff.1 hp).1) (hgf p i o hp ho) hod (by rw [hf0.size]; exact e2) e3 (fun m u hm hne hu => ?_)
      obtain ⟨x, hx1, hx2⟩ := hfg m u hu
      exact (hc.apart m p x i u o d hx1 hp (Ne.symm hne) hx2 ho hod).1
    · simp only [Array.getD_eq_getD_getElem?, Array.getElem?_replicate] at hl
      split at hl <;> simp at hl
theorem n_fin {E : Env} {ops : Array Oper} {D : List Deferred} {C' C1 : List Assn} {F : List (Nat × Value) → List Assn → Prop} {tb rem : List Nat} {L : List (Nat × Value)} {C : List Assn} (h : F L C) : TN E ops D C' C1 F tb 0 rem L C := h
def NStep (E : Env) (ops : Array Oper) (D : List Deferred) (C' C1 : List Assn) (F : List (Nat × Value) → List Assn → Prop) (tb : List Nat) (n : Nat) (rem : List Nat) (i : Nat) (L : List (Nat × Value)) (C : List Assn) : Prop :=
  ∀ o, ops[i]? = some o → ∀ K : Act → World → Prop, (∀ L' C'', (∀ w, St E.S E.w0 C'' w → St E.S E.w0 C' w) → (tb.contains i = true → ∀ w, St E.S E.w0 C'' w → St E.S E.w0 C1 w) → TN E ops D C' C1 F tb n rem L' C'' → KJ E K D L' C'') → RJ E ops (NQ K) [o] D L C
theorem n_step {E : Env} {ops : Array Oper} {D : List Deferred} {C' C1 : List Assn} {F : List (Nat × Value) → List Assn → Prop} {tb rem : List Nat} {n : Nat} {L : List (Nat × Value)} {C : List Assn} (ms : List Nat) (hm : rem.filter (fun i => rem.all fun j => !ancB (msk ops) j i) = ms)
    (h : ∀ i ∈ ms, NStep E ops D C' C1 F tb n (rem.filter (· != i)) i L C) : TN E ops D C' C1 F tb (n + 1) rem L C := fun i hi => h i (hm ▸ hi)
theorem n_cons {p : Nat → Prop} {i : Nat} {l : List Nat} (h : p i) (t : ∀ j ∈ l, p j) : ∀ j ∈ i :: l, p j := fun j hj => by
  rcases List.mem_cons.1 hj with rfl | hj
  · exact h
  · exact t j hj
theorem n_nil {p : Nat → Prop} : ∀ j ∈ ([] : List Nat), p j := fun j hj => by cases hj
theorem n_op {E : Env} {ops : Array Oper} {D : List Deferred} {C' C1 : List Assn} {F : List (Nat × Value) → List Assn → Prop} {tb rem rem' : List Nat} {n i : Nat} {L : List (Nat × Value)} {C : List Assn} {o : Oper} (ho : ops[i]? = some o) (hr : rem = rem') (ht : tb.contains i = false)
    (h : ∀ K : Act → World → Prop, (∀ L' C'', (∀ w, St E.S E.w0 C'' w → St E.S E.w0 C' w) → TN E ops D C' C1 F tb n rem' L' C'' → KJ E K D L' C'') → RJ E ops (NQ K) [o] D L C) : NStep E ops D C' C1 F tb n rem i L C := fun o' ho' K hK => by
  rw [ho] at ho'; cases ho'
  subst hr
  exact h K fun L' C'' h1 h2 => hK L' C'' h1 (fun h => by rw [ht] at h; cases h) h2
theorem n_op5 {E : Env} {ops : Array Oper} {D : List Deferred} {C' C1 : List Assn} {F : List (Nat × Value) → List Assn → Prop} {tb rem rem' : List Nat} {n i : Nat} {L : List (Nat × Value)} {C : List Assn} {o : Oper} (ho : ops[i]? = some o) (hr : rem = rem')
    (h : ∀ K : Act → World → Prop, (∀ L' C'', (∀ w, St E.S E.w0 C'' w → St E.S E.w0 C' w) → (∀ w, St E.S E.w0 C'' w → St E.S E.w0 C1 w) → TN E ops D C' C1 F tb n rem' L' C'' → KJ E K D L' C'') → RJ E ops (NQ K) [o] D L C) : NStep E ops D C' C1 F tb n rem i L C := fun o' ho' K hK => by
  rw [ho] at ho'; cases ho'
  subst hr
  exact h K fun L' C'' h1 h1' h2 => hK L' C'' h1 (fun _ => h1') h2
end
section
open Go.RowKit
set_option linter.unusedVariables false
def chkPM (m : Array Nat) (ops : Array Oper) (rem : List Nat) : Bool :=
  (List.range rem.length).all fun p => match (rem[p]?).bind fun i => (ops[i]?).map fun o => (i, o) with
    | none => false
    | some (i, o) => o.dst.isSome && plainOp o &&
      ((List.range rem.length).all fun q => q == p || match (rem[q]?).bind fun j => (ops[j]?).map fun o => (j, o) with
        | none => false
        | some (j, r) => i != j && match r.dst with
          | none => false
          | some d => o.dst != some d && (!(o.looksAt ops).contains d || (if q < p then ancB m j i else ancB m i j)))
def chkP (ops : Array Oper) (rem : List Nat) : Bool := chkPM (msk ops) ops rem
structure ChkP (ops : Array Oper) (rem : List Nat) : Prop where
  lt : ∀ i ∈ rem, i < ops.size
  plain : ∀ (p i : Nat) (o : Oper), rem[p]? = some i → ops[i]? = some o → (∀ cs b, o.op ≠ .select cs b) ∧ (∀ c, o.op ≠ .defer c)
  apart : ∀ (p q i j : Nat) (o r : Oper) (d : Nat), rem[p]? = some i → rem[q]? = some j → q ≠ p → ops[i]? = some o → ops[j]? = some r → r.dst = some d → i ≠ j ∧ o.dst ≠ some d ∧ (d ∈ o.looksAt ops → (q < p ∧ ancB (msk ops) j i = true) ∨ (p < q ∧ ancB (msk ops) i j = true))
theorem ChkP.of {ops : Array Oper} {rem : List Nat} (h : chkP ops rem = true) : ChkP ops rem := by
  simp only [chkP, chkPM] at h
  rw [List.all_eq_true] at h
  refine ⟨fun i hi => ?_, fun p i o hp ho => ?_, ?_⟩
  · obtain ⟨p, hp⟩ := List.mem_iff_getElem?.1 hi
    have := h p (by simpa using (List.getElem?_eq_some_iff.1 hp).1)
    simp only [hp, Option.bind_some] at this
    cases ho : ops[i]? with
    | none => simp [ho] at this
    | some o => exact (Array.getElem?_eq_some_iff.1 ho).1
  · have := h p (by simpa using (List.getElem?_eq_some_iff.1 hp).1)
    simp only [hp, ho, Option.bind_some, Option.map_some, Bool.and_eq_true] at this
    have := this.1.2
    refine ⟨fun cs b hh => ?_, fun c hh => ?_⟩ <;> simp [plainOp, hh] at this
  · intro p q i j o r d hp hq hne ho hr hd
    have := h p (by simpa using (List.getElem?_eq_some_iff.1 hp).1)
    simp only [hp, ho, Option.bind_some, Option.map_some, Bool.and_eq_true] at this
    have := this.2
    rw [List.all_eq_true] at this
    have := this q (by simpa using (List.getElem?_eq_some_iff.1 hq).1)
    simp only [hq, hr, hd, Option.bind_some, Option.map_some, Bool.or_eq_true, Bool.and_eq_true, beq_iff_eq, bne_iff_ne, ne_eq] at this
    rcases this with h | ⟨h7, h8, h9⟩
    · exact absurd h hne
    · refine ⟨h7, h8, fun hm => ?_⟩
      rcases h9 with h9 | h9
      · simp [hm] at h9
      · by_cases hlt : q < p
        · rw [if_pos hlt] at h9; exact .inl ⟨hlt, h9⟩
        · rw [if_neg hlt] at h9; exact .inr ⟨by omega, h9⟩
def dsts (ops : Array Oper) (is : List Nat) : List Nat := is.filterMap fun i => (ops[i]?).bind (·.dst)
def clearL (L : List (Nat × Value)) (ds : List Nat) : List (Nat × Value) := L.filter fun p => !ds.any (Nat.beq p.1)
theorem lookup_clear {L : List (Nat × Value)} {ds : List Nat} {t : Nat} {v : Value} (h : (clearL L ds).lookup t = some v) : L.lookup t = some v ∧ t ∉ ds := by
  induction L with
  | nil => simp [clearL] at h
  | cons p L ih =>
    obtain ⟨u, x⟩ := p
    unfold clearL at h ih
    rw [List.filter_cons] at h
    by_cases e : t = u
    · subst e
      split at h
      · rename_i hu
        simp [List.lookup] at h ⊢
        refine ⟨h, fun hm => ?_⟩
        simp only [Bool.not_eq_true', List.any_eq_false] at hu
        exact hu t hm (by simp)
      · exfalso
        rename_i hu
        have := (ih h).2
        simp only [Bool.not_eq_true', Bool.not_eq_false, List.any_eq_true] at hu
        obtain ⟨d, hd, he⟩ := hu
        have : t = d := Nat.eq_of_beq_eq_true he
        subst this
        exact this hd
    · have hne : (t == u) = false := by simpa using e
      split at h
      · simp only [List.lookup, hne] at h ⊢
        exact ih h
      · simp only [List.lookup, hne]
        exact ih h
set_option maxHeartbeats 1000000 in
/-- what is left yields alone -/
theorem n_pure {E : Env} {ops : Array Oper} {Q : Post} {D : List Deferred} {C' C1 C : List Assn} {tb rem : List Nat} {L : List (Nat × Value)} {n : Nat} (ds : List Nat) (hc : chkP ops rem = true) (hds : dsts ops rem = ds) (hn : rem.length = n) (L0 : List (Nat × Value)) (hL : clearL L ds = L0) (htb : (rem.all fun i => !tb.contains i) = true)
    (hC : ∀ w, St E.S E.w0 C w → St E.S E.w0 C' w) (h : DJ E ops D C (fun L' => RJ E ops Q [] D L' C) (pickL ops rem) L0) : TN E ops D C' C1 (fun L C => KJ E (Q .normal) D L C) tb n rem L C := by
  have hc := ChkP.of hc
  obtain ⟨vs, hvl, hF, hall⟩ := DJ.out _ _ h
  have hpl := pickL_length hc.lt
  have hg : ∀ (p i : Nat) (o : Oper), rem[p]? = some i → ops[i]? = some o → (pickL ops rem)[p]? = some o := fun p i o hp ho => by rw [pickL_get hc.lt, hp]; exact ho
  have hfg : ∀ (p : Nat) (o : Oper), (pickL ops rem)[p]? = some o → ∃ i, rem[p]? = some i ∧ ops[i]? = some o := fun p o h => by
    rw [pickL_get hc.lt] at h
    cases hp : rem[p]? with
    | none => simp [hp] at h
    | some i => exact ⟨i, rfl, by simpa [hp] using h⟩
  have hdlt : ∀ (j : Nat) (o : Oper) (d : Nat), (pickL ops rem)[j]? = some o → o.dst = some d → d < E.n := fun j o d ho hd => by
    obtain ⟨d', v, h1, h2, _⟩ := hall j o ho
    rw [h1] at hd; cases hd; exact h2
  have hclear : ∀ (t : Nat) (v : Value), L0.lookup t = some v → L.lookup t = some v ∧ ∀ (p i : Nat) (o : Oper), rem[p]? = some i → ops[i]? = some o → o.dst ≠ some t := fun t v hv => by
    rw [← hL] at hv
    refine ⟨(lookup_clear hv).1, fun p i o hp ho hd => (lookup_clear hv).2 ?_⟩
    rw [← hds]
    exact List.mem_filterMap.2 ⟨i, List.mem_of_getElem? hp, by simp [ho, hd]⟩
  have hnd : rem.Nodup := by
    rw [List.nodup_iff_pairwise_ne, List.pairwise_iff_getElem]
    intro q p hq hp hlt
    obtain ⟨o, ho⟩ : ∃ o, ops[rem[p]]? = some o := ⟨_, Array.getElem?_eq_getElem (hc.lt _ (List.getElem_mem hp))⟩
    obtain ⟨r, hr⟩ : ∃ r, ops[rem[q]]? = some r := ⟨_, Array.getElem?_eq_getElem (hc.lt _ (List.getElem_mem hq))⟩
    obtain ⟨d, v, h1, _⟩ := hall q r (hg q _ r (List.getElem?_eq_getElem hq) hr)
    exact (fun e => (hc.apart p q _ _ o r d (List.getElem?_eq_getElem hp) (List.getElem?_eq_getElem hq) (by omega) ho hr h1).1 e.symm)
  -- the frame that a state of the order has
  have key : ∀ (n : Nat) (rem' : List Nat) (L' : List (Nat × Value)), rem'.length = n → rem'.Nodup → (∀ i ∈ rem', i ∈ rem) → (∀ i j, i ∈ rem' → j ∈ rem → j ∉ rem' → ancB (msk ops) i j = false) →
      (∀ t, (∀ (p i : Nat) (o : Oper), rem[p]? = some i → ops[i]? = some o → o.dst ≠ some t) → L'.lookup t = L.lookup t) →
      (∀ (p i : Nat) (o : Oper) (d : Nat), rem[p]? = some i → ops[i]? = some o → o.dst = some d → i ∉ rem' → L'.lookup d = vs[p]?) →
      TN E ops D C' C1 (fun L C => KJ E (Q .normal) D L C) tb n rem' L' C := by
    intro n
    induction n with
    | zero =>
      intro rem' L' hl _ hsub _ hold hdone
      have hnil : rem' = [] := List.length_eq_zero_iff.1 hl
      subst hnil
      intro a w hf hs
      have hfL : Fr E.n D L0 a := ⟨hf.defers, hf.size, fun t v hv => hf.at_ t v (by rw [hold t (hclear t v hv).2]; exact (hclear t v hv).1)⟩
      have hfull := actAt_fr (pickL ops rem) vs (pickL ops rem).length L0 a hdlt hfL
      refine hF a w ⟨hf.defers, hf.size, fun t v hv => ?_⟩ hs
      have h1 := hfull.at_ t v hv
      rw [← h1]
      by_cases ht : ∀ (p i : Nat) (o : Oper), rem[p]? = some i → ops[i]? = some o → o.dst ≠ some t
      · exact (actAt_other _ vs _ a t (fun m u _ hu hud => by obtain ⟨x, hx1, hx2⟩ := hfg m u hu; exact ht m x u hx1 hx2 hud)).symm
      · have : ∃ (p i : Nat) (o : Oper), rem[p]? = some i ∧ ops[i]? = some o ∧ o.dst = some t := by
          refine Classical.byContradiction fun hh => ht fun p i o hp ho hd => hh ⟨p, i, o, hp, ho, hd⟩
        obtain ⟨p, i, o, hp, ho, hd⟩ := this
        obtain ⟨d', v', e1, e2, e3, _⟩ := hall p o (hg p i o hp ho)
        rw [hd] at e1; cases e1
        rw [hf.at_ t v' (by rw [hdone p i o t hp ho hd (by simp), e3])]
        refine (actAt_at _ vs _ a p o t v' (by rw [hpl]; exact (List.getElem?_eq_some_iff.1 hp).1) (hg p i o hp ho) hd (by rw [hf.size]; exact e2) e3 (fun m u hm hne hu => ?_)).symm
        obtain ⟨x, hx1, hx2⟩ := hfg m u hu
        exact (hc.apart m p x i u o t hx1 hp (Ne.symm hne) hx2 ho hd).2.1
    | succ n ih =>
      intro rem' L' hl hnd' hsub hcl hold hdone i hi o ho K hK a w hf hs
      rw [List.mem_filter, List.all_eq_true] at hi
      obtain ⟨hir, hmin⟩ := hi
      obtain ⟨p, hp⟩ := List.mem_iff_getElem?.1 (hsub i hir)
      obtain ⟨d, v, hod, hdn, hvi, hsd⟩ := hall p o (hg p i o hp ho)
      obtain ⟨hsel, hdef⟩ := hc.plain p i o hp ho
      have hfL : Fr E.n D L0 a := ⟨hf.defers, hf.size, fun t v hv => hf.at_ t v (by rw [hold t (hclear t v hv).2]; exact (hclear t v hv).1)⟩
      have hfrp := actAt_fr (pickL ops rem) vs p L0 a hdlt hfL
      have hlook : ∀ t ∈ o.looksAt ops, a.tmps[t]? = (actAt (pickL ops rem) vs p a).tmps[t]? := by
        intro t htl
        by_cases hw : ∃ (q j : Nat) (r : Oper), rem[q]? = some j ∧ q ≠ p ∧ ops[j]? = some r ∧ r.dst = some t
        · obtain ⟨q, j, r, hq, hne, hr, hrd⟩ := hw
          obtain ⟨d', v', e1, e2, e3, _⟩ := hall q r (hg q j r hq hr)
          rw [hrd] at e1; cases e1
          have hap := hc.apart p q i j o r t hp hq hne ho hr hrd
          rcases hap.2.2 htl with ⟨hlt, ha⟩ | ⟨hlt, ha⟩
          · have hj : j ∉ rem' := fun hj => by have := hmin j hj; rw [ha] at this; cases this
            rw [hf.at_ t v' (by rw [hdone q j r t hq hr hrd hj, e3])]
            refine (actAt_at (pickL ops rem) vs p a q r t v' hlt (hg q j r hq hr) hrd (by rw [hf.size]; exact e2) e3 (fun m u hm hne' hu => ?_)).symm
            obtain ⟨x, hx1, hx2⟩ := hfg m u hu
            exact (hc.apart m q x j u r t hx1 hq (Ne.symm hne') hx2 hr hrd).2.1
          · refine (actAt_other (pickL ops rem) vs p a t (fun m u hm hu hud => ?_)).symm
            obtain ⟨x, hx1, hx2⟩ := hfg m u hu
            exact (hc.apart m q x j u r t hx1 hq (by omega) hx2 hr hrd).2.1 hud
        · refine (actAt_other (pickL ops rem) vs p a t (fun m u hm hu hud => ?_)).symm
          obtain ⟨x, hx1, hx2⟩ := hfg m u hu
          exact hw ⟨m, x, u, hx1, by omega, hx2, hud⟩
      have hset : rem'.filter (· != i) = rem'.erase i := (hnd'.erase_eq_filter i).symm
      have hnext : TN E ops D C' C1 (fun L C => KJ E (Q .normal) D L C) tb n (rem'.filter (· != i)) ((d, v) :: L') C := by
        refine ih _ _ (by rw [hset, List.length_erase_of_mem hir, hl]; rfl) (hnd'.filter _) (fun j hj => hsub j (List.mem_filter.1 hj).1) (fun x y hx hy hny => ?_) (fun t ht => ?_) (fun q j r d' hq hr hrd hj => ?_)
        · have hx' := (List.mem_filter.1 hx).1
          by_cases e : y = i
          · subst e
            have := hmin x hx'
            simpa using this
          · exact hcl x y hx' hy fun hh => hny (List.mem_filter.2 ⟨hh, by simpa using e⟩)
        · have hne : (t == d) = false := by simpa using fun e => ht p i o hp ho (by rw [hod, e])
          simp only [List.lookup, hne]
          exact hold t ht
        · by_cases e : q = p
          · subst e
            rw [hp] at hq; cases hq
            rw [ho] at hr; cases hr
            rw [hod] at hrd; cases hrd
            simp [List.lookup, hvi]
          · have h9 := hc.apart p q i j o r d' hp hq e ho hr hrd
            have hne : (d' == d) = false := by simpa using fun e => h9.2.1 (by rw [hod, e])
            simp only [List.lookup, hne]
            refine hdone q j r d' hq hr hrd fun hh => hj (List.mem_filter.2 ⟨hh, by simpa using fun e => h9.1 e.symm⟩)
      have htbi : tb.contains i = false := by
        have := (List.all_eq_true.1 htb) i (hsub i hir)
        simpa using this
      have hgo := fun w' (hk : Keeps no w w') => hK ((d, v) :: L') C hC (fun hh => by rw [htbi] at hh; cases hh) hnext (a.put (some d) v) w' (hf.put hdn v) (hs.same hk)
      have := sd_swapk hsd hod hdn hsel hdef hfrp hlook (w := w) hs (N := K) (Q := NQ K) hgo
      unfold wpL
      by_cases hw : Region.wanted o (yielded ops a.tmps) = true
      · rw [if_pos hw] at this ⊢
        refine wpIn_op_mono this (fun a' w' hh => hh) (fun _ _ _ hF => hF)
      · rw [if_neg hw] at this ⊢
        exact this.2
  refine key n rem L hn hnd (fun _ h => h) (fun i j _ h1 h2 => absurd h1 h2) (fun _ _ => rfl) (fun p i o d hp ho hd hni => absurd (List.mem_of_getElem? hp) hni)
end
section
open Go.RowKit
set_option linter.unusedVariables false
theorem St.imp {S : BS} {w0 w : World} {C : List Assn} {A B : Assn} (i : Nat) (h : St S w0 C w) (hC : C[i]? = some A) (hh : ∀ w, A.holds w → B.holds w) (hf : ∀ b, B.foot b → A.foot b) (hw : ∀ b, B.wf b → A.wf b) : St S w0 (C.set i B) w :=
  h.mv i hC ⟨hh w (h.holds A (List.mem_of_getElem? hC)), Keeps.refl _ _, fun b hb => .inl (hw b hb), fun b hb => .inl (hf b hb)⟩
theorem k_imp {E : Env} {K : Act → World → Prop} {D : List Deferred} {L : List (Nat × Value)} {C C' : List Assn} {A B : Assn} (i : Nat) (hC : C[i]? = some A) (hh : (∀ w, A.holds w → B.holds w) ∧ (∀ b, B.foot b → A.foot b) ∧ ∀ b, B.wf b → A.wf b) (hC' : C.set i B = C') (h : KJ E K D L C') : KJ E K D L C := fun a w hf hs =>
  h a w hf (hC' ▸ hs.imp i hC hh.1 hh.2.1 hh.2.2)
structure FnM (P : Program) (f : FuncId) (args : List Value) (Cp : List Assn) (A : Assn) {α : Type} (V : α → Value) (p : α → Prop) (A' : α → Assn) : Prop where
  go : isGo P f = true
  run : ∀ w, A.holds w → (∀ B ∈ Cp, B.holds w) → (∀ B ∈ Cp, Sep A B.ro) → Calls P f args.toArray w fun e w' => ∃ x, e = .returned (V x) ∧ p x ∧ Mv A (A' x) w w'
def EndM (w0 : World) (A : Assn) {α : Type} (V : α → Value) (p : α → Prop) (A' : α → Assn) (e : Ending) (w' : World) : Prop := ∃ x, e = .returned (V x) ∧ p x ∧ Mv A (A' x) w0 w'
theorem endM {w0 w : World} {A : Assn} {C : List Assn} {α : Type} {V : α → Value} {p : α → Prop} {A' : α → Assn} {v : Value} (x : α) (i : Nat) (hV : v = V x) (hp : p x) (hC : C[i]? = some (A' x)) (hw : (A' x).wr = true) (hs : St ⟨A.wf, fun _ => True⟩ w0 C w) : EndM w0 A V p A' (.returned v) w :=
  ⟨x, by rw [hV], hp, hs.holds _ (List.mem_of_getElem? hC), hs.keeps, fun b hb => (hs.own _ (List.mem_of_getElem? hC) b hb).symm, fun b hb => by
    rcases hs.own _ (List.mem_of_getElem? hC) b ((A' x).whole hw b hb) with h | h
    · exact .inr h
    · exact .inl (A.wfoot b h)⟩
theorem fnM_of {P : Program} {f : FuncId} {fn : Func} {c : Code} {args : List Value} {Cp : List Assn} {A : Assn} {α : Type} {V : α → Value} {p : α → Prop} {A' : α → Assn} (hgo : isGo P f = true) (hf : P.funcs[f]? = some fn) (hb : fn.body = some c) (hn : Nat.ble args.length fn.ntmps = true)
    (h : ∀ (w0 : World) (Q : Post), (∀ D L C, LJ ⟨P, none, fn.ntmps, ⟨A.wf, fun _ => True⟩, w0⟩ fn (EndM w0 A V p A') D L C → KJ ⟨P, none, fn.ntmps, ⟨A.wf, fun _ => True⟩, w0⟩ (Q .ret) D L C) →
      (∀ D L C, LJ ⟨P, none, fn.ntmps, ⟨A.wf, fun _ => True⟩, w0⟩ fn (EndM w0 A V p A') D L C → KJ ⟨P, none, fn.ntmps, ⟨A.wf, fun _ => True⟩, w0⟩ (Q .normal) D L C) →
      WJ ⟨P, none, fn.ntmps, ⟨A.wf, fun _ => True⟩, w0⟩ c Q [] (fr0 args) (A :: Cp.map Assn.ro)) : FnM P f args Cp A V p A' := by
  refine ⟨hgo, fun w hA hCp hsep => ?_⟩
  refine fn_of' hf hb hn (h w) ?_
  have h0 := ro_holds hCp
  refine ⟨Keeps.refl _ _, fun B hB => ?_, List.Pairwise.cons (fun B hB => ?_) h0.sep, fun B hB b hb => ?_, fun _ _ _ _ => .inr trivial⟩
  · rcases List.mem_cons.1 hB with rfl | hB
    · exact hA
    · exact h0.holds B hB
  · obtain ⟨B', hB', rfl⟩ := List.mem_map.1 hB
    exact hsep B' hB'
  · rcases List.mem_cons.1 hB with rfl | hB
    · exact .inr hb
    · obtain ⟨B', hB', rfl⟩ := List.mem_map.1 hB
      exact hb.elim
/-- each of Cp is read from something of C that is not its i-th -/
def CovAll (C : List Assn) (i : Nat) (Cp : List Assn) : Prop := ∀ B ∈ Cp, ∃ j X, j ≠ i ∧ C[j]? = some X ∧ Cov X B
theorem cv_nil {C : List Assn} {i : Nat} : CovAll C i [] := fun B hB => by cases hB
theorem cv_cons {C Cp : List Assn} {i : Nat} {B X : Assn} (j : Nat) (hj : Nat.beq j i = false) (hC : C[j]? = some X) (h : Cov X B) (t : CovAll C i Cp) : CovAll C i (B :: Cp) := fun B' hB => by
  rcases List.mem_cons.1 hB with rfl | hB
  · exact ⟨j, X, fun e => by subst e; simp at hj, hC, h⟩
  · exact t B' hB
section
variable {E : Env} {ops : Array Oper} {Q : Post} {rest : List Oper} {D : List Deferred} {L : List (Nat × Value)} {C : List Assn}
variable {dst : Option Tmp} {d : Nat} {ty : TypeId} {ps : String} {af : Array Edge} {g : Option (Nat × Bool)}
theorem r_callm {fop : Operand} {xs : Array Operand} {ts : Array TypeId} {f : FuncId} {fi ca : Array Value} {vs args : List Value} {Cp : List Assn} {A : Assn} {α : Type} {V : α → Value} {p : α → Prop} {A' : α → Assn} (i : Nat) (hg : gOn ops L g = true) (hf : ev L fop = some (.func (.func f) fi ca))
    (hx : evs L xs.toList = some vs) (ha : fi.toList ++ vs ++ ca.toList = args) (c : FnM E.P f args Cp A V p A') (hC : C[i]? = some A) (hCp : CovAll C i Cp) (hd : Nat.blt d E.n = true) (k : ∀ x, p x → RJ E ops Q rest D ((d, V x) :: L) (C.set i (A' x))) :
    RJ E ops Q (⟨some d, .call { callee := .value fop, args := xs, argTypes := ts }, ty, ps, af, g⟩ :: rest) D L C := by
  intro a w hfr hs
  have hd' : d < E.n := by rw [← Nat.blt_eq]; exact hd
  unfold wpL
  rw [if_pos (gOn_wanted hfr hg)]
  refine ⟨fun _ _ => trivial, ?_⟩
  rw [Oper.semAt_eq _ _ _ (by simp), run_call hfr c.go hf hx ha]
  have hCm := List.mem_of_getElem? hC
  refine ⟨fun h => by simp at h, (calls_in E.r (c.run w (hs.holds A hCm) (fun B hB => ?_) (fun B hB b hb hb' => ?_))).mono fun e w' he => ?_⟩
  · obtain ⟨j, X, _, hX, hc⟩ := hCp B hB
    exact hc.holds w (hs.holds X (List.mem_of_getElem? hX))
  · obtain ⟨j, X, hne, hX, hc⟩ := hCp B hB
    have hXb := hc.foot b hb'
    have hj := (List.getElem?_eq_some_iff.1 hX).1
    have hi := (List.getElem?_eq_some_iff.1 hC).1
    have e1 := (List.getElem?_eq_some_iff.1 hX).2
    have e2 := (List.getElem?_eq_some_iff.1 hC).2
    refine ⟨?_, fun h => h⟩
    rcases Nat.lt_or_gt_of_ne hne with hlt | hlt
    · have := List.pairwise_iff_getElem.1 hs.sep j i hj hi hlt
      rw [e1, e2] at this
      exact (this b hXb hb).2
    · have := List.pairwise_iff_getElem.1 hs.sep i j hi hj hlt
      rw [e1, e2] at this
      exact (this b hb hXb).1
  · obtain ⟨x, rfl, hp, hm⟩ := he
    exact k x hp _ _ (hfr.put hd' _) (hs.mv i hC hm)
theorem flat_put {sz o l : Nat} {vs el : List Value} (hl : vs.length = l) (ho : o + l ≤ sz) : ∀ (es : List (List Value)) (k : Nat), (∀ x ∈ es, x.length = sz) → es[k]? = some el →
    es.flatten.take (k * sz + o) ++ vs ++ es.flatten.drop (k * sz + o + l) = (es.set k (el.take o ++ vs ++ el.drop (o + l))).flatten
  | [], k, _, h => by simp at h
  | x :: es, 0, hx, h => by
    simp at h; subst h
    have h1 : x.length = sz := hx x (by simp)
    simp only [List.flatten_cons, List.set_cons_zero, Nat.zero_mul, Nat.zero_add]
    rw [List.take_append_of_le_length (by omega), List.drop_append_of_le_length (by omega)]
    simp [List.append_assoc]
  | x :: es, k + 1, hx, h => by
    have h1 : x.length = sz := hx x (by simp)
    have ih := flat_put hl ho es k (fun y hy => hx y (by simp [hy])) (by simpa using h)
    simp only [List.flatten_cons, List.set_cons_succ]
    rw [← ih]
    have e1 : (k + 1) * sz + o = x.length + (k * sz + o) := by rw [h1, Nat.succ_mul]; omega
    have e2 : (k + 1) * sz + o + l = x.length + (k * sz + o + l) := by rw [h1, Nat.succ_mul]; omega
    rw [e1, List.take_length_add_append, show x.length + (k * sz + o) + l = x.length + (k * sz + o + l) by omega, List.drop_length_add_append]
    simp [List.append_assoc]
theorem r_store_own {t n c e sz k o m : Nat} {a : Option Addr} {x y : Operand} {v : Value} {vs el : List Value} {es es' : List (List Value)} {C' : List Assn} (i : Nat) (hg : gOn ops L g = true) (hx : ev L x = some (.pointer (padd a m))) (hy : ev L y = some v) (ht : (tK E.P t).map (·.2) = some n)
    (hv : v.cells.toList = vs) (hn : vs.length = n) (h1 : vs.all Value.oneCell' = true) (hC : C[i]? = some (own a c e sz es)) (hk : es[k]? = some el) (hm : m = k * sz + o) (ho : o + n ≤ sz) (hes : es.set k (el.take o ++ vs ++ el.drop (o + n)) = es') (hC' : C.set i (own a c e sz es') = C') (kk : RJ E ops Q rest D L C') :
    RJ E ops Q (⟨none, .store t x y, ty, ps, af, g⟩ :: rest) D L C := by
  subst hm hes hC'
  intro act w hfr hs
  unfold wpL
  rw [if_pos (gOn_wanted hfr hg)]
  obtain ⟨hl, hlen, hrow⟩ := hs.holds _ (List.mem_of_getElem? hC)
  have hke := (List.getElem?_eq_some_iff.1 hk).1
  rcases hrow with ⟨h2, h0⟩ | ⟨gg, cap, cur, hv2, hbase, h3, h4, h5, h6, h7⟩
  · omega
  · injection hv2 with hv2 hv3 hv4
    subst hv2 hv4
    have hfl := flatten_length_of hl
    have hks : k * sz + sz ≤ es.length * sz := by rw [← Nat.succ_mul]; exact Nat.mul_le_mul_right _ hke
    have hcl : es.length * sz ≤ cur.toList.length := by simp only [Array.length_toList, h6]; exact Nat.mul_le_mul_right _ h4
    have hol : k * sz + o + n ≤ cur.toList.length := by omega
    obtain ⟨w', hr, hb', hkk⟩ := run_storeCells (P := E.P) (t := e) vs cur.toList (k * sz + o) 0 w (fun v hv => List.all_eq_true.1 h1 v hv) (by rw [hn]; exact hol) (by rw [h3])
    have hsize : (sizeOf t).run E.P w = .ok n w := by
      obtain ⟨bn, hbn, rfl⟩ := Option.map_eq_some_iff.1 ht
      obtain ⟨bb, nn⟩ := bn
      cases bb
      · exact (tK_one hbn w).2
      · exact (tK_agg hbn w).2
    have hvs : v.cells.size = n := by rw [← hn, ← hv]; simp
    have hpa : padd (some (⟨gg, 0, none⟩ : Addr)) (k * sz + o) = some ⟨gg, k * sz + o, none⟩ := by
      simp only [padd, Option.map_some, add_plain, Nat.zero_add]
    refine wp_skip (by simp) (w' := w') ?_ ?_
    · simp [execOp, hfr.ev hx, hfr.ev hy, hpa, Instr.storeAt, Instr.sureAddr, storeVar, hsize, hvs, hv, hr]
    · refine kk _ _ ⟨hfr.defers, hfr.size, hfr.at_⟩ ?_
      have hel : el.length = sz := hl el (List.mem_of_getElem? hk)
      have hnew : ∀ y ∈ es.set k (el.take o ++ vs ++ el.drop (o + n)), y.length = sz := by
        intro y hy'
        rcases List.mem_or_eq_of_mem_set hy' with h | rfl
        · exact hl y h
        · simp; omega
      have hcap : cur.toList.length = c * sz := by simpa using h6
      refine hs.upd (b := gg) i hC ⟨_, rfl, rfl⟩ rfl hkk (fun y ⟨ad, hy1, hy2⟩ => by cases hy1; exact hy2) ⟨hnew, ?_⟩
      rw [List.length_set]
      refine ⟨by rw [flatten_length_of hnew, List.length_set], .inr ⟨gg, c, _, rfl, Nat.zero_le _, hb', h4, h5, ?_, ?_⟩⟩
      · simp only [List.size_toArray, List.length_append, List.length_take, List.length_drop, Nat.add_zero]
        omega
      · rw [Nat.add_zero, hn]
        have e0 := flat_put hn ho es k hl hk
        rw [← e0, ← h7]
        have q1 : k * sz + o ≤ es.length * sz := by omega
        show ((cur.toList.take (k * sz + o) ++ vs) ++ cur.toList.drop (k * sz + o + n)).take (es.length * sz) = _
        have hA : (cur.toList.take (k * sz + o) ++ vs).length = k * sz + o + n := by simp only [List.length_append, List.length_take]; omega
        rw [List.take_append, List.take_of_length_le (by omega), hA, List.take_take, Nat.min_eq_left q1, List.drop_take]
end
end
section
open Go.RowKit
set_option linter.unusedVariables false
/-- an iterator over a map: what is left; what came last -/
def mi (r b : Nat) (m left : List (Int × Value)) (cur : Option (Int × Value)) : Assn where
  foot k := k = r ∨ k = b
  wf k := k = r ∨ k = b
  holds w := r ≠ b ∧ ∃ (es : Array MapEntry) (c since : Nat) (seen : Array Nat) (st : Nat), w.heap[b]? = some (.map es c) ∧ MapIs es c m ∧ w.heap[r]? = some (.mapIter (some b) since seen st) ∧ (∀ e ∈ es.toList, e.born < since) ∧ since ≤ st ∧ since ≤ c ∧
    (leftOf es seen).toList.map (fun e => (e.key, e.val)) = left.map (fun p => (Value.int .i64 p.1, p.2)) ∧
    ∀ p, cur = some p → ∃ (e : MapEntry) (seen0 : Array Nat), e ∈ es.toList ∧ seen = seen0.push e.born ∧ st = c ∧ e.key = .int .i64 p.1 ∧ e.val = p.2
  wr := true
  wfoot _ h := h
  whole _ _ h := h
  lt w h k hk := by
    obtain ⟨_, es, c, since, seen, st, h1, _, h2, _⟩ := h
    rcases hk with rfl | rfl
    · exact lt_of_heap h2
    · exact lt_of_heap h1
  keep w w' hk h := by
    obtain ⟨hne, es, c, since, seen, st, h1, h2, h3, h4⟩ := h
    exact ⟨hne, es, c, since, seen, st, (hk b (.inr rfl)).trans h1, h2, (hk r (.inl rfl)).trans h3, h4⟩
theorem born_inj {l : List MapEntry} (h : (l.map (·.born)).Nodup) {x y : MapEntry} (hx : x ∈ l) (hy : y ∈ l) (e : x.born = y.born) : x = y := by
  obtain ⟨i, hi⟩ := List.getElem?_of_mem hx
  obtain ⟨j, hj⟩ := List.getElem?_of_mem hy
  have h1 : (l.map (·.born))[i]? = some x.born := by rw [List.getElem?_map, hi]; rfl
  have h2 : (l.map (·.born))[j]? = some x.born := by rw [List.getElem?_map, hj, e]; rfl
  have h3 := (List.getElem?_inj (List.getElem?_eq_some_iff.1 h1).1 h).1 (h1.trans h2.symm)
  subst h3
  exact Option.some.inj (hi.symm.trans hj)
section
variable {E : Env} {ops : Array Oper} {Q : Post} {rest : List Oper} {D : List Deferred} {L : List (Nat × Value)} {C : List Assn}
variable {dst : Option Tmp} {d : Nat} {ty : TypeId} {ps : String} {af : Array Edge} {g : Option (Nat × Bool)}
theorem made_flat {z : Array Value} {n sz : Nat} (hz : z.size = sz) : (madeCells z (n * sz)).toList = (List.replicate n z.toList).flatten := by
  subst hz
  induction n with
  | zero => simp [madeCells]
  | succ n ih =>
    rw [List.replicate_succ', List.flatten_append, ← ih]
    simp only [List.flatten_cons, List.flatten_nil, List.append_nil]
    refine List.ext_getElem? fun i => ?_
    have hl : (madeCells z (n * z.size)).toList.length = n * z.size := by simp [madeCells]
    by_cases h1 : i < n * z.size
    · rw [List.getElem?_append_left (by omega)]
      have h2 : i < (n + 1) * z.size := by rw [Nat.succ_mul]; omega
      simp [madeCells, h1, h2]
    · rw [List.getElem?_append_right (by omega), hl]
      by_cases h2 : i < (n + 1) * z.size
      · have h3 : i - n * z.size < z.size := by rw [Nat.succ_mul] at h2; omega
        have e : i = (i - n * z.size) + n * z.size := by omega
        have h4 : i % z.size = i - n * z.size := ((congrArg (· % z.size) e).trans (Nat.add_mul_mod_self_right _ _ _)).trans (Nat.mod_eq_of_lt h3)
        simp [madeCells, h2, h4, h3]
      · have h3 : z.toList.length ≤ i - n * z.size := by rw [Nat.succ_mul] at h2; simp; omega
        rw [List.getElem?_eq_none h3]
        simp [madeCells]; omega
theorem r_mks {t e sz by_ n : Nat} {z : Value} {xl xc : Operand} {j : Int} {es : List (List Value)} (hg : gOn ops L g = true) (hl : ev L xl = some (.int .i64 j)) (hc : ev L xc = some (.int .i64 j)) (ht : tA E.P t = some (e, sz, by_, z)) (hj : j = (n : Int)) (hb : by_ * n ≤ 281474976710656) (hm : n ≤ maxLen)
    (hes : List.replicate n z.cells.toList = es) (hd : Nat.blt d E.n = true) (k : ∀ b, RJ E ops Q rest D ((d, .slice (some ⟨b, 0, none⟩) n n) :: L) (own (some ⟨b, 0, none⟩) n e sz es :: C)) :
    RJ E ops Q (⟨some d, .makeSlice t xl xc, ty, ps, af, g⟩ :: rest) D L C := by
  subst hj hes
  intro a w hfr hs
  have hd' : d < E.n := by rw [← Nat.blt_eq]; exact hd
  unfold wpL
  rw [if_pos (gOn_wanted hfr hg)]
  obtain ⟨inf, hu, hi, hz, h3, h4, h5⟩ := tA_out ht
  subst h4
  obtain ⟨w', hr, hown, hk⟩ := run_make_full (P := E.P) w 0 t e inf z sz hu hi hz h3 .i64 .i64 n hb hm (Nat.zero_le _)
  refine wp_value (v := .slice (some ⟨w.heap.size, 0, none⟩) n n) (w' := w') (by simp) ?_ ?_
  · simp [execOp, hfr.ev hl, hfr.ev hc, hr]
  · refine k _ _ _ (hfr.put hd' _) (hs.grow (N := [own (some ⟨w.heap.size, 0, none⟩) n e sz (List.replicate n z.cells.toList)]) ⟨hk.os, hk.tape, hk.output, hk.size, fun q hq _ => hk.block q hq (by simp)⟩ ⟨fun A hA => ?_, fun A hA b hb => ?_, List.pairwise_singleton _ _⟩)
    · simp at hA; subst hA
      refine ⟨fun x hx => by rw [List.eq_of_mem_replicate hx]; simpa using h5, ?_⟩
      rw [made_flat h5] at hown
      simpa using hown
    · simp at hA; subst hA
      obtain ⟨ad, h1, h2⟩ := hb
      cases h1; exact Nat.le_of_eq h2.symm
end
end
section
open Go.RowKit
set_option linter.unusedVariables false
theorem wrap_i64_u64 {n : Int} (h : 0 ≤ n ∧ n ≤ 18446744073709551615) : IntKind.u64.wrap n = n := by
  have e : IntKind.u64.wrap n = n % 18446744073709551616 := by simp [IntKind.wrap, IntKind.bits, IntKind.signed]
  rw [e]; omega
theorem wrap_u64_u8 {n : Int} (h : 0 ≤ n ∧ n ≤ 255) : IntKind.u8.wrap n = n := by
  have e : IntKind.u8.wrap n = n % 256 := by simp [IntKind.wrap, IntKind.bits, IntKind.signed]
  rw [e]; omega
section
variable {E : Env} {ops : Array Oper} {Q : Post} {rest : List Oper} {D : List Deferred} {L : List (Nat × Value)} {C : List Assn}
variable {d : Nat} {ty : TypeId} {ps : String} {af : Array Edge} {g : Option (Nat × Bool)}
/-- a byte of a string -/
theorem r_sidx {t : TypeId} {x ix : Operand} {s : ByteArray} {q : IntKind} {j : Int} {k : Nat} (hg : gOn ops L g = true) (hx : ev L x = some (.string s)) (hi : ev L ix = some (.int q j)) (ht : E.P.underlying t = some .string) (hj : j = (k : Int)) (hk : k < s.size) (hd : Nat.blt d E.n = true)
    (kk : ∀ b : Int, 0 ≤ b ∧ b ≤ 255 → RJ E ops Q rest D ((d, .int .u8 b) :: L) C) : RJ E ops Q (⟨some d, .index t x ix, ty, ps, af, g⟩ :: rest) D L C := by
  subst hj
  intro a w hfr hs
  have hd' : d < E.n := by rw [← Nat.blt_eq]; exact hd
  unfold wpL
  rw [if_pos (gOn_wanted hfr hg)]
  have hb : s[k]? = some s[k] := getElem?_pos s k hk
  refine wp_value (v := .int .u8 (s[k].toNat : Int)) (w' := w) (by simp) ?_ ?_
  · simp [execOp, hfr.ev hx, hfr.ev hi, Instr.index, asIntOf, run_underlying ht, hb]
  · refine kk _ ⟨by omega, ?_⟩ _ _ (hfr.put hd' _) hs
    have := s[k].toNat_lt
    omega
end
def Srt (m : List Int) (i : Nat) : Prop := ∀ p r, p < r → r < i → r < m.length → m.getD p 0 ≤ m.getD r 0
/-- sorted up to i, but for the one at j, which is not above those behind it -/
def Ins (m : List Int) (i j : Nat) : Prop := (∀ p r, p < r → r ≤ i → p ≠ j → r ≠ j → m.getD p 0 ≤ m.getD r 0) ∧ ∀ r, j < r → r ≤ i → m.getD j 0 ≤ m.getD r 0
theorem ins_start {m : List Int} {i : Nat} (h : Srt m i) (hi : i < m.length) : Ins m i i := ⟨fun p r hpr hri hp hr => h p r hpr (by omega) (by omega), fun r h1 h2 => by omega⟩
theorem getD_at {m : List Int} {j : Nat} {x : Int} (h : m[j]? = some x) : m.getD j 0 = x := by simp [List.getD, h]
theorem getD_swap {m : List Int} {j : Nat} {x y : Int} (hx : m[j]? = some x) (hy : m[j - 1]? = some y) (hj : 0 < j) (p : Nat) :
    ((m.set j y).set (j - 1) x).getD p 0 = if p = j - 1 then x else if p = j then y else m.getD p 0 := by
  have h1 := (List.getElem?_eq_some_iff.1 hx).1
  have h2 := (List.getElem?_eq_some_iff.1 hy).1
  simp only [List.getD, List.getElem?_set, List.length_set]
  by_cases e1 : j - 1 = p
  · subst e1; simp [h2]
  · have e1' : ¬ p = j - 1 := fun e => e1 e.symm
    rw [if_neg e1, if_neg e1']
    by_cases e2 : j = p
    · subst e2; simp [h1]
    · have e2' : ¬ p = j := fun e => e2 e.symm
      rw [if_neg e2, if_neg e2']
theorem ins_step {m : List Int} {i j : Nat} {x y : Int} (hx : m[j]? = some x) (hy : m[j - 1]? = some y) (hj : 0 < j) (hji : j ≤ i) (h : x < y) (hI : Ins m i j) : Ins ((m.set j y).set (j - 1) x) i (j - 1) := by
  have gx := getD_at hx
  have gy := getD_at hy
  refine ⟨fun p r hpr hri hp hr => ?_, fun r h1 h2 => ?_⟩
  · rw [getD_swap hx hy hj, getD_swap hx hy hj, if_neg hp, if_neg hr]
    by_cases e1 : p = j
    · rw [if_pos e1, if_neg (by omega), ← gy]
      exact hI.1 (j - 1) r (by omega) hri (by omega) (by omega)
    · rw [if_neg e1]
      by_cases e2 : r = j
      · rw [if_pos e2, ← gy]; exact hI.1 p (j - 1) (by omega) (by omega) e1 (by omega)
      · rw [if_neg e2]; exact hI.1 p r hpr hri e1 e2
  · rw [getD_swap hx hy hj, getD_swap hx hy hj, if_pos rfl, if_neg (by omega)]
    by_cases e : r = j
    · rw [if_pos e]; omega
    · rw [if_neg e, ← gx]; exact hI.2 r (by omega) h2
theorem ins_zero {m : List Int} {i j : Nat} (hj : ¬ 0 < j) (hI : Ins m i j) : Srt m (i + 1) := fun p r hpr hri _ => by
  by_cases e1 : p = j
  · subst e1; exact hI.2 r hpr (by omega)
  · exact hI.1 p r hpr (by omega) e1 (by omega)
theorem ins_stop {m : List Int} {i j : Nat} {x y : Int} (hx : m[j]? = some x) (hy : m[j - 1]? = some y) (hj : 0 < j) (hji : j ≤ i) (h : ¬ x < y) (hI : Ins m i j) : Srt m (i + 1) := fun p r hpr hri hl => by
  have gx := getD_at hx
  have gy := getD_at hy
  by_cases e1 : p = j
  · subst e1; exact hI.2 r hpr (by omega)
  · by_cases e2 : r = j
    · subst e2
      rw [gx]
      by_cases e3 : p = r - 1
      · subst e3; rw [gy]; omega
      · have := hI.1 p (r - 1) (by omega) (by omega) e1 (by omega)
        rw [gy] at this; omega
    · exact hI.1 p r hpr (by omega) e1 e2
theorem swap_perm {m : List Int} {j : Nat} {x y : Int} (hx : m[j]? = some x) (hy : m[j - 1]? = some y) : ((m.set j y).set (j - 1) x).Perm m := by
  obtain ⟨h1, rfl⟩ := List.getElem?_eq_some_iff.1 hx
  obtain ⟨h2, rfl⟩ := List.getElem?_eq_some_iff.1 hy
  exact List.set_set_perm h1 h2
theorem srt_one {m : List Int} : Srt m 1 := fun p r h1 h2 => by omega
theorem srt_all {m : List Int} {i : Nat} (h : Srt m i) (hi : m.length ≤ i) : m.Pairwise (· ≤ ·) := by
  rw [List.pairwise_iff_getElem]
  intro p r hp hr hpr
  have := h p r hpr (by omega) hr
  simpa [List.getD, hp, hr] using this
theorem sorted_unique {a b : List Int} (h : a.Perm b) (ha : a.Pairwise (· ≤ ·)) (hb : b.Pairwise (· ≤ ·)) : a = b :=
  List.Perm.eq_of_pairwise (fun a b _ _ h1 h2 => Int.le_antisymm h1 h2) ha hb h
end
section
set_option linter.unusedVariables false
section
variable {E : Env} {ops : Array Oper} {D : List Deferred} {L : List (Nat × Value)} {C : List Assn} {dst : Option Tmp} {ty : TypeId} {ps : String} {af : Array Edge} {g : Option (Nat × Bool)}
theorem sd_nil_p {x : Operand} {ad : Addr} (hg : gOn ops L g = true) (hx : ev L x = some (.pointer (some ad))) :
    SD E ops ⟨dst, .nilCheck x, ty, ps, af, g⟩ D L C (.pointer (some ad)) :=
  sd_pure hg (by simp) fun a w hfr hs => by simp [execOp, hfr.ev hx]
end
end
section
open Go.RowKit
set_option linter.unusedVariables false
/-- an operation that hands v to its slot d -/
structure SE (E : Env) (ops : Array Oper) (o : Oper) (D : List Deferred) (L : List (Nat × Value)) (C : List Assn) (v : Value) (d : Nat) : Prop where
  h : SD E ops o D L C v
  o : o.dst = some d
  n : Nat.blt d E.n = true
theorem rS {E : Env} {ops : Array Oper} {Q : Post} {o : Oper} {rest : List Oper} {D : List Deferred} {L : List (Nat × Value)} {C : List Assn} {v : Value} {d : Nat}
    (h : SE E ops o D L C v d) (k : RJ E ops Q rest D ((d, v) :: L) C) : RJ E ops Q (o :: rest) D L C := r_sd h.h h.o h.n k
theorem dS {E : Env} {ops : Array Oper} {F : List (Nat × Value) → Prop} {o : Oper} {rest : List Oper} {D : List Deferred} {L : List (Nat × Value)} {C : List Assn} {v : Value} {d : Nat}
    (h : SE E ops o D L C v d) (k : DJ E ops D C F rest ((d, v) :: L)) : DJ E ops D C F (o :: rest) L := d_sd h.h h.o h.n k
theorem eS {E : Env} {ops : Array Oper} {D : List Deferred} {C' C1 : List Assn} {F : List (Nat × Value) → Prop} {bs : List Bool} {o : Oper} {l rest : List Oper} {L : List (Nat × Value)} {v : Value} {d : Nat}
    (hl : l = o :: rest) (h : SE E ops o D L C' v d) (k : DJ4 E ops D C' C1 F bs rest ((d, v) :: L)) : DJ4 E ops D C' C1 F (false :: bs) l L := d4_sd h.h hl h.o h.n k
theorem fS {E : Env} {ops : Array Oper} {D : List Deferred} {C' C1 : List Assn} {F : List (Nat × Value) → Prop} {bs : List Bool} {o : Oper} {l rest : List Oper} {L : List (Nat × Value)} {v : Value} {d : Nat}
    (hl : l = o :: rest) (h : SE E ops o D L C1 v d) (k : DJ4 E ops D C' C1 F bs rest ((d, v) :: L)) : DJ4 E ops D C' C1 F (true :: bs) l L := d5_sd h.h hl h.o h.n k
def gB (n : Nat) (ops : Array Oper) (L : List (Nat × Value)) (d : Nat) (g : Option (Nat × Bool)) : Bool := gOn ops L g && Nat.blt d n
theorem gB1 {n : Nat} {ops : Array Oper} {L : List (Nat × Value)} {d : Nat} {g : Option (Nat × Bool)} (h : gB n ops L d g = true) : gOn ops L g = true := by
  unfold gB at h; rw [Bool.and_eq_true] at h; exact h.1
theorem gB2 {n : Nat} {ops : Array Oper} {L : List (Nat × Value)} {d : Nat} {g : Option (Nat × Bool)} (h : gB n ops L d g = true) : Nat.blt d n = true := by
  unfold gB at h; rw [Bool.and_eq_true] at h; exact h.2
def vF (n : Nat) (ops : Array Oper) (L : List (Nat × Value)) (d : Nat) (g : Option (Nat × Bool)) (x : Operand) : Option Value := match gB n ops L d g with
  | true => ev L x
  | false => none
def bF (n : Nat) (ops : Array Oper) (L : List (Nat × Value)) (d : Nat) (g : Option (Nat × Bool)) (x y : Operand) : Option (Value × Value) := match gB n ops L d g with
  | true => match ev L x, ev L y with
    | some u, some v => some (u, v)
    | _, _ => none
  | false => none
def pF (n : Nat) (ops : Array Oper) (L : List (Nat × Value)) (d : Nat) (g : Option (Nat × Bool)) (c x y : Operand) : Option Value := match gB n ops L d g with
  | true => match ev L c with
    | some (.bool true) => ev L x
    | some (.bool false) => ev L y
    | _ => none
  | false => none
def xF (n : Nat) (ops : Array Oper) (L : List (Nat × Value)) (d : Nat) (g : Option (Nat × Bool)) (x : Operand) (i : Nat) : Option Value := match vF n ops L d g x with
  | some (.tuple vs) => vs.toList[i]?
  | _ => none
def uF (n : Nat) (ops : Array Oper) (L : List (Nat × Value)) (d : Nat) (g : Option (Nat × Bool)) (xs ys : List Operand) : Option (List Value × List Value) := match gB n ops L d g with
  | true => match evs L xs, evs L ys with
    | some u, some v => some (u, v)
    | _, _ => none
  | false => none
def cF (n : Nat) (ops : Array Oper) (L : List (Nat × Value)) (d : Nat) (g : Option (Nat × Bool)) (fop : Operand) (xs : List Operand) : Option (FuncId × List Value) := match gB n ops L d g with
  | true => match ev L fop, evs L xs with
    | some (.func (.func f) fi ca), some vs => some (f, fi.toList ++ vs ++ ca.toList)
    | _, _ => none
  | false => none
theorem vF_out {n : Nat} {ops : Array Oper} {L : List (Nat × Value)} {d : Nat} {g : Option (Nat × Bool)} {x : Operand} {v : Value} (h : vF n ops L d g x = some v) : gOn ops L g = true ∧ Nat.blt d n = true ∧ ev L x = some v := by
  unfold vF at h
  split at h
  · rename_i hb; exact ⟨gB1 hb, gB2 hb, h⟩
  · cases h
theorem bF_out {n : Nat} {ops : Array Oper} {L : List (Nat × Value)} {d : Nat} {g : Option (Nat × Bool)} {x y : Operand} {u v : Value} (h : bF n ops L d g x y = some (u, v)) : gOn ops L g = true ∧ Nat.blt d n = true ∧ ev L x = some u ∧ ev L y = some v := by
  unfold bF at h
  split at h
  · rename_i hb
    split at h
    · rename_i hx hy; cases h; exact ⟨gB1 hb, gB2 hb, hx, hy⟩
    · cases h
  · cases h
theorem uF_out {n : Nat} {ops : Array Oper} {L : List (Nat × Value)} {d : Nat} {g : Option (Nat × Bool)} {x y : List Operand} {u v : List Value} (h : uF n ops L d g x y = some (u, v)) : gOn ops L g = true ∧ Nat.blt d n = true ∧ evs L x = some u ∧ evs L y = some v := by
  unfold uF at h
  split at h
  · rename_i hb
    split at h
    · rename_i hx hy; cases h; exact ⟨gB1 hb, gB2 hb, hx, hy⟩
    · cases h
  · cases h
section
variable {E : Env} {ops : Array Oper} {Q : Post} {rest : List Oper} {D : List Deferred} {L : List (Nat × Value)} {C : List Assn}
variable {d : Nat} {ty : TypeId} {ps : String} {af : Array Edge} {g : Option (Nat × Bool)}
theorem SX {o : Oper} {v : Value} (h : SD E ops o D L C v) (ho : o.dst = some d) (hd : Nat.blt d E.n = true) : SE E ops o D L C v d := ⟨h, ho, hd⟩
theorem MV {x : Operand} {v : Value} (h : vF E.n ops L d g x = some v) : SE E ops ⟨some d, .move x, ty, ps, af, g⟩ D L C v d := by
  obtain ⟨h1, h2, h3⟩ := vF_out h; exact ⟨sd_move h1 h3, rfl, h2⟩
theorem AG {x : Operand} {v : Value} (h : vF E.n ops L d g x = some v) : SE E ops ⟨some d, .assign x, ty, ps, af, g⟩ D L C v d := by
  obtain ⟨h1, h2, h3⟩ := vF_out h; exact ⟨sd_assign h1 h3, rfl, h2⟩
theorem OX {op : Op} (h : (gOff ops L g && Nat.blt d E.n) = true) : SE E ops ⟨some d, op, ty, ps, af, g⟩ D L C undef d := by
  rw [Bool.and_eq_true] at h; exact ⟨sd_off h.1, rfl, h.2⟩
theorem NT {xt : TypeId} {x : Operand} {b : Bool} (h : vF E.n ops L d g x = some (.bool b)) : SE E ops ⟨some d, .unOp .not xt x, ty, ps, af, g⟩ D L C (.bool !b) d := by
  obtain ⟨h1, h2, h3⟩ := vF_out h; exact ⟨sd_not h1 h3, rfl, h2⟩
theorem NG {xt : TypeId} {x : Operand} {n : Int} (h : vF E.n ops L d g x = some (.int .i64 n)) (hb : In64 (-n)) : SE E ops ⟨some d, .unOp .neg xt x, ty, ps, af, g⟩ D L C (.int .i64 (-n)) d := by
  obtain ⟨h1, h2, h3⟩ := vF_out h; exact ⟨sd_neg h1 h3 hb, rfl, h2⟩
theorem PK {c x y : Operand} {v : Value} (h : pF E.n ops L d g c x y = some v) : SE E ops ⟨some d, .pick c x y, ty, ps, af, g⟩ D L C v d := by
  unfold pF at h
  split at h
  · rename_i hb
    split at h
    · rename_i hc; exact ⟨sd_pick_t (gB1 hb) hc h, rfl, gB2 hb⟩
    · rename_i hc; exact ⟨sd_pick_f (gB1 hb) hc h, rfl, gB2 hb⟩
    · cases h
  · cases h
theorem EX {x : Operand} {i : Nat} {v : Value} (h : xF E.n ops L d g x i = some v) : SE E ops ⟨some d, .extract x i, ty, ps, af, g⟩ D L C v d := by
  unfold xF at h
  split at h
  · rename_i vs hv
    obtain ⟨h1, h2, h3⟩ := vF_out hv
    exact ⟨sd_extract (vs := vs.toList) h1 (by simpa using h3) h, rfl, h2⟩
  · cases h
theorem LN {x : Operand} {t e : TypeId} {A : Option Addr} {n c : Nat} (h : vF E.n ops L d g x = some (.slice A n c)) (ht : E.P.underlying t = some (.slice e)) :
    SE E ops ⟨some d, .call { callee := .builtin .len, args := #[x], argTypes := #[t] }, ty, ps, af, g⟩ D L C (.int .i64 n) d := by
  obtain ⟨h1, h2, h3⟩ := vF_out h; exact ⟨sd_len h1 h3 ht, rfl, h2⟩
theorem BI {op : BinOp} {xt yt : TypeId} {x y : Operand} {u v r : Value} (h : bF E.n ops L d g x y = some (u, v)) (hb : BinRun E.P op xt x y u v r) : SE E ops ⟨some d, .binOp op xt x y yt, ty, ps, af, g⟩ D L C r d := by
  obtain ⟨h1, h2, h3, h4⟩ := bF_out h; exact ⟨sd_bin h1 h3 h4 hb, rfl, h2⟩
theorem MN {x y : Operand} {ts : Array TypeId} {a b : Int} {k : IntKind} (h : bF E.n ops L d g x y = some (.int k a, .int k b)) :
    SE E ops ⟨some d, .call { callee := .builtin .min, args := #[x, y], argTypes := ts }, ty, ps, af, g⟩ D L C (.int k (min a b)) d := by
  obtain ⟨h1, h2, h3, h4⟩ := bF_out h; exact ⟨sd_min h1 h3 h4, rfl, h2⟩
theorem MX {x y : Operand} {ts : Array TypeId} {a b : Int} {k : IntKind} (h : bF E.n ops L d g x y = some (.int k a, .int k b)) :
    SE E ops ⟨some d, .call { callee := .builtin .max, args := #[x, y], argTypes := ts }, ty, ps, af, g⟩ D L C (.int k (max a b)) d := by
  obtain ⟨h1, h2, h3, h4⟩ := bF_out h; exact ⟨sd_max h1 h3 h4, rfl, h2⟩
theorem FA (o' : Nat) {x : Operand} {b o s f k : Nat} (h : vF E.n ops L d g x = some (.pointer (some ⟨b, o, none⟩))) (hf : fOff E.P s f = some k) (ho : o + k = o') :
    SE E ops ⟨some d, .fieldAddr s x f, ty, ps, af, g⟩ D L C (.pointer (some ⟨b, o', none⟩)) d := by
  obtain ⟨h1, h2, h3⟩ := vF_out h; exact ⟨sd_fa h1 h3 hf ho, rfl, h2⟩
theorem FAR (k' : Nat) {x : Operand} {A : Option Addr} {n sz : Nat} {es : List (List Value)} {k0 s f k : Nat} (h : vF E.n ops L d g x = some (.pointer (padd A k0))) (hR : Has C (rd A n sz es).holds) (hn : 0 < n * sz)
    (hf : fOff E.P s f = some k) (ho : k0 + k = k') : SE E ops ⟨some d, .fieldAddr s x f, ty, ps, af, g⟩ D L C (.pointer (padd A k')) d := by
  obtain ⟨h1, h2, h3⟩ := vF_out h; exact ⟨sd_fa_rd h1 h3 hR hn hf ho, rfl, h2⟩
theorem IA (k : Nat) {x ix : Operand} {A : Option Addr} {n c sz e t : Nat} {es : List (List Value)} {j : Int} (h : bF E.n ops L d g x ix = some (.slice A n c, .int .i64 j)) (hR : Has C (rd A n sz es).holds)
    (ht : tE E.P t = some (e, sz)) (hz : 0 < sz) (hj : j = (k : Int)) (hk : k < n) : SE E ops ⟨some d, .indexAddr t x ix, ty, ps, af, g⟩ D L C (.pointer (padd A (k * sz))) d := by
  obtain ⟨h1, h2, h3, h4⟩ := bF_out h; exact ⟨sd_ia h1 h3 h4 hR ht hz hj hk, rfl, h2⟩
theorem IAB (k o' : Nat) {x ix : Operand} {b o n c sz e t : Nat} {j : Int} (h : bF E.n ops L d g x ix = some (.slice (some ⟨b, o, none⟩) n c, .int .i64 j))
    (ht : tE E.P t = some (e, sz)) (hj : j = (k : Int)) (hk : k < n) (ho : o + k * sz = o') : SE E ops ⟨some d, .indexAddr t x ix, ty, ps, af, g⟩ D L C (.pointer (some ⟨b, o', none⟩)) d := by
  obtain ⟨h1, h2, h3, h4⟩ := bF_out h; exact ⟨sd_ia_b h1 h3 h4 ht hj hk ho, rfl, h2⟩
/-- the whole of a block, a part of it, one cell -/
theorem LW (i : Nat) {x : Operand} {b t tt n : Nat} {cs : List Value} (h : vF E.n ops L d g x = some (.pointer (some ⟨b, 0, none⟩))) (ht : tK E.P t = some (true, n)) (hC : C[i]? = some (blk b tt cs)) (hn : cs.length = n) :
    SE E ops ⟨some d, .load t x, ty, ps, af, g⟩ D L C (.agg cs.toArray) d := by
  obtain ⟨h1, h2, h3⟩ := vF_out h; exact ⟨sd_ldn h1 h3 ht (at_blk i hC (by simp)) hn, rfl, h2⟩
theorem LWR (i : Nat) {x : Operand} {b t tt n : Nat} {cs : List Value} (h : vF E.n ops L d g x = some (.pointer (some ⟨b, 0, none⟩))) (ht : tK E.P t = some (true, n)) (hC : C[i]? = some (blk b tt cs).ro) (hn : cs.length = n) :
    SE E ops ⟨some d, .load t x, ty, ps, af, g⟩ D L C (.agg cs.toArray) d := by
  obtain ⟨h1, h2, h3⟩ := vF_out h; exact ⟨sd_ldn h1 h3 ht (at_blkr i hC (by simp)) hn, rfl, h2⟩
theorem LP (vs : List Value) (i : Nat) {x : Operand} {b o t tt n : Nat} {cs : List Value} (h : vF E.n ops L d g x = some (.pointer (some ⟨b, o, none⟩))) (ht : tK E.P t = some (true, n)) (hC : C[i]? = some (blk b tt cs)) (hv : (cs.drop o).take vs.length = vs) (hn : vs.length = n) :
    SE E ops ⟨some d, .load t x, ty, ps, af, g⟩ D L C (.agg vs.toArray) d := by
  obtain ⟨h1, h2, h3⟩ := vF_out h; exact ⟨sd_ldn h1 h3 ht (at_blk i hC hv) hn, rfl, h2⟩
theorem LPR (vs : List Value) (i : Nat) {x : Operand} {b o t tt n : Nat} {cs : List Value} (h : vF E.n ops L d g x = some (.pointer (some ⟨b, o, none⟩))) (ht : tK E.P t = some (true, n)) (hC : C[i]? = some (blk b tt cs).ro) (hv : (cs.drop o).take vs.length = vs) (hn : vs.length = n) :
    SE E ops ⟨some d, .load t x, ty, ps, af, g⟩ D L C (.agg vs.toArray) d := by
  obtain ⟨h1, h2, h3⟩ := vF_out h; exact ⟨sd_ldn h1 h3 ht (at_blkr i hC hv) hn, rfl, h2⟩
theorem L1 (v : Value) (i : Nat) {x : Operand} {b o t tt n : Nat} {cs : List Value} (h : vF E.n ops L d g x = some (.pointer (some ⟨b, o, none⟩))) (ht : tK E.P t = some (false, n)) (hC : C[i]? = some (blk b tt cs)) (hv : (cs.drop o).take 1 = [v]) :
    SE E ops ⟨some d, .load t x, ty, ps, af, g⟩ D L C v d := by
  obtain ⟨h1, h2, h3⟩ := vF_out h; exact ⟨sd_ld1 h1 h3 ht (at_blk i hC hv), rfl, h2⟩
theorem L1R (v : Value) (i : Nat) {x : Operand} {b o t tt n : Nat} {cs : List Value} (h : vF E.n ops L d g x = some (.pointer (some ⟨b, o, none⟩))) (ht : tK E.P t = some (false, n)) (hC : C[i]? = some (blk b tt cs).ro) (hv : (cs.drop o).take 1 = [v]) :
    SE E ops ⟨some d, .load t x, ty, ps, af, g⟩ D L C v d := by
  obtain ⟨h1, h2, h3⟩ := vF_out h; exact ⟨sd_ld1 h1 h3 ht (at_blkr i hC hv), rfl, h2⟩
theorem L1W (i : Nat) {x : Operand} {b t tt n : Nat} {v : Value} (h : vF E.n ops L d g x = some (.pointer (some ⟨b, 0, none⟩))) (ht : tK E.P t = some (false, n)) (hC : C[i]? = some (blk b tt [v])) :
    SE E ops ⟨some d, .load t x, ty, ps, af, g⟩ D L C v d := by
  obtain ⟨h1, h2, h3⟩ := vF_out h; exact ⟨sd_ld1 h1 h3 ht (at_blk i hC rfl), rfl, h2⟩
theorem L1Q (i : Nat) {x : Operand} {b t tt n : Nat} {v : Value} (h : vF E.n ops L d g x = some (.pointer (some ⟨b, 0, none⟩))) (ht : tK E.P t = some (false, n)) (hC : C[i]? = some (blk b tt [v]).ro) :
    SE E ops ⟨some d, .load t x, ty, ps, af, g⟩ D L C v d := by
  obtain ⟨h1, h2, h3⟩ := vF_out h; exact ⟨sd_ld1 h1 h3 ht (at_blkr i hC rfl), rfl, h2⟩
/-- what is read of a row -/
theorem LE1 (k o : Nat) (v : Value) {x : Operand} {A : Option Addr} {t m n sz : Nat} {es : List (List Value)} {e : List Value} (h : vF E.n ops L d g x = some (.pointer (padd A m))) {nn : Nat} (ht : tK E.P t = some (false, nn)) (hR : Has C (rd A n sz es).holds) (he : es[k]? = some e) (hm : m = k * sz + o) (hz : 0 < sz) (hv : (e.drop o).take 1 = [v]) :
    SE E ops ⟨some d, .load t x, ty, ps, af, g⟩ D L C v d := by
  obtain ⟨h1, h2, h3⟩ := vF_out h; exact ⟨sd_ld1 h1 h3 ht (at_rd hR he hm hz hv), rfl, h2⟩
theorem LEN (k o : Nat) (vs : List Value) {x : Operand} {A : Option Addr} {t m n sz : Nat} {es : List (List Value)} {e : List Value} (h : vF E.n ops L d g x = some (.pointer (padd A m))) {nn : Nat} (ht : tK E.P t = some (true, nn)) (hR : Has C (rd A n sz es).holds) (he : es[k]? = some e) (hm : m = k * sz + o) (hz : 0 < sz) (hv : (e.drop o).take vs.length = vs) (hn : vs.length = nn) :
    SE E ops ⟨some d, .load t x, ty, ps, af, g⟩ D L C (.agg vs.toArray) d := by
  obtain ⟨h1, h2, h3⟩ := vF_out h; exact ⟨sd_ldn h1 h3 ht (at_rd hR he hm hz hv) hn, rfl, h2⟩
theorem CL {fop : Operand} {xs : Array Operand} {ts : Array TypeId} {f : FuncId} {args : List Value} {Cp : List Assn} {v : Value} (c : FnV E.P f args Cp v) (hC : HasAll C Cp) (h : cF E.n ops L d g fop xs.toList = some (f, args)) :
    SE E ops ⟨some d, .call { callee := .value fop, args := xs, argTypes := ts }, ty, ps, af, g⟩ D L C v d := by
  unfold cF at h
  split at h
  · rename_i hb
    split at h
    · rename_i hf hx; cases h; exact ⟨sd_call (gB1 hb) hf hx rfl c hC, rfl, gB2 hb⟩
    · cases h
  · cases h
theorem FU {fn : Fn} {xs ys : Array Operand} {us vs : List Value} (h : uF E.n ops L d g xs.toList ys.toList = some (us, vs)) : SE E ops ⟨some d, .makeFunc fn xs ys, ty, ps, af, g⟩ D L C (.func fn us.toArray vs.toArray) d := by
  obtain ⟨h1, h2, h3, h4⟩ := uF_out h; exact ⟨sd_func h1 h3 h4, rfl, h2⟩
theorem cX {fop : Operand} {xs : Array Operand} {ts : Array TypeId} {f : FuncId} {args : List Value} {Cp : List Assn} {α : Type} {V : α → Value} {p : α → Prop} {N : α → List Assn} (c : FnX E.P f args Cp V p N) (hC : HasAll C Cp)
    (h : cF E.n ops L d g fop xs.toList = some (f, args)) (k : ∀ x, p x → RJ E ops Q rest D ((d, V x) :: L) (N x ++ C)) :
    RJ E ops Q (⟨some d, .call { callee := .value fop, args := xs, argTypes := ts }, ty, ps, af, g⟩ :: rest) D L C := by
  unfold cF at h
  split at h
  · rename_i hb
    split at h
    · rename_i hf hx; cases h; exact r_call (gB1 hb) hf hx rfl c hC (gB2 hb) k
    · cases h
  · cases h
/-- a box of a struct, of one cell -/
theorem BXA {t : TypeId} {x : Operand} {cs : List Value} (h : vF E.n ops L d g x = some (.agg cs.toArray)) (k : ∀ b, RJ E ops Q rest D ((d, .pointer (some ⟨b, 0, none⟩)) :: L) (blk b t cs :: C)) :
    RJ E ops Q (⟨some d, .box t x, ty, ps, af, g⟩ :: rest) D L C := by
  obtain ⟨h1, h2, h3⟩ := vF_out h; exact r_box h1 h3 rfl h2 k
theorem BX1 {t : TypeId} {x : Operand} {v : Value} (h : vF E.n ops L d g x = some v) (hv : v.cells.toList = [v]) (k : ∀ b, RJ E ops Q rest D ((d, .pointer (some ⟨b, 0, none⟩)) :: L) (blk b t [v] :: C)) :
    RJ E ops Q (⟨some d, .box t x, ty, ps, af, g⟩ :: rest) D L C := by
  obtain ⟨h1, h2, h3⟩ := vF_out h; exact r_box h1 h3 hv h2 k
theorem AL {t : TypeId} {cs : List Value} (h : gB E.n ops L d g = true) (hz : tZ E.P t = some cs) (k : ∀ b, RJ E ops Q rest D ((d, .pointer (some ⟨b, 0, none⟩)) :: L) (blk b t cs :: C)) :
    RJ E ops Q (⟨some d, .alloc t, ty, ps, af, g⟩ :: rest) D L C := r_alloc (gB1 h) hz (gB2 h) k
/-- a store into the block at the place i of the state -/
def sF (ops : Array Oper) (L : List (Nat × Value)) (g : Option (Nat × Bool)) (x y : Operand) : Option (Value × Value) := match gOn ops L g with
  | true => match ev L x, ev L y with
    | some u, some v => some (u, v)
    | _, _ => none
  | false => none
theorem sF_out {ops : Array Oper} {L : List (Nat × Value)} {g : Option (Nat × Bool)} {x y : Operand} {u v : Value} (h : sF ops L g x y = some (u, v)) : gOn ops L g = true ∧ ev L x = some u ∧ ev L y = some v := by
  unfold sF at h
  split at h
  · rename_i hb
    split at h
    · rename_i hx hy; cases h; exact ⟨hb, hx, hy⟩
    · cases h
  · cases h
theorem st_ {t n b o tt : Nat} {x y : Operand} {v : Value} {cs cs' : List Value} {C' : List Assn} (i : Nat) (h : sF ops L g x y = some (.pointer (some ⟨b, o, none⟩), v)) (ht : (tK E.P t).map (·.2) = some n) (hC : C[i]? = some (blk b tt cs))
    (hk : (v.cells.toList.length == n && v.cells.toList.all Value.oneCell' && Nat.ble (o + n) cs.length) = true) (hcs : cs.take o ++ v.cells.toList ++ cs.drop (o + n) = cs') (hC' : C.set i (blk b tt cs') = C') (k : RJ E ops Q rest D L C') :
    RJ E ops Q (⟨none, .store t x y, ty, ps, af, g⟩ :: rest) D L C := by
  obtain ⟨h1, h2, h3⟩ := sF_out h
  simp only [Bool.and_eq_true, beq_iff_eq] at hk
  exact r_store i h1 h2 h3 ht rfl hk.1.1 hk.1.2 hC hk.2 hcs hC' k
/-- a store of a whole block, by a struct, by one cell -/
theorem sw_ {t n b tt : Nat} {x y : Operand} {cs cs' : List Value} {C' : List Assn} (i : Nat) (h : sF ops L g x y = some (.pointer (some ⟨b, 0, none⟩), .agg cs'.toArray)) (ht : (tK E.P t).map (·.2) = some n) (hC : C[i]? = some (blk b tt cs))
    (hk : (Nat.beq cs'.length n && cs'.all Value.oneCell' && Nat.beq n cs.length) = true) (hC' : C.set i (blk b tt cs') = C') (k : RJ E ops Q rest D L C') :
    RJ E ops Q (⟨none, .store t x y, ty, ps, af, g⟩ :: rest) D L C := by
  obtain ⟨h1, h2, h3⟩ := sF_out h
  simp only [Bool.and_eq_true] at hk
  obtain ⟨⟨hk1, hk2⟩, hk3⟩ := hk
  have e1 := Nat.eq_of_beq_eq_true hk1
  have e3 := Nat.eq_of_beq_eq_true hk3
  exact r_store i h1 h2 h3 ht rfl e1 hk2 hC (by rw [Nat.zero_add, e3]; exact Nat.ble_self_eq_true _) (by rw [Nat.zero_add, e3, List.take_zero, List.drop_length]; show [] ++ cs' ++ [] = cs'; simp) hC' k
theorem s1_ {t n b tt : Nat} {x y : Operand} {v u : Value} {C' : List Assn} (i : Nat) (h : sF ops L g x y = some (.pointer (some ⟨b, 0, none⟩), v)) (ht : (tK E.P t).map (·.2) = some n) (hC : C[i]? = some (blk b tt [u]))
    (hv : v.cells.toList = [v]) (hk : (Nat.beq n 1 && v.oneCell') = true) (hC' : C.set i (blk b tt [v]) = C') (k : RJ E ops Q rest D L C') :
    RJ E ops Q (⟨none, .store t x y, ty, ps, af, g⟩ :: rest) D L C := by
  obtain ⟨h1, h2, h3⟩ := sF_out h
  rw [Bool.and_eq_true] at hk
  obtain ⟨hk1, hk2⟩ := hk
  have e1 := Nat.eq_of_beq_eq_true hk1
  subst e1
  exact r_store i h1 h2 h3 ht hv rfl (by simp [hk2]) hC rfl rfl hC' k
theorem SW0 {t n b tt : Nat} {x y : Operand} {cs cs' : List Value} (h : sF ops L g x y = some (.pointer (some ⟨b, 0, none⟩), .agg cs'.toArray)) (ht : (tK E.P t).map (·.2) = some n) (hk : (Nat.beq cs'.length n && cs'.all Value.oneCell' && Nat.beq n cs.length) = true) (k : RJ E ops Q rest D L (blk b tt cs' :: C)) : RJ E ops Q (⟨none, .store t x y, ty, ps, af, g⟩ :: rest) D L (blk b tt cs :: C) := sw_ 0 h ht rfl hk rfl k
theorem SO0 {t n b tt : Nat} {x y : Operand} {v u : Value} (h : sF ops L g x y = some (.pointer (some ⟨b, 0, none⟩), v)) (ht : (tK E.P t).map (·.2) = some n) (hv : v.cells.toList = [v]) (hk : (Nat.beq n 1 && v.oneCell') = true) (k : RJ E ops Q rest D L (blk b tt [v] :: C)) : RJ E ops Q (⟨none, .store t x y, ty, ps, af, g⟩ :: rest) D L (blk b tt [u] :: C) := s1_ 0 h ht rfl hv hk rfl k
theorem ST0 (cs' : List Value) {t n b o tt : Nat} {x y : Operand} {v : Value} {cs : List Value} (h : sF ops L g x y = some (.pointer (some ⟨b, o, none⟩), v)) (ht : (tK E.P t).map (·.2) = some n) (hk : (v.cells.toList.length == n && v.cells.toList.all Value.oneCell' && Nat.ble (o + n) cs.length) = true) (hcs : cs.take o ++ v.cells.toList ++ cs.drop (o + n) = cs') (k : RJ E ops Q rest D L (blk b tt cs' :: C)) : RJ E ops Q (⟨none, .store t x y, ty, ps, af, g⟩ :: rest) D L (blk b tt cs :: C) := st_ 0 h ht rfl hk hcs rfl k
theorem SW1 {t n b tt : Nat} {x y : Operand} {cs cs' : List Value} {A0 : Assn} (h : sF ops L g x y = some (.pointer (some ⟨b, 0, none⟩), .agg cs'.toArray)) (ht : (tK E.P t).map (·.2) = some n) (hk : (Nat.beq cs'.length n && cs'.all Value.oneCell' && Nat.beq n cs.length) = true) (k : RJ E ops Q rest D L (A0 :: blk b tt cs' :: C)) : RJ E ops Q (⟨none, .store t x y, ty, ps, af, g⟩ :: rest) D L (A0 :: blk b tt cs :: C) := sw_ 1 h ht rfl hk rfl k
theorem SW2 {t n b tt : Nat} {x y : Operand} {cs cs' : List Value} {A0 A1 : Assn} (h : sF ops L g x y = some (.pointer (some ⟨b, 0, none⟩), .agg cs'.toArray)) (ht : (tK E.P t).map (·.2) = some n) (hk : (Nat.beq cs'.length n && cs'.all Value.oneCell' && Nat.beq n cs.length) = true) (k : RJ E ops Q rest D L (A0 :: A1 :: blk b tt cs' :: C)) : RJ E ops Q (⟨none, .store t x y, ty, ps, af, g⟩ :: rest) D L (A0 :: A1 :: blk b tt cs :: C) := sw_ 2 h ht rfl hk rfl k
theorem ST2 (cs' : List Value) {t n b o tt : Nat} {x y : Operand} {v : Value} {cs : List Value} {A0 A1 : Assn} (h : sF ops L g x y = some (.pointer (some ⟨b, o, none⟩), v)) (ht : (tK E.P t).map (·.2) = some n) (hk : (v.cells.toList.length == n && v.cells.toList.all Value.oneCell' && Nat.ble (o + n) cs.length) = true) (hcs : cs.take o ++ v.cells.toList ++ cs.drop (o + n) = cs') (k : RJ E ops Q rest D L (A0 :: A1 :: blk b tt cs' :: C)) : RJ E ops Q (⟨none, .store t x y, ty, ps, af, g⟩ :: rest) D L (A0 :: A1 :: blk b tt cs :: C) := st_ 2 h ht rfl hk hcs rfl k
theorem SW3 {t n b tt : Nat} {x y : Operand} {cs cs' : List Value} {A0 A1 A2 : Assn} (h : sF ops L g x y = some (.pointer (some ⟨b, 0, none⟩), .agg cs'.toArray)) (ht : (tK E.P t).map (·.2) = some n) (hk : (Nat.beq cs'.length n && cs'.all Value.oneCell' && Nat.beq n cs.length) = true) (k : RJ E ops Q rest D L (A0 :: A1 :: A2 :: blk b tt cs' :: C)) : RJ E ops Q (⟨none, .store t x y, ty, ps, af, g⟩ :: rest) D L (A0 :: A1 :: A2 :: blk b tt cs :: C) := sw_ 3 h ht rfl hk rfl k
theorem ST3 (cs' : List Value) {t n b o tt : Nat} {x y : Operand} {v : Value} {cs : List Value} {A0 A1 A2 : Assn} (h : sF ops L g x y = some (.pointer (some ⟨b, o, none⟩), v)) (ht : (tK E.P t).map (·.2) = some n) (hk : (v.cells.toList.length == n && v.cells.toList.all Value.oneCell' && Nat.ble (o + n) cs.length) = true) (hcs : cs.take o ++ v.cells.toList ++ cs.drop (o + n) = cs') (k : RJ E ops Q rest D L (A0 :: A1 :: A2 :: blk b tt cs' :: C)) : RJ E ops Q (⟨none, .store t x y, ty, ps, af, g⟩ :: rest) D L (A0 :: A1 :: A2 :: blk b tt cs :: C) := st_ 3 h ht rfl hk hcs rfl k
theorem SW4 {t n b tt : Nat} {x y : Operand} {cs cs' : List Value} {A0 A1 A2 A3 : Assn} (h : sF ops L g x y = some (.pointer (some ⟨b, 0, none⟩), .agg cs'.toArray)) (ht : (tK E.P t).map (·.2) = some n) (hk : (Nat.beq cs'.length n && cs'.all Value.oneCell' && Nat.beq n cs.length) = true) (k : RJ E ops Q rest D L (A0 :: A1 :: A2 :: A3 :: blk b tt cs' :: C)) : RJ E ops Q (⟨none, .store t x y, ty, ps, af, g⟩ :: rest) D L (A0 :: A1 :: A2 :: A3 :: blk b tt cs :: C) := sw_ 4 h ht rfl hk rfl k
theorem SW5 {t n b tt : Nat} {x y : Operand} {cs cs' : List Value} {A0 A1 A2 A3 A4 : Assn} (h : sF ops L g x y = some (.pointer (some ⟨b, 0, none⟩), .agg cs'.toArray)) (ht : (tK E.P t).map (·.2) = some n) (hk : (Nat.beq cs'.length n && cs'.all Value.oneCell' && Nat.beq n cs.length) = true) (k : RJ E ops Q rest D L (A0 :: A1 :: A2 :: A3 :: A4 :: blk b tt cs' :: C)) : RJ E ops Q (⟨none, .store t x y, ty, ps, af, g⟩ :: rest) D L (A0 :: A1 :: A2 :: A3 :: A4 :: blk b tt cs :: C) := sw_ 5 h ht rfl hk rfl k
theorem SO6 {t n b tt : Nat} {x y : Operand} {v u : Value} {A0 A1 A2 A3 A4 A5 : Assn} (h : sF ops L g x y = some (.pointer (some ⟨b, 0, none⟩), v)) (ht : (tK E.P t).map (·.2) = some n) (hv : v.cells.toList = [v]) (hk : (Nat.beq n 1 && v.oneCell') = true) (k : RJ E ops Q rest D L (A0 :: A1 :: A2 :: A3 :: A4 :: A5 :: blk b tt [v] :: C)) : RJ E ops Q (⟨none, .store t x y, ty, ps, af, g⟩ :: rest) D L (A0 :: A1 :: A2 :: A3 :: A4 :: A5 :: blk b tt [u] :: C) := s1_ 6 h ht rfl hv hk rfl k
theorem SW8 {t n b tt : Nat} {x y : Operand} {cs cs' : List Value} {A0 A1 A2 A3 A4 A5 A6 A7 : Assn} (h : sF ops L g x y = some (.pointer (some ⟨b, 0, none⟩), .agg cs'.toArray)) (ht : (tK E.P t).map (·.2) = some n) (hk : (Nat.beq cs'.length n && cs'.all Value.oneCell' && Nat.beq n cs.length) = true) (k : RJ E ops Q rest D L (A0 :: A1 :: A2 :: A3 :: A4 :: A5 :: A6 :: A7 :: blk b tt cs' :: C)) : RJ E ops Q (⟨none, .store t x y, ty, ps, af, g⟩ :: rest) D L (A0 :: A1 :: A2 :: A3 :: A4 :: A5 :: A6 :: A7 :: blk b tt cs :: C) := sw_ 8 h ht rfl hk rfl k
theorem SW9 {t n b tt : Nat} {x y : Operand} {cs cs' : List Value} {A0 A1 A2 A3 A4 A5 A6 A7 A8 : Assn} (h : sF ops L g x y = some (.pointer (some ⟨b, 0, none⟩), .agg cs'.toArray)) (ht : (tK E.P t).map (·.2) = some n) (hk : (Nat.beq cs'.length n && cs'.all Value.oneCell' && Nat.beq n cs.length) = true) (k : RJ E ops Q rest D L (A0 :: A1 :: A2 :: A3 :: A4 :: A5 :: A6 :: A7 :: A8 :: blk b tt cs' :: C)) : RJ E ops Q (⟨none, .store t x y, ty, ps, af, g⟩ :: rest) D L (A0 :: A1 :: A2 :: A3 :: A4 :: A5 :: A6 :: A7 :: A8 :: blk b tt cs :: C) := sw_ 9 h ht rfl hk rfl k
end
section
variable {E : Env} {y : Code} {Q : Post} {D : List Deferred} {L : List (Nat × Value)} {C : List Assn}
theorem WS {id : Nat} {ops : Array Oper} (h : ∀ K : Act → World → Prop, (∀ D L C, WJ E y Q D L C → KJ E K D L C) → RJ E ops (Exit.then K Q) ops.toList D L C) : WJ E (.seq (.region id ops false) y) Q D L C := w_seq fun K hK => w_region (h K hK)
theorem RK {ops : Array Oper} {K : Act → World → Prop} {Q' : Post} (hK : ∀ D L C, WJ E y Q D L C → KJ E K D L C) (k : WJ E y Q D L C) : RJ E ops (Exit.then K Q') [] D L C := r_nil (k_then (hK _ _ _ k))
theorem KK {K : Act → World → Prop} {Q' : Post} (hK : ∀ D L C, WJ E y Q D L C → KJ E K D L C) (k : WJ E y Q D L C) : KJ E (Exit.then K Q' .normal) D L C := k_then (hK _ _ _ k)
theorem WK {K : Act → World → Prop} {Q' : Post} (hK : ∀ D L C, WJ E y Q D L C → KJ E K D L C) (k : WJ E y Q D L C) : WJ E .skip (Exit.then K Q') D L C := w_skip (k_then (hK _ _ _ k))
end
theorem DT {p : Prop} [Decidable p] (h : decide p = true) : p := of_decide_eq_true h
theorem DF {p : Prop} [Decidable p] (h : decide p = false) : ¬ p := of_decide_eq_false h
theorem XT {p : Prop} [Decidable p] (h : (!decide p) = true) : ¬ p := by simpa using h
theorem XF {p : Prop} [Decidable p] (h : (!decide p) = false) : p := by simpa using h
/-- what a function hands back: one result, two, three, that lie in slots -/
theorem Q1 {E : Env} {fn : Func} {K : Act → World → Prop} {L : List (Nat × Value)} {C : List Assn} {t : Nat} {u v : Value} (hQ : ∀ D L C, LJ E fn (EndV E.w0 v) D L C → KJ E K D L C) (hS : E.S = fnS) (hr : fn.results.toList = [.tmp t]) (hl : L.lookup t = some u) (e : u = v) : KJ E K [] L C :=
  hQ _ _ _ (l_nil (vs := [u]) (by rw [hr]; exact ⟨hl, trivial⟩) fun w hs => endV e (by rw [hS] at hs; exact hs))
theorem Q2 {E : Env} {fn : Func} {K : Act → World → Prop} {L : List (Nat × Value)} {C : List Assn} {t s : Nat} {u x v : Value} (hQ : ∀ D L C, LJ E fn (EndV E.w0 v) D L C → KJ E K D L C) (hS : E.S = fnS) (hr : fn.results.toList = [.tmp t, .tmp s]) (hl : L.lookup t = some u) (hm : L.lookup s = some x) (e : Value.tuple [u, x].toArray = v) : KJ E K [] L C :=
  hQ _ _ _ (l_nil (vs := [u, x]) (by rw [hr]; exact ⟨hl, hm, trivial⟩) fun w hs => endV e (by rw [hS] at hs; exact hs))
theorem N1 {E : Env} {ops : Array Oper} {D : List Deferred} {C' C1 : List Assn} {F : List (Nat × Value) → List Assn → Prop} {tb rem : List Nat} {n : Nat} {L : List (Nat × Value)} {C : List Assn} (i : Nat)
    (h : NStep E ops D C' C1 F tb n (rem.filter (· != i)) i L C) (hm : rem.filter (fun i => rem.all fun j => !ancB (msk ops) j i) = [i] := by kernel_rfl) : TN E ops D C' C1 F tb (n + 1) rem L C := n_step [i] hm (n_cons h n_nil)
theorem NO {E : Env} {ops : Array Oper} {D : List Deferred} {C' C1 : List Assn} {F : List (Nat × Value) → List Assn → Prop} {tb rem : List Nat} {n i : Nat} {L : List (Nat × Value)} {C : List Assn} {o : Oper} (ho : ops[i]? = some o) (ht : tb.contains i = false) (rem' : List Nat)
    (h : ∀ K : Act → World → Prop, (∀ L' C'', (∀ w, St E.S E.w0 C'' w → St E.S E.w0 C' w) → TN E ops D C' C1 F tb n rem' L' C'' → KJ E K D L' C'') → RJ E ops (NQ K) [o] D L C) (hr : rem = rem' := by kernel_rfl) : NStep E ops D C' C1 F tb n rem i L C := n_op ho hr ht h
theorem RN {E : Env} {ops : Array Oper} {K : Act → World → Prop} {D : List Deferred} {L : List (Nat × Value)} {C C' : List Assn} {X : List (Nat × Value) → List Assn → Prop} (hT : ∀ L' C'', (∀ w, St E.S E.w0 C'' w → St E.S E.w0 C' w) → X L' C'' → KJ E K D L' C'')
    (l : List Nat) (h1 : decide l.Nodup = true) (h2 : sel C l = C') (h : X L C) : RJ E ops (NQ K) [] D L C := r_nil (hT _ _ (fun w hs => St.sel l h1 h2 hs) h)
theorem RD {E : Env} {ops : Array Oper} {K : Act → World → Prop} {D : List Deferred} {L : List (Nat × Value)} {C C' : List Assn} {X : List (Nat × Value) → List Assn → Prop} (hT : ∀ L' C'', (∀ w, St E.S E.w0 C'' w → St E.S E.w0 C' w) → X L' C'' → KJ E K D L' C'')
    (k : Nat) (h2 : C.drop k = C') (h : X L C) : RJ E ops (NQ K) [] D L C := r_nil (hT _ _ (fun w hs => h2 ▸ hs.take (List.drop_sublist k C)) h)
theorem sub_all {L L' : List (Nat × Value)} (h : L'.map (fun p => L.lookup p.1) = L'.map (fun p => some p.2)) : Sub L L' := by
  induction L' with
  | nil => exact Sub.nil _
  | cons p t ih =>
    simp only [List.map_cons, List.cons.injEq] at h
    exact Sub.cons h.1 (ih h.2)
theorem ha3 {C : List Assn} {A A' B B' D D' : Assn} (i j k : Nat) (h1 : C[i]? = some A') (e1 : A'.holds = A.holds) (h2 : C[j]? = some B') (e2 : B'.holds = B.holds) (h3 : C[k]? = some D') (e3 : D'.holds = D.holds) : HasAll C [A, B, D] := ha_at i h1 e1 (ha_at j h2 e2 (ha_at k h3 e3 ha_nil))
end
section
open Go.RowKit
set_option linter.unusedVariables false
set_option linter.unusedSectionVars false
/-- what is asked of keys -/
structure GKey (P : Program) (kt : Nat) {K : Type} (kV : K → Value) : Prop where
  check : ∀ (e : Bool) (x : K) (w : World), (Instr.checkKey e 10000 kt (kV x)).run P w = .ok () w
  find : ∀ (x : K) (w : World) (es : List MapEntry), (∀ e ∈ es, ∃ k, e.key = kV k) →
    ((Instr.findKey kt (kV x) es).run P w = .ok none w ∧ ∀ e ∈ es, e.key ≠ kV x) ∨ ∃ j e, (Instr.findKey kt (kV x) es).run P w = .ok (some (j, e.val)) w ∧ es[j]? = some e ∧ e.key = kV x
  bits : ∀ x, Instr.sameBits 10000 (kV x) (kV x) = true
  inj : ∀ x y, kV x = kV y → x = y
section
variable {K : Type} [DecidableEq K] {kV : K → Value}
def gsetK {β : Type} (l : List (K × β)) (x : K) (y : β) : List (K × β) := if (l.lookup x).isSome then l.map (fun p => if p.1 = x then (x, y) else p) else l ++ [(x, y)]
def gdelK {β : Type} (l : List (K × β)) (x : K) : List (K × β) := l.filter fun p => !decide (p.1 = x)
def gmapV {β γ : Type} (f : β → γ) (l : List (K × β)) : List (K × γ) := l.map fun p => (p.1, f p.2)
theorem gmapV_lookup {β γ : Type} (f : β → γ) (x : K) : ∀ l : List (K × β), (gmapV f l).lookup x = (l.lookup x).map f
  | [] => rfl
  | p :: l => by
    obtain ⟨k, v⟩ := p
    have ih := gmapV_lookup f x l
    by_cases h : x = k
    · subst h; simp [gmapV, List.lookup]
    · have : (x == k) = false := by simpa using h
      simp only [gmapV, List.map_cons, List.lookup, this] at ih ⊢
      exact ih
theorem gmapV_setK {β γ : Type} (f : β → γ) (l : List (K × β)) (x : K) (y : β) : gmapV f (gsetK l x y) = gsetK (gmapV f l) x (f y) := by
  unfold gsetK
  rw [gmapV_lookup, Option.isSome_map]
  split
  · simp only [gmapV, List.map_map]
    refine List.map_congr_left fun p _ => ?_
    simp only [Function.comp]
    split <;> rfl
  · simp [gmapV]
theorem gmapV_delK {β γ : Type} (f : β → γ) (l : List (K × β)) (x : K) : gmapV f (gdelK l x) = gdelK (gmapV f l) x := by
  unfold gdelK gmapV
  rw [List.filter_map]
  rfl
theorem glookup_none {β : Type} {x : K} : ∀ {l : List (K × β)}, l.lookup x = none ↔ ∀ p ∈ l, p.1 ≠ x
  | [] => by simp
  | p :: l => by
    obtain ⟨k, v⟩ := p
    by_cases h : x = k
    · subst h; simp [List.lookup]
    · have hb : (x == k) = false := by simpa using h
      simp only [List.lookup, hb, List.mem_cons, forall_eq_or_imp]
      rw [glookup_none (l := l)]
      exact ⟨fun q => ⟨fun e => h e.symm, q⟩, fun q => q.2⟩
theorem glookup_mem {β : Type} {x : K} {y : β} : ∀ {l : List (K × β)}, (l.map (·.1)).Nodup → ((x, y) ∈ l ↔ l.lookup x = some y)
  | [], _ => by simp
  | p :: l, hn => by
    obtain ⟨k, v⟩ := p
    simp only [List.map_cons, List.nodup_cons] at hn
    by_cases h : x = k
    · subst h
      simp only [List.lookup, beq_self_eq_true, List.mem_cons, Prod.mk.injEq, true_and, Option.some.injEq]
      constructor
      · rintro (e | e)
        · exact e.symm
        · exact absurd (List.mem_map.2 ⟨_, e, rfl⟩) hn.1
      · intro e; exact .inl e.symm
    · have hb : (x == k) = false := by simpa using h
      simp only [List.lookup, hb, List.mem_cons, Prod.mk.injEq, h, false_and, false_or]
      exact glookup_mem hn.2
structure gMapIs (kV : K → Value) (es : Array MapEntry) (c : Nat) (m : List (K × Value)) : Prop where
  list : es.toList.map (fun (e : MapEntry) => (e.key, e.val)) = m.map (fun p => (kV p.1, p.2))
  keys : (m.map (·.1)).Nodup
  old : ∀ e ∈ es.toList, e.born < c
  born : (es.toList.map (·.born)).Nodup
def gmp (kV : K → Value) (b : Nat) (m : List (K × Value)) : Assn where
  foot k := k = b
  wf k := k = b
  holds w := ∃ es c, w.heap[b]? = some (.map es c) ∧ gMapIs kV es c m
  wr := true
  wfoot _ h := h
  whole _ _ h := h
  lt w h k hk := by obtain ⟨es, c, he, _⟩ := h; exact hk ▸ lt_of_heap he
  keep w w' hk h := by obtain ⟨es, c, he, hm⟩ := h; exact ⟨es, c, (hk b rfl).trans he, hm⟩
theorem gMapIs.nil : gMapIs kV #[] 0 [] := ⟨rfl, List.nodup_nil, by simp, List.nodup_nil⟩
theorem gMapIs.size {es : Array MapEntry} {c : Nat} {m : List (K × Value)} (h : gMapIs kV es c m) : es.size = m.length := by
  have := congrArg List.length h.list
  simpa using this
theorem gfind_list {P : Program} {kt : Nat} (hk : GKey P kt kV) (x : K) : ∀ (es : List MapEntry) (m : List (K × Value)), es.map (fun (e : MapEntry) => (e.key, e.val)) = m.map (fun p => (kV p.1, p.2)) →
    ((∀ e ∈ es, e.key ≠ kV x) → m.lookup x = none) ∧ ∀ (j : Nat) (e : MapEntry), es[j]? = some e → e.key = kV x → m[j]? = some (x, e.val) := by
  intro es m h
  refine ⟨fun hn => glookup_none.2 fun p hp e => ?_, fun j e he hx => ?_⟩
  · have : (kV p.1, p.2) ∈ es.map (fun (e : MapEntry) => (e.key, e.val)) := by rw [h]; exact List.mem_map.2 ⟨p, hp, rfl⟩
    obtain ⟨z, hz, hze⟩ := List.mem_map.1 this
    simp only [Prod.mk.injEq] at hze
    exact hn z hz (by rw [hze.1, e])
  · have h1 : (es.map (fun (e : MapEntry) => (e.key, e.val)))[j]? = some (e.key, e.val) := by rw [List.getElem?_map, he]; rfl
    rw [h, List.getElem?_map] at h1
    cases hm : m[j]? with
    | none => simp [hm] at h1
    | some p =>
      simp only [hm, Option.map_some, Option.some.injEq, Prod.mk.injEq] at h1
      have := hk.inj _ _ (h1.1.trans hx)
      obtain ⟨k, v⟩ := p
      simp only at this h1
      rw [this, h1.2]
theorem grun_find {P : Program} {w : World} {kt : Nat} {x : K} {es : Array MapEntry} {c : Nat} {m : List (K × Value)} (hk : GKey P kt kV) (h : gMapIs kV es c m) :
    ((Instr.findKey kt (kV x) es.toList).run P w = .ok none w ∧ m.lookup x = none) ∨
    ∃ j v, (Instr.findKey kt (kV x) es.toList).run P w = .ok (some (j, v)) w ∧ m[j]? = some (x, v) ∧ m.lookup x = some v := by
  obtain ⟨q1, q2⟩ := gfind_list hk x es.toList m h.list
  rcases hk.find x w es.toList (fun e he => by
      have : (e.key, e.val) ∈ m.map (fun p => (kV p.1, p.2)) := by rw [← h.list]; exact List.mem_map.2 ⟨e, he, rfl⟩
      obtain ⟨p, _, hp⟩ := List.mem_map.1 this
      simp only [Prod.mk.injEq] at hp
      exact ⟨p.1, hp.1.symm⟩) with ⟨h1, h2⟩ | ⟨j, e, h1, h2, h3⟩
  · exact .inl ⟨h1, q1 h2⟩
  · have := q2 j e h2 h3
    exact .inr ⟨j, e.val, h1, this, (glookup_mem h.keys).1 (List.mem_of_getElem? this)⟩
theorem grun_check {P : Program} {w : World} {kt : Nat} {x : K} (hk : GKey P kt kV) (e : Bool) : (Instr.checkKey e 10000 kt (kV x)).run P w = .ok () w := hk.check e x w
section
variable {E : Env} {ops : Array Oper} {Q : Post} {rest : List Oper} {D : List Deferred} {L : List (Nat × Value)} {C : List Assn}
variable {dst : Option Tmp} {d : Nat} {ty : TypeId} {ps : String} {af : Array Edge} {g : Option (Nat × Bool)}
theorem gr_mkmap {t : TypeId} (hg : gOn ops L g = true) (hd : Nat.blt d E.n = true) (k : ∀ b, RJ E ops Q rest D ((d, .map (some b)) :: L) (gmp kV b [] :: C)) : RJ E ops Q (⟨some d, .makeMap t none, ty, ps, af, g⟩ :: rest) D L C := by
  intro a w hfr hs
  have hd' : d < E.n := by rw [← Nat.blt_eq]; exact hd
  unfold wpL
  rw [if_pos (gOn_wanted hfr hg)]
  refine wp_value (v := .map (some w.heap.size)) (w' := w.alloc (.map #[] 0)) (by simp) ?_ ?_
  · simp [execOp, Instr.makeMap, newObj, Sem.run]
  · refine k _ _ _ (hfr.put hd' _) (hs.grow (Keeps.alloc no w _) (N := [gmp kV w.heap.size []]) ⟨fun A hA => ?_, fun A hA b hb => ?_, List.pairwise_singleton _ _⟩)
    · simp at hA; subst hA; exact ⟨#[], 0, heap_alloc_new w _, gMapIs.nil⟩
    · simp at hA; subst hA; exact Nat.le_of_eq (Eq.symm hb)
theorem gMapIs.push {es : Array MapEntry} {c : Nat} {m : List (K × Value)} (h : gMapIs kV es c m) {x : K} (hx : m.lookup x = none) (v : Value) : gMapIs kV (es.push { key := kV x, val := v, born := c }) (c + 1) (m ++ [(x, v)]) := by
  refine ⟨by simp [h.list], ?_, ?_, ?_⟩
  · rw [List.map_append, List.nodup_append]
    refine ⟨h.keys, by simp, fun a ha b hb => ?_⟩
    simp at hb; subst hb
    obtain ⟨p, hp, rfl⟩ := List.mem_map.1 ha
    exact glookup_none.1 hx p hp
  · intro e he
    simp only [Array.toList_push, List.mem_append, List.mem_singleton] at he
    rcases he with he | rfl
    · exact Nat.lt_succ_of_lt (h.old e he)
    · exact Nat.lt_succ_self _
  · simp only [Array.toList_push, List.map_append, List.map_cons, List.map_nil]
    rw [List.nodup_append]
    refine ⟨h.born, by simp, fun a ha b hb => ?_⟩
    simp at hb; subst hb
    obtain ⟨p, hp, rfl⟩ := List.mem_map.1 ha
    exact Nat.ne_of_lt (h.old p hp)
theorem gset_at {m : List (K × Value)} {j : Nat} {x : K} {v0 v : Value} (hn : (m.map (·.1)).Nodup) (hj : m[j]? = some (x, v0)) : m.map (fun p => if p.1 = x then (x, v) else p) = m.set j (x, v) := by
  refine List.ext_getElem? fun i => ?_
  rw [List.getElem?_map, List.getElem?_set]
  by_cases e : j = i
  · subst e
    have hl := (List.getElem?_eq_some_iff.1 hj).1
    rw [hj]; simp [hl]
  · rw [if_neg e]
    cases hi : m[i]? with
    | none => rfl
    | some p =>
      simp only [Option.map_some]
      rw [if_neg]
      intro hp
      have h1 : (m.map (·.1))[i]? = some x := by rw [List.getElem?_map, hi]; simp [hp]
      have h2 : (m.map (·.1))[j]? = some x := by rw [List.getElem?_map, hj]; rfl
      have hil := (List.getElem?_eq_some_iff.1 h1).1
      exact e (((List.getElem?_inj hil hn).1 (h1.trans h2.symm)).symm)
theorem gMapIs.set {es : Array MapEntry} {c : Nat} {m : List (K × Value)} (h : gMapIs kV es c m) {x : K} {j : Nat} {v0 : Value} (hj : m[j]? = some (x, v0)) (hx : m.lookup x = some v0) (v : Value) :
    gMapIs kV (es.modify j fun e => { e with key := kV x, val := v }) c (gsetK m x v) := by
  have e1 : gsetK m x v = m.set j (x, v) := by unfold gsetK; rw [hx]; simpa using gset_at h.keys hj
  have hl := (List.getElem?_eq_some_iff.1 hj).1
  have hsz := h.size
  have hje : j < es.size := by omega
  have e2 : (es.modify j fun e => { e with key := kV x, val := v }).toList = es.toList.set j { (es[j]) with key := kV x, val := v } := by
    refine List.ext_getElem? fun i => ?_
    rw [Array.getElem?_toList, Array.getElem?_modify, List.getElem?_set]
    by_cases e : j = i
    · subst e; simp [hje]
    · simp [e]
  have e3 : (es.toList.set j { (es[j]) with key := kV x, val := v }).map (·.born) = es.toList.map (·.born) := by
    rw [List.map_set]
    refine List.ext_getElem? fun i => ?_
    rw [List.getElem?_set]
    by_cases e : j = i
    · subst e; simp [hje]
    · rw [if_neg e]
  refine ⟨?_, ?_, ?_, ?_⟩
  · rw [e2, e1, List.map_set, List.map_set, h.list]
  · rw [e1, List.map_set]
    have : (m.map (·.1)).set j x = m.map (·.1) := by
      refine List.ext_getElem? fun i => ?_
      rw [List.getElem?_set]
      by_cases e : j = i
      · subst e; simp [hl]; simpa using (congrArg Prod.fst ((List.getElem?_eq_some_iff.1 hj).2)).symm
      · rw [if_neg e]
    simp only [this]
    exact h.keys
  · intro e he
    rw [e2] at he
    have hb : e.born ∈ (es.toList.set j { (es[j]) with key := kV x, val := v }).map (·.born) := List.mem_map.2 ⟨e, he, rfl⟩
    rw [e3] at hb
    obtain ⟨e', he', hq⟩ := List.mem_map.1 hb
    rw [← hq]; exact h.old e' he'
  · rw [e2, e3]; exact h.born
/-- m[x] = y -/
theorem gr_mapset {t kt et : TypeId} {xm xk xv : Operand} {b : Nat} {x : K} {v : Value} {m m' : List (K × Value)} {C' : List Assn} (i : Nat) (hg : gOn ops L g = true) (hm : ev L xm = some (.map (some b))) (hk : ev L xk = some (kV x)) (hv : ev L xv = some v)
    (ht : E.P.underlying t = some (.map kt et)) (hkt : GKey E.P kt kV) (hC : C[i]? = some (gmp kV b m)) (hm' : gsetK m x v = m') (hC' : C.set i (gmp kV b m') = C') (k : RJ E ops Q rest D L C') :
    RJ E ops Q (⟨none, .mapUpdate t xm xk xv, ty, ps, af, g⟩ :: rest) D L C := by
  subst hm' hC'
  intro a w hfr hs
  unfold wpL
  rw [if_pos (gOn_wanted hfr hg)]
  obtain ⟨es, c, he, hi⟩ := hs.holds _ (List.mem_of_getElem? hC)
  have hget : (getObj b).run E.P w = .ok (.map es c) w := MapKept.run_getObj_map he
  rcases grun_find (P := E.P) (w := w) (x := x) hkt hi with ⟨h1, h2⟩ | ⟨j, v0, h1, h2, h3⟩
  · refine wp_skip (w' := { w with heap := w.heap.setIfInBounds b (.map (es.push { key := kV x, val := v, born := c }) (c + 1)) }) (by simp) ?_ ?_
    · simp [execOp, hfr.ev hm, hfr.ev hk, hfr.ev hv, Instr.mapUpdate, run_underlying ht, hget, grun_check hkt, h1, MapKept.run_setObj_map _ he]
    · refine k _ _ ⟨hfr.defers, hfr.size, hfr.at_⟩ (hs.upd (b := b) i hC rfl rfl (keeps_set _) (fun _ h => h) ⟨_, _, heap_set he, ?_⟩)
      have : gsetK m x v = m ++ [(x, v)] := by unfold gsetK; rw [h2]; rfl
      rw [this]; exact hi.push h2 v
  · have hsz := hi.size
    have hje : j < es.size := by have := (List.getElem?_eq_some_iff.1 h2).1; omega
    have hkey : (es[j]).key = kV x := by
      have := congrArg (fun l => l[j]?) hi.list
      simp [hje, h2] at this
      exact this.1
    refine wp_skip (w' := { w with heap := w.heap.setIfInBounds b (.map (es.modify j fun e => { e with key := kV x, val := v }) c) }) (by simp) ?_ ?_
    · simp [execOp, hfr.ev hm, hfr.ev hk, hfr.ev hv, Instr.mapUpdate, run_underlying ht, hget, grun_check hkt, h1, MapKept.run_setObj_map _ he, Instr.keyThatStays, hje, hkey, hkt.bits x]
    · exact k _ _ ⟨hfr.defers, hfr.size, hfr.at_⟩ (hs.upd (b := b) i hC rfl rfl (keeps_set _) (fun _ h => h) ⟨_, _, heap_set he, hi.set h2 h3 v⟩)
theorem gMapIs.del {es : Array MapEntry} {c : Nat} {m : List (K × Value)} (h : gMapIs kV es c m) {x : K} {j : Nat} {v0 : Value} (hj : m[j]? = some (x, v0)) : gMapIs kV (es.eraseIdxIfInBounds j) c (gdelK m x) := by
  have hl := (List.getElem?_eq_some_iff.1 hj).1
  have hsz := h.size
  have hje : j < es.size := by omega
  have e1 : (es.eraseIdxIfInBounds j).toList = es.toList.eraseIdx j := by simp [Array.eraseIdxIfInBounds, hje]
  have e2 : gdelK m x = m.eraseIdx j := by
    have hn := h.keys
    clear h hsz hje e1
    induction m generalizing j with
    | nil => simp at hj
    | cons p m ih =>
      obtain ⟨k, v⟩ := p
      simp only [List.map_cons, List.nodup_cons] at hn
      cases j with
      | zero =>
        simp at hj
        obtain ⟨rfl, rfl⟩ := hj
        simp only [gdelK, List.eraseIdx_zero, List.tail_cons]
        rw [List.filter_cons_of_neg (by simp)]
        refine List.filter_eq_self.2 fun p hp => ?_
        have : p.1 ≠ k := fun e => hn.1 (List.mem_map.2 ⟨p, hp, e⟩)
        simpa using this
      | succ j =>
        simp only [List.getElem?_cons_succ] at hj
        have hne : k ≠ x := fun e => hn.1 (List.mem_map.2 ⟨_, List.mem_of_getElem? hj, e.symm⟩)
        simp only [gdelK, List.eraseIdx_cons_succ] at ih ⊢
        rw [List.filter_cons_of_pos (by simpa using hne), ih hj (by simpa using (List.getElem?_eq_some_iff.1 hj).1) hn.2]
  have sub : (es.eraseIdxIfInBounds j).toList.Sublist es.toList := by rw [e1]; exact List.eraseIdx_sublist _ _
  refine ⟨?_, ?_, fun e he => h.old e (sub.subset he), h.born.sublist (sub.map _)⟩
  · rw [e1, e2, ChangeMaps.map_eraseIdx, ChangeMaps.map_eraseIdx, h.list]
  · rw [e2]; exact h.keys.sublist ((List.eraseIdx_sublist _ _).map _)
theorem gdelK_self {m : List (K × Value)} {x : K} (h : m.lookup x = none) : gdelK m x = m := List.filter_eq_self.2 fun p hp => by simpa using glookup_none.1 h p hp
/-- y, ok := m[x] -/
theorem gsd_look {t kt et : TypeId} {xm xk : Operand} {b : Nat} {x : K} {z : Value} {m : List (K × Value)} (hg : gOn ops L g = true) (hm : ev L xm = some (.map (some b))) (hk : ev L xk = some (kV x))
    (ht : E.P.underlying t = some (.map kt et)) (hkt : GKey E.P kt kV) (hz : tV E.P et = some z) (hC : Has C (gmp kV b m).holds) :
    SD E ops ⟨dst, .lookup t xm xk true, ty, ps, af, g⟩ D L C (.tuple [(m.lookup x).getD z, .bool (m.lookup x).isSome].toArray) :=
  sd_pure hg (by simp) fun a w hfr hs => by
    obtain ⟨es, c, he, hi⟩ := hs.has hC
    have hget : (getObj b).run E.P w = .ok (.map es c) w := MapKept.run_getObj_map he
    rcases grun_find (P := E.P) (w := w) (x := x) hkt hi with ⟨h1, h2⟩ | ⟨j, v0, h1, h2, h3⟩
    · simp [execOp, Instr.lookup, hfr.ev hm, hfr.ev hk, run_underlying ht, hget, grun_check hkt, h1, h2, run_zv hz]
    · simp [execOp, Instr.lookup, hfr.ev hm, hfr.ev hk, run_underlying ht, hget, grun_check hkt, h1, h3]
theorem gsd_look_v {β : Type} {t kt et : TypeId} {xm xk : Operand} {b : Nat} {x : K} {f : β → Value} {z : β} {l : List (K × β)} (hg : gOn ops L g = true) (hm : ev L xm = some (.map (some b))) (hk : ev L xk = some (kV x))
    (ht : E.P.underlying t = some (.map kt et)) (hkt : GKey E.P kt kV) (hz : tV E.P et = some (f z)) (hC : Has C (gmp kV b (gmapV f l)).holds) :
    SD E ops ⟨dst, .lookup t xm xk true, ty, ps, af, g⟩ D L C (.tuple [f ((l.lookup x).getD z), .bool (l.lookup x).isSome].toArray) := by
  have := gsd_look (dst := dst) (ty := ty) (ps := ps) (af := af) (D := D) hg hm hk ht hkt hz hC
  rw [gmapV_lookup] at this
  have e1 : ((l.lookup x).map f).getD (f z) = f ((l.lookup x).getD z) := by cases l.lookup x <;> rfl
  rw [e1, Option.isSome_map] at this
  exact this
end
theorem gdelK_lt {β : Type} {x : K} {y : β} {l : List (K × β)} (h : (x, y) ∈ l) : (gdelK l x).length < l.length := by
  unfold gdelK
  exact List.length_filter_lt_length_iff_exists.2 ⟨_, h, by simp⟩
theorem gmem_delK {β : Type} {x : K} {p : K × β} {l : List (K × β)} : p ∈ gdelK l x ↔ p ∈ l ∧ p.1 ≠ x := by simp [gdelK]
/-- an iterator over a map: what is left; what came last -/
def gmi (kV : K → Value) (r b : Nat) (m left : List (K × Value)) (cur : Option (K × Value)) : Assn where
  foot k := k = r ∨ k = b
  wf k := k = r ∨ k = b
  holds w := r ≠ b ∧ ∃ (es : Array MapEntry) (c since : Nat) (seen : Array Nat) (st : Nat), w.heap[b]? = some (.map es c) ∧ gMapIs kV es c m ∧ w.heap[r]? = some (.mapIter (some b) since seen st) ∧ (∀ e ∈ es.toList, e.born < since) ∧ since ≤ st ∧ since ≤ c ∧
    (leftOf es seen).toList.map (fun (e : MapEntry) => (e.key, e.val)) = left.map (fun p => (kV p.1, p.2)) ∧
    ∀ p, cur = some p → ∃ (e : MapEntry) (seen0 : Array Nat), e ∈ es.toList ∧ seen = seen0.push e.born ∧ st = c ∧ e.key = kV p.1 ∧ e.val = p.2
  wr := true
  wfoot _ h := h
  whole _ _ h := h
  lt w h k hk := by
    obtain ⟨_, es, c, since, seen, st, h1, _, h2, _⟩ := h
    rcases hk with rfl | rfl
    · exact lt_of_heap h2
    · exact lt_of_heap h1
  keep w w' hk h := by
    obtain ⟨hne, es, c, since, seen, st, h1, h2, h3, h4⟩ := h
    exact ⟨hne, es, c, since, seen, st, (hk b (.inr rfl)).trans h1, h2, (hk r (.inl rfl)).trans h3, h4⟩
theorem gmi_none {r b : Nat} {m left : List (K × Value)} {cur : Option (K × Value)} : (∀ w, (gmi kV r b m left cur).holds w → (gmi kV r b m left none).holds w) ∧ (∀ k, (gmi kV r b m left none).foot k → (gmi kV r b m left cur).foot k) ∧ ∀ k, (gmi kV r b m left none).wf k → (gmi kV r b m left cur).wf k :=
  ⟨fun w h => by
    obtain ⟨hne, es, c, since, seen, st, h1, h2, h3, h4, h5, h5', h6, _⟩ := h
    exact ⟨hne, es, c, since, seen, st, h1, h2, h3, h4, h5, h5', h6, fun p hp => by cases hp⟩, fun _ h => h, fun _ h => h⟩
theorem gmi_mp {r b : Nat} {m left : List (K × Value)} {cur : Option (K × Value)} : (∀ w, (gmi kV r b m left cur).holds w → (gmp kV b m).holds w) ∧ (∀ k, (gmp kV b m).foot k → (gmi kV r b m left cur).foot k) ∧ ∀ k, (gmp kV b m).wf k → (gmi kV r b m left cur).wf k :=
  ⟨fun w h => by
    obtain ⟨hne, es, c, since, seen, st, h1, h2, _⟩ := h
    exact ⟨es, c, h1, h2⟩, fun _ h => .inr h, fun _ h => .inr h⟩
theorem gkey_inj {es : Array MapEntry} {c : Nat} {m : List (K × Value)} (hinj : ∀ x y, kV x = kV y → x = y) (hi : gMapIs kV es c m) {x y : MapEntry} (hx : x ∈ es.toList) (hy : y ∈ es.toList) (e : x.key = y.key) : x = y := by
  have hk : (es.toList.map (·.key)) = (m.map (·.1)).map kV := by
    have := congrArg (List.map Prod.fst) hi.list
    simpa [Function.comp_def] using this
  have h : (es.toList.map (·.key)).Nodup := by
    rw [hk, List.nodup_iff_pairwise_ne, List.pairwise_map]
    exact hi.keys.imp (fun hne he => hne (hinj _ _ he))
  obtain ⟨i, hii⟩ := List.getElem?_of_mem hx
  obtain ⟨j, hj⟩ := List.getElem?_of_mem hy
  have h1 : (es.toList.map (·.key))[i]? = some x.key := by rw [List.getElem?_map, hii]; rfl
  have h2 : (es.toList.map (·.key))[j]? = some x.key := by rw [List.getElem?_map, hj, e]; rfl
  have h3 := (List.getElem?_inj (List.getElem?_eq_some_iff.1 h1).1 h).1 (h1.trans h2.symm)
  subst h3
  exact Option.some.inj (hii.symm.trans hj)
section
variable {E : Env} {ops : Array Oper} {Q : Post} {rest : List Oper} {D : List Deferred} {L : List (Nat × Value)} {C : List Assn}
variable {dst : Option Tmp} {d : Nat} {ty : TypeId} {ps : String} {af : Array Edge} {g : Option (Nat × Bool)}
theorem gr_mrange {t kt et : TypeId} {xm : Operand} {b : Nat} {m : List (K × Value)} (i : Nat) (hg : gOn ops L g = true) (hm : ev L xm = some (.map (some b))) (ht : E.P.underlying t = some (.map kt et)) (hC : C[i]? = some (gmp kV b m)) (hd : Nat.blt d E.n = true)
    (k : ∀ r, RJ E ops Q rest D ((d, .pointer (some ⟨r, 0, none⟩)) :: L) (C.set i (gmi kV r b m m none))) : RJ E ops Q (⟨some d, .range t xm, ty, ps, af, g⟩ :: rest) D L C := by
  intro a w hfr hs
  have hd' : d < E.n := by rw [← Nat.blt_eq]; exact hd
  unfold wpL
  rw [if_pos (gOn_wanted hfr hg)]
  obtain ⟨es, c, he, hi⟩ := hs.holds _ (List.mem_of_getElem? hC)
  have hbl : b < w.heap.size := lt_of_heap he
  have hget : (getObj b).run E.P w = .ok (.map es c) w := MapKept.run_getObj_map he
  refine wp_value (v := .pointer (some ⟨w.heap.size, 0, none⟩)) (w' := w.alloc (.mapIter (some b) c #[] c)) (by simp) ?_ ?_
  · simp [execOp, Instr.range, hfr.ev hm, run_underlying ht, hget, newObj, Sem.run]
  · refine k _ _ _ (hfr.put hd' _) (hs.mv i hC ⟨⟨by omega, es, c, c, #[], c, ?_, hi, heap_alloc_new w _, hi.old, Nat.le_refl _, Nat.le_refl _, ?_, fun p hp => by cases hp⟩, Keeps.alloc _ w _, fun q hq => ?_, fun q hq => ?_⟩)
    · rw [Below.heap_alloc w _ b hbl]; exact he
    · have : leftOf es #[] = es := by unfold leftOf; exact Array.filter_eq_self.2 (by simp)
      rw [this]; exact hi.list
    · rcases hq with rfl | rfl
      · exact .inr (Nat.le_refl _)
      · exact .inl rfl
    · rcases hq with rfl | rfl
      · exact .inr (Nat.le_refl _)
      · exact .inl rfl
theorem gleft_keys {es : Array MapEntry} {c : Nat} {m left : List (K × Value)} {seen : Array Nat} (hinj : ∀ x y, kV x = kV y → x = y) (hi : gMapIs kV es c m) (h : (leftOf es seen).toList.map (fun (e : MapEntry) => (e.key, e.val)) = left.map (fun p => (kV p.1, p.2))) : (left.map (·.1)).Nodup := by
  have h1 : ((leftOf es seen).toList.map (·.key)).Sublist (es.toList.map (·.key)) := by
    unfold leftOf; rw [Array.toList_filter]; exact List.filter_sublist.map _
  have h2 : (es.toList.map (·.key)) = (m.map (·.1)).map kV := by
    have := congrArg (List.map Prod.fst) hi.list
    simpa [Function.comp_def] using this
  have h3 : ((leftOf es seen).toList.map (·.key)) = (left.map (·.1)).map kV := by
    have := congrArg (List.map Prod.fst) h
    simpa [Function.comp_def] using this
  rw [h2, h3] at h1
  have h4 : ((m.map (·.1)).map kV).Nodup := by
    rw [List.nodup_iff_pairwise_ne, List.pairwise_map]
    exact hi.keys.imp (fun hne he => hne (hinj _ _ he))
  have h5 := h4.sublist h1
  rw [List.nodup_iff_pairwise_ne, List.pairwise_map] at h5
  rw [List.nodup_iff_pairwise_ne]
  exact h5.imp (fun hne he => hne (by rw [he]))
theorem gr_mnext (hinj : ∀ x y, kV x = kV y → x = y) {xi : Operand} {r b : Nat} {m left : List (K × Value)} {cur : Option (K × Value)} (i : Nat) (hg : gOn ops L g = true) (hm : ev L xi = some (.pointer (some ⟨r, 0, none⟩))) (hC : C[i]? = some (gmi kV r b m left cur)) (hd : Nat.blt d E.n = true)
    (k0 : left = [] → RJ E ops Q rest D ((d, .tuple [.bool false].toArray) :: L) C)
    (k1 : ∀ x v, (x, v) ∈ left → (left.map (·.1)).Nodup → RJ E ops Q rest D ((d, .tuple [.bool true, kV x, v].toArray) :: L) (C.set i (gmi kV r b m (gdelK left x) (some (x, v))))) :
    RJ E ops Q (⟨some d, .next xi false, ty, ps, af, g⟩ :: rest) D L C := by
  intro a w hfr hs
  have hd' : d < E.n := by rw [← Nat.blt_eq]; exact hd
  unfold wpL
  rw [if_pos (gOn_wanted hfr hg)]
  obtain ⟨hne, es, c, since, seen, st, h1, hi, h3, hold, hsc, hsc2, hleft, _⟩ := hs.holds _ (List.mem_of_getElem? hC)
  rcases run_next_at (P := E.P) w ty r b since st seen es c h3 h1 hold hsc with ⟨h0, hr⟩ | ⟨e, he, w1, hw1, hr⟩
  · refine wp_value (v := .tuple #[.bool false]) (w' := w) (by simp) ?_ ?_
    · simp [execOp, hfr.ev hm, hr]
    · refine k0 ?_ _ _ (hfr.put hd' _) hs
      have : (leftOf es seen).toList = [] := by rw [← List.length_eq_zero_iff, Array.length_toList]; exact h0
      rw [this] at hleft
      exact List.map_eq_nil_iff.1 hleft.symm
  · have hmem : (e.key, e.val) ∈ left.map (fun p => (kV p.1, p.2)) := by rw [← hleft]; exact List.mem_map.2 ⟨e, he, rfl⟩
    obtain ⟨p, hp, hpe⟩ := List.mem_map.1 hmem
    obtain ⟨x, v⟩ := p
    simp only [Prod.mk.injEq] at hpe
    obtain ⟨hk, hv⟩ := hpe
    refine wp_value (v := .tuple #[.bool true, e.key, e.val]) (w' := ChangeMaps.setBlock w1 r (.mapIter (some b) since (seen.push e.born) c)) (by simp) ?_ ?_
    · simp [execOp, hfr.ev hm, hr]
    · rw [← hk, ← hv]
      have hnd := gleft_keys hinj hi hleft
      have hees : e ∈ es.toList := by unfold leftOf at he; rw [Array.toList_filter] at he; exact (List.mem_filter.1 he).1
      have hcs : c = c := rfl
      have hheap : w1.heap = w.heap := by rcases hw1 with rfl | rfl <;> rfl
      refine k1 x v hp hnd _ _ (hfr.put hd' _) (hs.mv i hC ⟨⟨hne, es, c, since, seen.push e.born, c, ?_, hi, ?_, hold, hsc2, hsc2, ?_, fun q hq => ?_⟩, ?_, fun q hq => .inl hq, fun q hq => .inl hq⟩)
      · show (w1.heap.setIfInBounds r _)[b]? = _
        rw [Array.getElem?_setIfInBounds_ne hne, hheap]; exact h1
      · show (w1.heap.setIfInBounds r _)[r]? = _
        rw [Array.getElem?_setIfInBounds_self_of_lt (by rw [hheap]; exact lt_of_heap h3)]
      · have hdk : leftOf es (seen.push e.born) = (leftOf es seen).filter (fun z => !(z.born == e.born)) := by
          unfold leftOf
          rw [Array.filter_filter]
          congr 1
          funext z
          simp only [Array.contains_push, Bool.not_or]
          rw [Bool.and_comm]
        rw [hdk, Array.toList_filter]
        have key : ∀ (l : List MapEntry) (ll : List (K × Value)), (∀ z ∈ l, z ∈ es.toList) → l.map (fun (e : MapEntry) => (e.key, e.val)) = ll.map (fun p => (kV p.1, p.2)) →
            (l.filter (fun z => !(z.born == e.born))).map (fun (e : MapEntry) => (e.key, e.val)) = (gdelK ll x).map (fun p => (kV p.1, p.2)) := by
          intro l
          induction l with
          | nil => intro ll _ h; cases ll with
            | nil => rfl
            | cons p ll => simp at h
          | cons z l ih =>
            intro ll hz h
            cases ll with
            | nil => simp at h
            | cons p ll =>
              simp only [List.map_cons, List.cons.injEq, Prod.mk.injEq] at h
              have ih' := ih ll (fun y hy => hz y (by simp [hy])) h.2
              have hiff : (z.born = e.born) ↔ (p.1 = x) := by
                constructor
                · intro hb
                  have : z = e := born_inj hi.born (hz z (by simp)) hees hb
                  rw [this] at h
                  have := h.1.1.symm.trans hk.symm
                  exact hinj _ _ this
                · intro hx
                  have hze : z.key = e.key := by rw [h.1.1, hx, hk]
                  rw [gkey_inj hinj hi (hz z (by simp)) hees hze]
              unfold gdelK at ih' ⊢
              by_cases hx : p.1 = x
              · rw [List.filter_cons_of_neg (by simp [hiff.2 hx]), List.filter_cons_of_neg (by simp [hx])]; exact ih'
              · rw [List.filter_cons_of_pos (by simpa using fun hb => hx (hiff.1 hb)), List.filter_cons_of_pos (by simpa using hx)]
                simp only [List.map_cons, h.1.1, h.1.2, ih']
        exact key _ _ (fun z hz => by unfold leftOf at hz; rw [Array.toList_filter] at hz; exact (List.mem_filter.1 hz).1) hleft
      · cases hq
        exact ⟨e, seen, hees, rfl, rfl, hk.symm, hv.symm⟩
      · refine ⟨?_, ?_, ?_, ?_, fun q hq hn => ?_⟩
        · rcases hw1 with rfl | rfl <;> rfl
        · rcases hw1 with rfl | rfl <;> rfl
        · rcases hw1 with rfl | rfl <;> rfl
        · show w.heap.size ≤ (w1.heap.setIfInBounds r _).size
          simp [hheap]
        · show (w1.heap.setIfInBounds r _)[q]? = _
          rw [Array.getElem?_setIfInBounds_ne (fun e => hn (.inl e.symm)), hheap]
theorem gsd_mentry {xi : Operand} {r b : Nat} {m left : List (K × Value)} {x : K} {v : Value} (i : Nat) (hg : gOn ops L g = true) (hm : ev L xi = some (.pointer (some ⟨r, 0, none⟩))) (hC : C[i]? = some (gmi kV r b m left (some (x, v)))) :
    SD E ops ⟨dst, .entry xi, ty, ps, af, g⟩ D L C (.tuple [kV x, v].toArray) :=
  sd_pure hg (by simp) fun a w hfr hs => by
    obtain ⟨hne, es, c, since, seen, st, h1, hi, h3, hold, hsc, hsc2, hleft, hcur⟩ := hs.holds _ (List.mem_of_getElem? hC)
    obtain ⟨e, seen0, he, rfl, rfl, hk, hv⟩ := hcur _ rfl
    have := run_entry_at (P := E.P) w r b since seen0 es st e h3 h1 he hi.born
    simp [execOp, hfr.ev hm, this, hk, hv]
theorem gr_mnext_v (hinj : ∀ x y, kV x = kV y → x = y) {β : Type} {f : β → Value} {xi : Operand} {r b : Nat} {m : List (K × Value)} {ll : List (K × β)} {cur : Option (K × Value)} (i : Nat) (hg : gOn ops L g = true) (hm : ev L xi = some (.pointer (some ⟨r, 0, none⟩))) (hC : C[i]? = some (gmi kV r b m (gmapV f ll) cur)) (hd : Nat.blt d E.n = true)
    (k0 : ll = [] → RJ E ops Q rest D ((d, .tuple [.bool false].toArray) :: L) C)
    (k1 : ∀ x y, (x, y) ∈ ll → (ll.map (·.1)).Nodup → RJ E ops Q rest D ((d, .tuple [.bool true, kV x, f y].toArray) :: L) (C.set i (gmi kV r b m (gmapV f (gdelK ll x)) (some (x, f y))))) :
    RJ E ops Q (⟨some d, .next xi false, ty, ps, af, g⟩ :: rest) D L C := by
  refine gr_mnext hinj i hg hm hC hd (fun h => k0 (List.map_eq_nil_iff.1 h)) (fun x v hxv hn => ?_)
  obtain ⟨p, hp, hpe⟩ := List.mem_map.1 hxv
  simp only [Prod.mk.injEq] at hpe
  obtain ⟨rfl, rfl⟩ := hpe
  have := k1 p.1 p.2 hp (by simpa [gmapV, Function.comp_def] using hn)
  rwa [gmapV_delK] at this
end
end
end
section
set_option linter.unusedVariables false
structure WatchM where
  Start : Int
  Now : Int
  Least : List Int
  Times : List (List (Int × SpanV))
  Misses : Int
  Fakes : Int
  Sigs : Int
def WatchM.n (w : WatchM) : Nat := w.Least.length
def oneT (s : Int) : TallyV := if s < 0 then ⟨0, 1⟩ else ⟨1, 0⟩
def addT (a b : TallyV) : TallyV := ⟨a.right + b.right, a.missed + b.missed⟩
def timesAt (w : WatchM) (b : Nat) : List (Int × SpanV) := (w.Times[b]?).getD []
def opts (w : WatchM) (b : Nat) : List (Int × SpanV) := (-1, ⟨w.Start, w.Now⟩) :: timesAt w b
def leastAt (w : WatchM) (b : Nat) : Int := (w.Least[b]?).getD 0
def fwdO (w : WatchM) (b : Nat) (p : TallyV × Int) (o : Int × SpanV) : Option (TallyV × Int) := if max (p.2 + leastAt w b) o.2.Lo ≤ min o.2.Hi w.Now then some (addT p.1 (oneT o.1), max (p.2 + leastAt w b) o.2.Lo) else none
def fwd (w : WatchM) : Nat → List (TallyV × Int)
  | 0 => [(⟨0, 0⟩, w.Start)]
  | b + 1 => (fwd w b).flatMap fun p => (opts w b).filterMap (fwdO w b p)
def bwdO (w : WatchM) (b : Nat) (p : TallyV × Int) (o : Int × SpanV) : Option (TallyV × Int) := if o.2.Lo ≤ min p.2 o.2.Hi then some (addT p.1 (oneT o.1), min p.2 o.2.Hi - leastAt w b) else none
def bwd (w : WatchM) : Nat → List (TallyV × Int)
  | 0 => [(⟨0, 0⟩, w.Now)]
  | k + 1 => (⟨0, 0⟩, w.Now) :: (bwd w k).flatMap fun p => (opts w (w.n - (k + 1))).filterMap (bwdO w (w.n - (k + 1)) p)
def back (w : WatchM) (b : Nat) : List (TallyV × Int) := bwd w (w.n - b)
def mayT (w : WatchM) (t : TallyV) : Bool := decide (t.missed ≤ w.Misses ∧ w.Sigs - t.right ≤ w.Fakes)
theorem mem_fwd_succ {w : WatchM} {b : Nat} {q : TallyV × Int} : q ∈ fwd w (b + 1) ↔ ∃ p ∈ fwd w b, ∃ o ∈ opts w b, fwdO w b p o = some q := by
  simp only [fwd, List.mem_flatMap, List.mem_filterMap]
theorem back_last {w : WatchM} {b : Nat} (h : w.n ≤ b) : back w b = [(⟨0, 0⟩, w.Now)] := by
  unfold back; rw [Nat.sub_eq_zero_of_le h]; rfl
theorem mem_back {w : WatchM} {b : Nat} (h : b < w.n) {q : TallyV × Int} : q ∈ back w b ↔ q = (⟨0, 0⟩, w.Now) ∨ ∃ p ∈ back w (b + 1), ∃ o ∈ opts w b, bwdO w b p o = some q := by
  unfold back
  have e : w.n - b = (w.n - (b + 1)) + 1 := by omega
  rw [e]
  simp only [bwd, List.mem_cons, List.mem_flatMap, List.mem_filterMap]
  rw [show w.n - (w.n - (b + 1) + 1) = b by omega]
def MinOk (m c : List (TallyV × Int)) : Prop := (∀ t v, m.lookup t = some v → (t, v) ∈ c) ∧ ∀ t y, (t, y) ∈ c → ∃ v, m.lookup t = some v ∧ v ≤ y
def MaxOk (m c : List (TallyV × Int)) : Prop := (∀ t v, m.lookup t = some v → (t, v) ∈ c) ∧ ∀ t y, (t, y) ∈ c → ∃ v, m.lookup t = some v ∧ y ≤ v
def SndOk (m c : List (TallyV × Int)) : Prop := ∀ t v, m.lookup t = some v → (t, v) ∈ c
theorem glookup_setG {K β : Type} [DecidableEq K] {m : List (K × β)} {x t : K} {y : β} : (gsetK m x y).lookup t = if t = x then some y else m.lookup t := by
  unfold gsetK
  by_cases hx : (m.lookup x).isSome
  · rw [if_pos hx]
    have key : ∀ l : List (K × β), (l.lookup x).isSome ∨ True → (l.map (fun p => if p.1 = x then (x, y) else p)).lookup t = if t = x then (if (l.lookup x).isSome then some y else none) else l.lookup t := by
      intro l _
      induction l with
      | nil => simp
      | cons p l ih =>
        obtain ⟨k, v⟩ := p
        have ih := ih (.inr trivial)
        by_cases hk : k = x
        · subst hk
          by_cases ht : t = k
          · subst ht; simp [List.lookup]
          · have : (t == k) = false := by simpa using ht
            simp only [List.map_cons, if_true, List.lookup, this, ih, if_neg ht]
        · have hk' : (x == k) = false := by simpa using fun e => hk e.symm
          by_cases ht : t = k
          · subst ht; simp [List.lookup, hk]
          · have h2 : (t == k) = false := by simpa using ht
            simp only [List.map_cons, if_neg hk, List.lookup, h2, ih, hk']
    rw [key m (.inr trivial)]
    by_cases ht : t = x
    · subst ht
      rw [if_pos rfl, if_pos rfl, if_pos hx]
    · rw [if_neg ht, if_neg ht]
  · rw [if_neg hx]
    have hn : m.lookup x = none := by cases h0 : m.lookup x with
      | none => rfl
      | some v => exact absurd (by rw [h0]; rfl) hx
    by_cases ht : t = x
    · subst ht
      rw [if_pos rfl]
      have := glookup_none.1 hn
      clear hn hx
      induction m with
      | nil => simp
      | cons p m ih =>
        obtain ⟨k, v⟩ := p
        have hk : (t == k) = false := by simpa using fun e => this (k, v) (by simp) e.symm
        simp only [List.cons_append, List.lookup, hk]
        exact ih (fun q hq => this q (List.mem_cons_of_mem _ hq))
    · rw [if_neg ht]
      clear hn hx
      induction m with
      | nil =>
        have : (t == x) = false := by simpa using ht
        simp [List.lookup, this]
      | cons p m ih =>
        obtain ⟨k, v⟩ := p
        by_cases hk : t = k
        · subst hk; simp [List.lookup]
        · have : (t == k) = false := by simpa using hk
          simp only [List.cons_append, List.lookup, this]
          exact ih
/-- what a map is after a try -/
def tryLo (m : List (TallyV × Int)) (q : TallyV × Int) : List (TallyV × Int) := match m.lookup q.1 with
  | none => gsetK m q.1 q.2
  | some v => if q.2 < v then gsetK m q.1 q.2 else m
def tryHi (m : List (TallyV × Int)) (q : TallyV × Int) : List (TallyV × Int) := match m.lookup q.1 with
  | none => gsetK m q.1 q.2
  | some v => if v < q.2 then gsetK m q.1 q.2 else m
theorem tryLo_at {m : List (TallyV × Int)} {q : TallyV × Int} {t : TallyV} : (tryLo m q).lookup t = if t = q.1 then some (match m.lookup q.1 with | none => q.2 | some v => min q.2 v) else m.lookup t := by
  unfold tryLo
  cases h : m.lookup q.1 with
  | none => simp only; rw [glookup_setG]
  | some v =>
    simp only
    split
    · rename_i hlt
      rw [glookup_setG, Int.min_eq_left (by omega)]
    · rename_i hlt
      split
      · rename_i e; subst e; rw [h, Int.min_eq_right (by omega)]
      · rfl
theorem tryHi_at {m : List (TallyV × Int)} {q : TallyV × Int} {t : TallyV} : (tryHi m q).lookup t = if t = q.1 then some (match m.lookup q.1 with | none => q.2 | some v => max q.2 v) else m.lookup t := by
  unfold tryHi
  cases h : m.lookup q.1 with
  | none => simp only; rw [glookup_setG]
  | some v =>
    simp only
    split
    · rename_i hlt
      rw [glookup_setG, Int.max_eq_left (by omega)]
    · rename_i hlt
      split
      · rename_i e; subst e; rw [h, Int.max_eq_right (by omega)]
      · rfl
def Lower (m m' : List (TallyV × Int)) : Prop := ∀ t v, m.lookup t = some v → ∃ v', m'.lookup t = some v' ∧ v' ≤ v
def Upper (m m' : List (TallyV × Int)) : Prop := ∀ t v, m.lookup t = some v → ∃ v', m'.lookup t = some v' ∧ v ≤ v'
theorem Lower.refl (m : List (TallyV × Int)) : Lower m m := fun t v h => ⟨v, h, by omega⟩
theorem Upper.refl (m : List (TallyV × Int)) : Upper m m := fun t v h => ⟨v, h, by omega⟩
theorem tryLo_lower {m : List (TallyV × Int)} {q : TallyV × Int} : Lower m (tryLo m q) := fun t v h => by
  rw [tryLo_at]
  split
  · rename_i e; subst e; rw [h]; exact ⟨_, rfl, by simp only; omega⟩
  · exact ⟨v, h, by omega⟩
theorem tryHi_upper {m : List (TallyV × Int)} {q : TallyV × Int} : Upper m (tryHi m q) := fun t v h => by
  rw [tryHi_at]
  split
  · rename_i e; subst e; rw [h]; exact ⟨_, rfl, by simp only; omega⟩
  · exact ⟨v, h, by omega⟩
theorem tryLo_snd {m c : List (TallyV × Int)} {q : TallyV × Int} (h : SndOk m c) (hq : q ∈ c) : SndOk (tryLo m q) c := fun t v hv => by
  rw [tryLo_at] at hv
  split at hv
  · rename_i e
    subst e
    cases hm : m.lookup q.1 with
    | none => simp only [hm, Option.some.injEq] at hv; subst hv; exact hq
    | some x =>
      simp only [hm, Option.some.injEq] at hv; subst hv
      rcases Int.lt_or_le q.2 x with q1 | q1
      · rw [Int.min_eq_left (by omega)]; exact hq
      · rw [Int.min_eq_right (by omega)]; exact h _ _ hm
  · exact h t v hv
theorem tryHi_snd {m c : List (TallyV × Int)} {q : TallyV × Int} (h : SndOk m c) (hq : q ∈ c) : SndOk (tryHi m q) c := fun t v hv => by
  rw [tryHi_at] at hv
  split at hv
  · rename_i e
    subst e
    cases hm : m.lookup q.1 with
    | none => simp only [hm, Option.some.injEq] at hv; subst hv; exact hq
    | some x =>
      simp only [hm, Option.some.injEq] at hv; subst hv
      rcases Int.lt_or_le q.2 x with q1 | q1
      · rw [Int.max_eq_right (by omega)]; exact h _ _ hm
      · rw [Int.max_eq_left (by omega)]; exact hq
  · exact h t v hv
theorem tryLo_has {m : List (TallyV × Int)} {q : TallyV × Int} : ∃ v, (tryLo m q).lookup q.1 = some v ∧ v ≤ q.2 := by
  rw [tryLo_at, if_pos rfl]
  refine ⟨_, rfl, ?_⟩
  cases m.lookup q.1 <;> simp only <;> omega
theorem tryHi_has {m : List (TallyV × Int)} {q : TallyV × Int} : ∃ v, (tryHi m q).lookup q.1 = some v ∧ q.2 ≤ v := by
  rw [tryHi_at, if_pos rfl]
  refine ⟨_, rfl, ?_⟩
  cases m.lookup q.1 <;> simp only <;> omega
/-- all that comes of one entry, by some options, is held -/
def DoneLo (w : WatchM) (b : Nat) (m : List (TallyV × Int)) (p : TallyV × Int) (os : List (Int × SpanV)) : Prop := ∀ o ∈ os, ∀ q, fwdO w b p o = some q → ∃ v, m.lookup q.1 = some v ∧ v ≤ q.2
def DoneHi (w : WatchM) (b : Nat) (m : List (TallyV × Int)) (p : TallyV × Int) (os : List (Int × SpanV)) : Prop := ∀ o ∈ os, ∀ q, bwdO w b p o = some q → ∃ v, m.lookup q.1 = some v ∧ q.2 ≤ v
theorem DoneLo.lower {w : WatchM} {b : Nat} {m m' : List (TallyV × Int)} {p : TallyV × Int} {os : List (Int × SpanV)} (h : DoneLo w b m p os) (hl : Lower m m') : DoneLo w b m' p os := fun o ho q hq => by
  obtain ⟨v, h1, h2⟩ := h o ho q hq
  obtain ⟨v', h3, h4⟩ := hl _ _ h1
  exact ⟨v', h3, by omega⟩
theorem DoneHi.upper {w : WatchM} {b : Nat} {m m' : List (TallyV × Int)} {p : TallyV × Int} {os : List (Int × SpanV)} (h : DoneHi w b m p os) (hl : Upper m m') : DoneHi w b m' p os := fun o ho q hq => by
  obtain ⟨v, h1, h2⟩ := h o ho q hq
  obtain ⟨v', h3, h4⟩ := hl _ _ h1
  exact ⟨v', h3, by omega⟩
theorem DoneLo.sub {w : WatchM} {b : Nat} {m : List (TallyV × Int)} {p : TallyV × Int} {os os' : List (Int × SpanV)} (h : DoneLo w b m p os) (hs : ∀ o ∈ os', o ∈ os) : DoneLo w b m p os' := fun o ho => h o (hs o ho)
theorem DoneHi.sub {w : WatchM} {b : Nat} {m : List (TallyV × Int)} {p : TallyV × Int} {os os' : List (Int × SpanV)} (h : DoneHi w b m p os) (hs : ∀ o ∈ os', o ∈ os) : DoneHi w b m p os' := fun o ho => h o (hs o ho)
theorem DoneLo.add {w : WatchM} {b : Nat} {m m' : List (TallyV × Int)} {p : TallyV × Int} {os : List (Int × SpanV)} {o : Int × SpanV} (h : DoneLo w b m p os) (hl : Lower m m') (hn : ∀ q, fwdO w b p o = some q → ∃ v, m'.lookup q.1 = some v ∧ v ≤ q.2) : DoneLo w b m' p (os ++ [o]) := fun o' ho q hq => by
  rcases List.mem_append.1 ho with ho | ho
  · exact h.lower hl o' ho q hq
  · simp only [List.mem_singleton] at ho; subst ho; exact hn q hq
theorem DoneHi.add {w : WatchM} {b : Nat} {m m' : List (TallyV × Int)} {p : TallyV × Int} {os : List (Int × SpanV)} {o : Int × SpanV} (h : DoneHi w b m p os) (hl : Upper m m') (hn : ∀ q, bwdO w b p o = some q → ∃ v, m'.lookup q.1 = some v ∧ q.2 ≤ v) : DoneHi w b m' p (os ++ [o]) := fun o' ho q hq => by
  rcases List.mem_append.1 ho with ho | ho
  · exact h.upper hl o' ho q hq
  · simp only [List.mem_singleton] at ho; subst ho; exact hn q hq
theorem lookup_of_mem {m : List (TallyV × Int)} (hn : (m.map (·.1)).Nodup) {t : TallyV} {v : Int} : (t, v) ∈ m ↔ m.lookup t = some v := glookup_mem hn
theorem look_one {z t : TallyV} {x v : Int} : List.lookup t [(z, x)] = some v ↔ t = z ∧ v = x := by
  by_cases e : t = z
  · subst e; simp [List.lookup, eq_comm]
  · have : (t == z) = false := by simpa using e
    simp [List.lookup, this, e]
theorem min_first {w : WatchM} : MinOk [(⟨0, 0⟩, w.Start)] (fwd w 0) := by
  refine ⟨fun t v h => ?_, fun t y h => ?_⟩
  · obtain ⟨rfl, rfl⟩ := look_one.1 h
    simp [fwd]
  · simp only [fwd, List.mem_singleton, Prod.mk.injEq] at h
    obtain ⟨rfl, rfl⟩ := h
    exact ⟨w.Start, look_one.2 ⟨rfl, rfl⟩, Int.le_refl _⟩
theorem min_next {w : WatchM} {b : Nat} {mb m : List (TallyV × Int)} (hn : (mb.map (·.1)).Nodup) (h : MinOk mb (fwd w b)) (hs : SndOk m (fwd w (b + 1))) (hd : ∀ p ∈ mb, DoneLo w b m p (opts w b)) : MinOk m (fwd w (b + 1)) := ⟨hs, fun t y hy => by
  obtain ⟨p, hp, o, ho, e⟩ := mem_fwd_succ.1 hy
  obtain ⟨v, h1, h2⟩ := h.2 p.1 p.2 hp
  unfold fwdO at e
  split at e
  · rename_i hle
    simp only [Option.some.injEq, Prod.mk.injEq] at e
    obtain ⟨v', h3, h4⟩ := hd (p.1, v) ((lookup_of_mem hn).2 h1) o ho (addT p.1 (oneT o.1), max (v + leastAt w b) o.2.Lo) (by unfold fwdO; rw [if_pos (by simp only; omega)])
    simp only at h3 h4
    rw [e.1] at h3
    exact ⟨v', h3, by omega⟩
  · cases e⟩
theorem max_last {w : WatchM} {b : Nat} (hb : w.n ≤ b) : MaxOk [(⟨0, 0⟩, w.Now)] (back w b) := by
  rw [back_last hb]
  refine ⟨fun t v h => ?_, fun t y h => ?_⟩
  · obtain ⟨rfl, rfl⟩ := look_one.1 h
    simp
  · simp only [List.mem_singleton, Prod.mk.injEq] at h
    obtain ⟨rfl, rfl⟩ := h
    exact ⟨w.Now, look_one.2 ⟨rfl, rfl⟩, Int.le_refl _⟩
theorem max_next {w : WatchM} {b : Nat} (hb : b < w.n) {mb m : List (TallyV × Int)} (hn : (mb.map (·.1)).Nodup) (h : MaxOk mb (back w (b + 1))) (hs : SndOk m (back w b)) (h0 : ∃ v, m.lookup ⟨0, 0⟩ = some v ∧ w.Now ≤ v) (hd : ∀ p ∈ mb, DoneHi w b m p (opts w b)) : MaxOk m (back w b) := ⟨hs, fun t y hy => by
  rcases (mem_back hb).1 hy with e | ⟨p, hp, o, ho, e⟩
  · simp only [Prod.mk.injEq] at e
    obtain ⟨rfl, rfl⟩ := e
    exact h0
  obtain ⟨v, h1, h2⟩ := h.2 p.1 p.2 hp
  unfold bwdO at e
  split at e
  · rename_i hle
    simp only [Option.some.injEq, Prod.mk.injEq] at e
    obtain ⟨v', h3, h4⟩ := hd (p.1, v) ((lookup_of_mem hn).2 h1) o ho (addT p.1 (oneT o.1), min v o.2.Hi - leastAt w b) (by unfold bwdO; rw [if_pos (by simp only; omega)])
    simp only at h3 h4
    rw [e.1] at h3
    exact ⟨v', h3, by omega⟩
  · cases e⟩
end
section
set_option linter.unusedVariables false
def passX (w : WatchM) (b : Nat) (p u : TallyV × Int) (o : Int × SpanV) : SpanV := ⟨max (p.2 + leastAt w b) o.2.Lo, min u.2 o.2.Hi⟩
def passT (p u : TallyV × Int) (o : Int × SpanV) : TallyV := addT (addT p.1 u.1) (oneT o.1)
def passO (w : WatchM) (b : Nat) (p u : TallyV × Int) (o : Int × SpanV) : Option (Int × SpanV) := if (passX w b p u o).Lo ≤ (passX w b p u o).Hi ∧ mayT w (passT p u o) = true then some (o.1, passX w b p u o) else none
def passM (w : WatchM) (b : Nat) (mf mb : List (TallyV × Int)) : List (Int × SpanV) := (opts w b).flatMap fun o => mf.flatMap fun p => mb.filterMap fun u => passO w b p u o
def passW (w : WatchM) (b : Nat) : List (Int × SpanV) := passM w b (fwd w b) (back w (b + 1))
theorem mem_passM {w : WatchM} {b : Nat} {mf mb : List (TallyV × Int)} {q : Int × SpanV} : q ∈ passM w b mf mb ↔ ∃ o ∈ opts w b, ∃ p ∈ mf, ∃ u ∈ mb, passO w b p u o = some q := by
  simp only [passM, List.mem_flatMap, List.mem_filterMap]
theorem passO_some {w : WatchM} {b : Nat} {p u : TallyV × Int} {o q : Int × SpanV} : passO w b p u o = some q ↔ (passX w b p u o).Lo ≤ (passX w b p u o).Hi ∧ mayT w (passT p u o) = true ∧ q = (o.1, passX w b p u o) := by
  unfold passO
  split
  · rename_i h
    simp only [Option.some.injEq]
    exact ⟨fun e => ⟨h.1, h.2, e.symm⟩, fun e => e.2.2.symm⟩
  · rename_i h
    simp only [reduceCtorEq, false_iff]
    exact fun e => h ⟨e.1, e.2.1⟩
theorem pass_le {w : WatchM} {b : Nat} {mf mb : List (TallyV × Int)} {q : Int × SpanV} (h : q ∈ passM w b mf mb) : q.2.Lo ≤ q.2.Hi := by
  obtain ⟨o, _, p, _, u, _, e⟩ := mem_passM.1 h
  obtain ⟨h1, _, rfl⟩ := passO_some.1 e
  exact h1
/-- what the maps tell is what all ways tell -/
theorem pass_in {w : WatchM} {b : Nat} {mf mb : List (TallyV × Int)} (hf : MinOk mf (fwd w b)) (hb : MaxOk mb (back w (b + 1))) (nf : (mf.map (·.1)).Nodup) (nb : (mb.map (·.1)).Nodup) {q : Int × SpanV} (h : q ∈ passM w b mf mb) : q ∈ passW w b := by
  obtain ⟨o, ho, p, hp, u, hu, e⟩ := mem_passM.1 h
  exact mem_passM.2 ⟨o, ho, p, hf.1 _ _ ((lookup_of_mem nf).1 hp), u, hb.1 _ _ ((lookup_of_mem nb).1 hu), e⟩
theorem pass_out {w : WatchM} {b : Nat} {mf mb : List (TallyV × Int)} (hf : MinOk mf (fwd w b)) (hb : MaxOk mb (back w (b + 1))) (nf : (mf.map (·.1)).Nodup) (nb : (mb.map (·.1)).Nodup) {q : Int × SpanV} (h : q ∈ passW w b) : ∃ q' ∈ passM w b mf mb, q'.1 = q.1 ∧ q'.2.Lo ≤ q.2.Lo ∧ q.2.Hi ≤ q'.2.Hi := by
  obtain ⟨o, ho, p, hp, u, hu, e⟩ := mem_passM.1 h
  obtain ⟨h1, h2, rfl⟩ := passO_some.1 e
  obtain ⟨v, hv, hv2⟩ := hf.2 p.1 p.2 hp
  obtain ⟨y, hy, hy2⟩ := hb.2 u.1 u.2 hu
  simp only [passX] at h1
  refine ⟨(o.1, passX w b (p.1, v) (u.1, y) o), mem_passM.2 ⟨o, ho, (p.1, v), (lookup_of_mem nf).2 hv, (u.1, y), (lookup_of_mem nb).2 hy, passO_some.2 ⟨?_, h2, rfl⟩⟩, rfl, ?_, ?_⟩
  · simp only [passX]; omega
  · simp only [passX]; omega
  · simp only [passX]; omega
def noneZ : SpanV := ⟨1, 0⟩
def hullStep (h x : SpanV) : SpanV := if h = noneZ then x else ⟨min x.Lo h.Lo, max x.Hi h.Hi⟩
def hullF (l : List (Int × SpanV)) : SpanV := l.foldl (fun h q => hullStep h q.2) noneZ
structure HullIn (l : List (Int × SpanV)) (h : SpanV) : Prop where
  le : h.Lo ≤ h.Hi
  lo : ∃ x ∈ l, x.2.Lo = h.Lo
  hi : ∃ x ∈ l, x.2.Hi = h.Hi
  all : ∀ x ∈ l, h.Lo ≤ x.2.Lo ∧ x.2.Hi ≤ h.Hi
def HullOk (l : List (Int × SpanV)) (h : SpanV) : Prop := (l = [] ∧ h = noneZ) ∨ HullIn l h
theorem HullIn.ne {l : List (Int × SpanV)} {h : SpanV} (hh : HullIn l h) : h ≠ noneZ := fun e => by
  have := hh.le; rw [e] at this; simp [noneZ] at this
theorem hull_nil : HullOk [] noneZ := .inl ⟨rfl, rfl⟩
theorem hull_step {l : List (Int × SpanV)} {h : SpanV} {q : Int × SpanV} (hh : HullOk l h) (hq : q.2.Lo ≤ q.2.Hi) : HullOk (l ++ [q]) (hullStep h q.2) := by
  right
  rcases hh with ⟨rfl, rfl⟩ | hh
  · unfold hullStep
    rw [if_pos rfl]
    exact ⟨hq, ⟨q, by simp, rfl⟩, ⟨q, by simp, rfl⟩, fun x hx => by simp at hx; subst hx; exact ⟨Int.le_refl _, Int.le_refl _⟩⟩
  · unfold hullStep
    rw [if_neg hh.ne]
    have h1 := hh.le
    obtain ⟨a, ha, ea⟩ := hh.lo
    obtain ⟨c, hc, ec⟩ := hh.hi
    refine ⟨by simp only; omega, ?_, ?_, fun x hx => ?_⟩
    · rcases Int.lt_or_le q.2.Lo h.Lo with p | p
      · exact ⟨q, by simp, by simp only; omega⟩
      · exact ⟨a, by simp [ha], by simp only; omega⟩
    · rcases Int.lt_or_le h.Hi q.2.Hi with p | p
      · exact ⟨q, by simp, by simp only; omega⟩
      · exact ⟨c, by simp [hc], by simp only; omega⟩
    · rcases List.mem_append.1 hx with hx | hx
      · have := hh.all x hx; simp only; omega
      · simp at hx; subst hx; simp only; omega
theorem hull_f {l : List (Int × SpanV)} (hl : ∀ q ∈ l, q.2.Lo ≤ q.2.Hi) : HullOk l (hullF l) := by
  have key : ∀ (r d : List (Int × SpanV)) (h : SpanV), (∀ q ∈ r, q.2.Lo ≤ q.2.Hi) → HullOk d h → HullOk (d ++ r) (r.foldl (fun h q => hullStep h q.2) h) := by
    intro r
    induction r with
    | nil => intro d h _ hd; simpa using hd
    | cons q r ih =>
      intro d h hr hd
      have := ih (d ++ [q]) (hullStep h q.2) (fun x hx => hr x (List.mem_cons_of_mem _ hx)) (hull_step hd (hr q (by simp)))
      simpa using this
  have := key l [] noneZ hl hull_nil
  rw [List.nil_append] at this
  exact this
def Covers (a b : List (Int × SpanV)) : Prop := ∀ x ∈ b, ∃ y ∈ a, y.2.Lo ≤ x.2.Lo ∧ x.2.Hi ≤ y.2.Hi
theorem hull_eq {a b : List (Int × SpanV)} {h k : SpanV} (ha : HullOk a h) (hb : HullOk b k) (hab : Covers a b) (hba : Covers b a) : h = k := by
  rcases ha with ⟨rfl, rfl⟩ | ha
  · rcases hb with ⟨rfl, rfl⟩ | hb
    · rfl
    · obtain ⟨x, hx, _⟩ := hb.lo
      obtain ⟨y, hy, _⟩ := hab x hx
      cases hy
  · rcases hb with ⟨rfl, rfl⟩ | hb
    · obtain ⟨x, hx, _⟩ := ha.lo
      obtain ⟨y, hy, _⟩ := hba x hx
      cases hy
    · have le : ∀ {a b : List (Int × SpanV)} {h k : SpanV}, HullIn a h → HullIn b k → Covers a b → h.Lo ≤ k.Lo ∧ k.Hi ≤ h.Hi := fun {a b h k} ha hb hab => by
        obtain ⟨x, hx, ex⟩ := hb.lo
        obtain ⟨z, hz, ez⟩ := hb.hi
        obtain ⟨y, hy, ey⟩ := hab x hx
        obtain ⟨y', hy', ey'⟩ := hab z hz
        have h1 := ha.all y hy
        have h2 := ha.all y' hy'
        omega
      have h1 := le ha hb hab
      have h2 := le hb ha hba
      rw [SpanV.ext_iff]; omega
theorem hull_maps {w : WatchM} {b : Nat} {mf mb : List (TallyV × Int)} {l : List (Int × SpanV)} {h : SpanV} (hf : MinOk mf (fwd w b)) (hb : MaxOk mb (back w (b + 1))) (nf : (mf.map (·.1)).Nodup) (nb : (mb.map (·.1)).Nodup)
    (hl : ∀ q ∈ l, q ∈ passM w b mf mb) (hl2 : ∀ q ∈ passM w b mf mb, q ∈ l) (hh : HullOk l h) : h = hullF (passW w b) :=
  hull_eq hh (hull_f fun q hq => pass_le hq) (fun x hx => by
    obtain ⟨q, hq, _, h1, h2⟩ := pass_out hf hb nf nb hx
    exact ⟨q, hl2 q hq, h1, h2⟩) (fun x hx => ⟨x, pass_in hf hb nf nb (hl x hx), Int.le_refl _, Int.le_refl _⟩)
def mayAny (w : WatchM) (m : List (TallyV × Int)) : Bool := m.any fun p => mayT w p.1
theorem may_maps {w : WatchM} {b : Nat} {m : List (TallyV × Int)} (h : MinOk m (fwd w b)) (nf : (m.map (·.1)).Nodup) : mayAny w m = mayAny w (fwd w b) := by
  unfold mayAny
  rw [Bool.eq_iff_iff, List.any_eq_true, List.any_eq_true]
  constructor
  · rintro ⟨p, hp, h2⟩
    exact ⟨p, h.1 _ _ ((lookup_of_mem nf).1 hp), h2⟩
  · rintro ⟨p, hp, h2⟩
    obtain ⟨v, hv, _⟩ := h.2 p.1 p.2 hp
    exact ⟨(p.1, v), (lookup_of_mem nf).2 hv, h2⟩
def numsTo (w : WatchM) (k : Nat) : List Int := ((List.range k).filter fun i => mayAny w (fwd w i)).map fun (i : Nat) => (i : Int)
def numsF (w : WatchM) : List Int := numsTo w (w.n + 1)
theorem numsTo_yes {w : WatchM} {k : Nat} (h : mayAny w (fwd w k) = true) : numsTo w (k + 1) = numsTo w k ++ [(k : Int)] := by simp [numsTo, List.range_succ, h]
theorem numsTo_no {w : WatchM} {k : Nat} (h : mayAny w (fwd w k) = false) : numsTo w (k + 1) = numsTo w k := by simp [numsTo, List.range_succ, h]
theorem numsTo_len {w : WatchM} {k : Nat} : (numsTo w k).length ≤ k := by
  unfold numsTo
  rw [List.length_map]
  exact Nat.le_trans (List.length_filter_le _ _) (by simp)
end
section
open Go.RowKit
set_option linter.unusedVariables false
theorem check_num {P : Program} {t : Nat} {k : IntKind} (hu : P.underlying t = some (.int k)) (e : Bool) (n : Nat) (v : Value) (w : World) : (Instr.checkKey e (n + 1) t v).run P w = .ok () w := by
  unfold Instr.checkKey
  simp only [Sem.run_bind, run_underlying hu, Result.andThen]
  cases v <;> rfl
theorem check_struct {P : Program} {kt : Nat} {l : List (Nat × Nat)} (hl : fL P kt = some l) (e : Bool) (n : Nat) (cs : Array Value) (w : World)
    (hf : ∀ p ∈ l, (∃ v, (part p.1 cs p.2).run P w = .ok v w) ∧ ∃ k, P.underlying p.1 = some (.int k)) : (Instr.checkKey e (n + 2) kt (.agg cs)).run P w = .ok () w := by
  unfold fL at hl
  cases hu : P.underlying kt with
  | none => simp [hu] at hl
  | some d =>
    cases d <;> simp [hu] at hl
    rename_i fs
    obtain ⟨hn, hl⟩ := hl
    rw [show n + 2 = (n + 1) + 1 from rfl, Instr.checkKey]
    simp only [Sem.run_bind, run_underlying hu, Result.andThen_ok]
    rw [← Array.forIn_toList]
    have hall : ∀ f ∈ fs.toList, (∃ v, (part f.type cs f.offset).run P w = .ok v w) ∧ ∃ k, P.underlying f.type = some (.int k) := fun f hf' => hf (f.type, f.offset) (by rw [← hl]; exact List.mem_map.2 ⟨f, hf', rfl⟩)
    have hnm : ∀ f ∈ fs.toList, f.name ≠ "_" := fun f hf' => by
      obtain ⟨i, hi, rfl⟩ := List.getElem_of_mem hf'
      exact hn.1.1 i (by simpa using hi)
    clear hl hn hf
    generalize fs.toList = L at hall hnm
    induction L with
    | nil => simp
    | cons f L ih =>
      obtain ⟨⟨v, hv⟩, k, hk⟩ := hall f (by simp)
      have hne := hnm f (by simp)
      simp only [List.forIn_cons, Sem.run_bind, hne, ne_eq, not_false_eq_true, if_true, Result.andThen_ok, hv, check_num hk, Sem.run_pure]
      exact ih (fun y hy => hall y (by simp [hy])) (fun y hy => hnm y (by simp [hy]))
theorem find_struct {P : Program} {kt : Nat} {K : Type} [DecidableEq K] {kV : K → Value} (hw : ∀ (k : Value) (es : List MapEntry) (w : World), (Instr.findKey kt k es).run P w = (Instr.findAsking kt k es).run P w)
    (heq : ∀ x y w, (Op.equal kt (kV x) (kV y)).run P w = .ok (decide (x = y)) w) (inj : ∀ x y, kV x = kV y → x = y) (x : K) (w : World) (es : List MapEntry) (hk : ∀ e ∈ es, ∃ k, e.key = kV k) :
    ((Instr.findKey kt (kV x) es).run P w = .ok none w ∧ ∀ e ∈ es, e.key ≠ kV x) ∨ ∃ j e, (Instr.findKey kt (kV x) es).run P w = .ok (some (j, e.val)) w ∧ es[j]? = some e ∧ e.key = kV x := by
  have key : ∀ (es : List MapEntry) (i : Nat), (∀ e ∈ es, ∃ k, e.key = kV k) → ((Instr.findAsking kt (kV x) es i).run P w = .ok none w ∧ ∀ e ∈ es, e.key ≠ kV x) ∨ ∃ j e, (Instr.findAsking kt (kV x) es i).run P w = .ok (some (i + j, e.val)) w ∧ es[j]? = some e ∧ e.key = kV x := by
    intro es
    induction es with
    | nil => intro i _; exact .inl ⟨by simp [Instr.findAsking], by simp⟩
    | cons e es ih =>
      intro i hall
      obtain ⟨k, hek⟩ := hall e (by simp)
      by_cases h : x = k
      · refine .inr ⟨0, e, ?_, rfl, by rw [hek, h]⟩
        subst h
        simp [Instr.findAsking, hek, heq]
      · rcases ih (i + 1) (fun y hy => hall y (by simp [hy])) with ⟨h1, h2⟩ | ⟨j, e', h1, h2, h3⟩
        · refine .inl ⟨by simp [Instr.findAsking, hek, heq, h, h1], fun y hy => ?_⟩
          rcases List.mem_cons.1 hy with rfl | hy
          · rw [hek]; exact fun q => h (inj _ _ q).symm
          · exact h2 y hy
        · exact .inr ⟨j + 1, e', by simp [Instr.findAsking, hek, heq, h, h1]; omega, by simpa using h2, h3⟩
  rw [hw]
  rcases key es 0 hk with h | ⟨j, e, h1, h2, h3⟩
  · exact .inl h
  · exact .inr ⟨j, e, by simpa using h1, h2, h3⟩
theorem ask_struct {P : Program} {kt : Nat} {l : List (Nat × Nat)} (hl : fL P kt = some l) (k : Value) (es : List MapEntry) (w : World) : (Instr.findKey kt k es).run P w = (Instr.findAsking kt k es).run P w := by
  refine run_findKey_eq w ?_ k es
  unfold fL at hl
  cases hu : P.underlying kt with
  | none => simp [hu] at hl
  | some d => cases d <;> simp [hu] at hl ⊢
theorem gkey_of {P : Program} {kt : Nat} {K : Type} [DecidableEq K] {kV : K → Value} {l : List (Nat × Nat)} (hl : fL P kt = some l) (heq : ∀ x y w, (Op.equal kt (kV x) (kV y)).run P w = .ok (decide (x = y)) w) (inj : ∀ x y, kV x = kV y → x = y)
    (hb : ∀ x, Instr.sameBits 10000 (kV x) (kV x) = true) (hp : ∀ x w, ∃ cs, kV x = .agg cs ∧ ∀ p ∈ l, (∃ v, (part p.1 cs p.2).run P w = .ok v w) ∧ ∃ k, P.underlying p.1 = some (.int k)) : GKey P kt kV :=
  ⟨fun e x w => by obtain ⟨cs, e1, e2⟩ := hp x w; rw [e1]; exact check_struct hl e 9998 cs w e2, fun x w es => find_struct (ask_struct hl) heq inj x w es, hb, inj⟩
end
section
open Go.RowKit
set_option linter.unusedVariables false
set_option linter.unusedSectionVars false
theorem gkey_int {P : Program} {kt : Nat} (hk : P.underlying kt = some (.int .i64)) : GKey P kt (Value.int .i64) := by
  refine ⟨fun e x w => run_check hk e, fun x w es hall => ?_, fun x => by simp [Instr.sameBits], fun x y h => by injection h⟩
  have key : ∀ (es : List MapEntry) (i : Nat), (∀ e ∈ es, ∃ k : Int, e.key = .int .i64 k) → (Instr.findNow (.int .i64) (.int .i64 x) es i = some none ∧ ∀ e ∈ es, e.key ≠ .int .i64 x) ∨ ∃ j e, Instr.findNow (.int .i64) (.int .i64 x) es i = some (some (i + j, e.val)) ∧ es[j]? = some e ∧ e.key = .int .i64 x := by
    intro es
    induction es with
    | nil => intro i _; exact .inl ⟨rfl, by simp⟩
    | cons e es ih =>
      intro i hall
      obtain ⟨k, hek⟩ := hall e (by simp)
      by_cases h : x = k
      · subst h
        exact .inr ⟨0, e, by simp [Instr.findNow, Instr.sameNow, hek], rfl, hek⟩
      · have hb : (x == k) = false := by simpa using h
        rcases ih (i + 1) (fun y hy => hall y (by simp [hy])) with ⟨h1, h2⟩ | ⟨j, e', h1, h2, h3⟩
        · refine .inl ⟨by simp [Instr.findNow, Instr.sameNow, hek, hb, h1], fun y hy => ?_⟩
          rcases List.mem_cons.1 hy with rfl | hy
          · rw [hek]; intro q; injection q with _ q; exact h q.symm
          · exact h2 y hy
        · refine .inr ⟨j + 1, e', ?_, by simpa using h2, h3⟩
          simp only [Instr.findNow, Instr.sameNow, hek, hb, if_true, h1]
          simp; omega
  rcases key es 0 hall with ⟨h1, h2⟩ | ⟨j, e, h1, h2, h3⟩
  · exact .inl ⟨MapKept.run_findKey hk h1, h2⟩
  · exact .inr ⟨j, e, MapKept.run_findKey hk (by simpa using h1), h2, h3⟩
theorem St.grow_on {S : BS} {w0 w w' : World} {C : List Assn} {A N : Assn} (h : St S w0 C w) (i : Nat) (hA : C[i]? = some A) (k : Keeps no w w') (hN : N.holds w') (hf : ∀ b, N.foot b → w.heap.size ≤ b ∨ A.foot b ∧ ¬ A.wf b ∧ ¬ N.wf b) : St S w0 (N :: C) w' := by
  have h' := h.same k
  have hmem := List.mem_of_getElem? hA
  have hi := (List.getElem?_eq_some_iff.1 hA).1
  have hget : C[i] = A := (List.getElem?_eq_some_iff.1 hA).2
  refine ⟨h'.keeps, fun X hX => ?_, List.Pairwise.cons (fun X hX b hb hb' => ?_) h'.sep, fun X hX b hb => ?_, fun X hX b hb => ?_⟩
  · rcases List.mem_cons.1 hX with rfl | hX
    · exact hN
    · exact h'.holds X hX
  · rcases hf b hb with h1 | ⟨h1, h2, h3⟩
    · have := X.lt w (h.holds X hX) b hb'; omega
    · refine ⟨h3, ?_⟩
      obtain ⟨j, hj, hjX⟩ := List.mem_iff_getElem.1 hX
      by_cases e : j = i
      · subst e; rw [← hjX, hget]; exact h2
      · rcases Nat.lt_or_gt_of_ne e with hlt | hlt
        · have := List.pairwise_iff_getElem.1 h.sep j i hj hi hlt b (by rw [hjX]; exact hb') (by rw [hget]; exact h1)
          rw [← hjX]; exact this.1
        · have := List.pairwise_iff_getElem.1 h.sep i j hi hj hlt b (by rw [hget]; exact h1) (by rw [hjX]; exact hb')
          rw [← hjX]; exact this.2
  · rcases List.mem_cons.1 hX with rfl | hX
    · rcases hf b (X.wfoot b hb) with h1 | ⟨_, _, h3⟩
      · exact .inl (Nat.le_trans h.keeps.size h1)
      · exact absurd hb h3
    · exact h'.own X hX b hb
  · rcases List.mem_cons.1 hX with rfl | hX
    · rcases hf b hb with h1 | ⟨h1, _, _⟩
      · exact .inl (Nat.le_trans h.keeps.size h1)
      · exact h.seen A hmem b h1
    · exact h'.seen X hX b hb
section
variable {K : Type} [DecidableEq K] {kV : K → Value}
/-- an iterator over a map that is read alone -/
def gmr (kV : K → Value) (r b : Nat) (m left : List (K × Value)) (cur : Option (K × Value)) : Assn where
  foot k := k = r ∨ k = b
  wf k := k = r
  holds w := r ≠ b ∧ ∃ (es : Array MapEntry) (c since : Nat) (seen : Array Nat) (st : Nat), w.heap[b]? = some (.map es c) ∧ gMapIs kV es c m ∧ w.heap[r]? = some (.mapIter (some b) since seen st) ∧ (∀ e ∈ es.toList, e.born < since) ∧ since ≤ st ∧ since ≤ c ∧
    (leftOf es seen).toList.map (fun (e : MapEntry) => (e.key, e.val)) = left.map (fun p => (kV p.1, p.2)) ∧
    ∀ p, cur = some p → ∃ (e : MapEntry) (seen0 : Array Nat), e ∈ es.toList ∧ seen = seen0.push e.born ∧ st = c ∧ e.key = kV p.1 ∧ e.val = p.2
  wr := false
  wfoot _ h := .inl h
  whole h := by cases h
  lt w h k hk := by
    obtain ⟨_, es, c, since, seen, st, h1, _, h2, _⟩ := h
    rcases hk with rfl | rfl
    · exact lt_of_heap h2
    · exact lt_of_heap h1
  keep w w' hk h := by
    obtain ⟨hne, es, c, since, seen, st, h1, h2, h3, h4⟩ := h
    exact ⟨hne, es, c, since, seen, st, (hk b (.inr rfl)).trans h1, h2, (hk r (.inl rfl)).trans h3, h4⟩
theorem gmr_none {r b : Nat} {m left : List (K × Value)} {cur : Option (K × Value)} : (∀ w, (gmr kV r b m left cur).holds w → (gmr kV r b m left none).holds w) ∧ (∀ k, (gmr kV r b m left none).foot k → (gmr kV r b m left cur).foot k) ∧ ∀ k, (gmr kV r b m left none).wf k → (gmr kV r b m left cur).wf k :=
  ⟨fun w h => by
    obtain ⟨hne, es, c, since, seen, st, h1, h2, h3, h4, h5, h5', h6, _⟩ := h
    exact ⟨hne, es, c, since, seen, st, h1, h2, h3, h4, h5, h5', h6, fun p hp => by cases hp⟩, fun _ h => h, fun _ h => h⟩
section
variable {E : Env} {ops : Array Oper} {Q : Post} {rest : List Oper} {D : List Deferred} {L : List (Nat × Value)} {C : List Assn}
variable {dst : Option Tmp} {d : Nat} {ty : TypeId} {ps : String} {af : Array Edge} {g : Option (Nat × Bool)}
theorem gr_mrangeR {t kt et : TypeId} {xm : Operand} {b : Nat} {m : List (K × Value)} {A : Assn} (i : Nat) (hg : gOn ops L g = true) (hm : ev L xm = some (.map (some b))) (ht : E.P.underlying t = some (.map kt et)) (hA : C[i]? = some A) (hAf : A.foot b ∧ ¬ A.wf b) (hC : Has C (gmp kV b m).holds) (hd : Nat.blt d E.n = true)
    (k : ∀ r, RJ E ops Q rest D ((d, .pointer (some ⟨r, 0, none⟩)) :: L) (gmr kV r b m m none :: C)) : RJ E ops Q (⟨some d, .range t xm, ty, ps, af, g⟩ :: rest) D L C := by
  intro a w hfr hs
  have hd' : d < E.n := by rw [← Nat.blt_eq]; exact hd
  unfold wpL
  rw [if_pos (gOn_wanted hfr hg)]
  obtain ⟨es, c, he, hi⟩ := hs.has hC
  have hbl : b < w.heap.size := lt_of_heap he
  have hget : (getObj b).run E.P w = .ok (.map es c) w := MapKept.run_getObj_map he
  refine wp_value (v := .pointer (some ⟨w.heap.size, 0, none⟩)) (w' := w.alloc (.mapIter (some b) c #[] c)) (by simp) ?_ ?_
  · simp [execOp, Instr.range, hfr.ev hm, run_underlying ht, hget, newObj, Sem.run]
  · refine k _ _ _ (hfr.put hd' _) (hs.grow_on i hA (Keeps.alloc no w _) ⟨by omega, es, c, c, #[], c, ?_, hi, heap_alloc_new w _, hi.old, Nat.le_refl _, Nat.le_refl _, ?_, fun p hp => by cases hp⟩ (fun q hq => ?_))
    · rw [Below.heap_alloc w _ b hbl]; exact he
    · have : leftOf es #[] = es := by unfold leftOf; exact Array.filter_eq_self.2 (by simp)
      rw [this]; exact hi.list
    · rcases hq with rfl | rfl
      · exact .inl (Nat.le_refl _)
      · refine .inr ⟨hAf.1, hAf.2, fun (e : q = w.heap.size) => by omega⟩
theorem gr_mnextR (hinj : ∀ x y, kV x = kV y → x = y) {xi : Operand} {r b : Nat} {m left : List (K × Value)} {cur : Option (K × Value)} (i : Nat) (hg : gOn ops L g = true) (hm : ev L xi = some (.pointer (some ⟨r, 0, none⟩))) (hC : C[i]? = some (gmr kV r b m left cur)) (hd : Nat.blt d E.n = true)
    (k0 : left = [] → RJ E ops Q rest D ((d, .tuple [.bool false].toArray) :: L) C)
    (k1 : ∀ x v, (x, v) ∈ left → (left.map (·.1)).Nodup → RJ E ops Q rest D ((d, .tuple [.bool true, kV x, v].toArray) :: L) (C.set i (gmr kV r b m (gdelK left x) (some (x, v))))) :
    RJ E ops Q (⟨some d, .next xi false, ty, ps, af, g⟩ :: rest) D L C := by
  intro a w hfr hs
  have hd' : d < E.n := by rw [← Nat.blt_eq]; exact hd
  unfold wpL
  rw [if_pos (gOn_wanted hfr hg)]
  obtain ⟨hne, es, c, since, seen, st, h1, hi, h3, hold, hsc, hsc2, hleft, _⟩ := hs.holds _ (List.mem_of_getElem? hC)
  rcases run_next_at (P := E.P) w ty r b since st seen es c h3 h1 hold hsc with ⟨h0, hr⟩ | ⟨e, he, w1, hw1, hr⟩
  · refine wp_value (v := .tuple #[.bool false]) (w' := w) (by simp) ?_ ?_
    · simp [execOp, hfr.ev hm, hr]
    · refine k0 ?_ _ _ (hfr.put hd' _) hs
      have : (leftOf es seen).toList = [] := by rw [← List.length_eq_zero_iff, Array.length_toList]; exact h0
      rw [this] at hleft
      exact List.map_eq_nil_iff.1 hleft.symm
  · have hmem : (e.key, e.val) ∈ left.map (fun p => (kV p.1, p.2)) := by rw [← hleft]; exact List.mem_map.2 ⟨e, he, rfl⟩
    obtain ⟨p, hp, hpe⟩ := List.mem_map.1 hmem
    obtain ⟨x, v⟩ := p
    simp only [Prod.mk.injEq] at hpe
    obtain ⟨hk, hv⟩ := hpe
    refine wp_value (v := .tuple #[.bool true, e.key, e.val]) (w' := ChangeMaps.setBlock w1 r (.mapIter (some b) since (seen.push e.born) c)) (by simp) ?_ ?_
    · simp [execOp, hfr.ev hm, hr]
    · rw [← hk, ← hv]
      have hnd := gleft_keys hinj hi hleft
      have hees : e ∈ es.toList := by unfold leftOf at he; rw [Array.toList_filter] at he; exact (List.mem_filter.1 he).1
      have hcs : c = c := rfl
      have hheap : w1.heap = w.heap := by rcases hw1 with rfl | rfl <;> rfl
      refine k1 x v hp hnd _ _ (hfr.put hd' _) (hs.mv i hC ⟨⟨hne, es, c, since, seen.push e.born, c, ?_, hi, ?_, hold, hsc2, hsc2, ?_, fun q hq => ?_⟩, ?_, fun q hq => .inl hq, fun q hq => .inl hq⟩)
      · show (w1.heap.setIfInBounds r _)[b]? = _
        rw [Array.getElem?_setIfInBounds_ne hne, hheap]; exact h1
      · show (w1.heap.setIfInBounds r _)[r]? = _
        rw [Array.getElem?_setIfInBounds_self_of_lt (by rw [hheap]; exact lt_of_heap h3)]
      · have hdk : leftOf es (seen.push e.born) = (leftOf es seen).filter (fun z => !(z.born == e.born)) := by
          unfold leftOf
          rw [Array.filter_filter]
          congr 1
          funext z
          simp only [Array.contains_push, Bool.not_or]
          rw [Bool.and_comm]
        rw [hdk, Array.toList_filter]
        have key : ∀ (l : List MapEntry) (ll : List (K × Value)), (∀ z ∈ l, z ∈ es.toList) → l.map (fun (e : MapEntry) => (e.key, e.val)) = ll.map (fun p => (kV p.1, p.2)) →
            (l.filter (fun z => !(z.born == e.born))).map (fun (e : MapEntry) => (e.key, e.val)) = (gdelK ll x).map (fun p => (kV p.1, p.2)) := by
          intro l
          induction l with
          | nil => intro ll _ h; cases ll with
            | nil => rfl
            | cons p ll => simp at h
          | cons z l ih =>
            intro ll hz h
            cases ll with
            | nil => simp at h
            | cons p ll =>
              simp only [List.map_cons, List.cons.injEq, Prod.mk.injEq] at h
              have ih' := ih ll (fun y hy => hz y (by simp [hy])) h.2
              have hiff : (z.born = e.born) ↔ (p.1 = x) := by
                constructor
                · intro hb
                  have : z = e := born_inj hi.born (hz z (by simp)) hees hb
                  rw [this] at h
                  have := h.1.1.symm.trans hk.symm
                  exact hinj _ _ this
                · intro hx
                  have hze : z.key = e.key := by rw [h.1.1, hx, hk]
                  rw [gkey_inj hinj hi (hz z (by simp)) hees hze]
              unfold gdelK at ih' ⊢
              by_cases hx : p.1 = x
              · rw [List.filter_cons_of_neg (by simp [hiff.2 hx]), List.filter_cons_of_neg (by simp [hx])]; exact ih'
              · rw [List.filter_cons_of_pos (by simpa using fun hb => hx (hiff.1 hb)), List.filter_cons_of_pos (by simpa using hx)]
                simp only [List.map_cons, h.1.1, h.1.2, ih']
        exact key _ _ (fun z hz => by unfold leftOf at hz; rw [Array.toList_filter] at hz; exact (List.mem_filter.1 hz).1) hleft
      · cases hq
        exact ⟨e, seen, hees, rfl, rfl, hk.symm, hv.symm⟩
      · refine ⟨?_, ?_, ?_, ?_, fun q hq hn => ?_⟩
        · rcases hw1 with rfl | rfl <;> rfl
        · rcases hw1 with rfl | rfl <;> rfl
        · rcases hw1 with rfl | rfl <;> rfl
        · show w.heap.size ≤ (w1.heap.setIfInBounds r _).size
          simp [hheap]
        · show (w1.heap.setIfInBounds r _)[q]? = _
          rw [Array.getElem?_setIfInBounds_ne (fun e => hn e.symm), hheap]
theorem gsd_mentryR {xi : Operand} {r b : Nat} {m left : List (K × Value)} {x : K} {v : Value} (i : Nat) (hg : gOn ops L g = true) (hm : ev L xi = some (.pointer (some ⟨r, 0, none⟩))) (hC : C[i]? = some (gmr kV r b m left (some (x, v)))) :
    SD E ops ⟨dst, .entry xi, ty, ps, af, g⟩ D L C (.tuple [kV x, v].toArray) :=
  sd_pure hg (by simp) fun a w hfr hs => by
    obtain ⟨hne, es, c, since, seen, st, h1, hi, h3, hold, hsc, hsc2, hleft, hcur⟩ := hs.holds _ (List.mem_of_getElem? hC)
    obtain ⟨e, seen0, he, rfl, rfl, hk, hv⟩ := hcur _ rfl
    have := run_entry_at (P := E.P) w r b since seen0 es st e h3 h1 he hi.born
    simp [execOp, hfr.ev hm, this, hk, hv]
theorem gr_mnextR_v (hinj : ∀ x y, kV x = kV y → x = y) {β : Type} {f : β → Value} {xi : Operand} {r b : Nat} {m : List (K × Value)} {ll : List (K × β)} {cur : Option (K × Value)} (i : Nat) (hg : gOn ops L g = true) (hm : ev L xi = some (.pointer (some ⟨r, 0, none⟩))) (hC : C[i]? = some (gmr kV r b m (gmapV f ll) cur)) (hd : Nat.blt d E.n = true)
    (k0 : ll = [] → RJ E ops Q rest D ((d, .tuple [.bool false].toArray) :: L) C)
    (k1 : ∀ x y, (x, y) ∈ ll → (ll.map (·.1)).Nodup → RJ E ops Q rest D ((d, .tuple [.bool true, kV x, f y].toArray) :: L) (C.set i (gmr kV r b m (gmapV f (gdelK ll x)) (some (x, f y))))) :
    RJ E ops Q (⟨some d, .next xi false, ty, ps, af, g⟩ :: rest) D L C := by
  refine gr_mnextR hinj i hg hm hC hd (fun h => k0 (List.map_eq_nil_iff.1 h)) (fun x v hxv hn => ?_)
  obtain ⟨p, hp, hpe⟩ := List.mem_map.1 hxv
  simp only [Prod.mk.injEq] at hpe
  obtain ⟨rfl, rfl⟩ := hpe
  have := k1 p.1 p.2 hp (by simpa [gmapV, Function.comp_def] using hn)
  rwa [gmapV_delK] at this
theorem gr_mapins {t kt et : TypeId} {xm xk xv : Operand} {b : Nat} {x : K} {v : Value} {m m' : List (K × Value)} {C' : List Assn} (i : Nat) (hg : gOn ops L g = true) (hm : ev L xm = some (.map (some b))) (hk : ev L xk = some (kV x)) (hv : ev L xv = some v)
    (ht : E.P.underlying t = some (.map kt et)) (hkt : GKey E.P kt kV) (hC : C[i]? = some (gmp kV b m)) (hm' : gsetK m x v = m') (hC' : C.set i (gmp kV b m') = C') (k : RJ E ops Q rest D L C') :
    RJ E ops Q (⟨none, .insert t xm xk xv, ty, ps, af, g⟩ :: rest) D L C := by
  subst hm' hC'
  intro a w hfr hs
  unfold wpL
  rw [if_pos (gOn_wanted hfr hg)]
  obtain ⟨es, c, he, hi⟩ := hs.holds _ (List.mem_of_getElem? hC)
  have hget : (getObj b).run E.P w = .ok (.map es c) w := MapKept.run_getObj_map he
  rcases grun_find (P := E.P) (w := w) (x := x) hkt hi with ⟨h1, h2⟩ | ⟨j, v0, h1, h2, h3⟩
  · refine wp_skip (w' := { w with heap := w.heap.setIfInBounds b (.map (es.push { key := kV x, val := v, born := c }) (c + 1)) }) (by simp) ?_ ?_
    · simp [execOp, hfr.ev hm, hfr.ev hk, hfr.ev hv, Instr.mapUpdate, run_underlying ht, hget, grun_check hkt, h1, MapKept.run_setObj_map _ he]
    · refine k _ _ ⟨hfr.defers, hfr.size, hfr.at_⟩ (hs.upd (b := b) i hC rfl rfl (keeps_set _) (fun _ h => h) ⟨_, _, heap_set he, ?_⟩)
      have : gsetK m x v = m ++ [(x, v)] := by unfold gsetK; rw [h2]; rfl
      rw [this]; exact hi.push h2 v
  · have hsz := hi.size
    have hje : j < es.size := by have := (List.getElem?_eq_some_iff.1 h2).1; omega
    have hkey : (es[j]).key = kV x := by
      have := congrArg (fun l => l[j]?) hi.list
      simp [hje, h2] at this
      exact this.1
    refine wp_skip (w' := { w with heap := w.heap.setIfInBounds b (.map (es.modify j fun e => { e with key := kV x, val := v }) c) }) (by simp) ?_ ?_
    · simp [execOp, hfr.ev hm, hfr.ev hk, hfr.ev hv, Instr.mapUpdate, run_underlying ht, hget, grun_check hkt, h1, MapKept.run_setObj_map _ he, Instr.keyThatStays, hje, hkey, hkt.bits x]
    · exact k _ _ ⟨hfr.defers, hfr.size, hfr.at_⟩ (hs.upd (b := b) i hC rfl rfl (keeps_set _) (fun _ h => h) ⟨_, _, heap_set he, hi.set h2 h3 v⟩)
end
end
end
section
open Go.RowKit
set_option linter.unusedVariables false
def YlG {σ : Type} (w0 : World) (P : Program) (l : Nat) (step : σ → List Value → σ → Prop) (J : σ → Assn → Prop) (Z : Assn → Prop) : Prop :=
  ∀ k x k' A w, step k x k' → J k A → w0.heap.size ≤ w.heap.size → A.holds w → YieldAt (Fw none) 0 P l x.toArray w fun e w' =>
    (e = .returned (.bool true) ∧ ∃ B, J k' B ∧ Mv A B w w') ∨ (e = .returned (.bool false) ∧ ∃ B, Z B ∧ Mv A B w w')
def EndG {σ : Type} (J : σ → Assn → Prop) (Z : Assn → Prop) (fin : σ → Prop) (A0 : Assn) (w0 : World) (e : Ending) (w' : World) : Prop :=
  ∃ v, e = .returned v ∧ ((∃ s B, fin s ∧ J s B ∧ Mv A0 B w0 w') ∨ ∃ B, Z B ∧ Mv A0 B w0 w')
structure SeqG {σ : Type} (P : Program) (f : FuncId) (fi ca : List Value) (Cp : List Assn) (s0 : σ) (step : σ → List Value → σ → Prop) (fin : σ → Prop) : Prop where
  go : isGo P f = true
  run : ∀ (l : Nat) (J : σ → Assn → Prop) (Z : Assn → Prop) (A0 : Assn) (w : World), YlG w P l step J Z → J s0 A0 → A0.holds w → (∀ A ∈ Cp, A.holds w) → (∀ A ∈ Cp, Sep A0 A.ro) →
    Calls P f (fi ++ Value.func (.yield l) #[] #[] :: ca).toArray w (EndG J Z fin A0 w)
theorem endG {σ : Type} {J : σ → Assn → Prop} {Z : Assn → Prop} {n : σ} {fin : σ → Prop} {A0 B : Assn} {w0 w : World} {C : List Assn} {v : Value} (i : Nat) (hC : C[i]? = some B) (hfin : fin n) (hJ : J n B) (hF : Fo A0 w0 B) (hs : St ⟨A0.wf, fun _ => True⟩ w0 C w) : EndG J Z fin A0 w0 (.returned v) w :=
  ⟨v, rfl, .inl ⟨n, B, hfin, hJ, hs.holds B (List.mem_of_getElem? hC), hs.keeps, fun b hb => (hs.own B (List.mem_of_getElem? hC) b hb).symm, hF⟩⟩
theorem endGz {σ : Type} {J : σ → Assn → Prop} {Z : Assn → Prop} {fin : σ → Prop} {A0 B : Assn} {w0 w : World} {C : List Assn} {v : Value} (i : Nat) (hC : C[i]? = some B) (hJ : Z B) (hF : Fo A0 w0 B) (hs : St ⟨A0.wf, fun _ => True⟩ w0 C w) : EndG J Z fin A0 w0 (.returned v) w :=
  ⟨v, rfl, .inr ⟨B, hJ, hs.holds B (List.mem_of_getElem? hC), hs.keeps, fun b hb => (hs.own B (List.mem_of_getElem? hC) b hb).symm, hF⟩⟩
theorem seqG_of {σ : Type} {P : Program} {f : FuncId} {fn : Func} {c : Code} {fi ca : List Value} {Cp : List Assn} {s0 : σ} {step : σ → List Value → σ → Prop} {fin : σ → Prop} (hgo : isGo P f = true) (hf : P.funcs[f]? = some fn) (hb : fn.body = some c) (hn : Nat.ble (fi.length + ca.length + 1) fn.ntmps = true)
    (h : ∀ (l : Nat) (J : σ → Assn → Prop) (Z : Assn → Prop) (A0 : Assn) (w0 : World) (Q : Post), YlG w0 P l step J Z → J s0 A0 → Fo A0 w0 A0 →
      (∀ D L C, LJ ⟨P, none, fn.ntmps, ⟨A0.wf, fun _ => True⟩, w0⟩ fn (EndG J Z fin A0 w0) D L C → KJ ⟨P, none, fn.ntmps, ⟨A0.wf, fun _ => True⟩, w0⟩ (Q .ret) D L C) →
      (∀ D L C, LJ ⟨P, none, fn.ntmps, ⟨A0.wf, fun _ => True⟩, w0⟩ fn (EndG J Z fin A0 w0) D L C → KJ ⟨P, none, fn.ntmps, ⟨A0.wf, fun _ => True⟩, w0⟩ (Q .normal) D L C) →
      WJ ⟨P, none, fn.ntmps, ⟨A0.wf, fun _ => True⟩, w0⟩ c Q [] (fr0 (fi ++ Value.func (.yield l) #[] #[] :: ca)) (A0 :: Cp.map Assn.ro)) : SeqG P f fi ca Cp s0 step fin := by
  refine ⟨hgo, fun l J Z A0 w hY hJ hA hCp hsep => ?_⟩
  refine fn_of' hf hb (by simpa [Nat.add_assoc] using hn) (h l J Z A0 w · hY hJ (fun b hb => .inl hb)) ?_
  have h0 := ro_holds hCp
  refine ⟨Keeps.refl _ _, fun A hA' => ?_, List.Pairwise.cons (fun B hB => ?_) h0.sep, fun A hA' b hb => ?_, fun _ _ _ _ => .inr trivial⟩
  · rcases List.mem_cons.1 hA' with rfl | hA'
    · exact hA
    · exact h0.holds A hA'
  · obtain ⟨B', hB', rfl⟩ := List.mem_map.1 hB
    exact hsep B' hB'
  · rcases List.mem_cons.1 hA' with rfl | hA'
    · exact .inr hb
    · obtain ⟨B', hB', rfl⟩ := List.mem_map.1 hA'
      exact hb.elim
section
variable {E : Env} {ops : Array Oper} {Q : Post} {rest : List Oper} {D : List Deferred} {L : List (Nat × Value)} {C : List Assn}
variable {d : Nat} {ty : TypeId} {ps : String} {af : Array Edge} {g : Option (Nat × Bool)}
/-- a call of yield -/
theorem r_yieldG {σ : Type} {fop : Operand} {xs : Array Operand} {ts : Array TypeId} {l : Nat} {k k' : σ} {vs : List Value} {step : σ → List Value → σ → Prop} {J : σ → Assn → Prop} {Z : Assn → Prop} {A0 A : Assn} {w1 : World} (i : Nat) (hw1 : w1.heap.size ≤ E.w0.heap.size) (hY : YlG w1 E.P l step J Z) (hJ : J k A) (hF : Fo A0 w1 A) (hg : gOn ops L g = true) (hf : ev L fop = some (.func (.yield l) #[] #[]))
    (hx : evs L xs.toList = some vs) (hk : step k vs k') (hC : C[i]? = some A) (hd : Nat.blt d E.n = true)
    (k1 : ∀ B, J k' B → Fo A0 w1 B → RJ E ops Q rest D ((d, .bool true) :: L) (C.set i B))
    (k2 : ∀ B, Z B → Fo A0 w1 B → RJ E ops Q rest D ((d, .bool false) :: L) (C.set i B)) :
    RJ E ops Q (⟨some d, .call { callee := .value fop, args := xs, argTypes := ts }, ty, ps, af, g⟩ :: rest) D L C := by
  intro a w hfr hs
  have hd' : d < E.n := by rw [← Nat.blt_eq]; exact hd
  unfold wpL
  rw [if_pos (gOn_wanted hfr hg)]
  have h1 : xs.map a.eval = vs.toArray := by
    have := hfr.evs hx
    apply Array.ext'
    simp [this]
  obtain ⟨fn, tmps, assign, body, hy, hr⟩ := hY k vs k' A w hk hJ (Nat.le_trans hw1 hs.keeps.size) (hs.holds A (List.mem_of_getElem? hC))
  have hrun : (execOp a.eval ⟨some d, .call { callee := .value fop, args := xs, argTypes := ts }, ty, ps, af, g⟩).run E.P w = .ok (.round l fn tmps assign body) w := by
    simp [execOp, resolve, hfr.ev hf, Deferred.ofValue, invoke, h1, hy]
  refine ⟨fun _ _ => trivial, ?_⟩
  rw [Oper.semAt_eq _ _ _ (by simp), hrun]
  refine ⟨fun h => by simp at h, ?_⟩
  have hfo : ∀ (B : Assn) (w' : World), Mv A B w w' → Fo A0 w1 B := fun B w' m b hb => by
    rcases m.foot b hb with h2 | h2
    · exact hF b h2
    · exact .inr (Nat.le_trans hw1 (Nat.le_trans hs.keeps.size h2))
  have hr' : RoundIn (Fw E.r) 0 E.P l fn tmps assign body w _ := hr
  refine hr'.mono fun e w' he => ?_
  rcases he with ⟨rfl, B, hB, m⟩ | ⟨rfl, B, hB, m⟩
  · exact k1 B hB (hfo B w' m) _ _ (hfr.put hd' _) (hs.mv i hC m)
  · exact k2 B hB (hfo B w' m) _ _ (hfr.put hd' _) (hs.mv i hC m)
end
theorem w_rangeG {σ : Type} {E : Env} {Q : Post} {D : List Deferred} {L L0 : List (Nat × Value)} {C F : List Assn} {g : Operand} {ps : Array Tmp} {assign body : Code} {f : FuncId} {fi ca : List Value} {Cp : List Assn} {s0 : σ} {step : σ → List Value → σ → Prop} {fin_ : σ → Prop} {ι κ : Type}
    (inv : σ → ι → Prop) (Ci : σ → ι → List Assn) (invx : Code → κ → Prop) (Cx : Code → κ → List Assn) (isJ isF : List Nat) (y0 : ι)
    (hr : E.r = none) (hg : ev L g = some (.func (.func f) fi.toArray ca.toArray)) (hs : SeqG E.P f fi ca Cp s0 step fin_)
    (hnd : decide (isJ ++ isF).Nodup = true) (hJ : sel C isJ = Ci s0 y0) (hF : sel C isF = F) (h0 : inv s0 y0) (hCp : ∀ A ∈ Cp, ∃ B ∈ F, Cov B A)
    (hps : ∀ k x k', step k x k' → x.length = ps.size) (hpn : ps.toList.all (fun t => Nat.blt t E.n) = true) (hL : Sub L L0)
    (round : ∀ (k : σ) (x : List Value) (k' : σ) (y : ι) (l : Nat) (ra rb : Loop) (S : BS) (w0 : World) (K : Act → World → Prop) (Qr : Post), E.w0.heap.size ≤ w0.heap.size → step k x k' → inv k y →
      (∀ L' C', WJ ⟨E.P, some l, E.n, S, w0⟩ body Qr [] L' (obj l (.loop rb) :: C') → KJ ⟨E.P, some l, E.n, S, w0⟩ K [] L' (obj l (.loop ra) :: C')) →
      (∀ y' L' C', inv k' y' → (∀ w, St S w0 C' w → St S w0 (obj l (.loop rb) :: Ci k' y') w) → KJ ⟨E.P, some l, E.n, S, w0⟩ (Qr .normal) [] L' C') →
      (∀ id z L' C', invx (.exit id) z → (∀ w, St S w0 C' w → St S w0 (obj l (.loop rb) :: Cx (.exit id) z) w) → KJ ⟨E.P, some l, E.n, S, w0⟩ (Qr (.exit id)) [] L' C') →
      (∀ z L' C', invx .ret z → (∀ w, St S w0 C' w → St S w0 (obj l (.loop rb) :: Cx .ret z) w) → KJ ⟨E.P, some l, E.n, S, w0⟩ (Qr .ret) [] L' C') →
      WJ ⟨E.P, some l, E.n, S, w0⟩ assign (Exit.then K (fun _ _ _ => False)) [] (parL ps.toList x L0) (obj l (.loop ra) :: Ci k y))
    (fin : ∀ r s y, fin_ s → inv s y → KJ E (Q .normal) (mark r :: D) L0 (obj r (.deferred (some [])) :: (F ++ Ci s y)))
    (finx : ∀ r id z, invx (.exit id) z → KJ E (Q (.exit id)) (mark r :: D) L0 (obj r (.deferred (some [])) :: (F ++ Cx (.exit id) z)))
    (finr : ∀ r z, invx .ret z → KJ E (Q .ret) (mark r :: D) L0 (obj r (.deferred (some [])) :: (F ++ Cx .ret z))) : WJ E (.rangeFunc g ps assign body) Q D L C := by
  intro a w hf hst
  refine wpIn_rangeFunc fun fn _ => ?_
  show ∃ l mark w₁ d w₁' f args w₂, (Instr.enterLoop fn a.tmps ps assign body E.r).run E.P w = .ok (l, mark) w₁ ∧ _
  rw [hr]
  obtain ⟨rec, hrec⟩ : ∃ rec : LoopState → Option Code → Loop, rec = fun st pe => { state := st, pending := pe, fn, tmps := a.tmps, params := ps, assign, body, defers := w.heap.size } := ⟨_, rfl⟩
  obtain ⟨W1, hW1⟩ : ∃ W1, (w.alloc (.deferred (some []))).alloc (.loop (rec .ready none)) = W1 := ⟨_, rfl⟩
  have hev : a.eval g = .func (.func f) fi.toArray ca.toArray := hf.ev hg
  have hent : (Instr.enterLoop fn a.tmps ps assign body none).run E.P w = .ok (w.heap.size + 1, [mark w.heap.size]) W1 := by
    rw [← hW1, hrec]; exact run_enterLoop_outer _ _ _ _ _
  -- the state with the record and the block
  have hst1 : St E.S E.w0 ((obj (w.heap.size + 1) (.loop (rec .ready none)) :: Ci s0 y0) ++ (obj w.heap.size (.deferred (some [])) :: F)) W1 := by
    have h1 : St E.S E.w0 (Ci s0 y0 ++ F) w := St.sel (isJ ++ isF) hnd (by have h1 := hJ; have h2 := hF; unfold Go.Proofs.YthiigjekcdjkkaaGreat.sel at h1 h2 ⊢; rw [List.filterMap_append, h1, h2]) hst
    have hn : New w W1 [obj (w.heap.size + 1) (.loop (rec .ready none)), obj w.heap.size (.deferred (some []))] := by
      refine ⟨fun A hA => ?_, fun A hA b hb => ?_, ?_⟩
      · rcases List.mem_cons.1 hA with rfl | hA
        · show W1.heap[w.heap.size + 1]? = _
          rw [← hW1]; have := World.alloc_heap_new (w.alloc (.deferred (some []))) (.loop (rec .ready none)); rwa [World.size_alloc] at this
        · simp only [List.mem_singleton] at hA; subst hA
          show W1.heap[w.heap.size]? = _
          rw [← hW1]; exact (Below.heap_alloc _ _ _ (by simp)).trans (World.alloc_heap_new w _)
      · rcases List.mem_cons.1 hA with rfl | hA
        · have : b = w.heap.size + 1 := hb
          omega
        · simp only [List.mem_singleton] at hA; subst hA
          have : b = w.heap.size := hb
          omega
      · refine List.Pairwise.cons (fun B hB b h1 h2 => ?_) (List.pairwise_singleton _ _)
        simp only [List.mem_singleton] at hB; subst hB
        have e1 : b = w.heap.size + 1 := h1
        have e2 : b = w.heap.size := h2
        omega
    have hk : Keeps no w W1 := by rw [← hW1]; exact (Keeps.alloc no w _).trans (Keeps.alloc no _ _)
    have h2 := h1.grow hk hn
    refine h2.perm ?_
    simp only [List.cons_append, List.nil_append]
    exact List.Perm.cons _ (List.perm_middle.symm)
  have hb1 := hst1.tied
  obtain ⟨hs1, hs2⟩ := List.pairwise_cons.1 hb1.sep
  have hA0 := hb1.holds _ (List.mem_cons_self ..)
  let J : σ → Assn → Prop := fun k A => ∃ y, inv k y ∧ A = bund (obj (w.heap.size + 1) (.loop (rec .ready none)) :: Ci k y)
  let Z : Assn → Prop := fun A => ∃ c z, (c = .ret ∨ ∃ id, c = .exit id) ∧ invx c z ∧ A = bund (obj (w.heap.size + 1) (.loop (rec .done (some c))) :: Cx c z)
  refine ⟨w.heap.size + 1, [mark w.heap.size], W1, { target := .fn (.func f) ca.toArray, args := fi.toArray ++ #[.func (.yield (w.heap.size + 1)) #[] #[]] }, W1, f,
    (fi ++ Value.func (.yield (w.heap.size + 1)) #[] #[] :: ca).toArray, W1, hent, ?_, fun _ _ => trivial, ?_, fun h => by simp at h, ?_⟩
  · simp only [resolve, hev]
    simp [Deferred.ofValue, Act.eval]
  · have : fi.toArray ++ #[Value.func (.yield (w.heap.size + 1)) #[] #[]] ++ ca.toArray = (fi ++ Value.func (.yield (w.heap.size + 1)) #[] #[] :: ca).toArray := by simp
    simp [invoke, run_callFunc hs.go]
  · refine (calls_in E.r (hs.run (w.heap.size + 1) J Z _ W1 ?_ ⟨y0, h0, rfl⟩ hA0 ?_ ?_)).mono ?_
    · -- a round
      rintro k x k' A W hx ⟨y, hy, rfl⟩ hWs hA
      have hl : W.heap[w.heap.size + 1]? = some (.loop (rec .ready none)) := hA.1 _ (List.mem_cons_self ..)
      have hyl := run_yield (P := E.P) (args := x.toArray) hl (by rw [hrec]; simpa using hps k x k' hx)
      rw [hrec] at hyl
      refine ⟨fn, _, assign, body, hyl, roundIn_of_wpIn trivial ?_⟩
      let A : Assn := bund (obj (w.heap.size + 1) (.loop (rec .ready none)) :: Ci k y)
      have hfr : Fr E.n [] (parL ps.toList x L0) { tmps := (ps.zip x.toArray).foldl (fun tmps (t, a) => tmps.setIfInBounds t a) a.tmps, defers := [] } := by
        have h1 := fr_par ps.toList x L0 a.tmps (fun t ht => by have := List.all_eq_true.1 hpn t ht; rwa [Nat.blt_eq] at this) ⟨rfl, hf.size, fun t v hv => hf.at_ t v (hL t v hv)⟩
        rw [← Array.foldl_toList]
        simpa using h1
      have hbusy : ∀ (c : Option Code) (b : Bool), ({ rec .busy none with state := if b then .ready else .done, pending := c } : Loop) = rec (if b then .ready else .done) c := fun c b => by rw [hrec]
      have hend : ∀ (c : Option Code) (w1 : World) (C' : List Assn) (S : BS), St S W (obj (w.heap.size + 1) (.loop (rec .busy none)) :: C') w1 →
          ∃ w2, (Instr.endRound (w.heap.size + 1) c).run E.P w1 = .ok (.bool c.isNone) w2 ∧ St S W (obj (w.heap.size + 1) (.loop (rec (if c.isNone then .ready else .done) c)) :: C') w2 := fun c w1 C' S hs1 => by
        have hl1 : w1.heap[w.heap.size + 1]? = some (.loop (rec .busy none)) := hs1.holds _ (List.mem_cons_self ..)
        refine ⟨_, run_endRound c hl1, ?_⟩
        have := hs1.upd (b := w.heap.size + 1) (A' := obj (w.heap.size + 1) (.loop (rec (if c.isNone then .ready else .done) c))) 0 rfl rfl rfl (keeps_putObj _) (fun _ h => h) (World.putObj_heap_same (lt_of_heap hl1))
        rw [hbusy]
        exact this
      refine round k x k' y (w.heap.size + 1) (rec .ready none) (rec .busy none) ⟨A.wf, A.foot⟩ W _ (roundPost E.P (w.heap.size + 1) (fun e w' => (e = .returned (.bool true) ∧ ∃ B, J k' B ∧ Mv A B W w') ∨ (e = .returned (.bool false) ∧ ∃ B, Z B ∧ Mv A B W w'))) (Nat.le_trans (Nat.le_trans hst.keeps.size (by rw [← hW1]; simp; omega)) hWs) hx hy ?_ ?_ ?_ ?_ _ _ hfr (St.of_bund hA)
      · intro L' C' hW a1 w1 hf1 hs1
        have hl1 : w1.heap[w.heap.size + 1]? = some (.loop (rec .ready none)) := hs1.holds _ (List.mem_cons_self ..)
        refine ⟨_, run_beginRound hl1 (by rw [hrec]), hW _ _ hf1 ?_⟩
        have := hs1.upd (b := w.heap.size + 1) (A' := obj (w.heap.size + 1) (.loop (rec .busy none))) 0 rfl rfl rfl (keeps_putObj _) (fun _ h => h) (World.putObj_heap_same (lt_of_heap hl1))
        have e : ({ rec .ready none with state := .busy } : Loop) = rec .busy none := by rw [hrec]
        rw [e]; exact this
      · intro y' L' C' hy' hC' a1 w1 hf1 hs1
        obtain ⟨w2, e1, e2⟩ := hend none w1 _ _ (hC' _ hs1)
        exact ⟨_, w2, e1, .inl ⟨rfl, _, ⟨y', hy', rfl⟩, Mv.of e2⟩⟩
      · intro id z L' C' hz hC' a1 w1 hf1 hs1
        obtain ⟨w2, e1, e2⟩ := hend (some (.exit id)) w1 _ _ (hC' _ hs1)
        exact ⟨_, w2, e1, .inr ⟨rfl, _, ⟨_, z, .inr ⟨id, rfl⟩, hz, rfl⟩, Mv.of e2⟩⟩
      · intro z L' C' hz hC' a1 w1 hf1 hs1
        obtain ⟨w2, e1, e2⟩ := hend (some .ret) w1 _ _ (hC' _ hs1)
        exact ⟨_, w2, e1, .inr ⟨rfl, _, ⟨_, z, .inl rfl, hz, rfl⟩, Mv.of e2⟩⟩
    · intro A hA
      obtain ⟨B, hB, hc⟩ := hCp A hA
      exact hc.holds _ (hb1.holds B (List.mem_cons_of_mem _ (List.mem_cons_of_mem _ hB)))
    · intro A hA b hb hb'
      obtain ⟨B, hB, hc⟩ := hCp A hA
      exact ⟨(hs1 B (List.mem_cons_of_mem _ hB) b hb (hc.foot b hb')).1, fun h => h⟩
    · rintro e w' ⟨v, rfl, hh⟩
      have hfin : Fr E.n (mark w.heap.size :: D) L0 { a with defers := [mark w.heap.size] ++ a.defers } := ⟨by simp [hf.defers], hf.size, fun t v hv => hf.at_ t v (hL t v hv)⟩
      have hleave : ∀ (st : LoopState) (c : Option Code) (C' : List Assn), st ≠ .busy → Mv (bund (obj (w.heap.size + 1) (.loop (rec .ready none)) :: Ci s0 y0)) (bund (obj (w.heap.size + 1) (.loop (rec st c)) :: C')) W1 w' →
          ∃ w2, (Instr.endLoop (w.heap.size + 1)).run E.P w' = .ok c w2 ∧ St E.S E.w0 (obj w.heap.size (.deferred (some [])) :: (F ++ C')) w2 := fun st c C' hne m => by
        have h1 := (hb1.mv 0 rfl m).untied
        have h1' : St E.S E.w0 ((obj (w.heap.size + 1) (.loop (rec st c)) :: C') ++ (obj w.heap.size (.deferred (some [])) :: F)) w' := h1
        have hl1 : w'.heap[w.heap.size + 1]? = some (.loop (rec st c)) := h1'.holds (obj (w.heap.size + 1) (.loop (rec st c))) (by simp)
        refine ⟨_, by have := run_endLoop (P := E.P) hl1 (by rw [hrec]; exact hne); rw [this, hrec], ?_⟩
        have h2 := h1'.upd (b := w.heap.size + 1) (A' := obj (w.heap.size + 1) (.loop { rec st c with state := .exhausted })) 0 rfl rfl rfl (keeps_putObj _) (fun _ h => h) (World.putObj_heap_same (lt_of_heap hl1))
        have h3 : St E.S E.w0 (C' ++ (obj w.heap.size (.deferred (some [])) :: F)) _ := h2.take (List.sublist_cons_self _ _)
        rw [hrec] at h3
        refine h3.perm ?_
        exact (List.perm_append_comm).trans (by simp)
      rcases hh with ⟨s, B, hfs, ⟨y, hy, rfl⟩, m⟩ | ⟨B, ⟨c, z, hc, hz, rfl⟩, m⟩
      · obtain ⟨w2, e1, e2⟩ := hleave .ready none _ (by simp) m
        exact ⟨none, w2, e1, fin w.heap.size s y hfs hy _ _ hfin e2⟩
      · obtain ⟨w2, e1, e2⟩ := hleave .done (some c) _ (by simp) m
        refine ⟨some c, w2, e1, ?_⟩
        rcases hc with rfl | ⟨id, rfl⟩
        · exact wpIn_ret (finr w.heap.size z hz _ _ hfin e2)
        · exact wpIn_exit (finx w.heap.size id z hz _ _ hfin e2)
end
section
open Go.RowKit
set_option linter.unusedVariables false
/-- what of a slice is left from k on -/
def sub1 (A : Option Addr) (c k sz : Nat) : Option Addr := if c = k then A else A.map (·.add (k * sz))
section
variable {E : Env} {ops : Array Oper} {Q : Post} {rest : List Oper} {D : List Deferred} {L : List (Nat × Value)} {C : List Assn}
variable {d : Nat} {ty : TypeId} {ps : String} {af : Array Edge} {g : Option (Nat × Bool)}
theorem tE_size {P : Program} {t e sz : Nat} (h : tE P t = some (e, sz)) (w : World) : P.underlying t = some (.slice e) ∧ (sizeOf e).run P w = .ok sz w := by
  unfold tE at h
  split at h
  · rename_i e' hu
    split at h
    · rename_i i hi
      cases h
      exact ⟨hu, by simp [sizeOf, typeInfo, hi]⟩
    · cases h
  · cases h
theorem elem_of {P : Program} {t e : Nat} (h : P.underlying t = some (.slice e)) : P.underlying t = some (.slice (P.elem t)) := by
  rw [h]; simp [Program.elem, h]
theorem elem_is {P : Program} {t e : Nat} (h : P.underlying t = some (.slice e)) : P.elem t = e := by simp [Program.elem, h]
/-- s[k:] -/
theorem SLO (k : Nat) {x lo : Operand} {t e sz n c : Nat} {A : Option Addr} {j : Int} (h : bF E.n ops L d g x lo = some (.slice A n c, .int .i64 j)) (ht : tE E.P t = some (e, sz)) (hj : j = (k : Int)) (hk : k ≤ n) :
    SE E ops ⟨some d, .slice t x (some lo) none none, ty, ps, af, g⟩ D L C (.slice (sub1 A c k sz) (n - k) (c - k)) d := by
  obtain ⟨h1, h2, h3, h4⟩ := bF_out h
  subst hj
  refine ⟨sd_pure h1 (by simp) fun a w hfr hs => ?_, rfl, h2⟩
  obtain ⟨hu, hz⟩ := tE_size ht w
  have hr := run_slice_l (P := E.P) w t A n c (elem_of hu) .i64 (k : Int) (by omega) (by omega)
  rw [elem_is hu, hz] at hr
  simp only [Result.andThen, Int.toNat_natCast, sliced] at hr
  have hs2 := run_sliceAt_slice (P := E.P) w t (.slice A n c) (some (.int .i64 (k : Int))) none none (elem_of hu)
  simp [execOp, hfr.ev h3, hfr.ev h4, hs2, hr, sub1]
/-- s[:k] -/
theorem SHI (k : Nat) {x hi : Operand} {t e sz n c : Nat} {A : Option Addr} {j : Int} (h : bF E.n ops L d g x hi = some (.slice A n c, .int .i64 j)) (ht : tE E.P t = some (e, sz)) (hj : j = (k : Int)) (hk : k ≤ c) :
    SE E ops ⟨some d, .slice t x none (some hi) none, ty, ps, af, g⟩ D L C (.slice A k c) d := by
  obtain ⟨h1, h2, h3, h4⟩ := bF_out h
  subst hj
  refine ⟨sd_pure h1 (by simp) fun a w hfr hs => ?_, rfl, h2⟩
  obtain ⟨hu, hz⟩ := tE_size ht w
  have hr := run_slice_h (P := E.P) w t A n c (elem_of hu) .i64 (k : Int) (by omega) (by omega)
  rw [elem_is hu, hz] at hr
  have e0 : (if c = 0 then A else A.map (·.add (0 * sz))) = A := by
    split
    · rfl
    · cases A with
      | none => rfl
      | some ad => simp [Addr.add]
  simp only [Result.andThen, Int.toNat_natCast, sliced, e0, Nat.sub_zero] at hr
  have hs2 := run_sliceAt_slice (P := E.P) w t (.slice A n c) none (some (.int .i64 (k : Int))) none (elem_of hu)
  simp [execOp, hfr.ev h3, hfr.ev h4, hs2, hr]
end
theorem rd_sub {C : List Assn} {A : Option Addr} {n c k sz : Nat} {es : List (List Value)} (hR : Has C (rd A n sz es).holds) (hk : k ≤ n) (hc : n ≤ c) : Has C (rd (sub1 A c k sz) (n - k) sz (es.drop k)).holds := fun w hw => by
  obtain ⟨h1, h2, h3⟩ := hR w hw
  refine ⟨by rw [List.length_drop, h1], fun x hx => h2 x (List.mem_of_mem_drop hx), fun hp => ?_⟩
  have hnk : 0 < n - k := Nat.pos_of_mul_pos_right hp
  have hs : 0 < sz := Nat.pos_of_mul_pos_left hp
  obtain ⟨ad, hA, hc2⟩ := h3 (Nat.mul_pos (by omega) hs)
  refine ⟨ad.add (k * sz), ?_, fun i e j v he hv => ?_⟩
  · unfold sub1; rw [if_neg (by omega), hA]; rfl
  · rw [List.getElem?_drop] at he
    have := hc2 (k + i) e j v he hv
    rw [add_add, show k * sz + (i * sz + j) = (k + i) * sz + j by rw [Nat.add_mul, Nat.add_assoc]]
    exact this
end
section
open Go.RowKit
set_option linter.unusedVariables false
/-- where a row lies, and its capacity -/
abbrev RA := Option Addr × Nat
/-- what is asked of memory by all elements -/
def nest {M A : Type} (f : M → A → List Assn) : List M → List A → List Assn
  | m :: ms, a :: asl => f m a ++ nest f ms asl
  | _, _ => []
theorem mem_nest {M A : Type} {f : M → A → List Assn} : ∀ {ms : List M} {asl : List A} {k : Nat} {m : M} {a : A} {X : Assn}, ms[k]? = some m → asl[k]? = some a → X ∈ f m a → X ∈ nest f ms asl
  | [], _, k, m, a, X, h, _, _ => by simp at h
  | _ :: _, [], k, m, a, X, _, h, _ => by simp at h
  | x :: ms, y :: asl, 0, m, a, X, h, h2, hX => by
    simp at h h2; subst h h2
    exact List.mem_append_left _ hX
  | x :: ms, y :: asl, k + 1, m, a, X, h, h2, hX => List.mem_append_right _ (mem_nest (ms := ms) (asl := asl) (k := k) (by simpa using h) (by simpa using h2) hX)
theorem nest_mem {M A : Type} {f : M → A → List Assn} : ∀ {ms : List M} {asl : List A} {X : Assn}, X ∈ nest f ms asl → ∃ (k : Nat) (m : M) (a : A), ms[k]? = some m ∧ asl[k]? = some a ∧ X ∈ f m a
  | [], _, X, h => by cases h
  | _ :: _, [], X, h => by cases h
  | x :: ms, y :: asl, X, h => by
    rcases List.mem_append.1 h with h | h
    · exact ⟨0, x, y, rfl, rfl, h⟩
    · obtain ⟨k, m, a, h1, h2, h3⟩ := nest_mem h
      exact ⟨k + 1, m, a, by simpa using h1, by simpa using h2, h3⟩
theorem nest_append {M A : Type} {f : M → A → List Assn} : ∀ {ms : List M} {asl : List A} {ns : List M} {bs : List A}, ms.length = asl.length → nest f (ms ++ ns) (asl ++ bs) = nest f ms asl ++ nest f ns bs
  | [], [], ns, bs, _ => rfl
  | [], _ :: _, ns, bs, h => by simp at h
  | _ :: _, [], ns, bs, h => by simp at h
  | x :: ms, y :: asl, ns, bs, h => by
    simp only [List.cons_append, nest, List.append_assoc]
    rw [nest_append (by simpa using h)]
theorem zip_get {M A β : Type} {f : M → A → β} {ms : List M} {asl : List A} {k : Nat} {m : M} {a : A} (h : ms[k]? = some m) (h2 : asl[k]? = some a) : (List.zipWith f ms asl)[k]? = some (f m a) := by
  rw [List.getElem?_zipWith, h, h2]
theorem has_inr {C L : List Assn} {A : Assn} (i : Nat) (hC : C[i]? = some (bun L).ro) (hm : A ∈ L) : Has C A.holds := fun w hw => hw _ (List.mem_of_getElem? hC) A hm
theorem bun_bund {M A : Type} {f g : M → A → List Assn} {ms : List M} {asl : List A} {C : List Assn} (i : Nat) (hC : C[i]? = some (bund (nest g ms asl))) (h : ∀ m a w, (∀ X ∈ g m a, X.holds w) → ∀ X ∈ f m a, X.holds w) : Has C (bun (nest f ms asl)).holds := fun w hw X hX => by
  have hb := hw _ (List.mem_of_getElem? hC)
  obtain ⟨k, m, a, h1, h2, h3⟩ := nest_mem hX
  exact h m a w (fun Y hY => hb.1 Y (mem_nest h1 h2 hY)) X h3
/-- a row that is part of another one -/
theorem rd_take {C : List Assn} {A : Option Addr} {n k sz : Nat} {es : List (List Value)} (hR : Has C (rd A n sz es).holds) (hk : k ≤ n) : Has C (rd A k sz (es.take k)).holds := fun w hw => by
  obtain ⟨h1, h2, h3⟩ := hR w hw
  refine ⟨by rw [List.length_take, h1]; omega, fun x hx => h2 x (List.mem_of_mem_take hx), fun hp => ?_⟩
  have hk0 : 0 < k := Nat.pos_of_mul_pos_right hp
  have hs : 0 < sz := Nat.pos_of_mul_pos_left hp
  obtain ⟨ad, hA, hc2⟩ := h3 (Nat.mul_pos (by omega) hs)
  refine ⟨ad, hA, fun i e j v he hv => hc2 i e j v ?_ hv⟩
  rw [List.getElem?_take] at he
  split at he
  · exact he
  · cases he
section
variable {E : Env} {ops : Array Oper} {Q : Post} {rest : List Oper} {D : List Deferred} {L : List (Nat × Value)} {C : List Assn}
variable {d : Nat} {ty : TypeId} {ps : String} {af : Array Edge} {g : Option (Nat × Bool)}
/-- an element of a slice that is the head of a row -/
theorem IAH (k : Nat) {x ix : Operand} {A : Option Addr} {n n' c sz e t : Nat} {es : List (List Value)} {j : Int} (h : bF E.n ops L d g x ix = some (.slice A n' c, .int .i64 j)) (hR : Has C (rd A n sz es).holds)
    (ht : tE E.P t = some (e, sz)) (hz : 0 < sz) (hj : j = (k : Int)) (hk : k < n') (hn : n' ≤ n) : SE E ops ⟨some d, .indexAddr t x ix, ty, ps, af, g⟩ D L C (.pointer (padd A (k * sz))) d := IA k h (rd_take hR hn) ht hz hj hk
end
theorem St.tie {S : BS} {w0 w : World} {C : List Assn} {A : Assn} {L L' : List Assn} (h : St S w0 (A :: bund L :: C) w) (e : L ++ [A] = L') : St S w0 (bund L' :: C) w := by
  subst e
  have h1 : St S w0 (bund L :: A :: C) w := h.perm (List.Perm.swap _ _ _)
  have h2 : St S w0 (L ++ (A :: C)) w := h1.untied
  have h3 : St S w0 ((L ++ [A]) ++ C) w := by simpa using h2
  exact h3.tied
theorem St.tie0 {S : BS} {w0 w : World} {C : List Assn} (h : St S w0 C w) : St S w0 (bund [] :: C) w := St.tied (C1 := []) h
section
variable {E : Env} {Q : Post} {D : List Deferred} {L : List (Nat × Value)} {C : List Assn}
theorem w_tie0 {c : Code} (h : WJ E c Q D L (bund [] :: C)) : WJ E c Q D L C := fun a w hf hs => h a w hf hs.tie0
theorem r_tie0 {ops : Array Oper} {rest : List Oper} (h : RJ E ops Q rest D L (bund [] :: C)) : RJ E ops Q rest D L C := fun a w hf hs => h a w hf hs.tie0
theorem k_tie {K : Act → World → Prop} {C1 : List Assn} {A : Assn} {X X' : List Assn} (i j : Nat) (hn : decide (j :: i :: (List.range C.length).filter fun k => k != i && k != j).Nodup = true) (hC : sel C (j :: i :: (List.range C.length).filter fun k => k != i && k != j) = A :: bund X :: C1) (e : X ++ [A] = X')
    (h : KJ E K D L (bund X' :: C1)) : KJ E K D L C := fun a w hf hs => h a w hf ((St.sel _ hn hC hs).tie e)
theorem r_tie {ops : Array Oper} {rest : List Oper} {C1 : List Assn} {A : Assn} {X X' : List Assn} (i j : Nat) (hn : decide (j :: i :: (List.range C.length).filter fun k => k != i && k != j).Nodup = true) (hC : sel C (j :: i :: (List.range C.length).filter fun k => k != i && k != j) = A :: bund X :: C1) (e : X ++ [A] = X')
    (h : RJ E ops Q rest D L (bund X' :: C1)) : RJ E ops Q rest D L C := fun a w hf hs => h a w hf ((St.sel _ hn hC hs).tie e)
end
end
section
open Go.RowKit
set_option linter.unusedVariables false
abbrev spanU : SpanV → Value := fun s => Value.agg (SpanV.cells s).toArray
abbrev tallyU : TallyV → Value := fun s => Value.agg (TallyV.cells s).toArray
abbrev TM := List (Int × SpanV)
abbrev FM := List (TallyV × Int)
def mapC {α : Type} (m : α) (b : Nat) : List Value := [Value.map (some b)]
def tmR (m : TM) (b : Nat) : List Assn := [gmp iV b (gmapV spanU m)]
def fmR (m : FM) (b : Nat) : List Assn := [gmp tallyU b (gmapV iV m)]
theorem bun_same {M A : Type} {f : M → A → List Assn} : ∀ (m : M) (a : A) (w : World), (∀ X ∈ f m a, X.holds w) → ∀ X ∈ f m a, X.holds w := fun _ _ _ h => h
/-- untied -/
theorem r_untie {E : Env} {ops : Array Oper} {Q : Post} {rest : List Oper} {D : List Deferred} {L : List (Nat × Value)} {C X C1 : List Assn} (i : Nat) (hn : decide (i :: (List.range C.length).filter fun k => k != i).Nodup = true) (hC : sel C (i :: (List.range C.length).filter fun k => k != i) = bund X :: C1)
    (h : RJ E ops Q rest D L (X ++ C1)) : RJ E ops Q rest D L C := fun a w hf hs => h a w hf (St.untied (St.sel _ hn hC hs))
end
section
open Go.RowKit
set_option linter.unusedVariables false
/-- a map, or nil -/
def oC (o : Option Nat) : List Value := [Value.map o]
theorem zip_oC {α : Type} : ∀ {ms : List α} {asl : List Nat}, ms.length = asl.length → List.zipWith mapC ms asl = (asl.map some).map oC
  | [], [], _ => rfl
  | [], _ :: _, h => by simp at h
  | _ :: _, [], h => by simp at h
  | x :: ms, y :: asl, h => by simp only [List.zipWith_cons_cons, List.map_cons, zip_oC (ms := ms) (asl := asl) (by simpa using h)]; rfl
/-- what stands for all but one -/
def nestO {M A : Type} (f : M → A → List Assn) (ms : List M) (asl : List A) (k : Nat) : List Assn := nest f (ms.take k) (asl.take k) ++ nest f (ms.drop (k + 1)) (asl.drop (k + 1))
theorem nest_perm {M A : Type} {f : M → A → List Assn} : ∀ {ms : List M} {asl : List A} {k : Nat} {m : M} {a : A}, ms[k]? = some m → asl[k]? = some a → (nest f ms asl).Perm (f m a ++ nestO f ms asl k)
  | [], _, k, m, a, h, _ => by simp at h
  | _ :: _, [], k, m, a, _, h => by simp at h
  | x :: ms, y :: asl, 0, m, a, h, h2 => by
    simp at h h2; subst h h2
    simp [nestO, nest]
  | x :: ms, y :: asl, k + 1, m, a, h, h2 => by
    have ih := nest_perm (f := f) (ms := ms) (asl := asl) (k := k) (by simpa using h) (by simpa using h2)
    show (f x y ++ nest f ms asl).Perm (f m a ++ nestO f (x :: ms) (y :: asl) (k + 1))
    have e : nestO f (x :: ms) (y :: asl) (k + 1) = f x y ++ nestO f ms asl k := by simp [nestO, nest, List.append_assoc]
    rw [e]
    refine (ih.append_left (f x y)).trans ?_
    rw [← List.append_assoc, ← List.append_assoc]
    exact List.perm_append_comm.append_right _
theorem nestO_set {M A : Type} {f : M → A → List Assn} {ms : List M} {asl : List A} {k : Nat} {m' : M} : nestO f (ms.set k m') asl k = nestO f ms asl k := by
  unfold nestO
  rw [List.take_set_of_le (Nat.le_refl k), List.drop_set_of_lt (Nat.lt_succ_self k)]
theorem bund_perm {S : BS} {w0 w : World} {C X Y : List Assn} (hp : X.Perm Y) (h : St S w0 (bund X :: C) w) : St S w0 (bund Y :: C) w := by
  have h1 : St S w0 (X ++ C) w := h.untied
  exact (h1.perm (hp.append_right C)).tied
theorem St.out {M A : Type} {f : M → A → List Assn} {S : BS} {w0 w : World} {C : List Assn} {ms : List M} {asl : List A} {k : Nat} {m : M} {a : A} {X : Assn} (hm : ms[k]? = some m) (ha : asl[k]? = some a) (hf : f m a = [X]) (h : St S w0 (bund (nest f ms asl) :: C) w) : St S w0 (X :: bund (nestO f ms asl k) :: C) w := by
  have h1 := (bund_perm (nest_perm hm ha) h).untied
  rw [hf] at h1
  have h2 : St S w0 (nestO f ms asl k ++ (X :: C)) w := h1.perm (List.perm_middle (a := X) (l₁ := nestO f ms asl k) (l₂ := C)).symm
  exact h2.tied.perm (List.Perm.swap _ _ _)
theorem St.back {M A : Type} {f : M → A → List Assn} {S : BS} {w0 w : World} {C : List Assn} {ms : List M} {asl : List A} {k : Nat} {m' : M} {a : A} {X : Assn} (hk : k < ms.length) (ha : asl[k]? = some a) (hf : f m' a = [X]) (h : St S w0 (X :: bund (nestO f ms asl k) :: C) w) : St S w0 (bund (nest f (ms.set k m') asl) :: C) w := by
  have h1 : St S w0 (bund (nestO f ms asl k) :: X :: C) w := h.perm (List.Perm.swap _ _ _)
  have h2 := h1.untied
  have h3 : St S w0 ((f m' a ++ nestO f (ms.set k m') asl k) ++ C) w := by
    rw [hf, nestO_set]
    exact h2.perm (List.perm_middle (a := X) (l₁ := nestO f ms asl k) (l₂ := C))
  exact bund_perm (nest_perm (List.getElem?_set_self hk) ha).symm h3.tied
section
variable {E : Env} {ops : Array Oper} {Q : Post} {rest : List Oper} {D : List Deferred} {L : List (Nat × Value)} {C C1 : List Assn}
variable {M A : Type} {f : M → A → List Assn} {ms : List M} {asl : List A} {k : Nat} {m : M} {a : A} {X : Assn}
theorem w_out {c : Code} (i : Nat) (hm : ms[k]? = some m) (ha : asl[k]? = some a) (hf : f m a = [X]) (hn : decide (i :: (List.range C.length).filter fun k => k != i).Nodup = true) (hC : sel C (i :: (List.range C.length).filter fun k => k != i) = bund (nest f ms asl) :: C1)
    (h : WJ E c Q D L (X :: bund (nestO f ms asl k) :: C1)) : WJ E c Q D L C := fun a w hf' hs => h a w hf' (St.out hm ha hf (St.sel _ hn hC hs))
theorem k_back {K : Act → World → Prop} (i j : Nat) (hk : k < ms.length) (ha : asl[k]? = some a) (hf : f m a = [X]) (hn : decide (j :: i :: (List.range C.length).filter fun k => k != i && k != j).Nodup = true) (hC : sel C (j :: i :: (List.range C.length).filter fun k => k != i && k != j) = X :: bund (nestO f ms asl k) :: C1)
    (h : KJ E K D L (bund (nest f (ms.set k m) asl) :: C1)) : KJ E K D L C := fun a w hf' hs => h a w hf' (St.back hk ha hf (St.sel _ hn hC hs))
end
end
section
open Go.RowKit
set_option linter.unusedVariables false
structure Frozen (S : BS) (w0 : World) (X : Assn) (C0 : List Assn) (w : World) (S' : BS) : Prop where
  st : St S w0 (X :: C0) w
  w_ : ∀ b, S'.w b ↔ ∃ A ∈ C0, A.wf b
theorem frozen_sep {A B : Assn} (h : Sep A B) : Sep A.ro B := fun b h1 h2 => ⟨fun h => h, (h b h1 h2).2⟩
theorem w_frozen {E : Env} {c : Code} {Q : Post} {D : List Deferred} {L : List (Nat × Value)} {C C0 : List Assn} {X : Assn} (i : Nat) (hn : decide (i :: (List.range C.length).filter fun k => k != i).Nodup = true) (hC : sel C (i :: (List.range C.length).filter fun k => k != i) = X :: C0)
    (h : ∀ w S', Frozen E.S E.w0 X C0 w S' → WJ ⟨E.P, E.r, E.n, S', w⟩ c Q D L (X.ro :: C0)) : WJ E c Q D L C := fun a w hf hs => by
  have h0 := St.sel _ hn hC hs
  obtain ⟨p1, p2⟩ := List.pairwise_cons.1 h0.sep
  refine h w ⟨fun b => ∃ A ∈ C0, A.wf b, fun _ => True⟩ ⟨h0, fun b => Iff.rfl⟩ a w hf ⟨Keeps.refl _ _, fun A hA => ?_, List.Pairwise.cons (fun B hB => frozen_sep (p1 B hB)) p2, fun A hA b hb => ?_, fun A hA b hb => .inr trivial⟩
  · rcases List.mem_cons.1 hA with rfl | hA
    · exact h0.holds X (List.mem_cons_self ..)
    · exact h0.holds A (List.mem_cons_of_mem _ hA)
  · rcases List.mem_cons.1 hA with rfl | hA
    · exact hb.elim
    · exact .inr ⟨A, hA, hb⟩
theorem k_thaw {E : Env} {S' : BS} {w : World} {K : Act → World → Prop} {D : List Deferred} {L : List (Nat × Value)} {C0 C1 C2 : List Assn} {X : Assn} (hz : Frozen E.S E.w0 X C0 w S') (is : List Nat) (hn : decide is.Nodup = true) (hC : sel C2 is = C1) (hwr : C1.all (·.wr) = true)
    (h : KJ E K D L (X :: C1)) : KJ ⟨E.P, E.r, E.n, S', w⟩ K D L C2 := fun a w' hf hs => by
  have h1 := St.sel is hn hC hs
  have h0 := hz.st
  obtain ⟨p1, p2⟩ := List.pairwise_cons.1 h0.sep
  have hno : ∀ b, X.foot b → ¬ S'.w b := fun b hb hw => by
    obtain ⟨A, hA, hw⟩ := (hz.w_ b).1 hw
    exact (p1 A hA b hb (A.wfoot b hw)).2 hw
  have hown : ∀ b, S'.w b → E.w0.heap.size ≤ b ∨ E.S.w b := fun b hb => by
    obtain ⟨A, hA, hw⟩ := (hz.w_ b).1 hb
    exact h0.own A (List.mem_cons_of_mem _ hA) b hw
  have hfr : ∀ A ∈ C1, ∀ b, A.foot b → w.heap.size ≤ b ∨ S'.w b := fun A hA b hb => h1.own A hA b (A.whole (List.all_eq_true.1 hwr A hA) b hb)
  refine h a w' hf ⟨?_, fun A hA => ?_, List.Pairwise.cons (fun B hB b hb hb' => ?_) h1.sep, fun A hA b hb => ?_, fun A hA b hb => ?_⟩
  · refine ⟨h1.keeps.os.trans h0.keeps.os, h1.keeps.tape.trans h0.keeps.tape, h1.keeps.output.trans h0.keeps.output, Nat.le_trans h0.keeps.size h1.keeps.size, fun k hk hn' => ?_⟩
    refine (h1.keeps.block k (Nat.lt_of_lt_of_le hk h0.keeps.size) fun hw => ?_).trans (h0.keeps.block k hk hn')
    rcases hown k hw with q | q
    · omega
    · exact hn' q
  · rcases List.mem_cons.1 hA with rfl | hA
    · have hh := h0.holds A (List.mem_cons_self ..)
      exact A.keep w w' (fun b hb => h1.keeps.block b (A.lt w hh b hb) (hno b hb)) hh
    · exact h1.holds A hA
  · exfalso
    have hl := X.lt w (h0.holds X (List.mem_cons_self ..)) b hb
    rcases hfr B hB b hb' with q | q
    · omega
    · exact hno b hb q
  · rcases List.mem_cons.1 hA with rfl | hA
    · exact h0.own A (List.mem_cons_self ..) b hb
    · rcases h1.own A hA b hb with q | q
      · exact .inl (Nat.le_trans h0.keeps.size q)
      · exact hown b q
  · rcases List.mem_cons.1 hA with rfl | hA
    · exact h0.seen A (List.mem_cons_self ..) b hb
    · rcases hfr A hA b hb with q | q
      · exact .inl (Nat.le_trans h0.keeps.size q)
      · obtain ⟨B, hB, hw⟩ := (hz.w_ b).1 q
        exact h0.seen B (List.mem_cons_of_mem _ hB) b (B.wfoot b hw)
/-- put back, as it was -/
theorem nest_back {M A : Type} {f : M → A → List Assn} {S : BS} {w0 w : World} {C : List Assn} {ms : List M} {asl : List A} {k : Nat} {m : M} {a : A} {X : Assn} (hm : ms[k]? = some m) (ha : asl[k]? = some a) (hf : f m a = [X]) (h : St S w0 (X :: bund (nestO f ms asl k) :: C) w) : St S w0 (bund (nest f ms asl) :: C) w := by
  have h1 : St S w0 (bund (nestO f ms asl k) :: X :: C) w := h.perm (List.Perm.swap _ _ _)
  have h3 : St S w0 ((f m a ++ nestO f ms asl k) ++ C) w := by
    rw [hf]
    exact h1.untied.perm (List.perm_middle (a := X) (l₁ := nestO f ms asl k) (l₂ := C))
  exact bund_perm (nest_perm hm ha).symm h3.tied
theorem k_nest {E : Env} {K : Act → World → Prop} {D : List Deferred} {L : List (Nat × Value)} {C C1 : List Assn} {M A : Type} {f : M → A → List Assn} {ms : List M} {asl : List A} {k : Nat} {m : M} {a : A} {X : Assn} (i j : Nat) (hm : ms[k]? = some m) (ha : asl[k]? = some a) (hf : f m a = [X])
    (hn : decide (j :: i :: (List.range C.length).filter fun k => k != i && k != j).Nodup = true) (hC : sel C (j :: i :: (List.range C.length).filter fun k => k != i && k != j) = X :: bund (nestO f ms asl k) :: C1)
    (h : KJ E K D L (bund (nest f ms asl) :: C1)) : KJ E K D L C := fun a w hf' hs => h a w hf' (nest_back hm ha hf (St.sel _ hn hC hs))
theorem nest_snoc {M A : Type} {f : M → A → List Assn} {ms : List M} {asl : List A} {m : M} {a : A} {X : Assn} (hl : ms.length = asl.length) (hf : f m a = [X]) : nest f ms asl ++ [X] = nest f (ms ++ [m]) (asl ++ [a]) := by
  rw [nest_append hl, ← hf]; simp [nest]
theorem tie_front {E : Env} {K : Act → World → Prop} {D : List Deferred} {L : List (Nat × Value)} {C C1 : List Assn} {M A : Type} {f : M → A → List Assn} {ms : List M} {asl : List A} {m : M} {a : A} {X : Assn} (i j : Nat) (hf : f m a = [X])
    (hn : decide (j :: i :: (List.range C.length).filter fun k => k != i && k != j).Nodup = true) (hC : sel C (j :: i :: (List.range C.length).filter fun k => k != i && k != j) = X :: bund (nest f ms asl) :: C1)
    (h : KJ E K D L (bund (nest f (m :: ms) (a :: asl)) :: C1)) : KJ E K D L C := fun b w hf' hs => by
  have h0 := St.sel _ hn hC hs
  have h1 : St E.S E.w0 (bund (nest f ms asl) :: X :: C1) w := h0.perm (List.Perm.swap _ _ _)
  have h2 : St E.S E.w0 (nest f (m :: ms) (a :: asl) ++ C1) w := by
    show St E.S E.w0 ((f m a ++ nest f ms asl) ++ C1) w
    rw [hf]
    exact h1.untied.perm (List.perm_middle (a := X) (l₁ := nest f ms asl) (l₂ := C1))
  exact h b w hf' h2.tied
end
section
open Go.RowKit
set_option linter.unusedVariables false
abbrev defd (r : Nat) : Assn := obj r (.deferred (some []))
theorem defd_wr (rs : List Nat) : (bund (rs.map defd)).wr = true := by
  show (rs.map defd).all (·.wr) = true
  rw [List.all_eq_true]
  intro X hX
  obtain ⟨r, _, rfl⟩ := List.mem_map.1 hX
  rfl
theorem w_loopD {E : Env} {c : Code} {Q : Post} {D : List Deferred} {L : List (Nat × Value)} {C : List Assn} {ι : Type} (Di : ι → List Deferred) (Li : ι → List (Nat × Value)) (Ci : ι → List Assn) (μ : ι → Nat) (x0 : ι)
    (hD : D = Di x0) (h0 : Sub L (Li x0)) (hC : ∀ w, St E.S E.w0 C w → St E.S E.w0 (Ci x0) w)
    (round : ∀ x (J : Act → World → Prop), (∀ y D' L' C', D' = Di y → μ y < μ x → Sub L' (Li y) → (∀ w, St E.S E.w0 C' w → St E.S E.w0 (Ci y) w) → KJ E J D' L' C') → WJ E c (Exit.then J Q) (Di x) (Li x) (Ci x)) : WJ E (.loop c) Q D L C := by
  intro a w hf hs
  subst hD
  have hst : ∃ x, Fr E.n (Di x) (Li x) a ∧ St E.S E.w0 (Ci x) w := ⟨x0, hf.sub h0, hC w hs⟩
  clear hf hs
  have key : ∀ (m : Nat) (a : Act) (w : World), (∃ x, μ x = m ∧ Fr E.n (Di x) (Li x) a ∧ St E.S E.w0 (Ci x) w) → (Code.loop c).wpIn (Fw E.r) 0 E.P Q a w := by
    intro m a w hx
    refine wpIn_loop (fun a w => ∃ x, Fr E.n (Di x) (Li x) a ∧ St E.S E.w0 (Ci x) w) (fun a w => leastOf fun k => ∃ x, μ x = k ∧ Fr E.n (Di x) (Li x) a ∧ St E.S E.w0 (Ci x) w) (by obtain ⟨x, _, h⟩ := hx; exact ⟨x, h⟩) ?_
    intro a w hx
    have hex : ∃ k, ∃ x, μ x = k ∧ Fr E.n (Di x) (Li x) a ∧ St E.S E.w0 (Ci x) w := by obtain ⟨x, h⟩ := hx; exact ⟨_, x, rfl, h⟩
    obtain ⟨x, hxm, hxf, hxs⟩ := (leastOf_spec hex).1
    refine round x _ ?_ a w hxf hxs
    intro y D' L' C' hD hlt hsub hcc a' w' hf' hs'
    subst hD
    refine ⟨⟨y, hf'.sub hsub, hcc _ hs'⟩, ?_⟩
    rw [← hxm]
    exact Nat.lt_of_le_of_lt ((leastOf_spec ⟨_, y, rfl, hf'.sub hsub, hcc _ hs'⟩).2 _ ⟨y, rfl, hf'.sub hsub, hcc _ hs'⟩) hlt
  obtain ⟨x, h⟩ := hst
  exact key _ a w ⟨x, rfl, h⟩
theorem St.tief {S : BS} {w0 w : World} {C X : List Assn} {A : Assn} (h : St S w0 (A :: bund X :: C) w) : St S w0 (bund (A :: X) :: C) w := by
  have h1 : St S w0 (bund X :: A :: C) w := h.perm (List.Perm.swap _ _ _)
  have h2 : St S w0 ((A :: X) ++ C) w := h1.untied.perm (List.perm_middle (a := A) (l₁ := X) (l₂ := C))
  exact h2.tied
theorem k_tief {E : Env} {K : Act → World → Prop} {D : List Deferred} {L : List (Nat × Value)} {C C1 X : List Assn} {A : Assn} (i j : Nat) (hn : decide (j :: i :: (List.range C.length).filter fun k => k != i && k != j).Nodup = true) (hC : sel C (j :: i :: (List.range C.length).filter fun k => k != i && k != j) = A :: bund X :: C1)
    (h : KJ E K D L (bund (A :: X) :: C1)) : KJ E K D L C := fun a w hf hs => h a w hf ((St.sel _ hn hC hs).tief)
theorem k_tie0 {E : Env} {K : Act → World → Prop} {D : List Deferred} {L : List (Nat × Value)} {C : List Assn} (h : KJ E K D L (bund [] :: C)) : KJ E K D L C := fun a w hf hs => h a w hf hs.tie0
theorem k_tied {E : Env} {K : Act → World → Prop} {D : List Deferred} {L : List (Nat × Value)} (C1 C2 : List Assn) (h : KJ E K D L (bund C1 :: C2)) : KJ E K D L (C1 ++ C2) := fun a w hf hs => h a w hf (St.tied hs)
theorem l_marks {E : Env} {fn : Func} {R : Ending → World → Prop} {D : List Deferred} {L : List (Nat × Value)} {C C1 : List Assn} {rs : List Nat} (i : Nat) (hn : decide (i :: (List.range C.length).filter fun k => k != i).Nodup = true) (hC : sel C (i :: (List.range C.length).filter fun k => k != i) = bund (rs.map defd) :: C1)
    (h : LJ E fn R D L C1) : LJ E fn R (rs.map mark ++ D) L C := by
  have key : ∀ rs : List Nat, LJ E fn R (rs.map mark ++ D) L (bund (rs.map defd) :: C1) := by
    intro rs
    induction rs with
    | nil => exact fun a w hf hs => h a w hf (hs.take (List.sublist_cons_self _ _))
    | cons r rs ih =>
      have h2 : LJ E fn R (mark r :: (rs.map mark ++ D)) L (defd r :: bund (rs.map defd) :: C1) := l_mark 0 rfl rfl (fun a w hf hs => ih a w hf (hs.take (List.sublist_cons_self _ _)))
      intro a w hf hs
      refine h2 a w hf ?_
      have h3 : St E.S E.w0 ((defd r :: rs.map defd) ++ C1) w := St.untied (C1 := defd r :: rs.map defd) hs
      have h4 : St E.S E.w0 (rs.map defd ++ (defd r :: C1)) w := h3.perm (List.perm_middle (a := defd r) (l₁ := rs.map defd) (l₂ := C1)).symm
      exact h4.tied.perm (List.Perm.swap _ _ _)
  exact fun a w hf hs => key rs a w hf (St.sel _ hn hC hs)
theorem l_marks0 {E : Env} {fn : Func} {R : Ending → World → Prop} {L : List (Nat × Value)} {C C1 : List Assn} {rs : List Nat} (i : Nat) (hn : decide (i :: (List.range C.length).filter fun k => k != i).Nodup = true) (hC : sel C (i :: (List.range C.length).filter fun k => k != i) = bund (rs.map defd) :: C1)
    (h : LJ E fn R [] L C1) : LJ E fn R (rs.map mark) L C := by
  have := l_marks (D := []) i hn hC h
  rwa [List.append_nil] at this
end
section
open Go.RowKit
set_option linter.unusedVariables false
theorem fm_wr (fs : List FM) (fb : List Nat) : (bund (nest fmR fs fb)).wr = true := by
  show (nest fmR fs fb).all (·.wr) = true
  rw [List.all_eq_true]
  intro X hX
  obtain ⟨k, m, a, _, _, h⟩ := nest_mem hX
  simp only [fmR, List.mem_singleton] at h
  subst h; rfl
theorem tm_wr (fs : List TM) (fb : List Nat) : (bund (nest tmR fs fb)).wr = true := by
  show (nest tmR fs fb).all (·.wr) = true
  rw [List.all_eq_true]
  intro X hX
  obtain ⟨k, m, a, _, _, h⟩ := nest_mem hX
  simp only [tmR, List.mem_singleton] at h
  subst h; rfl
end
section
set_option linter.unusedVariables false
def watchOf (ln : LineV) (rd : RideV) (e : List Int) (tms : List TM) : WatchM := ⟨rd.Start, rd.Now, e, tms, ln.Misses, ln.Fakes, (rd.Signals.n : Int)⟩
def itemV (o : Int × SpanV) : List Value := [.int .i64 o.1, .agg (SpanV.cells o.2).toArray]
structure WOk (w : WatchM) : Prop where
  n : w.n ≤ 6
  times : w.Times.length = w.n
  now : 0 ≤ w.Start ∧ w.Start ≤ w.Now ∧ w.Now ≤ 86400000
  least : ∀ x ∈ w.Least, 1 ≤ x ∧ x ≤ 500000000
  spans : ∀ t ∈ w.Times, ∀ p ∈ t, (0 ≤ p.1 ∧ p.1 ≤ 10) ∧ 0 ≤ p.2.Lo ∧ p.2.Lo ≤ p.2.Hi ∧ p.2.Hi ≤ 86400000
theorem WOk.opt {w : WatchM} (h : WOk w) {b : Nat} {o : Int × SpanV} (ho : o ∈ opts w b) : (-1 ≤ o.1 ∧ o.1 ≤ 10) ∧ 0 ≤ o.2.Lo ∧ o.2.Lo ≤ o.2.Hi ∧ o.2.Hi ≤ 86400000 := by
  unfold opts timesAt at ho
  rcases List.mem_cons.1 ho with rfl | ho
  · have := h.now; simp only; omega
  · cases ht : w.Times[b]? with
    | none => simp [ht] at ho
    | some t =>
      rw [ht] at ho
      have := h.spans t (List.mem_of_getElem? ht) o ho
      omega
theorem WOk.leastAt {w : WatchM} (h : WOk w) (b : Nat) : 0 ≤ leastAt w b ∧ leastAt w b ≤ 500000000 := by
  unfold Go.Proofs.YthiigjekcdjkkaaGreat.leastAt
  cases ht : w.Least[b]? with
  | none => simp
  | some x => have := h.least x (List.mem_of_getElem? ht); simp only [Option.getD_some]; omega
theorem oneT_b (s : Int) : (0 ≤ (oneT s).right ∧ 0 ≤ (oneT s).missed) ∧ (oneT s).right + (oneT s).missed = 1 := by unfold oneT; split <;> simp
theorem fwd_b {w : WatchM} (h : WOk w) : ∀ (b : Nat) p, p ∈ fwd w b → (0 ≤ p.2 ∧ p.2 ≤ 86400000) ∧ (0 ≤ p.1.right ∧ 0 ≤ p.1.missed) ∧ p.1.right + p.1.missed = (b : Int) := by
  intro b
  induction b with
  | zero =>
    intro p hp
    simp only [fwd, List.mem_singleton] at hp
    subst hp
    have := h.now; simp only; omega
  | succ b ih =>
    intro q hq
    obtain ⟨p, hp, o, ho, e⟩ := mem_fwd_succ.1 hq
    have h1 := ih p hp
    have h2 := h.opt ho
    have h3 := h.leastAt b
    have h4 := h.now
    have h5 := oneT_b o.1
    unfold fwdO at e
    split at e
    · simp only [Option.some.injEq] at e
      subst e
      simp only [addT]
      omega
    · cases e
theorem bwd_b {w : WatchM} (h : WOk w) : ∀ (k : Nat) p, p ∈ bwd w k → (-(500000000 * (k : Int)) ≤ p.2 ∧ p.2 ≤ 86400000) ∧ (0 ≤ p.1.right ∧ 0 ≤ p.1.missed) ∧ p.1.right + p.1.missed ≤ (k : Int) := by
  intro k
  induction k with
  | zero =>
    intro p hp
    simp only [bwd, List.mem_singleton] at hp
    subst hp
    have := h.now; simp only; omega
  | succ k ih =>
    intro q hq
    simp only [bwd, List.mem_cons, List.mem_flatMap, List.mem_filterMap] at hq
    rcases hq with rfl | ⟨p, hp, o, ho, e⟩
    · have := h.now; simp only; omega
    · have h1 := ih p hp
      have h2 := h.opt ho
      have h3 := h.leastAt (w.n - (k + 1))
      have h4 := h.now
      have h5 := oneT_b o.1
      unfold bwdO at e
      split at e
      · simp only [Option.some.injEq] at e
        subst e
        simp only [addT]
        omega
      · cases e
theorem back_b {w : WatchM} (h : WOk w) {b : Nat} {p : TallyV × Int} (hp : p ∈ back w b) : (-3000000000 ≤ p.2 ∧ p.2 ≤ 86400000) ∧ (0 ≤ p.1.right ∧ 0 ≤ p.1.missed) ∧ p.1.right + p.1.missed ≤ 6 := by
  have := bwd_b h _ _ hp
  have := h.n
  omega
theorem opts_times {w : WatchM} {b : Nat} {t : TM} (ht : w.Times[b]? = some t) {o : Int × SpanV} : o ∈ opts w b ↔ o = (-1, ⟨w.Start, w.Now⟩) ∨ o ∈ t := by
  unfold opts timesAt; rw [ht]; simp
theorem left_next {K β : Type} [DecidableEq K] {l : List (K × β)} {x : K} {y : β} (hn : (l.map (·.1)).Nodup) (hm : (x, y) ∈ l) {o : K × β} (h : o ∈ l) : o ∈ gdelK l x ∨ o = (x, y) := by
  by_cases e : o.1 = x
  · right
    obtain ⟨k, v⟩ := o
    simp only at e
    subst e
    have h1 := (glookup_mem hn).1 h
    have h2 := (glookup_mem hn).1 hm
    rw [h1] at h2
    cases h2; rfl
  · exact .inl (gmem_delK.2 ⟨h, e⟩)
theorem left_step {K β : Type} [DecidableEq K] {t l ys : List (K × β)} {x : K} {y : β} (hn : (l.map (·.1)).Nodup) (hm : (x, y) ∈ l) (h : ∀ o ∈ t, o ∈ l ∨ o ∈ ys) : ∀ o ∈ t, o ∈ gdelK l x ∨ o ∈ ys ++ [(x, y)] := fun o ho => by
  rcases h o ho with h | h
  · rcases left_next hn hm h with h | h
    · exact .inl h
    · exact .inr (by simp [h])
  · exact .inr (by simp [h])
theorem left_sub {K β : Type} [DecidableEq K] {t l : List (K × β)} {x : K} (h : ∀ o ∈ l, o ∈ t) : ∀ o ∈ gdelK l x, o ∈ t := fun o ho => h o (gmem_delK.1 ho).1
theorem may_none {w : WatchM} {m left : List (TallyV × Int)} (h : ∀ p ∈ m, p ∈ left ∨ mayT w p.1 = false) (h0 : left = []) : mayAny w m = false := by
  unfold mayAny
  rw [List.any_eq_false]
  intro p hp
  rcases h p hp with q | q
  · rw [h0] at q; cases q
  · simp [q]
theorem may_yes {w : WatchM} {m : List (TallyV × Int)} {p : TallyV × Int} (hp : p ∈ m) (h : mayT w p.1 = true) : mayAny w m = true := List.any_eq_true.2 ⟨p, hp, h⟩
theorem may_step {w : WatchM} {m left : List (TallyV × Int)} {t : TallyV} {v : Int} (hn : (left.map (·.1)).Nodup) (hm : (t, v) ∈ left) (h : ∀ p ∈ m, p ∈ left ∨ mayT w p.1 = false) (hf : mayT w t = false) : ∀ p ∈ m, p ∈ gdelK left t ∨ mayT w p.1 = false := fun p hp => by
  rcases h p hp with q | q
  · rcases left_next hn hm q with q | q
    · exact .inl q
    · right; rw [q]; exact hf
  · exact .inr q
/-- what the maps of a watch are -/
structure FwdOk (w : WatchM) (fs : List (List (TallyV × Int))) : Prop where
  len : fs.length = w.n + 1
  min : ∀ (b : Nat) m, fs[b]? = some m → MinOk m (fwd w b)
  keys : ∀ (b : Nat) m, fs[b]? = some m → (m.map (·.1)).Nodup
structure BackOk (w : WatchM) (bs : List (List (TallyV × Int))) : Prop where
  len : bs.length = w.n + 1
  max : ∀ (b : Nat) m, bs[b]? = some m → MaxOk m (back w b)
  keys : ∀ (b : Nat) m, bs[b]? = some m → (m.map (·.1)).Nodup
theorem FwdOk.mem {w : WatchM} {fs : List (List (TallyV × Int))} (h : FwdOk w fs) {b : Nat} {m : List (TallyV × Int)} (hm : fs[b]? = some m) {p : TallyV × Int} (hp : p ∈ m) : p ∈ fwd w b := (h.min b m hm).1 _ _ ((lookup_of_mem (h.keys b m hm)).1 hp)
theorem BackOk.mem {w : WatchM} {fs : List (List (TallyV × Int))} (h : BackOk w fs) {b : Nat} {m : List (TallyV × Int)} (hm : fs[b]? = some m) {p : TallyV × Int} (hp : p ∈ m) : p ∈ back w b := (h.max b m hm).1 _ _ ((lookup_of_mem (h.keys b m hm)).1 hp)
theorem opts_done {w : WatchM} {b : Nat} {t l ys : List (Int × SpanV)} (ht : w.Times[b]? = some t) (h : ∀ o ∈ t, o ∈ l ∨ o ∈ ys) (h0 : l = []) (hs : (-1, (⟨w.Start, w.Now⟩ : SpanV)) ∈ ys) : ∀ o ∈ opts w b, o ∈ ys := fun o ho => by
  rcases (opts_times ht).1 ho with rfl | ho
  · exact hs
  · rcases h o ho with q | q
    · rw [h0] at q; cases q
    · exact q
end
section
set_option linter.unusedVariables false
/-- by these options all is yielded -/
def PDone (w : WatchM) (b : Nat) (mf mb : List (TallyV × Int)) (os ys : List (Int × SpanV)) : Prop := ∀ o ∈ os, ∀ p ∈ mf, ∀ u ∈ mb, ∀ q, passO w b p u o = some q → q ∈ ys
def PLeft (w : WatchM) (b : Nat) (mf mb : List (TallyV × Int)) (o : Int × SpanV) (left : List (TallyV × Int)) (ys : List (Int × SpanV)) : Prop := ∀ p ∈ mf, p ∈ left ∨ ∀ u ∈ mb, ∀ q, passO w b p u o = some q → q ∈ ys
def QLeft (w : WatchM) (b : Nat) (mb : List (TallyV × Int)) (o : Int × SpanV) (p : TallyV × Int) (left : List (TallyV × Int)) (ys : List (Int × SpanV)) : Prop := ∀ u ∈ mb, u ∈ left ∨ ∀ q, passO w b p u o = some q → q ∈ ys
variable {w : WatchM} {b : Nat} {mf mb left : List (TallyV × Int)} {o x : Int × SpanV} {os ys : List (Int × SpanV)} {p u : TallyV × Int}
theorem PDone.nil : PDone w b mf mb [] ys := fun o ho => by cases ho
theorem PDone.app (h : PDone w b mf mb os ys) : PDone w b mf mb os (ys ++ [x]) := fun o ho p hp u hu q e => List.mem_append_left _ (h o ho p hp u hu q e)
theorem PLeft.app (h : PLeft w b mf mb o left ys) : PLeft w b mf mb o left (ys ++ [x]) := fun p hp => (h p hp).imp id fun h u hu q e => List.mem_append_left _ (h u hu q e)
theorem PLeft.start : PLeft w b mf mb o mf ys := fun p hp => .inl hp
theorem QLeft.start : QLeft w b mb o p mb ys := fun p hp => .inl hp
theorem QLeft.skip {t : TallyV} {v : Int} (hn : (left.map (·.1)).Nodup) (hm : (t, v) ∈ left) (h : QLeft w b mb o p left ys) (he : passO w b p (t, v) o = none) : QLeft w b mb o p (gdelK left t) ys := fun u hu => by
  rcases h u hu with q | q
  · rcases left_next hn hm q with q | q
    · exact .inl q
    · right; intro z hz; rw [q, he] at hz; cases hz
  · exact .inr q
theorem QLeft.took {t : TallyV} {v : Int} (hn : (left.map (·.1)).Nodup) (hm : (t, v) ∈ left) (h : QLeft w b mb o p left ys) (he : passO w b p (t, v) o = some x) : QLeft w b mb o p (gdelK left t) (ys ++ [x]) := fun u hu => by
  rcases h u hu with q | q
  · rcases left_next hn hm q with q | q
    · exact .inl q
    · right; intro z hz; rw [q, he] at hz; cases hz; simp
  · right; intro z hz; exact List.mem_append_left _ (q z hz)
theorem PLeft.next {t : TallyV} {v : Int} {l2 : List (TallyV × Int)} (hn : (left.map (·.1)).Nodup) (hm : (t, v) ∈ left) (h : PLeft w b mf mb o left ys) (hq : QLeft w b mb o (t, v) l2 ys) (h0 : l2 = []) : PLeft w b mf mb o (gdelK left t) ys := fun p hp => by
  rcases h p hp with q | q
  · rcases left_next hn hm q with q | q
    · exact .inl q
    · right; intro u hu z hz; subst q
      rcases hq u hu with q | q
      · rw [h0] at q; cases q
      · exact q z hz
  · exact .inr q
theorem PDone.next (h : PDone w b mf mb os ys) (hp : PLeft w b mf mb o left ys) (h0 : left = []) : PDone w b mf mb (os ++ [o]) ys := fun o' ho p hp' u hu q e => by
  rcases List.mem_append.1 ho with ho | ho
  · exact h o' ho p hp' u hu q e
  · simp only [List.mem_singleton] at ho; subst ho
    rcases hp p hp' with z | z
    · rw [h0] at z; cases z
    · exact z u hu q e
theorem PDone.fin (h : PDone w b mf mb os ys) (ho : ∀ o ∈ opts w b, o ∈ os) : ∀ q ∈ passM w b mf mb, q ∈ ys := fun q hq => by
  obtain ⟨o, h1, p, h2, u, h3, e⟩ := mem_passM.1 hq
  exact h o (ho o h1) p h2 u h3 q e
theorem passO_yes (h : max (p.2 + leastAt w b) o.2.Lo ≤ min u.2 o.2.Hi) (h2 : mayT w (addT (addT p.1 u.1) (oneT o.1)) = true) : passO w b p u o = some (o.1, ⟨max (p.2 + leastAt w b) o.2.Lo, min u.2 o.2.Hi⟩) := by
  unfold passO passX passT; rw [if_pos ⟨h, h2⟩]
theorem passO_no (h : ¬ max (p.2 + leastAt w b) o.2.Lo ≤ min u.2 o.2.Hi) : passO w b p u o = none := by
  unfold passO passX; rw [if_neg (fun q => h q.1)]
theorem passO_not (h2 : mayT w (addT (addT p.1 u.1) (oneT o.1)) = false) : passO w b p u o = none := by
  unfold passO passT; rw [if_neg (fun q => by rw [h2] at q; exact absurd q.2 (by decide))]
theorem leastAt_of {v : Int} (h : w.Least[b]? = some v) : leastAt w b = v := by unfold leastAt; rw [h]; rfl
theorem passO_at {t q : TallyV} {v z y : Int} (hy : w.Least[b]? = some y) (h : max (v + y) o.2.Lo ≤ min z o.2.Hi) (h2 : mayT w (addT (addT t q) (oneT o.1)) = true) : passO w b (t, v) (q, z) o = some (o.1, ⟨max (v + y) o.2.Lo, min z o.2.Hi⟩) := by
  have e := leastAt_of hy
  subst e
  exact passO_yes h h2
theorem passO_off {t q : TallyV} {v z y : Int} (hy : w.Least[b]? = some y) (h : ¬ max (v + y) o.2.Lo ≤ min z o.2.Hi) : passO w b (t, v) (q, z) o = none := by
  have e := leastAt_of hy
  subst e
  exact passO_no h
theorem gsetK_nodup {m : List (TallyV × Int)} {k : TallyV} {y : Int} (h : (m.map (·.1)).Nodup) : ((gsetK m k y).map (·.1)).Nodup := by
  unfold gsetK
  by_cases hx : (m.lookup k).isSome
  · rw [if_pos hx, List.map_map]
    have e : m.map ((fun p => p.1) ∘ fun p => if p.1 = k then (k, y) else p) = m.map (·.1) := by
      apply List.map_congr_left
      intro p _
      simp only [Function.comp]
      split
      · rename_i e; exact e.symm
      · rfl
    rw [e]; exact h
  · rw [if_neg hx, List.map_append, List.nodup_append]
    refine ⟨h, by simp, ?_⟩
    intro a ha c hc
    simp only [List.map_cons, List.map_nil, List.mem_singleton] at hc
    rw [hc]
    obtain ⟨p, hp, rfl⟩ := List.mem_map.1 ha
    have hn : m.lookup k = none := by cases h0 : m.lookup k with
      | none => rfl
      | some v => exact absurd (by rw [h0]; rfl) hx
    exact glookup_none.1 hn p hp
theorem tryLo_nodup {m : List (TallyV × Int)} {q : TallyV × Int} (h : (m.map (·.1)).Nodup) : ((tryLo m q).map (·.1)).Nodup := by
  unfold tryLo; split
  · exact gsetK_nodup h
  · split
    · exact gsetK_nodup h
    · exact h
theorem tryHi_nodup {m : List (TallyV × Int)} {q : TallyV × Int} (h : (m.map (·.1)).Nodup) : ((tryHi m q).map (·.1)).Nodup := by
  unfold tryHi; split
  · exact gsetK_nodup h
  · split
    · exact gsetK_nodup h
    · exact h
/-- a map of the first times, on its way -/
structure LoOn (w : WatchM) (b : Nat) (m : List (TallyV × Int)) : Prop where
  snd : SndOk m (fwd w (b + 1))
  keys : (m.map (·.1)).Nodup
structure HiOn (w : WatchM) (b : Nat) (m : List (TallyV × Int)) : Prop where
  snd : SndOk m (back w b)
  keys : (m.map (·.1)).Nodup
  zero : ∃ v, m.lookup ⟨0, 0⟩ = some v ∧ w.Now ≤ v
theorem fwdO_yes (h : max (p.2 + leastAt w b) o.2.Lo ≤ min o.2.Hi w.Now) : fwdO w b p o = some (addT p.1 (oneT o.1), max (p.2 + leastAt w b) o.2.Lo) := by unfold fwdO; rw [if_pos h]
theorem fwdO_no (h : ¬ max (p.2 + leastAt w b) o.2.Lo ≤ min o.2.Hi w.Now) : fwdO w b p o = none := by unfold fwdO; rw [if_neg h]
theorem bwdO_yes (h : o.2.Lo ≤ min p.2 o.2.Hi) : bwdO w b p o = some (addT p.1 (oneT o.1), min p.2 o.2.Hi - leastAt w b) := by unfold bwdO; rw [if_pos h]
theorem bwdO_no (h : ¬ o.2.Lo ≤ min p.2 o.2.Hi) : bwdO w b p o = none := by unfold bwdO; rw [if_neg h]
theorem LoOn.start : LoOn w b [] := ⟨fun t v h => by simp at h, List.nodup_nil⟩
theorem LoOn.add {m : List (TallyV × Int)} {q : TallyV × Int} (h : LoOn w b m) (hp : p ∈ fwd w b) (ho : o ∈ opts w b) (he : fwdO w b p o = some q) : LoOn w b (tryLo m q) := ⟨tryLo_snd h.snd (mem_fwd_succ.2 ⟨p, hp, o, ho, he⟩), tryLo_nodup h.keys⟩
theorem HiOn.start (hb : b < w.n) : HiOn w b [(⟨0, 0⟩, w.Now)] := ⟨fun t v h => by
  obtain ⟨rfl, rfl⟩ := look_one.1 h
  exact (mem_back hb).2 (.inl rfl), by simp, w.Now, look_one.2 ⟨rfl, rfl⟩, Int.le_refl _⟩
theorem HiOn.add {m : List (TallyV × Int)} {q : TallyV × Int} (hb : b < w.n) (h : HiOn w b m) (hp : p ∈ back w (b + 1)) (ho : o ∈ opts w b) (he : bwdO w b p o = some q) : HiOn w b (tryHi m q) := ⟨tryHi_snd h.snd ((mem_back hb).2 (.inr ⟨p, hp, o, ho, he⟩)), tryHi_nodup h.keys, by
  obtain ⟨v, h1, h2⟩ := h.zero
  obtain ⟨v', h3, h4⟩ := tryHi_upper (q := q) _ _ h1
  exact ⟨v', h3, by omega⟩⟩
theorem DoneLo.none_ {m : List (TallyV × Int)} (h : DoneLo w b m p os) (he : fwdO w b p o = none) : DoneLo w b m p (os ++ [o]) := h.add (Lower.refl _) fun q hq => by rw [he] at hq; cases hq
theorem DoneLo.try_ {m : List (TallyV × Int)} {q : TallyV × Int} (h : DoneLo w b m p os) (he : fwdO w b p o = some q) : DoneLo w b (tryLo m q) p (os ++ [o]) := h.add tryLo_lower fun q' hq => by rw [he] at hq; cases hq; exact tryLo_has
theorem DoneHi.none_ {m : List (TallyV × Int)} (h : DoneHi w b m p os) (he : bwdO w b p o = none) : DoneHi w b m p (os ++ [o]) := h.add (Upper.refl _) fun q hq => by rw [he] at hq; cases hq
theorem DoneHi.try_ {m : List (TallyV × Int)} {q : TallyV × Int} (h : DoneHi w b m p os) (he : bwdO w b p o = some q) : DoneHi w b (tryHi m q) p (os ++ [o]) := h.add tryHi_upper fun q' hq => by rw [he] at hq; cases hq; exact tryHi_has
/-- what of a map of the beam before is used already -/
def LoLeft (w : WatchM) (b : Nat) (mb m left : List (TallyV × Int)) : Prop := ∀ p ∈ mb, p ∈ left ∨ DoneLo w b m p (opts w b)
def HiLeft (w : WatchM) (b : Nat) (mb m left : List (TallyV × Int)) : Prop := ∀ p ∈ mb, p ∈ left ∨ DoneHi w b m p (opts w b)
theorem LoLeft.start {m : List (TallyV × Int)} : LoLeft w b mb m mb := fun p hp => .inl hp
theorem HiLeft.start {m : List (TallyV × Int)} : HiLeft w b mb m mb := fun p hp => .inl hp
theorem LoLeft.lower {m m' : List (TallyV × Int)} (h : LoLeft w b mb m left) (hl : Lower m m') : LoLeft w b mb m' left := fun p hp => (h p hp).imp id fun h => h.lower hl
theorem HiLeft.upper {m m' : List (TallyV × Int)} (h : HiLeft w b mb m left) (hl : Upper m m') : HiLeft w b mb m' left := fun p hp => (h p hp).imp id fun h => h.upper hl
theorem LoLeft.next {m : List (TallyV × Int)} {t : TallyV} {v : Int} (hn : (left.map (·.1)).Nodup) (hm : (t, v) ∈ left) (h : LoLeft w b mb m left) (hd : DoneLo w b m (t, v) os) (ho : ∀ o ∈ opts w b, o ∈ os) : LoLeft w b mb m (gdelK left t) := fun p hp => by
  rcases h p hp with q | q
  · rcases left_next hn hm q with q | q
    · exact .inl q
    · right; rw [q]; exact hd.sub ho
  · exact .inr q
theorem HiLeft.next {m : List (TallyV × Int)} {t : TallyV} {v : Int} (hn : (left.map (·.1)).Nodup) (hm : (t, v) ∈ left) (h : HiLeft w b mb m left) (hd : DoneHi w b m (t, v) os) (ho : ∀ o ∈ opts w b, o ∈ os) : HiLeft w b mb m (gdelK left t) := fun p hp => by
  rcases h p hp with q | q
  · rcases left_next hn hm q with q | q
    · exact .inl q
    · right; rw [q]; exact hd.sub ho
  · exact .inr q
theorem LoLeft.fin {m : List (TallyV × Int)} (h : LoLeft w b mb m left) (h0 : left = []) : ∀ p ∈ mb, DoneLo w b m p (opts w b) := fun p hp => by
  rcases h p hp with q | q
  · rw [h0] at q; cases q
  · exact q
theorem HiLeft.fin {m : List (TallyV × Int)} (h : HiLeft w b mb m left) (h0 : left = []) : ∀ p ∈ mb, DoneHi w b m p (opts w b) := fun p hp => by
  rcases h p hp with q | q
  · rw [h0] at q; cases q
  · exact q
end
section
set_option linter.unusedVariables false
def addZ (a b : SpanV) : SpanV := ⟨a.Lo + b.Lo, a.Hi + b.Hi⟩
def zeroZ : SpanV := ⟨0, 0⟩
def plusF (a : SpanV) (l : List SpanV) : SpanV := l.foldl addZ a
def In12 (z : SpanV) : Prop := (-1000000000 ≤ z.Lo ∧ z.Lo ≤ 1000000000) ∧ -1000000000 ≤ z.Hi ∧ z.Hi ≤ 1000000000
theorem plus_take {a : SpanV} {l : List SpanV} {i : Nat} {z : SpanV} (h : l[i]? = some z) : plusF a (l.take (i + 1)) = addZ (plusF a (l.take i)) z := by
  rw [List.take_add_one, h]; unfold plusF; simp
theorem plus_b {a : SpanV} {l : List SpanV} (ha : In12 a) (hl : ∀ z ∈ l, In12 z) : ∀ i : Nat, (-1000000000 - 1000000000 * (i : Int) ≤ (plusF a (l.take i)).Lo ∧ (plusF a (l.take i)).Lo ≤ 1000000000 + 1000000000 * (i : Int)) ∧ -1000000000 - 1000000000 * (i : Int) ≤ (plusF a (l.take i)).Hi ∧ (plusF a (l.take i)).Hi ≤ 1000000000 + 1000000000 * (i : Int) := by
  intro i
  induction i with
  | zero => unfold In12 at ha; simp [plusF]; omega
  | succ i ih =>
    cases h : l[i]? with
    | none => rw [List.take_add_one, h]; simp only [Option.toList_none, List.append_nil]; omega
    | some z =>
      have hz := hl z (List.mem_of_getElem? h)
      unfold In12 at hz
      rw [plus_take h]
      simp only [addZ]
      omega
theorem plus_all {a : SpanV} {l : List SpanV} {i : Nat} (h : l.length ≤ i) : plusF a (l.take i) = plusF a l := by rw [List.take_of_length_le h]
theorem plus_one {a z : SpanV} : Value.agg (SpanV.cells (plusF a [z])).toArray = Value.agg (SpanV.cells (addZ a z)).toArray := rfl
theorem plus_two {a y z : SpanV} : Value.agg (SpanV.cells (plusF a [y, z])).toArray = Value.agg (SpanV.cells (addZ (addZ a y) z)).toArray := rfl
/-- how long the run is from one mark, over so many stretches; by how much it falls -/
def longF (ts : List StretchV) (f : Nat) : Nat → SpanV
  | 0 => zeroZ
  | k + 1 => match ts[f + k]? with
    | some x => addZ (longF ts f k) x.Long
    | none => longF ts f k
def fallF (ts : List StretchV) (f : Nat) : Nat → SpanV
  | 0 => zeroZ
  | k + 1 => match ts[f + k]? with
    | some x => addZ (fallF ts f k) x.Fall
    | none => fallF ts f k
theorem longF_succ {ts : List StretchV} {f k : Nat} {x : StretchV} (h : ts[f + k]? = some x) : longF ts f (k + 1) = addZ (longF ts f k) x.Long := by simp [longF, h]
theorem fallF_succ {ts : List StretchV} {f k : Nat} {x : StretchV} (h : ts[f + k]? = some x) : fallF ts f (k + 1) = addZ (fallF ts f k) x.Fall := by simp [fallF, h]
theorem longF_b {ts : List StretchV} (ht : ∀ x ∈ ts, StretchOk x) (f : Nat) : ∀ k : Nat, (0 ≤ (longF ts f k).Lo ∧ (longF ts f k).Lo ≤ (longF ts f k).Hi) ∧ (longF ts f k).Hi ≤ 30000 * (k : Int) := by
  intro k
  induction k with
  | zero => simp [longF, zeroZ]
  | succ k ih =>
    simp only [longF]
    cases h : ts[f + k]? with
    | none => simp only; omega
    | some x =>
      have hx := (ht x (List.mem_of_getElem? h)).2.1
      simp only [SpanOk] at hx
      simp only [addZ]
      omega
theorem fallF_b {ts : List StretchV} (ht : ∀ x ∈ ts, StretchOk x) (f : Nat) : ∀ k : Nat, (0 ≤ (fallF ts f k).Lo ∧ (fallF ts f k).Lo ≤ (fallF ts f k).Hi) ∧ (fallF ts f k).Hi ≤ 5000 * (k : Int) := by
  intro k
  induction k with
  | zero => simp [fallF, zeroZ]
  | succ k ih =>
    simp only [fallF]
    cases h : ts[f + k]? with
    | none => simp only; omega
    | some x =>
      have hx := (ht x (List.mem_of_getElem? h)).2.2.1
      simp only [SpanOk] at hx
      simp only [addZ]
      omega
theorem longF_in {ts : List StretchV} (ht : ∀ x ∈ ts, StretchOk x) {f k : Nat} (hk : k ≤ 13) : In12 (longF ts f k) := by
  have := longF_b ht f k; unfold In12; omega
theorem fallF_in {ts : List StretchV} (ht : ∀ x ∈ ts, StretchOk x) {f k : Nat} (hk : k ≤ 13) : In12 (fallF ts f k) := by
  have := fallF_b ht f k; unfold In12; omega
theorem long_in12 {x : StretchV} (h : StretchOk x) : In12 x.Long := by have := h.2.1; simp only [SpanOk] at this; unfold In12; omega
theorem fall_in12 {x : StretchV} (h : StretchOk x) : In12 x.Fall := by have := h.2.2.1; simp only [SpanOk] at this; unfold In12; omega
theorem tr_no {ts : List StretchV} (h : ¬ (if trackOk ts = true then (0 : Int) else 10) = 0) : trackOk ts = false ∧ (if trackOk ts = true then (0 : Int) else 10) = 10 := by
  cases ht : trackOk ts with
  | true => rw [ht] at h; exact absurd rfl h
  | false => exact ⟨rfl, rfl⟩
theorem tr_yes {ts : List StretchV} (h : (if trackOk ts = true then (0 : Int) else 10) = 0) : trackOk ts = true := by
  cases ht : trackOk ts with
  | true => rfl
  | false => rw [ht] at h; exact absurd h (by decide)
/-- what the iterator of marks yields -/
def markV (ts : List StretchV) (f : Nat) : List (List Value) := (List.range (ts.length - f + 1)).map fun (k : Nat) => [.agg (longF ts f k).cells.toArray, .agg (fallF ts f k).cells.toArray]
theorem markV_length {ts : List StretchV} {f : Nat} : (markV ts f).length = ts.length - f + 1 := by simp [markV]
theorem markV_get {ts : List StretchV} {f k : Nat} (h : k ≤ ts.length - f) : (markV ts f)[k]? = some [.agg (longF ts f k).cells.toArray, .agg (fallF ts f k).cells.toArray] := by
  simp [markV, List.getElem?_range (show k < ts.length - f + 1 by omega)]
theorem markV_out {ts : List StretchV} {f k : Nat} {x : List Value} (h : (markV ts f)[k]? = some x) : k ≤ ts.length - f ∧ x = [.agg (longF ts f k).cells.toArray, .agg (fallF ts f k).cells.toArray] := by
  have hi : k < ts.length - f + 1 := by
    have := (List.getElem?_eq_some_iff.1 h).1
    simpa [markV] using this
  rw [markV_get (by omega)] at h
  exact ⟨by omega, (Option.some.inj h).symm⟩
theorem markV_lens {ts : List StretchV} {f : Nat} : ∀ x ∈ markV ts f, x.length = 2 := fun x hx => by
  obtain ⟨k, _, rfl⟩ := List.mem_map.1 hx; rfl
end
section
set_option linter.unusedVariables false
def SpotOk (ts : List StretchV) (s : SpotV) : Prop := (0 ≤ s.Stretch ∧ s.Stretch < (ts.length : Int)) ∧ ∃ x, ts[s.Stretch.toNat]? = some x ∧ SpanOk s.Off 0 (x.Long.Lo - 1)
noncomputable instance (ts : List StretchV) (s : SpotV) : Decidable (SpotOk ts s) := Classical.propDecidable _
theorem spot_yes {ts : List StretchV} {s : SpotV} {x : StretchV} (h : 0 ≤ s.Stretch ∧ s.Stretch < (ts.length : Int)) (hx : ts[s.Stretch.toNat]? = some x) : SpotOk ts s ↔ SpanOk s.Off 0 (x.Long.Lo - 1) :=
  ⟨fun h2 => by obtain ⟨y, hy, h3⟩ := h2.2; rw [hx] at hy; cases hy; exact h3, fun h2 => ⟨h, x, hx, h2⟩⟩
theorem spot_out {ts : List StretchV} {s : SpotV} (h : ¬ (0 ≤ s.Stretch ∧ s.Stretch < (ts.length : Int))) : ¬ SpotOk ts s := fun h2 => h h2.1
theorem spot_b {ts : List StretchV} {s : SpotV} (ht : ∀ x ∈ ts, StretchOk x) (h : SpotOk ts s) : (0 ≤ s.Off.Lo ∧ s.Off.Lo ≤ s.Off.Hi) ∧ s.Off.Hi ≤ 30000 := by
  obtain ⟨x, hx, h2⟩ := h.2
  have := (ht x (List.mem_of_getElem? hx)).2.1
  simp only [SpanOk] at h2 this
  omega
theorem stands_one {ts : List StretchV} {a : SpotV} : Value.bool (decide (∀ s ∈ [a], SpotOk ts s)) = Value.bool (decide (SpotOk ts a)) := congrArg _ (decide_eq_decide.2 (by simp))
theorem stands_two {ts : List StretchV} {a b : SpotV} : Value.bool (decide (∀ s ∈ [a, b], SpotOk ts s)) = Value.bool (decide (SpotOk ts a ∧ SpotOk ts b)) := congrArg _ (decide_eq_decide.2 (by simp))
def lessZ (z : SpanV) : SpanV := ⟨-z.Hi, -z.Lo⟩
def atF (ts : List StretchV) (s : SpotV) : SpanV := addZ (longF ts 0 s.Stretch.toNat) s.Off
noncomputable def atE (ts : List StretchV) (s : SpotV) : Int := if trackOk ts = true then (if SpotOk ts s then 0 else 12) else 10
noncomputable def atV (ts : List StretchV) (s : SpotV) : SpanV := if atE ts s = 0 then atF ts s else zeroZ
theorem at_bad {ts : List StretchV} {s : SpotV} (h : trackOk ts = false) : atE ts s = 10 ∧ atV ts s = zeroZ := by
  have e : atE ts s = 10 := by unfold atE; rw [h]; rfl
  exact ⟨e, by unfold atV; rw [e]; rfl⟩
theorem at_out {ts : List StretchV} {s : SpotV} (h : trackOk ts = true) (h2 : ¬ SpotOk ts s) : atE ts s = 12 ∧ atV ts s = zeroZ := by
  have e : atE ts s = 12 := by unfold atE; rw [if_pos h, if_neg h2]
  exact ⟨e, by unfold atV; rw [e]; rfl⟩
theorem at_in {ts : List StretchV} {s : SpotV} (h : trackOk ts = true) (h2 : SpotOk ts s) : atE ts s = 0 ∧ atV ts s = atF ts s := by
  have e : atE ts s = 0 := by unfold atE; rw [if_pos h, if_pos h2]
  exact ⟨e, if_pos e⟩
theorem at_zero {ts : List StretchV} {s : SpotV} (h : trackOk ts = true) : atE ts s = 0 ↔ SpotOk ts s := by
  unfold atE; rw [if_pos h]; split <;> simp [*]
def wayB (ts : List StretchV) (a b : SpotV) : SpanV := longF ts (min a.Stretch b.Stretch).toNat (max a.Stretch b.Stretch - min a.Stretch b.Stretch).toNat
def apartF (ts : List StretchV) (a b : SpotV) : SpanV := addZ (addZ (if b.Stretch < a.Stretch then lessZ (wayB ts a b) else wayB ts a b) b.Off) (lessZ a.Off)
noncomputable def apartE (ts : List StretchV) (a b : SpotV) : Int := if trackOk ts = true then (if SpotOk ts a ∧ SpotOk ts b then 0 else 12) else 10
noncomputable def apartV (ts : List StretchV) (a b : SpotV) : SpanV := if apartE ts a b = 0 then apartF ts a b else zeroZ
theorem apart_bad {ts : List StretchV} {a b : SpotV} (h : trackOk ts = false) : apartE ts a b = 10 ∧ apartV ts a b = zeroZ := by
  have e : apartE ts a b = 10 := by unfold apartE; rw [h]; rfl
  exact ⟨e, by unfold apartV; rw [e]; rfl⟩
theorem apart_out {ts : List StretchV} {a b : SpotV} (h : trackOk ts = true) (h2 : ¬ (SpotOk ts a ∧ SpotOk ts b)) : apartE ts a b = 12 ∧ apartV ts a b = zeroZ := by
  have e : apartE ts a b = 12 := by unfold apartE; rw [if_pos h, if_neg h2]
  exact ⟨e, by unfold apartV; rw [e]; rfl⟩
theorem apart_in {ts : List StretchV} {a b : SpotV} (h : trackOk ts = true) (h2 : SpotOk ts a ∧ SpotOk ts b) : apartE ts a b = 0 ∧ apartV ts a b = apartF ts a b := by
  have e : apartE ts a b = 0 := by unfold apartE; rw [if_pos h, if_pos h2]
  exact ⟨e, if_pos e⟩
theorem less_in {z : SpanV} (h : In12 z) : In12 (lessZ z) := by unfold In12 lessZ at *; simp only; omega
theorem off_in {ts : List StretchV} {s : SpotV} (ht : ∀ x ∈ ts, StretchOk x) (h : SpotOk ts s) : In12 s.Off := by have := spot_b ht h; unfold In12; omega
theorem wayB_b {ts : List StretchV} {a b : SpotV} (ht : ∀ x ∈ ts, StretchOk x) (hl : ts.length ≤ 12) (ha : SpotOk ts a) (hb : SpotOk ts b) : (0 ≤ (wayB ts a b).Lo ∧ (wayB ts a b).Lo ≤ (wayB ts a b).Hi) ∧ (wayB ts a b).Hi ≤ 360000 := by
  have h := longF_b ht (min a.Stretch b.Stretch).toNat (max a.Stretch b.Stretch - min a.Stretch b.Stretch).toNat
  have h1 := ha.1
  have h2 := hb.1
  unfold wayB
  omega
theorem apartF_b {ts : List StretchV} {a b : SpotV} (ht : ∀ x ∈ ts, StretchOk x) (hl : ts.length ≤ 12) (ha : SpotOk ts a) (hb : SpotOk ts b) : (-400000 ≤ (apartF ts a b).Lo ∧ (apartF ts a b).Lo ≤ (apartF ts a b).Hi) ∧ (apartF ts a b).Hi ≤ 400000 := by
  have h := wayB_b ht hl ha hb
  have h1 := spot_b ht ha
  have h2 := spot_b ht hb
  unfold apartF addZ lessZ
  split <;> simp only <;> omega
theorem atF_b {ts : List StretchV} {s : SpotV} (ht : ∀ x ∈ ts, StretchOk x) (hl : ts.length ≤ 12) (h : SpotOk ts s) : (0 ≤ (atF ts s).Lo ∧ (atF ts s).Lo ≤ (atF ts s).Hi) ∧ (atF ts s).Hi ≤ 400000 := by
  have h1 := longF_b ht 0 s.Stretch.toNat
  have h2 := spot_b ht h
  have h3 := h.1
  unfold atF addZ
  simp only; omega
theorem pick_none {α : Type} {p : Nat → α → Bool} {l : List α} : ((l.zipIdx.filter fun q => p q.2 q.1).map fun q => (q.2 : Int)) = [] ↔ ∀ (i : Nat) x, l[i]? = some x → p i x = false := by
  rw [List.map_eq_nil_iff, List.filter_eq_nil_iff]
  constructor
  · intro h i x hx
    have := h (x, i) (by rw [List.mem_zipIdx_iff_getElem?]; simpa using hx)
    simpa using this
  · rintro h ⟨x, i⟩ hm
    rw [List.mem_zipIdx_iff_getElem?] at hm
    simpa using h i x (by simpa using hm)
/-- the places of a list at which something is so -/
def pckL {α : Type} (p : Nat → α → Bool) (l : List α) (n : Nat) : List Int := (((l.take n).zipIdx.filter fun q => p q.2 q.1).map fun q => (q.2 : Int))
theorem pckL_yes {α : Type} {p : Nat → α → Bool} {l : List α} {i : Nat} {x : α} (hx : l[i]? = some x) (h : p i x = true) : pckL p l (i + 1) = pckL p l i ++ [(i : Int)] := by
  have hi := (List.getElem?_eq_some_iff.1 hx).1
  unfold pckL
  rw [List.take_add_one, hx, List.zipIdx_append, List.filter_append, List.map_append]
  simp [Nat.min_eq_left (Nat.le_of_lt hi), h]
theorem pckL_no {α : Type} {p : Nat → α → Bool} {l : List α} {i : Nat} {x : α} (hx : l[i]? = some x) (h : p i x = false) : pckL p l (i + 1) = pckL p l i := by
  have hi := (List.getElem?_eq_some_iff.1 hx).1
  unfold pckL
  rw [List.take_add_one, hx, List.zipIdx_append, List.filter_append, List.map_append]
  simp [Nat.min_eq_left (Nat.le_of_lt hi), h]
theorem pckL_len {α : Type} {p : Nat → α → Bool} {l : List α} {n : Nat} : (pckL p l n).length ≤ n := by
  unfold pckL
  rw [List.length_map]
  refine Nat.le_trans (List.length_filter_le _ _) ?_
  rw [List.length_zipIdx, List.length_take]; omega
def pckF {α : Type} (p : Nat → α → Bool) (l : List α) : List Int := pckL p l l.length
theorem pckF_at {α : Type} {p : Nat → α → Bool} {l : List α} {n : Nat} (h : n = l.length) : pckL p l n = pckF p l := by rw [h]; rfl
theorem pckF_none {α : Type} {p : Nat → α → Bool} {l : List α} : (pckF p l).length = 0 ↔ ∀ (i : Nat) x, l[i]? = some x → p i x = false := by
  unfold pckF pckL
  rw [List.length_eq_zero_iff, List.take_length]
  exact pick_none
end
section
set_option linter.unusedVariables false
theorem firstN_ex (p : Int → Bool) (n : Nat) : ∃ r : Int, r = ((List.range n).findIdx fun (k : Nat) => p (k : Int) : Nat) := ⟨_, rfl⟩
noncomputable def firstN (p : Int → Bool) (n : Nat) : Int := Classical.choose (firstN_ex p n)
theorem firstN_def (p : Int → Bool) (n : Nat) : firstN p n = ((List.range n).findIdx fun (k : Nat) => p (k : Int) : Nat) := Classical.choose_spec (firstN_ex p n)
theorem firstN_b {p : Int → Bool} {n : Nat} : 0 ≤ firstN p n ∧ firstN p n ≤ n := by
  rw [firstN_def]
  have := List.findIdx_le_length (xs := List.range n) (p := fun (k : Nat) => p (k : Int))
  rw [List.length_range] at this
  omega
theorem firstN_no {p : Int → Bool} {n : Nat} {x : Int} (h0 : 0 ≤ x) (h : x < firstN p n) : p x = false := by
  have hb := firstN_b (p := p) (n := n)
  rw [firstN_def] at h
  have h1 : x.toNat < (List.range n).findIdx fun (k : Nat) => p (k : Int) := by omega
  have h2 := List.not_of_lt_findIdx h1
  simp only [List.getElem_range] at h2
  rw [show ((x.toNat : Nat) : Int) = x by omega] at h2
  simpa using h2
theorem firstN_at {p : Int → Bool} {n : Nat} (h : firstN p n < n) : p (firstN p n) = true := by
  rw [firstN_def] at h ⊢
  have h1 : ((List.range n).findIdx fun (k : Nat) => p (k : Int)) < (List.range n).length := by rw [List.length_range]; omega
  have := List.findIdx_getElem (w := h1)
  simpa using this
theorem firstN_eq {p : Int → Bool} {n : Nat} {r : Int} (h0 : 0 ≤ r) (hn : r < n) (hr : p r = true) (hb : ∀ x, 0 ≤ x → x < r → p x = false) : firstN p n = r := by
  have h1 := firstN_b (p := p) (n := n)
  rcases Int.lt_trichotomy (firstN p n) r with h | h | h
  · have := hb _ h1.1 h
    have e := firstN_at (p := p) (n := n) (by omega)
    rw [e] at this; cases this
  · exact h
  · have := firstN_no h0 h
    rw [hr] at this; cases this
end
section
set_option linter.unusedVariables false
def upD (n by_ : Int) : Int := (n + by_ - 1) / by_
/-- by how much a sync may be off -/
def offF (c : ClockM) (at_ : Int) (x : SyncV) : Int := upD (c.Drift * max (at_ - x.At) (x.At - at_)) 1000000
def aheadStep (c : ClockM) (at_ : Int) (s : SpanV) (x : SyncV) : SpanV := ⟨max s.Lo (x.Ahead.Lo - offF c at_ x), min s.Hi (x.Ahead.Hi + offF c at_ x)⟩
def aheadK (c : ClockM) (at_ : Int) (k : Nat) : SpanV := (c.Syncs.take k).foldl (aheadStep c at_) ⟨-1099511627776, 1099511627776⟩
def aheadF (c : ClockM) (at_ : Int) : SpanV := c.Syncs.foldl (aheadStep c at_) ⟨-1099511627776, 1099511627776⟩
theorem aheadK_succ {c : ClockM} {at_ : Int} {k : Nat} {x : SyncV} (h : c.Syncs[k]? = some x) : aheadK c at_ (k + 1) = aheadStep c at_ (aheadK c at_ k) x := by
  unfold aheadK; rw [List.take_add_one, h, List.foldl_append]; rfl
theorem aheadK_all {c : ClockM} {at_ : Int} {k : Nat} (h : c.Syncs.length ≤ k) : aheadK c at_ k = aheadF c at_ := by unfold aheadK aheadF; rw [List.take_of_length_le h]
def prevAt (c : ClockM) (i : Nat) : Int := if i = 0 then -1 else ((c.Syncs[i - 1]?).map (·.At)).getD 0
def SyncOk (c : ClockM) (i : Nat) (x : SyncV) : Prop := (prevAt c i < x.At ∧ x.At ≤ 86400000) ∧ -10000 ≤ x.Ahead.Lo ∧ x.Ahead.Lo ≤ x.Ahead.Hi ∧ x.Ahead.Hi ≤ 10000
def PairOk (c : ClockM) (x o : SyncV) : Prop := x.Ahead.Lo - o.Ahead.Hi ≤ upD (c.Drift * (x.At - o.At)) 1000000 ∧ o.Ahead.Lo - x.Ahead.Hi ≤ upD (c.Drift * (x.At - o.At)) 1000000
structure ClockOk (c : ClockM) : Prop where
  drift : 0 ≤ c.Drift ∧ c.Drift ≤ 1000
  len : 1 ≤ c.Syncs.length ∧ c.Syncs.length ≤ 5
  sync : ∀ (i : Nat) x, c.Syncs[i]? = some x → SyncOk c i x
  pair : ∀ (i k : Nat) x o, c.Syncs[i]? = some x → k < i → c.Syncs[k]? = some o → PairOk c x o
noncomputable instance (c : ClockM) : Decidable (ClockOk c) := Classical.propDecidable _
theorem prevAt_zero {c : ClockM} {i : Nat} (h : i = 0) : prevAt c i = -1 := if_pos h
theorem prevAt_pos {c : ClockM} {i : Nat} {y : SyncV} (h : 0 < i) (hy : c.Syncs[i - 1]? = some y) : prevAt c i = y.At := by unfold prevAt; rw [if_neg (by omega), hy]; rfl
theorem prevAt_succ {c : ClockM} {i : Nat} {y : SyncV} (hy : c.Syncs[i]? = some y) : prevAt c (i + 1) = y.At := by unfold prevAt; rw [if_neg (by omega), Nat.add_sub_cancel, hy]; rfl
/-- the times of the syncs -/
theorem sync_at {c : ClockM} (h : ∀ (i : Nat) x, c.Syncs[i]? = some x → SyncOk c i x) : ∀ (i : Nat) x, c.Syncs[i]? = some x → 0 ≤ x.At ∧ ∀ (k : Nat) o, k < i → c.Syncs[k]? = some o → o.At < x.At := by
  intro i
  induction i with
  | zero =>
    intro x hx
    have := (h 0 x hx).1.1
    rw [prevAt_zero rfl] at this
    exact ⟨by omega, fun k o hk => by omega⟩
  | succ i ih =>
    intro x hx
    have hi := (List.getElem?_eq_some_iff.1 hx).1
    have hy : c.Syncs[i]? = some (c.Syncs[i]'(by omega)) := List.getElem?_eq_getElem (by omega)
    have h1 := ih _ hy
    have h2 := (h (i + 1) x hx).1.1
    rw [prevAt_succ hy] at h2
    refine ⟨by omega, fun k o hk ho => ?_⟩
    by_cases e : k = i
    · subst e; rw [hy] at ho; cases ho; exact h2
    · have := h1.2 k o (by omega) ho; omega
theorem ClockOk.sync_b {c : ClockM} (h : ClockOk c) {i : Nat} {x : SyncV} (hx : c.Syncs[i]? = some x) : (0 ≤ x.At ∧ x.At ≤ 86400000) ∧ -10000 ≤ x.Ahead.Lo ∧ x.Ahead.Lo ≤ x.Ahead.Hi ∧ x.Ahead.Hi ≤ 10000 := by
  have h1 := h.sync i x hx
  exact ⟨⟨(sync_at h.sync i x hx).1, h1.1.2⟩, h1.2⟩
theorem drift_b {d a b : Int} (hd : 0 ≤ d ∧ d ≤ 1000) (ha : 0 ≤ a ∧ a ≤ 90000000) (hb : 0 ≤ b ∧ b ≤ 90000000) : 0 ≤ d * max (a - b) (b - a) ∧ d * max (a - b) (b - a) ≤ 90000000000 := by
  have := mulb (a := d) (b := max (a - b) (b - a)) (A := 1000) (B := 90000000) hd.1 hd.2 (by omega) (by omega)
  omega
theorem offF_b {c : ClockM} {at_ : Int} {x : SyncV} (hd : 0 ≤ c.Drift ∧ c.Drift ≤ 1000) (ha : 0 ≤ at_ ∧ at_ ≤ 90000000) (hx : 0 ≤ x.At ∧ x.At ≤ 86400000) : 0 ≤ offF c at_ x ∧ offF c at_ x ≤ 90001 := by
  have h := drift_b hd ha (show 0 ≤ x.At ∧ x.At ≤ 90000000 by omega)
  unfold offF upD; omega
theorem aheadK_b {c : ClockM} {at_ : Int} (h : ClockOk c) (ha : 0 ≤ at_ ∧ at_ ≤ 90000000) : ∀ k : Nat, (-1099511627776 ≤ (aheadK c at_ k).Lo ∧ (aheadK c at_ k).Lo ≤ 10000) ∧ -10000 ≤ (aheadK c at_ k).Hi ∧ (aheadK c at_ k).Hi ≤ 1099511627776 := by
  intro k
  induction k with
  | zero => simp [aheadK]
  | succ k ih =>
    cases hx : c.Syncs[k]? with
    | none => unfold aheadK at ih ⊢; rw [List.take_add_one, hx]; simpa using ih
    | some x =>
      have hb := h.sync_b hx
      have ho := offF_b h.drift ha hb.1
      rw [aheadK_succ hx]
      unfold aheadStep
      simp only
      omega
theorem aheadF_b {c : ClockM} {at_ : Int} (h : ClockOk c) (ha : 0 ≤ at_ ∧ at_ ≤ 90000000) : (-110000 ≤ (aheadF c at_).Lo ∧ (aheadF c at_).Lo ≤ 10000) ∧ -10000 ≤ (aheadF c at_).Hi ∧ (aheadF c at_).Hi ≤ 110000 := by
  obtain ⟨n, hn⟩ : ∃ n, c.Syncs.length = n + 1 := ⟨c.Syncs.length - 1, by have := h.len; omega⟩
  have hx : c.Syncs[n]? = some (c.Syncs[n]'(by omega)) := List.getElem?_eq_getElem (by omega)
  have hb := h.sync_b hx
  have ho := offF_b h.drift ha hb.1
  have h1 := aheadK_b h ha n
  rw [← aheadK_all (k := n + 1) (by omega), aheadK_succ hx]
  unfold aheadStep
  simp only
  omega
/-- as time goes on, time and what a clock may be ahead, together, never go back -/
theorem ahead_mono {c : ClockM} (h : ClockOk c) {a b : Int} (ha : 0 ≤ a) (hab : a ≤ b) (hb : b ≤ 90000000) : ∀ k : Nat, (a + (aheadK c a k).Lo ≤ b + (aheadK c b k).Lo ∨ (aheadK c a k).Lo = -1099511627776) ∧ a + (aheadK c a k).Hi ≤ b + (aheadK c b k).Hi := by
  have step : ∀ (x : SyncV), 0 ≤ x.At ∧ x.At ≤ 86400000 → ∀ a b : Int, 0 ≤ a → a ≤ b → b ≤ 90000000 → offF c a x ≤ offF c b x + (b - a) ∧ offF c b x ≤ offF c a x + (b - a) := by
    intro x hx a b ha hab hb
    have hd := h.drift
    have e : ∀ u v : Int, u ≤ v + 1000000 * (b - a) → upD u 1000000 ≤ upD v 1000000 + (b - a) := by intro u v huv; unfold upD; omega
    have m : ∀ p q : Int, p ≤ q + (b - a) → c.Drift * p ≤ c.Drift * q + 1000000 * (b - a) := by
      intro p q hpq
      have h1 : c.Drift * p ≤ c.Drift * (q + (b - a)) := Int.mul_le_mul_of_nonneg_left hpq hd.1
      have h2 : c.Drift * (q + (b - a)) = c.Drift * q + c.Drift * (b - a) := Int.mul_add _ _ _
      have h3 : c.Drift * (b - a) ≤ 1000 * (b - a) := Int.mul_le_mul_of_nonneg_right hd.2 (by omega)
      omega
    exact ⟨e _ _ (m _ _ (by omega)), e _ _ (m _ _ (by omega))⟩
  intro k
  induction k with
  | zero => simp [aheadK]; omega
  | succ k ih =>
    cases hx : c.Syncs[k]? with
    | none =>
      have e : ∀ t, aheadK c t (k + 1) = aheadK c t k := fun t => by unfold aheadK; rw [List.take_add_one, hx]; simp
      rw [e, e]; exact ih
    | some x =>
      have hs := h.sync_b hx
      have := step x hs.1 a b ha hab hb
      have hoa := offF_b (at_ := a) h.drift ⟨ha, by omega⟩ hs.1
      rw [aheadK_succ hx, aheadK_succ hx]
      unfold aheadStep
      simp only
      omega
theorem aheadF_mono {c : ClockM} (h : ClockOk c) {a b : Int} (ha : 0 ≤ a) (hab : a ≤ b) (hb : b ≤ 90000000) : a + (aheadF c a).Lo ≤ b + (aheadF c b).Lo ∧ a + (aheadF c a).Hi ≤ b + (aheadF c b).Hi := by
  have h1 := ahead_mono h ha hab hb c.Syncs.length
  have h2 := aheadF_b h (at_ := a) ⟨ha, by omega⟩
  rw [aheadK_all (Nat.le_refl _), aheadK_all (Nat.le_refl _)] at h1
  omega
noncomputable def wayF (l : LineM) (i : Nat) : Int := match l.Beams[i]? with
  | some b => if i = 0 then (atF l.Track b.Spot).Lo else (match l.Beams[i - 1]? with
    | some a => (apartF l.Track a.Spot b.Spot).Lo
    | none => 0)
  | none => 0
theorem wayF_zero {l : LineM} {b : BeamV} (h : l.Beams[0]? = some b) : wayF l 0 = (atF l.Track b.Spot).Lo := by unfold wayF; rw [h]; rfl
theorem wayF_pos {l : LineM} {i : Nat} {a b : BeamV} (hi : 0 < i) (h : l.Beams[i]? = some b) (ha : l.Beams[i - 1]? = some a) : wayF l i = (apartF l.Track a.Spot b.Spot).Lo := by unfold wayF; rw [h, ha]; simp only; rw [if_neg (by omega)]
def BeamOk (l : LineM) (b : BeamV) : Prop := SpotOk l.Track b.Spot ∧ 0 ≤ b.Clock ∧ b.Clock < (l.Clocks.length : Int)
def HeadOk (l : LineM) : Prop := (1 ≤ l.Fast ∧ l.Fast ≤ 5000) ∧ (1 ≤ (l.Clocks.length : Int) ∧ (l.Clocks.length : Int) ≤ 4) ∧ (1 ≤ (l.Beams.length : Int) ∧ (l.Beams.length : Int) ≤ 6) ∧ (0 ≤ l.Finish ∧ l.Finish ≤ (l.Beams.length : Int) - 1) ∧ (0 ≤ l.Fakes ∧ l.Fakes ≤ 3) ∧ 0 ≤ l.Misses ∧ l.Misses ≤ 3
structure LineOk (l : LineM) : Prop where
  head : HeadOk l
  clock : ∀ c ∈ l.Clocks, ClockOk c
  beam : ∀ b ∈ l.Beams, BeamOk l b
  way : ∀ i, i < l.Beams.length → 1 ≤ wayF l i
noncomputable instance (l : LineM) : Decidable (LineOk l) := Classical.propDecidable _
noncomputable def lineE (l : LineM) : Int := if trackOk l.Track = true then (if LineOk l then 0 else 50) else 10
theorem lineE_bad {l : LineM} (h : trackOk l.Track = false) : lineE l = 10 := by unfold lineE; rw [h]; rfl
theorem lineE_no {l : LineM} (h : trackOk l.Track = true) (h2 : ¬ LineOk l) : lineE l = 50 := by unfold lineE; rw [if_pos h, if_neg h2]
theorem lineE_ok {l : LineM} (h : trackOk l.Track = true) (h2 : LineOk l) : lineE l = 0 := by unfold lineE; rw [if_pos h, if_pos h2]
theorem lineE_zero {l : LineM} (h : lineE l = 0) : trackOk l.Track = true ∧ LineOk l := by
  unfold lineE at h
  split at h
  · split at h
    · exact ⟨by assumption, by assumption⟩
    · omega
  · omega
theorem way_b {l : LineM} (ht : trackOk l.Track = true) (hb : ∀ b ∈ l.Beams, BeamOk l b) (i : Nat) : -400000 ≤ wayF l i ∧ wayF l i ≤ 400000 := by
  have hst := trackOk_all ht
  have hl := trackOk_le ht
  unfold wayF
  cases h : l.Beams[i]? with
  | none => simp
  | some b =>
    have h1 := (hb b (List.mem_of_getElem? h)).1
    simp only
    split
    · have := atF_b hst hl h1; omega
    · cases h2 : l.Beams[i - 1]? with
      | none => simp
      | some a =>
        have h3 := (hb a (List.mem_of_getElem? h2)).1
        have := apartF_b hst hl h3 h1
        simp only; omega
def clockOf (l : LineM) (s : SignalV) : ClockM := ((l.Beams[s.Beam.toNat]?).bind fun b => l.Clocks[b.Clock.toNat]?).getD ⟨0, []⟩
def whenLo (c : ClockM) (r t : Int) : Bool := decide (r ≤ t + (aheadF c t).Hi)
def whenHi (c : ClockM) (r t : Int) : Bool := decide (r < t + (aheadF c t).Lo)
noncomputable def whenC (c : ClockM) (r : Int) : SpanV := ⟨firstN (whenLo c r) 86400001, firstN (whenHi c r) 86400001 - 1⟩
noncomputable def whenF (l : LineM) (s : SignalV) : SpanV := whenC (clockOf l s) s.Read
noncomputable def leastF (l : LineM) (i : Nat) : Int := upD (1000 * wayF l i) l.Fast
end
section
open Go.RowKit
set_option linter.unusedVariables false
def w64 (n : Int) : Int := IntKind.i64.wrap n
theorem w64_in {n : Int} (h : In64 n) : w64 n = n := wrap_in h
theorem w64_b (n : Int) : -9223372036854775808 ≤ w64 n ∧ w64 n ≤ 9223372036854775807 := by
  unfold w64
  rw [IntKind.wrap_i64]
  omega
section
variable {P : Program} {t : TypeId} {x y : Operand} {a b : Int}
theorem b_addW : BinRun P .add t x y (.int .i64 a) (.int .i64 b) (.int .i64 (w64 (a + b))) := fun w => by simp [eqGuard_add, binOp_add, Op.intArith, w64]
theorem b_subW : BinRun P .sub t x y (.int .i64 a) (.int .i64 b) (.int .i64 (w64 (a - b))) := fun w => by simp [eqGuard_sub, binOp_sub, Op.intArith, w64]
theorem b_mulW : BinRun P .mul t x y (.int .i64 a) (.int .i64 b) (.int .i64 (w64 (a * b))) := fun w => by simp [eqGuard_mul, binOp_mul, Op.intArith, w64]
end
/-- divided, and rounded up, as it comes out -/
def upG (n by_ : Int) : Int := (w64 (w64 (n + by_) - 1)).tdiv by_
theorem tdiv_b {a b : Int} (ha : -9223372036854775808 ≤ a ∧ a ≤ 9223372036854775807) (hb : 2 ≤ b) : In64 (a.tdiv b) := by
  have h1 : a.tdiv b = a / b + if a % b ≠ 0 ∧ a < 0 then 1 else 0 := by
    rcases Int.lt_or_le a 0 with h | h
    · rw [Int.tdiv_eq_ediv]
      have : b.sign = 1 := Int.sign_eq_one_of_pos (by omega)
      rw [this]
      by_cases hd : b ∣ a
      · have : a % b = 0 := Int.emod_eq_zero_of_dvd hd
        simp [hd, this]
      · have : a % b ≠ 0 := fun e => hd (Int.dvd_of_emod_eq_zero e)
        have hn : ¬ 0 ≤ a := by omega
        simp [hd, this, h, hn]
    · rw [Int.tdiv_eq_ediv_of_nonneg h]
      have : ¬ a < 0 := by omega
      simp [this]
  have h2 : a / b * b + a % b = a := by rw [Int.mul_comm]; exact Int.mul_ediv_add_emod a b
  have h3 : 0 ≤ a % b := Int.emod_nonneg _ (by omega)
  have h4 : a % b < b := Int.emod_lt_of_pos _ (by omega)
  have h5 : -9223372036854775808 ≤ a / b ∧ a / b ≤ 4611686018427387904 := by
    constructor
    · refine Int.le_ediv_of_mul_le (by omega) ?_
      have : (-9223372036854775808 : Int) * b ≤ -9223372036854775808 * 1 := Int.mul_le_mul_of_nonpos_left (by omega) (by omega)
      omega
    · refine Int.ediv_le_of_le_mul (by omega) ?_
      have : (4611686018427387904 : Int) * 2 ≤ 4611686018427387904 * b := Int.mul_le_mul_of_nonneg_left hb (by omega)
      omega
  rw [h1]
  unfold In64
  split <;> omega
theorem upG_in {n by_ : Int} (h0 : 0 ≤ n) (h1 : n ≤ 1000000000000000000) (hb : 1 ≤ by_ ∧ by_ ≤ 1000000000000) : upG n by_ = (n + by_ - 1) / by_ := by
  unfold upG
  rw [w64_in (show In64 (n + by_) from ⟨by omega, by omega⟩), w64_in (show In64 (n + by_ - 1) from ⟨by omega, by omega⟩), Int.tdiv_eq_ediv_of_nonneg (by omega)]
end
end Go.Proofs.YthiigjekcdjkkaaGreat
