/-
  Regions whose order is open, with operations that write or make memory in an order that the edges leave open as well.
  No condition: the theorems hold over whatever program.
-/
import Derived.Test.YtaehngpnlkokkaaDraw
namespace Go.Proofs.Ytaehngpnlkokkaa
open Go.RowKit
set_option linter.unusedVariables false
def chkNM (m : Array Nat) (ops : Array Oper) (free T : List Nat) : Bool :=
  (free.all (Nat.blt · ops.size)) && (T.all (Nat.blt · ops.size)) && ((List.range ops.size).all fun i => free.contains i || T.contains i) && (T.all fun i => !free.contains i) &&
  ((List.range ops.size).all fun i => match ops[i]? with
    | none => false
    | some o => plainOp o && o.after.toList.all fun e => !Region.binds .any e || Nat.blt e.on i) &&
  ((List.range free.length).all fun p => match (free[p]?).bind fun i => (ops[i]?).map fun o => (i, o) with
    | none => false
    | some (i, o) => o.dst.isSome &&
      ((List.range free.length).all fun q => q == p || match (free[q]?).bind fun j => (ops[j]?).map fun o => (j, o) with
        | none => false
        | some (j, r) => match r.dst with
          | none => false
          | some d => o.dst != some d && (!(o.looksAt ops).contains d || (if q < p then ancB m j i else ancB m i j))) &&
      (T.all fun j => match ops[j]? with
        | none => false
        | some r => r.dst != o.dst && (match r.dst with | none => true | some d => !(o.looksAt ops).contains d || ancB m i j) && (match o.dst with | none => true | some d => !(r.looksAt ops).contains d || ancB m i j))) &&
  ((List.range T.length).all fun p => (List.range p).all fun q => match T[p]?, T[q]? with
    | some i, some j => i != j
    | _, _ => false)
def chkNNM (m : Array Nat) (ops : Array Oper) (free T : List Nat) (fe : List Bool) (tb : List Nat) : Bool :=
  chkNM m ops free T && (T.all fun j => tb.contains j || (List.range free.length).all fun p => !(fe[p]?).getD false || match free[p]? with
    | some i => ancB m i j
    | _ => false)
def chkNN (ops : Array Oper) (free T : List Nat) (fe : List Bool) (tb : List Nat) : Bool := chkNNM (msk ops) ops free T fe tb
def chkN (ops : Array Oper) (free T : List Nat) : Bool := chkNM (msk ops) ops free T
theorem chkN_out {ops : Array Oper} {free T : List Nat} {fe : List Bool} {tb : List Nat} (h : chkNN ops free T fe tb = true) : chkN ops free T = true ∧ ∀ (p i j : Nat), free[p]? = some i → j ∈ T → (fe[p]?).getD false = true → tb.contains j = true ∨ ancB (msk ops) i j = true := by
  simp only [chkNN, chkNNM, Bool.and_eq_true] at h
  refine ⟨h.1, fun p i j hp hj hf => ?_⟩
  have h2 := h.2
  rw [List.all_eq_true] at h2
  have h3 := h2 j hj
  rw [Bool.or_eq_true] at h3
  rcases h3 with h3 | h3
  · exact .inl h3
  · rw [List.all_eq_true] at h3
    have h4 := h3 p (by simpa using (List.getElem?_eq_some_iff.1 hp).1)
    simp only [hp, hf, Bool.not_true, Bool.false_or] at h4
    exact .inr h4
structure ChkN (ops : Array Oper) (free T : List Nat) : Prop where
  fl : ∀ i ∈ free, i < ops.size
  tl : ∀ i ∈ T, i < ops.size
  cover : ∀ i, i < ops.size → i ∈ free ∨ i ∈ T
  disj : ∀ i ∈ T, i ∉ free
  plain : ∀ (i : Nat) (o : Oper), ops[i]? = some o → (∀ cs b, o.op ≠ .select cs b) ∧ (∀ c, o.op ≠ .defer c)
  edge : ∀ (i : Nat) (o : Oper) (e : Edge), ops[i]? = some o → e ∈ o.after → Region.binds .any e = true → e.on < i
  apart : ∀ (p q i j : Nat) (o r : Oper) (d : Nat), free[p]? = some i → free[q]? = some j → q ≠ p → ops[i]? = some o → ops[j]? = some r → r.dst = some d → o.dst ≠ some d ∧ (d ∈ o.looksAt ops → (q < p ∧ ancB (msk ops) j i = true) ∨ (p < q ∧ ancB (msk ops) i j = true))
  ft : ∀ (i j : Nat) (o r : Oper), i ∈ free → j ∈ T → ops[i]? = some o → ops[j]? = some r → r.dst ≠ o.dst ∧ (∀ d, r.dst = some d → d ∈ o.looksAt ops → ancB (msk ops) i j = true) ∧ (∀ d, o.dst = some d → d ∈ r.looksAt ops → ancB (msk ops) i j = true)
  nodup : T.Nodup
theorem ChkN.of {ops : Array Oper} {free T : List Nat} (h : chkN ops free T = true) : ChkN ops free T := by
  simp only [chkN, chkNM, Bool.and_eq_true] at h
  obtain ⟨⟨⟨⟨⟨⟨h1, h2⟩, h3⟩, h4⟩, h5⟩, h6⟩, h7⟩ := h
  rw [List.all_eq_true] at h1 h2 h3 h4 h5 h6 h7
  have hfl : ∀ i ∈ free, i < ops.size := fun i hi => by have := h1 i hi; rwa [Nat.blt_eq] at this
  have htl : ∀ i ∈ T, i < ops.size := fun i hi => by have := h2 i hi; rwa [Nat.blt_eq] at this
  refine ⟨hfl, htl, fun i hi => ?_, fun i hi => ?_, fun i o ho => ?_, fun i o e ho he hb => ?_, ?_, ?_, ?_⟩
  · have := h3 i (by simpa using hi)
    simpa using this
  · have := h4 i hi
    simpa using this
  · have hi : i < ops.size := (Array.getElem?_eq_some_iff.1 ho).1
    have := h5 i (by simpa using hi)
    simp only [ho, Bool.and_eq_true] at this
    have := this.1
    refine ⟨fun cs b hh => ?_, fun c hh => ?_⟩ <;> simp [plainOp, hh] at this
  · have hi : i < ops.size := (Array.getElem?_eq_some_iff.1 ho).1
    have := h5 i (by simpa using hi)
    simp only [ho, Bool.and_eq_true] at this
    have := this.2
    rw [List.all_eq_true] at this
    have := this e (by simpa using he)
    rw [hb] at this
    simpa using this
  · intro p q i j o r d hp hq hne ho hr hd
    have := h6 p (by simpa using (List.getElem?_eq_some_iff.1 hp).1)
    simp only [hp, ho, Option.bind_some, Option.map_some, Bool.and_eq_true] at this
    have := this.1.2
    rw [List.all_eq_true] at this
    have := this q (by simpa using (List.getElem?_eq_some_iff.1 hq).1)
    simp only [hq, hr, hd, Option.bind_some, Option.map_some, Bool.or_eq_true, Bool.and_eq_true, beq_iff_eq, bne_iff_ne, ne_eq] at this
    rcases this with h | ⟨h8, h9⟩
    · exact absurd h hne
    · refine ⟨h8, fun hm => ?_⟩
      rcases h9 with h9 | h9
      · simp [hm] at h9
      · by_cases hlt : q < p
        · rw [if_pos hlt] at h9; exact .inl ⟨hlt, h9⟩
        · rw [if_neg hlt] at h9; exact .inr ⟨by omega, h9⟩
  · intro i j o r hi hj ho hr
    obtain ⟨p, hp⟩ := List.mem_iff_getElem?.1 hi
    have := h6 p (by simpa using (List.getElem?_eq_some_iff.1 hp).1)
    simp only [hp, ho, Option.bind_some, Option.map_some, Bool.and_eq_true] at this
    have := this.2
    rw [List.all_eq_true] at this
    have := this j hj
    simp only [hr, Bool.and_eq_true, bne_iff_ne, ne_eq] at this
    refine ⟨this.1.1, fun d hd hm => ?_, fun d hd hm => ?_⟩
    · have := this.1.2
      simp [hd, hm] at this; exact this
    · have := this.2
      simp [hd, hm] at this; exact this
  · rw [List.nodup_iff_pairwise_ne, List.pairwise_iff_getElem]
    intro q p hq hp hlt
    have := h7 p (by simpa using hp)
    rw [List.all_eq_true] at this
    have := this q (by simpa using hlt)
    simp only [List.getElem?_eq_getElem hp, List.getElem?_eq_getElem hq, bne_iff_ne, ne_eq] at this
    exact fun e => this e.symm
/-- the others, in whatever order the edges leave open; the part C' of the state stands throughout, the part C1 where the list tb says -/
def TN (E : Env) (ops : Array Oper) (D : List Deferred) (C' C1 : List Assn) (F : List (Nat × Value) → List Assn → Prop) (tb : List Nat) : Nat → List Nat → List (Nat × Value) → List Assn → Prop
  | 0, _, L, C => F L C
  | n + 1, rem, L, C => ∀ i ∈ rem.filter (fun i => rem.all fun j => !ancB (msk ops) j i), ∀ o, ops[i]? = some o → ∀ K : Act → World → Prop, (∀ L' C'', (∀ w, St E.S E.w0 C'' w → St E.S E.w0 C' w) → (tb.contains i = true → ∀ w, St E.S E.w0 C'' w → St E.S E.w0 C1 w) → TN E ops D C' C1 F tb n (rem.filter (· != i)) L' C'' → KJ E K D L' C'') → RJ E ops (NQ K) [o] D L C
set_option maxHeartbeats 1000000 in
theorem w_drawN {E : Env} {id : Nat} {ops : Array Oper} {Q : Post} {D : List Deferred} {L : List (Nat × Value)} {C : List Assn} (hm : E.P.follows .mixedOrders = true) (free T : List Nat) (fe : List Bool) (tb : List Nat) (C' C1 : List Assn) (hc : chkNN ops free T fe tb = true)
    (hC : ∀ w, St E.S E.w0 C w → St E.S E.w0 C' w) (hC1 : ∀ w, St E.S E.w0 C w → St E.S E.w0 C1 w)
    (h : DJ4 E ops D C' C1 (fun L' => TN E ops D C' C1 (fun L C => KJ E (Q .normal) D L C) tb T.length T L' C) fe (pickL ops free) L) : WJ E (.region id ops true) Q D L C := by
  obtain ⟨hc, hc4⟩ := chkN_out hc
  have hc := ChkN.of hc
  intro a0 w0 hf0 hs0
  refine wpIn_region_any hm ?_
  have hs1 : St E.S E.w0 C ({ w0 with drawn := w0.drawn + 1 } : World) := hs0.same (Keeps.drew no w0)
  obtain ⟨vs, hvl, hF, hall⟩ := DJ4.out _ _ _ h
  have hfl := pickL_length hc.fl
  have hgf : ∀ (p : Nat) (i : Nat) (o : Oper), free[p]? = some i → ops[i]? = some o → (pickL ops free)[p]? = some o := fun p i o hp ho => by rw [pickL_get hc.fl, hp]; exact ho
  have hfg : ∀ (p : Nat) (o : Oper), (pickL ops free)[p]? = some o → ∃ i, free[p]? = some i ∧ ops[i]? = some o := fun p o h => by
    rw [pickL_get hc.fl] at h
    cases hp : free[p]? with
    | none => simp [hp] at h
    | some i => exact ⟨i, rfl, by simpa [hp] using h⟩
  have hdlt : ∀ (j : Nat) (o : Oper) (d : Nat), (pickL ops free)[j]? = some o → o.dst = some d → d < E.n := fun j o d ho hd => by
    obtain ⟨d', v, h1, h2, _⟩ := hall j o ho
    rw [h1] at hd; cases hd; exact h2
  -- all is listed
  have done : ∀ (listed : Array Bool) (a : Act) (w : World) (rem : List Nat) (Lk : List (Nat × Value)) (Ck : List Assn) (af : Act), (∀ i, i < ops.size → listed.getD i false = true) →
      (∀ i ∈ T, (listed.getD i false = true ↔ i ∉ rem)) → (∀ i ∈ rem, i ∈ T) → rem.Nodup → a.defers = D → a.tmps.size = E.n →
      TN E ops D C' C1 (fun L C => KJ E (Q .normal) D L C) tb rem.length rem Lk Ck → Fr E.n D Lk af → St E.S E.w0 Ck w →
      (∀ t, (∀ (p i : Nat) (o : Oper), free[p]? = some i → ops[i]? = some o → o.dst ≠ some t) → af.tmps[t]? = a.tmps[t]?) →
      (∀ (p i : Nat) (o : Oper) (d : Nat), free[p]? = some i → ops[i]? = some o → o.dst = some d → af.tmps[d]? = vs[p]? ∧ (listed.getD i false = true → a.tmps[d]? = vs[p]?)) → Q .normal a w := by
    intro listed a w rem Lk Ck af hal hTk hrT hrn hd hz hT hfr hst hslot hfree
    have hk : rem = [] := by
      rw [List.eq_nil_iff_forall_not_mem]
      intro i hi
      exact (hTk i (hrT i hi)).1 (hal i (hc.tl i (hrT i hi))) hi
    subst hk
    have hT : KJ E (Q .normal) D Lk Ck := hT
    refine hT a w ⟨hd, hz, fun t v hv => ?_⟩ hst
    rw [← hfr.at_ t v hv]
    by_cases hw : ∃ (p i : Nat) (o : Oper), free[p]? = some i ∧ ops[i]? = some o ∧ o.dst = some t
    · obtain ⟨p, i, o, hp, ho, hdst⟩ := hw
      obtain ⟨e1, e2⟩ := hfree p i o t hp ho hdst
      rw [e1, e2 (hal i (hc.fl i (List.mem_of_getElem? hp)))]
    · exact (hslot t (fun p i o hp ho hdst => hw ⟨p, i, o, hp, ho, hdst⟩)).symm
  have key : ∀ (fuel : Nat) (listed : Array Bool) (a : Act) (w : World) (rem : List Nat) (Lk : List (Nat × Value)) (Ck : List Assn) (af : Act), listed.size = ops.size → (unl ops.size listed).length ≤ fuel → (∀ j, listed.getD j false = true → Deps ops (fun k => listed.getD k false = true) j) →
      (∀ i ∈ T, (listed.getD i false = true ↔ i ∉ rem)) → (∀ i ∈ rem, i ∈ T) → rem.Nodup → a.defers = D → a.tmps.size = E.n →
      TN E ops D C' C1 (fun L C => KJ E (Q .normal) D L C) tb rem.length rem Lk Ck → Fr E.n D Lk af → St E.S E.w0 Ck w → (∀ w, St E.S E.w0 Ck w → St E.S E.w0 C' w) → (∀ (p i : Nat), free[p]? = some i → (fe[p]?).getD false = true → listed.getD i false = false → ∀ w, St E.S E.w0 Ck w → St E.S E.w0 C1 w) →
      (∀ t, (∀ (p i : Nat) (o : Oper), free[p]? = some i → ops[i]? = some o → o.dst ≠ some t) → af.tmps[t]? = a.tmps[t]?) →
      (∀ t, (∀ (i : Nat) (o : Oper), listed.getD i false = true → ops[i]? = some o → o.dst ≠ some t) → a.tmps[t]? = a0.tmps[t]?) →
      (∀ (p i : Nat) (o : Oper) (d : Nat), free[p]? = some i → ops[i]? = some o → o.dst = some d → af.tmps[d]? = vs[p]? ∧ (listed.getD i false = true → a.tmps[d]? = vs[p]?)) →
      wpAnyIn (Fw E.r) 0 E.P .any ops Q fuel listed a w := by
    intro fuel
    induction fuel with
    | zero =>
      intro listed a w rem Lk Ck af hsz hu hcl hTk hrT hrn hd hz hT hfr hst hsub hsub1 hslot hold hfree
      have hall' : ∀ i, i < ops.size → listed.getD i false = true := fun i hi => by
        cases hg : listed.getD i false with
        | true => rfl
        | false =>
          have := List.length_pos_of_mem (mem_unl.2 ⟨hi, hg⟩)
          omega
      refine ⟨?_, done listed a w rem Lk Ck af hall' hTk hrT hrn hd hz hT hfr hst hslot hfree⟩
      rw [List.eq_nil_iff_forall_not_mem]
      intro i hi
      obtain ⟨h1, h2, _⟩ := of_ready hsz hi
      rw [hall' i h1] at h2; cases h2
    | succ fuel ih =>
      intro listed a w rem Lk Ck af hsz hu hcl hTk hrT hrn hd hz hT hfr hst hsub hsub1 hslot hold hfree
      refine ⟨fun hnil => ?_, fun i hi => ?_⟩
      · refine done listed a w rem Lk Ck af (fun i hi => ?_) hTk hrT hrn hd hz hT hfr hst hslot hfree
        cases hg : listed.getD i false with
        | true => rfl
        | false =>
          exfalso
          have hex : ∃ i, i < ops.size ∧ listed.getD i false = false := ⟨i, hi, hg⟩
          obtain ⟨j, hj, hmin⟩ := exists_least hex
          have hr : j ∈ Region.ready .any ops listed := ready_of hsz hj.1 hj.2 (fun o e ho he hb => by
            have h1 := hc.edge j o e ho he hb
            cases hg : listed.getD e.on false with
            | true => exact hg
            | false => exact absurd (hmin e.on ⟨by omega, hg⟩) (by omega))
          rw [hnil] at hr; cases hr
      · obtain ⟨hi1, hi2, hi3⟩ := of_ready hsz hi
        obtain ⟨o, ho⟩ : ∃ o, ops[i]? = some o := ⟨ops[i], Array.getElem?_eq_getElem hi1⟩
        obtain ⟨hsel, hdef⟩ := hc.plain i o ho
        have hset : ∀ j, (listed.setIfInBounds i true).getD j false = if j = i then true else listed.getD j false := fun j => getD_set (by omega) false
        have hun := unl_lt (n := ops.size) (i := i) (listed := listed) (by omega) (mem_unl.2 ⟨hi1, hi2⟩)
        have hcl' : ∀ j, (listed.setIfInBounds i true).getD j false = true → Deps ops (fun k => (listed.setIfInBounds i true).getD k false = true) j := by
          intro j hj o' e ho' he hb
          show (listed.setIfInBounds i true).getD e.on false = true
          rw [hset] at hj ⊢
          by_cases e1 : e.on = i
          · simp [e1]
          · simp only [e1, if_false]
            by_cases e2 : j = i
            · subst e2; exact hi3 o' e ho' he hb
            · simp only [e2, if_false] at hj; exact hcl j hj o' e ho' he hb
        have hanc : ∀ j, ancB (msk ops) j i = true → listed.getD j false = true := fun j hj => ancB_closed (S := fun k => listed.getD k false = true) hcl hj hi3
        have hnanc : ∀ j, ancB (msk ops) i j = true → listed.getD j false = false := fun j hj => by
          cases hg : listed.getD j false with
          | false => rfl
          | true =>
            have := ancB_closed (S := fun k => listed.getD k false = true) hcl hj (hcl j hg)
            rw [this] at hi2; cases hi2
        unfold wpOpIn
        simp only [ho]
        rcases hc.cover i hi1 with hin | hin
        · -- a free one
          obtain ⟨p, hp⟩ := List.mem_iff_getElem?.1 hin
          obtain ⟨d, v, hod, hdn, hvi, hsd⟩ := hall p o (hgf p i o hp ho)
          have hfrp := actAt_fr (pickL ops free) vs p L a0 hdlt hf0
          have hlook : ∀ t ∈ o.looksAt ops, a.tmps[t]? = (actAt (pickL ops free) vs p a0).tmps[t]? := by
            intro t htl
            by_cases hw : ∃ (q j : Nat) (r : Oper), free[q]? = some j ∧ q ≠ p ∧ ops[j]? = some r ∧ r.dst = some t
            · obtain ⟨q, j, r, hq, hne, hr, hrd⟩ := hw
              obtain ⟨d', v', e1, e2, e3, _⟩ := hall q r (hgf q j r hq hr)
              rw [hrd] at e1; cases e1
              have hap := hc.apart p q i j o r t hp hq hne ho hr hrd
              rcases hap.2 htl with ⟨hlt, ha⟩ | ⟨hlt, ha⟩
              · rw [(hfree q j r t hq hr hrd).2 (hanc j ha), e3]
                refine (actAt_at (pickL ops free) vs p a0 q r t v' hlt (hgf q j r hq hr) hrd (by rw [hf0.size]; exact e2) e3 (fun m u hm hne' hu => ?_)).symm
                obtain ⟨x, hx1, hx2⟩ := hfg m u hu
                exact (hc.apart m q x j u r t hx1 hq (Ne.symm hne') hx2 hr hrd).1
              · have hnS := hnanc j ha
                refine (hold t (fun m u hm hu hud => ?_)).trans (actAt_other (pickL ops free) vs p a0 t (fun m u hm hu hud => ?_)).symm
                · rcases hc.cover m (Array.getElem?_eq_some_iff.1 hu).1 with hmf | hmT
                  · obtain ⟨x, hx⟩ := List.mem_iff_getElem?.1 hmf
                    by_cases e : x = q
                    · subst e; rw [hq] at hx; cases hx; rw [hm] at hnS; cases hnS
                    · exact (hc.apart x q m j u r t hx hq (Ne.symm e) hu hr hrd).1 hud
                  · exact (hc.ft j m r u (List.mem_of_getElem? hq) hmT hr hu).1 (by rw [hud, hrd])
                · obtain ⟨x, hx1, hx2⟩ := hfg m u hu
                  exact (hc.apart m q x j u r t hx1 hq (by omega) hx2 hr hrd).1 hud
            · refine (hold t (fun m u hm hu hud => ?_)).trans (actAt_other (pickL ops free) vs p a0 t (fun m u hm hu hud => ?_)).symm
              · rcases hc.cover m (Array.getElem?_eq_some_iff.1 hu).1 with hmf | hmT
                · obtain ⟨x, hx⟩ := List.mem_iff_getElem?.1 hmf
                  by_cases e : x = p
                  · subst e; rw [hp] at hx; cases hx; rw [hm] at hi2; cases hi2
                  · exact hw ⟨x, m, u, hx, e, hu, hud⟩
                · have := hnanc m ((hc.ft i m o u hin hmT ho hu).2.1 t hud htl)
                  rw [hm] at this; cases this
              · obtain ⟨x, hx1, hx2⟩ := hfg m u hu
                exact hw ⟨m, x, u, hx1, by omega, hx2, hud⟩
          have hTi : ∀ j ∈ T, j ≠ i := fun j hmj e => hc.disj j hmj (e ▸ hin)
          have hgo : ∀ w', Keeps no w w' → wpAnyIn (Fw E.r) 0 E.P .any ops Q fuel (listed.setIfInBounds i true) (a.put (some d) v) w' := by
            intro w' hk
            refine ih _ _ w' rem Lk Ck af (by simpa using hsz) (by omega) hcl' (fun j hmj => ?_) hrT hrn hd (by simp [Act.put, hz]) hT hfr (hst.same hk) hsub (fun p' i' hp' hf' hl' => hsub1 p' i' hp' hf' (by rw [hset] at hl'; by_cases e : i' = i; (rw [if_pos e] at hl'; cases hl'); (rwa [if_neg e] at hl'))) (fun t ht => ?_) (fun t ht => ?_) (fun q j r d' hq hr hrd => ?_)
            · rw [hset, if_neg (hTi j hmj)]; exact hTk j hmj
            · have hne : d ≠ t := fun e => ht p i o hp ho (by rw [hod, e])
              simp only [Act.put]
              rw [Array.getElem?_setIfInBounds_ne hne]
              exact hslot t ht
            · have hne : d ≠ t := fun e => ht i o (by rw [hset]; simp) ho (by rw [hod, e])
              simp only [Act.put]
              rw [Array.getElem?_setIfInBounds_ne hne]
              exact hold t (fun m u hm hu => ht m u (by rw [hset]; split <;> simp [hm]) hu)
            · refine ⟨(hfree q j r d' hq hr hrd).1, fun hl => ?_⟩
              by_cases e : q = p
              · subst e
                rw [hp] at hq; cases hq
                rw [ho] at hr; cases hr
                rw [hod] at hrd; cases hrd
                simp only [Act.put]
                rw [Array.getElem?_setIfInBounds_self_of_lt (by rw [hz]; exact hdn), hvi]
              · have hne := (hc.apart p q i j o r d' hp hq e ho hr hrd).1
                simp only [Act.put]
                rw [Array.getElem?_setIfInBounds_ne (fun h => hne (by rw [hod, h]))]
                refine (hfree q j r d' hq hr hrd).2 ?_
                rw [hset] at hl
                by_cases e2 : j = i
                · subst e2
                  exact absurd (by rw [ho] at hr; cases hr; rw [hod] at hrd ⊢; exact hrd) hne
                · simpa [e2] using hl
          refine sd_swapk hsd hod hdn hsel hdef hfrp hlook ?_ hgo
          cases hfl : (fe[p]?).getD false with
          | true => exact hsub1 p i hp hfl hi2 w hst
          | false => exact hsub w hst
        · -- one of the others
          have hir : i ∈ rem := by
            rcases Classical.em (i ∈ rem) with h | h
            · exact h
            · have := (hTk i hin).2 h; rw [this] at hi2; cases hi2
          have hmin : i ∈ rem.filter (fun i => rem.all fun j => !ancB (msk ops) j i) := by
            rw [List.mem_filter]
            refine ⟨hir, List.all_eq_true.2 fun j hj => ?_⟩
            cases hab : ancB (msk ops) j i with
            | false => rfl
            | true => exact absurd hj ((hTk j (hrT j hj)).1 (hanc j hab))
          obtain ⟨nr, hnr⟩ : ∃ nr, rem.length = nr + 1 := ⟨rem.length - 1, by have := List.length_pos_of_mem hir; omega⟩
          have hnr' : (rem.filter (· != i)).length = nr := by
            have := hrn.erase_eq_filter i
            rw [← this, List.length_erase_of_mem hir, hnr]; rfl
          rw [hnr] at hT
          have hT := hT i hmin o ho
          have hlook : ∀ t ∈ o.looksAt ops, a.tmps[t]? = af.tmps[t]? := by
            intro t htl
            by_cases hw : ∃ (q j : Nat) (r : Oper), free[q]? = some j ∧ ops[j]? = some r ∧ r.dst = some t
            · obtain ⟨q, j, r, hq, hr, hrd⟩ := hw
              have ha := (hc.ft j i r o (List.mem_of_getElem? hq) hin hr ho).2.2 t hrd htl
              obtain ⟨e1, e2⟩ := hfree q j r t hq hr hrd
              rw [e1, e2 (hanc j ha)]
            · exact (hslot t (fun q j r hq hr hrd => hw ⟨q, j, r, hq, hr, hrd⟩)).symm
          refine op_swap hsel hdef hlook (hT (fun af' w' => af'.defers = D ∧ ∃ L' C'', (∀ w, St E.S E.w0 C'' w → St E.S E.w0 C' w) ∧ (tb.contains i = true → ∀ w, St E.S E.w0 C'' w → St E.S E.w0 C1 w) ∧ TN E ops D C' C1 (fun L C => KJ E (Q .normal) D L C) tb nr (rem.filter (· != i)) L' C'' ∧ Fr E.n D L' af' ∧ St E.S E.w0 C'' w')
            (fun L' C'' h1 h1' h2 af' w' h3 h4 => ⟨h3.defers, L', C'', h1, h1', h2, h3, h4⟩) af w hfr hst) (fun b w' hb => hb.1.trans hfr.defers.symm) ?_
          rintro u w' ⟨_, L', C'', h1, h1', h2, h3, h4⟩
          have hput : ∀ (b : Act) (t : Nat), o.dst ≠ some t → (b.put o.dst u).tmps[t]? = b.tmps[t]? := fun b t hne => by
            cases hod : o.dst with
            | none => rfl
            | some d => simp only [Act.put]; rw [Array.getElem?_setIfInBounds_ne (fun e => hne (by rw [hod, e]))]
          have hputs : ∀ (b : Act), (b.put o.dst u).tmps.size = b.tmps.size := fun b => by cases o.dst <;> simp [Act.put]
          refine ih _ _ w' (rem.filter (· != i)) L' C'' (af.put o.dst u) (by simpa using hsz) (by omega) hcl' (fun j hq => ?_) (fun j hj => hrT j (List.mem_filter.1 hj).1) (hrn.filter _) (by cases o.dst <;> exact hd) (by rw [hputs]; exact hz) (by rw [hnr']; exact h2) h3 h4 h1 (fun p' i' hp' hf' hl' => by
            rcases hc4 p' i' i hp' hin hf' with h5 | h5
            · exact h1' h5
            · have h6 := hanc i' h5
              rw [hset] at hl'
              by_cases e : i' = i
              · rw [if_pos e] at hl'; cases hl'
              · rw [if_neg e, h6] at hl'; cases hl') (fun t ht => ?_) (fun t ht => ?_) (fun q j r d' hq hr hrd => ?_)
          · rw [hset]
            by_cases e : j = i
            · subst e; simp
            · simp only [e, if_false, List.mem_filter, bne_iff_ne, ne_eq, not_false_eq_true, and_true]
              exact hTk j hq
          · by_cases hod : o.dst = some t
            · rw [hod]
              simp only [Act.put]
              by_cases hlt : t < E.n
              · rw [Array.getElem?_setIfInBounds_self_of_lt (by rw [hfr.size]; exact hlt), Array.getElem?_setIfInBounds_self_of_lt (by rw [hz]; exact hlt)]
              · rw [Array.getElem?_eq_none (by rw [Array.size_setIfInBounds, hfr.size]; exact Nat.le_of_not_lt hlt), Array.getElem?_eq_none (by rw [Array.size_setIfInBounds, hz]; exact Nat.le_of_not_lt hlt)]
            · rw [hput a t hod, hput af t hod]; exact hslot t ht
          · rw [hput a t (ht i o (by rw [hset]; simp) ho)]
            exact hold t (fun m' u' hm'' hu' => ht m' u' (by rw [hset]; split <;> simp [hm'']) hu')
          · have hne : o.dst ≠ some d' := fun e => (hc.ft j i r o (List.mem_of_getElem? hq) hin hr ho).1 (by rw [e, hrd])
            rw [hput a d' hne, hput af d' hne]
            refine ⟨(hfree q j r d' hq hr hrd).1, fun hl => (hfree q j r d' hq hr hrd).2 ?_⟩
            rw [hset] at hl
            have : j ≠ i := fun e => hc.disj i hin (e ▸ List.mem_of_getElem? hq)
            simpa [this] using hl
  refine key ops.size (Array.replicate ops.size false) a0 _ T _ C (actAt (pickL ops free) vs (pickL ops free).length a0) (by simp) ?_ ?_ ?_ (fun _ h => h) hc.nodup hf0.defers hf0.size (by simpa using hF) (actAt_fr _ vs _ L a0 hdlt hf0) hs1 hC (fun _ _ _ _ _ => hC1) ?_ (fun _ _ => rfl) ?_
  · unfold unl; exact Nat.le_trans (List.length_filter_le _ _) (by simp)
  · intro j hj
    simp only [Array.getD_eq_getD_getElem?, Array.getElem?_replicate] at hj
    split at hj <;> simp at hj
  · intro i hi
    simp only [Array.getD_eq_getD_getElem?, Array.getElem?_replicate]
    split <;> simp [hi]
  · intro t ht
    refine actAt_other _ vs _ a0 t (fun m u _ hu hud => ?_)
    obtain ⟨x, hx1, hx2⟩ := hfg m u hu
    exact ht m x u hx1 hx2 hud
  · intro p i o d hp ho hod
    obtain ⟨d', v', e1, e2, e3, _⟩ := hall p o (hgf p i o hp ho)
    rw [hod] at e1; cases e1
    refine ⟨?_, fun hl => ?_⟩
    · rw [e3]
      refine actAt_at _ vs _ a0 p o d v' (by rw [hfl]; exact (List.getElem?_eq_some_iff.1 hp).1) (hgf p i o hp ho) hod (by rw [hf0.size]; exact e2) e3 (fun m u hm hne hu => ?_)
      obtain ⟨x, hx1, hx2⟩ := hfg m u hu
      exact (hc.apart m p x i u o d hx1 hp (Ne.symm hne) hx2 ho hod).1
    · simp only [Array.getD_eq_getD_getElem?, Array.getElem?_replicate] at hl
      split at hl <;> simp at hl
theorem n_fin {E : Env} {ops : Array Oper} {D : List Deferred} {C' C1 : List Assn} {F : List (Nat × Value) → List Assn → Prop} {tb rem : List Nat} {L : List (Nat × Value)} {C : List Assn} (h : F L C) : TN E ops D C' C1 F tb 0 rem L C := h
def NStep (E : Env) (ops : Array Oper) (D : List Deferred) (C' C1 : List Assn) (F : List (Nat × Value) → List Assn → Prop) (tb : List Nat) (n : Nat) (rem : List Nat) (i : Nat) (L : List (Nat × Value)) (C : List Assn) : Prop :=
  ∀ o, ops[i]? = some o → ∀ K : Act → World → Prop, (∀ L' C'', (∀ w, St E.S E.w0 C'' w → St E.S E.w0 C' w) → (tb.contains i = true → ∀ w, St E.S E.w0 C'' w → St E.S E.w0 C1 w) → TN E ops D C' C1 F tb n rem L' C'' → KJ E K D L' C'') → RJ E ops (NQ K) [o] D L C
theorem n_step {E : Env} {ops : Array Oper} {D : List Deferred} {C' C1 : List Assn} {F : List (Nat × Value) → List Assn → Prop} {tb rem : List Nat} {n : Nat} {L : List (Nat × Value)} {C : List Assn} (ms : List Nat) (hm : rem.filter (fun i => rem.all fun j => !ancB (msk ops) j i) = ms)
    (h : ∀ i ∈ ms, NStep E ops D C' C1 F tb n (rem.filter (· != i)) i L C) : TN E ops D C' C1 F tb (n + 1) rem L C := fun i hi => h i (hm ▸ hi)
theorem n_cons {p : Nat → Prop} {i : Nat} {l : List Nat} (h : p i) (t : ∀ j ∈ l, p j) : ∀ j ∈ i :: l, p j := fun j hj => by
  rcases List.mem_cons.1 hj with rfl | hj
  · exact h
  · exact t j hj
theorem n_nil {p : Nat → Prop} : ∀ j ∈ ([] : List Nat), p j := fun j hj => by cases hj
theorem n_op {E : Env} {ops : Array Oper} {D : List Deferred} {C' C1 : List Assn} {F : List (Nat × Value) → List Assn → Prop} {tb rem rem' : List Nat} {n i : Nat} {L : List (Nat × Value)} {C : List Assn} {o : Oper} (ho : ops[i]? = some o) (hr : rem = rem') (ht : tb.contains i = false)
    (h : ∀ K : Act → World → Prop, (∀ L' C'', (∀ w, St E.S E.w0 C'' w → St E.S E.w0 C' w) → TN E ops D C' C1 F tb n rem' L' C'' → KJ E K D L' C'') → RJ E ops (NQ K) [o] D L C) : NStep E ops D C' C1 F tb n rem i L C := fun o' ho' K hK => by
  rw [ho] at ho'; cases ho'
  subst hr
  exact h K fun L' C'' h1 h2 => hK L' C'' h1 (fun h => by rw [ht] at h; cases h) h2
theorem n_op5 {E : Env} {ops : Array Oper} {D : List Deferred} {C' C1 : List Assn} {F : List (Nat × Value) → List Assn → Prop} {tb rem rem' : List Nat} {n i : Nat} {L : List (Nat × Value)} {C : List Assn} {o : Oper} (ho : ops[i]? = some o) (hr : rem = rem')
    (h : ∀ K : Act → World → Prop, (∀ L' C'', (∀ w, St E.S E.w0 C'' w → St E.S E.w0 C' w) → (∀ w, St E.S E.w0 C'' w → St E.S E.w0 C1 w) → TN E ops D C' C1 F tb n rem' L' C'' → KJ E K D L' C'') → RJ E ops (NQ K) [o] D L C) : NStep E ops D C' C1 F tb n rem i L C := fun o' ho' K hK => by
  rw [ho] at ho'; cases ho'
  subst hr
  exact h K fun L' C'' h1 h1' h2 => hK L' C'' h1 (fun _ => h1') h2
end Go.Proofs.Ytaehngpnlkokkaa
