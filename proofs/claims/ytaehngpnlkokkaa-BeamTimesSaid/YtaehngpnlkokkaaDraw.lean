/-
  A region whose order is open, with operations that write: the free operations by themselves, the others in a chain, among which the free ones may come in whatever order the edges leave.
  No condition: the theorems hold over whatever program.
-/
import Derived.Test.YtaehngpnlkokkaaMore
namespace Go.Proofs.Ytaehngpnlkokkaa
open Go.RowKit
set_option linter.unusedVariables false
def pickL (ops : Array Oper) (is : List Nat) : List Oper := is.filterMap (ops[·]?)
theorem pickL_get {ops : Array Oper} : ∀ {is : List Nat}, (∀ i ∈ is, i < ops.size) → ∀ p : Nat, (pickL ops is)[p]? = (is[p]?).bind (ops[·]?) := by
  intro is
  induction is with
  | nil => intro _ p; simp [pickL]
  | cons i is ih =>
    intro h p
    have hi := h i (by simp)
    have h1 : pickL ops (i :: is) = ops[i] :: pickL ops is := by simp [pickL, hi]
    rw [h1]
    cases p with
    | zero => simp [hi]
    | succ p => simpa using ih (fun j hj => h j (by simp [hj])) p
theorem pickL_length {ops : Array Oper} {is : List Nat} (h : ∀ i ∈ is, i < ops.size) : (pickL ops is).length = is.length := by
  induction is with
  | nil => rfl
  | cons i is ih =>
    have hi := h i (by simp)
    have h1 : pickL ops (i :: is) = ops[i] :: pickL ops is := by simp [pickL, hi]
    rw [h1]; simp [ih (fun j hj => h j (by simp [hj]))]
def plainOp (o : Oper) : Bool := match o.op with | .select .. => false | .defer _ => false | _ => true
def chk3M (m : Array Nat) (ops : Array Oper) (free T : List Nat) : Bool :=
  (free.all (Nat.blt · ops.size)) && (T.all (Nat.blt · ops.size)) && ((List.range ops.size).all fun i => free.contains i || T.contains i) && (T.all fun i => !free.contains i) &&
  ((List.range ops.size).all fun i => match ops[i]? with
    | none => false
    | some o => plainOp o && o.after.toList.all fun e => !Region.binds .any e || Nat.blt e.on i) &&
  ((List.range free.length).all fun p => match (free[p]?).bind fun i => (ops[i]?).map fun o => (i, o) with
    | none => false
    | some (i, o) => o.dst.isSome &&
      ((List.range free.length).all fun q => q == p || match (free[q]?).bind fun j => (ops[j]?).map fun o => (j, o) with
        | none => false
        | some (j, r) => match r.dst with
          | none => false
          | some d => o.dst != some d && (!(o.looksAt ops).contains d || (if q < p then ancB m j i else ancB m i j))) &&
      (T.all fun j => match ops[j]? with
        | none => false
        | some r => r.dst != o.dst && (match r.dst with | none => true | some d => !(o.looksAt ops).contains d || ancB m i j) && (match o.dst with | none => true | some d => !(r.looksAt ops).contains d || ancB m i j))) &&
  ((List.range T.length).all fun p => (List.range p).all fun q => match T[p]?, T[q]? with
    | some i, some j => i != j && ancB m j i
    | _, _ => false)
def chk4M (m : Array Nat) (ops : Array Oper) (free T : List Nat) (fe tb : List Bool) : Bool :=
  chk3M m ops free T && ((List.range T.length).all fun q => (tb[q]?).getD false || (List.range free.length).all fun p => !(fe[p]?).getD false || match free[p]?, T[q]? with
    | some i, some j => ancB m i j
    | _, _ => false)
def chk4 (ops : Array Oper) (free T : List Nat) (fe tb : List Bool) : Bool := chk4M (msk ops) ops free T fe tb
def chk3 (ops : Array Oper) (free T : List Nat) : Bool := chk3M (msk ops) ops free T
theorem chk4_out {ops : Array Oper} {free T : List Nat} {fe tb : List Bool} (h : chk4 ops free T fe tb = true) : chk3 ops free T = true ∧ ∀ (p q i j : Nat), free[p]? = some i → T[q]? = some j → (fe[p]?).getD false = true → (tb[q]?).getD false = true ∨ ancB (msk ops) i j = true := by
  simp only [chk4, chk4M, Bool.and_eq_true] at h
  refine ⟨h.1, fun p q i j hp hq hf => ?_⟩
  have h2 := h.2
  rw [List.all_eq_true] at h2
  have h3 := h2 q (by simpa using (List.getElem?_eq_some_iff.1 hq).1)
  rw [Bool.or_eq_true] at h3
  rcases h3 with h3 | h3
  · exact .inl h3
  · rw [List.all_eq_true] at h3
    have h4 := h3 p (by simpa using (List.getElem?_eq_some_iff.1 hp).1)
    simp only [hp, hq, hf, Bool.not_true, Bool.false_or] at h4
    exact .inr h4
structure Chk3 (ops : Array Oper) (free T : List Nat) : Prop where
  fl : ∀ i ∈ free, i < ops.size
  tl : ∀ i ∈ T, i < ops.size
  cover : ∀ i, i < ops.size → i ∈ free ∨ i ∈ T
  disj : ∀ i ∈ T, i ∉ free
  plain : ∀ (i : Nat) (o : Oper), ops[i]? = some o → (∀ cs b, o.op ≠ .select cs b) ∧ (∀ c, o.op ≠ .defer c)
  edge : ∀ (i : Nat) (o : Oper) (e : Edge), ops[i]? = some o → e ∈ o.after → Region.binds .any e = true → e.on < i
  apart : ∀ (p q i j : Nat) (o r : Oper) (d : Nat), free[p]? = some i → free[q]? = some j → q ≠ p → ops[i]? = some o → ops[j]? = some r → r.dst = some d → o.dst ≠ some d ∧ (d ∈ o.looksAt ops → (q < p ∧ ancB (msk ops) j i = true) ∨ (p < q ∧ ancB (msk ops) i j = true))
  ft : ∀ (i j : Nat) (o r : Oper), i ∈ free → j ∈ T → ops[i]? = some o → ops[j]? = some r → r.dst ≠ o.dst ∧ (∀ d, r.dst = some d → d ∈ o.looksAt ops → ancB (msk ops) i j = true) ∧ (∀ d, o.dst = some d → d ∈ r.looksAt ops → ancB (msk ops) i j = true)
  chain : ∀ p q i j : Nat, T[p]? = some i → T[q]? = some j → q < p → i ≠ j ∧ ancB (msk ops) j i = true
theorem Chk3.of {ops : Array Oper} {free T : List Nat} (h : chk3 ops free T = true) : Chk3 ops free T := by
  simp only [chk3, chk3M, Bool.and_eq_true] at h
  obtain ⟨⟨⟨⟨⟨⟨h1, h2⟩, h3⟩, h4⟩, h5⟩, h6⟩, h7⟩ := h
  rw [List.all_eq_true] at h1 h2 h3 h4 h5 h6 h7
  have hfl : ∀ i ∈ free, i < ops.size := fun i hi => by have := h1 i hi; rwa [Nat.blt_eq] at this
  have htl : ∀ i ∈ T, i < ops.size := fun i hi => by have := h2 i hi; rwa [Nat.blt_eq] at this
  refine ⟨hfl, htl, fun i hi => ?_, fun i hi => ?_, fun i o ho => ?_, fun i o e ho he hb => ?_, ?_, ?_, ?_⟩
  · have := h3 i (by simpa using hi)
    simpa using this
  · have := h4 i hi
    simpa using this
  · have hi : i < ops.size := (Array.getElem?_eq_some_iff.1 ho).1
    have := h5 i (by simpa using hi)
    simp only [ho, Bool.and_eq_true] at this
    have := this.1
    refine ⟨fun cs b hh => ?_, fun c hh => ?_⟩ <;> simp [plainOp, hh] at this
  · have hi : i < ops.size := (Array.getElem?_eq_some_iff.1 ho).1
    have := h5 i (by simpa using hi)
    simp only [ho, Bool.and_eq_true] at this
    have := this.2
    rw [List.all_eq_true] at this
    have := this e (by simpa using he)
    rw [hb] at this
    simpa using this
  · intro p q i j o r d hp hq hne ho hr hd
    have := h6 p (by simpa using (List.getElem?_eq_some_iff.1 hp).1)
    simp only [hp, ho, Option.bind_some, Option.map_some, Bool.and_eq_true] at this
    have := this.1.2
    rw [List.all_eq_true] at this
    have := this q (by simpa using (List.getElem?_eq_some_iff.1 hq).1)
    simp only [hq, hr, hd, Option.bind_some, Option.map_some, Bool.or_eq_true, Bool.and_eq_true, beq_iff_eq, bne_iff_ne, ne_eq] at this
    rcases this with h | ⟨h8, h9⟩
    · exact absurd h hne
    · refine ⟨h8, fun hm => ?_⟩
      rcases h9 with h9 | h9
      · simp [hm] at h9
      · by_cases hlt : q < p
        · rw [if_pos hlt] at h9; exact .inl ⟨hlt, h9⟩
        · rw [if_neg hlt] at h9; exact .inr ⟨by omega, h9⟩
  · intro i j o r hi hj ho hr
    obtain ⟨p, hp⟩ := List.mem_iff_getElem?.1 hi
    have := h6 p (by simpa using (List.getElem?_eq_some_iff.1 hp).1)
    simp only [hp, ho, Option.bind_some, Option.map_some, Bool.and_eq_true] at this
    have := this.2
    rw [List.all_eq_true] at this
    have := this j hj
    simp only [hr, Bool.and_eq_true, bne_iff_ne, ne_eq] at this
    refine ⟨this.1.1, fun d hd hm => ?_, fun d hd hm => ?_⟩
    · have := this.1.2
      simp [hd, hm] at this; exact this
    · have := this.2
      simp [hd, hm] at this; exact this
  · intro p q i j hp hq hlt
    have := h7 p (by simpa using (List.getElem?_eq_some_iff.1 hp).1)
    rw [List.all_eq_true] at this
    have := this q (by simpa using hlt)
    simp only [hp, hq, Bool.and_eq_true, bne_iff_ne, ne_eq] at this
    exact this
def NQ (K : Act → World → Prop) : Post
  | .normal => K
  | _ => fun _ _ => False
/-- the others, one behind the other; the part C' of the state stands throughout, the part C1 as long as the flags say -/
def TJ (E : Env) (ops : Array Oper) (D : List Deferred) (C' C1 : List Assn) (F : List (Nat × Value) → List Assn → Prop) : List Bool → List Oper → List (Nat × Value) → List Assn → Prop
  | _, [], L, C => F L C
  | bs, o :: T, L, C => ∀ K : Act → World → Prop, (∀ L' C'', (∀ w, St E.S E.w0 C'' w → St E.S E.w0 C' w) → (bs.headD false = true → ∀ w, St E.S E.w0 C'' w → St E.S E.w0 C1 w) → TJ E ops D C' C1 F bs.tail T L' C'' → KJ E K D L' C'') → RJ E ops (NQ K) [o] D L C
/-- the free ones: an early one (its flag) may read C1 -/
def DJ4 (E : Env) (ops : Array Oper) (D : List Deferred) (C' C1 : List Assn) (F : List (Nat × Value) → Prop) : List Bool → List Oper → List (Nat × Value) → Prop
  | _, [], L => F L
  | bs, o :: rest, L => ∃ d v, o.dst = some d ∧ d < E.n ∧ SD E ops o D L (bif bs.headD false then C1 else C') v ∧ DJ4 E ops D C' C1 F bs.tail rest ((d, v) :: L)
theorem DJ4.out {E : Env} {ops : Array Oper} {D : List Deferred} {C' C1 : List Assn} {F : List (Nat × Value) → Prop} : ∀ (bs : List Bool) (os : List Oper) (L : List (Nat × Value)), DJ4 E ops D C' C1 F bs os L →
    ∃ vs : List Value, vs.length = os.length ∧ F (lat os vs os.length L) ∧ ∀ i o, os[i]? = some o → ∃ d v, o.dst = some d ∧ d < E.n ∧ vs[i]? = some v ∧ SD E ops o D (lat os vs i L) (bif (bs[i]?).getD false then C1 else C') v := by
  intro bs os
  induction os generalizing bs with
  | nil => intro L h; exact ⟨[], rfl, by cases bs <;> exact h, fun i o ho => by simp at ho⟩
  | cons o os ih =>
    intro L h
    have h' : ∃ d v, o.dst = some d ∧ d < E.n ∧ SD E ops o D L (bif bs.headD false then C1 else C') v ∧ DJ4 E ops D C' C1 F bs.tail os ((d, v) :: L) := by cases bs <;> exact h
    obtain ⟨d, v, ho, hd, hsd, hk⟩ := h'
    obtain ⟨vs, hl, hF, hall⟩ := ih _ _ hk
    refine ⟨v :: vs, by simp [hl], by simpa [lat, ho] using hF, fun i o' ho' => ?_⟩
    cases i with
    | zero =>
      simp at ho'; subst ho'
      refine ⟨d, v, ho, hd, by simp, ?_⟩
      have e : (bs[0]?).getD false = bs.headD false := by cases bs <;> rfl
      rw [e]; simpa [lat] using hsd
    | succ i =>
      obtain ⟨d', v', h1, h2, h3, h4⟩ := hall i o' (by simpa using ho')
      refine ⟨d', v', h1, h2, by simpa using h3, ?_⟩
      have e : (bs[i + 1]?) = bs.tail[i]? := by cases bs <;> simp
      rw [e]; simpa [lat, ho] using h4
theorem op_swap {E : Env} {ops : Array Oper} {o : Oper} (hsel : ∀ cs b, o.op ≠ .select cs b) (hdef : ∀ c, o.op ≠ .defer c) {a a' : Act} (hl : ∀ t ∈ o.looksAt ops, a.tmps[t]? = a'.tmps[t]?) {w : World}
    {K N : Act → World → Prop} {Q : Post} (h : wpL E.r E.P ops (NQ K) [o] a' w) (hK : ∀ b w', K b w' → b.defers = a'.defers) (hn : ∀ u w', K (a'.put o.dst u) w' → N (a.put o.dst u) w') :
    if Region.wanted o (yielded ops a.tmps) then o.wpIn (Fw E.r) 0 E.P a w N Q else (∀ f, o.about E.P w a.eval = some f → (Fw E.r).fn f) ∧ N (a.put o.dst undef) w := by
  rw [wanted_congr hl]
  unfold wpL at h
  by_cases hw : Region.wanted o (yielded ops a'.tmps) = true
  · rw [if_pos hw] at h ⊢
    refine ⟨fun _ _ => trivial, ?_⟩
    have h2 := h.2
    rw [Oper.semAt_eq _ _ _ hdef] at h2 ⊢
    rw [execOp_congr (ρ := a.eval) (ρ' := a'.eval) o hsel (eval_congr hl)]
    generalize (execOp a'.eval o).run E.P w = res at h2
    cases res with
    | halt x w' => cases x <;> simp [Oper.uponIn, NQ] at h2
    | ok x w' =>
      cases x with
      | value u => exact hn u w' h2
      | skip => exact hn _ w' h2
      | defer dd =>
        have h3 := hK _ _ h2
        have := congrArg List.length h3
        simp [Act.put] at this
        cases ho : o.dst <;> simp [ho] at this
      | enter f args =>
        refine ⟨h2.1, h2.2.mono fun e w'' he => ?_⟩
        cases e with
        | returned u => exact hn u w'' he
        | panicked ch => exact he.elim
        | outgrown => obtain ⟨_, _, hF⟩ := he; exact hF.elim
      | row x args => exact ⟨h2.1, h2.2.mono fun u w'' he => hn u w'' he⟩
      | round l f tmps as bd =>
        refine ⟨h2.1, h2.2.mono fun e w'' he => ?_⟩
        cases e with
        | returned u => exact hn u w'' he
        | panicked ch => exact he.elim
        | outgrown => obtain ⟨_, _, hF⟩ := he; exact hF.elim
      | _ => simp [Oper.uponIn] at h2
  · rw [if_neg hw] at h ⊢
    exact ⟨fun _ _ => trivial, hn _ w h⟩
set_option maxHeartbeats 1000000 in
theorem w_draw4 {E : Env} {id : Nat} {ops : Array Oper} {Q : Post} {D : List Deferred} {L : List (Nat × Value)} {C : List Assn} (hm : E.P.follows .mixedOrders = true) (free T : List Nat) (fe tb : List Bool) (C' C1 : List Assn) (hc : chk4 ops free T fe tb = true)
    (hC : ∀ w, St E.S E.w0 C w → St E.S E.w0 C' w) (hC1 : ∀ w, St E.S E.w0 C w → St E.S E.w0 C1 w)
    (h : DJ4 E ops D C' C1 (fun L' => TJ E ops D C' C1 (fun L C => KJ E (Q .normal) D L C) tb (pickL ops T) L' C) fe (pickL ops free) L) : WJ E (.region id ops true) Q D L C := by
  obtain ⟨hc, hc4⟩ := chk4_out hc
  have hc := Chk3.of hc
  intro a0 w0 hf0 hs0
  refine wpIn_region_any hm ?_
  have hs1 : St E.S E.w0 C ({ w0 with drawn := w0.drawn + 1 } : World) := hs0.same (Keeps.drew no w0)
  obtain ⟨vs, hvl, hF, hall⟩ := DJ4.out _ _ _ h
  have hfl := pickL_length hc.fl
  have hgf : ∀ (p : Nat) (i : Nat) (o : Oper), free[p]? = some i → ops[i]? = some o → (pickL ops free)[p]? = some o := fun p i o hp ho => by rw [pickL_get hc.fl, hp]; exact ho
  have hfg : ∀ (p : Nat) (o : Oper), (pickL ops free)[p]? = some o → ∃ i, free[p]? = some i ∧ ops[i]? = some o := fun p o h => by
    rw [pickL_get hc.fl] at h
    cases hp : free[p]? with
    | none => simp [hp] at h
    | some i => exact ⟨i, rfl, by simpa [hp] using h⟩
  have hdlt : ∀ (j : Nat) (o : Oper) (d : Nat), (pickL ops free)[j]? = some o → o.dst = some d → d < E.n := fun j o d ho hd => by
    obtain ⟨d', v, h1, h2, _⟩ := hall j o ho
    rw [h1] at hd; cases hd; exact h2
  -- all is listed
  have done : ∀ (listed : Array Bool) (a : Act) (w : World) (k : Nat) (Lk : List (Nat × Value)) (Ck : List Assn) (af : Act), (∀ i, i < ops.size → listed.getD i false = true) →
      (∀ m i, T[m]? = some i → (listed.getD i false = true ↔ m < k)) → a.defers = D → a.tmps.size = E.n →
      TJ E ops D C' C1 (fun L C => KJ E (Q .normal) D L C) (tb.drop k) (pickL ops (T.drop k)) Lk Ck → Fr E.n D Lk af → St E.S E.w0 Ck w →
      (∀ t, (∀ (p i : Nat) (o : Oper), free[p]? = some i → ops[i]? = some o → o.dst ≠ some t) → af.tmps[t]? = a.tmps[t]?) →
      (∀ (p i : Nat) (o : Oper) (d : Nat), free[p]? = some i → ops[i]? = some o → o.dst = some d → af.tmps[d]? = vs[p]? ∧ (listed.getD i false = true → a.tmps[d]? = vs[p]?)) → Q .normal a w := by
    intro listed a w k Lk Ck af hal hTk hd hz hT hfr hst hslot hfree
    have hk : T.drop k = [] := by
      rw [List.drop_eq_nil_iff]
      rcases Nat.lt_or_ge k T.length with hlt | hge
      · have hi := (hTk k _ (List.getElem?_eq_getElem hlt)).1 (hal _ (hc.tl _ (List.getElem_mem hlt)))
        omega
      · exact hge
    rw [hk] at hT
    have hT : KJ E (Q .normal) D Lk Ck := by cases hb : tb.drop k <;> (rw [hb] at hT; exact hT)
    refine hT a w ⟨hd, hz, fun t v hv => ?_⟩ hst
    rw [← hfr.at_ t v hv]
    by_cases hw : ∃ (p i : Nat) (o : Oper), free[p]? = some i ∧ ops[i]? = some o ∧ o.dst = some t
    · obtain ⟨p, i, o, hp, ho, hdst⟩ := hw
      obtain ⟨e1, e2⟩ := hfree p i o t hp ho hdst
      rw [e1, e2 (hal i (hc.fl i (List.mem_of_getElem? hp)))]
    · exact (hslot t (fun p i o hp ho hdst => hw ⟨p, i, o, hp, ho, hdst⟩)).symm
  have key : ∀ (fuel : Nat) (listed : Array Bool) (a : Act) (w : World) (k : Nat) (Lk : List (Nat × Value)) (Ck : List Assn) (af : Act), listed.size = ops.size → (unl ops.size listed).length ≤ fuel → (∀ j, listed.getD j false = true → Deps ops (fun k => listed.getD k false = true) j) →
      (∀ m i, T[m]? = some i → (listed.getD i false = true ↔ m < k)) → a.defers = D → a.tmps.size = E.n →
      TJ E ops D C' C1 (fun L C => KJ E (Q .normal) D L C) (tb.drop k) (pickL ops (T.drop k)) Lk Ck → Fr E.n D Lk af → St E.S E.w0 Ck w → (∀ w, St E.S E.w0 Ck w → St E.S E.w0 C' w) → (∀ (p i : Nat), free[p]? = some i → (fe[p]?).getD false = true → listed.getD i false = false → ∀ w, St E.S E.w0 Ck w → St E.S E.w0 C1 w) →
      (∀ t, (∀ (p i : Nat) (o : Oper), free[p]? = some i → ops[i]? = some o → o.dst ≠ some t) → af.tmps[t]? = a.tmps[t]?) →
      (∀ t, (∀ (i : Nat) (o : Oper), listed.getD i false = true → ops[i]? = some o → o.dst ≠ some t) → a.tmps[t]? = a0.tmps[t]?) →
      (∀ (p i : Nat) (o : Oper) (d : Nat), free[p]? = some i → ops[i]? = some o → o.dst = some d → af.tmps[d]? = vs[p]? ∧ (listed.getD i false = true → a.tmps[d]? = vs[p]?)) →
      wpAnyIn (Fw E.r) 0 E.P .any ops Q fuel listed a w := by
    intro fuel
    induction fuel with
    | zero =>
      intro listed a w k Lk Ck af hsz hu hcl hTk hd hz hT hfr hst hsub hsub1 hslot hold hfree
      have hall' : ∀ i, i < ops.size → listed.getD i false = true := fun i hi => by
        cases hg : listed.getD i false with
        | true => rfl
        | false =>
          have := List.length_pos_of_mem (mem_unl.2 ⟨hi, hg⟩)
          omega
      refine ⟨?_, done listed a w k Lk Ck af hall' hTk hd hz hT hfr hst hslot hfree⟩
      rw [List.eq_nil_iff_forall_not_mem]
      intro i hi
      obtain ⟨h1, h2, _⟩ := of_ready hsz hi
      rw [hall' i h1] at h2; cases h2
    | succ fuel ih =>
      intro listed a w k Lk Ck af hsz hu hcl hTk hd hz hT hfr hst hsub hsub1 hslot hold hfree
      refine ⟨fun hnil => ?_, fun i hi => ?_⟩
      · refine done listed a w k Lk Ck af (fun i hi => ?_) hTk hd hz hT hfr hst hslot hfree
        cases hg : listed.getD i false with
        | true => rfl
        | false =>
          exfalso
          have hex : ∃ i, i < ops.size ∧ listed.getD i false = false := ⟨i, hi, hg⟩
          obtain ⟨j, hj, hmin⟩ := exists_least hex
          have hr : j ∈ Region.ready .any ops listed := ready_of hsz hj.1 hj.2 (fun o e ho he hb => by
            have h1 := hc.edge j o e ho he hb
            cases hg : listed.getD e.on false with
            | true => exact hg
            | false => exact absurd (hmin e.on ⟨by omega, hg⟩) (by omega))
          rw [hnil] at hr; cases hr
      · obtain ⟨hi1, hi2, hi3⟩ := of_ready hsz hi
        obtain ⟨o, ho⟩ : ∃ o, ops[i]? = some o := ⟨ops[i], Array.getElem?_eq_getElem hi1⟩
        obtain ⟨hsel, hdef⟩ := hc.plain i o ho
        have hset : ∀ j, (listed.setIfInBounds i true).getD j false = if j = i then true else listed.getD j false := fun j => getD_set (by omega) false
        have hun := unl_lt (n := ops.size) (i := i) (listed := listed) (by omega) (mem_unl.2 ⟨hi1, hi2⟩)
        have hcl' : ∀ j, (listed.setIfInBounds i true).getD j false = true → Deps ops (fun k => (listed.setIfInBounds i true).getD k false = true) j := by
          intro j hj o' e ho' he hb
          show (listed.setIfInBounds i true).getD e.on false = true
          rw [hset] at hj ⊢
          by_cases e1 : e.on = i
          · simp [e1]
          · simp only [e1, if_false]
            by_cases e2 : j = i
            · subst e2; exact hi3 o' e ho' he hb
            · simp only [e2, if_false] at hj; exact hcl j hj o' e ho' he hb
        have hanc : ∀ j, ancB (msk ops) j i = true → listed.getD j false = true := fun j hj => ancB_closed (S := fun k => listed.getD k false = true) hcl hj hi3
        have hnanc : ∀ j, ancB (msk ops) i j = true → listed.getD j false = false := fun j hj => by
          cases hg : listed.getD j false with
          | false => rfl
          | true =>
            have := ancB_closed (S := fun k => listed.getD k false = true) hcl hj (hcl j hg)
            rw [this] at hi2; cases hi2
        unfold wpOpIn
        simp only [ho]
        rcases hc.cover i hi1 with hin | hin
        · -- a free one
          obtain ⟨p, hp⟩ := List.mem_iff_getElem?.1 hin
          obtain ⟨d, v, hod, hdn, hvi, hsd⟩ := hall p o (hgf p i o hp ho)
          have hfrp := actAt_fr (pickL ops free) vs p L a0 hdlt hf0
          have hlook : ∀ t ∈ o.looksAt ops, a.tmps[t]? = (actAt (pickL ops free) vs p a0).tmps[t]? := by
            intro t htl
            by_cases hw : ∃ (q j : Nat) (r : Oper), free[q]? = some j ∧ q ≠ p ∧ ops[j]? = some r ∧ r.dst = some t
            · obtain ⟨q, j, r, hq, hne, hr, hrd⟩ := hw
              obtain ⟨d', v', e1, e2, e3, _⟩ := hall q r (hgf q j r hq hr)
              rw [hrd] at e1; cases e1
              have hap := hc.apart p q i j o r t hp hq hne ho hr hrd
              rcases hap.2 htl with ⟨hlt, ha⟩ | ⟨hlt, ha⟩
              · rw [(hfree q j r t hq hr hrd).2 (hanc j ha), e3]
                refine (actAt_at (pickL ops free) vs p a0 q r t v' hlt (hgf q j r hq hr) hrd (by rw [hf0.size]; exact e2) e3 (fun m u hm hne' hu => ?_)).symm
                obtain ⟨x, hx1, hx2⟩ := hfg m u hu
                exact (hc.apart m q x j u r t hx1 hq (Ne.symm hne') hx2 hr hrd).1
              · have hnS := hnanc j ha
                refine (hold t (fun m u hm hu hud => ?_)).trans (actAt_other (pickL ops free) vs p a0 t (fun m u hm hu hud => ?_)).symm
                · rcases hc.cover m (Array.getElem?_eq_some_iff.1 hu).1 with hmf | hmT
                  · obtain ⟨x, hx⟩ := List.mem_iff_getElem?.1 hmf
                    by_cases e : x = q
                    · subst e; rw [hq] at hx; cases hx; rw [hm] at hnS; cases hnS
                    · exact (hc.apart x q m j u r t hx hq (Ne.symm e) hu hr hrd).1 hud
                  · exact (hc.ft j m r u (List.mem_of_getElem? hq) hmT hr hu).1 (by rw [hud, hrd])
                · obtain ⟨x, hx1, hx2⟩ := hfg m u hu
                  exact (hc.apart m q x j u r t hx1 hq (by omega) hx2 hr hrd).1 hud
            · refine (hold t (fun m u hm hu hud => ?_)).trans (actAt_other (pickL ops free) vs p a0 t (fun m u hm hu hud => ?_)).symm
              · rcases hc.cover m (Array.getElem?_eq_some_iff.1 hu).1 with hmf | hmT
                · obtain ⟨x, hx⟩ := List.mem_iff_getElem?.1 hmf
                  by_cases e : x = p
                  · subst e; rw [hp] at hx; cases hx; rw [hm] at hi2; cases hi2
                  · exact hw ⟨x, m, u, hx, e, hu, hud⟩
                · have := hnanc m ((hc.ft i m o u hin hmT ho hu).2.1 t hud htl)
                  rw [hm] at this; cases this
              · obtain ⟨x, hx1, hx2⟩ := hfg m u hu
                exact hw ⟨m, x, u, hx1, by omega, hx2, hud⟩
          have hTi : ∀ m j, T[m]? = some j → j ≠ i := fun m j hmj e => hc.disj j (List.mem_of_getElem? hmj) (e ▸ hin)
          have hgo : ∀ w', Keeps no w w' → wpAnyIn (Fw E.r) 0 E.P .any ops Q fuel (listed.setIfInBounds i true) (a.put (some d) v) w' := by
            intro w' hk
            refine ih _ _ w' k Lk Ck af (by simpa using hsz) (by omega) hcl' (fun m j hmj => ?_) hd (by simp [Act.put, hz]) hT hfr (hst.same hk) hsub (fun p' i' hp' hf' hl' => hsub1 p' i' hp' hf' (by rw [hset] at hl'; by_cases e : i' = i; (rw [if_pos e] at hl'; cases hl'); (rwa [if_neg e] at hl'))) (fun t ht => ?_) (fun t ht => ?_) (fun q j r d' hq hr hrd => ?_)
            · rw [hset, if_neg (hTi m j hmj)]; exact hTk m j hmj
            · have hne : d ≠ t := fun e => ht p i o hp ho (by rw [hod, e])
              simp only [Act.put]
              rw [Array.getElem?_setIfInBounds_ne hne]
              exact hslot t ht
            · have hne : d ≠ t := fun e => ht i o (by rw [hset]; simp) ho (by rw [hod, e])
              simp only [Act.put]
              rw [Array.getElem?_setIfInBounds_ne hne]
              exact hold t (fun m u hm hu => ht m u (by rw [hset]; split <;> simp [hm]) hu)
            · refine ⟨(hfree q j r d' hq hr hrd).1, fun hl => ?_⟩
              by_cases e : q = p
              · subst e
                rw [hp] at hq; cases hq
                rw [ho] at hr; cases hr
                rw [hod] at hrd; cases hrd
                simp only [Act.put]
                rw [Array.getElem?_setIfInBounds_self_of_lt (by rw [hz]; exact hdn), hvi]
              · have hne := (hc.apart p q i j o r d' hp hq e ho hr hrd).1
                simp only [Act.put]
                rw [Array.getElem?_setIfInBounds_ne (fun h => hne (by rw [hod, h]))]
                refine (hfree q j r d' hq hr hrd).2 ?_
                rw [hset] at hl
                by_cases e2 : j = i
                · subst e2
                  exact absurd (by rw [ho] at hr; cases hr; rw [hod] at hrd ⊢; exact hrd) hne
                · simpa [e2] using hl
          refine sd_swapk hsd hod hdn hsel hdef hfrp hlook ?_ hgo
          cases hfl : (fe[p]?).getD false with
          | true => exact hsub1 p i hp hfl hi2 w hst
          | false => exact hsub w hst
        · -- one of the others
          obtain ⟨m, hm'⟩ := List.mem_iff_getElem?.1 hin
          have hmk : m = k := by
            have h1 : ¬ m < k := fun h => by have := (hTk m i hm').2 h; rw [this] at hi2; cases hi2
            rcases Nat.lt_or_ge k m with h2 | h2
            · have hkT : k < T.length := by have := (List.getElem?_eq_some_iff.1 hm').1; omega
              have := hanc _ (hc.chain m k i _ hm' (List.getElem?_eq_getElem hkT) h2).2
              have := (hTk k _ (List.getElem?_eq_getElem hkT)).1 this
              omega
            · omega
          subst hmk
          have hdrop : pickL ops (T.drop m) = o :: pickL ops (T.drop (m + 1)) := by
            have hlt := (List.getElem?_eq_some_iff.1 hm').1
            have hx : T[m] = i := (List.getElem?_eq_some_iff.1 hm').2
            rw [List.drop_eq_getElem_cons hlt, hx]
            simp [pickL, ho]
          rw [hdrop] at hT
          have hbh : (tb.drop m).headD false = (tb[m]?).getD false := by rw [List.headD_eq_head?_getD, List.head?_drop]
          have hbt : (tb.drop m).tail = tb.drop (m + 1) := by simp
          have hT : ∀ K : Act → World → Prop, (∀ L' C'', (∀ w, St E.S E.w0 C'' w → St E.S E.w0 C' w) → ((tb.drop m).headD false = true → ∀ w, St E.S E.w0 C'' w → St E.S E.w0 C1 w) → TJ E ops D C' C1 (fun L C => KJ E (Q .normal) D L C) (tb.drop m).tail (pickL ops (T.drop (m + 1))) L' C'' → KJ E K D L' C'') → RJ E ops (NQ K) [o] D Lk Ck := by
            cases hb : tb.drop m <;> (rw [hb] at hT; exact hT)
          rw [hbh, hbt] at hT
          have hlook : ∀ t ∈ o.looksAt ops, a.tmps[t]? = af.tmps[t]? := by
            intro t htl
            by_cases hw : ∃ (q j : Nat) (r : Oper), free[q]? = some j ∧ ops[j]? = some r ∧ r.dst = some t
            · obtain ⟨q, j, r, hq, hr, hrd⟩ := hw
              have ha := (hc.ft j i r o (List.mem_of_getElem? hq) hin hr ho).2.2 t hrd htl
              obtain ⟨e1, e2⟩ := hfree q j r t hq hr hrd
              rw [e1, e2 (hanc j ha)]
            · exact (hslot t (fun q j r hq hr hrd => hw ⟨q, j, r, hq, hr, hrd⟩)).symm
          refine op_swap hsel hdef hlook (hT (fun af' w' => af'.defers = D ∧ ∃ L' C'', (∀ w, St E.S E.w0 C'' w → St E.S E.w0 C' w) ∧ ((tb[m]?).getD false = true → ∀ w, St E.S E.w0 C'' w → St E.S E.w0 C1 w) ∧ TJ E ops D C' C1 (fun L C => KJ E (Q .normal) D L C) (tb.drop (m + 1)) (pickL ops (T.drop (m + 1))) L' C'' ∧ Fr E.n D L' af' ∧ St E.S E.w0 C'' w')
            (fun L' C'' h1 h1' h2 af' w' h3 h4 => ⟨h3.defers, L', C'', h1, h1', h2, h3, h4⟩) af w hfr hst) (fun b w' hb => hb.1.trans hfr.defers.symm) ?_
          rintro u w' ⟨_, L', C'', h1, h1', h2, h3, h4⟩
          have hput : ∀ (b : Act) (t : Nat), o.dst ≠ some t → (b.put o.dst u).tmps[t]? = b.tmps[t]? := fun b t hne => by
            cases hod : o.dst with
            | none => rfl
            | some d => simp only [Act.put]; rw [Array.getElem?_setIfInBounds_ne (fun e => hne (by rw [hod, e]))]
          have hputs : ∀ (b : Act), (b.put o.dst u).tmps.size = b.tmps.size := fun b => by cases o.dst <;> simp [Act.put]
          refine ih _ _ w' (m + 1) L' C'' (af.put o.dst u) (by simpa using hsz) (by omega) hcl' (fun q j hq => ?_) (by cases o.dst <;> exact hd) (by rw [hputs]; exact hz) h2 h3 h4 h1 (fun p' i' hp' hf' hl' => by
            rcases hc4 p' m i' i hp' hm' hf' with h5 | h5
            · exact h1' h5
            · have h6 := hanc i' h5
              rw [hset] at hl'
              by_cases e : i' = i
              · rw [if_pos e] at hl'; cases hl'
              · rw [if_neg e, h6] at hl'; cases hl') (fun t ht => ?_) (fun t ht => ?_) (fun q j r d' hq hr hrd => ?_)
          · rw [hset]
            by_cases e : j = i
            · subst e
              simp only [if_true, true_iff]
              rcases Nat.lt_trichotomy q m with h5 | h5 | h5
              · omega
              · omega
              · exact absurd rfl (hc.chain q m j j hq hm' h5).1
            · simp only [e, if_false]
              rw [hTk q j hq]
              constructor
              · omega
              · intro h5
                rcases Nat.lt_or_ge q m with h6 | h6
                · exact h6
                · have : q = m := by omega
                  subst this; rw [hm'] at hq; cases hq; exact absurd rfl e
          · by_cases hod : o.dst = some t
            · rw [hod]
              simp only [Act.put]
              by_cases hlt : t < E.n
              · rw [Array.getElem?_setIfInBounds_self_of_lt (by rw [hfr.size]; exact hlt), Array.getElem?_setIfInBounds_self_of_lt (by rw [hz]; exact hlt)]
              · rw [Array.getElem?_eq_none (by rw [Array.size_setIfInBounds, hfr.size]; exact Nat.le_of_not_lt hlt), Array.getElem?_eq_none (by rw [Array.size_setIfInBounds, hz]; exact Nat.le_of_not_lt hlt)]
            · rw [hput a t hod, hput af t hod]; exact hslot t ht
          · rw [hput a t (ht i o (by rw [hset]; simp) ho)]
            exact hold t (fun m' u' hm'' hu' => ht m' u' (by rw [hset]; split <;> simp [hm'']) hu')
          · have hne : o.dst ≠ some d' := fun e => (hc.ft j i r o (List.mem_of_getElem? hq) hin hr ho).1 (by rw [e, hrd])
            rw [hput a d' hne, hput af d' hne]
            refine ⟨(hfree q j r d' hq hr hrd).1, fun hl => (hfree q j r d' hq hr hrd).2 ?_⟩
            rw [hset] at hl
            have : j ≠ i := fun e => hc.disj i hin (e ▸ List.mem_of_getElem? hq)
            simpa [this] using hl
  refine key ops.size (Array.replicate ops.size false) a0 _ 0 _ C (actAt (pickL ops free) vs (pickL ops free).length a0) (by simp) ?_ ?_ ?_ hf0.defers hf0.size (by simpa using hF) (actAt_fr _ vs _ L a0 hdlt hf0) hs1 hC (fun _ _ _ _ _ => hC1) ?_ (fun _ _ => rfl) ?_
  · unfold unl; exact Nat.le_trans (List.length_filter_le _ _) (by simp)
  · intro j hj
    simp only [Array.getD_eq_getD_getElem?, Array.getElem?_replicate] at hj
    split at hj <;> simp at hj
  · intro m i _
    simp only [Array.getD_eq_getD_getElem?, Array.getElem?_replicate]
    split <;> simp
  · intro t ht
    refine actAt_other _ vs _ a0 t (fun m u _ hu hud => ?_)
    obtain ⟨x, hx1, hx2⟩ := hfg m u hu
    exact ht m x u hx1 hx2 hud
  · intro p i o d hp ho hod
    obtain ⟨d', v', e1, e2, e3, _⟩ := hall p o (hgf p i o hp ho)
    rw [hod] at e1; cases e1
    refine ⟨?_, fun hl => ?_⟩
    · rw [e3]
      refine actAt_at _ vs _ a0 p o d v' (by rw [hfl]; exact (List.getElem?_eq_some_iff.1 hp).1) (hgf p i o hp ho) hod (by rw [hf0.size]; exact e2) e3 (fun m u hm hne hu => ?_)
      obtain ⟨x, hx1, hx2⟩ := hfg m u hu
      exact (hc.apart m p x i u o d hx1 hp (Ne.symm hne) hx2 ho hod).1
    · simp only [Array.getD_eq_getD_getElem?, Array.getElem?_replicate] at hl
      split at hl <;> simp at hl
theorem d_fin {E : Env} {ops : Array Oper} {D : List Deferred} {C' C1 : List Assn} {F : List (Nat × Value) → Prop} {bs : List Bool} {l : List Oper} {L : List (Nat × Value)} (hl : l = []) (h : F L) : DJ4 E ops D C' C1 F bs l L := by subst hl; cases bs <;> exact h
theorem d4_sd {E : Env} {ops : Array Oper} {D : List Deferred} {C' C1 : List Assn} {F : List (Nat × Value) → Prop} {bs : List Bool} {o : Oper} {l rest : List Oper} {L : List (Nat × Value)} {v : Value} {d : Nat} (h : SD E ops o D L C' v) (hl : l = o :: rest) (ho : o.dst = some d) (hd : Nat.blt d E.n = true) (k : DJ4 E ops D C' C1 F bs rest ((d, v) :: L)) :
    DJ4 E ops D C' C1 F (false :: bs) l L := by subst hl; exact ⟨d, v, ho, by rw [← Nat.blt_eq]; exact hd, h, k⟩
theorem d5_sd {E : Env} {ops : Array Oper} {D : List Deferred} {C' C1 : List Assn} {F : List (Nat × Value) → Prop} {bs : List Bool} {o : Oper} {l rest : List Oper} {L : List (Nat × Value)} {v : Value} {d : Nat} (h : SD E ops o D L C1 v) (hl : l = o :: rest) (ho : o.dst = some d) (hd : Nat.blt d E.n = true) (k : DJ4 E ops D C' C1 F bs rest ((d, v) :: L)) :
    DJ4 E ops D C' C1 F (true :: bs) l L := by subst hl; exact ⟨d, v, ho, by rw [← Nat.blt_eq]; exact hd, h, k⟩
theorem t_fin {E : Env} {ops : Array Oper} {D : List Deferred} {C' C1 : List Assn} {F : List (Nat × Value) → List Assn → Prop} {bs : List Bool} {l : List Oper} {L : List (Nat × Value)} {C : List Assn} (hl : l = []) (h : F L C) : TJ E ops D C' C1 F bs l L C := by subst hl; cases bs <;> exact h
theorem t_cons {E : Env} {ops : Array Oper} {D : List Deferred} {C' C1 : List Assn} {F : List (Nat × Value) → List Assn → Prop} {bs : List Bool} {l T : List Oper} {o : Oper} {L : List (Nat × Value)} {C : List Assn} (hl : l = o :: T)
    (h : ∀ K : Act → World → Prop, (∀ L' C'', (∀ w, St E.S E.w0 C'' w → St E.S E.w0 C' w) → TJ E ops D C' C1 F bs T L' C'' → KJ E K D L' C'') → RJ E ops (NQ K) [o] D L C) : TJ E ops D C' C1 F (false :: bs) l L C := by
  subst hl; exact fun K hK => h K fun L' C'' h1 h2 => hK L' C'' h1 (fun h => by cases h) h2
theorem t5_cons {E : Env} {ops : Array Oper} {D : List Deferred} {C' C1 : List Assn} {F : List (Nat × Value) → List Assn → Prop} {bs : List Bool} {l T : List Oper} {o : Oper} {L : List (Nat × Value)} {C : List Assn} (hl : l = o :: T)
    (h : ∀ K : Act → World → Prop, (∀ L' C'', (∀ w, St E.S E.w0 C'' w → St E.S E.w0 C' w) → (∀ w, St E.S E.w0 C'' w → St E.S E.w0 C1 w) → TJ E ops D C' C1 F bs T L' C'' → KJ E K D L' C'') → RJ E ops (NQ K) [o] D L C) : TJ E ops D C' C1 F (true :: bs) l L C := by
  subst hl; exact fun K hK => h K fun L' C'' h1 h3 h2 => hK L' C'' h1 (fun _ => h3) h2
theorem TJ.sub {E : Env} {ops : Array Oper} {Q : Post} {D : List Deferred} {C' C1 C : List Assn} : ∀ {bs : List Bool} {T : List Oper} {L L' : List (Nat × Value)}, Sub L L' → TJ E ops D C' C1 (fun L C => KJ E (Q .normal) D L C) bs T L' C → TJ E ops D C' C1 (fun L C => KJ E (Q .normal) D L C) bs T L C := by
  intro bs T
  cases T with
  | nil => intro L L' hs h; cases bs <;> exact k_sub hs (fun _ h => h) h
  | cons o T => intro L L' hs h; cases bs <;> exact fun K hK => r_sub hs (fun _ h => h) (h K hK)
theorem DJ4.mono {E : Env} {ops : Array Oper} {D : List Deferred} {C' C1 : List Assn} {F : List (Nat × Value) → Prop} (hF : ∀ L L', Sub L L' → F L' → F L) : ∀ {bs : List Bool} {os : List Oper} {L L' : List (Nat × Value)}, Sub L L' → DJ4 E ops D C' C1 F bs os L' → DJ4 E ops D C' C1 F bs os L := by
  intro bs os
  induction os generalizing bs with
  | nil => intro L L' hs h; cases bs <;> exact hF _ _ hs h
  | cons o os ih =>
    intro L L' hs h
    have h' : ∃ d v, o.dst = some d ∧ d < E.n ∧ SD E ops o D L' (bif bs.headD false then C1 else C') v ∧ DJ4 E ops D C' C1 F bs.tail os ((d, v) :: L') := by cases bs <;> exact h
    obtain ⟨d, v, ho, hd, hsd, hk⟩ := h'
    have h2 : ∃ d v, o.dst = some d ∧ d < E.n ∧ SD E ops o D L (bif bs.headD false then C1 else C') v ∧ DJ4 E ops D C' C1 F bs.tail os ((d, v) :: L) := ⟨d, v, ho, hd, hsd.sub hs, ih (hs.head d v) hk⟩
    cases bs <;> exact h2
theorem d_bool3 {E : Env} {ops : Array Oper} {Q : Post} {D : List Deferred} {C' C1 C : List Assn} {bs ts : List Bool} {T os : List Oper} {L : List (Nat × Value)} {t : Nat} {b : Bool} (h : L.lookup t = some (.bool b))
    (h1 : b = true → DJ4 E ops D C' C1 (fun L' => TJ E ops D C' C1 (fun L C => KJ E (Q .normal) D L C) ts T L' C) bs os ((t, .bool true) :: L)) (h2 : b = false → DJ4 E ops D C' C1 (fun L' => TJ E ops D C' C1 (fun L C => KJ E (Q .normal) D L C) ts T L' C) bs os ((t, .bool false) :: L)) :
    DJ4 E ops D C' C1 (fun L' => TJ E ops D C' C1 (fun L C => KJ E (Q .normal) D L C) ts T L' C) bs os L := by
  have hsub : ∀ v : Bool, b = v → Sub L ((t, .bool v) :: L) := fun v hv => Sub.cons (hv ▸ h) (fun _ _ h => h)
  cases b
  · exact DJ4.mono (fun _ _ => TJ.sub) (hsub _ rfl) (h2 rfl)
  · exact DJ4.mono (fun _ _ => TJ.sub) (hsub _ rfl) (h1 rfl)
end Go.Proofs.Ytaehngpnlkokkaa
