/-
  More rules: scopes, labels; calls of function values; states that are the same.
  No condition: the theorems hold over whatever program.
-/
import Derived.Test.YtaehngpnlkokkaaRange
import Derived.Scope
import Derived.LoopNIn
namespace Go.Proofs.Ytaehngpnlkokkaa
open Go.RowKit
set_option linter.unusedVariables false
theorem w_scope {E : Env} {c : Code} {Q : Post} {D : List Deferred} {L : List (Nat × Value)} {C : List Assn} (hr : E.r = none) (h : WJ E c (Exit.noGoto Q) D L C) : WJ E (.scope c) Q D L C := by
  intro a w hf hs
  obtain ⟨P, r, n, S, w0⟩ := E
  subst hr
  exact (wpIn_wide (n := 0)).2 (wp_scope_straight ((wpIn_wide (n := 0)).1 (h a w hf hs)))
theorem w_label {E : Env} {l : Nat} {Q : Post} {D : List Deferred} {L : List (Nat × Value)} {C : List Assn} (h : KJ E (Q .normal) D L C) : WJ E (.label l) Q D L C := fun a w hf hs => wpIn_label (h a w hf hs)
theorem k_scope {E : Env} {Q : Post} {D : List Deferred} {L : List (Nat × Value)} {C : List Assn} (h : KJ E (Q .normal) D L C) : KJ E (Exit.noGoto Q .normal) D L C := h
theorem k_scope_ret {E : Env} {Q : Post} {D : List Deferred} {L : List (Nat × Value)} {C : List Assn} (h : KJ E (Q .ret) D L C) : KJ E (Exit.noGoto Q .ret) D L C := h
theorem k_scope_exit {E : Env} {id : Nat} {Q : Post} {D : List Deferred} {L : List (Nat × Value)} {C : List Assn} (h : KJ E (Q (.exit id)) D L C) : KJ E (Exit.noGoto Q (.exit id)) D L C := h
theorem k_ret_then {E : Env} {K : Act → World → Prop} {Q : Post} {D : List Deferred} {L : List (Nat × Value)} {C : List Assn} (h : KJ E (Q .ret) D L C) : KJ E (Exit.then K Q .ret) D L C := h
theorem k_ret_block {E : Env} {id : Nat} {Q : Post} {D : List Deferred} {L : List (Nat × Value)} {C : List Assn} (h : KJ E (Q .ret) D L C) : KJ E (Exit.inBlock id Q .ret) D L C := h
theorem FnV.eq {P : Program} {f : FuncId} {args : List Value} {Cp : List Assn} {u v : Value} (h : FnV P f args Cp v) (e : v = u) : FnV P f args Cp u := e ▸ h
/-- a function value that is called: what it hands back -/
def Clo (P : Program) (fv : Value) (args : List Value) (Cp : List Assn) (v : Value) : Prop :=
  ∃ f fi ca, fv = .func (.func f) fi ca ∧ FnV P f (fi.toList ++ args ++ ca.toList) Cp v
theorem clo_of {P : Program} {f : FuncId} {fi ca args : List Value} {Cp : List Assn} {v : Value} (h : FnV P f (fi ++ args ++ ca) Cp v) : Clo P (.func (.func f) fi.toArray ca.toArray) args Cp v := ⟨f, _, _, rfl, by simpa using h⟩
/-- what a closure asks, together -/
theorem fnV_bund {P : Program} {f : FuncId} {args : List Value} {Cp C : List Assn} {v : Value} (h : FnV P f args Cp v) (hC : HasAll C Cp) : FnV P f args [bund C] v := ⟨h.go, fun w hw => h.run w (hC w (hw _ (List.mem_singleton.2 rfl)).1)⟩
section
variable {E : Env} {ops : Array Oper} {Q : Post} {rest : List Oper} {D : List Deferred} {L : List (Nat × Value)} {C : List Assn}
variable {dst : Option Tmp} {d : Nat} {ty : TypeId} {ps : String} {af : Array Edge} {g : Option (Nat × Bool)}
theorem sd_clo {fop : Operand} {xs : Array Operand} {ts : Array TypeId} {fv : Value} {vs : List Value} {Cp : List Assn} {v : Value} (hg : gOn ops L g = true) (hf : ev L fop = some fv)
    (hx : evs L xs.toList = some vs) (c : Clo E.P fv vs Cp v) (hC : HasAll C Cp) : SD E ops ⟨dst, .call { callee := .value fop, args := xs, argTypes := ts }, ty, ps, af, g⟩ D L C v := by
  obtain ⟨f, fi, ca, rfl, h⟩ := c
  exact sd_call hg hf hx rfl h hC
end
theorem St.dup {S : BS} {w0 w : World} {C : List Assn} {A : Assn} (i : Nat) (h : St S w0 C w) (hC : C[i]? = some A) (hw : ∀ b, ¬ A.wf b) : St S w0 (A :: C) w := by
  have hm := List.mem_of_getElem? hC
  refine ⟨h.keeps, fun B hB => ?_, List.Pairwise.cons (fun B hB b ha hb => ⟨hw b, fun hwb => ?_⟩) h.sep, fun B hB => ?_, fun B hB => ?_⟩
  · rcases List.mem_cons.1 hB with rfl | hB
    · exact h.holds B hm
    · exact h.holds B hB
  · obtain ⟨j, hj, rfl⟩ := List.mem_iff_getElem.1 hB
    obtain ⟨hi, rfl⟩ := List.getElem?_eq_some_iff.1 hC
    rcases Nat.lt_trichotomy i j with hlt | heq | hlt
    · exact (List.pairwise_iff_getElem.1 h.sep i j hi hj hlt b ha hb).2 hwb
    · subst heq; exact hw b hwb
    · exact (List.pairwise_iff_getElem.1 h.sep j i hj hi hlt b hb ha).1 hwb
  · rcases List.mem_cons.1 hB with rfl | hB
    · exact h.own B hm
    · exact h.own B hB
  · rcases List.mem_cons.1 hB with rfl | hB
    · exact h.seen B hm
    · exact h.seen B hB
theorem St.freeze {S : BS} {w0 w : World} {C C' : List Assn} {A : Assn} (i : Nat) (h : St S w0 C w) (hC : C[i]? = some A) (hC' : C.set i A.ro = C') : St S w0 C' w := by
  subst hC'
  obtain ⟨hi, rfl⟩ := List.getElem?_eq_some_iff.1 hC
  have hget : ∀ j (hj : j < (C.set i C[i].ro).length), ∃ hj' : j < C.length, (C.set i C[i].ro)[j].holds = C[j].holds ∧ (C.set i C[i].ro)[j].foot = C[j].foot ∧ ∀ b, (C.set i C[i].ro)[j].wf b → C[j].wf b := by
    intro j hj
    have hj' : j < C.length := by simpa using hj
    refine ⟨hj', ?_⟩
    rw [List.getElem_set]
    split
    · rename_i e; subst e; exact ⟨rfl, rfl, fun _ h => h.elim⟩
    · exact ⟨rfl, rfl, fun _ h => h⟩
  refine ⟨h.keeps, fun B hB => ?_, List.pairwise_iff_getElem.2 fun p q hp hq hpq b ha hb => ?_, fun B hB b hb => ?_, fun B hB b hb => ?_⟩
  · obtain ⟨j, hj, rfl⟩ := List.mem_iff_getElem.1 hB
    obtain ⟨hj', e1, _, _⟩ := hget j hj
    rw [e1]; exact h.holds _ (List.getElem_mem hj')
  · obtain ⟨hp', _, e2, e3⟩ := hget p hp
    obtain ⟨hq', _, f2, f3⟩ := hget q hq
    rw [e2] at ha; rw [f2] at hb
    have := List.pairwise_iff_getElem.1 h.sep p q hp' hq' hpq b ha hb
    exact ⟨fun h => this.1 (e3 b h), fun h => this.2 (f3 b h)⟩
  · obtain ⟨j, hj, rfl⟩ := List.mem_iff_getElem.1 hB
    obtain ⟨hj', _, _, e3⟩ := hget j hj
    exact h.own _ (List.getElem_mem hj') b (e3 b hb)
  · obtain ⟨j, hj, rfl⟩ := List.mem_iff_getElem.1 hB
    obtain ⟨hj', _, e2, _⟩ := hget j hj
    rw [e2] at hb
    exact h.seen _ (List.getElem_mem hj') b hb
theorem w_dup {E : Env} {c : Code} {Q : Post} {D : List Deferred} {L : List (Nat × Value)} {C : List Assn} {A : Assn} (i : Nat) (hC : C[i]? = some A) (hw : ∀ b, ¬ A.wf b) (h : WJ E c Q D L (A :: C)) : WJ E c Q D L C := fun a w hf hs => h a w hf (hs.dup i hC hw)
theorem w_freeze {E : Env} {c : Code} {Q : Post} {D : List Deferred} {L : List (Nat × Value)} {C C' : List Assn} {A : Assn} (i : Nat) (hC : C[i]? = some A) (hC' : C.set i A.ro = C') (h : WJ E c Q D L C') : WJ E c Q D L C := fun a w hf hs => h a w hf (hs.freeze i hC hC')
theorem w_blk_own {E : Env} {c : Code} {Q : Post} {D : List Deferred} {L : List (Nat × Value)} {C C' : List Assn} {g e : Nat} {cs : List Value} {sz : Nat} {es : List (List Value)} (i : Nat) (hC : C[i]? = some (blk g e cs)) (h2 : ∀ x ∈ es, x.length = sz) (h3 : es.flatten = cs) (hm : es.length ≤ maxLen)
    (hC' : C.set i (own (some ⟨g, 0, none⟩) es.length e sz es) = C') (k : WJ E c Q D L C') : WJ E c Q D L C := fun a w hf hs => by
  refine k a w hf ?_
  rw [← hC']
  refine hs.upd i hC rfl rfl (Keeps.refl _ _) (fun x hx => ?_) (blk_own (hs.holds _ (List.mem_of_getElem? hC)) h2 h3 hm)
  obtain ⟨ad, h1, h2⟩ := hx
  cases h1; exact h2
theorem map_len {α : Type} {f : α → List Value} {n : Nat} (h : ∀ a, (f a).length = n) (l : List α) : ∀ x ∈ l.map f, x.length = n := fun x hx => by
  obtain ⟨a, _, rfl⟩ := List.mem_map.1 hx; exact h a
theorem ro_wf (A : Assn) : ∀ b, ¬ A.ro.wf b := fun _ h => h
theorem rd_wf {A : Option Addr} {n sz : Nat} {es : List (List Value)} : ∀ b, ¬ (rd A n sz es).wf b := fun _ h => h
/-! ## loops of a known number of rounds -/
def RoJ (E : Env) (c : Code) (Q : Post) (m : Nat) (D : List Deferred) (L : List (Nat × Value)) (C : List Assn) : Prop :=
  ∀ a w, Fr E.n D L a → St E.S E.w0 C w → Code.roundsIn (Fw E.r) 0 E.P c Q m a w
theorem w_rounds {E : Env} {c : Code} {Q : Post} {D : List Deferred} {L : List (Nat × Value)} {C : List Assn} (m : Nat) (h : RoJ E c Q m D L C) : WJ E (.loop c) Q D L C := fun a w hf hs => wpIn_loop_rounds m (h a w hf hs)
theorem ro_succ {E : Env} {c : Code} {Q : Post} {m : Nat} {D : List Deferred} {L : List (Nat × Value)} {C : List Assn}
    (h : ∀ K : Act → World → Prop, (∀ D L C, RoJ E c Q m D L C → KJ E K D L C) → WJ E c (Exit.then K Q) D L C) : RoJ E c Q (m + 1) D L C :=
  fun a w hf hs => h (Code.roundsIn (Fw E.r) 0 E.P c Q m) (fun _ _ _ hy a w hf hs => hy a w hf hs) a w hf hs
/-! ## where ways meet -/
theorem w_join {E : Env} {x y : Code} {Q : Post} {D : List Deferred} {L : List (Nat × Value)} {C : List Assn} {ι : Type} (L' : ι → List (Nat × Value)) (C' : ι → List Assn)
    (hy : ∀ z, WJ E y Q D (L' z) (C' z)) (h : ∀ K : Act → World → Prop, (∀ z, KJ E K D (L' z) (C' z)) → WJ E x (Exit.then K Q) D L C) : WJ E (.seq x y) Q D L C :=
  w_seq fun K hK => h K fun z => hK _ _ _ (hy z)
theorem sub_bool {L L' : List (Nat × Value)} {t : Nat} {b c : Bool} (h1 : L.lookup t = some (.bool b)) (h2 : c = b) (k : Sub L L') : Sub L ((t, .bool c) :: L') := Sub.cons (h2 ▸ h1) k
theorem sub_val {L L' : List (Nat × Value)} {t : Nat} {u v : Value} (h1 : L.lookup t = some u) (h2 : v = u) (k : Sub L L') : Sub L ((t, v) :: L') := Sub.cons (h2 ▸ h1) k
/-! ## read by a closure -/
def bun (C : List Assn) : Assn where
  foot b := ∃ A ∈ C, A.foot b
  wf _ := False
  holds w := ∀ A ∈ C, A.holds w
  wr := false
  wfoot _ h := h.elim
  whole h := by cases h
  lt w h b := by rintro ⟨A, hA, hb⟩; exact A.lt w (h A hA) b hb
  keep w w' hk h := fun A hA => A.keep w w' (fun b hb => hk b ⟨A, hA, hb⟩) (h A hA)
theorem fnV_bun {P : Program} {f : FuncId} {args : List Value} {Cp C : List Assn} {v : Value} (h : FnV P f args Cp v) (hC : HasAll C Cp) : FnV P f args [bun C] v := ⟨h.go, fun w hw => h.run w (hC w (hw _ (List.mem_singleton.2 rfl)))⟩
theorem has_bun {C Cp : List Assn} (h : HasAll C Cp) : Has C (bun Cp).holds := fun w hw => h w hw
/-! ## arrays -/
def tX (P : Program) (t : TypeId) : Option (Nat × TypeId) :=
  match P.underlying t with
  | some (.array n e) => some (n, e)
  | _ => none
theorem tX_out {P : Program} {t n e : Nat} (h : tX P t = some (n, e)) : P.underlying t = some (.array n e) := by
  unfold tX at h
  cases hu : P.underlying t with
  | none => simp [hu] at h
  | some d => cases d <;> simp [hu] at h <;> (obtain ⟨rfl, rfl⟩ := h; rfl)
section
variable {E : Env} {ops : Array Oper} {Q : Post} {rest : List Oper} {D : List Deferred} {L : List (Nat × Value)} {C : List Assn}
variable {dst : Option Tmp} {d : Nat} {ty : TypeId} {ps : String} {af : Array Edge} {g : Option (Nat × Bool)}
theorem sd_index {x ix : Operand} {t e len sz : Nat} {cs vs : List Value} {j : Int} (m : Nat) (hg : gOn ops L g = true) (hx : ev L x = some (.agg cs.toArray)) (hi : ev L ix = some (.int .i64 j)) (ht : tX E.P t = some (len, e)) (hk : tK E.P e = some (true, sz)) (hj : j = (m : Int)) (hm : m < len) (hv : (cs.drop (m * sz)).take sz = vs) :
    SD E ops ⟨dst, .index t x ix, ty, ps, af, g⟩ D L C (.agg vs.toArray) :=
  sd_pure hg (by simp) fun a w hfr _ => by
    have h0 : (0 : Int) ≤ (m : Int) ∧ (m : Int) < (len : Int) := by omega
    subst hj
    simp [execOp, hfr.ev hx, hfr.ev hi, Instr.index, asIntOf, run_underlying (tX_out ht), h0, hm, (tK_agg hk w).2, part_agg hk hv w]
theorem sd_index1 {x ix : Operand} {t e len sz : Nat} {cs : List Value} {v : Value} {j : Int} (m : Nat) (hg : gOn ops L g = true) (hx : ev L x = some (.agg cs.toArray)) (hi : ev L ix = some (.int .i64 j)) (ht : tX E.P t = some (len, e)) (hk : tK E.P e = some (false, sz)) (hj : j = (m : Int)) (hm : m < len) (hv : cs[m * sz]? = some v) :
    SD E ops ⟨dst, .index t x ix, ty, ps, af, g⟩ D L C v :=
  sd_pure hg (by simp) fun a w hfr _ => by
    have h0 : (0 : Int) ≤ (m : Int) ∧ (m : Int) < (len : Int) := by omega
    subst hj
    simp [execOp, hfr.ev hx, hfr.ev hi, Instr.index, asIntOf, run_underlying (tX_out ht), h0, hm, (tK_one hk w).2, part_one hk hv w]
theorem r_off_none {o : Oper} (hg : gOff ops L o.guard = true) (ho : o.dst = none) (k : RJ E ops Q rest D L C) : RJ E ops Q (o :: rest) D L C := by
  intro a w hf hs
  unfold wpL
  rw [if_neg (by simp [gOff_wanted hf hg]), ho]
  exact k a w hf hs
end
end Go.Proofs.Ytaehngpnlkokkaa
