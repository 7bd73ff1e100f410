/-
  Calls that turn what is handed to them; stores into rows; ranges over maps.
  No condition: the theorems hold over whatever program.
-/
import Derived.Test.YtaehngpnlkokkaaMisc
import Derived.Test.YtaehngpnlkokkaaRange
namespace Go.Proofs.Ytaehngpnlkokkaa
open Go.RowKit
set_option linter.unusedVariables false

/-! ## a thing for another -/
theorem St.imp {S : BS} {w0 w : World} {C : List Assn} {A B : Assn} (i : Nat) (h : St S w0 C w) (hC : C[i]? = some A) (hh : ∀ w, A.holds w → B.holds w) (hf : ∀ b, B.foot b → A.foot b) (hw : ∀ b, B.wf b → A.wf b) : St S w0 (C.set i B) w :=
  h.mv i hC ⟨hh w (h.holds A (List.mem_of_getElem? hC)), Keeps.refl _ _, fun b hb => .inl (hw b hb), fun b hb => .inl (hf b hb)⟩
theorem k_imp {E : Env} {K : Act → World → Prop} {D : List Deferred} {L : List (Nat × Value)} {C C' : List Assn} {A B : Assn} (i : Nat) (hC : C[i]? = some A) (hh : (∀ w, A.holds w → B.holds w) ∧ (∀ b, B.foot b → A.foot b) ∧ ∀ b, B.wf b → A.wf b) (hC' : C.set i B = C') (h : KJ E K D L C') : KJ E K D L C := fun a w hf hs =>
  h a w hf (hC' ▸ hs.imp i hC hh.1 hh.2.1 hh.2.2)
theorem r_imp {E : Env} {ops : Array Oper} {Q : Post} {rest : List Oper} {D : List Deferred} {L : List (Nat × Value)} {C C' : List Assn} {A B : Assn} (i : Nat) (hC : C[i]? = some A) (hh : (∀ w, A.holds w → B.holds w) ∧ (∀ b, B.foot b → A.foot b) ∧ ∀ b, B.wf b → A.wf b) (hC' : C.set i B = C') (h : RJ E ops Q rest D L C') : RJ E ops Q rest D L C := fun a w hf hs =>
  h a w hf (hC' ▸ hs.imp i hC hh.1 hh.2.1 hh.2.2)

/-! ## a call that turns A into A' x -/
structure FnM (P : Program) (f : FuncId) (args : List Value) (Cp : List Assn) (A : Assn) {α : Type} (V : α → Value) (p : α → Prop) (A' : α → Assn) : Prop where
  go : isGo P f = true
  run : ∀ w, A.holds w → (∀ B ∈ Cp, B.holds w) → (∀ B ∈ Cp, Sep A B.ro) → Calls P f args.toArray w fun e w' => ∃ x, e = .returned (V x) ∧ p x ∧ Mv A (A' x) w w'
def EndM (w0 : World) (A : Assn) {α : Type} (V : α → Value) (p : α → Prop) (A' : α → Assn) (e : Ending) (w' : World) : Prop := ∃ x, e = .returned (V x) ∧ p x ∧ Mv A (A' x) w0 w'
theorem endM {w0 w : World} {A : Assn} {C : List Assn} {α : Type} {V : α → Value} {p : α → Prop} {A' : α → Assn} {v : Value} (x : α) (i : Nat) (hV : v = V x) (hp : p x) (hC : C[i]? = some (A' x)) (hw : (A' x).wr = true) (hs : St ⟨A.wf, fun _ => True⟩ w0 C w) : EndM w0 A V p A' (.returned v) w :=
  ⟨x, by rw [hV], hp, hs.holds _ (List.mem_of_getElem? hC), hs.keeps, fun b hb => (hs.own _ (List.mem_of_getElem? hC) b hb).symm, fun b hb => by
    rcases hs.own _ (List.mem_of_getElem? hC) b ((A' x).whole hw b hb) with h | h
    · exact .inr h
    · exact .inl (A.wfoot b h)⟩
theorem fnM_of {P : Program} {f : FuncId} {fn : Func} {c : Code} {args : List Value} {Cp : List Assn} {A : Assn} {α : Type} {V : α → Value} {p : α → Prop} {A' : α → Assn} (hgo : isGo P f = true) (hf : P.funcs[f]? = some fn) (hb : fn.body = some c) (hn : Nat.ble args.length fn.ntmps = true)
    (h : ∀ (w0 : World) (Q : Post), (∀ D L C, LJ ⟨P, none, fn.ntmps, ⟨A.wf, fun _ => True⟩, w0⟩ fn (EndM w0 A V p A') D L C → KJ ⟨P, none, fn.ntmps, ⟨A.wf, fun _ => True⟩, w0⟩ (Q .ret) D L C) →
      (∀ D L C, LJ ⟨P, none, fn.ntmps, ⟨A.wf, fun _ => True⟩, w0⟩ fn (EndM w0 A V p A') D L C → KJ ⟨P, none, fn.ntmps, ⟨A.wf, fun _ => True⟩, w0⟩ (Q .normal) D L C) →
      WJ ⟨P, none, fn.ntmps, ⟨A.wf, fun _ => True⟩, w0⟩ c Q [] (fr0 args) (A :: Cp.map Assn.ro)) : FnM P f args Cp A V p A' := by
  refine ⟨hgo, fun w hA hCp hsep => ?_⟩
  refine fn_of' hf hb hn (h w) ?_
  have h0 := ro_holds hCp
  refine ⟨Keeps.refl _ _, fun B hB => ?_, List.Pairwise.cons (fun B hB => ?_) h0.sep, fun B hB b hb => ?_, fun _ _ _ _ => .inr trivial⟩
  · rcases List.mem_cons.1 hB with rfl | hB
    · exact hA
    · exact h0.holds B hB
  · obtain ⟨B', hB', rfl⟩ := List.mem_map.1 hB
    exact hsep B' hB'
  · rcases List.mem_cons.1 hB with rfl | hB
    · exact .inr hb
    · obtain ⟨B', hB', rfl⟩ := List.mem_map.1 hB
      exact hb.elim
/-- each of Cp is read from something of C that is not its i-th -/
def CovAll (C : List Assn) (i : Nat) (Cp : List Assn) : Prop := ∀ B ∈ Cp, ∃ j X, j ≠ i ∧ C[j]? = some X ∧ Cov X B
theorem cv_nil {C : List Assn} {i : Nat} : CovAll C i [] := fun B hB => by cases hB
theorem cv_cons {C Cp : List Assn} {i : Nat} {B X : Assn} (j : Nat) (hj : Nat.beq j i = false) (hC : C[j]? = some X) (h : Cov X B) (t : CovAll C i Cp) : CovAll C i (B :: Cp) := fun B' hB => by
  rcases List.mem_cons.1 hB with rfl | hB
  · exact ⟨j, X, fun e => by subst e; simp at hj, hC, h⟩
  · exact t B' hB
section
variable {E : Env} {ops : Array Oper} {Q : Post} {rest : List Oper} {D : List Deferred} {L : List (Nat × Value)} {C : List Assn}
variable {dst : Option Tmp} {d : Nat} {ty : TypeId} {ps : String} {af : Array Edge} {g : Option (Nat × Bool)}
theorem r_callm {fop : Operand} {xs : Array Operand} {ts : Array TypeId} {f : FuncId} {fi ca : Array Value} {vs args : List Value} {Cp : List Assn} {A : Assn} {α : Type} {V : α → Value} {p : α → Prop} {A' : α → Assn} (i : Nat) (hg : gOn ops L g = true) (hf : ev L fop = some (.func (.func f) fi ca))
    (hx : evs L xs.toList = some vs) (ha : fi.toList ++ vs ++ ca.toList = args) (c : FnM E.P f args Cp A V p A') (hC : C[i]? = some A) (hCp : CovAll C i Cp) (hd : Nat.blt d E.n = true) (k : ∀ x, p x → RJ E ops Q rest D ((d, V x) :: L) (C.set i (A' x))) :
    RJ E ops Q (⟨some d, .call { callee := .value fop, args := xs, argTypes := ts }, ty, ps, af, g⟩ :: rest) D L C := by
  intro a w hfr hs
  have hd' : d < E.n := by rw [← Nat.blt_eq]; exact hd
  unfold wpL
  rw [if_pos (gOn_wanted hfr hg)]
  refine ⟨fun _ _ => trivial, ?_⟩
  rw [Oper.semAt_eq _ _ _ (by simp), run_call hfr c.go hf hx ha]
  have hCm := List.mem_of_getElem? hC
  refine ⟨fun h => by simp at h, (calls_in E.r (c.run w (hs.holds A hCm) (fun B hB => ?_) (fun B hB b hb hb' => ?_))).mono fun e w' he => ?_⟩
  · obtain ⟨j, X, _, hX, hc⟩ := hCp B hB
    exact hc.holds w (hs.holds X (List.mem_of_getElem? hX))
  · obtain ⟨j, X, hne, hX, hc⟩ := hCp B hB
    have hXb := hc.foot b hb'
    have hj := (List.getElem?_eq_some_iff.1 hX).1
    have hi := (List.getElem?_eq_some_iff.1 hC).1
    have e1 := (List.getElem?_eq_some_iff.1 hX).2
    have e2 := (List.getElem?_eq_some_iff.1 hC).2
    refine ⟨?_, fun h => h⟩
    rcases Nat.lt_or_gt_of_ne hne with hlt | hlt
    · have := List.pairwise_iff_getElem.1 hs.sep j i hj hi hlt
      rw [e1, e2] at this
      exact (this b hXb hb).2
    · have := List.pairwise_iff_getElem.1 hs.sep i j hi hj hlt
      rw [e1, e2] at this
      exact (this b hb hXb).1
  · obtain ⟨x, rfl, hp, hm⟩ := he
    exact k x hp _ _ (hfr.put hd' _) (hs.mv i hC hm)
/-! ## a store into a row -/
theorem flat_put {sz o l : Nat} {vs el : List Value} (hl : vs.length = l) (ho : o + l ≤ sz) : ∀ (es : List (List Value)) (k : Nat), (∀ x ∈ es, x.length = sz) → es[k]? = some el →
    es.flatten.take (k * sz + o) ++ vs ++ es.flatten.drop (k * sz + o + l) = (es.set k (el.take o ++ vs ++ el.drop (o + l))).flatten
  | [], k, _, h => by simp at h
  | x :: es, 0, hx, h => by
    simp at h; subst h
    have h1 : x.length = sz := hx x (by simp)
    simp only [List.flatten_cons, List.set_cons_zero, Nat.zero_mul, Nat.zero_add]
    rw [List.take_append_of_le_length (by omega), List.drop_append_of_le_length (by omega)]
    simp [List.append_assoc]
  | x :: es, k + 1, hx, h => by
    have h1 : x.length = sz := hx x (by simp)
    have ih := flat_put hl ho es k (fun y hy => hx y (by simp [hy])) (by simpa using h)
    simp only [List.flatten_cons, List.set_cons_succ]
    rw [← ih]
    have e1 : (k + 1) * sz + o = x.length + (k * sz + o) := by rw [h1, Nat.succ_mul]; omega
    have e2 : (k + 1) * sz + o + l = x.length + (k * sz + o + l) := by rw [h1, Nat.succ_mul]; omega
    rw [e1, List.take_length_add_append, show x.length + (k * sz + o) + l = x.length + (k * sz + o + l) by omega, List.drop_length_add_append]
    simp [List.append_assoc]
theorem r_store_own {t n c e sz k o m : Nat} {a : Option Addr} {x y : Operand} {v : Value} {vs el : List Value} {es es' : List (List Value)} {C' : List Assn} (i : Nat) (hg : gOn ops L g = true) (hx : ev L x = some (.pointer (padd a m))) (hy : ev L y = some v) (ht : (tK E.P t).map (·.2) = some n)
    (hv : v.cells.toList = vs) (hn : vs.length = n) (h1 : vs.all Value.oneCell' = true) (hC : C[i]? = some (own a c e sz es)) (hk : es[k]? = some el) (hm : m = k * sz + o) (ho : o + n ≤ sz) (hes : es.set k (el.take o ++ vs ++ el.drop (o + n)) = es') (hC' : C.set i (own a c e sz es') = C') (kk : RJ E ops Q rest D L C') :
    RJ E ops Q (⟨none, .store t x y, ty, ps, af, g⟩ :: rest) D L C := by
  subst hm hes hC'
  intro act w hfr hs
  unfold wpL
  rw [if_pos (gOn_wanted hfr hg)]
  obtain ⟨hl, hlen, hrow⟩ := hs.holds _ (List.mem_of_getElem? hC)
  have hke := (List.getElem?_eq_some_iff.1 hk).1
  rcases hrow with ⟨h2, h0⟩ | ⟨gg, cap, cur, hv2, hbase, h3, h4, h5, h6, h7⟩
  · omega
  · injection hv2 with hv2 hv3 hv4
    subst hv2 hv4
    have hfl := flatten_length_of hl
    have hks : k * sz + sz ≤ es.length * sz := by rw [← Nat.succ_mul]; exact Nat.mul_le_mul_right _ hke
    have hcl : es.length * sz ≤ cur.toList.length := by simp only [Array.length_toList, h6]; exact Nat.mul_le_mul_right _ h4
    have hol : k * sz + o + n ≤ cur.toList.length := by omega
    obtain ⟨w', hr, hb', hkk⟩ := run_storeCells (P := E.P) (t := e) vs cur.toList (k * sz + o) 0 w (fun v hv => List.all_eq_true.1 h1 v hv) (by rw [hn]; exact hol) (by rw [h3])
    have hsize : (sizeOf t).run E.P w = .ok n w := by
      obtain ⟨bn, hbn, rfl⟩ := Option.map_eq_some_iff.1 ht
      obtain ⟨bb, nn⟩ := bn
      cases bb
      · exact (tK_one hbn w).2
      · exact (tK_agg hbn w).2
    have hvs : v.cells.size = n := by rw [← hn, ← hv]; simp
    have hpa : padd (some (⟨gg, 0, none⟩ : Addr)) (k * sz + o) = some ⟨gg, k * sz + o, none⟩ := by
      simp only [padd, Option.map_some, add_plain, Nat.zero_add]
    refine wp_skip (by simp) (w' := w') ?_ ?_
    · simp [execOp, hfr.ev hx, hfr.ev hy, hpa, Instr.storeAt, Instr.sureAddr, storeVar, hsize, hvs, hv, hr]
    · refine kk _ _ ⟨hfr.defers, hfr.size, hfr.at_⟩ ?_
      have hel : el.length = sz := hl el (List.mem_of_getElem? hk)
      have hnew : ∀ y ∈ es.set k (el.take o ++ vs ++ el.drop (o + n)), y.length = sz := by
        intro y hy'
        rcases List.mem_or_eq_of_mem_set hy' with h | rfl
        · exact hl y h
        · simp; omega
      have hcap : cur.toList.length = c * sz := by simpa using h6
      refine hs.upd (b := gg) i hC ⟨_, rfl, rfl⟩ rfl hkk (fun y ⟨ad, hy1, hy2⟩ => by cases hy1; exact hy2) ⟨hnew, ?_⟩
      rw [List.length_set]
      refine ⟨by rw [flatten_length_of hnew, List.length_set], .inr ⟨gg, c, _, rfl, Nat.zero_le _, hb', h4, h5, ?_, ?_⟩⟩
      · simp only [List.size_toArray, List.length_append, List.length_take, List.length_drop, Nat.add_zero]
        omega
      · rw [Nat.add_zero, hn]
        have e0 := flat_put hn ho es k hl hk
        rw [← e0, ← h7]
        have q1 : k * sz + o ≤ es.length * sz := by omega
        show ((cur.toList.take (k * sz + o) ++ vs) ++ cur.toList.drop (k * sz + o + n)).take (es.length * sz) = _
        have hA : (cur.toList.take (k * sz + o) ++ vs).length = k * sz + o + n := by simp only [List.length_append, List.length_take]; omega
        rw [List.take_append, List.take_of_length_le (by omega), hA, List.take_take, Nat.min_eq_left q1, List.drop_take]
end
end Go.Proofs.Ytaehngpnlkokkaa
