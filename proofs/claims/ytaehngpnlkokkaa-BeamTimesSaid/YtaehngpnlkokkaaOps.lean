/-
  Rules for operations: numbers, calls, memory.
  No condition: the theorems hold over whatever program.
-/
import Derived.Test.YtaehngpnlkokkaaStep
namespace Go.Proofs.Ytaehngpnlkokkaa
open Go.RowKit
set_option linter.unusedVariables false

/-! ## guards -/
def gOn (ops : Array Oper) (L : List (Nat × Value)) (g : Option (Nat × Bool)) : Bool :=
  match g with
  | none => true
  | some (j, b) => match (ops[j]?).bind (·.dst) with
    | some t => match L.lookup t with
      | some (.bool b') => b' == b
      | _ => false
    | none => false
def gOff (ops : Array Oper) (L : List (Nat × Value)) (g : Option (Nat × Bool)) : Bool :=
  match g with
  | none => false
  | some (j, b) => match (ops[j]?).bind (·.dst) with
    | some t => match L.lookup t with
      | some (.bool b') => b' != b
      | some (.tuple _) => true
      | _ => false
    | none => false
theorem gOn_wanted {ops : Array Oper} {L : List (Nat × Value)} {o : Oper} {n : Nat} {D : List Deferred} {a : Act} (hf : Fr n D L a) (h : gOn ops L o.guard = true) : Region.wanted o (yielded ops a.tmps) = true := by
  unfold Region.wanted
  cases hg : o.guard with
  | none => rfl
  | some jb =>
    obtain ⟨j, b⟩ := jb
    rw [hg] at h
    simp only [gOn] at h
    simp only [yielded]
    cases ht : (ops[j]?).bind (·.dst) with
    | none => simp [ht] at h
    | some t =>
      simp only [ht] at h
      cases hl : L.lookup t with
      | none => simp [hl] at h
      | some v =>
        simp only [hl] at h
        cases v <;> simp at h
        subst h
        simp [hf.at_ t _ hl]
theorem gOff_wanted {ops : Array Oper} {L : List (Nat × Value)} {o : Oper} {n : Nat} {D : List Deferred} {a : Act} (hf : Fr n D L a) (h : gOff ops L o.guard = true) : Region.wanted o (yielded ops a.tmps) = false := by
  unfold Region.wanted
  cases hg : o.guard with
  | none => simp [hg, gOff] at h
  | some jb =>
    obtain ⟨j, b⟩ := jb
    rw [hg] at h
    simp only [gOff] at h
    simp only [yielded]
    cases ht : (ops[j]?).bind (·.dst) with
    | none => simp [ht] at h
    | some t =>
      simp only [ht] at h
      cases hl : L.lookup t with
      | none => simp [hl] at h
      | some v =>
        simp only [hl] at h
        cases v <;> simp at h
        · rename_i b'
          simp [hf.at_ t _ hl]
          cases b <;> cases b' <;> simp_all
        · simp [hf.at_ t _ hl]

section
variable {E : Env} {ops : Array Oper} {D : List Deferred} {L : List (Nat × Value)} {C : List Assn}
/-- passed over -/
theorem sd_off {o : Oper} (hg : gOff ops L o.guard = true) : SD E ops o D L C undef := fun a w hf hs => .inr ⟨gOff_wanted hf hg, rfl⟩
theorem wp_value {r : Option Nat} {P : Program} {o : Oper} {a : Act} {w w' : World} {N : Act → World → Prop} {Q : Post} {v : Value} (hd : ∀ c, o.op ≠ .defer c) (h : (execOp a.eval o).run P w = .ok (.value v) w') (hn : N (a.put o.dst v) w') : o.wpIn (Fw r) 0 P a w N Q :=
  ⟨fun _ _ => trivial, by rw [Oper.semAt_eq _ _ _ hd, h]; exact hn⟩
theorem wp_skip {r : Option Nat} {P : Program} {o : Oper} {a : Act} {w w' : World} {N : Act → World → Prop} {Q : Post} (hd : ∀ c, o.op ≠ .defer c) (h : (execOp a.eval o).run P w = .ok .skip w') (hn : N (a.put o.dst undef) w') : o.wpIn (Fw r) 0 P a w N Q :=
  ⟨fun _ _ => trivial, by rw [Oper.semAt_eq _ _ _ hd, h]; exact hn⟩
theorem sd_pure {o : Oper} {v : Value} (hg : gOn ops L o.guard = true) (hd : ∀ c, o.op ≠ .defer c) (h : ∀ a w, Fr E.n D L a → St E.S E.w0 C w → (execOp a.eval o).run E.P w = .ok (.value v) w) : SD E ops o D L C v :=
  fun a w hf hs => .inl ⟨gOn_wanted hf hg, wp_value hd (h a w hf hs) ⟨rfl, Keeps.refl _ _⟩⟩
variable {dst : Option Tmp} {ty : TypeId} {ps : String} {af : Array Edge} {g : Option (Nat × Bool)}
theorem sd_move {x : Operand} {v : Value} (hg : gOn ops L g = true) (hx : ev L x = some v) : SD E ops ⟨dst, .move x, ty, ps, af, g⟩ D L C v :=
  sd_pure hg (by simp) fun a w hf _ => by simp [execOp, hf.ev hx]
theorem sd_assign {x : Operand} {v : Value} (hg : gOn ops L g = true) (hx : ev L x = some v) : SD E ops ⟨dst, .assign x, ty, ps, af, g⟩ D L C v :=
  sd_pure hg (by simp) fun a w hf _ => by simp [execOp, hf.ev hx]
def BinRun (P : Program) (op : BinOp) (t : TypeId) (x y : Operand) (u v r : Value) : Prop := ∀ w, (do eqGuard op t x y u v; binOp op t u v : Sem Value).run P w = .ok r w
theorem sd_bin {op : BinOp} {xt yt : TypeId} {x y : Operand} {u v r : Value} (hg : gOn ops L g = true) (hx : ev L x = some u) (hy : ev L y = some v) (h : BinRun E.P op xt x y u v r) : SD E ops ⟨dst, .binOp op xt x y yt, ty, ps, af, g⟩ D L C r :=
  sd_pure hg (by simp) fun a w hf _ => by
    have := h w
    simp only [execOp, hf.ev hx, hf.ev hy]
    simp only [Sem.run_bind, Sem.run_pure] at this ⊢
    rw [this]; rfl
theorem sd_not {xt : TypeId} {x : Operand} {b : Bool} (hg : gOn ops L g = true) (hx : ev L x = some (.bool b)) : SD E ops ⟨dst, .unOp .not xt x, ty, ps, af, g⟩ D L C (.bool !b) :=
  sd_pure hg (by simp) fun a w hf _ => by simp [execOp, hf.ev hx, Op.unary]
abbrev In64 (n : Int) : Prop := -9223372036854775808 ≤ n ∧ n ≤ 9223372036854775807
theorem wrap_in {n : Int} (h : In64 n) : IntKind.i64.wrap n = n := by
  obtain ⟨h1, h2⟩ := h
  rw [IntKind.wrap_i64]
  omega
theorem sd_neg {xt : TypeId} {x : Operand} {n : Int} (hg : gOn ops L g = true) (hx : ev L x = some (.int .i64 n)) (hb : In64 (-n)) : SD E ops ⟨dst, .unOp .neg xt x, ty, ps, af, g⟩ D L C (.int .i64 (-n)) :=
  sd_pure hg (by simp) fun a w hf _ => by
    have : (0 : Int) - n = -n := by omega
    simp [execOp, hf.ev hx, Op.unary, Op.intArith, this, wrap_in hb]
theorem sd_pick_t {c x y : Operand} {v : Value} (hg : gOn ops L g = true) (hc : ev L c = some (.bool true)) (hx : ev L x = some v) : SD E ops ⟨dst, .pick c x y, ty, ps, af, g⟩ D L C v :=
  sd_pure hg (by simp) fun a w hf _ => by simp [execOp, hf.ev hc, hf.ev hx, asBool]
theorem sd_pick_f {c x y : Operand} {v : Value} (hg : gOn ops L g = true) (hc : ev L c = some (.bool false)) (hy : ev L y = some v) : SD E ops ⟨dst, .pick c x y, ty, ps, af, g⟩ D L C v :=
  sd_pure hg (by simp) fun a w hf _ => by simp [execOp, hf.ev hc, hf.ev hy, asBool]
theorem sd_conv {st dt : TypeId} {x : Operand} {k k' : IntKind} {n m : Int} (hg : gOn ops L g = true) (hx : ev L x = some (.int k' n)) (hs : E.P.underlying st = some (.int k')) (hd : E.P.underlying dt = some (.int k)) (hw : k.wrap n = m) : SD E ops ⟨dst, .convert st dt x, ty, ps, af, g⟩ D L C (.int k m) :=
  sd_pure hg (by simp) fun a w hf _ => by
    simp [execOp, hf.ev hx, convert, run_underlying hs, run_underlying hd, Conv.intToInt, hw]
def evs (L : List (Nat × Value)) : List Operand → Option (List Value)
  | [] => some []
  | x :: xs => match ev L x, evs L xs with
    | some v, some vs => some (v :: vs)
    | _, _ => none
theorem Fr.evs {n : Nat} {a : Act} (h : Fr n D L a) : ∀ {xs : List Operand} {vs : List Value}, Go.Proofs.Ytaehngpnlkokkaa.evs L xs = some vs → xs.map a.eval = vs := by
  intro xs
  induction xs with
  | nil => intro vs hv; simpa [Go.Proofs.Ytaehngpnlkokkaa.evs] using hv
  | cons x xs ih =>
    intro vs hv
    simp only [Go.Proofs.Ytaehngpnlkokkaa.evs] at hv
    cases hx : Go.Proofs.Ytaehngpnlkokkaa.ev L x with
    | none => simp [hx] at hv
    | some u =>
      cases hxs : Go.Proofs.Ytaehngpnlkokkaa.evs L xs with
      | none => simp [hx, hxs] at hv
      | some us => simp [hx, hxs] at hv; subst hv; simp [h.ev hx, ih hxs]
/-! ### numbers -/
theorem beq_dec {a b : Int} : (a == b) = decide (a = b) := by by_cases h : a = b <;> simp [h]
section
variable {P : Program} {t : TypeId} {x y : Operand} {a b : Int} {k : IntKind}
theorem b_add (h : In64 (a + b)) : BinRun P .add t x y (.int .i64 a) (.int .i64 b) (.int .i64 (a + b)) := fun w => by simp [eqGuard_add, binOp_add, Op.intArith, wrap_in h]
theorem b_sub (h : In64 (a - b)) : BinRun P .sub t x y (.int .i64 a) (.int .i64 b) (.int .i64 (a - b)) := fun w => by simp [eqGuard_sub, binOp_sub, Op.intArith, wrap_in h]
theorem b_mul (h : In64 (a * b)) : BinRun P .mul t x y (.int .i64 a) (.int .i64 b) (.int .i64 (a * b)) := fun w => by simp [eqGuard_mul, binOp_mul, Op.intArith, wrap_in h]
theorem b_quo (h0 : 0 ≤ a) (h1 : 0 < b) (h : a ≤ 9223372036854775807) : BinRun P .quo t x y (.int .i64 a) (.int .i64 b) (.int .i64 (a / b)) := fun w => by
  have hb : b ≠ 0 := by omega
  have h3 : 0 ≤ a / b := Int.ediv_nonneg h0 (by omega)
  have h4 : a / b ≤ a := Int.ediv_le_self b h0
  simp [eqGuard_quo, binOp_quo, Op.intDiv, hb, Int.tdiv_eq_ediv_of_nonneg h0, wrap_in (show In64 (a / b) from ⟨by omega, by omega⟩)]
theorem b_quot (h1 : b ≠ 0) (h : In64 (a.tdiv b)) : BinRun P .quo t x y (.int .i64 a) (.int .i64 b) (.int .i64 (a.tdiv b)) := fun w => by
  simp [eqGuard_quo, binOp_quo, Op.intDiv, h1, wrap_in h]
theorem b_rem (h0 : 0 ≤ a) (h1 : 0 < b) : BinRun P .rem t x y (.int k a) (.int k b) (.int k (a % b)) := fun w => by
  have hb : b ≠ 0 := by omega
  simp [eqGuard_rem, binOp_rem, Op.intDiv, hb, Int.tmod_eq_emod_of_nonneg h0]
theorem b_remt (h1 : b ≠ 0) : BinRun P .rem t x y (.int k a) (.int k b) (.int k (a.tmod b)) := fun w => by simp [eqGuard_rem, binOp_rem, Op.intDiv, h1]
theorem b_quok (h0 : 0 ≤ a) (h1 : 0 < b) (h : k.wrap (a / b) = a / b) : BinRun P .quo t x y (.int k a) (.int k b) (.int k (a / b)) := fun w => by
  have hb : b ≠ 0 := by omega
  simp [eqGuard_quo, binOp_quo, Op.intDiv, hb, Int.tdiv_eq_ediv_of_nonneg h0, h]
theorem b_lss : BinRun P .lss t x y (.int k a) (.int k b) (.bool (decide (a < b))) := fun w => by simp [eqGuard_lss, binOp_lss]
theorem b_leq : BinRun P .leq t x y (.int k a) (.int k b) (.bool (decide (a ≤ b))) := fun w => by simp [eqGuard_leq, binOp_leq]
theorem b_gtr : BinRun P .gtr t x y (.int k a) (.int k b) (.bool (decide (b < a))) := fun w => by simp [eqGuard_gtr, binOp_gtr]
theorem b_geq : BinRun P .geq t x y (.int k a) (.int k b) (.bool (decide (b ≤ a))) := fun w => by simp [eqGuard_geq, binOp_geq]
theorem b_eql : BinRun P .eql t x y (.int k a) (.int k b) (.bool (decide (a = b))) := fun w => by simp [eqGuard_at_int, binOp_eql]; exact beq_dec
theorem b_neq : BinRun P .neq t x y (.int k a) (.int k b) (.bool (!decide (a = b))) := fun w => by simp [eqGuard_at_int, binOp_neq, bne]; exact beq_dec
theorem b_eqlb {p q : Bool} (ht : P.underlying t = some .bool) : BinRun P .eql t x y (.bool p) (.bool q) (.bool (p == q)) := fun w => by
  have h : ∀ d : Nat, (Op.equalIn (d + 1) t (.bool p) (.bool q)).run P w = .ok (p == q) w := fun d => by simp [Op.equalIn, run_underlying ht]
  simp only [eqGuard_at_bool, binOp]
  simp [Op.equal, Op.maxDepth, h 9999]
theorem b_neqb {p q : Bool} (ht : P.underlying t = some .bool) : BinRun P .neq t x y (.bool p) (.bool q) (.bool (!(p == q))) := fun w => by
  have h : ∀ d : Nat, (Op.equalIn (d + 1) t (.bool p) (.bool q)).run P w = .ok (p == q) w := fun d => by simp [Op.equalIn, run_underlying ht]
  simp only [eqGuard_at_bool, binOp]
  simp [Op.equal, Op.maxDepth, h 9999]
end
/-! ### builtins -/
theorem sd_len {x : Operand} {t e : TypeId} {A : Option Addr} {n c : Nat} (hg : gOn ops L g = true) (hx : ev L x = some (.slice A n c)) (ht : E.P.underlying t = some (.slice e)) :
    SD E ops ⟨dst, .call { callee := .builtin .len, args := #[x], argTypes := #[t] }, ty, ps, af, g⟩ D L C (.int .i64 n) :=
  sd_pure hg (by simp) fun a w hf _ => by
    simp [execOp, resolve, invoke, builtin, Builtin.len_, hf.ev hx, run_underlying ht, goInt]
theorem sd_min {x y : Operand} {ts : Array TypeId} {a b : Int} {k : IntKind} (hg : gOn ops L g = true) (hx : ev L x = some (.int k a)) (hy : ev L y = some (.int k b)) :
    SD E ops ⟨dst, .call { callee := .builtin .min, args := #[x, y], argTypes := ts }, ty, ps, af, g⟩ D L C (.int k (min a b)) :=
  sd_pure hg (by simp) fun c w hf _ => by
    have : (if b < a then b else a) = min a b := by omega
    simp [execOp, resolve, invoke, builtin, Builtin.min_, Builtin.min2, hf.ev hx, hf.ev hy, this]
theorem sd_max {x y : Operand} {ts : Array TypeId} {a b : Int} {k : IntKind} (hg : gOn ops L g = true) (hx : ev L x = some (.int k a)) (hy : ev L y = some (.int k b)) :
    SD E ops ⟨dst, .call { callee := .builtin .max, args := #[x, y], argTypes := ts }, ty, ps, af, g⟩ D L C (.int k (max a b)) :=
  sd_pure hg (by simp) fun c w hf _ => by
    have : (if a < b then b else a) = max a b := by omega
    simp [execOp, resolve, invoke, builtin, Builtin.max_, Builtin.max2, hf.ev hx, hf.ev hy, this]
end
end Go.Proofs.Ytaehngpnlkokkaa
