/-
  Small things: slices as data, cells of numbers, conversions, products.
  No condition: the theorems hold over whatever program.
-/
import Derived.Test.YtaehngpnlkokkaaOwn
namespace Go.Proofs.Ytaehngpnlkokkaa
structure Slc where
  a : Option Addr
  n : Nat
  c : Nat
  deriving DecidableEq
def iC (x : Int) : List Value := [.int .i64 x]
@[simp] theorem iC_length (x : Int) : (iC x).length = 1 := rfl
def iC_u32 (x : Int) : List Value := [.int .u32 x]
@[simp] theorem iC_u32_length (x : Int) : (iC_u32 x).length = 1 := rfl
def iC_u8 (x : Int) : List Value := [.int .u8 x]
@[simp] theorem iC_u8_length (x : Int) : (iC_u8 x).length = 1 := rfl
theorem wrap_i64_i64 {n : Int} (h : -9223372036854775808 ≤ n ∧ n ≤ 9223372036854775807) : IntKind.i64.wrap n = n := wrap_in h
theorem wrap_u8_i64 {n : Int} (h : 0 ≤ n ∧ n ≤ 255) : IntKind.i64.wrap n = n := wrap_in ⟨by omega, by omega⟩
theorem wrap_u16_i64 {n : Int} (h : 0 ≤ n ∧ n ≤ 65535) : IntKind.i64.wrap n = n := wrap_in ⟨by omega, by omega⟩
theorem wrap_u32_i64 {n : Int} (h : 0 ≤ n ∧ n ≤ 4294967295) : IntKind.i64.wrap n = n := wrap_in ⟨by omega, by omega⟩
theorem mulb {a b A B : Int} (h1 : 0 ≤ a) (h2 : a ≤ A) (h3 : 0 ≤ b) (h4 : b ≤ B) : 0 ≤ a * b ∧ a * b ≤ A * B :=
  ⟨Int.mul_nonneg h1 h3, Int.mul_le_mul h2 h4 h3 (Int.le_trans h1 h2)⟩
theorem divb {a b A : Int} (h1 : 0 ≤ a) (h2 : a ≤ A) (h3 : 0 < b) : 0 ≤ a / b ∧ a / b ≤ A :=
  ⟨Int.ediv_nonneg h1 (by omega), Int.le_trans (Int.ediv_le_self b h1) h2⟩
theorem one_flat {α : Type} {f : α → List Value} (h : ∀ s, (f s).all Value.oneCell' = true) (l : List α) : ∀ v ∈ (l.map f).flatten, v.oneCell' = true := fun v hv => by
  obtain ⟨x, hx, hvx⟩ := List.mem_flatten.1 hv
  obtain ⟨s, _, rfl⟩ := List.mem_map.1 hx
  exact List.all_eq_true.1 (h s) v hvx
theorem one_iC (l : List Int) : ∀ v ∈ (l.map iC).flatten, v.oneCell' = true := one_flat (fun _ => rfl) l
/-! ### equality of structs -/
theorem eq_struct {P : Program} {t : TypeId} (x y : Operand) {xs ys : List Value} {b : Bool} (hm : P.eqGuardType P.depth t = false) (h : ∀ w, (Op.equalIn 10000 t (.agg xs.toArray) (.agg ys.toArray)).run P w = .ok b w) : BinRun P .eql t x y (.agg xs.toArray) (.agg ys.toArray) (.bool b) := fun w => by
  rw [Sem.run_bind, run_eqGuard_agg w _ _ _ _ _ _ hm]
  simp only [Result.andThen_ok]
  rw [run_eql_struct, h w]; rfl
theorem ne_struct {P : Program} {t : TypeId} (x y : Operand) {xs ys : List Value} {b : Bool} (hm : P.eqGuardType P.depth t = false) (h : ∀ w, (Op.equalIn 10000 t (.agg xs.toArray) (.agg ys.toArray)).run P w = .ok b w) : BinRun P .neq t x y (.agg xs.toArray) (.agg ys.toArray) (.bool (!b)) := fun w => by
  rw [Sem.run_bind, run_eqGuard_agg w _ _ _ _ _ _ hm]
  simp only [Result.andThen_ok]
  rw [run_neq_struct, h w]; rfl
theorem part_agg {P : Program} {t n off : Nat} {xs vs : List Value} (ht : tK P t = some (true, n)) (hv : (xs.drop off).take n = vs) (w : World) : (part t xs.toArray off).run P w = .ok (.agg vs.toArray) w := by
  simp [part, (tK_agg ht w).1, (tK_agg ht w).2]
  exact hv
theorem part_one {P : Program} {t n off : Nat} {xs : List Value} {v : Value} (ht : tK P t = some (false, n)) (hv : xs[off]? = some v) (w : World) : (part t xs.toArray off).run P w = .ok v w := by
  simp [part, (tK_one ht w).1, hv]
/-- a struct's fields: of what type, where; none is blank -/
def fL (P : Program) (t : TypeId) : Option (List (Nat × Nat)) :=
  match P.underlying t with
  | some (.struct fs) => if fs.toList.all (fun f => f.name != "_") && !P.stoodInHeld t && !P.eqGuardType P.depth t then some (fs.toList.map fun f => (f.type, f.offset)) else none
  | _ => none
def eqP (d : Nat) (xs ys : Array Value) : List (Nat × Nat) → Sem Bool
  | [] => pure true
  | (t, o) :: fs => do
    let a ← part t xs o
    let b ← part t ys o
    let r ← Op.equalIn d t a b
    if (!r) = true then pure false else eqP d xs ys fs
theorem eqP_eq {P : Program} {d : Nat} {xs ys : Array Value} : ∀ (fs : List Field) (w : World), fs.all (fun f => f.name != "_") = true → (Op.eqFields d xs ys fs).run P w = (eqP d xs ys (fs.map fun f => (f.type, f.offset))).run P w := by
  intro fs
  induction fs with
  | nil => intro w _; simp [Op.eqFields, eqP]
  | cons f fs ih =>
    intro w h
    simp only [List.all_cons, Bool.and_eq_true, bne_iff_ne, ne_eq] at h
    simp only [Op.eqFields, eqP, List.map_cons, ne_eq, h.1, not_false_eq_true, if_true, Sem.run_bind]
    generalize (part f.type xs f.offset).run P w = r1
    cases r1 with
    | halt x w1 => rfl
    | ok a w1 =>
      simp only [Result.andThen_ok]
      generalize (part f.type ys f.offset).run P w1 = r2
      cases r2 with
      | halt x w2 => rfl
      | ok b w2 =>
        simp only [Result.andThen_ok]
        generalize (Op.equalIn d f.type a b).run P w2 = r3
        cases r3 with
        | halt x w3 => rfl
        | ok r w3 => cases r <;> simp [ih _ h.2]
/-- one field more -/
theorem eqf_cons {P : Program} {d t o : Nat} {xs ys : Array Value} {fs : List (Nat × Nat)} {a b : Value} {p q : Bool} (w : World) (ha : (part t xs o).run P w = .ok a w) (hb : (part t ys o).run P w = .ok b w)
    (he : (Op.equalIn d t a b).run P w = .ok p w) (hr : (eqP d xs ys fs).run P w = .ok q w) : (eqP d xs ys ((t, o) :: fs)).run P w = .ok (p && q) w := by
  simp only [eqP, Sem.run_bind, ha, hb, he, Result.andThen_ok]
  cases p <;> simp [hr]
theorem eqf_nil {P : Program} {d : Nat} {xs ys : Array Value} (w : World) : (eqP d xs ys []).run P w = .ok true w := by simp [eqP]
theorem eqI_int {P : Program} {t : TypeId} {k : IntKind} (d : Nat) {a b : Int} (h : P.underlying t = some (.int k)) (w : World) : (Op.equalIn (d + 1) t (.int k a) (.int k b)).run P w = .ok (decide (a = b)) w := by
  rw [run_equalIn_int w d t k k a b h, beq_dec]
theorem eqI_bool {P : Program} {t : TypeId} (d : Nat) {a b : Bool} (h : P.underlying t = some .bool) (w : World) : (Op.equalIn (d + 1) t (.bool a) (.bool b)).run P w = .ok (decide (a = b)) w := by
  rw [run_equalIn_bool' w d t a b h]; cases a <;> cases b <;> rfl
theorem eqI_struct {P : Program} {t : TypeId} {l : List (Nat × Nat)} (d : Nat) {xs ys : List Value} {b : Bool} (hl : fL P t = some l) (w : World) (h : (eqP d xs.toArray ys.toArray l).run P w = .ok b w) : (Op.equalIn (d + 1) t (.agg xs.toArray) (.agg ys.toArray)).run P w = .ok b w := by
  unfold fL at hl
  cases hu : P.underlying t with
  | none => simp [hu] at hl
  | some dd =>
    cases dd <;> simp only [hu] at hl <;> try (cases hl; done)
    rename_i fs
    split at hl
    · rename_i hc
      simp only [Bool.and_eq_true, Bool.not_eq_true'] at hc
      cases hl
      have hf : P.fieldsOf t = fs := by simp [Program.fieldsOf, hu]
      rw [run_equalIn_struct w d t _ _ (by rw [hf]; exact hu) hc.1.2, hf, eqP_eq _ _ hc.1.1]
      exact h
    · cases hl
theorem fL_guard {P : Program} {t : TypeId} {l : List (Nat × Nat)} (hl : fL P t = some l) : P.eqGuardType P.depth t = false := by
  unfold fL at hl
  cases hu : P.underlying t with
  | none => simp [hu] at hl
  | some dd =>
    cases dd <;> simp only [hu] at hl <;> try (cases hl; done)
    split at hl
    · rename_i hc
      simp only [Bool.and_eq_true, Bool.not_eq_true'] at hc
      exact hc.2
    · cases hl
end Go.Proofs.Ytaehngpnlkokkaa
