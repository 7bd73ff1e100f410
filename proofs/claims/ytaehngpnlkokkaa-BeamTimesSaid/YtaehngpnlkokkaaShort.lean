/-
  Short forms of the rules, for texts that a program prints: what is looked up is looked up by one computation.
  No condition: the theorems hold over whatever program.
-/
import Derived.Test.YtaehngpnlkokkaaSort
import Derived.Test.YtaehngpnlkokkaaPtr
import Derived.Test.YtaehngpnlkokkaaPure
namespace Go.Proofs.Ytaehngpnlkokkaa
open Go.RowKit
set_option linter.unusedVariables false
/-- an operation that hands v to its slot d -/
structure SE (E : Env) (ops : Array Oper) (o : Oper) (D : List Deferred) (L : List (Nat × Value)) (C : List Assn) (v : Value) (d : Nat) : Prop where
  h : SD E ops o D L C v
  o : o.dst = some d
  n : Nat.blt d E.n = true
theorem rS {E : Env} {ops : Array Oper} {Q : Post} {o : Oper} {rest : List Oper} {D : List Deferred} {L : List (Nat × Value)} {C : List Assn} {v : Value} {d : Nat}
    (h : SE E ops o D L C v d) (k : RJ E ops Q rest D ((d, v) :: L) C) : RJ E ops Q (o :: rest) D L C := r_sd h.h h.o h.n k
theorem dS {E : Env} {ops : Array Oper} {F : List (Nat × Value) → Prop} {o : Oper} {rest : List Oper} {D : List Deferred} {L : List (Nat × Value)} {C : List Assn} {v : Value} {d : Nat}
    (h : SE E ops o D L C v d) (k : DJ E ops D C F rest ((d, v) :: L)) : DJ E ops D C F (o :: rest) L := d_sd h.h h.o h.n k
theorem eS {E : Env} {ops : Array Oper} {D : List Deferred} {C' C1 : List Assn} {F : List (Nat × Value) → Prop} {bs : List Bool} {o : Oper} {l rest : List Oper} {L : List (Nat × Value)} {v : Value} {d : Nat}
    (hl : l = o :: rest) (h : SE E ops o D L C' v d) (k : DJ4 E ops D C' C1 F bs rest ((d, v) :: L)) : DJ4 E ops D C' C1 F (false :: bs) l L := d4_sd h.h hl h.o h.n k
theorem fS {E : Env} {ops : Array Oper} {D : List Deferred} {C' C1 : List Assn} {F : List (Nat × Value) → Prop} {bs : List Bool} {o : Oper} {l rest : List Oper} {L : List (Nat × Value)} {v : Value} {d : Nat}
    (hl : l = o :: rest) (h : SE E ops o D L C1 v d) (k : DJ4 E ops D C' C1 F bs rest ((d, v) :: L)) : DJ4 E ops D C' C1 F (true :: bs) l L := d5_sd h.h hl h.o h.n k
def gB (n : Nat) (ops : Array Oper) (L : List (Nat × Value)) (d : Nat) (g : Option (Nat × Bool)) : Bool := gOn ops L g && Nat.blt d n
theorem gB1 {n : Nat} {ops : Array Oper} {L : List (Nat × Value)} {d : Nat} {g : Option (Nat × Bool)} (h : gB n ops L d g = true) : gOn ops L g = true := by
  unfold gB at h; rw [Bool.and_eq_true] at h; exact h.1
theorem gB2 {n : Nat} {ops : Array Oper} {L : List (Nat × Value)} {d : Nat} {g : Option (Nat × Bool)} (h : gB n ops L d g = true) : Nat.blt d n = true := by
  unfold gB at h; rw [Bool.and_eq_true] at h; exact h.2
def vF (n : Nat) (ops : Array Oper) (L : List (Nat × Value)) (d : Nat) (g : Option (Nat × Bool)) (x : Operand) : Option Value := match gB n ops L d g with
  | true => ev L x
  | false => none
def bF (n : Nat) (ops : Array Oper) (L : List (Nat × Value)) (d : Nat) (g : Option (Nat × Bool)) (x y : Operand) : Option (Value × Value) := match gB n ops L d g with
  | true => match ev L x, ev L y with
    | some u, some v => some (u, v)
    | _, _ => none
  | false => none
def pF (n : Nat) (ops : Array Oper) (L : List (Nat × Value)) (d : Nat) (g : Option (Nat × Bool)) (c x y : Operand) : Option Value := match gB n ops L d g with
  | true => match ev L c with
    | some (.bool true) => ev L x
    | some (.bool false) => ev L y
    | _ => none
  | false => none
def xF (n : Nat) (ops : Array Oper) (L : List (Nat × Value)) (d : Nat) (g : Option (Nat × Bool)) (x : Operand) (i : Nat) : Option Value := match vF n ops L d g x with
  | some (.tuple vs) => vs.toList[i]?
  | _ => none
def uF (n : Nat) (ops : Array Oper) (L : List (Nat × Value)) (d : Nat) (g : Option (Nat × Bool)) (xs ys : List Operand) : Option (List Value × List Value) := match gB n ops L d g with
  | true => match evs L xs, evs L ys with
    | some u, some v => some (u, v)
    | _, _ => none
  | false => none
def cF (n : Nat) (ops : Array Oper) (L : List (Nat × Value)) (d : Nat) (g : Option (Nat × Bool)) (fop : Operand) (xs : List Operand) : Option (FuncId × List Value) := match gB n ops L d g with
  | true => match ev L fop, evs L xs with
    | some (.func (.func f) fi ca), some vs => some (f, fi.toList ++ vs ++ ca.toList)
    | _, _ => none
  | false => none
theorem vF_out {n : Nat} {ops : Array Oper} {L : List (Nat × Value)} {d : Nat} {g : Option (Nat × Bool)} {x : Operand} {v : Value} (h : vF n ops L d g x = some v) : gOn ops L g = true ∧ Nat.blt d n = true ∧ ev L x = some v := by
  unfold vF at h
  split at h
  · rename_i hb; exact ⟨gB1 hb, gB2 hb, h⟩
  · cases h
theorem bF_out {n : Nat} {ops : Array Oper} {L : List (Nat × Value)} {d : Nat} {g : Option (Nat × Bool)} {x y : Operand} {u v : Value} (h : bF n ops L d g x y = some (u, v)) : gOn ops L g = true ∧ Nat.blt d n = true ∧ ev L x = some u ∧ ev L y = some v := by
  unfold bF at h
  split at h
  · rename_i hb
    split at h
    · rename_i hx hy; cases h; exact ⟨gB1 hb, gB2 hb, hx, hy⟩
    · cases h
  · cases h
theorem uF_out {n : Nat} {ops : Array Oper} {L : List (Nat × Value)} {d : Nat} {g : Option (Nat × Bool)} {x y : List Operand} {u v : List Value} (h : uF n ops L d g x y = some (u, v)) : gOn ops L g = true ∧ Nat.blt d n = true ∧ evs L x = some u ∧ evs L y = some v := by
  unfold uF at h
  split at h
  · rename_i hb
    split at h
    · rename_i hx hy; cases h; exact ⟨gB1 hb, gB2 hb, hx, hy⟩
    · cases h
  · cases h
section
variable {E : Env} {ops : Array Oper} {Q : Post} {rest : List Oper} {D : List Deferred} {L : List (Nat × Value)} {C : List Assn}
variable {d : Nat} {ty : TypeId} {ps : String} {af : Array Edge} {g : Option (Nat × Bool)}
theorem SX {o : Oper} {v : Value} (h : SD E ops o D L C v) (ho : o.dst = some d) (hd : Nat.blt d E.n = true) : SE E ops o D L C v d := ⟨h, ho, hd⟩
theorem MV {x : Operand} {v : Value} (h : vF E.n ops L d g x = some v) : SE E ops ⟨some d, .move x, ty, ps, af, g⟩ D L C v d := by
  obtain ⟨h1, h2, h3⟩ := vF_out h; exact ⟨sd_move h1 h3, rfl, h2⟩
theorem AG {x : Operand} {v : Value} (h : vF E.n ops L d g x = some v) : SE E ops ⟨some d, .assign x, ty, ps, af, g⟩ D L C v d := by
  obtain ⟨h1, h2, h3⟩ := vF_out h; exact ⟨sd_assign h1 h3, rfl, h2⟩
theorem OX {op : Op} (h : (gOff ops L g && Nat.blt d E.n) = true) : SE E ops ⟨some d, op, ty, ps, af, g⟩ D L C undef d := by
  rw [Bool.and_eq_true] at h; exact ⟨sd_off h.1, rfl, h.2⟩
theorem NT {xt : TypeId} {x : Operand} {b : Bool} (h : vF E.n ops L d g x = some (.bool b)) : SE E ops ⟨some d, .unOp .not xt x, ty, ps, af, g⟩ D L C (.bool !b) d := by
  obtain ⟨h1, h2, h3⟩ := vF_out h; exact ⟨sd_not h1 h3, rfl, h2⟩
theorem NG {xt : TypeId} {x : Operand} {n : Int} (h : vF E.n ops L d g x = some (.int .i64 n)) (hb : In64 (-n)) : SE E ops ⟨some d, .unOp .neg xt x, ty, ps, af, g⟩ D L C (.int .i64 (-n)) d := by
  obtain ⟨h1, h2, h3⟩ := vF_out h; exact ⟨sd_neg h1 h3 hb, rfl, h2⟩
theorem PK {c x y : Operand} {v : Value} (h : pF E.n ops L d g c x y = some v) : SE E ops ⟨some d, .pick c x y, ty, ps, af, g⟩ D L C v d := by
  unfold pF at h
  split at h
  · rename_i hb
    split at h
    · rename_i hc; exact ⟨sd_pick_t (gB1 hb) hc h, rfl, gB2 hb⟩
    · rename_i hc; exact ⟨sd_pick_f (gB1 hb) hc h, rfl, gB2 hb⟩
    · cases h
  · cases h
theorem EX {x : Operand} {i : Nat} {v : Value} (h : xF E.n ops L d g x i = some v) : SE E ops ⟨some d, .extract x i, ty, ps, af, g⟩ D L C v d := by
  unfold xF at h
  split at h
  · rename_i vs hv
    obtain ⟨h1, h2, h3⟩ := vF_out hv
    exact ⟨sd_extract (vs := vs.toList) h1 (by simpa using h3) h, rfl, h2⟩
  · cases h
theorem LN {x : Operand} {t e : TypeId} {A : Option Addr} {n c : Nat} (h : vF E.n ops L d g x = some (.slice A n c)) (ht : E.P.underlying t = some (.slice e)) :
    SE E ops ⟨some d, .call { callee := .builtin .len, args := #[x], argTypes := #[t] }, ty, ps, af, g⟩ D L C (.int .i64 n) d := by
  obtain ⟨h1, h2, h3⟩ := vF_out h; exact ⟨sd_len h1 h3 ht, rfl, h2⟩
theorem BI {op : BinOp} {xt yt : TypeId} {x y : Operand} {u v r : Value} (h : bF E.n ops L d g x y = some (u, v)) (hb : BinRun E.P op xt x y u v r) : SE E ops ⟨some d, .binOp op xt x y yt, ty, ps, af, g⟩ D L C r d := by
  obtain ⟨h1, h2, h3, h4⟩ := bF_out h; exact ⟨sd_bin h1 h3 h4 hb, rfl, h2⟩
theorem MN {x y : Operand} {ts : Array TypeId} {a b : Int} {k : IntKind} (h : bF E.n ops L d g x y = some (.int k a, .int k b)) :
    SE E ops ⟨some d, .call { callee := .builtin .min, args := #[x, y], argTypes := ts }, ty, ps, af, g⟩ D L C (.int k (min a b)) d := by
  obtain ⟨h1, h2, h3, h4⟩ := bF_out h; exact ⟨sd_min h1 h3 h4, rfl, h2⟩
theorem MX {x y : Operand} {ts : Array TypeId} {a b : Int} {k : IntKind} (h : bF E.n ops L d g x y = some (.int k a, .int k b)) :
    SE E ops ⟨some d, .call { callee := .builtin .max, args := #[x, y], argTypes := ts }, ty, ps, af, g⟩ D L C (.int k (max a b)) d := by
  obtain ⟨h1, h2, h3, h4⟩ := bF_out h; exact ⟨sd_max h1 h3 h4, rfl, h2⟩
theorem FA (o' : Nat) {x : Operand} {b o s f k : Nat} (h : vF E.n ops L d g x = some (.pointer (some ⟨b, o, none⟩))) (hf : fOff E.P s f = some k) (ho : o + k = o') :
    SE E ops ⟨some d, .fieldAddr s x f, ty, ps, af, g⟩ D L C (.pointer (some ⟨b, o', none⟩)) d := by
  obtain ⟨h1, h2, h3⟩ := vF_out h; exact ⟨sd_fa h1 h3 hf ho, rfl, h2⟩
theorem FAR (k' : Nat) {x : Operand} {A : Option Addr} {n sz : Nat} {es : List (List Value)} {k0 s f k : Nat} (h : vF E.n ops L d g x = some (.pointer (padd A k0))) (hR : Has C (rd A n sz es).holds) (hn : 0 < n * sz)
    (hf : fOff E.P s f = some k) (ho : k0 + k = k') : SE E ops ⟨some d, .fieldAddr s x f, ty, ps, af, g⟩ D L C (.pointer (padd A k')) d := by
  obtain ⟨h1, h2, h3⟩ := vF_out h; exact ⟨sd_fa_rd h1 h3 hR hn hf ho, rfl, h2⟩
theorem FAP (k' : Nat) {x : Operand} {A : Option Addr} {ad : Addr} {k0 s f k : Nat} (h : vF E.n ops L d g x = some (.pointer (padd A k0))) (hA : A = some ad)
    (hf : fOff E.P s f = some k) (ho : k0 + k = k') : SE E ops ⟨some d, .fieldAddr s x f, ty, ps, af, g⟩ D L C (.pointer (padd A k')) d := by
  obtain ⟨h1, h2, h3⟩ := vF_out h; exact ⟨sd_fa_pd h1 h3 hA hf ho, rfl, h2⟩
theorem IA (k : Nat) {x ix : Operand} {A : Option Addr} {n c sz e t : Nat} {es : List (List Value)} {j : Int} (h : bF E.n ops L d g x ix = some (.slice A n c, .int .i64 j)) (hR : Has C (rd A n sz es).holds)
    (ht : tE E.P t = some (e, sz)) (hz : 0 < sz) (hj : j = (k : Int)) (hk : k < n) : SE E ops ⟨some d, .indexAddr t x ix, ty, ps, af, g⟩ D L C (.pointer (padd A (k * sz))) d := by
  obtain ⟨h1, h2, h3, h4⟩ := bF_out h; exact ⟨sd_ia h1 h3 h4 hR ht hz hj hk, rfl, h2⟩
theorem IAB (k o' : Nat) {x ix : Operand} {b o n c sz e t : Nat} {j : Int} (h : bF E.n ops L d g x ix = some (.slice (some ⟨b, o, none⟩) n c, .int .i64 j))
    (ht : tE E.P t = some (e, sz)) (hj : j = (k : Int)) (hk : k < n) (ho : o + k * sz = o') : SE E ops ⟨some d, .indexAddr t x ix, ty, ps, af, g⟩ D L C (.pointer (some ⟨b, o', none⟩)) d := by
  obtain ⟨h1, h2, h3, h4⟩ := bF_out h; exact ⟨sd_ia_b h1 h3 h4 ht hj hk ho, rfl, h2⟩
/-- the whole of a block, a part of it, one cell -/
theorem LW (i : Nat) {x : Operand} {b t tt n : Nat} {cs : List Value} (h : vF E.n ops L d g x = some (.pointer (some ⟨b, 0, none⟩))) (ht : tK E.P t = some (true, n)) (hC : C[i]? = some (blk b tt cs)) (hn : cs.length = n) :
    SE E ops ⟨some d, .load t x, ty, ps, af, g⟩ D L C (.agg cs.toArray) d := by
  obtain ⟨h1, h2, h3⟩ := vF_out h; exact ⟨sd_ldn h1 h3 ht (at_blk i hC (by simp)) hn, rfl, h2⟩
theorem LWR (i : Nat) {x : Operand} {b t tt n : Nat} {cs : List Value} (h : vF E.n ops L d g x = some (.pointer (some ⟨b, 0, none⟩))) (ht : tK E.P t = some (true, n)) (hC : C[i]? = some (blk b tt cs).ro) (hn : cs.length = n) :
    SE E ops ⟨some d, .load t x, ty, ps, af, g⟩ D L C (.agg cs.toArray) d := by
  obtain ⟨h1, h2, h3⟩ := vF_out h; exact ⟨sd_ldn h1 h3 ht (at_blkr i hC (by simp)) hn, rfl, h2⟩
theorem LP (vs : List Value) (i : Nat) {x : Operand} {b o t tt n : Nat} {cs : List Value} (h : vF E.n ops L d g x = some (.pointer (some ⟨b, o, none⟩))) (ht : tK E.P t = some (true, n)) (hC : C[i]? = some (blk b tt cs)) (hv : (cs.drop o).take vs.length = vs) (hn : vs.length = n) :
    SE E ops ⟨some d, .load t x, ty, ps, af, g⟩ D L C (.agg vs.toArray) d := by
  obtain ⟨h1, h2, h3⟩ := vF_out h; exact ⟨sd_ldn h1 h3 ht (at_blk i hC hv) hn, rfl, h2⟩
theorem LPR (vs : List Value) (i : Nat) {x : Operand} {b o t tt n : Nat} {cs : List Value} (h : vF E.n ops L d g x = some (.pointer (some ⟨b, o, none⟩))) (ht : tK E.P t = some (true, n)) (hC : C[i]? = some (blk b tt cs).ro) (hv : (cs.drop o).take vs.length = vs) (hn : vs.length = n) :
    SE E ops ⟨some d, .load t x, ty, ps, af, g⟩ D L C (.agg vs.toArray) d := by
  obtain ⟨h1, h2, h3⟩ := vF_out h; exact ⟨sd_ldn h1 h3 ht (at_blkr i hC hv) hn, rfl, h2⟩
theorem L1 (v : Value) (i : Nat) {x : Operand} {b o t tt n : Nat} {cs : List Value} (h : vF E.n ops L d g x = some (.pointer (some ⟨b, o, none⟩))) (ht : tK E.P t = some (false, n)) (hC : C[i]? = some (blk b tt cs)) (hv : (cs.drop o).take 1 = [v]) :
    SE E ops ⟨some d, .load t x, ty, ps, af, g⟩ D L C v d := by
  obtain ⟨h1, h2, h3⟩ := vF_out h; exact ⟨sd_ld1 h1 h3 ht (at_blk i hC hv), rfl, h2⟩
theorem L1R (v : Value) (i : Nat) {x : Operand} {b o t tt n : Nat} {cs : List Value} (h : vF E.n ops L d g x = some (.pointer (some ⟨b, o, none⟩))) (ht : tK E.P t = some (false, n)) (hC : C[i]? = some (blk b tt cs).ro) (hv : (cs.drop o).take 1 = [v]) :
    SE E ops ⟨some d, .load t x, ty, ps, af, g⟩ D L C v d := by
  obtain ⟨h1, h2, h3⟩ := vF_out h; exact ⟨sd_ld1 h1 h3 ht (at_blkr i hC hv), rfl, h2⟩
theorem L1W (i : Nat) {x : Operand} {b t tt n : Nat} {v : Value} (h : vF E.n ops L d g x = some (.pointer (some ⟨b, 0, none⟩))) (ht : tK E.P t = some (false, n)) (hC : C[i]? = some (blk b tt [v])) :
    SE E ops ⟨some d, .load t x, ty, ps, af, g⟩ D L C v d := by
  obtain ⟨h1, h2, h3⟩ := vF_out h; exact ⟨sd_ld1 h1 h3 ht (at_blk i hC rfl), rfl, h2⟩
theorem L1Q (i : Nat) {x : Operand} {b t tt n : Nat} {v : Value} (h : vF E.n ops L d g x = some (.pointer (some ⟨b, 0, none⟩))) (ht : tK E.P t = some (false, n)) (hC : C[i]? = some (blk b tt [v]).ro) :
    SE E ops ⟨some d, .load t x, ty, ps, af, g⟩ D L C v d := by
  obtain ⟨h1, h2, h3⟩ := vF_out h; exact ⟨sd_ld1 h1 h3 ht (at_blkr i hC rfl), rfl, h2⟩
/-- what is read of a row -/
theorem LE1 (k o : Nat) (v : Value) {x : Operand} {A : Option Addr} {t m n sz : Nat} {es : List (List Value)} {e : List Value} (h : vF E.n ops L d g x = some (.pointer (padd A m))) {nn : Nat} (ht : tK E.P t = some (false, nn)) (hR : Has C (rd A n sz es).holds) (he : es[k]? = some e) (hm : m = k * sz + o) (hz : 0 < sz) (hv : (e.drop o).take 1 = [v]) :
    SE E ops ⟨some d, .load t x, ty, ps, af, g⟩ D L C v d := by
  obtain ⟨h1, h2, h3⟩ := vF_out h; exact ⟨sd_ld1 h1 h3 ht (at_rd hR he hm hz hv), rfl, h2⟩
theorem LEN (k o : Nat) (vs : List Value) {x : Operand} {A : Option Addr} {t m n sz : Nat} {es : List (List Value)} {e : List Value} (h : vF E.n ops L d g x = some (.pointer (padd A m))) {nn : Nat} (ht : tK E.P t = some (true, nn)) (hR : Has C (rd A n sz es).holds) (he : es[k]? = some e) (hm : m = k * sz + o) (hz : 0 < sz) (hv : (e.drop o).take vs.length = vs) (hn : vs.length = nn) :
    SE E ops ⟨some d, .load t x, ty, ps, af, g⟩ D L C (.agg vs.toArray) d := by
  obtain ⟨h1, h2, h3⟩ := vF_out h; exact ⟨sd_ldn h1 h3 ht (at_rd hR he hm hz hv) hn, rfl, h2⟩
theorem CL {fop : Operand} {xs : Array Operand} {ts : Array TypeId} {f : FuncId} {args : List Value} {Cp : List Assn} {v : Value} (c : FnV E.P f args Cp v) (hC : HasAll C Cp) (h : cF E.n ops L d g fop xs.toList = some (f, args)) :
    SE E ops ⟨some d, .call { callee := .value fop, args := xs, argTypes := ts }, ty, ps, af, g⟩ D L C v d := by
  unfold cF at h
  split at h
  · rename_i hb
    split at h
    · rename_i hf hx; cases h; exact ⟨sd_call (gB1 hb) hf hx rfl c hC, rfl, gB2 hb⟩
    · cases h
  · cases h
theorem FU {fn : Fn} {xs ys : Array Operand} {us vs : List Value} (h : uF E.n ops L d g xs.toList ys.toList = some (us, vs)) : SE E ops ⟨some d, .makeFunc fn xs ys, ty, ps, af, g⟩ D L C (.func fn us.toArray vs.toArray) d := by
  obtain ⟨h1, h2, h3, h4⟩ := uF_out h; exact ⟨sd_func h1 h3 h4, rfl, h2⟩
theorem cX {fop : Operand} {xs : Array Operand} {ts : Array TypeId} {f : FuncId} {args : List Value} {Cp : List Assn} {α : Type} {V : α → Value} {p : α → Prop} {N : α → List Assn} (c : FnX E.P f args Cp V p N) (hC : HasAll C Cp)
    (h : cF E.n ops L d g fop xs.toList = some (f, args)) (k : ∀ x, p x → RJ E ops Q rest D ((d, V x) :: L) (N x ++ C)) :
    RJ E ops Q (⟨some d, .call { callee := .value fop, args := xs, argTypes := ts }, ty, ps, af, g⟩ :: rest) D L C := by
  unfold cF at h
  split at h
  · rename_i hb
    split at h
    · rename_i hf hx; cases h; exact r_call (gB1 hb) hf hx rfl c hC (gB2 hb) k
    · cases h
  · cases h
/-- a box of a struct, of one cell -/
theorem BXA {t : TypeId} {x : Operand} {cs : List Value} (h : vF E.n ops L d g x = some (.agg cs.toArray)) (k : ∀ b, RJ E ops Q rest D ((d, .pointer (some ⟨b, 0, none⟩)) :: L) (blk b t cs :: C)) :
    RJ E ops Q (⟨some d, .box t x, ty, ps, af, g⟩ :: rest) D L C := by
  obtain ⟨h1, h2, h3⟩ := vF_out h; exact r_box h1 h3 rfl h2 k
theorem BX1 {t : TypeId} {x : Operand} {v : Value} (h : vF E.n ops L d g x = some v) (hv : v.cells.toList = [v]) (k : ∀ b, RJ E ops Q rest D ((d, .pointer (some ⟨b, 0, none⟩)) :: L) (blk b t [v] :: C)) :
    RJ E ops Q (⟨some d, .box t x, ty, ps, af, g⟩ :: rest) D L C := by
  obtain ⟨h1, h2, h3⟩ := vF_out h; exact r_box h1 h3 hv h2 k
theorem AL {t : TypeId} {cs : List Value} (h : gB E.n ops L d g = true) (hz : tZ E.P t = some cs) (k : ∀ b, RJ E ops Q rest D ((d, .pointer (some ⟨b, 0, none⟩)) :: L) (blk b t cs :: C)) :
    RJ E ops Q (⟨some d, .alloc t, ty, ps, af, g⟩ :: rest) D L C := r_alloc (gB1 h) hz (gB2 h) k
/-- a store into the block at the place i of the state -/
def sF (ops : Array Oper) (L : List (Nat × Value)) (g : Option (Nat × Bool)) (x y : Operand) : Option (Value × Value) := match gOn ops L g with
  | true => match ev L x, ev L y with
    | some u, some v => some (u, v)
    | _, _ => none
  | false => none
theorem sF_out {ops : Array Oper} {L : List (Nat × Value)} {g : Option (Nat × Bool)} {x y : Operand} {u v : Value} (h : sF ops L g x y = some (u, v)) : gOn ops L g = true ∧ ev L x = some u ∧ ev L y = some v := by
  unfold sF at h
  split at h
  · rename_i hb
    split at h
    · rename_i hx hy; cases h; exact ⟨hb, hx, hy⟩
    · cases h
  · cases h
theorem st_ {t n b o tt : Nat} {x y : Operand} {v : Value} {cs cs' : List Value} {C' : List Assn} (i : Nat) (h : sF ops L g x y = some (.pointer (some ⟨b, o, none⟩), v)) (ht : (tK E.P t).map (·.2) = some n) (hC : C[i]? = some (blk b tt cs))
    (hk : (v.cells.toList.length == n && v.cells.toList.all Value.oneCell' && Nat.ble (o + n) cs.length) = true) (hcs : cs.take o ++ v.cells.toList ++ cs.drop (o + n) = cs') (hC' : C.set i (blk b tt cs') = C') (k : RJ E ops Q rest D L C') :
    RJ E ops Q (⟨none, .store t x y, ty, ps, af, g⟩ :: rest) D L C := by
  obtain ⟨h1, h2, h3⟩ := sF_out h
  simp only [Bool.and_eq_true, beq_iff_eq] at hk
  exact r_store i h1 h2 h3 ht rfl hk.1.1 hk.1.2 hC hk.2 hcs hC' k
/-- a store of a whole block, by a struct, by one cell -/
theorem sw_ {t n b tt : Nat} {x y : Operand} {cs cs' : List Value} {C' : List Assn} (i : Nat) (h : sF ops L g x y = some (.pointer (some ⟨b, 0, none⟩), .agg cs'.toArray)) (ht : (tK E.P t).map (·.2) = some n) (hC : C[i]? = some (blk b tt cs))
    (hk : (Nat.beq cs'.length n && cs'.all Value.oneCell' && Nat.beq n cs.length) = true) (hC' : C.set i (blk b tt cs') = C') (k : RJ E ops Q rest D L C') :
    RJ E ops Q (⟨none, .store t x y, ty, ps, af, g⟩ :: rest) D L C := by
  obtain ⟨h1, h2, h3⟩ := sF_out h
  simp only [Bool.and_eq_true] at hk
  obtain ⟨⟨hk1, hk2⟩, hk3⟩ := hk
  have e1 := Nat.eq_of_beq_eq_true hk1
  have e3 := Nat.eq_of_beq_eq_true hk3
  exact r_store i h1 h2 h3 ht rfl e1 hk2 hC (by rw [Nat.zero_add, e3]; exact Nat.ble_self_eq_true _) (by rw [Nat.zero_add, e3, List.take_zero, List.drop_length]; show [] ++ cs' ++ [] = cs'; simp) hC' k
theorem s1_ {t n b tt : Nat} {x y : Operand} {v u : Value} {C' : List Assn} (i : Nat) (h : sF ops L g x y = some (.pointer (some ⟨b, 0, none⟩), v)) (ht : (tK E.P t).map (·.2) = some n) (hC : C[i]? = some (blk b tt [u]))
    (hv : v.cells.toList = [v]) (hk : (Nat.beq n 1 && v.oneCell') = true) (hC' : C.set i (blk b tt [v]) = C') (k : RJ E ops Q rest D L C') :
    RJ E ops Q (⟨none, .store t x y, ty, ps, af, g⟩ :: rest) D L C := by
  obtain ⟨h1, h2, h3⟩ := sF_out h
  rw [Bool.and_eq_true] at hk
  obtain ⟨hk1, hk2⟩ := hk
  have e1 := Nat.eq_of_beq_eq_true hk1
  subst e1
  exact r_store i h1 h2 h3 ht hv rfl (by simp [hk2]) hC rfl rfl hC' k
theorem SW0 {t n b tt : Nat} {x y : Operand} {cs cs' : List Value} (h : sF ops L g x y = some (.pointer (some ⟨b, 0, none⟩), .agg cs'.toArray)) (ht : (tK E.P t).map (·.2) = some n) (hk : (Nat.beq cs'.length n && cs'.all Value.oneCell' && Nat.beq n cs.length) = true) (k : RJ E ops Q rest D L (blk b tt cs' :: C)) : RJ E ops Q (⟨none, .store t x y, ty, ps, af, g⟩ :: rest) D L (blk b tt cs :: C) := sw_ 0 h ht rfl hk rfl k
theorem SO0 {t n b tt : Nat} {x y : Operand} {v u : Value} (h : sF ops L g x y = some (.pointer (some ⟨b, 0, none⟩), v)) (ht : (tK E.P t).map (·.2) = some n) (hv : v.cells.toList = [v]) (hk : (Nat.beq n 1 && v.oneCell') = true) (k : RJ E ops Q rest D L (blk b tt [v] :: C)) : RJ E ops Q (⟨none, .store t x y, ty, ps, af, g⟩ :: rest) D L (blk b tt [u] :: C) := s1_ 0 h ht rfl hv hk rfl k
theorem ST0 (cs' : List Value) {t n b o tt : Nat} {x y : Operand} {v : Value} {cs : List Value} (h : sF ops L g x y = some (.pointer (some ⟨b, o, none⟩), v)) (ht : (tK E.P t).map (·.2) = some n) (hk : (v.cells.toList.length == n && v.cells.toList.all Value.oneCell' && Nat.ble (o + n) cs.length) = true) (hcs : cs.take o ++ v.cells.toList ++ cs.drop (o + n) = cs') (k : RJ E ops Q rest D L (blk b tt cs' :: C)) : RJ E ops Q (⟨none, .store t x y, ty, ps, af, g⟩ :: rest) D L (blk b tt cs :: C) := st_ 0 h ht rfl hk hcs rfl k
theorem SW1 {t n b tt : Nat} {x y : Operand} {cs cs' : List Value} {A0 : Assn} (h : sF ops L g x y = some (.pointer (some ⟨b, 0, none⟩), .agg cs'.toArray)) (ht : (tK E.P t).map (·.2) = some n) (hk : (Nat.beq cs'.length n && cs'.all Value.oneCell' && Nat.beq n cs.length) = true) (k : RJ E ops Q rest D L (A0 :: blk b tt cs' :: C)) : RJ E ops Q (⟨none, .store t x y, ty, ps, af, g⟩ :: rest) D L (A0 :: blk b tt cs :: C) := sw_ 1 h ht rfl hk rfl k
theorem SO1 {t n b tt : Nat} {x y : Operand} {v u : Value} {A0 : Assn} (h : sF ops L g x y = some (.pointer (some ⟨b, 0, none⟩), v)) (ht : (tK E.P t).map (·.2) = some n) (hv : v.cells.toList = [v]) (hk : (Nat.beq n 1 && v.oneCell') = true) (k : RJ E ops Q rest D L (A0 :: blk b tt [v] :: C)) : RJ E ops Q (⟨none, .store t x y, ty, ps, af, g⟩ :: rest) D L (A0 :: blk b tt [u] :: C) := s1_ 1 h ht rfl hv hk rfl k
theorem ST1 (cs' : List Value) {t n b o tt : Nat} {x y : Operand} {v : Value} {cs : List Value} {A0 : Assn} (h : sF ops L g x y = some (.pointer (some ⟨b, o, none⟩), v)) (ht : (tK E.P t).map (·.2) = some n) (hk : (v.cells.toList.length == n && v.cells.toList.all Value.oneCell' && Nat.ble (o + n) cs.length) = true) (hcs : cs.take o ++ v.cells.toList ++ cs.drop (o + n) = cs') (k : RJ E ops Q rest D L (A0 :: blk b tt cs' :: C)) : RJ E ops Q (⟨none, .store t x y, ty, ps, af, g⟩ :: rest) D L (A0 :: blk b tt cs :: C) := st_ 1 h ht rfl hk hcs rfl k
theorem SW2 {t n b tt : Nat} {x y : Operand} {cs cs' : List Value} {A0 A1 : Assn} (h : sF ops L g x y = some (.pointer (some ⟨b, 0, none⟩), .agg cs'.toArray)) (ht : (tK E.P t).map (·.2) = some n) (hk : (Nat.beq cs'.length n && cs'.all Value.oneCell' && Nat.beq n cs.length) = true) (k : RJ E ops Q rest D L (A0 :: A1 :: blk b tt cs' :: C)) : RJ E ops Q (⟨none, .store t x y, ty, ps, af, g⟩ :: rest) D L (A0 :: A1 :: blk b tt cs :: C) := sw_ 2 h ht rfl hk rfl k
theorem SO2 {t n b tt : Nat} {x y : Operand} {v u : Value} {A0 A1 : Assn} (h : sF ops L g x y = some (.pointer (some ⟨b, 0, none⟩), v)) (ht : (tK E.P t).map (·.2) = some n) (hv : v.cells.toList = [v]) (hk : (Nat.beq n 1 && v.oneCell') = true) (k : RJ E ops Q rest D L (A0 :: A1 :: blk b tt [v] :: C)) : RJ E ops Q (⟨none, .store t x y, ty, ps, af, g⟩ :: rest) D L (A0 :: A1 :: blk b tt [u] :: C) := s1_ 2 h ht rfl hv hk rfl k
theorem ST2 (cs' : List Value) {t n b o tt : Nat} {x y : Operand} {v : Value} {cs : List Value} {A0 A1 : Assn} (h : sF ops L g x y = some (.pointer (some ⟨b, o, none⟩), v)) (ht : (tK E.P t).map (·.2) = some n) (hk : (v.cells.toList.length == n && v.cells.toList.all Value.oneCell' && Nat.ble (o + n) cs.length) = true) (hcs : cs.take o ++ v.cells.toList ++ cs.drop (o + n) = cs') (k : RJ E ops Q rest D L (A0 :: A1 :: blk b tt cs' :: C)) : RJ E ops Q (⟨none, .store t x y, ty, ps, af, g⟩ :: rest) D L (A0 :: A1 :: blk b tt cs :: C) := st_ 2 h ht rfl hk hcs rfl k
theorem SW3 {t n b tt : Nat} {x y : Operand} {cs cs' : List Value} {A0 A1 A2 : Assn} (h : sF ops L g x y = some (.pointer (some ⟨b, 0, none⟩), .agg cs'.toArray)) (ht : (tK E.P t).map (·.2) = some n) (hk : (Nat.beq cs'.length n && cs'.all Value.oneCell' && Nat.beq n cs.length) = true) (k : RJ E ops Q rest D L (A0 :: A1 :: A2 :: blk b tt cs' :: C)) : RJ E ops Q (⟨none, .store t x y, ty, ps, af, g⟩ :: rest) D L (A0 :: A1 :: A2 :: blk b tt cs :: C) := sw_ 3 h ht rfl hk rfl k
theorem SO3 {t n b tt : Nat} {x y : Operand} {v u : Value} {A0 A1 A2 : Assn} (h : sF ops L g x y = some (.pointer (some ⟨b, 0, none⟩), v)) (ht : (tK E.P t).map (·.2) = some n) (hv : v.cells.toList = [v]) (hk : (Nat.beq n 1 && v.oneCell') = true) (k : RJ E ops Q rest D L (A0 :: A1 :: A2 :: blk b tt [v] :: C)) : RJ E ops Q (⟨none, .store t x y, ty, ps, af, g⟩ :: rest) D L (A0 :: A1 :: A2 :: blk b tt [u] :: C) := s1_ 3 h ht rfl hv hk rfl k
theorem ST3 (cs' : List Value) {t n b o tt : Nat} {x y : Operand} {v : Value} {cs : List Value} {A0 A1 A2 : Assn} (h : sF ops L g x y = some (.pointer (some ⟨b, o, none⟩), v)) (ht : (tK E.P t).map (·.2) = some n) (hk : (v.cells.toList.length == n && v.cells.toList.all Value.oneCell' && Nat.ble (o + n) cs.length) = true) (hcs : cs.take o ++ v.cells.toList ++ cs.drop (o + n) = cs') (k : RJ E ops Q rest D L (A0 :: A1 :: A2 :: blk b tt cs' :: C)) : RJ E ops Q (⟨none, .store t x y, ty, ps, af, g⟩ :: rest) D L (A0 :: A1 :: A2 :: blk b tt cs :: C) := st_ 3 h ht rfl hk hcs rfl k
theorem SW4 {t n b tt : Nat} {x y : Operand} {cs cs' : List Value} {A0 A1 A2 A3 : Assn} (h : sF ops L g x y = some (.pointer (some ⟨b, 0, none⟩), .agg cs'.toArray)) (ht : (tK E.P t).map (·.2) = some n) (hk : (Nat.beq cs'.length n && cs'.all Value.oneCell' && Nat.beq n cs.length) = true) (k : RJ E ops Q rest D L (A0 :: A1 :: A2 :: A3 :: blk b tt cs' :: C)) : RJ E ops Q (⟨none, .store t x y, ty, ps, af, g⟩ :: rest) D L (A0 :: A1 :: A2 :: A3 :: blk b tt cs :: C) := sw_ 4 h ht rfl hk rfl k
theorem SO4 {t n b tt : Nat} {x y : Operand} {v u : Value} {A0 A1 A2 A3 : Assn} (h : sF ops L g x y = some (.pointer (some ⟨b, 0, none⟩), v)) (ht : (tK E.P t).map (·.2) = some n) (hv : v.cells.toList = [v]) (hk : (Nat.beq n 1 && v.oneCell') = true) (k : RJ E ops Q rest D L (A0 :: A1 :: A2 :: A3 :: blk b tt [v] :: C)) : RJ E ops Q (⟨none, .store t x y, ty, ps, af, g⟩ :: rest) D L (A0 :: A1 :: A2 :: A3 :: blk b tt [u] :: C) := s1_ 4 h ht rfl hv hk rfl k
theorem ST4 (cs' : List Value) {t n b o tt : Nat} {x y : Operand} {v : Value} {cs : List Value} {A0 A1 A2 A3 : Assn} (h : sF ops L g x y = some (.pointer (some ⟨b, o, none⟩), v)) (ht : (tK E.P t).map (·.2) = some n) (hk : (v.cells.toList.length == n && v.cells.toList.all Value.oneCell' && Nat.ble (o + n) cs.length) = true) (hcs : cs.take o ++ v.cells.toList ++ cs.drop (o + n) = cs') (k : RJ E ops Q rest D L (A0 :: A1 :: A2 :: A3 :: blk b tt cs' :: C)) : RJ E ops Q (⟨none, .store t x y, ty, ps, af, g⟩ :: rest) D L (A0 :: A1 :: A2 :: A3 :: blk b tt cs :: C) := st_ 4 h ht rfl hk hcs rfl k
theorem SW5 {t n b tt : Nat} {x y : Operand} {cs cs' : List Value} {A0 A1 A2 A3 A4 : Assn} (h : sF ops L g x y = some (.pointer (some ⟨b, 0, none⟩), .agg cs'.toArray)) (ht : (tK E.P t).map (·.2) = some n) (hk : (Nat.beq cs'.length n && cs'.all Value.oneCell' && Nat.beq n cs.length) = true) (k : RJ E ops Q rest D L (A0 :: A1 :: A2 :: A3 :: A4 :: blk b tt cs' :: C)) : RJ E ops Q (⟨none, .store t x y, ty, ps, af, g⟩ :: rest) D L (A0 :: A1 :: A2 :: A3 :: A4 :: blk b tt cs :: C) := sw_ 5 h ht rfl hk rfl k
theorem SO5 {t n b tt : Nat} {x y : Operand} {v u : Value} {A0 A1 A2 A3 A4 : Assn} (h : sF ops L g x y = some (.pointer (some ⟨b, 0, none⟩), v)) (ht : (tK E.P t).map (·.2) = some n) (hv : v.cells.toList = [v]) (hk : (Nat.beq n 1 && v.oneCell') = true) (k : RJ E ops Q rest D L (A0 :: A1 :: A2 :: A3 :: A4 :: blk b tt [v] :: C)) : RJ E ops Q (⟨none, .store t x y, ty, ps, af, g⟩ :: rest) D L (A0 :: A1 :: A2 :: A3 :: A4 :: blk b tt [u] :: C) := s1_ 5 h ht rfl hv hk rfl k
theorem ST5 (cs' : List Value) {t n b o tt : Nat} {x y : Operand} {v : Value} {cs : List Value} {A0 A1 A2 A3 A4 : Assn} (h : sF ops L g x y = some (.pointer (some ⟨b, o, none⟩), v)) (ht : (tK E.P t).map (·.2) = some n) (hk : (v.cells.toList.length == n && v.cells.toList.all Value.oneCell' && Nat.ble (o + n) cs.length) = true) (hcs : cs.take o ++ v.cells.toList ++ cs.drop (o + n) = cs') (k : RJ E ops Q rest D L (A0 :: A1 :: A2 :: A3 :: A4 :: blk b tt cs' :: C)) : RJ E ops Q (⟨none, .store t x y, ty, ps, af, g⟩ :: rest) D L (A0 :: A1 :: A2 :: A3 :: A4 :: blk b tt cs :: C) := st_ 5 h ht rfl hk hcs rfl k
theorem SW6 {t n b tt : Nat} {x y : Operand} {cs cs' : List Value} {A0 A1 A2 A3 A4 A5 : Assn} (h : sF ops L g x y = some (.pointer (some ⟨b, 0, none⟩), .agg cs'.toArray)) (ht : (tK E.P t).map (·.2) = some n) (hk : (Nat.beq cs'.length n && cs'.all Value.oneCell' && Nat.beq n cs.length) = true) (k : RJ E ops Q rest D L (A0 :: A1 :: A2 :: A3 :: A4 :: A5 :: blk b tt cs' :: C)) : RJ E ops Q (⟨none, .store t x y, ty, ps, af, g⟩ :: rest) D L (A0 :: A1 :: A2 :: A3 :: A4 :: A5 :: blk b tt cs :: C) := sw_ 6 h ht rfl hk rfl k
theorem SO6 {t n b tt : Nat} {x y : Operand} {v u : Value} {A0 A1 A2 A3 A4 A5 : Assn} (h : sF ops L g x y = some (.pointer (some ⟨b, 0, none⟩), v)) (ht : (tK E.P t).map (·.2) = some n) (hv : v.cells.toList = [v]) (hk : (Nat.beq n 1 && v.oneCell') = true) (k : RJ E ops Q rest D L (A0 :: A1 :: A2 :: A3 :: A4 :: A5 :: blk b tt [v] :: C)) : RJ E ops Q (⟨none, .store t x y, ty, ps, af, g⟩ :: rest) D L (A0 :: A1 :: A2 :: A3 :: A4 :: A5 :: blk b tt [u] :: C) := s1_ 6 h ht rfl hv hk rfl k
theorem ST6 (cs' : List Value) {t n b o tt : Nat} {x y : Operand} {v : Value} {cs : List Value} {A0 A1 A2 A3 A4 A5 : Assn} (h : sF ops L g x y = some (.pointer (some ⟨b, o, none⟩), v)) (ht : (tK E.P t).map (·.2) = some n) (hk : (v.cells.toList.length == n && v.cells.toList.all Value.oneCell' && Nat.ble (o + n) cs.length) = true) (hcs : cs.take o ++ v.cells.toList ++ cs.drop (o + n) = cs') (k : RJ E ops Q rest D L (A0 :: A1 :: A2 :: A3 :: A4 :: A5 :: blk b tt cs' :: C)) : RJ E ops Q (⟨none, .store t x y, ty, ps, af, g⟩ :: rest) D L (A0 :: A1 :: A2 :: A3 :: A4 :: A5 :: blk b tt cs :: C) := st_ 6 h ht rfl hk hcs rfl k
theorem SW7 {t n b tt : Nat} {x y : Operand} {cs cs' : List Value} {A0 A1 A2 A3 A4 A5 A6 : Assn} (h : sF ops L g x y = some (.pointer (some ⟨b, 0, none⟩), .agg cs'.toArray)) (ht : (tK E.P t).map (·.2) = some n) (hk : (Nat.beq cs'.length n && cs'.all Value.oneCell' && Nat.beq n cs.length) = true) (k : RJ E ops Q rest D L (A0 :: A1 :: A2 :: A3 :: A4 :: A5 :: A6 :: blk b tt cs' :: C)) : RJ E ops Q (⟨none, .store t x y, ty, ps, af, g⟩ :: rest) D L (A0 :: A1 :: A2 :: A3 :: A4 :: A5 :: A6 :: blk b tt cs :: C) := sw_ 7 h ht rfl hk rfl k
theorem SO7 {t n b tt : Nat} {x y : Operand} {v u : Value} {A0 A1 A2 A3 A4 A5 A6 : Assn} (h : sF ops L g x y = some (.pointer (some ⟨b, 0, none⟩), v)) (ht : (tK E.P t).map (·.2) = some n) (hv : v.cells.toList = [v]) (hk : (Nat.beq n 1 && v.oneCell') = true) (k : RJ E ops Q rest D L (A0 :: A1 :: A2 :: A3 :: A4 :: A5 :: A6 :: blk b tt [v] :: C)) : RJ E ops Q (⟨none, .store t x y, ty, ps, af, g⟩ :: rest) D L (A0 :: A1 :: A2 :: A3 :: A4 :: A5 :: A6 :: blk b tt [u] :: C) := s1_ 7 h ht rfl hv hk rfl k
theorem ST7 (cs' : List Value) {t n b o tt : Nat} {x y : Operand} {v : Value} {cs : List Value} {A0 A1 A2 A3 A4 A5 A6 : Assn} (h : sF ops L g x y = some (.pointer (some ⟨b, o, none⟩), v)) (ht : (tK E.P t).map (·.2) = some n) (hk : (v.cells.toList.length == n && v.cells.toList.all Value.oneCell' && Nat.ble (o + n) cs.length) = true) (hcs : cs.take o ++ v.cells.toList ++ cs.drop (o + n) = cs') (k : RJ E ops Q rest D L (A0 :: A1 :: A2 :: A3 :: A4 :: A5 :: A6 :: blk b tt cs' :: C)) : RJ E ops Q (⟨none, .store t x y, ty, ps, af, g⟩ :: rest) D L (A0 :: A1 :: A2 :: A3 :: A4 :: A5 :: A6 :: blk b tt cs :: C) := st_ 7 h ht rfl hk hcs rfl k
theorem SW8 {t n b tt : Nat} {x y : Operand} {cs cs' : List Value} {A0 A1 A2 A3 A4 A5 A6 A7 : Assn} (h : sF ops L g x y = some (.pointer (some ⟨b, 0, none⟩), .agg cs'.toArray)) (ht : (tK E.P t).map (·.2) = some n) (hk : (Nat.beq cs'.length n && cs'.all Value.oneCell' && Nat.beq n cs.length) = true) (k : RJ E ops Q rest D L (A0 :: A1 :: A2 :: A3 :: A4 :: A5 :: A6 :: A7 :: blk b tt cs' :: C)) : RJ E ops Q (⟨none, .store t x y, ty, ps, af, g⟩ :: rest) D L (A0 :: A1 :: A2 :: A3 :: A4 :: A5 :: A6 :: A7 :: blk b tt cs :: C) := sw_ 8 h ht rfl hk rfl k
theorem SO8 {t n b tt : Nat} {x y : Operand} {v u : Value} {A0 A1 A2 A3 A4 A5 A6 A7 : Assn} (h : sF ops L g x y = some (.pointer (some ⟨b, 0, none⟩), v)) (ht : (tK E.P t).map (·.2) = some n) (hv : v.cells.toList = [v]) (hk : (Nat.beq n 1 && v.oneCell') = true) (k : RJ E ops Q rest D L (A0 :: A1 :: A2 :: A3 :: A4 :: A5 :: A6 :: A7 :: blk b tt [v] :: C)) : RJ E ops Q (⟨none, .store t x y, ty, ps, af, g⟩ :: rest) D L (A0 :: A1 :: A2 :: A3 :: A4 :: A5 :: A6 :: A7 :: blk b tt [u] :: C) := s1_ 8 h ht rfl hv hk rfl k
theorem ST8 (cs' : List Value) {t n b o tt : Nat} {x y : Operand} {v : Value} {cs : List Value} {A0 A1 A2 A3 A4 A5 A6 A7 : Assn} (h : sF ops L g x y = some (.pointer (some ⟨b, o, none⟩), v)) (ht : (tK E.P t).map (·.2) = some n) (hk : (v.cells.toList.length == n && v.cells.toList.all Value.oneCell' && Nat.ble (o + n) cs.length) = true) (hcs : cs.take o ++ v.cells.toList ++ cs.drop (o + n) = cs') (k : RJ E ops Q rest D L (A0 :: A1 :: A2 :: A3 :: A4 :: A5 :: A6 :: A7 :: blk b tt cs' :: C)) : RJ E ops Q (⟨none, .store t x y, ty, ps, af, g⟩ :: rest) D L (A0 :: A1 :: A2 :: A3 :: A4 :: A5 :: A6 :: A7 :: blk b tt cs :: C) := st_ 8 h ht rfl hk hcs rfl k
theorem SW9 {t n b tt : Nat} {x y : Operand} {cs cs' : List Value} {A0 A1 A2 A3 A4 A5 A6 A7 A8 : Assn} (h : sF ops L g x y = some (.pointer (some ⟨b, 0, none⟩), .agg cs'.toArray)) (ht : (tK E.P t).map (·.2) = some n) (hk : (Nat.beq cs'.length n && cs'.all Value.oneCell' && Nat.beq n cs.length) = true) (k : RJ E ops Q rest D L (A0 :: A1 :: A2 :: A3 :: A4 :: A5 :: A6 :: A7 :: A8 :: blk b tt cs' :: C)) : RJ E ops Q (⟨none, .store t x y, ty, ps, af, g⟩ :: rest) D L (A0 :: A1 :: A2 :: A3 :: A4 :: A5 :: A6 :: A7 :: A8 :: blk b tt cs :: C) := sw_ 9 h ht rfl hk rfl k
theorem SO9 {t n b tt : Nat} {x y : Operand} {v u : Value} {A0 A1 A2 A3 A4 A5 A6 A7 A8 : Assn} (h : sF ops L g x y = some (.pointer (some ⟨b, 0, none⟩), v)) (ht : (tK E.P t).map (·.2) = some n) (hv : v.cells.toList = [v]) (hk : (Nat.beq n 1 && v.oneCell') = true) (k : RJ E ops Q rest D L (A0 :: A1 :: A2 :: A3 :: A4 :: A5 :: A6 :: A7 :: A8 :: blk b tt [v] :: C)) : RJ E ops Q (⟨none, .store t x y, ty, ps, af, g⟩ :: rest) D L (A0 :: A1 :: A2 :: A3 :: A4 :: A5 :: A6 :: A7 :: A8 :: blk b tt [u] :: C) := s1_ 9 h ht rfl hv hk rfl k
theorem ST9 (cs' : List Value) {t n b o tt : Nat} {x y : Operand} {v : Value} {cs : List Value} {A0 A1 A2 A3 A4 A5 A6 A7 A8 : Assn} (h : sF ops L g x y = some (.pointer (some ⟨b, o, none⟩), v)) (ht : (tK E.P t).map (·.2) = some n) (hk : (v.cells.toList.length == n && v.cells.toList.all Value.oneCell' && Nat.ble (o + n) cs.length) = true) (hcs : cs.take o ++ v.cells.toList ++ cs.drop (o + n) = cs') (k : RJ E ops Q rest D L (A0 :: A1 :: A2 :: A3 :: A4 :: A5 :: A6 :: A7 :: A8 :: blk b tt cs' :: C)) : RJ E ops Q (⟨none, .store t x y, ty, ps, af, g⟩ :: rest) D L (A0 :: A1 :: A2 :: A3 :: A4 :: A5 :: A6 :: A7 :: A8 :: blk b tt cs :: C) := st_ 9 h ht rfl hk hcs rfl k
theorem SW10 {t n b tt : Nat} {x y : Operand} {cs cs' : List Value} {A0 A1 A2 A3 A4 A5 A6 A7 A8 A9 : Assn} (h : sF ops L g x y = some (.pointer (some ⟨b, 0, none⟩), .agg cs'.toArray)) (ht : (tK E.P t).map (·.2) = some n) (hk : (Nat.beq cs'.length n && cs'.all Value.oneCell' && Nat.beq n cs.length) = true) (k : RJ E ops Q rest D L (A0 :: A1 :: A2 :: A3 :: A4 :: A5 :: A6 :: A7 :: A8 :: A9 :: blk b tt cs' :: C)) : RJ E ops Q (⟨none, .store t x y, ty, ps, af, g⟩ :: rest) D L (A0 :: A1 :: A2 :: A3 :: A4 :: A5 :: A6 :: A7 :: A8 :: A9 :: blk b tt cs :: C) := sw_ 10 h ht rfl hk rfl k
theorem SO10 {t n b tt : Nat} {x y : Operand} {v u : Value} {A0 A1 A2 A3 A4 A5 A6 A7 A8 A9 : Assn} (h : sF ops L g x y = some (.pointer (some ⟨b, 0, none⟩), v)) (ht : (tK E.P t).map (·.2) = some n) (hv : v.cells.toList = [v]) (hk : (Nat.beq n 1 && v.oneCell') = true) (k : RJ E ops Q rest D L (A0 :: A1 :: A2 :: A3 :: A4 :: A5 :: A6 :: A7 :: A8 :: A9 :: blk b tt [v] :: C)) : RJ E ops Q (⟨none, .store t x y, ty, ps, af, g⟩ :: rest) D L (A0 :: A1 :: A2 :: A3 :: A4 :: A5 :: A6 :: A7 :: A8 :: A9 :: blk b tt [u] :: C) := s1_ 10 h ht rfl hv hk rfl k
theorem ST10 (cs' : List Value) {t n b o tt : Nat} {x y : Operand} {v : Value} {cs : List Value} {A0 A1 A2 A3 A4 A5 A6 A7 A8 A9 : Assn} (h : sF ops L g x y = some (.pointer (some ⟨b, o, none⟩), v)) (ht : (tK E.P t).map (·.2) = some n) (hk : (v.cells.toList.length == n && v.cells.toList.all Value.oneCell' && Nat.ble (o + n) cs.length) = true) (hcs : cs.take o ++ v.cells.toList ++ cs.drop (o + n) = cs') (k : RJ E ops Q rest D L (A0 :: A1 :: A2 :: A3 :: A4 :: A5 :: A6 :: A7 :: A8 :: A9 :: blk b tt cs' :: C)) : RJ E ops Q (⟨none, .store t x y, ty, ps, af, g⟩ :: rest) D L (A0 :: A1 :: A2 :: A3 :: A4 :: A5 :: A6 :: A7 :: A8 :: A9 :: blk b tt cs :: C) := st_ 10 h ht rfl hk hcs rfl k
theorem SW11 {t n b tt : Nat} {x y : Operand} {cs cs' : List Value} {A0 A1 A2 A3 A4 A5 A6 A7 A8 A9 A10 : Assn} (h : sF ops L g x y = some (.pointer (some ⟨b, 0, none⟩), .agg cs'.toArray)) (ht : (tK E.P t).map (·.2) = some n) (hk : (Nat.beq cs'.length n && cs'.all Value.oneCell' && Nat.beq n cs.length) = true) (k : RJ E ops Q rest D L (A0 :: A1 :: A2 :: A3 :: A4 :: A5 :: A6 :: A7 :: A8 :: A9 :: A10 :: blk b tt cs' :: C)) : RJ E ops Q (⟨none, .store t x y, ty, ps, af, g⟩ :: rest) D L (A0 :: A1 :: A2 :: A3 :: A4 :: A5 :: A6 :: A7 :: A8 :: A9 :: A10 :: blk b tt cs :: C) := sw_ 11 h ht rfl hk rfl k
theorem SO11 {t n b tt : Nat} {x y : Operand} {v u : Value} {A0 A1 A2 A3 A4 A5 A6 A7 A8 A9 A10 : Assn} (h : sF ops L g x y = some (.pointer (some ⟨b, 0, none⟩), v)) (ht : (tK E.P t).map (·.2) = some n) (hv : v.cells.toList = [v]) (hk : (Nat.beq n 1 && v.oneCell') = true) (k : RJ E ops Q rest D L (A0 :: A1 :: A2 :: A3 :: A4 :: A5 :: A6 :: A7 :: A8 :: A9 :: A10 :: blk b tt [v] :: C)) : RJ E ops Q (⟨none, .store t x y, ty, ps, af, g⟩ :: rest) D L (A0 :: A1 :: A2 :: A3 :: A4 :: A5 :: A6 :: A7 :: A8 :: A9 :: A10 :: blk b tt [u] :: C) := s1_ 11 h ht rfl hv hk rfl k
theorem ST11 (cs' : List Value) {t n b o tt : Nat} {x y : Operand} {v : Value} {cs : List Value} {A0 A1 A2 A3 A4 A5 A6 A7 A8 A9 A10 : Assn} (h : sF ops L g x y = some (.pointer (some ⟨b, o, none⟩), v)) (ht : (tK E.P t).map (·.2) = some n) (hk : (v.cells.toList.length == n && v.cells.toList.all Value.oneCell' && Nat.ble (o + n) cs.length) = true) (hcs : cs.take o ++ v.cells.toList ++ cs.drop (o + n) = cs') (k : RJ E ops Q rest D L (A0 :: A1 :: A2 :: A3 :: A4 :: A5 :: A6 :: A7 :: A8 :: A9 :: A10 :: blk b tt cs' :: C)) : RJ E ops Q (⟨none, .store t x y, ty, ps, af, g⟩ :: rest) D L (A0 :: A1 :: A2 :: A3 :: A4 :: A5 :: A6 :: A7 :: A8 :: A9 :: A10 :: blk b tt cs :: C) := st_ 11 h ht rfl hk hcs rfl k
end
section
variable {E : Env} {y : Code} {Q : Post} {D : List Deferred} {L : List (Nat × Value)} {C : List Assn}
theorem WS {id : Nat} {ops : Array Oper} (h : ∀ K : Act → World → Prop, (∀ D L C, WJ E y Q D L C → KJ E K D L C) → RJ E ops (Exit.then K Q) ops.toList D L C) : WJ E (.seq (.region id ops false) y) Q D L C := w_seq fun K hK => w_region (h K hK)
theorem RK {ops : Array Oper} {K : Act → World → Prop} {Q' : Post} (hK : ∀ D L C, WJ E y Q D L C → KJ E K D L C) (k : WJ E y Q D L C) : RJ E ops (Exit.then K Q') [] D L C := r_nil (k_then (hK _ _ _ k))
theorem KK {K : Act → World → Prop} {Q' : Post} (hK : ∀ D L C, WJ E y Q D L C → KJ E K D L C) (k : WJ E y Q D L C) : KJ E (Exit.then K Q' .normal) D L C := k_then (hK _ _ _ k)
theorem WK {K : Act → World → Prop} {Q' : Post} (hK : ∀ D L C, WJ E y Q D L C → KJ E K D L C) (k : WJ E y Q D L C) : WJ E .skip (Exit.then K Q') D L C := w_skip (k_then (hK _ _ _ k))
end
theorem DT {p : Prop} [Decidable p] (h : decide p = true) : p := of_decide_eq_true h
theorem DF {p : Prop} [Decidable p] (h : decide p = false) : ¬ p := of_decide_eq_false h
theorem XT {p : Prop} [Decidable p] (h : (!decide p) = true) : ¬ p := by simpa using h
theorem XF {p : Prop} [Decidable p] (h : (!decide p) = false) : p := by simpa using h
/-- what a function hands back: one result, two, three, that lie in slots -/
theorem Q1 {E : Env} {fn : Func} {K : Act → World → Prop} {L : List (Nat × Value)} {C : List Assn} {t : Nat} {u v : Value} (hQ : ∀ D L C, LJ E fn (EndV E.w0 v) D L C → KJ E K D L C) (hS : E.S = fnS) (hr : fn.results.toList = [.tmp t]) (hl : L.lookup t = some u) (e : u = v) : KJ E K [] L C :=
  hQ _ _ _ (l_nil (vs := [u]) (by rw [hr]; exact ⟨hl, trivial⟩) fun w hs => endV e (by rw [hS] at hs; exact hs))
theorem Q2 {E : Env} {fn : Func} {K : Act → World → Prop} {L : List (Nat × Value)} {C : List Assn} {t s : Nat} {u x v : Value} (hQ : ∀ D L C, LJ E fn (EndV E.w0 v) D L C → KJ E K D L C) (hS : E.S = fnS) (hr : fn.results.toList = [.tmp t, .tmp s]) (hl : L.lookup t = some u) (hm : L.lookup s = some x) (e : Value.tuple [u, x].toArray = v) : KJ E K [] L C :=
  hQ _ _ _ (l_nil (vs := [u, x]) (by rw [hr]; exact ⟨hl, hm, trivial⟩) fun w hs => endV e (by rw [hS] at hs; exact hs))
theorem Q3 {E : Env} {fn : Func} {K : Act → World → Prop} {L : List (Nat × Value)} {C : List Assn} {t s r : Nat} {u x y v : Value} (hQ : ∀ D L C, LJ E fn (EndV E.w0 v) D L C → KJ E K D L C) (hS : E.S = fnS) (hr : fn.results.toList = [.tmp t, .tmp s, .tmp r]) (hl : L.lookup t = some u) (hm : L.lookup s = some x) (hn : L.lookup r = some y) (e : Value.tuple [u, x, y].toArray = v) : KJ E K [] L C :=
  hQ _ _ _ (l_nil (vs := [u, x, y]) (by rw [hr]; exact ⟨hl, hm, hn, trivial⟩) fun w hs => endV e (by rw [hS] at hs; exact hs))
end Go.Proofs.Ytaehngpnlkokkaa
