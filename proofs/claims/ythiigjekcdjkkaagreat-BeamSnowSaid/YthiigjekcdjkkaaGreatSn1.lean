/-
  The statement beamSnow_said, part 1 of 6: Core, Step, Ops, Mem, Call, Fun, Own, Aux, Range, More, Draw, Open, Types, Map, Trk, Tab.
  Conditions: none.
-/
import Derived.WalkKit
import Derived.RangeFuncLeaves
import Derived.RangeFuncRecord
import Derived.OrdersIn
import Derived.Deep.LoopGhost
import Derived.Maps.AppendAt
import Derived.RangeFuncNested
import Derived.Scope
import Derived.LoopNIn
import Derived.ProofKit
import Derived.Deep.Slices
import Derived.Below
import Derived.ChangeSame
import Derived.Maps.RangeRun
import Derived.Test.YthiigjekcdjkkaaGreatProg
import Derived.KernelRfl
namespace Go.Proofs.YthiigjekcdjkkaaGreat
section
open Go.RowKit
set_option linter.unusedVariables false
abbrev Fw (r : Option Nat) : Fence := { fn := fun _ => True, depth := none, alive := false, round := r }
theorem calls_in {P : Program} {f : FuncId} {args : Array Value} {w : World} {R : Ending → World → Prop} (r : Option Nat) (h : Calls P f args w R) : CallsIn (Fw r) 0 P f args w R :=
  (callsIn_wide (n := 0)).2 h
theorem calls_of_in {P : Program} {f : FuncId} {args : Array Value} {w : World} {R : Ending → World → Prop} (h : CallsIn (Fw none) 0 P f args w R) : Calls P f args w R :=
  (callsIn_wide (n := 0)).1 h
structure Fr (n : Nat) (D : List Deferred) (L : List (Nat × Value)) (a : Act) : Prop where
  defers : a.defers = D
  size : a.tmps.size = n
  at_ : ∀ t v, L.lookup t = some v → a.tmps[t]? = some v
def ev (L : List (Nat × Value)) : Operand → Option Value
  | .tmp t => L.lookup t
  | .const v => some v
  | .global g => some (.pointer (some ⟨g, 0, none⟩))
  | .func f => some (.func (.func f) #[] #[])
theorem Fr.ev {n : Nat} {D : List Deferred} {L : List (Nat × Value)} {a : Act} (h : Fr n D L a) {x : Operand} {v : Value} (hx : ev L x = some v) : a.eval x = v := by
  cases x with
  | tmp t => have := h.at_ t v hx; simp [Act.eval, this]
  | const u => simpa [Go.Proofs.YthiigjekcdjkkaaGreat.ev, Act.eval] using hx
  | global g => simpa [Go.Proofs.YthiigjekcdjkkaaGreat.ev, Act.eval] using hx
  | func f => simpa [Go.Proofs.YthiigjekcdjkkaaGreat.ev, Act.eval] using hx
theorem Fr.put {n : Nat} {D : List Deferred} {L : List (Nat × Value)} {a : Act} (h : Fr n D L a) {d : Nat} (hd : d < n) (v : Value) : Fr n D ((d, v) :: L) (a.put (some d) v) := by
  refine ⟨h.defers, by simp [Act.put, h.size], fun t u hu => ?_⟩
  simp only [Act.put]
  by_cases e : t = d
  · subst e
    simp only [List.lookup, beq_self_eq_true] at hu
    rw [Array.getElem?_setIfInBounds_self_of_lt (by rw [h.size]; exact hd)]; exact hu
  · have : (t == d) = false := by simpa using e
    simp only [List.lookup, this] at hu
    rw [Array.getElem?_setIfInBounds_ne (fun x => e x.symm)]
    exact h.at_ t u hu
/-- fewer slots are known -/
def Sub (L L' : List (Nat × Value)) : Prop := ∀ t v, L'.lookup t = some v → L.lookup t = some v
theorem Sub.nil (L : List (Nat × Value)) : Sub L [] := fun _ _ h => by simp [List.lookup] at h
theorem Sub.cons {L L' : List (Nat × Value)} {t : Nat} {v : Value} (h : L.lookup t = some v) (k : Sub L L') : Sub L ((t, v) :: L') := fun s u hu => by
  by_cases e : s = t
  · subst e; simp only [List.lookup, beq_self_eq_true] at hu; exact h.trans hu
  · have : (s == t) = false := by simpa using e
    simp only [List.lookup, this] at hu; exact k s u hu
theorem Fr.sub {n : Nat} {D : List Deferred} {L L' : List (Nat × Value)} {a : Act} (h : Fr n D L a) (k : Sub L L') : Fr n D L' a :=
  ⟨h.defers, h.size, fun t v hv => h.at_ t v (k t v hv)⟩
structure Assn where
  foot : Nat → Prop
  /-- what of it may be written -/
  wf : Nat → Prop
  holds : World → Prop
  /-- all of it may be written -/
  wr : Bool
  wfoot : ∀ b, wf b → foot b
  whole : wr = true → ∀ b, foot b → wf b
  lt : ∀ w, holds w → ∀ b, foot b → b < w.heap.size
  keep : ∀ w w' : World, (∀ b, foot b → w'.heap[b]? = w.heap[b]?) → holds w → holds w'
def Sep (A B : Assn) : Prop := ∀ b, A.foot b → B.foot b → ¬ A.wf b ∧ ¬ B.wf b
abbrev NS := Nat → Prop
def no : NS := fun _ => False
def only (b : Nat) : NS := fun k => k = b
/-- what may be written, and what may be read, of the blocks that were there -/
structure BS where
  w : NS
  r : NS
def fnS : BS := ⟨no, fun _ => True⟩
theorem Sep.symm {A B : Assn} (h : Sep A B) : Sep B A := fun b hb ha => (h b ha hb).symm
/-- all but the blocks of S is as it was; nothing of the streams has turned -/
structure Keeps (S : NS) (w w' : World) : Prop where
  os : w'.os = w.os
  tape : w'.tape = w.tape
  output : w'.output = w.output
  size : w.heap.size ≤ w'.heap.size
  block : ∀ k, k < w.heap.size → ¬ S k → w'.heap[k]? = w.heap[k]?
theorem Keeps.refl (S : NS) (w : World) : Keeps S w w := ⟨rfl, rfl, rfl, Nat.le_refl _, fun _ _ _ => rfl⟩
theorem Keeps.trans {S : NS} {a b c : World} (h : Keeps S a b) (k : Keeps S b c) : Keeps S a c :=
  ⟨k.os.trans h.os, k.tape.trans h.tape, k.output.trans h.output, Nat.le_trans h.size k.size, fun i hi hs => (k.block i (Nat.lt_of_lt_of_le hi h.size) hs).trans (h.block i hi hs)⟩
theorem Keeps.mono {S S' : NS} {a b : World} (h : Keeps S a b) (hs : ∀ k, S k → S' k) : Keeps S' a b :=
  ⟨h.os, h.tape, h.output, h.size, fun i hi hn => h.block i hi (fun hm => hn (hs i hm))⟩
theorem Keeps.below {w w' : World} (h : Keeps no w w') : Below w.heap.size w w' := ⟨h.os, h.tape, h.output, h.size, fun k hk => h.block k hk (fun h => h)⟩
theorem Keeps.drew (S : NS) (w : World) : Keeps S w w.drew := ⟨rfl, rfl, rfl, Nat.le_refl _, fun _ _ _ => rfl⟩
theorem Keeps.alloc (S : NS) (w : World) (o : Obj) : Keeps S w (w.alloc o) := ⟨rfl, rfl, rfl, by simp, fun k hk _ => Below.heap_alloc w o k hk⟩
/-- the state: what holds of memory, each thing by itself -/
structure St (S : BS) (w0 : World) (C : List Assn) (w : World) : Prop where
  keeps : Keeps S.w w0 w
  holds : ∀ A ∈ C, A.holds w
  sep : C.Pairwise Sep
  own : ∀ A ∈ C, ∀ b, A.wf b → w0.heap.size ≤ b ∨ S.w b
  seen : ∀ A ∈ C, ∀ b, A.foot b → w0.heap.size ≤ b ∨ S.r b
/-- C' is a part of C, in whatever order, each thing once -/
theorem St.sub {S : BS} {w0 w : World} {C C' : List Assn} (h : St S w0 C w) (hs : C'.Pairwise Sep) (hm : ∀ A ∈ C', A ∈ C) : St S w0 C' w :=
  ⟨h.keeps, fun A hA => h.holds A (hm A hA), hs, fun A hA => h.own A (hm A hA), fun A hA => h.seen A (hm A hA)⟩
theorem St.take {S : BS} {w0 w : World} {C C' : List Assn} (h : St S w0 C w) (hs : C'.Sublist C) : St S w0 C' w :=
  h.sub (h.sep.sublist hs) (fun _ hA => hs.subset hA)
theorem St.perm {S : BS} {w0 w : World} {C C' : List Assn} (h : St S w0 C w) (hs : C.Perm C') : St S w0 C' w :=
  h.sub (hs.pairwise h.sep (fun k => Sep.symm k)) (fun _ hA => hs.mem_iff.2 hA)
/-- what is new -/
structure New (w w' : World) (N : List Assn) : Prop where
  holds : ∀ A ∈ N, A.holds w'
  fresh : ∀ A ∈ N, ∀ b, A.foot b → w.heap.size ≤ b
  sep : N.Pairwise Sep
theorem New.nil (w w' : World) : New w w' [] := ⟨by simp, by simp, List.Pairwise.nil⟩
theorem St.grow {S : BS} {w0 w w' : World} {C N : List Assn} (h : St S w0 C w) (k : Keeps no w w') (n : New w w' N) : St S w0 (N ++ C) w' := by
  refine ⟨h.keeps.trans (k.mono (fun _ h => h.elim)), fun A hA => ?_, ?_, fun A hA b hb => ?_, fun A hA b hb => ?_⟩
  · rcases List.mem_append.1 hA with hA | hA
    · exact n.holds A hA
    · exact A.keep w w' (fun b hb => k.block b (A.lt w (h.holds A hA) b hb) (fun h => h)) (h.holds A hA)
  · rw [List.pairwise_append]
    refine ⟨n.sep, h.sep, fun A hA B hB b ha hb => ?_⟩
    have h1 := n.fresh A hA b ha
    have h2 := B.lt w (h.holds B hB) b hb
    omega
  · rcases List.mem_append.1 hA with hA | hA
    · exact .inl (Nat.le_trans h.keeps.size (n.fresh A hA b (A.wfoot b hb)))
    · exact h.own A hA b hb
  · rcases List.mem_append.1 hA with hA | hA
    · exact .inl (Nat.le_trans h.keeps.size (n.fresh A hA b hb))
    · exact h.seen A hA b hb
theorem St.same {S : BS} {w0 w w' : World} {C : List Assn} (h : St S w0 C w) (k : Keeps no w w') : St S w0 C w' := by
  simpa using h.grow k (New.nil w w')
structure Env where
  P : Program
  r : Option Nat
  n : Nat
  S : BS
  w0 : World
abbrev Post := Exit → Act → World → Prop
/-- code, from a frame and a state -/
def WJ (E : Env) (c : Code) (Q : Post) (D : List Deferred) (L : List (Nat × Value)) (C : List Assn) : Prop :=
  ∀ a w, Fr E.n D L a → St E.S E.w0 C w → c.wpIn (Fw E.r) 0 E.P Q a w
/-- a thing that is asked of what follows -/
def KJ (E : Env) (K : Act → World → Prop) (D : List Deferred) (L : List (Nat × Value)) (C : List Assn) : Prop :=
  ∀ a w, Fr E.n D L a → St E.S E.w0 C w → K a w
def wpL (r : Option Nat) (P : Program) (ops : Array Oper) (Q : Post) : List Oper → Act → World → Prop
  | [], a, w => Q .normal a w
  | o :: rest, a, w => if Region.wanted o (yielded ops a.tmps) then o.wpIn (Fw r) 0 P a w (wpL r P ops Q rest) Q else wpL r P ops Q rest (a.put o.dst undef) w
def RJ (E : Env) (ops : Array Oper) (Q : Post) (rest : List Oper) (D : List Deferred) (L : List (Nat × Value)) (C : List Assn) : Prop :=
  ∀ a w, Fr E.n D L a → St E.S E.w0 C w → wpL E.r E.P ops Q rest a w
theorem uponIn_mono {F : Fence} {n : Nat} {P : Program} {o : Oper} {a : Act} {N N' : Act → World → Prop} {Q Q' : Post} (hn : ∀ a w, N a w → N' a w) (hq : ∀ e a w, Q e a w → Q' e a w) :
    ∀ {res : Result Next}, o.uponIn F n P a N Q res → o.uponIn F n P a N' Q' res := by
  intro res h
  cases res with
  | halt x w => cases x <;> simp only [Oper.uponIn] at h ⊢ <;> first | exact hq _ _ _ h | exact h
  | ok x w =>
    cases x with
    | value v => exact hn _ _ h
    | skip => exact hn _ _ h
    | defer d => exact hn _ _ h
    | enter f args =>
      refine ⟨h.1, h.2.mono fun e w'' he => ?_⟩
      cases e with
      | returned v => exact hn _ _ he
      | panicked ch => exact hq _ _ _ he
      | outgrown => obtain ⟨a0, w0, h0⟩ := he; exact ⟨a0, w0, hq _ _ _ h0⟩
    | row x args => exact ⟨h.1, h.2.mono fun v w'' he => hn _ _ he⟩
    | round l f tmps asl bd =>
      refine ⟨h.1, h.2.mono fun e w'' he => ?_⟩
      cases e with
      | returned v => exact hn _ _ he
      | panicked ch => exact hq _ _ _ he
      | outgrown => obtain ⟨a0, w0, h0⟩ := he; exact ⟨a0, w0, hq _ _ _ h0⟩
    | _ => simp [Oper.uponIn] at h
theorem wpIn_op_mono {F : Fence} {n : Nat} {P : Program} {o : Oper} {a : Act} {w : World} {N N' : Act → World → Prop} {Q Q' : Post} (h : o.wpIn F n P a w N Q) (hn : ∀ a w, N a w → N' a w) (hq : ∀ e a w, Q e a w → Q' e a w) : o.wpIn F n P a w N' Q' :=
  ⟨h.1, uponIn_mono hn hq h.2⟩
theorem wpOpsIn_eq {r : Option Nat} {P : Program} {ops : Array Oper} {Q : Post} (l : List Oper) : ∀ (k : Nat) (a : Act) (w : World), (∀ j, l[j]? = ops[k + j]?) → wpL r P ops Q l a w → wpOpsIn (Fw r) 0 P ops Q (List.range' k l.length) a w := by
  induction l with
  | nil => intro k a w _ h; simpa [wpOpsIn, wpL] using h
  | cons o l ih =>
    intro k a w hl h
    have h0 : ops[k]? = some o := by simpa using (hl 0).symm
    have hl' : ∀ j, l[j]? = ops[k + 1 + j]? := fun j => by have := hl (j + 1); simpa [Nat.add_assoc, Nat.add_comm 1 j] using this
    simp only [List.length_cons, List.range'_succ, wpOpsIn, h0]
    simp only [wpL] at h
    split at h
    · rename_i hw
      rw [if_pos hw]
      exact wpIn_op_mono h (fun a w => ih _ a w hl') (fun _ _ _ h => h)
    · rename_i hw
      rw [if_neg hw]
      exact ⟨fun _ _ => trivial, ih _ _ _ hl' h⟩
theorem w_region {E : Env} {id : Nat} {ops : Array Oper} {Q : Post} {D : List Deferred} {L : List (Nat × Value)} {C : List Assn} (h : RJ E ops Q ops.toList D L C) : WJ E (.region id ops false) Q D L C := by
  intro a w hf hs
  refine wpIn_region ?_
  have := wpOpsIn_eq (r := E.r) (P := E.P) (Q := Q) ops.toList 0 a w (by simp) (h a w hf hs)
  rwa [List.range_eq_range', ← Array.length_toList]
theorem r_nil {E : Env} {ops : Array Oper} {Q : Post} {D : List Deferred} {L : List (Nat × Value)} {C : List Assn} (h : KJ E (Q .normal) D L C) : RJ E ops Q [] D L C := h
theorem w_seq {E : Env} {x y : Code} {Q : Post} {D : List Deferred} {L : List (Nat × Value)} {C : List Assn}
    (h : ∀ K : Act → World → Prop, (∀ D L C, WJ E y Q D L C → KJ E K D L C) → WJ E x (Exit.then K Q) D L C) : WJ E (.seq x y) Q D L C :=
  fun a w hf hs => wpIn_seq (h _ (fun _ _ _ hy a w hf hs => hy a w hf hs) a w hf hs)
theorem k_then {E : Env} {K : Act → World → Prop} {Q : Post} {D : List Deferred} {L : List (Nat × Value)} {C : List Assn} (h : KJ E K D L C) : KJ E (Exit.then K Q .normal) D L C := h
theorem k_block {E : Env} {id : Nat} {Q : Post} {D : List Deferred} {L : List (Nat × Value)} {C : List Assn} (h : KJ E (Q .normal) D L C) : KJ E (Exit.inBlock id Q .normal) D L C := h
theorem k_exit_then {E : Env} {id : Nat} {K : Act → World → Prop} {Q : Post} {D : List Deferred} {L : List (Nat × Value)} {C : List Assn} (h : KJ E (Q (.exit id)) D L C) : KJ E (Exit.then K Q (.exit id)) D L C := h
theorem k_exit_same {E : Env} {id : Nat} {Q : Post} {D : List Deferred} {L : List (Nat × Value)} {C : List Assn} (h : KJ E (Q .normal) D L C) : KJ E (Exit.inBlock id Q (.exit id)) D L C := fun a w hf hs => by
  simp only [Exit.inBlock, if_true]; exact h a w hf hs
theorem k_exit_other {E : Env} {id id' : Nat} {Q : Post} {D : List Deferred} {L : List (Nat × Value)} {C : List Assn} (hne : Nat.beq id' id = false) (h : KJ E (Q (.exit id')) D L C) : KJ E (Exit.inBlock id Q (.exit id')) D L C := fun a w hf hs => by
  have : id' ≠ id := fun e => by subst e; simp at hne
  simp only [Exit.inBlock, this, if_false]; exact h a w hf hs
theorem w_skip {E : Env} {Q : Post} {D : List Deferred} {L : List (Nat × Value)} {C : List Assn} (h : KJ E (Q .normal) D L C) : WJ E .skip Q D L C := fun a w hf hs => wpIn_skip (h a w hf hs)
theorem w_ret {E : Env} {Q : Post} {D : List Deferred} {L : List (Nat × Value)} {C : List Assn} (h : KJ E (Q .ret) D L C) : WJ E .ret Q D L C := fun a w hf hs => wpIn_ret (h a w hf hs)
theorem w_exit {E : Env} {id : Nat} {Q : Post} {D : List Deferred} {L : List (Nat × Value)} {C : List Assn} (h : KJ E (Q (.exit id)) D L C) : WJ E (.exit id) Q D L C := fun a w hf hs => wpIn_exit (h a w hf hs)
theorem w_block {E : Env} {id : Nat} {c : Code} {Q : Post} {D : List Deferred} {L : List (Nat × Value)} {C : List Assn} (h : WJ E c (Exit.inBlock id Q) D L C) : WJ E (.block id c) Q D L C := fun a w hf hs => wpIn_block (h a w hf hs)
theorem w_if {E : Env} {c : Operand} {x y : Code} {b : Bool} {Q : Post} {D : List Deferred} {L : List (Nat × Value)} {C : List Assn} (hc : ev L c = some (.bool b))
    (h1 : b = true → WJ E x Q D L C) (h2 : b = false → WJ E y Q D L C) : WJ E (.cond c x y) Q D L C := by
  intro a w hf hs
  refine wpIn_cond_split (hf.ev hc) (fun hb => h1 hb a w hf hs) (fun hb => h2 hb a w hf hs)
theorem w_if_true {E : Env} {c : Operand} {x y : Code} {Q : Post} {D : List Deferred} {L : List (Nat × Value)} {C : List Assn} (hc : ev L c = some (.bool true)) (h1 : WJ E x Q D L C) : WJ E (.cond c x y) Q D L C :=
  w_if hc (fun _ => h1) (fun h => by cases h)
theorem w_if_false {E : Env} {c : Operand} {x y : Code} {Q : Post} {D : List Deferred} {L : List (Nat × Value)} {C : List Assn} (hc : ev L c = some (.bool false)) (h1 : WJ E y Q D L C) : WJ E (.cond c x y) Q D L C :=
  w_if hc (fun h => by cases h) (fun _ => h1)
theorem k_sub {E : Env} {K : Act → World → Prop} {D : List Deferred} {L L' : List (Nat × Value)} {C C' : List Assn} (hL : Sub L L') (hC : ∀ w, St E.S E.w0 C w → St E.S E.w0 C' w) (h : KJ E K D L' C') : KJ E K D L C :=
  fun a w hf hs => h a w (hf.sub hL) (hC w hs)
/-- A loop: a relation over a ghost of whatever type, a measure on it. -/
theorem w_loop {E : Env} {c : Code} {Q : Post} {D : List Deferred} {L : List (Nat × Value)} {C : List Assn} {ι : Type} (Li : ι → List (Nat × Value)) (Ci : ι → List Assn) (μ : ι → Nat) (x0 : ι)
    (h0 : Sub L (Li x0)) (hC : ∀ w, St E.S E.w0 C w → St E.S E.w0 (Ci x0) w)
    (round : ∀ x (J : Act → World → Prop), (∀ y D' L' C', D' = D → μ y < μ x → Sub L' (Li y) → (∀ w, St E.S E.w0 C' w → St E.S E.w0 (Ci y) w) → KJ E J D' L' C') → WJ E c (Exit.then J Q) D (Li x) (Ci x)) : WJ E (.loop c) Q D L C := by
  intro a w hf hs
  have hst : ∃ x, Fr E.n D (Li x) a ∧ St E.S E.w0 (Ci x) w := ⟨x0, hf.sub h0, hC w hs⟩
  clear hf hs
  have key : ∀ (m : Nat) (a : Act) (w : World), (∃ x, μ x = m ∧ Fr E.n D (Li x) a ∧ St E.S E.w0 (Ci x) w) → (Code.loop c).wpIn (Fw E.r) 0 E.P Q a w := by
    intro m a w hx
    refine wpIn_loop (fun a w => ∃ x, Fr E.n D (Li x) a ∧ St E.S E.w0 (Ci x) w) (fun a w => leastOf fun k => ∃ x, μ x = k ∧ Fr E.n D (Li x) a ∧ St E.S E.w0 (Ci x) w) (by obtain ⟨x, _, h⟩ := hx; exact ⟨x, h⟩) ?_
    intro a w hx
    have hex : ∃ k, ∃ x, μ x = k ∧ Fr E.n D (Li x) a ∧ St E.S E.w0 (Ci x) w := by obtain ⟨x, h⟩ := hx; exact ⟨_, x, rfl, h⟩
    obtain ⟨x, hxm, hxf, hxs⟩ := (leastOf_spec hex).1
    refine round x _ ?_ a w hxf hxs
    intro y D' L' C' hD hlt hsub hcc a' w' hf' hs'
    subst hD
    refine ⟨⟨y, hf'.sub hsub, hcc _ hs'⟩, ?_⟩
    rw [← hxm]
    exact Nat.lt_of_le_of_lt ((leastOf_spec ⟨_, y, rfl, hf'.sub hsub, hcc _ hs'⟩).2 _ ⟨y, rfl, hf'.sub hsub, hcc _ hs'⟩) hlt
  obtain ⟨x, h⟩ := hst
  exact key _ a w ⟨x, rfl, h⟩
end
section
open Go.RowKit
set_option linter.unusedVariables false
/-- An operation that yields v, whatever else holds; the state stays. -/
def SD (E : Env) (ops : Array Oper) (o : Oper) (D : List Deferred) (L : List (Nat × Value)) (C : List Assn) (v : Value) : Prop :=
  ∀ a w, Fr E.n D L a → St E.S E.w0 C w →
    (Region.wanted o (yielded ops a.tmps) = true ∧ o.wpIn (Fw E.r) 0 E.P a w (fun a' w' => a' = a.put o.dst v ∧ Keeps no w w') (fun _ _ _ => False)) ∨
    (Region.wanted o (yielded ops a.tmps) = false ∧ v = undef)
/-- in the text's order -/
theorem r_sd {E : Env} {ops : Array Oper} {Q : Post} {o : Oper} {rest : List Oper} {D : List Deferred} {L : List (Nat × Value)} {C : List Assn} {v : Value} {d : Nat}
    (h : SD E ops o D L C v) (ho : o.dst = some d) (hd : Nat.blt d E.n = true) (k : RJ E ops Q rest D ((d, v) :: L) C) : RJ E ops Q (o :: rest) D L C := by
  intro a w hf hs
  have hd' : d < E.n := by rw [← Nat.blt_eq]; exact hd
  unfold wpL
  rcases h a w hf hs with ⟨hw, hh⟩ | ⟨hw, rfl⟩
  · rw [if_pos hw]
    refine wpIn_op_mono hh (fun a' w' ⟨ha, hs'⟩ => ?_) (fun _ _ _ hF => hF.elim)
    subst ha
    rw [ho]
    exact k _ _ (hf.put hd' v) (hs.same hs')
  · rw [if_neg (by simp [hw]), ho]
    exact k _ _ (hf.put hd' _) hs
/-- the operations in the text's order, each with what it yields -/
def DJ (E : Env) (ops : Array Oper) (D : List Deferred) (C : List Assn) (F : List (Nat × Value) → Prop) : List Oper → List (Nat × Value) → Prop
  | [], L => F L
  | o :: rest, L => ∃ d v, o.dst = some d ∧ d < E.n ∧ SD E ops o D L C v ∧ DJ E ops D C F rest ((d, v) :: L)
theorem d_sd {E : Env} {ops : Array Oper} {F : List (Nat × Value) → Prop} {o : Oper} {rest : List Oper} {D : List Deferred} {L : List (Nat × Value)} {C : List Assn} {v : Value} {d : Nat}
    (h : SD E ops o D L C v) (ho : o.dst = some d) (hd : Nat.blt d E.n = true) (k : DJ E ops D C F rest ((d, v) :: L)) : DJ E ops D C F (o :: rest) L :=
  ⟨d, v, ho, by rw [← Nat.blt_eq]; exact hd, h, k⟩
/-- a set of numbers that is closed downwards -/
def Deps (ops : Array Oper) (S : Nat → Prop) (j : Nat) : Prop := ∀ o e, ops[j]? = some o → e ∈ o.after → Region.binds .any e = true → S e.on
/-- who stands before an operation, by the edges: a set of numbers as the bits of one -/
def mskOf (o : Oper) (acc : Array Nat) : Nat := o.after.toList.foldl (fun s e => if Region.binds .any e then s ||| (2 ^ e.on ||| acc.getD e.on 0) else s) 0
def mskL : List Oper → Array Nat → Array Nat
  | [], acc => acc
  | o :: os, acc => mskL os (acc.push (mskOf o acc))
def msk (ops : Array Oper) : Array Nat := mskL ops.toList #[]
def ancB (m : Array Nat) (j i : Nat) : Bool := (m.getD i 0).testBit j
theorem msk_fold (acc : Array Nat) (j : Nat) : ∀ (es : List Edge) (s : Nat), (es.foldl (fun s e => if Region.binds .any e then s ||| (2 ^ e.on ||| acc.getD e.on 0) else s) s).testBit j = true →
    s.testBit j = true ∨ ∃ e ∈ es, Region.binds .any e = true ∧ (e.on = j ∨ (acc.getD e.on 0).testBit j = true) := by
  intro es
  induction es with
  | nil => intro s h; exact .inl h
  | cons e es ih =>
    intro s h
    simp only [List.foldl_cons] at h
    rcases ih _ h with h1 | ⟨e', he', hb, hc⟩
    · by_cases hb : Region.binds .any e = true
      · rw [if_pos hb] at h1
        simp only [Nat.testBit_or, Bool.or_eq_true] at h1
        rcases h1 with h1 | h1 | h1
        · exact .inl h1
        · refine .inr ⟨e, by simp, hb, .inl ?_⟩
          rw [Nat.testBit_two_pow] at h1
          exact of_decide_eq_true h1
        · exact .inr ⟨e, by simp, hb, .inr h1⟩
      · rw [if_neg hb] at h1; exact .inl h1
    · exact .inr ⟨e', by simp [he'], hb, hc⟩
theorem mskL_closed {ops : Array Oper} {S : Nat → Prop} (hS : ∀ j, S j → Deps ops S j) : ∀ (os : List Oper) (acc : Array Nat), (∀ k, os[k]? = ops[acc.size + k]?) →
    (∀ i j, (acc.getD i 0).testBit j = true → Deps ops S i → S j) → ∀ i j, ((mskL os acc).getD i 0).testBit j = true → Deps ops S i → S j := by
  intro os
  induction os with
  | nil => intro acc _ h; exact h
  | cons o os ih =>
    intro acc hk h
    refine ih _ (fun k => by have := hk (k + 1); simp only [Array.size_push]; rw [show acc.size + 1 + k = acc.size + (k + 1) from by omega]; simpa using this) ?_
    intro i j hb hd
    have h0 : ops[acc.size]? = some o := by simpa using (hk 0).symm
    simp only [Array.getD_eq_getD_getElem?, Array.getElem?_push] at hb
    by_cases e : i = acc.size
    · subst e
      simp only [if_true, Option.getD_some] at hb
      rcases msk_fold acc j _ _ hb with h1 | ⟨e, he, hbind, h1⟩
      · simp at h1
      · have hSe : S e.on := hd o e h0 (by simpa using he) hbind
        rcases h1 with h1 | h1
        · exact h1 ▸ hSe
        · exact h _ _ h1 (hS _ hSe)
    · rw [if_neg e] at hb
      exact h i j (by rw [Array.getD_eq_getD_getElem?]; exact hb) hd
theorem ancB_closed {ops : Array Oper} {S : Nat → Prop} (hS : ∀ j, S j → Deps ops S j) {i j : Nat} (h : ancB (msk ops) j i = true) (hd : Deps ops S i) : S j :=
  mskL_closed hS ops.toList #[] (by simp) (fun i j hb => by simp at hb) i j h hd
/-- what is asked of a region's first n operations: each writes a slot of its own; whoever writes a slot that another looks at stands before it or behind it by the edges; the rest waits for all that stands before it -/
def chkM (m : Array Nat) (ops : Array Oper) (n : Nat) : Bool :=
  Nat.ble n ops.size &&
  ((List.range ops.size).all fun i => match ops[i]? with
    | none => false
    | some o => o.after.toList.all fun e => !Region.binds .any e || Nat.blt e.on i) &&
  ((List.range n).all fun i => match ops[i]? with
    | none => false
    | some o => o.dst.isSome && !(match o.op with | .select .. => true | .defer _ => true | _ => false) &&
      (List.range n).all fun j => j == i || match ops[j]? with
        | none => false
        | some p => match p.dst with
          | none => false
          | some d => o.dst != some d && (!(o.looksAt ops).contains d || (if j < i then ancB m j i else ancB m i j))) &&
  ((List.range' n (ops.size - n)).all fun i => (List.range i).all fun j => ancB m j i)
def chk (ops : Array Oper) (n : Nat) : Bool := chkM (msk ops) ops n
structure Chk (ops : Array Oper) (n : Nat) : Prop where
  le : n ≤ ops.size
  edge : ∀ i o e, ops[i]? = some o → e ∈ o.after → Region.binds .any e = true → e.on < i
  plain : ∀ i o, i < n → ops[i]? = some o → (∀ cs b, o.op ≠ .select cs b) ∧ (∀ c, o.op ≠ .defer c)
  apart : ∀ i j o p d, i < n → j < n → j ≠ i → ops[i]? = some o → ops[j]? = some p → p.dst = some d → o.dst ≠ some d ∧ (d ∈ o.looksAt ops → (j < i ∧ ancB (msk ops) j i = true) ∨ (i < j ∧ ancB (msk ops) i j = true))
  tail : ∀ i j, n ≤ i → i < ops.size → j < i → ancB (msk ops) j i = true
theorem Chk.of {ops : Array Oper} {n : Nat} (h : chk ops n = true) : Chk ops n := by
  simp only [chk, chkM, Bool.and_eq_true] at h
  obtain ⟨⟨⟨h1, h2⟩, h3⟩, h4⟩ := h
  have hle : n ≤ ops.size := Nat.le_of_ble_eq_true h1
  rw [List.all_eq_true] at h2 h3 h4
  refine ⟨hle, ?_, ?_, ?_, ?_⟩
  · intro i o e ho he hb
    have hi : i < ops.size := (Array.getElem?_eq_some_iff.1 ho).1
    have := h2 i (by simpa using hi)
    simp only [ho] at this
    rw [List.all_eq_true] at this
    have := this e (by simpa using he)
    rw [hb] at this
    simpa using this
  · intro i o hi ho
    have := h3 i (by simpa using hi)
    simp only [ho, Bool.and_eq_true] at this
    refine ⟨fun cs b hh => ?_, fun c hh => ?_⟩ <;> simp [hh] at this
  · intro i j o p d hi hj hne ho hp hd
    have := h3 i (by simpa using hi)
    simp only [ho, Bool.and_eq_true] at this
    have := this.2
    rw [List.all_eq_true] at this
    have := this j (by simpa using hj)
    simp only [hp, hd, Bool.or_eq_true, Bool.and_eq_true, beq_iff_eq, bne_iff_ne, ne_eq] at this
    rcases this with h | ⟨h5, h6⟩
    · exact absurd h hne
    · refine ⟨h5, fun hm => ?_⟩
      rcases h6 with h6 | h6
      · simp [hm] at h6
      · by_cases hlt : j < i
        · rw [if_pos hlt] at h6; exact .inl ⟨hlt, h6⟩
        · rw [if_neg hlt] at h6; exact .inr ⟨by omega, h6⟩
  · intro i j h5 h6 h7
    have := h4 i (by rw [List.mem_range'_1]; omega)
    rw [List.all_eq_true] at this
    exact this j (by simpa using h7)
/-- the frame, the activation behind the first i operations -/
def lat : List Oper → List Value → Nat → List (Nat × Value) → List (Nat × Value)
  | o :: os, v :: vs, i + 1, L => lat os vs i (match o.dst with | some d => (d, v) :: L | none => L)
  | _, _, _, L => L
def actAt : List Oper → List Value → Nat → Act → Act
  | o :: os, v :: vs, i + 1, a => actAt os vs i (a.put o.dst v)
  | _, _, _, a => a
theorem DJ.out {E : Env} {ops : Array Oper} {D : List Deferred} {C : List Assn} {F : List (Nat × Value) → Prop} : ∀ (os : List Oper) (L : List (Nat × Value)), DJ E ops D C F os L →
    ∃ vs : List Value, vs.length = os.length ∧ F (lat os vs os.length L) ∧ ∀ i o, os[i]? = some o → ∃ d v, o.dst = some d ∧ d < E.n ∧ vs[i]? = some v ∧ SD E ops o D (lat os vs i L) C v := by
  intro os
  induction os with
  | nil => intro L h; exact ⟨[], rfl, h, fun i o ho => by simp at ho⟩
  | cons o os ih =>
    intro L h
    obtain ⟨d, v, ho, hd, hsd, hk⟩ := h
    obtain ⟨vs, hl, hF, hall⟩ := ih _ hk
    refine ⟨v :: vs, by simp [hl], by simpa [lat, ho] using hF, fun i o' ho' => ?_⟩
    cases i with
    | zero => simp at ho'; subst ho'; exact ⟨d, v, ho, hd, by simp, by simpa [lat] using hsd⟩
    | succ i =>
      obtain ⟨d', v', h1, h2, h3, h4⟩ := hall i o' (by simpa using ho')
      exact ⟨d', v', h1, h2, by simpa using h3, by simpa [lat, ho] using h4⟩
theorem actAt_fr {n : Nat} {D : List Deferred} : ∀ (os : List Oper) (vs : List Value) (i : Nat) (L : List (Nat × Value)) (a : Act), (∀ (j : Nat) (o : Oper) (d : Nat), os[j]? = some o → o.dst = some d → d < n) → Fr n D L a → Fr n D (lat os vs i L) (actAt os vs i a) := by
  intro os
  induction os with
  | nil => intro vs i L a _ h; simpa [lat, actAt] using h
  | cons o os ih =>
    intro vs i L a hd h
    cases vs with
    | nil => simpa [lat, actAt] using h
    | cons v vs =>
      cases i with
      | zero => simpa [lat, actAt] using h
      | succ i =>
        simp only [lat, actAt]
        refine ih vs i _ _ (fun j o' d ho' hd' => hd (j + 1) o' d (by simpa using ho') hd') ?_
        cases ho : o.dst with
        | none => exact h
        | some d => exact h.put (hd 0 o d (by simp) ho) v
theorem actAt_other : ∀ (os : List Oper) (vs : List Value) (i : Nat) (a : Act) (t : Nat), (∀ (j : Nat) (o : Oper), j < i → os[j]? = some o → o.dst ≠ some t) → (actAt os vs i a).tmps[t]? = a.tmps[t]? := by
  intro os
  induction os with
  | nil => intro vs i a t _; simp [actAt]
  | cons o os ih =>
    intro vs i a t h
    cases vs with
    | nil => simp [actAt]
    | cons v vs =>
      cases i with
      | zero => simp [actAt]
      | succ i =>
        simp only [actAt]
        rw [ih vs i _ t (fun j o' hj ho' => h (j + 1) o' (by omega) (by simpa using ho'))]
        have h0 := h 0 o (by omega) (by simp)
        cases ho : o.dst with
        | none => rfl
        | some d => simp only [Act.put]; rw [Array.getElem?_setIfInBounds_ne (fun e => h0 (by rw [ho, e]))]
theorem actAt_at : ∀ (os : List Oper) (vs : List Value) (i : Nat) (a : Act) (k : Nat) (p : Oper) (d : Nat) (v : Value), k < i → os[k]? = some p → p.dst = some d → d < a.tmps.size → vs[k]? = some v →
    (∀ (j : Nat) (o : Oper), j < i → j ≠ k → os[j]? = some o → o.dst ≠ some d) → (actAt os vs i a).tmps[d]? = some v := by
  intro os
  induction os with
  | nil => intro vs i a k p d v _ hp; simp at hp
  | cons o os ih =>
    intro vs i a k p d v hk hp hpd hd hv h
    cases vs with
    | nil => simp at hv
    | cons u vs =>
      cases i with
      | zero => omega
      | succ i =>
        simp only [actAt]
        cases k with
        | zero =>
          simp at hp hv
          subst hp hv
          rw [actAt_other os vs i _ d (fun j o' hj ho' => h (j + 1) o' (by omega) (by omega) (by simpa using ho')), hpd]
          simp only [Act.put]
          rw [Array.getElem?_setIfInBounds_self_of_lt hd]
        | succ k =>
          refine ih vs i _ k p d v (by omega) (by simpa using hp) hpd ?_ (by simpa using hv) (fun j o' hj hne ho' => h (j + 1) o' (by omega) (by omega) (by simpa using ho'))
          cases o.dst <;> simp [Act.put, hd]
theorem eval_of_slot {a a' : Act} {t : Nat} (h : a.tmps[t]? = a'.tmps[t]?) : a.eval (.tmp t) = a'.eval (.tmp t) := by simp [Act.eval, h]
theorem eval_congr {ops : Array Oper} {o : Oper} {a a' : Act} (h : ∀ t ∈ o.looksAt ops, a.tmps[t]? = a'.tmps[t]?) : ∀ x ∈ o.op.operands, a.eval x = a'.eval x := by
  intro x hx
  cases x with
  | tmp t => exact eval_of_slot (h t (List.mem_append_left _ (List.mem_filterMap.2 ⟨.tmp t, by simpa using hx, rfl⟩)))
  | _ => rfl
theorem wanted_congr {ops : Array Oper} {o : Oper} {a a' : Act} (h : ∀ t ∈ o.looksAt ops, a.tmps[t]? = a'.tmps[t]?) : Region.wanted o (yielded ops a.tmps) = Region.wanted o (yielded ops a'.tmps) := by
  unfold Region.wanted
  cases hg : o.guard with
  | none => rfl
  | some gw =>
    obtain ⟨g, want⟩ := gw
    have hy : yielded ops a.tmps g = yielded ops a'.tmps g := by
      unfold yielded
      cases ht : (ops[g]?).bind (·.dst) with
      | none => rfl
      | some t => simp only [Option.bind_some]; rw [h t (List.mem_append_right _ (by simp [hg, ht]))]
    simp only [hy]
/-- what an operation does hangs on the slots that it looks at alone -/
theorem sd_swapk {E : Env} {ops : Array Oper} {o : Oper} {D : List Deferred} {L : List (Nat × Value)} {C : List Assn} {v : Value} {d : Nat} (h : SD E ops o D L C v) (ho : o.dst = some d) (hd : d < E.n)
    (hsel : ∀ cs b, o.op ≠ .select cs b) (hdef : ∀ c, o.op ≠ .defer c) {a a' : Act} (hf : Fr E.n D L a') (hl : ∀ t ∈ o.looksAt ops, a.tmps[t]? = a'.tmps[t]?) {w : World} (hs : St E.S E.w0 C w)
    {N : Act → World → Prop} {Q : Post} (hn : ∀ w', Keeps no w w' → N (a.put (some d) v) w') :
    if Region.wanted o (yielded ops a.tmps) then o.wpIn (Fw E.r) 0 E.P a w N Q else (∀ f, o.about E.P w a.eval = some f → (Fw E.r).fn f) ∧ N (a.put o.dst undef) w := by
  rw [wanted_congr hl]
  rcases h a' w hf hs with ⟨hw, hh⟩ | ⟨hw, rfl⟩
  · rw [if_pos hw]
    refine ⟨fun _ _ => trivial, ?_⟩
    have h2 := hh.2
    rw [Oper.semAt_eq _ _ _ hdef] at h2 ⊢
    rw [execOp_congr (ρ := a.eval) (ρ' := a'.eval) o hsel (eval_congr hl)]
    have hval : ∀ u, a'.put o.dst u = a'.put o.dst v → u = v := by
      intro u hu
      rw [ho] at hu
      have := congrArg (fun b : Act => b.tmps[d]?) hu
      simp only [Act.put] at this
      rw [Array.getElem?_setIfInBounds_self_of_lt (by rw [hf.size]; exact hd), Array.getElem?_setIfInBounds_self_of_lt (by rw [hf.size]; exact hd)] at this
      injection this
    have hgo : ∀ u w', (a'.put o.dst u = a'.put o.dst v ∧ Keeps no w w') → N (a.put o.dst u) w' := by
      rintro u w' ⟨hu, hs'⟩
      rw [hval u hu, ho]
      exact hn w' hs'
    generalize (execOp a'.eval o).run E.P w = res at h2
    cases res with
    | halt x w' => cases x <;> simp [Oper.uponIn] at h2
    | ok x w' =>
      cases x with
      | value u => exact hgo u w' h2
      | skip => exact hgo _ w' h2
      | defer dd =>
        have h3 : ({ a' with defers := dd :: a'.defers } : Act).put o.dst undef = a'.put o.dst v := h2.1
        rw [ho] at h3
        have := congrArg (fun b : Act => b.defers.length) h3
        simp [Act.put] at this
      | enter f args =>
        refine ⟨h2.1, h2.2.mono fun e w'' he => ?_⟩
        cases e with
        | returned u => exact hgo u w'' he
        | panicked ch => exact he.elim
        | outgrown => obtain ⟨_, _, hF⟩ := he; exact hF.elim
      | row x args => exact ⟨h2.1, h2.2.mono fun u w'' he => hgo u w'' he⟩
      | round l f tmps asl bd =>
        refine ⟨h2.1, h2.2.mono fun e w'' he => ?_⟩
        cases e with
        | returned u => exact hgo u w'' he
        | panicked ch => exact he.elim
        | outgrown => obtain ⟨_, _, hF⟩ := he; exact hF.elim
      | _ => simp [Oper.uponIn] at h2
  · rw [if_neg (by simp [hw])]
    refine ⟨fun _ _ => trivial, ?_⟩
    rw [ho]
    exact hn w (Keeps.refl _ _)
theorem sd_swap {E : Env} {ops : Array Oper} {o : Oper} {D : List Deferred} {L : List (Nat × Value)} {C : List Assn} {v : Value} {d : Nat} (h : SD E ops o D L C v) (ho : o.dst = some d) (hd : d < E.n)
    (hsel : ∀ cs b, o.op ≠ .select cs b) (hdef : ∀ c, o.op ≠ .defer c) {a a' : Act} (hf : Fr E.n D L a') (hl : ∀ t ∈ o.looksAt ops, a.tmps[t]? = a'.tmps[t]?) {w : World} (hs : St E.S E.w0 C w)
    {N : Act → World → Prop} {Q : Post} (hn : ∀ w', St E.S E.w0 C w' → N (a.put (some d) v) w') :
    if Region.wanted o (yielded ops a.tmps) then o.wpIn (Fw E.r) 0 E.P a w N Q else (∀ f, o.about E.P w a.eval = some f → (Fw E.r).fn f) ∧ N (a.put o.dst undef) w :=
  sd_swapk h ho hd hsel hdef hf hl hs (fun w' hk => hn w' (hs.same hk))
def unl (n : Nat) (listed : Array Bool) : List Nat := (List.range n).filter fun i => !listed.getD i false
theorem mem_unl {n : Nat} {listed : Array Bool} {i : Nat} : i ∈ unl n listed ↔ i < n ∧ listed.getD i false = false := by simp [unl]
theorem getD_set {listed : Array Bool} {i j : Nat} (hi : i < listed.size) (d : Bool) : (listed.setIfInBounds i true).getD j d = if j = i then true else listed.getD j d := by
  simp only [Array.getD_eq_getD_getElem?]
  by_cases e : j = i
  · subst e; rw [Array.getElem?_setIfInBounds_self_of_lt hi]; simp
  · rw [Array.getElem?_setIfInBounds_ne (fun h => e h.symm)]; simp [e]
theorem unl_set {n : Nat} {listed : Array Bool} {i : Nat} (hi : i < listed.size) : unl n (listed.setIfInBounds i true) = (unl n listed).filter (fun j => j != i) := by
  unfold unl
  rw [List.filter_filter]
  refine List.filter_congr fun j _ => ?_
  rw [getD_set hi]
  by_cases e : j = i <;> simp [e]
theorem unl_lt {n : Nat} {listed : Array Bool} {i : Nat} (hi : i < listed.size) (hm : i ∈ unl n listed) : (unl n (listed.setIfInBounds i true)).length < (unl n listed).length := by
  rw [unl_set hi]
  exact List.length_filter_lt_length_iff_exists.2 ⟨i, hm, by simp⟩
section
variable {ops : Array Oper} {listed : Array Bool}
theorem ready_of {i : Nat} (hs : listed.size = ops.size) (hi : i < ops.size) (hu : listed.getD i false = false) (hd : Deps ops (fun k => listed.getD k false = true) i) : i ∈ Region.ready .any ops listed := by
  rw [mem_ready]
  obtain ⟨o, ho⟩ : ∃ o, ops[i]? = some o := ⟨ops[i], Array.getElem?_eq_getElem hi⟩
  refine ⟨?_, o, ho, ?_⟩
  · rw [Array.getD_eq_getD_getElem?] at hu ⊢
    rw [Array.getElem?_eq_getElem (by omega)] at hu ⊢
    exact hu
  · intro e he hb
    exact hd o e ho he hb
theorem of_ready {i : Nat} (hs : listed.size = ops.size) (h : i ∈ Region.ready .any ops listed) : i < ops.size ∧ listed.getD i false = false ∧ Deps ops (fun k => listed.getD k false = true) i := by
  obtain ⟨hu, o, ho, hall⟩ := mem_ready.1 h
  have hi : i < ops.size := (Array.getElem?_eq_some_iff.1 ho).1
  refine ⟨hi, ?_, fun o' e ho' he hb => ?_⟩
  · rw [Array.getD_eq_getD_getElem?] at hu ⊢
    rw [Array.getElem?_eq_getElem (by omega)] at hu ⊢
    exact hu
  · rw [ho] at ho'; cases ho'
    exact hall e he hb
end
section
variable {r : Option Nat} {P : Program} {ops : Array Oper} {Q : Post} {n : Nat}
theorem any_tail (hc : Chk ops n) : ∀ (fuel : Nat) (listed : Array Bool) (a : Act) (w : World) (m : Nat), listed.size = ops.size → n ≤ m → (∀ i, i < ops.size → (listed.getD i false = true ↔ i < m)) → (unl ops.size listed).length ≤ fuel →
    wpL r P ops Q (ops.toList.drop m) a w → wpAnyIn (Fw r) 0 P .any ops Q fuel listed a w := by
  intro fuel
  induction fuel with
  | zero =>
    intro listed a w m hsz hnm hm hf h
    have hall : ∀ i, i < ops.size → listed.getD i false = true := fun i hi => by
      cases hg : listed.getD i false with
      | true => rfl
      | false =>
        have : i ∈ unl ops.size listed := mem_unl.2 ⟨hi, hg⟩
        have := List.length_pos_of_mem this
        omega
    have hmz : ops.size ≤ m := by
      rcases Nat.lt_or_ge m ops.size with hlt | hge
      · have := (hm m hlt).1 (hall m hlt); omega
      · exact hge
    refine ⟨?_, ?_⟩
    · rw [List.eq_nil_iff_forall_not_mem]
      intro i hi
      obtain ⟨h1, h2, _⟩ := of_ready hsz hi
      rw [hall i h1] at h2; cases h2
    · rw [List.drop_eq_nil_of_le (by simpa using hmz)] at h
      exact h
  | succ fuel ih =>
    intro listed a w m hsz hnm hm hf h
    have hcl : ∀ j, j < ops.size → listed.getD j false = true → Deps ops (fun k => listed.getD k false = true) j := fun j hj hl o e ho he hb => by
      have h1 := hc.edge j o e ho he hb
      have h2 := (hm j hj).1 hl
      exact (hm e.on (by omega)).2 (by omega)
    rcases Nat.lt_or_ge m ops.size with hlt | hge
    · obtain ⟨o, ho⟩ : ∃ o, ops[m]? = some o := ⟨ops[m], Array.getElem?_eq_getElem hlt⟩
      have hmr : m ∈ Region.ready .any ops listed := ready_of hsz hlt (by
        cases hg : listed.getD m false with
        | false => rfl
        | true => have := (hm m hlt).1 hg; omega) (fun o' e ho' he hb => (hm e.on (by have := hc.edge m o' e ho' he hb; omega)).2 (hc.edge m o' e ho' he hb))
      refine ⟨fun hnil => absurd hmr (by rw [hnil]; simp), fun i hi => ?_⟩
      obtain ⟨hi1, hi2, hi3⟩ := of_ready hsz hi
      have him : i = m := by
        have h1 : m ≤ i := by
          rcases Nat.lt_or_ge i m with hlt' | hge'
          · have := (hm i hi1).2 hlt'; rw [this] at hi2; cases hi2
          · exact hge'
        rcases Nat.lt_or_ge m i with h2 | h2
        · have hanc := hc.tail i m (by omega) hi1 h2
          have hS : listed.getD m false = true := ancB_closed (S := fun k => listed.getD k false = true) (fun j hj => by
            rcases Nat.lt_or_ge j ops.size with hj' | hj'
            · exact hcl j hj' hj
            · intro o' e ho'; rw [Array.getElem?_eq_none hj'] at ho'; cases ho') hanc hi3
          have := (hm m hlt).1 hS; omega
        · omega
      subst him
      have hdrop : ops.toList.drop i = o :: ops.toList.drop (i + 1) := by
        rw [List.drop_eq_getElem_cons (by simpa using hlt)]
        congr 1
        have := (Array.getElem?_eq_some_iff.1 ho).2
        simpa using this
      rw [hdrop] at h
      simp only [wpL] at h
      unfold wpOpIn
      simp only [ho]
      have hnext : ∀ a' w', wpL r P ops Q (ops.toList.drop (i + 1)) a' w' → wpAnyIn (Fw r) 0 P .any ops Q fuel (listed.setIfInBounds i true) a' w' := fun a' w' h' => by
        refine ih _ a' w' (i + 1) (by simpa using hsz) (by omega) (fun k hk => ?_) ?_ h'
        · rw [getD_set (by omega)]
          by_cases e : k = i
          · subst e; simp
          · simp only [e, if_false]; rw [hm k hk]; omega
        · have := unl_lt (n := ops.size) (by omega) (mem_unl.2 ⟨hi1, hi2⟩)
          omega
      split at h
      · rename_i hw
        rw [if_pos hw]
        exact wpIn_op_mono h hnext (fun _ _ _ h => h)
      · rename_i hw
        rw [if_neg hw]
        exact ⟨fun _ _ => trivial, hnext _ _ h⟩
    · refine ⟨fun _ => ?_, fun i hi => ?_⟩
      · rw [List.drop_eq_nil_of_le (by simpa using hge)] at h; exact h
      · obtain ⟨hi1, hi2, _⟩ := of_ready hsz hi
        have := (hm i hi1).2 (by omega)
        rw [this] at hi2; cases hi2
end
/-- A REGION WHOSE ORDER IS OPEN: its first n operations yield, each by itself, what they yield in the text's order; what stands behind waits for them. -/
theorem w_draw {E : Env} {id : Nat} {ops : Array Oper} {Q : Post} {D : List Deferred} {L : List (Nat × Value)} {C : List Assn} (hm : E.P.follows .mixedOrders = true) (n : Nat) (hc : chk ops n = true)
    (h : DJ E ops D C (fun L' => RJ E ops Q (ops.toList.drop n) D L' C) (ops.toList.take n) L) : WJ E (.region id ops true) Q D L C := by
  have hc := Chk.of hc
  intro a0 w0 hf0 hs0
  refine wpIn_region_any hm ?_
  have hs1 : St E.S E.w0 C ({ w0 with drawn := w0.drawn + 1 } : World) := hs0.same (Keeps.drew no w0)
  obtain ⟨vs, hvl, hF, hall⟩ := h.out
  have hlen : (ops.toList.take n).length = n := by rw [List.length_take]; have := hc.le; simp; omega
  have hop : ∀ i o, (ops.toList.take n)[i]? = some o ↔ (i < n ∧ ops[i]? = some o) := fun i o => by
    rw [List.getElem?_take]
    by_cases hi : i < n <;> simp [hi]
  have hdlt : ∀ (j : Nat) (o : Oper) (d : Nat), (ops.toList.take n)[j]? = some o → o.dst = some d → d < E.n := fun j o d ho hd => by
    obtain ⟨d', v, h1, h2, _⟩ := hall j o ho
    rw [h1] at hd; cases hd; exact h2
  -- the state of a partial order
  have key : ∀ (fuel : Nat) (listed : Array Bool) (a : Act) (w : World), listed.size = ops.size → (unl ops.size listed).length ≤ fuel → (∀ j, listed.getD j false = true → Deps ops (fun k => listed.getD k false = true) j) →
      (∀ j, n ≤ j → listed.getD j false = false) → a.defers = D → a.tmps.size = E.n → St E.S E.w0 C w →
      (∀ t, (∀ j o, j < n → ops[j]? = some o → listed.getD j false = true → o.dst ≠ some t) → a.tmps[t]? = a0.tmps[t]?) →
      (∀ j o d, j < n → ops[j]? = some o → listed.getD j false = true → o.dst = some d → a.tmps[d]? = vs[j]?) →
      wpAnyIn (Fw E.r) 0 E.P .any ops Q fuel listed a w := by
    intro fuel
    induction fuel with
    | zero =>
      intro listed a w hsz hu hcl hlow hd hz hs ht1 ht2
      have hall' : ∀ i, i < ops.size → listed.getD i false = true := fun i hi => by
        cases hg : listed.getD i false with
        | true => rfl
        | false =>
          have := List.length_pos_of_mem (mem_unl.2 ⟨hi, hg⟩)
          omega
      have hn : n = ops.size := by
        rcases Nat.lt_or_ge n ops.size with hlt | hge
        · have h1 := hall' n hlt; have h2 := hlow n (Nat.le_refl _); rw [h1] at h2; cases h2
        · exact Nat.le_antisymm hc.le hge
      have hact : Fr E.n D (lat (ops.toList.take n) vs (ops.toList.take n).length L) a := by
        have h1 := actAt_fr (ops.toList.take n) vs (ops.toList.take n).length L a0 hdlt hf0
        refine ⟨hd, hz, fun t v hv => ?_⟩
        rw [← h1.at_ t v hv]
        by_cases hw : ∃ j o, j < n ∧ ops[j]? = some o ∧ o.dst = some t
        · obtain ⟨j, o, hj, ho, hdst⟩ := hw
          obtain ⟨d', v', e1, e2, e3, _⟩ := hall j o ((hop j o).2 ⟨hj, ho⟩)
          rw [hdst] at e1; cases e1
          rw [ht2 j o t hj ho (hall' j (by omega)) hdst, e3]
          refine (actAt_at (ops.toList.take n) vs _ a0 j o t v' (by omega) ((hop j o).2 ⟨hj, ho⟩) hdst (by rw [hf0.size]; exact e2) e3 (fun k p hk hne hp => ?_)).symm
          obtain ⟨hk', hp'⟩ := (hop k p).1 hp
          exact (hc.apart k j p o t hk' hj (Ne.symm hne) hp' ho hdst).1
        · rw [ht1 t (fun j o hj ho _ hdst => hw ⟨j, o, hj, ho, hdst⟩)]
          refine (actAt_other (ops.toList.take n) vs _ a0 t (fun j o _ ho hdst => ?_)).symm
          obtain ⟨hj, ho'⟩ := (hop j o).1 ho
          exact hw ⟨j, o, hj, ho', hdst⟩
      refine any_tail hc 0 listed a w n hsz (Nat.le_refl _) (fun i hi => ⟨fun _ => by omega, fun _ => hall' i hi⟩) hu (hF a w hact hs)
    | succ fuel ih =>
      intro listed a w hsz hu hcl hlow hd hz hs ht1 ht2
      by_cases hdone : ∀ i, i < n → listed.getD i false = true
      · have hact : Fr E.n D (lat (ops.toList.take n) vs (ops.toList.take n).length L) a := by
          have h1 := actAt_fr (ops.toList.take n) vs (ops.toList.take n).length L a0 hdlt hf0
          refine ⟨hd, hz, fun t v hv => ?_⟩
          rw [← h1.at_ t v hv]
          by_cases hw : ∃ j o, j < n ∧ ops[j]? = some o ∧ o.dst = some t
          · obtain ⟨j, o, hj, ho, hdst⟩ := hw
            obtain ⟨d', v', e1, e2, e3, _⟩ := hall j o ((hop j o).2 ⟨hj, ho⟩)
            rw [hdst] at e1; cases e1
            rw [ht2 j o t hj ho (hdone j hj) hdst, e3]
            refine (actAt_at (ops.toList.take n) vs _ a0 j o t v' (by omega) ((hop j o).2 ⟨hj, ho⟩) hdst (by rw [hf0.size]; exact e2) e3 (fun k p hk hne hp => ?_)).symm
            obtain ⟨hk', hp'⟩ := (hop k p).1 hp
            exact (hc.apart k j p o t hk' hj (Ne.symm hne) hp' ho hdst).1
          · rw [ht1 t (fun j o hj ho _ hdst => hw ⟨j, o, hj, ho, hdst⟩)]
            refine (actAt_other (ops.toList.take n) vs _ a0 t (fun j o _ ho hdst => ?_)).symm
            obtain ⟨hj, ho'⟩ := (hop j o).1 ho
            exact hw ⟨j, o, hj, ho', hdst⟩
        refine any_tail hc (fuel + 1) listed a w n hsz (Nat.le_refl _) (fun i hi => ⟨fun hl => ?_, fun hl => hdone i hl⟩) hu (hF a w hact hs)
        rcases Nat.lt_or_ge i n with h1 | h1
        · exact h1
        · rw [hlow i h1] at hl; cases hl
      · refine ⟨fun hnil => ?_, fun i hi => ?_⟩
        · exfalso
          -- the least that is not listed is ready
          have hex : ∃ i, i < n ∧ listed.getD i false = false := by
            rcases Classical.em (∃ i, i < n ∧ listed.getD i false = false) with h1 | h1
            · exact h1
            · exact absurd (fun i hi => by
                cases hg : listed.getD i false with
                | true => rfl
                | false => exact absurd ⟨i, hi, hg⟩ h1) hdone
          obtain ⟨i, hi, hmin⟩ := exists_least hex
          have hr : i ∈ Region.ready .any ops listed := ready_of hsz (by have := hc.le; omega) hi.2 (fun o e ho he hb => by
            have h1 := hc.edge i o e ho he hb
            cases hg : listed.getD e.on false with
            | true => exact hg
            | false => exact absurd (hmin e.on ⟨by omega, hg⟩) (by omega))
          rw [hnil] at hr; cases hr
        · obtain ⟨hi1, hi2, hi3⟩ := of_ready hsz hi
          have hin : i < n := by
            rcases Nat.lt_or_ge i n with h1 | h1
            · exact h1
            · exfalso
              refine hdone fun j hj => ?_
              exact ancB_closed (S := fun k => listed.getD k false = true) hcl (hc.tail i j h1 hi1 (by omega)) hi3
          obtain ⟨o, ho⟩ : ∃ o, ops[i]? = some o := ⟨ops[i], Array.getElem?_eq_getElem hi1⟩
          obtain ⟨d, v, hod, hdn, hvi, hsd⟩ := hall i o ((hop i o).2 ⟨hin, ho⟩)
          obtain ⟨hsel, hdef⟩ := hc.plain i o hin ho
          have hfr := actAt_fr (ops.toList.take n) vs i L a0 hdlt hf0
          have hlook : ∀ t ∈ o.looksAt ops, a.tmps[t]? = (actAt (ops.toList.take n) vs i a0).tmps[t]? := by
            intro t htl
            by_cases hw : ∃ j p, j < n ∧ j ≠ i ∧ ops[j]? = some p ∧ p.dst = some t
            · obtain ⟨j, p, hj, hne, hp, hpd⟩ := hw
              obtain ⟨d', v', e1, e2, e3, _⟩ := hall j p ((hop j p).2 ⟨hj, hp⟩)
              rw [hpd] at e1; cases e1
              have hap := hc.apart i j o p t hin hj hne ho hp hpd
              rcases hap.2 htl with ⟨hlt, hanc⟩ | ⟨hlt, hanc⟩
              · have hS : listed.getD j false = true := ancB_closed (S := fun k => listed.getD k false = true) hcl hanc hi3
                rw [ht2 j p t hj hp hS hpd, e3]
                refine (actAt_at (ops.toList.take n) vs i a0 j p t v' hlt ((hop j p).2 ⟨hj, hp⟩) hpd (by rw [hf0.size]; exact e2) e3 (fun k q hk hne' hq => ?_)).symm
                obtain ⟨hk', hq'⟩ := (hop k q).1 hq
                exact (hc.apart k j q p t hk' hj (Ne.symm hne') hq' hp hpd).1
              · have hnS : listed.getD j false = false := by
                  cases hg : listed.getD j false with
                  | false => rfl
                  | true =>
                    have := ancB_closed (S := fun k => listed.getD k false = true) hcl hanc (hcl j hg)
                    rw [this] at hi2; cases hi2
                refine (ht1 t (fun k q hk hq hkl hqd => ?_)).trans (actAt_other (ops.toList.take n) vs i a0 t (fun k q hk hq hqd => ?_)).symm
                · by_cases e : k = j
                  · subst e; rw [hkl] at hnS; cases hnS
                  · exact (hc.apart k j q p t hk hj (Ne.symm e) hq hp hpd).1 hqd
                · obtain ⟨hk', hq'⟩ := (hop k q).1 hq
                  exact (hc.apart k j q p t hk' hj (by omega) hq' hp hpd).1 hqd
            · refine (ht1 t (fun k q hk hq hkl hqd => ?_)).trans (actAt_other (ops.toList.take n) vs i a0 t (fun k q hk hq hqd => ?_)).symm
              · by_cases e : k = i
                · subst e; rw [hkl] at hi2; cases hi2
                · exact hw ⟨k, q, hk, e, hq, hqd⟩
              · obtain ⟨hk', hq'⟩ := (hop k q).1 hq
                exact hw ⟨k, q, hk', by omega, hq', hqd⟩
          unfold wpOpIn
          simp only [ho]
          refine sd_swap hsd hod hdn hsel hdef hfr hlook hs (fun w' hs' => ?_)
          have hset : ∀ j, (listed.setIfInBounds i true).getD j false = if j = i then true else listed.getD j false := fun j => getD_set (by omega) false
          refine ih _ _ w' (by simpa using hsz) (by have := unl_lt (n := ops.size) (i := i) (listed := listed) (by omega) (mem_unl.2 ⟨hi1, hi2⟩); omega) ?_ ?_ hd (by simp [Act.put, hz]) hs' ?_ ?_
          · intro j hj o' e ho' he hb
            rw [hset] at hj ⊢
            by_cases e1 : e.on = i
            · simp [e1]
            · simp only [e1, if_false]
              by_cases e2 : j = i
              · subst e2; exact hi3 o' e ho' he hb
              · simp only [e2, if_false] at hj; exact hcl j hj o' e ho' he hb
          · intro j hj
            rw [hset, if_neg (by omega)]
            exact hlow j hj
          · intro t ht
            have hti : d ≠ t := fun e => by subst e; exact ht i o hin ho (by rw [hset]; simp) hod
            simp only [Act.put]
            rw [Array.getElem?_setIfInBounds_ne hti]
            refine ht1 t (fun j p hj hp hl => ht j p hj hp (by rw [hset]; split <;> simp [hl]))
          · intro j p d' hj hp hl hpd
            rw [hset] at hl
            simp only [Act.put]
            by_cases e : j = i
            · subst e
              rw [ho] at hp; cases hp
              rw [hod] at hpd; cases hpd
              rw [Array.getElem?_setIfInBounds_self_of_lt (by rw [hz]; exact hdn), hvi]
            · simp only [e, if_false] at hl
              have := (hc.apart i j o p d' hin hj e ho hp hpd).1
              rw [Array.getElem?_setIfInBounds_ne (fun h => this (by rw [hod, h]))]
              exact ht2 j p d' hj hp hl hpd
  refine key ops.size (Array.replicate ops.size false) a0 _ (by simp) ?_ ?_ ?_ hf0.defers hf0.size hs1 (fun _ _ => rfl) ?_
  · unfold unl; exact Nat.le_trans (List.length_filter_le _ _) (by simp)
  · intro j hj
    simp only [Array.getD_eq_getD_getElem?, Array.getElem?_replicate] at hj
    split at hj <;> simp at hj
  · intro j _
    simp only [Array.getD_eq_getD_getElem?, Array.getElem?_replicate]
    split <;> rfl
  · intro j o d _ _ hl
    simp only [Array.getD_eq_getD_getElem?, Array.getElem?_replicate] at hl
    split at hl <;> simp at hl
theorem d_end {E : Env} {ops : Array Oper} {Q : Post} {rest : List Oper} {D : List Deferred} {L : List (Nat × Value)} {C : List Assn} (h : RJ E ops Q rest D L C) : DJ E ops D C (fun L' => RJ E ops Q rest D L' C) [] L := h
theorem SD.sub {E : Env} {ops : Array Oper} {o : Oper} {D : List Deferred} {L L' : List (Nat × Value)} {C : List Assn} {v : Value} (hs : Sub L L') (h : SD E ops o D L' C v) : SD E ops o D L C v := fun a w hf hst => h a w (hf.sub hs) hst
theorem Sub.head {L L' : List (Nat × Value)} (hs : Sub L L') (d : Nat) (v : Value) : Sub ((d, v) :: L) ((d, v) :: L') := fun t u hu => by
  by_cases e : t = d
  · subst e; simpa [List.lookup] using hu
  · have he : (t == d) = false := by simpa using e
    simp only [List.lookup, he] at hu ⊢; exact hs t u hu
theorem DJ.sub {E : Env} {ops : Array Oper} {Q : Post} {rest : List Oper} {D : List Deferred} {C : List Assn} : ∀ {os : List Oper} {L L' : List (Nat × Value)}, Sub L L' → DJ E ops D C (fun L' => RJ E ops Q rest D L' C) os L' → DJ E ops D C (fun L' => RJ E ops Q rest D L' C) os L := by
  intro os
  induction os with
  | nil => intro L L' hs h a w hf hst; exact h a w (hf.sub hs) hst
  | cons o os ih =>
    intro L L' hs h
    obtain ⟨d, v, ho, hd, hsd, hk⟩ := h
    exact ⟨d, v, ho, hd, hsd.sub hs, ih (hs.head d v) hk⟩
theorem d_bool {E : Env} {ops : Array Oper} {Q : Post} {rest : List Oper} {D : List Deferred} {C : List Assn} {os : List Oper} {L : List (Nat × Value)} {t : Nat} {b : Bool} (h : L.lookup t = some (.bool b))
    (h1 : b = true → DJ E ops D C (fun L' => RJ E ops Q rest D L' C) os ((t, .bool true) :: L)) (h2 : b = false → DJ E ops D C (fun L' => RJ E ops Q rest D L' C) os ((t, .bool false) :: L)) : DJ E ops D C (fun L' => RJ E ops Q rest D L' C) os L := by
  have hsub : ∀ v : Bool, b = v → Sub L ((t, .bool v) :: L) := fun v hv => Sub.cons (hv ▸ h) (fun _ _ h => h)
  cases b
  · exact DJ.sub (hsub _ rfl) (h2 rfl)
  · exact DJ.sub (hsub _ rfl) (h1 rfl)
end
section
open Go.RowKit
set_option linter.unusedVariables false
def gOn (ops : Array Oper) (L : List (Nat × Value)) (g : Option (Nat × Bool)) : Bool :=
  match g with
  | none => true
  | some (j, b) => match (ops[j]?).bind (·.dst) with
    | some t => match L.lookup t with
      | some (.bool b') => b' == b
      | _ => false
    | none => false
def gOff (ops : Array Oper) (L : List (Nat × Value)) (g : Option (Nat × Bool)) : Bool :=
  match g with
  | none => false
  | some (j, b) => match (ops[j]?).bind (·.dst) with
    | some t => match L.lookup t with
      | some (.bool b') => b' != b
      | some (.tuple _) => true
      | _ => false
    | none => false
theorem gOn_wanted {ops : Array Oper} {L : List (Nat × Value)} {o : Oper} {n : Nat} {D : List Deferred} {a : Act} (hf : Fr n D L a) (h : gOn ops L o.guard = true) : Region.wanted o (yielded ops a.tmps) = true := by
  unfold Region.wanted
  cases hg : o.guard with
  | none => rfl
  | some jb =>
    obtain ⟨j, b⟩ := jb
    rw [hg] at h
    simp only [gOn] at h
    simp only [yielded]
    cases ht : (ops[j]?).bind (·.dst) with
    | none => simp [ht] at h
    | some t =>
      simp only [ht] at h
      cases hl : L.lookup t with
      | none => simp [hl] at h
      | some v =>
        simp only [hl] at h
        cases v <;> simp at h
        subst h
        simp [hf.at_ t _ hl]
theorem gOff_wanted {ops : Array Oper} {L : List (Nat × Value)} {o : Oper} {n : Nat} {D : List Deferred} {a : Act} (hf : Fr n D L a) (h : gOff ops L o.guard = true) : Region.wanted o (yielded ops a.tmps) = false := by
  unfold Region.wanted
  cases hg : o.guard with
  | none => simp [hg, gOff] at h
  | some jb =>
    obtain ⟨j, b⟩ := jb
    rw [hg] at h
    simp only [gOff] at h
    simp only [yielded]
    cases ht : (ops[j]?).bind (·.dst) with
    | none => simp [ht] at h
    | some t =>
      simp only [ht] at h
      cases hl : L.lookup t with
      | none => simp [hl] at h
      | some v =>
        simp only [hl] at h
        cases v <;> simp at h
        · rename_i b'
          simp [hf.at_ t _ hl]
          cases b <;> cases b' <;> simp_all
        · simp [hf.at_ t _ hl]
section
variable {E : Env} {ops : Array Oper} {D : List Deferred} {L : List (Nat × Value)} {C : List Assn}
/-- passed over -/
theorem sd_off {o : Oper} (hg : gOff ops L o.guard = true) : SD E ops o D L C undef := fun a w hf hs => .inr ⟨gOff_wanted hf hg, rfl⟩
theorem wp_value {r : Option Nat} {P : Program} {o : Oper} {a : Act} {w w' : World} {N : Act → World → Prop} {Q : Post} {v : Value} (hd : ∀ c, o.op ≠ .defer c) (h : (execOp a.eval o).run P w = .ok (.value v) w') (hn : N (a.put o.dst v) w') : o.wpIn (Fw r) 0 P a w N Q :=
  ⟨fun _ _ => trivial, by rw [Oper.semAt_eq _ _ _ hd, h]; exact hn⟩
theorem wp_skip {r : Option Nat} {P : Program} {o : Oper} {a : Act} {w w' : World} {N : Act → World → Prop} {Q : Post} (hd : ∀ c, o.op ≠ .defer c) (h : (execOp a.eval o).run P w = .ok .skip w') (hn : N (a.put o.dst undef) w') : o.wpIn (Fw r) 0 P a w N Q :=
  ⟨fun _ _ => trivial, by rw [Oper.semAt_eq _ _ _ hd, h]; exact hn⟩
theorem sd_pure {o : Oper} {v : Value} (hg : gOn ops L o.guard = true) (hd : ∀ c, o.op ≠ .defer c) (h : ∀ a w, Fr E.n D L a → St E.S E.w0 C w → (execOp a.eval o).run E.P w = .ok (.value v) w) : SD E ops o D L C v :=
  fun a w hf hs => .inl ⟨gOn_wanted hf hg, wp_value hd (h a w hf hs) ⟨rfl, Keeps.refl _ _⟩⟩
variable {dst : Option Tmp} {ty : TypeId} {ps : String} {af : Array Edge} {g : Option (Nat × Bool)}
theorem sd_move {x : Operand} {v : Value} (hg : gOn ops L g = true) (hx : ev L x = some v) : SD E ops ⟨dst, .move x, ty, ps, af, g⟩ D L C v :=
  sd_pure hg (by simp) fun a w hf _ => by simp [execOp, hf.ev hx]
theorem sd_assign {x : Operand} {v : Value} (hg : gOn ops L g = true) (hx : ev L x = some v) : SD E ops ⟨dst, .assign x, ty, ps, af, g⟩ D L C v :=
  sd_pure hg (by simp) fun a w hf _ => by simp [execOp, hf.ev hx]
def BinRun (P : Program) (op : BinOp) (t : TypeId) (x y : Operand) (u v r : Value) : Prop := ∀ w, (do eqGuard op t x y u v; binOp op t u v : Sem Value).run P w = .ok r w
theorem sd_bin {op : BinOp} {xt yt : TypeId} {x y : Operand} {u v r : Value} (hg : gOn ops L g = true) (hx : ev L x = some u) (hy : ev L y = some v) (h : BinRun E.P op xt x y u v r) : SD E ops ⟨dst, .binOp op xt x y yt, ty, ps, af, g⟩ D L C r :=
  sd_pure hg (by simp) fun a w hf _ => by
    have := h w
    simp only [execOp, hf.ev hx, hf.ev hy]
    simp only [Sem.run_bind, Sem.run_pure] at this ⊢
    rw [this]; rfl
theorem sd_not {xt : TypeId} {x : Operand} {b : Bool} (hg : gOn ops L g = true) (hx : ev L x = some (.bool b)) : SD E ops ⟨dst, .unOp .not xt x, ty, ps, af, g⟩ D L C (.bool !b) :=
  sd_pure hg (by simp) fun a w hf _ => by simp [execOp, hf.ev hx, Op.unary]
abbrev In64 (n : Int) : Prop := -9223372036854775808 ≤ n ∧ n ≤ 9223372036854775807
theorem wrap_in {n : Int} (h : In64 n) : IntKind.i64.wrap n = n := by
  obtain ⟨h1, h2⟩ := h
  rw [IntKind.wrap_i64]
  omega
theorem sd_neg {xt : TypeId} {x : Operand} {n : Int} (hg : gOn ops L g = true) (hx : ev L x = some (.int .i64 n)) (hb : In64 (-n)) : SD E ops ⟨dst, .unOp .neg xt x, ty, ps, af, g⟩ D L C (.int .i64 (-n)) :=
  sd_pure hg (by simp) fun a w hf _ => by
    have : (0 : Int) - n = -n := by omega
    simp [execOp, hf.ev hx, Op.unary, Op.intArith, this, wrap_in hb]
theorem sd_pick_t {c x y : Operand} {v : Value} (hg : gOn ops L g = true) (hc : ev L c = some (.bool true)) (hx : ev L x = some v) : SD E ops ⟨dst, .pick c x y, ty, ps, af, g⟩ D L C v :=
  sd_pure hg (by simp) fun a w hf _ => by simp [execOp, hf.ev hc, hf.ev hx, asBool]
theorem sd_pick_f {c x y : Operand} {v : Value} (hg : gOn ops L g = true) (hc : ev L c = some (.bool false)) (hy : ev L y = some v) : SD E ops ⟨dst, .pick c x y, ty, ps, af, g⟩ D L C v :=
  sd_pure hg (by simp) fun a w hf _ => by simp [execOp, hf.ev hc, hf.ev hy, asBool]
theorem sd_conv {st dt : TypeId} {x : Operand} {k k' : IntKind} {n m : Int} (hg : gOn ops L g = true) (hx : ev L x = some (.int k' n)) (hs : E.P.underlying st = some (.int k')) (hd : E.P.underlying dt = some (.int k)) (hw : k.wrap n = m) : SD E ops ⟨dst, .convert st dt x, ty, ps, af, g⟩ D L C (.int k m) :=
  sd_pure hg (by simp) fun a w hf _ => by
    simp [execOp, hf.ev hx, convert, run_underlying hs, run_underlying hd, Conv.intToInt, hw]
def evs (L : List (Nat × Value)) : List Operand → Option (List Value)
  | [] => some []
  | x :: xs => match ev L x, evs L xs with
    | some v, some vs => some (v :: vs)
    | _, _ => none
theorem Fr.evs {n : Nat} {a : Act} (h : Fr n D L a) : ∀ {xs : List Operand} {vs : List Value}, Go.Proofs.YthiigjekcdjkkaaGreat.evs L xs = some vs → xs.map a.eval = vs := by
  intro xs
  induction xs with
  | nil => intro vs hv; simpa [Go.Proofs.YthiigjekcdjkkaaGreat.evs] using hv
  | cons x xs ih =>
    intro vs hv
    simp only [Go.Proofs.YthiigjekcdjkkaaGreat.evs] at hv
    cases hx : Go.Proofs.YthiigjekcdjkkaaGreat.ev L x with
    | none => simp [hx] at hv
    | some u =>
      cases hxs : Go.Proofs.YthiigjekcdjkkaaGreat.evs L xs with
      | none => simp [hx, hxs] at hv
      | some us => simp [hx, hxs] at hv; subst hv; simp [h.ev hx, ih hxs]
theorem beq_dec {a b : Int} : (a == b) = decide (a = b) := by by_cases h : a = b <;> simp [h]
section
variable {P : Program} {t : TypeId} {x y : Operand} {a b : Int} {k : IntKind}
theorem b_add (h : In64 (a + b)) : BinRun P .add t x y (.int .i64 a) (.int .i64 b) (.int .i64 (a + b)) := fun w => by simp [eqGuard_add, binOp_add, Op.intArith, wrap_in h]
theorem b_sub (h : In64 (a - b)) : BinRun P .sub t x y (.int .i64 a) (.int .i64 b) (.int .i64 (a - b)) := fun w => by simp [eqGuard_sub, binOp_sub, Op.intArith, wrap_in h]
theorem b_mul (h : In64 (a * b)) : BinRun P .mul t x y (.int .i64 a) (.int .i64 b) (.int .i64 (a * b)) := fun w => by simp [eqGuard_mul, binOp_mul, Op.intArith, wrap_in h]
theorem b_quo (h0 : 0 ≤ a) (h1 : 0 < b) (h : a ≤ 9223372036854775807) : BinRun P .quo t x y (.int .i64 a) (.int .i64 b) (.int .i64 (a / b)) := fun w => by
  have hb : b ≠ 0 := by omega
  have h3 : 0 ≤ a / b := Int.ediv_nonneg h0 (by omega)
  have h4 : a / b ≤ a := Int.ediv_le_self b h0
  simp [eqGuard_quo, binOp_quo, Op.intDiv, hb, Int.tdiv_eq_ediv_of_nonneg h0, wrap_in (show In64 (a / b) from ⟨by omega, by omega⟩)]
theorem b_quot (h1 : b ≠ 0) (h : In64 (a.tdiv b)) : BinRun P .quo t x y (.int .i64 a) (.int .i64 b) (.int .i64 (a.tdiv b)) := fun w => by
  simp [eqGuard_quo, binOp_quo, Op.intDiv, h1, wrap_in h]
theorem b_rem (h0 : 0 ≤ a) (h1 : 0 < b) : BinRun P .rem t x y (.int k a) (.int k b) (.int k (a % b)) := fun w => by
  have hb : b ≠ 0 := by omega
  simp [eqGuard_rem, binOp_rem, Op.intDiv, hb, Int.tmod_eq_emod_of_nonneg h0]
theorem b_lss : BinRun P .lss t x y (.int k a) (.int k b) (.bool (decide (a < b))) := fun w => by simp [eqGuard_lss, binOp_lss]
theorem b_leq : BinRun P .leq t x y (.int k a) (.int k b) (.bool (decide (a ≤ b))) := fun w => by simp [eqGuard_leq, binOp_leq]
theorem b_gtr : BinRun P .gtr t x y (.int k a) (.int k b) (.bool (decide (b < a))) := fun w => by simp [eqGuard_gtr, binOp_gtr]
theorem b_geq : BinRun P .geq t x y (.int k a) (.int k b) (.bool (decide (b ≤ a))) := fun w => by simp [eqGuard_geq, binOp_geq]
theorem b_eql : BinRun P .eql t x y (.int k a) (.int k b) (.bool (decide (a = b))) := fun w => by simp [eqGuard_at_int, binOp_eql]; exact beq_dec
theorem b_neq : BinRun P .neq t x y (.int k a) (.int k b) (.bool (!decide (a = b))) := fun w => by simp [eqGuard_at_int, binOp_neq, bne]; exact beq_dec
end
theorem sd_len {x : Operand} {t e : TypeId} {A : Option Addr} {n c : Nat} (hg : gOn ops L g = true) (hx : ev L x = some (.slice A n c)) (ht : E.P.underlying t = some (.slice e)) :
    SD E ops ⟨dst, .call { callee := .builtin .len, args := #[x], argTypes := #[t] }, ty, ps, af, g⟩ D L C (.int .i64 n) :=
  sd_pure hg (by simp) fun a w hf _ => by
    simp [execOp, resolve, invoke, builtin, Builtin.len_, hf.ev hx, run_underlying ht, goInt]
theorem sd_min {x y : Operand} {ts : Array TypeId} {a b : Int} {k : IntKind} (hg : gOn ops L g = true) (hx : ev L x = some (.int k a)) (hy : ev L y = some (.int k b)) :
    SD E ops ⟨dst, .call { callee := .builtin .min, args := #[x, y], argTypes := ts }, ty, ps, af, g⟩ D L C (.int k (min a b)) :=
  sd_pure hg (by simp) fun c w hf _ => by
    have : (if b < a then b else a) = min a b := by omega
    simp [execOp, resolve, invoke, builtin, Builtin.min_, Builtin.min2, hf.ev hx, hf.ev hy, this]
theorem sd_max {x y : Operand} {ts : Array TypeId} {a b : Int} {k : IntKind} (hg : gOn ops L g = true) (hx : ev L x = some (.int k a)) (hy : ev L y = some (.int k b)) :
    SD E ops ⟨dst, .call { callee := .builtin .max, args := #[x, y], argTypes := ts }, ty, ps, af, g⟩ D L C (.int k (max a b)) :=
  sd_pure hg (by simp) fun c w hf _ => by
    have : (if a < b then b else a) = max a b := by omega
    simp [execOp, resolve, invoke, builtin, Builtin.max_, Builtin.max2, hf.ev hx, hf.ev hy, this]
end
end
section
open Go.RowKit
set_option linter.unusedVariables false
def Assn.ro (A : Assn) : Assn := { A with wf := fun _ => False, wr := false, wfoot := fun _ h => h.elim, whole := fun h => by cases h }
theorem lt_of_heap {w : World} {g : Nat} {o : Obj} (h : w.heap[g]? = some o) : g < w.heap.size := (Array.getElem?_eq_some_iff.1 h).1
/-- a block of one's own, known whole -/
def blk (g : Nat) (t : TypeId) (cs : List Value) : Assn where
  foot b := b = g
  wf b := b = g
  holds w := w.heap[g]? = some (.cells cs.toArray t (0, 0))
  wr := true
  wfoot _ h := h
  whole _ _ h := h
  lt w h b hb := hb ▸ lt_of_heap h
  keep w w' hk h := (hk g rfl).trans h
/-- an object that is no row of cells -/
def obj (g : Nat) (o : Obj) : Assn where
  foot b := b = g
  wf b := b = g
  holds w := w.heap[g]? = some o
  wr := true
  wfoot _ h := h
  whole _ _ h := h
  lt w h b hb := hb ▸ lt_of_heap h
  keep w w' hk h := (hk g rfl).trans h
/-- what stands at a place -/
def padd (A : Option Addr) (k : Nat) : Option Addr := A.map (·.add k)
theorem add_add (a : Addr) (i j : Nat) : (a.add i).add j = a.add (i + j) := by
  unfold Addr.add
  by_cases hi : i = 0 <;> by_cases hj : j = 0 <;> simp [hi, hj, Nat.add_assoc]
theorem add_block (a : Addr) (n : Nat) : (a.add n).block = a.block := by unfold Addr.add; split <;> rfl
theorem add_plain (g o k : Nat) : (⟨g, o, none⟩ : Addr).add k = ⟨g, o + k, none⟩ := by unfold Addr.add; split <;> simp_all
/-- a slice that reads as a list of elements, each its cells -/
def rd (A : Option Addr) (n sz : Nat) (es : List (List Value)) : Assn where
  foot b := 0 < n * sz ∧ ∃ ad, A = some ad ∧ b = ad.block
  holds w := es.length = n ∧ (∀ e ∈ es, e.length = sz) ∧ (0 < n * sz → ∃ ad, A = some ad ∧ ∀ i e j v, es[i]? = some e → e[j]? = some v → w.cell? (ad.add (i * sz + j)) = some v)
  wf _ := False
  wr := false
  wfoot _ h := h.elim
  whole h := by cases h
  lt w h b hb := by
    obtain ⟨h1, h2, h3⟩ := h
    obtain ⟨hn, ad, hA, rfl⟩ := hb
    obtain ⟨ad', hA', hc⟩ := h3 hn
    rw [hA] at hA'; cases hA'
    have hn0 : 0 < n := Nat.pos_of_mul_pos_right hn
    have hs0 : 0 < sz := Nat.pos_of_mul_pos_left hn
    have he : es[0]? = some (es[0]'(by omega)) := List.getElem?_eq_getElem (by omega)
    have hl : (es[0]'(by omega)).length = sz := h2 _ (List.getElem_mem _)
    have hv := hc 0 _ 0 _ he (List.getElem?_eq_getElem (by omega))
    have := World.block_lt_of_cell? w _ hv
    rwa [add_block] at this
  keep w w' hk h := by
    refine ⟨h.1, h.2.1, fun hn => ?_⟩
    obtain ⟨ad, hA, hc⟩ := h.2.2 hn
    refine ⟨ad, hA, fun i e j v hi hj => ?_⟩
    rw [World.cell?_of_block (w := w) (by rw [add_block]; exact hk _ ⟨hn, ad, hA, rfl⟩)]
    exact hc i e j v hi hj
def Has (C : List Assn) (p : World → Prop) : Prop := ∀ w, (∀ A ∈ C, A.holds w) → p w
theorem has_at {C : List Assn} {A : Assn} (i : Nat) (h : C[i]? = some A) : Has C A.holds := fun w hw => hw A (List.mem_of_getElem? h)
def HasAll (C Cp : List Assn) : Prop := ∀ w, (∀ A ∈ C, A.holds w) → ∀ A ∈ Cp, A.holds w
theorem ha_nil {C : List Assn} : HasAll C [] := fun w _ A hA => by cases hA
theorem ha_cons {C Cp : List Assn} {A : Assn} (h : Has C A.holds) (t : HasAll C Cp) : HasAll C (A :: Cp) := fun w hw B hB => by
  rcases List.mem_cons.1 hB with rfl | hB
  · exact h w hw
  · exact t w hw B hB
theorem ha_at {C Cp : List Assn} {A B : Assn} (i : Nat) (h : C[i]? = some B) (e : B.holds = A.holds) (t : HasAll C Cp) : HasAll C (A :: Cp) := ha_cons (e ▸ has_at i h) t
theorem St.has {S : BS} {w0 w : World} {C : List Assn} {p : World → Prop} (h : St S w0 C w) (k : Has C p) : p w := k w h.holds
/-- a block that holds the elements of a list, one behind the other, from its head on -/
theorem rd_of_blk {w : World} {g : Nat} {t : TypeId} {cs : List Value} {n sz : Nat} {es : List (List Value)} (h : (blk g t cs).holds w) (h1 : es.length = n) (h2 : ∀ e ∈ es, e.length = sz) (h3 : es.flatten <+: cs) : (rd (some ⟨g, 0, none⟩) n sz es).holds w := by
  refine ⟨h1, h2, fun _ => ⟨_, rfl, fun i e j v hi hj => ?_⟩⟩
  have hfl : ∀ (es : List (List Value)) (i : Nat), (∀ e ∈ es, e.length = sz) → es[i]? = some e → es.flatten[i * sz + j]? = some v := by
    intro es
    induction es with
    | nil => intro i _ hi; simp at hi
    | cons x xs ih =>
      intro i hl hi
      have hx := hl x (by simp)
      have hjl : j < e.length := (List.getElem?_eq_some_iff.1 hj).1
      cases i with
      | zero =>
        simp at hi; subst hi
        simp only [List.flatten_cons, Nat.zero_mul, Nat.zero_add]
        rw [List.getElem?_append_left hjl]; exact hj
      | succ i =>
        simp only [List.flatten_cons]
        rw [List.getElem?_append_right (by rw [hx, Nat.succ_mul]; omega)]
        have : (i + 1) * sz + j - x.length = i * sz + j := by rw [hx, Nat.succ_mul]; omega
        rw [this]
        exact ih i (fun e he => hl e (by simp [he])) (by simpa using hi)
  have hv := hfl es i h2 hi
  obtain ⟨rest, hr⟩ := h3
  rw [add_plain, cell_of_row w g _ cs.toArray t (0, 0) h]
  simp only [List.getElem?_toArray, Nat.zero_add]
  rw [← hr, List.getElem?_append_left (List.getElem?_eq_some_iff.1 hv).1]
  exact hv
theorem has_rd_blk {C : List Assn} {g t : Nat} {cs : List Value} {n sz : Nat} {es : List (List Value)} (i : Nat) (hC : C[i]? = some (blk g t cs)) (h1 : es.length = n) (h2 : ∀ e ∈ es, e.length = sz) (h3 : es.flatten = cs) : Has C (rd (some ⟨g, 0, none⟩) n sz es).holds := fun w hw =>
  rd_of_blk (has_at i hC w hw) h1 h2 ⟨[], by simp [h3]⟩
/-- the cells of a zero value; the places of the parts: where, how many cells -/
def tB (P : Program) (t : TypeId) : Option (List Value × List (Nat × Nat)) :=
  match P.info? t, P.underlying t with
  | some it, some (.array n e) =>
    match it.zero, P.info? e with
    | some z, some ie => some (z.cells.toList, (List.range n).map fun i => (i * ie.size, ie.size))
    | _, _ => none
  | some it, some (.struct fields) =>
    match it.zero, fields.toList.mapM (fun f => (P.info? f.type).map fun i => (f.offset, i.size)) with
    | some z, some places => some (z.cells.toList, places)
    | _, _ => none
  | _, _ => none
def bld (z : List Value) (pl : List (Nat × Nat)) : List (Nat × Value) → Option (List Value)
  | [] => some z
  | (i, v) :: rest => match pl[i]? with
    | none => none
    | some (off, sz) => if v.cells.toList.length = sz ∧ off + sz ≤ z.length then bld (z.take off ++ v.cells.toList ++ z.drop (off + sz)) pl rest else none
def fOff (P : Program) (s f : Nat) : Option Nat :=
  match P.underlying s with
  | some (.struct fs) => match fs[f]? with
    | some fl => match P.info? fl.type with
      | some i => if i.size = 0 then none else some fl.offset
      | none => none
    | none => none
  | _ => none
/-- is it a struct or an array; how many cells -/
def tK (P : Program) (t : TypeId) : Option (Bool × Nat) :=
  match P.underlying t, P.info? t with
  | some (.struct _), some i => some (true, i.size)
  | some (.array _ _), some i => some (true, i.size)
  | some _, some i => some (false, i.size)
  | _, _ => none
def tZ (P : Program) (t : TypeId) : Option (List Value) := ((P.info? t).bind (·.zero)).map (·.cells.toList)
def tE (P : Program) (t : TypeId) : Option (TypeId × Nat) :=
  match P.underlying t with
  | some (.slice e) => match P.info? e with
    | some i => some (e, i.size)
    | none => none
  | _ => none
def isGo (P : Program) (f : FuncId) : Bool :=
  match P.funcs[f]? with
  | some fn => !(fn.name == "runtime.NumGoroutine") && fn.body.isSome
  | none => false
theorem tK_agg {P : Program} {t : TypeId} {n : Nat} (h : tK P t = some (true, n)) (w : World) : (isAgg t).run P w = .ok true w ∧ (sizeOf t).run P w = .ok n w := by
  unfold tK at h
  cases hu : P.underlying t with
  | none => simp [hu] at h
  | some d =>
    cases hi : P.info? t with
    | none => cases d <;> simp [hu, hi] at h
    | some i =>
      cases d <;> simp [hu, hi] at h <;> (subst h; constructor <;> simp [isAgg, sizeOf, typeInfo, run_underlying hu, hi])
theorem tK_one {P : Program} {t : TypeId} {n : Nat} (h : tK P t = some (false, n)) (w : World) : (isAgg t).run P w = .ok false w ∧ (sizeOf t).run P w = .ok n w := by
  unfold tK at h
  cases hu : P.underlying t with
  | none => simp [hu] at h
  | some d =>
    cases hi : P.info? t with
    | none => cases d <;> simp [hu, hi] at h
    | some i =>
      cases d <;> simp [hu, hi] at h <;> (subst h; constructor <;> simp [isAgg, sizeOf, typeInfo, run_underlying hu, hi])
theorem run_fieldAt {P : Program} {s f k : Nat} (h : fOff P s f = some k) (a : Addr) (w : World) : (Instr.fieldAt s (.pointer (some a)) f).run P w = .ok (.pointer (some (a.add k))) w := by
  unfold fOff at h
  cases hu : P.underlying s with
  | none => simp [hu] at h
  | some d =>
    cases d <;> simp [hu] at h
    rename_i fs
    cases hf : fs[f]? with
    | none => simp [hf] at h
    | some fl =>
      simp only [hf] at h
      cases hi : P.info? fl.type with
      | none => simp [hi] at h
      | some i =>
        simp only [hi] at h
        by_cases hz : i.size = 0
        · simp [hz] at h
        · simp only [hz, if_false, Option.some.injEq] at h
          subst h
          simp [Instr.fieldAt, run_underlying hu, hf, Instr.sureAddr, fieldPlace, sizeOf, typeInfo, hi, hz]
section
variable {E : Env} {ops : Array Oper} {D : List Deferred} {L : List (Nat × Value)} {C : List Assn}
variable {dst : Option Tmp} {ty : TypeId} {ps : String} {af : Array Edge} {g : Option (Nat × Bool)}
theorem sd_fa {x : Operand} {b o o' s f k : Nat} (hg : gOn ops L g = true) (hx : ev L x = some (.pointer (some ⟨b, o, none⟩))) (hf : fOff E.P s f = some k) (ho : o + k = o') :
    SD E ops ⟨dst, .fieldAddr s x f, ty, ps, af, g⟩ D L C (.pointer (some ⟨b, o', none⟩)) :=
  sd_pure hg (by simp) fun a w hfr _ => by
    simp [execOp, hfr.ev hx, run_fieldAt hf, add_plain, ho]
theorem sd_fa_rd {x : Operand} {A : Option Addr} {n sz : Nat} {es : List (List Value)} {k0 s f k k' : Nat} (hg : gOn ops L g = true) (hx : ev L x = some (.pointer (padd A k0))) (hR : Has C (rd A n sz es).holds) (hn : 0 < n * sz)
    (hf : fOff E.P s f = some k) (ho : k0 + k = k') : SD E ops ⟨dst, .fieldAddr s x f, ty, ps, af, g⟩ D L C (.pointer (padd A k')) :=
  sd_pure hg (by simp) fun a w hfr hs => by
    obtain ⟨ad, hA, _⟩ := (hs.has hR).2.2 hn
    subst hA
    simp [execOp, hfr.ev hx, padd, run_fieldAt hf, add_add, ho]
theorem run_indexAt {P : Program} {t e sz : Nat} (h : tE P t = some (e, sz)) {a : Addr} {n c : Nat} {k : Nat} (hk : k < n) (w : World) :
    (Instr.indexAt t (.slice (some a) n c) (.int .i64 (k : Int))).run P w = .ok (.pointer (some (a.add (k * sz)))) w := by
  unfold tE at h
  cases hu : P.underlying t with
  | none => simp [hu] at h
  | some d =>
    cases d <;> simp [hu] at h
    rename_i e'
    cases hi : P.info? e' with
    | none => simp [hi] at h
    | some i =>
      simp only [hi, Option.some.injEq, Prod.mk.injEq] at h
      obtain ⟨rfl, rfl⟩ := h
      have h1 : (0 : Int) ≤ (k : Int) ∧ (k : Int) < (n : Int) := by omega
      simp [Instr.indexAt, asIntOf, run_underlying hu, h1, sizeOf, typeInfo, hi, hk]
theorem sd_ia {x ix : Operand} {A : Option Addr} {n c sz e t k : Nat} {es : List (List Value)} {j : Int} (hg : gOn ops L g = true) (hx : ev L x = some (.slice A n c)) (hi : ev L ix = some (.int .i64 j)) (hR : Has C (rd A n sz es).holds)
    (ht : tE E.P t = some (e, sz)) (hz : 0 < sz) (hj : j = (k : Int)) (hk : k < n) : SD E ops ⟨dst, .indexAddr t x ix, ty, ps, af, g⟩ D L C (.pointer (padd A (k * sz))) :=
  sd_pure hg (by simp) fun a w hfr hs => by
    obtain ⟨ad, hA, _⟩ := (hs.has hR).2.2 (Nat.mul_pos (by omega) hz)
    subst hA hj
    simp [execOp, hfr.ev hx, hfr.ev hi, padd, run_indexAt ht hk]
theorem sd_ia_b {x ix : Operand} {b o n c sz e t k o' : Nat} {j : Int} (hg : gOn ops L g = true) (hx : ev L x = some (.slice (some ⟨b, o, none⟩) n c)) (hi : ev L ix = some (.int .i64 j))
    (ht : tE E.P t = some (e, sz)) (hj : j = (k : Int)) (hk : k < n) (ho : o + k * sz = o') : SD E ops ⟨dst, .indexAddr t x ix, ty, ps, af, g⟩ D L C (.pointer (some ⟨b, o', none⟩)) :=
  sd_pure hg (by simp) fun a w hfr hs => by
    subst hj
    simp [execOp, hfr.ev hx, hfr.ev hi, run_indexAt ht hk, add_plain, ho]
/-- what stands in memory from an address on -/
def At (C : List Assn) (A : Option Addr) (vs : List Value) : Prop := Has C fun w => ∃ ad, A = some ad ∧ ∀ j v, vs[j]? = some v → w.cell? (ad.add j) = some v
theorem at_blk {b o t : Nat} {cs vs : List Value} (i : Nat) (hC : C[i]? = some (blk b t cs)) (hv : (cs.drop o).take vs.length = vs) : At C (some ⟨b, o, none⟩) vs := fun w hw => by
  have h := has_at i hC w hw
  refine ⟨_, rfl, fun j v hj => ?_⟩
  rw [add_plain, cell_of_row w b _ cs.toArray t (0, 0) h]
  rw [← hv, List.getElem?_take] at hj
  split at hj
  · rw [List.getElem?_drop] at hj; simpa using hj
  · cases hj
theorem at_blkr {b o t : Nat} {cs vs : List Value} (i : Nat) (hC : C[i]? = some (blk b t cs).ro) (hv : (cs.drop o).take vs.length = vs) : At C (some ⟨b, o, none⟩) vs := fun w hw => by
  have h : (blk b t cs).holds w := has_at i hC w hw
  refine ⟨_, rfl, fun j v hj => ?_⟩
  rw [add_plain, cell_of_row w b _ cs.toArray t (0, 0) h]
  rw [← hv, List.getElem?_take] at hj
  split at hj
  · rw [List.getElem?_drop] at hj; simpa using hj
  · cases hj
theorem at_rd {A : Option Addr} {n sz k o m : Nat} {es : List (List Value)} {e vs : List Value} (hR : Has C (rd A n sz es).holds) (he : es[k]? = some e) (hm : m = k * sz + o) (hz : 0 < sz) (hv : (e.drop o).take vs.length = vs) : At C (padd A m) vs := fun w hw => by
  obtain ⟨h1, h2, h3⟩ := hR w hw
  have hk : k < n := by rw [← h1]; exact (List.getElem?_eq_some_iff.1 he).1
  obtain ⟨ad, hA, hc⟩ := h3 (Nat.mul_pos (by omega) hz)
  subst hA hm
  refine ⟨_, rfl, fun j v hj => ?_⟩
  rw [add_add, Nat.add_assoc]
  refine hc k e (o + j) v he ?_
  rw [← hv, List.getElem?_take] at hj
  split at hj
  · rw [List.getElem?_drop] at hj; exact hj
  · cases hj
theorem sd_ld1 {x : Operand} {A : Option Addr} {t n : Nat} {v : Value} (hg : gOn ops L g = true) (hx : ev L x = some (.pointer A)) (ht : tK E.P t = some (false, n)) (hc : At C A [v]) : SD E ops ⟨dst, .load t x, ty, ps, af, g⟩ D L C v :=
  sd_pure hg (by simp) fun a w hf hs => by
    obtain ⟨ad, hA, hcell⟩ := hs.has hc
    subst hA
    have h0 : w.cell? ad = some v := by simpa [Addr.add] using hcell 0 v rfl
    simp [execOp, hf.ev hx, Instr.loadAt, Instr.sureAddr, loadVar, (tK_one ht w).1, h0]
theorem sd_ldn {x : Operand} {A : Option Addr} {t n : Nat} {vs : List Value} (hg : gOn ops L g = true) (hx : ev L x = some (.pointer A)) (ht : tK E.P t = some (true, n)) (hc : At C A vs) (hn : vs.length = n) : SD E ops ⟨dst, .load t x, ty, ps, af, g⟩ D L C (.agg vs.toArray) :=
  sd_pure hg (by simp) fun a w hf hs => by
    obtain ⟨ad, hA, hcell⟩ := hs.has hc
    subst hA
    have hl : (loadCells ad n).run E.P w = .ok vs.toArray w := by rw [← hn]; exact run_loadCells_list w ad vs hcell
    simp [execOp, hf.ev hx, Instr.loadAt, Instr.sureAddr, loadVar, (tK_agg ht w).1, (tK_agg ht w).2, hl]
end
end
section
open Go.RowKit
set_option linter.unusedVariables false
/-- what the call hands back is known -/
structure FnV (P : Program) (f : FuncId) (args : List Value) (Cp : List Assn) (v : Value) : Prop where
  go : isGo P f = true
  run : ∀ w, (∀ A ∈ Cp, A.holds w) → Calls P f args.toArray w fun e w' => e = .returned v ∧ Keeps no w w'
/-- what the call hands back is known up to something; what is new in memory -/
structure FnX (P : Program) (f : FuncId) (args : List Value) (Cp : List Assn) {α : Type} (V : α → Value) (p : α → Prop) (N : α → List Assn) : Prop where
  go : isGo P f = true
  run : ∀ w, (∀ A ∈ Cp, A.holds w) → Calls P f args.toArray w fun e w' => ∃ x, e = .returned (V x) ∧ p x ∧ Keeps no w w' ∧ New w w' (N x)
theorem run_callFunc {P : Program} {f : FuncId} (h : isGo P f = true) (args : Array Value) (w : World) : (callFunc f args).run P w = .ok (.enter f args) w := by
  unfold isGo at h
  cases hf : P.funcs[f]? with
  | none => simp [hf] at h
  | some fn =>
    simp only [hf, Bool.and_eq_true, Bool.not_eq_true', Option.isSome_iff_ne_none] at h
    have h1 := h.1
    have h2 : fn.body.isNone = false := by cases hb : fn.body <;> simp_all
    simp only [beq_eq_false_iff_ne, ne_eq] at h1
    simp [callFunc, program, Sem.run, hf, h1]
    exact fun hb => absurd hb h.2
section
variable {E : Env} {ops : Array Oper} {Q : Post} {rest : List Oper} {D : List Deferred} {L : List (Nat × Value)} {C : List Assn}
variable {dst : Option Tmp} {d : Nat} {ty : TypeId} {ps : String} {af : Array Edge} {g : Option (Nat × Bool)}
theorem run_call {a : Act} {fop : Operand} {xs : Array Operand} {ts : Array TypeId} {f : FuncId} {fi ca : Array Value} {vs args : List Value} {n : Nat} (hfr : Fr n D L a) (hgo : isGo E.P f = true) (hf : ev L fop = some (.func (.func f) fi ca))
    (hx : evs L xs.toList = some vs) (ha : fi.toList ++ vs ++ ca.toList = args) (w : World) :
    (execOp a.eval ⟨dst, .call { callee := .value fop, args := xs, argTypes := ts }, ty, ps, af, g⟩).run E.P w = .ok (.enter f args.toArray) w := by
  have h1 : xs.map a.eval = vs.toArray := by
    have := hfr.evs hx
    apply Array.ext'
    simp [this]
  have h2 : fi ++ vs.toArray ++ ca = args.toArray := by rw [← ha]; simp
  simp [execOp, resolve, hfr.ev hf, Deferred.ofValue, invoke, h1, h2, run_callFunc hgo]
theorem sd_call {fop : Operand} {xs : Array Operand} {ts : Array TypeId} {f : FuncId} {fi ca : Array Value} {vs args : List Value} {Cp : List Assn} {v : Value} (hg : gOn ops L g = true) (hf : ev L fop = some (.func (.func f) fi ca))
    (hx : evs L xs.toList = some vs) (ha : fi.toList ++ vs ++ ca.toList = args) (c : FnV E.P f args Cp v) (hC : HasAll C Cp) : SD E ops ⟨dst, .call { callee := .value fop, args := xs, argTypes := ts }, ty, ps, af, g⟩ D L C v := by
  intro a w hfr hs
  refine .inl ⟨gOn_wanted hfr hg, fun _ _ => trivial, ?_⟩
  rw [Oper.semAt_eq _ _ _ (by simp), run_call hfr c.go hf hx ha]
  refine ⟨fun h => by simp at h, (calls_in E.r (c.run w (hC w hs.holds))).mono fun e w' he => ?_⟩
  obtain ⟨rfl, hk⟩ := he
  exact ⟨rfl, hk⟩
theorem r_call {fop : Operand} {xs : Array Operand} {ts : Array TypeId} {f : FuncId} {fi ca : Array Value} {vs args : List Value} {Cp : List Assn} {α : Type} {V : α → Value} {p : α → Prop} {N : α → List Assn} (hg : gOn ops L g = true) (hf : ev L fop = some (.func (.func f) fi ca))
    (hx : evs L xs.toList = some vs) (ha : fi.toList ++ vs ++ ca.toList = args) (c : FnX E.P f args Cp V p N) (hC : HasAll C Cp) (hd : Nat.blt d E.n = true) (k : ∀ x, p x → RJ E ops Q rest D ((d, V x) :: L) (N x ++ C)) :
    RJ E ops Q (⟨some d, .call { callee := .value fop, args := xs, argTypes := ts }, ty, ps, af, g⟩ :: rest) D L C := by
  intro a w hfr hs
  have hd' : d < E.n := by rw [← Nat.blt_eq]; exact hd
  unfold wpL
  rw [if_pos (gOn_wanted hfr hg)]
  refine ⟨fun _ _ => trivial, ?_⟩
  rw [Oper.semAt_eq _ _ _ (by simp), run_call hfr c.go hf hx ha]
  refine ⟨fun h => by simp at h, (calls_in E.r (c.run w (hC w hs.holds))).mono fun e w' he => ?_⟩
  obtain ⟨x, rfl, hp, hk, hn⟩ := he
  exact k x hp _ _ (hfr.put hd' _) (hs.grow hk hn)
/-- a fact on the slots alone: parted -/
theorem r_bool {t : Nat} {b : Bool} (h : L.lookup t = some (.bool b)) (h1 : b = true → RJ E ops Q rest D ((t, .bool true) :: L) C) (h2 : b = false → RJ E ops Q rest D ((t, .bool false) :: L) C) : RJ E ops Q rest D L C := by
  have hsub : ∀ v : Bool, b = v → Sub L ((t, .bool v) :: L) := fun v hv => Sub.cons (hv ▸ h) (fun _ _ h => h)
  cases b
  · exact fun a w hf hs => h2 rfl a w (hf.sub (hsub _ rfl)) hs
  · exact fun a w hf hs => h1 rfl a w (hf.sub (hsub _ rfl)) hs
theorem r_sub {L' : List (Nat × Value)} {C' : List Assn} (hL : Sub L L') (hC : ∀ w, St E.S E.w0 C w → St E.S E.w0 C' w) (h : RJ E ops Q rest D L' C') : RJ E ops Q rest D L C := fun a w hf hs => h a w (hf.sub hL) (hC w hs)
theorem new_blk {w : World} {t : TypeId} {cs : List Value} : New w (w.alloc (.cells cs.toArray t)) [blk w.heap.size t cs] :=
  ⟨fun A hA => by simp at hA; subst hA; exact heap_alloc_new w _, fun A hA b hb => by simp at hA; subst hA; exact Nat.le_of_eq (Eq.symm hb), List.pairwise_singleton _ _⟩
theorem r_new {o : Oper} {t : TypeId} {cs : List Value} {V : Nat → Value} (hg : gOn ops L o.guard = true) (ho : o.dst = some d) (hnd : ∀ c, o.op ≠ .defer c) (hd : Nat.blt d E.n = true)
    (hr : ∀ a w, Fr E.n D L a → St E.S E.w0 C w → (execOp a.eval o).run E.P w = .ok (.value (V w.heap.size)) (w.alloc (.cells cs.toArray t)))
    (k : ∀ b, RJ E ops Q rest D ((d, V b) :: L) (blk b t cs :: C)) : RJ E ops Q (o :: rest) D L C := by
  intro a w hfr hs
  have hd' : d < E.n := by rw [← Nat.blt_eq]; exact hd
  unfold wpL
  rw [if_pos (gOn_wanted hfr hg)]
  refine wp_value hnd (hr a w hfr hs) ?_
  rw [ho]
  exact k _ _ _ (hfr.put hd' _) (hs.grow (Keeps.alloc no w _) new_blk)
theorem r_alloc {t : TypeId} {cs : List Value} (hg : gOn ops L g = true) (hz : tZ E.P t = some cs) (hd : Nat.blt d E.n = true) (k : ∀ b, RJ E ops Q rest D ((d, .pointer (some ⟨b, 0, none⟩)) :: L) (blk b t cs :: C)) :
    RJ E ops Q (⟨some d, .alloc t, ty, ps, af, g⟩ :: rest) D L C := by
  refine r_new (V := fun b => .pointer (some ⟨b, 0, none⟩)) (t := t) (cs := cs) (by exact hg) rfl (by simp) hd (fun a w hfr _ => ?_) k
  unfold tZ at hz
  cases hi : E.P.info? t with
  | none => simp [hi] at hz
  | some i =>
    cases hzz : i.zero with
    | none => simp [hi, hzz] at hz
    | some z =>
      simp only [hi, hzz, Option.bind_some, Option.map_some, Option.some.injEq] at hz
      subst hz
      simp [execOp, Instr.alloc, zeroValue, typeInfo, hi, hzz, newVar, newRow]
theorem r_box {t : TypeId} {x : Operand} {v : Value} {cs : List Value} (hg : gOn ops L g = true) (hx : ev L x = some v) (hv : v.cells.toList = cs) (hd : Nat.blt d E.n = true) (k : ∀ b, RJ E ops Q rest D ((d, .pointer (some ⟨b, 0, none⟩)) :: L) (blk b t cs :: C)) :
    RJ E ops Q (⟨some d, .box t x, ty, ps, af, g⟩ :: rest) D L C := by
  refine r_new (V := fun b => .pointer (some ⟨b, 0, none⟩)) (t := t) (cs := cs) (by exact hg) rfl (by simp) hd (fun a w hfr _ => ?_) k
  subst hv
  simp [execOp, Instr.box, hfr.ev hx, newVar, newRow]
theorem r_bs0 {t e sz : Nat} (hg : gOn ops L g = true) (ht : tE E.P t = some (e, sz)) (hd : Nat.blt d E.n = true) (k : ∀ b, RJ E ops Q rest D ((d, .slice (some ⟨b, 0, none⟩) 0 0) :: L) (blk b e [] :: C)) :
    RJ E ops Q (⟨some d, .buildSlice t 0 #[], ty, ps, af, g⟩ :: rest) D L C := by
  refine r_new (V := fun b => .slice (some ⟨b, 0, none⟩) 0 0) (t := e) (cs := []) (by exact hg) rfl (by simp) hd (fun a w hfr _ => ?_) k
  unfold tE at ht
  cases hu : E.P.underlying t with
  | none => simp [hu] at ht
  | some dd =>
    cases dd <;> simp [hu] at ht
    rename_i e'
    cases hi : E.P.info? e' with
    | none => simp [hi] at ht
    | some i =>
      simp only [hi, Option.some.injEq, Prod.mk.injEq] at ht
      obtain ⟨rfl, rfl⟩ := ht
      have h0 : Array.range 0 = #[] := rfl
      simp [execOp, Instr.buildSlice, run_underlying hu, sizeOf, typeInfo, hi, Instr.fill, newRow, h0]
theorem fold_set (off : Nat) : ∀ (xs : List Value) (k : Nat) (cs : Array Value), off + k + xs.length ≤ cs.size →
    ((xs.zipIdx k).foldl (fun (cs : Array Value) (p : Value × Nat) => cs.setIfInBounds (off + p.2) p.1) cs).toList = cs.toList.take (off + k) ++ xs ++ cs.toList.drop (off + k + xs.length) := by
  intro xs
  induction xs with
  | nil => intro k cs h; simp
  | cons x xs ih =>
    intro k cs h
    simp only [List.length_cons] at h
    simp only [List.zipIdx_cons, List.foldl_cons]
    rw [ih (k + 1) _ (by simp; omega)]
    have h1 : (cs.setIfInBounds (off + k) x).toList = cs.toList.set (off + k) x := by simp
    rw [h1]
    have hk : off + k < cs.toList.length := by simp; omega
    rw [show off + (k + 1) = off + k + 1 from by omega, List.take_add_one, List.take_set_of_le (Nat.le_refl _), List.getElem?_set_self hk, List.drop_set_of_lt (by omega)]
    simp [Nat.add_assoc, Nat.add_comm, Nat.add_left_comm]
/-- the cells of so many elements -/
theorem fill_all {sz : Nat} : ∀ (vs : List Value) (k : Nat) (cs : Array Value), (∀ v ∈ vs, v.cells.size = sz) → cs.size = (k + vs.length) * sz →
    ∃ r, Instr.fill (fun i => some (i * sz, sz)) cs ((vs.zipIdx k).map fun p => (p.2, p.1)) = some r ∧ r.toList = cs.toList.take (k * sz) ++ (vs.map (·.cells.toList)).flatten := by
  intro vs
  induction vs with
  | nil => intro k cs _ hs; exact ⟨cs, rfl, by simp at hs; rw [← hs, List.take_of_length_le (by simp)]; simp⟩
  | cons v vs ih =>
    intro k cs hv hs
    have hv0 := hv v (by simp)
    have hle : k * sz + sz ≤ cs.size := by
      rw [hs, ← Nat.succ_mul]
      exact Nat.mul_le_mul_right _ (by simp)
    have hf := fold_set (k * sz) v.cells.toList 0 cs (by simp [hv0]; exact hle)
    obtain ⟨r, h1, h2⟩ := ih (k + 1) (v.cells.toList.zipIdx.foldl (fun (cs : Array Value) (p : Value × Nat) => cs.setIfInBounds (k * sz + p.2) p.1) cs) (fun u hu => hv u (by simp [hu])) (by
      have hl := congrArg List.length hf
      simp only [Array.length_toList] at hl
      rw [hl]
      simp [hv0] at hs ⊢
      rw [show k + 1 + vs.length = k + (vs.length + 1) from by omega, ← hs]
      omega)
    refine ⟨r, ?_, ?_⟩
    · simp only [List.zipIdx_cons, List.map_cons, Instr.fill]
      rw [if_neg (by simp [hv0]; omega)]
      rw [← h1]
      congr 1
      rw [← Array.foldl_toList]
      simp [Array.toList_zipIdx]
    · rw [h2, hf]
      simp only [Nat.add_zero, List.map_cons, List.flatten_cons]
      rw [show (k + 1) * sz = k * sz + sz from Nat.succ_mul k sz]
      have hlen : (cs.toList.take (k * sz) ++ v.cells.toList).length = k * sz + sz := by simp [hv0]; omega
      rw [List.take_append_of_le_length (by rw [hlen]; omega), List.take_of_length_le (by rw [hlen]; omega)]
      simp
theorem r_bs {t e sz n : Nat} {xs : List Operand} {vs : List Value} {cs zs : List Value} (hg : gOn ops L g = true) (ht : tE E.P t = some (e, sz)) (hz : tZ E.P e = some zs) (hx : evs L xs = some vs) (hn : xs.length = n) (hp : Nat.blt 0 (n * sz) = true) (hb : Nat.ble (n * sz) 16777216 = true) (hv : ∀ v ∈ vs, v.cells.size = sz)
    (hc : (vs.map (·.cells.toList)).flatten = cs) (hd : Nat.blt d E.n = true) (k : ∀ b, RJ E ops Q rest D ((d, .slice (some ⟨b, 0, none⟩) n n) :: L) (blk b e cs :: C)) :
    RJ E ops Q (⟨some d, .buildSlice t n ((xs.zipIdx.map fun p => (p.2, p.1)).toArray), ty, ps, af, g⟩ :: rest) D L C := by
  refine r_new (V := fun b => .slice (some ⟨b, 0, none⟩) n n) (t := e) (cs := cs) (by exact hg) rfl (by simp) hd (fun a w hfr _ => ?_) k
  have hlen : vs.length = n := by
    have := hfr.evs hx
    rw [← this, List.length_map, hn]
  unfold tE at ht
  cases hu : E.P.underlying t with
  | none => simp [hu] at ht
  | some dd =>
    cases dd <;> simp [hu] at ht
    rename_i e'
    cases hi : E.P.info? e' with
    | none => simp [hi] at ht
    | some i =>
      simp only [hi, Option.some.injEq, Prod.mk.injEq] at ht
      obtain ⟨rfl, rfl⟩ := ht
      cases hzz : i.zero with
      | none => simp [tZ, hi, hzz] at hz
      | some z =>
        have hA : ((xs.zipIdx.map fun p => (p.2, p.1)).toArray.map fun ((i, x) : Nat × Operand) => (i, a.eval x)) = ((vs.zipIdx 0).map fun p => (p.2, p.1)).toArray := by
          rw [← hfr.evs hx]
          apply Array.ext'
          simp [List.zipIdx_map]
        obtain ⟨r, hr1, hr2⟩ := fill_all (sz := i.size) vs 0 ((Array.range (n * i.size)).map fun j => (if n * i.size = 0 then #[] else z.cells)[j % (if n * i.size = 0 then (#[] : Array Value) else z.cells).size]!) hv (by simp [hlen])
        simp only [Nat.zero_mul, List.take_zero, List.nil_append, hc] at hr2
        have hrr : r = cs.toArray := by rw [← hr2]
        subst hrr
        have hb' : ¬ (n * i.size > 2 ^ 24) := by have := Nat.le_of_ble_eq_true hb; omega
        have hzero : ¬ n * i.size = 0 := by rw [Nat.blt_eq] at hp; omega
        simp only [hzero, if_false] at hr1
        simp only [execOp, hA, Instr.buildSlice, Sem.run_bind, run_underlying hu, Result.andThen_ok, sizeOf, typeInfo, run_program, hi, Sem.run_pure, hzero, if_false, hb', zeroValue, hzz, hr1]
        simp [newRow]
theorem bld_fill {place : Nat → Option (Nat × Nat)} {pl : List (Nat × Nat)} (hp : ∀ i x, pl[i]? = some x → place i = some x) : ∀ (parts : List (Nat × Value)) (z : Array Value) (cs : List Value), bld z.toList pl parts = some cs → ∃ r, Instr.fill place z parts = some r ∧ r.toList = cs := by
  intro parts
  induction parts with
  | nil => intro z cs h; exact ⟨z, rfl, by simpa [bld] using h⟩
  | cons p rest ih =>
    obtain ⟨i, v⟩ := p
    intro z cs h
    simp only [bld] at h
    cases hi : pl[i]? with
    | none => simp [hi] at h
    | some x =>
      obtain ⟨off, sz⟩ := x
      simp only [hi] at h
      split at h
      · rename_i hc
        have hs : v.cells.size = sz := by simpa using hc.1
        have hz : off + sz ≤ z.size := by simpa using hc.2
        have hf := fold_set off v.cells.toList 0 z (by simp [hs]; exact hz)
        simp only [Nat.add_zero, Array.length_toList, hs] at hf
        rw [← hf] at h
        obtain ⟨r, h1, h2⟩ := ih _ cs h
        refine ⟨r, ?_, h2⟩
        simp only [Instr.fill, hp i _ hi]
        rw [if_neg (by simp [hs]; omega), ← h1]
        congr 1
        rw [← Array.foldl_toList]
        simp [Array.toList_zipIdx]
      · cases h
theorem built_of {P : Program} {t : TypeId} {z : List Value} {pl : List (Nat × Nat)} {parts : List (Nat × Value)} {cs : List Value} (h : tB P t = some (z, pl)) (hb : bld z pl parts = some cs) : (P.built t parts).map (·.toList) = some cs := by
  unfold tB at h
  unfold Program.built
  cases hit : P.info? t with
  | none => simp [hit] at h
  | some it =>
    cases hu : P.underlying t with
    | none => simp [hit, hu] at h
    | some d =>
      cases hz : it.zero with
      | none => cases d <;> simp [hit, hu, hz] at h
      | some zv =>
        cases d <;> try (simp [hit, hu] at h; done)
        case array n e =>
          cases hie : P.info? e with
          | none => simp [hit, hu, hz, hie] at h
          | some ie =>
            simp only [hit, hu, hz, hie, Option.some.injEq, Prod.mk.injEq] at h
            obtain ⟨h1, h2⟩ := h
            subst h1 h2
            obtain ⟨r, hr1, hr2⟩ := bld_fill (place := fun i => some (i * ie.size, ie.size)) (fun i x hi => by
              rw [List.getElem?_map] at hi
              cases hg : (List.range n)[i]? with
              | none => simp [hg] at hi
              | some j =>
                have hj : j = i := by
                  have := (List.getElem?_eq_some_iff.1 hg).2
                  simpa using this.symm
                subst hj
                simpa [hg] using hi) parts zv.cells cs hb
            simp only [hz, hie, hr1, Option.map_some, hr2]
        case struct fields =>
          cases hp : fields.toList.mapM (fun f => (P.info? f.type).map fun i => (f.offset, i.size)) with
          | none => simp [hit, hu, hz, hp] at h
          | some places =>
            simp only [hit, hu, hz, hp, Option.some.injEq, Prod.mk.injEq] at h
            obtain ⟨h1, h2⟩ := h
            subst h1 h2
            obtain ⟨r, hr1, hr2⟩ := bld_fill (place := (places.toArray[·]?)) (fun i x hi => by simpa using hi) parts zv.cells cs hb
            simp only [hz, hp, hr1, Option.map_some, hr2]
theorem sd_build {t : TypeId} {xs : List (Nat × Operand)} {vs : List Value} {cs : List Value} (hg : gOn ops L g = true) (hx : evs L (xs.map (·.2)) = some vs) (hb : (E.P.built t ((xs.map (·.1)).zip vs)).map (·.toList) = some cs) :
    SD E ops ⟨dst, .build t xs.toArray, ty, ps, af, g⟩ D L C (.agg cs.toArray) :=
  sd_pure hg (by simp) fun a w hf _ => by
    have hA : (xs.toArray.map fun ((i, x) : Nat × Operand) => (i, a.eval x)) = ((xs.map (·.1)).zip vs).toArray := by
      rw [← hf.evs hx]
      apply Array.ext'
      simp [List.zip_map', List.map_map]
    obtain ⟨cells, hc, hcc⟩ := Option.map_eq_some_iff.1 hb
    have hcells : cells = cs.toArray := by rw [← hcc]
    subst hcells
    have h1 := run_build (P := E.P) w t (((xs.map (·.1)).zip vs).toArray) cs.toArray (by simpa using hc)
    simp only [execOp, hA, Sem.run_bind, h1, Result.andThen_ok, Sem.run_pure]
theorem sd_field1 {t : TypeId} {x : Operand} {cs : List Value} {f o n : Nat} {v : Value} (hg : gOn ops L g = true) (hx : ev L x = some (.agg cs.toArray)) (hf : fOff E.P t f = some o) (ht : (match E.P.underlying t with | some (.struct fs) => (fs[f]?).map (fun fl => tK E.P fl.type) | _ => none) = some (some (false, n)))
    (hv : cs[o]? = some v) : SD E ops ⟨dst, .field t x f, ty, ps, af, g⟩ D L C v :=
  sd_pure hg (by simp) fun a w hfr _ => by
    unfold fOff at hf
    cases hu : E.P.underlying t with
    | none => simp [hu] at hf
    | some dd =>
      cases dd <;> simp [hu] at hf
      rename_i fs
      cases hff : fs[f]? with
      | none => simp [hff] at hf
      | some fl =>
        simp only [hu, hff, Option.map_some, Option.some.injEq] at ht
        simp only [hff] at hf
        cases hi : E.P.info? fl.type with
        | none => simp [hi] at hf
        | some i =>
          simp only [hi] at hf
          by_cases hz : i.size = 0
          · simp [hz] at hf
          · simp only [hz, if_false, Option.some.injEq] at hf
            subst hf
            simp [execOp, hfr.ev hx, Instr.field, run_underlying hu, hff, asAgg, part, (tK_one ht w).1, hv]
theorem sd_extract {x : Operand} {vs : List Value} {i : Nat} {v : Value} (hg : gOn ops L g = true) (hx : ev L x = some (.tuple vs.toArray)) (hv : vs[i]? = some v) : SD E ops ⟨dst, .extract x i, ty, ps, af, g⟩ D L C v :=
  sd_pure hg (by simp) fun a w hf _ => by simp [execOp, hf.ev hx, Instr.extract, hv]
theorem sd_func {fn : Fn} {xs ys : Array Operand} {us vs : List Value} (hg : gOn ops L g = true) (hx : evs L xs.toList = some us) (hy : evs L ys.toList = some vs) : SD E ops ⟨dst, .makeFunc fn xs ys, ty, ps, af, g⟩ D L C (.func fn us.toArray vs.toArray) :=
  sd_pure hg (by simp) fun a w hf _ => by
    have h1 : xs.map a.eval = us.toArray := Array.ext' (by simp [hf.evs hx])
    have h2 : ys.map a.eval = vs.toArray := Array.ext' (by simp [hf.evs hy])
    simp [execOp, Instr.makeFunc, h1, h2]
theorem run_storeCells {P : Program} {b t : Nat} : ∀ (vs : List Value) (cs : List Value) (o i : Nat) (w : World), (∀ v ∈ vs, v.oneCell' = true) → o + i + vs.length ≤ cs.length → w.heap[b]? = some (.cells cs.toArray t (0, 0)) →
    ∃ w', (storeCells ⟨b, o, none⟩ vs i).run P w = .ok () w' ∧ w'.heap[b]? = some (.cells (cs.take (o + i) ++ vs ++ cs.drop (o + i + vs.length)).toArray t (0, 0)) ∧ Keeps (only b) w w' := by
  intro vs
  induction vs with
  | nil => intro cs o i w _ _ h; exact ⟨w, by simp [storeCells], by simpa using h, Keeps.refl _ _⟩
  | cons v vs ih =>
    intro cs o i w hv hl h
    simp only [List.length_cons] at hl
    have hlt := lt_of_heap h
    have hcell : w.cell? ((⟨b, o, none⟩ : Addr).add i) = some (cs[o + i]'(by omega)) := by
      rw [add_plain, cell_of_row w b _ cs.toArray t (0, 0) h]
      simp
    have hfz : w.frozen? ((⟨b, o, none⟩ : Addr).add i) = false := by rw [add_plain]; simp [World.frozen?, h]
    have hset : (w.setCell ((⟨b, o, none⟩ : Addr).add i) v).heap[b]? = some (.cells (cs.set (o + i) v).toArray t (0, 0)) := by
      rw [add_plain]
      simp [World.setCell, Array.getElem?_modify, h]
    have hkeep : Keeps (only b) w (w.setCell ((⟨b, o, none⟩ : Addr).add i) v) := ⟨rfl, rfl, rfl, by simp [World.setCell], fun k hk hn => Below.heap_setCell _ _ _ _ (by rw [add_block]; exact hn)⟩
    obtain ⟨w', h1, h2, h3⟩ := ih (cs.set (o + i) v) o (i + 1) _ (fun u hu => hv u (by simp [hu])) (by simp; omega) hset
    refine ⟨w', ?_, ?_, hkeep.trans h3⟩
    · have hv0 := hv v (by simp)
      have hst : (store ((⟨b, o, none⟩ : Addr).add i) v).run P w = .ok () (w.setCell ((⟨b, o, none⟩ : Addr).add i) v) := by
        rw [run_store P w _ v _ (by simpa [Value.oneCell'] using hv0)]
        simp [hcell, hfz]
      simp only [storeCells, Sem.run_bind, hst, Result.andThen_ok, h1]
    · rw [h2]
      congr 3
      rw [show o + (i + 1) = o + i + 1 from by omega, List.take_add_one, List.take_set_of_le (Nat.le_refl _), List.getElem?_set_self (by omega), List.drop_set_of_lt (by omega)]
      simp [Nat.add_assoc, Nat.add_comm, Nat.add_left_comm]
theorem St.upd {S : BS} {w0 w w' : World} {b : Nat} {A A' : Assn} (i : Nat) (h : St S w0 C w) (hC : C[i]? = some A) (hA : A.foot b) (hw : A.wr = true) (hk : Keeps (only b) w w') (hA' : ∀ x, A'.foot x → x = b) (hb : A'.holds w') : St S w0 (C.set i A') w' := by
  have hi : i < C.length := (List.getElem?_eq_some_iff.1 hC).1
  have hget : C[i] = A := (List.getElem?_eq_some_iff.1 hC).2
  have hAw := A.whole hw b hA
  have hown := h.own A (List.mem_of_getElem? hC) b hAw
  have hseen := h.seen A (List.mem_of_getElem? hC) b hA
  have hsep : ∀ j (hj : j < C.length), j ≠ i → ∀ x, (C[j]).foot x → x ≠ b := by
    intro j hj hne x hx he
    subst he
    rcases Nat.lt_or_gt_of_ne hne with hlt | hlt
    · have := List.pairwise_iff_getElem.1 h.sep j i hj hi hlt
      rw [hget] at this
      exact (this x hx hA).2 hAw
    · have := List.pairwise_iff_getElem.1 h.sep i j hi hj hlt
      rw [hget] at this
      exact (this x hA hx).1 hAw
  refine ⟨?_, ?_, ?_, ?_, ?_⟩
  · refine ⟨hk.os.trans h.keeps.os, hk.tape.trans h.keeps.tape, hk.output.trans h.keeps.output, Nat.le_trans h.keeps.size hk.size, fun k hkk hn => ?_⟩
    have hne : ¬ only b k := by
      rintro rfl
      rcases hown with h1 | h1
      · omega
      · exact hn h1
    exact (hk.block k (Nat.lt_of_lt_of_le hkk h.keeps.size) hne).trans (h.keeps.block k hkk hn)
  · intro B hB
    obtain ⟨j, hj, hjB⟩ := List.mem_iff_getElem.1 hB
    rw [List.getElem_set] at hjB
    split at hjB
    · subst hjB; exact hb
    · rename_i hne
      subst hjB
      have hj' : j < C.length := by simpa using hj
      have hm : C[j] ∈ C := List.getElem_mem hj'
      refine (C[j]).keep w w' (fun x hx => hk.block x ((C[j]).lt w (h.holds _ hm) x hx) ?_) (h.holds _ hm)
      exact hsep j hj' (Ne.symm hne) x hx
  · rw [List.pairwise_iff_getElem]
    intro p q hp hq hpq
    have hp' : p < C.length := by simpa using hp
    have hq' : q < C.length := by simpa using hq
    have hs := List.pairwise_iff_getElem.1 h.sep p q hp' hq' hpq
    rw [List.getElem_set, List.getElem_set]
    split
    · rename_i e1; subst e1
      rw [if_neg (by omega)]
      intro x hx hx'
      exact absurd (hA' x hx) (hsep q hq' (by omega) x hx')
    · split
      · rename_i e1; subst e1
        intro x hx hx'
        exact absurd (hA' x hx') (hsep p hp' (by omega) x hx)
      · exact hs
  · intro B hB x hx
    obtain ⟨j, hj, hjB⟩ := List.mem_iff_getElem.1 hB
    rw [List.getElem_set] at hjB
    split at hjB
    · subst hjB
      have := hA' x (A'.wfoot x hx)
      subst this; exact hown
    · subst hjB
      exact h.own _ (List.getElem_mem _) x hx
  · intro B hB x hx
    obtain ⟨j, hj, hjB⟩ := List.mem_iff_getElem.1 hB
    rw [List.getElem_set] at hjB
    split at hjB
    · subst hjB
      have := hA' x hx
      subst this; exact hseen
    · subst hjB
      exact h.seen _ (List.getElem_mem _) x hx
theorem St.store {S : BS} {w0 w w' : World} {b t : Nat} {cs cs' : List Value} (i : Nat) (h : St S w0 C w) (hC : C[i]? = some (blk b t cs)) (hk : Keeps (only b) w w') (hb : w'.heap[b]? = some (.cells cs'.toArray t (0, 0))) : St S w0 (C.set i (blk b t cs')) w' :=
  h.upd i hC rfl rfl hk (fun _ h => h) hb
theorem r_store {t n b o tt : Nat} {x y : Operand} {v : Value} {vs cs cs' : List Value} {C' : List Assn} (i : Nat) (hg : gOn ops L g = true) (hx : ev L x = some (.pointer (some ⟨b, o, none⟩))) (hy : ev L y = some v) (ht : (tK E.P t).map (·.2) = some n) (hv : v.cells.toList = vs) (hn : vs.length = n)
    (h1 : vs.all Value.oneCell' = true) (hC : C[i]? = some (blk b tt cs)) (hl : Nat.ble (o + n) cs.length = true) (hcs : cs.take o ++ vs ++ cs.drop (o + n) = cs') (hC' : C.set i (blk b tt cs') = C') (k : RJ E ops Q rest D L C') :
    RJ E ops Q (⟨none, .store t x y, ty, ps, af, g⟩ :: rest) D L C := by
  intro a w hfr hs
  unfold wpL
  rw [if_pos (gOn_wanted hfr hg)]
  have hl' := Nat.le_of_ble_eq_true hl
  obtain ⟨w', hr, hb', hk⟩ := run_storeCells (P := E.P) vs cs o 0 w (fun v hv => List.all_eq_true.1 h1 v hv) (by rw [hn]; exact hl') (hs.holds _ (List.mem_of_getElem? hC))
  have hsize : (sizeOf t).run E.P w = .ok n w := by
    obtain ⟨bn, hbn, rfl⟩ := Option.map_eq_some_iff.1 ht
    obtain ⟨bb, nn⟩ := bn
    cases bb
    · exact (tK_one hbn w).2
    · exact (tK_agg hbn w).2
  have hvs : v.cells.size = n := by rw [← hn, ← hv]; simp
  refine wp_skip (by simp) (w' := w') ?_ ?_
  · simp [execOp, hfr.ev hx, hfr.ev hy, Instr.storeAt, Instr.sureAddr, storeVar, hsize, hvs, hv, hr]
  · refine k _ _ ⟨hfr.defers, hfr.size, hfr.at_⟩ ?_
    rw [← hC']
    refine hs.store i hC hk ?_
    rw [hb']
    simp only [Nat.add_zero, hn, hcs]
end
end
section
open Go.RowKit
set_option linter.unusedVariables false
def sel (C : List Assn) (is : List Nat) : List Assn := is.filterMap (C[·]?)
theorem sel_mem {C : List Assn} {is : List Nat} {A : Assn} (h : A ∈ sel C is) : A ∈ C := by
  obtain ⟨i, _, hi⟩ := List.mem_filterMap.1 h
  exact List.mem_of_getElem? hi
theorem sel_sep {C : List Assn} (hC : C.Pairwise Sep) : ∀ {is : List Nat}, is.Nodup → (sel C is).Pairwise Sep := by
  intro is
  induction is with
  | nil => intro _; exact List.Pairwise.nil
  | cons i is ih =>
    intro hn
    rw [List.nodup_cons] at hn
    unfold sel
    cases hi : C[i]? with
    | none => simp only [List.filterMap_cons, hi]; exact ih hn.2
    | some A =>
      simp only [List.filterMap_cons, hi]
      refine List.Pairwise.cons (fun B hB => ?_) (ih hn.2)
      obtain ⟨j, hj, hjB⟩ := List.mem_filterMap.1 hB
      have hne : i ≠ j := fun e => hn.1 (e ▸ hj)
      obtain ⟨hi1, hi2⟩ := List.getElem?_eq_some_iff.1 hi
      obtain ⟨hj1, hj2⟩ := List.getElem?_eq_some_iff.1 hjB
      rcases Nat.lt_or_gt_of_ne hne with h | h
      · have := List.pairwise_iff_getElem.1 hC i j hi1 hj1 h
        rwa [hi2, hj2] at this
      · have := List.pairwise_iff_getElem.1 hC j i hj1 hi1 h
        rw [hi2, hj2] at this
        exact Sep.symm this
theorem nodup_of {is : List Nat} (h : decide is.Nodup = true) : is.Nodup := of_decide_eq_true h
theorem St.sel {S : BS} {w0 w : World} {C C' : List Assn} (is : List Nat) (hn : decide is.Nodup = true) (hC : Go.Proofs.YthiigjekcdjkkaaGreat.sel C is = C') (h : St S w0 C w) : St S w0 C' w := by
  subst hC
  exact h.sub (sel_sep h.sep (nodup_of hn)) (fun A hA => sel_mem hA)
def mark (r : Nat) : Deferred := { target := .collected r, args := #[] }
/-- what is asked where a function is left -/
def LJ (E : Env) (fn : Func) (R : Ending → World → Prop) (D : List Deferred) (L : List (Nat × Value)) (C : List Assn) : Prop :=
  ∀ a w, Fr E.n D L a → St E.S E.w0 C w → LeavesInM (Fw none) 0 E.P fn a.tmps R D .returning w
def ResV (P : Program) (L : List (Nat × Value)) (C : List Assn) : List ResultVar → List Value → Prop
  | [], [] => True
  | .tmp t :: rs, v :: vs => L.lookup t = some v ∧ ResV P L C rs vs
  | .cell a t :: rs, v :: vs => (∃ A, L.lookup a = some (.pointer A) ∧ ((∃ n us, tK P t = some (true, n) ∧ At C A us ∧ us.length = n ∧ v = .agg us.toArray) ∨ (∃ n, tK P t = some (false, n) ∧ At C A [v]))) ∧ ResV P L C rs vs
  | _, _ => False
def tup (vs : List Value) : Value := match vs with | [v] => v | _ => .tuple vs.toArray
theorem run_loadAt_one {P : Program} {t n : Nat} {A : Option Addr} {v : Value} {w : World} (ht : tK P t = some (false, n)) (h : ∃ ad, A = some ad ∧ ∀ j u, [v][j]? = some u → w.cell? (ad.add j) = some u) : (do loadVar t (← asAddr (.pointer A)) : Sem Value).run P w = .ok v w := by
  obtain ⟨ad, rfl, hc⟩ := h
  have h0 : w.cell? ad = some v := by simpa [Addr.add] using hc 0 v rfl
  simp [asAddr, loadVar, (tK_one ht w).1, h0]
theorem run_loadAt_agg {P : Program} {t n : Nat} {A : Option Addr} {us : List Value} {w : World} (ht : tK P t = some (true, n)) (hn : us.length = n) (h : ∃ ad, A = some ad ∧ ∀ j u, us[j]? = some u → w.cell? (ad.add j) = some u) : (do loadVar t (← asAddr (.pointer A)) : Sem Value).run P w = .ok (.agg us.toArray) w := by
  obtain ⟨ad, rfl, hc⟩ := h
  have hl : (loadCells ad n).run P w = .ok us.toArray w := by rw [← hn]; exact run_loadCells_list w ad us hc
  simp [asAddr, loadVar, (tK_agg ht w).1, (tK_agg ht w).2, hl]
theorem run_resv {P : Program} {L : List (Nat × Value)} {C : List Assn} {tmps : Array Value} {w : World} (hL : ∀ t v, L.lookup t = some v → tmps[t]? = some v) (hw : ∀ A ∈ C, A.holds w) : ∀ (rs : List ResultVar) (vs : List Value), ResV P L C rs vs →
    (rs.mapM (fun
      | .tmp t => pure (tmps.getD t undef)
      | .cell a t => do loadVar t (← asAddr (tmps.getD a undef)) : ResultVar → Sem Value)).run P w = .ok vs w := by
  intro rs
  induction rs with
  | nil => intro vs h; cases vs with | nil => simp | cons v vs => exact h.elim
  | cons r rs ih =>
    intro vs h
    cases vs with
    | nil => cases r <;> exact h.elim
    | cons v vs =>
      cases r with
      | tmp t =>
        obtain ⟨h1, h2⟩ := h
        have hg : tmps.getD t undef = v := by simp [hL t v h1]
        simp only [List.mapM_cons, Sem.run_bind, hg, Sem.run_pure, Result.andThen_ok, ih vs h2]
      | cell a t =>
        obtain ⟨⟨A, h1, h3⟩, h2⟩ := h
        have hg : tmps.getD a undef = .pointer A := by simp [hL a _ h1]
        have hl : (do loadVar t (← asAddr (.pointer A)) : Sem Value).run P w = .ok v w := by
          rcases h3 with ⟨n, us, ht, hat, hn, rfl⟩ | ⟨n, ht, hat⟩
          · exact run_loadAt_agg ht hn (hat w hw)
          · exact run_loadAt_one ht (hat w hw)
        rw [← hg] at hl
        simp only [List.mapM_cons]
        rw [Sem.run_bind, hl]
        simp only [Result.andThen_ok, Sem.run_bind, ih vs h2, Sem.run_pure]
theorem run_results {P : Program} {fn : Func} {L : List (Nat × Value)} {C : List Assn} {tmps : Array Value} {w : World} {vs : List Value} (hL : ∀ t v, L.lookup t = some v → tmps[t]? = some v) (hw : ∀ A ∈ C, A.holds w) (h : ResV P L C fn.results.toList vs) : (results fn tmps).run P w = .ok (tup vs) w := by
  have h1 := run_resv hL hw _ _ h
  unfold results
  rw [Array.mapM_eq_mapM_toList]
  generalize (fn.results.toList.mapM _ : Sem (List Value)) = m at h1 ⊢
  match vs with
  | [] => simp [tup, h1]
  | [v] => simp [tup, h1]
  | u :: v :: vs => simp [tup, h1]
theorem l_nil {E : Env} {fn : Func} {R : Ending → World → Prop} {L : List (Nat × Value)} {C : List Assn} {vs : List Value} (h : ResV E.P L C fn.results.toList vs) (hR : ∀ w, St E.S E.w0 C w → R (.returned (tup vs)) w) : LJ E fn R [] L C :=
  fun a w hf hs => ⟨_, run_results hf.at_ hs.holds h, hR w hs⟩
theorem keeps_putObj {w : World} {b : Nat} (o : Obj) : Keeps (only b) w (w.putObj b o) := ⟨rfl, rfl, rfl, by simp [World.putObj], fun k _ hn => World.putObj_heap_other hn⟩
theorem l_mark {E : Env} {fn : Func} {R : Ending → World → Prop} {D : List Deferred} {L : List (Nat × Value)} {C C' : List Assn} {r : Nat} (i : Nat) (hC : C[i]? = some (obj r (.deferred (some [])))) (hC' : C.set i (obj r (.deferred none)) = C') (h : LJ E fn R D L C') : LJ E fn R (mark r :: D) L C := by
  intro a w hf hs
  have hb : w.heap[r]? = some (.deferred (some [])) := hs.holds _ (List.mem_of_getElem? hC)
  refine ⟨by simp, .inl ⟨r, _, rfl, run_takeDeferred hb, ?_⟩⟩
  refine h { a with defers := D } _ ⟨rfl, hf.size, hf.at_⟩ ?_
  rw [← hC']
  exact hs.upd i hC rfl rfl (keeps_putObj _) (fun _ h => h) (World.putObj_heap_same (lt_of_heap hb))
/-- the contract's end, out of the state -/
def EndX (w0 : World) {α : Type} (V : α → Value) (p : α → Prop) (N : α → List Assn) (e : Ending) (w' : World) : Prop := ∃ x, e = .returned (V x) ∧ p x ∧ Keeps no w0 w' ∧ New w0 w' (N x)
theorem endX {w0 w : World} {C : List Assn} {α : Type} {V : α → Value} {p : α → Prop} {N : α → List Assn} {v : Value} (x : α) (is : List Nat) (hV : v = V x) (hp : p x) (hn : decide is.Nodup = true) (hN : sel C is = N x) (hw : (N x).all (·.wr) = true) (hs : St fnS w0 C w) : EndX w0 V p N (.returned v) w := by
  refine ⟨x, by rw [hV], hp, hs.keeps, ?_⟩
  have h1 := St.sel is hn hN hs
  refine ⟨h1.holds, fun A hA b hb => ?_, h1.sep⟩
  rcases h1.own A hA b (A.whole (List.all_eq_true.1 hw A hA) b hb) with h | h
  · exact h
  · exact h.elim
def EndV (w0 : World) (v : Value) (e : Ending) (w' : World) : Prop := e = .returned v ∧ Keeps no w0 w'
theorem endV {w0 w : World} {C : List Assn} {u v : Value} (h : u = v) (hs : St fnS w0 C w) : EndV w0 v (.returned u) w := ⟨by rw [h], hs.keeps⟩
def fr0 (args : List Value) : List (Nat × Value) := (args.zipIdx 0).map fun p => (p.2, p.1)
theorem lookup_zip : ∀ (args : List Value) (k t : Nat) (v : Value), ((args.zipIdx k).map fun p => (p.2, p.1)).lookup t = some v → k ≤ t ∧ args[t - k]? = some v := by
  intro args
  induction args with
  | nil => intro k t v h; simp at h
  | cons x xs ih =>
    intro k t v h
    simp only [List.zipIdx_cons, List.map_cons, List.lookup] at h
    by_cases e : t = k
    · subst e; simp at h; subst h; simp
    · have : (t == k) = false := by simpa using e
      rw [this] at h
      obtain ⟨h1, h2⟩ := ih (k + 1) t v h
      refine ⟨by omega, ?_⟩
      rw [show t - k = (t - (k + 1)) + 1 from by omega]
      simpa using h2
theorem ro_holds {Cp : List Assn} {w : World} (h : ∀ A ∈ Cp, A.holds w) : St fnS w (Cp.map Assn.ro) w := by
  refine ⟨Keeps.refl _ _, fun A hA => ?_, ?_, fun A hA b hb => ?_, fun A hA b hb => .inr trivial⟩
  · obtain ⟨B, hB, rfl⟩ := List.mem_map.1 hA; exact h B hB
  · refine List.pairwise_of_forall_mem_list fun A hA B hB b _ _ => ?_
    obtain ⟨A', _, rfl⟩ := List.mem_map.1 hA
    obtain ⟨B', _, rfl⟩ := List.mem_map.1 hB
    exact ⟨fun h => h, fun h => h⟩
  · obtain ⟨B, _, rfl⟩ := List.mem_map.1 hA; exact hb.elim
theorem fn_of {P : Program} {f : FuncId} {fn : Func} {c : Code} {args : List Value} {Cp : List Assn} {R : World → Ending → World → Prop} (hf : P.funcs[f]? = some fn) (hb : fn.body = some c) (hn : Nat.ble args.length fn.ntmps = true)
    (h : ∀ (w0 : World) (Q : Post), (∀ D L C, LJ ⟨P, none, fn.ntmps, fnS, w0⟩ fn (R w0) D L C → KJ ⟨P, none, fn.ntmps, fnS, w0⟩ (Q .ret) D L C) → (∀ D L C, LJ ⟨P, none, fn.ntmps, fnS, w0⟩ fn (R w0) D L C → KJ ⟨P, none, fn.ntmps, fnS, w0⟩ (Q .normal) D L C) →
      WJ ⟨P, none, fn.ntmps, fnS, w0⟩ c Q [] (fr0 args) (Cp.map Assn.ro)) (w : World) (hw : ∀ A ∈ Cp, A.holds w) : Calls P f args.toArray w (R w) := by
  refine calls_of_in (callsIn_of_wp_marks hf hb trivial ?_ rfl)
  have hle := Nat.le_of_ble_eq_true hn
  refine h w (bodyPostM (Fw none) 0 P fn (R w)) ?_ ?_ _ w ⟨rfl, by simp; omega, fun t v hv => ?_⟩ (ro_holds hw)
  · intro D L C hl a w' hf' hs'
    have := hl a w' hf' hs'
    show LeavesInM (Fw none) 0 P fn a.tmps (R w) a.defers .returning w'
    rw [hf'.defers]; exact this
  · intro D L C hl a w' hf' hs'
    have := hl a w' hf' hs'
    show LeavesInM (Fw none) 0 P fn a.tmps (R w) a.defers .returning w'
    rw [hf'.defers]; exact this
  · obtain ⟨_, h2⟩ := lookup_zip args 0 t v hv
    have ht : t < args.length := by
      have := (List.getElem?_eq_some_iff.1 h2).1; omega
    simp only [Nat.sub_zero] at h2
    rw [Array.getElem?_append_left (by simpa using ht)]
    simpa using h2
theorem fnV_of {P : Program} {f : FuncId} {fn : Func} {c : Code} {args : List Value} {Cp : List Assn} {v : Value} (hgo : isGo P f = true) (hf : P.funcs[f]? = some fn) (hb : fn.body = some c) (hn : Nat.ble args.length fn.ntmps = true)
    (h : ∀ (w0 : World) (Q : Post), (∀ D L C, LJ ⟨P, none, fn.ntmps, fnS, w0⟩ fn (EndV w0 v) D L C → KJ ⟨P, none, fn.ntmps, fnS, w0⟩ (Q .ret) D L C) → (∀ D L C, LJ ⟨P, none, fn.ntmps, fnS, w0⟩ fn (EndV w0 v) D L C → KJ ⟨P, none, fn.ntmps, fnS, w0⟩ (Q .normal) D L C) →
      WJ ⟨P, none, fn.ntmps, fnS, w0⟩ c Q [] (fr0 args) (Cp.map Assn.ro)) : FnV P f args Cp v := ⟨hgo, fun w hw => fn_of (R := fun w0 => EndV w0 v) hf hb hn h w hw⟩
theorem fnX_of {P : Program} {f : FuncId} {fn : Func} {c : Code} {args : List Value} {Cp : List Assn} {α : Type} {V : α → Value} {p : α → Prop} {N : α → List Assn} (hgo : isGo P f = true) (hf : P.funcs[f]? = some fn) (hb : fn.body = some c) (hn : Nat.ble args.length fn.ntmps = true)
    (h : ∀ (w0 : World) (Q : Post), (∀ D L C, LJ ⟨P, none, fn.ntmps, fnS, w0⟩ fn (EndX w0 V p N) D L C → KJ ⟨P, none, fn.ntmps, fnS, w0⟩ (Q .ret) D L C) → (∀ D L C, LJ ⟨P, none, fn.ntmps, fnS, w0⟩ fn (EndX w0 V p N) D L C → KJ ⟨P, none, fn.ntmps, fnS, w0⟩ (Q .normal) D L C) →
      WJ ⟨P, none, fn.ntmps, fnS, w0⟩ c Q [] (fr0 args) (Cp.map Assn.ro)) : FnX P f args Cp V p N := ⟨hgo, fun w hw => fn_of (R := fun w0 => EndX w0 V p N) hf hb hn h w hw⟩
end
section
open Go.RowKit
set_option linter.unusedVariables false
/-- a slice of one's own, that may be appended to -/
def own (a : Option Addr) (c : Nat) (e sz : Nat) (es : List (List Value)) : Assn where
  foot b := ∃ ad, a = some ad ∧ b = ad.block
  wf b := ∃ ad, a = some ad ∧ b = ad.block
  holds w := (∀ x ∈ es, x.length = sz) ∧ w.ownsRow 0 e sz (.slice a es.length c) es.length es.flatten
  wr := true
  wfoot _ h := h
  whole _ _ h := h
  lt w h b hb := by
    obtain ⟨ad, rfl, rfl⟩ := hb
    exact (h.2.lt ad.block rfl).2
  keep w w' hk h := by
    refine ⟨h.1, h.2.1, ?_⟩
    rcases h.2.2 with h1 | ⟨g, cap, cur, hv, h2, h3, h4⟩
    · exact .inl h1
    · refine .inr ⟨g, cap, cur, hv, h2, ?_, h4⟩
      injection hv with hv
      subst hv
      rw [hk g ⟨_, rfl, rfl⟩]; exact h3
theorem own_rd {w : World} {a : Option Addr} {c e sz : Nat} {es : List (List Value)} (h : (own a c e sz es).holds w) : (rd a es.length sz es).holds w := by
  obtain ⟨hl, hlen, h2⟩ := h
  rcases h2 with ⟨h1, h0⟩ | ⟨g, cap, cur, hv, _, h3, h4, h5, h6, h7⟩
  · exact ⟨rfl, hl, fun hn => by simp [h0] at hn⟩
  · injection hv with hv
    subst hv
    refine rd_of_blk (cs := cur.toList) (t := e) ?_ rfl hl ⟨cur.toList.drop (es.length * sz), ?_⟩
    · show w.heap[g]? = _
      rw [h3]
    · rw [← h7]; exact List.take_append_drop _ _
theorem has_own {C : List Assn} {a : Option Addr} {c e sz : Nat} {es : List (List Value)} (i : Nat) (hC : C[i]? = some (own a c e sz es)) : Has C (rd a es.length sz es).holds := fun w hw => own_rd (has_at i hC w hw)
theorem own_nil (w : World) (e sz : Nat) : (own none 0 e sz []).holds w := ⟨by simp, by simp, .inl ⟨rfl, rfl⟩⟩
theorem St.own_nil {S : BS} {w0 w : World} {C : List Assn} (h : St S w0 C w) (e sz : Nat) : St S w0 (Go.Proofs.YthiigjekcdjkkaaGreat.own none 0 e sz [] :: C) w := by
  refine ⟨h.keeps, fun A hA => ?_, List.Pairwise.cons (fun B _ b hb => ?_) h.sep, fun A hA b hb => ?_, fun A hA b hb => ?_⟩
  · rcases List.mem_cons.1 hA with rfl | hA
    · exact Go.Proofs.YthiigjekcdjkkaaGreat.own_nil w e sz
    · exact h.holds A hA
  · obtain ⟨ad, h1, _⟩ := hb; cases h1
  · rcases List.mem_cons.1 hA with rfl | hA
    · obtain ⟨ad, h1, _⟩ := hb; cases h1
    · exact h.own A hA b hb
  · rcases List.mem_cons.1 hA with rfl | hA
    · obtain ⟨ad, h1, _⟩ := hb; cases h1
    · exact h.seen A hA b hb
theorem r_own_nil {E : Env} {ops : Array Oper} {Q : Post} {rest : List Oper} {D : List Deferred} {L : List (Nat × Value)} {C : List Assn} (e sz : Nat) (k : RJ E ops Q rest D L (own none 0 e sz [] :: C)) : RJ E ops Q rest D L C := fun a w hf hs => k a w hf (hs.own_nil e sz)
theorem w_own_nil {E : Env} {c : Code} {Q : Post} {D : List Deferred} {L : List (Nat × Value)} {C : List Assn} (e sz : Nat) (k : WJ E c Q D L (own none 0 e sz [] :: C)) : WJ E c Q D L C := fun a w hf hs => k a w hf (hs.own_nil e sz)
theorem blk_own {w : World} {g e : Nat} {cs : List Value} {sz : Nat} {es : List (List Value)} (h : (blk g e cs).holds w) (h2 : ∀ x ∈ es, x.length = sz) (h3 : es.flatten = cs) (hm : es.length ≤ maxLen) : (own (some ⟨g, 0, none⟩) es.length e sz es).holds w := by
  have hl : es.flatten.length = es.length * sz := by
    clear h3 hm
    induction es with
    | nil => simp
    | cons x xs ih =>
      simp only [List.flatten_cons, List.length_append, List.length_cons]
      rw [ih (fun y hy => h2 y (by simp [hy])), h2 x (by simp), Nat.succ_mul, Nat.add_comm]
  refine ⟨h2, hl, .inr ⟨g, es.length, cs.toArray, rfl, Nat.zero_le _, h, Nat.le_refl _, hm, by simp [← h3, hl], ?_⟩⟩
  show List.take (es.length * sz) cs = es.flatten
  rw [← h3, ← hl]
  exact List.take_length
theorem r_blk_own {E : Env} {ops : Array Oper} {Q : Post} {rest : List Oper} {D : List Deferred} {L : List (Nat × Value)} {C C' : List Assn} {g e : Nat} {cs : List Value} {sz : Nat} {es : List (List Value)} (i : Nat) (hC : C[i]? = some (blk g e cs)) (h2 : ∀ x ∈ es, x.length = sz) (h3 : es.flatten = cs) (hm : es.length ≤ maxLen)
    (hC' : C.set i (own (some ⟨g, 0, none⟩) es.length e sz es) = C') (k : RJ E ops Q rest D L C') : RJ E ops Q rest D L C := fun a w hf hs => by
  refine k a w hf ?_
  rw [← hC']
  refine hs.upd i hC rfl rfl (Keeps.refl _ _) (fun x hx => ?_) (blk_own (hs.holds _ (List.mem_of_getElem? hC)) h2 h3 hm)
  obtain ⟨ad, h1, h2⟩ := hx
  cases h1; exact h2
/-- one assertion's block has turned, or has gone to a new one -/
theorem St.move {S : BS} {w0 w w' : World} {C : List Assn} {A A' : Assn} {row : Option Nat} (i : Nat) (h : St S w0 C w) (hC : C[i]? = some A) (hA : ∀ b, row = some b → A.foot b) (hw : A.wr = true) (hk : w.grownBy w' row) (hA' : ∀ x, A'.foot x → row = some x ∨ w.heap.size ≤ x) (hb : A'.holds w') : St S w0 (C.set i A') w' := by
  have hi : i < C.length := (List.getElem?_eq_some_iff.1 hC).1
  have hget : C[i] = A := (List.getElem?_eq_some_iff.1 hC).2
  have hmem : A ∈ C := List.mem_of_getElem? hC
  have hsep : ∀ j (hj : j < C.length), j ≠ i → ∀ x, (C[j]).foot x → ¬ A.foot x := by
    intro j hj hne x hx he
    rcases Nat.lt_or_gt_of_ne hne with hlt | hlt
    · have := List.pairwise_iff_getElem.1 h.sep j i hj hi hlt
      rw [hget] at this
      exact (this x hx he).2 (A.whole hw x he)
    · have := List.pairwise_iff_getElem.1 h.sep i j hi hj hlt
      rw [hget] at this
      exact (this x he hx).1 (A.whole hw x he)
  have hnew : ∀ j (hj : j < C.length), j ≠ i → ∀ x, (C[j]).foot x → ¬ A'.foot x := by
    intro j hj hne x hx he
    rcases hA' x he with h1 | h1
    · exact hsep j hj hne x hx (hA x h1)
    · have := (C[j]).lt w (h.holds _ (List.getElem_mem hj)) x hx
      omega
  refine ⟨?_, ?_, ?_, ?_, ?_⟩
  · refine ⟨hk.os.trans h.keeps.os, hk.tape.trans h.keeps.tape, hk.output.trans h.keeps.output, Nat.le_trans h.keeps.size hk.size, fun k hkk hn => ?_⟩
    refine (hk.block k (Nat.lt_of_lt_of_le hkk h.keeps.size) (fun e => ?_)).trans (h.keeps.block k hkk hn)
    rcases h.own A hmem k (A.whole hw k (hA k e.symm)) with h1 | h1
    · omega
    · exact hn h1
  · intro B hB
    obtain ⟨j, hj, hjB⟩ := List.mem_iff_getElem.1 hB
    rw [List.getElem_set] at hjB
    split at hjB
    · subst hjB; exact hb
    · rename_i hne
      subst hjB
      have hj' : j < C.length := by simpa using hj
      have hm : C[j] ∈ C := List.getElem_mem hj'
      refine (C[j]).keep w w' (fun x hx => hk.block x ((C[j]).lt w (h.holds _ hm) x hx) (fun e => ?_)) (h.holds _ hm)
      exact hsep j hj' (Ne.symm hne) x hx (hA x e.symm)
  · rw [List.pairwise_iff_getElem]
    intro p q hp hq hpq
    have hp' : p < C.length := by simpa using hp
    have hq' : q < C.length := by simpa using hq
    have hs := List.pairwise_iff_getElem.1 h.sep p q hp' hq' hpq
    rw [List.getElem_set, List.getElem_set]
    split
    · rename_i e1; subst e1
      rw [if_neg (by omega)]
      exact fun x hx hx' => absurd hx (hnew q hq' (by omega) x hx')
    · split
      · rename_i e1; subst e1
        exact fun x hx hx' => absurd hx' (hnew p hp' (by omega) x hx)
      · exact hs
  · intro B hB x hx
    obtain ⟨j, hj, hjB⟩ := List.mem_iff_getElem.1 hB
    rw [List.getElem_set] at hjB
    split at hjB
    · subst hjB
      rcases hA' x (A'.wfoot x hx) with h1 | h1
      · exact h.own A hmem x (A.whole hw x (hA x h1))
      · exact .inl (Nat.le_trans h.keeps.size h1)
    · subst hjB
      exact h.own _ (List.getElem_mem _) x hx
  · intro B hB x hx
    obtain ⟨j, hj, hjB⟩ := List.mem_iff_getElem.1 hB
    rw [List.getElem_set] at hjB
    split at hjB
    · subst hjB
      rcases hA' x hx with h1 | h1
      · exact h.seen A hmem x (hA x h1)
      · exact .inl (Nat.le_trans h.keeps.size h1)
    · subst hjB
      exact h.seen _ (List.getElem_mem _) x hx
def tA (P : Program) (t : TypeId) : Option (TypeId × Nat × Nat × Value) :=
  match P.underlying t with
  | some (.slice e) => match P.info? e with
    | some i => match i.zero with
      | some z => if z.cells.size = i.size then some (e, i.size, i.bytes, z) else none
      | none => none
    | none => none
  | _ => none
theorem tA_out {P : Program} {t e sz by_ : Nat} {z : Value} (h : tA P t = some (e, sz, by_, z)) : ∃ i, P.underlying t = some (.slice e) ∧ P.info? e = some i ∧ i.zero = some z ∧ i.size = sz ∧ i.bytes = by_ ∧ z.cells.size = sz := by
  unfold tA at h
  cases hu : P.underlying t with
  | none => simp [hu] at h
  | some d =>
    cases d <;> simp [hu] at h
    rename_i e'
    cases hi : P.info? e' with
    | none => simp [hi] at h
    | some i =>
      cases hz : i.zero with
      | none => simp [hi, hz] at h
      | some z' =>
        simp only [hi, hz] at h
        split at h
        · simp only [Option.some.injEq, Prod.mk.injEq] at h
          obtain ⟨rfl, rfl, rfl, rfl⟩ := h
          exact ⟨i, rfl, hi, hz, rfl, rfl, by assumption⟩
        · cases h
theorem run_append_nil {P : Program} (w : World) (t ty e : TypeId) (i : TypeInfo) (size : Nat) (ht : P.underlying t = some (.slice e)) (hi : P.info? e = some i)
    (v : Value) (n : Nat) (xs : List Value) (hown : w.ownsRow 0 e size v n xs) (c : Nat) : (Builtin.append_ #[t, t] ty #[v, .slice none 0 c]).run P w = .ok v w := by
  rcases hown.2 with ⟨rfl, rfl⟩ | ⟨g, cap, cur, rfl, _, _, hnc, _⟩
  · simp [Builtin.append_, run_underlying ht, sizeOf, typeInfo, hi, Builtin.lenOf, Builtin.firstCells]
  · simp [Builtin.append_, run_underlying ht, sizeOf, typeInfo, hi, Builtin.lenOf, Builtin.firstCells, hnc, storeCells]
theorem flat_at {w : World} {ad : Addr} {sz : Nat} : ∀ (es : List (List Value)) (k : Nat), (∀ e ∈ es, e.length = sz) → (∀ i e j v, es[i]? = some e → e[j]? = some v → w.cell? (ad.add ((k + i) * sz + j)) = some v) → ∀ j v, es.flatten[j]? = some v → w.cell? (ad.add (k * sz + j)) = some v := by
  intro es
  induction es with
  | nil => intro k _ _ j v hj; simp at hj
  | cons x xs ih =>
    intro k hl h j v hj
    have hx := hl x (by simp)
    simp only [List.flatten_cons] at hj
    rcases Nat.lt_or_ge j x.length with hlt | hge
    · rw [List.getElem?_append_left hlt] at hj
      exact h 0 x j v (by simp) hj
    · rw [List.getElem?_append_right hge] at hj
      have := ih (k + 1) (fun e he => hl e (by simp [he])) (fun i e j v hi hj => by
        have := h (i + 1) e j v (by simpa using hi) hj
        rwa [show k + 1 + i = k + (i + 1) from by omega]) (j - x.length) v hj
      rw [Nat.succ_mul] at this
      rwa [show k * sz + sz + (j - x.length) = k * sz + j from by omega] at this
section
variable {E : Env} {ops : Array Oper} {Q : Post} {rest : List Oper} {D : List Deferred} {L : List (Nat × Value)} {C : List Assn}
variable {d : Nat} {ty : TypeId} {ps : String} {af : Array Edge} {g : Option (Nat × Bool)}
theorem flatten_length_of {sz : Nat} : ∀ {es : List (List Value)}, (∀ x ∈ es, x.length = sz) → es.flatten.length = es.length * sz := by
  intro es
  induction es with
  | nil => intro _; simp
  | cons x xs ih =>
    intro h
    simp only [List.flatten_cons, List.length_append, List.length_cons]
    rw [ih (fun y hy => h y (by simp [hy])), h x (by simp), Nat.succ_mul, Nat.add_comm]
theorem r_append {s x : Operand} {t e sz by_ n m m' c c' : Nat} {z : Value} {a A : Option Addr} {es es' es2 : List (List Value)} (i : Nat) (hg : gOn ops L g = true) (hs : ev L s = some (.slice a n c)) (hx : ev L x = some (.slice A m c')) (ht : tA E.P t = some (e, sz, by_, z)) (hsz : Nat.blt 0 sz = true)
    (hC : C[i]? = some (own a c e sz es)) (hn : n = es.length) (hR : Has C (rd A m sz es').holds) (h1 : ∀ v ∈ es'.flatten, v.oneCell' = true) (hb : (n + m) * by_ ≤ 140737488355328) (hb2 : n + m ≤ maxLen) (hes : es ++ es' = es2) (hm' : es2.length = m') (hd : Nat.blt d E.n = true)
    (k : ∀ (a' : Option Addr) (c2 : Nat), RJ E ops Q rest D ((d, .slice a' m' c2) :: L) (C.set i (own a' c2 e sz es2))) :
    RJ E ops Q (⟨some d, .call { callee := .builtin .append, args := #[s, x], argTypes := #[t, t] }, ty, ps, af, g⟩ :: rest) D L C := by
  intro act w hfr hst
  have hd' : d < E.n := by rw [← Nat.blt_eq]; exact hd
  have hsz' : 0 < sz := by rw [← Nat.blt_eq]; exact hsz
  obtain ⟨inf, hu, hi, hz, h3, h4, h5⟩ := tA_out ht
  unfold wpL
  rw [if_pos (gOn_wanted hfr hg)]
  subst hn hes hm'
  obtain ⟨hl1, hown⟩ : (own a c e sz es).holds w := hst.holds _ (List.mem_of_getElem? hC)
  obtain ⟨hr1, hr2, hr3⟩ := hst.has hR
  have hl2 : ∀ x ∈ es ++ es', x.length = sz := fun x hx => by
    rcases List.mem_append.1 hx with h | h
    · exact hl1 x h
    · exact hr2 x h
  have main : ∃ v' w', (Builtin.append_ #[t, t] ty #[.slice a es.length c, .slice A m c']).run E.P w = .ok v' w' ∧ w'.ownsRow 0 e sz v' (es.length + m) (es.flatten ++ es'.flatten) ∧ w.grownBy w' (Value.slice a es.length c).ownBlock ∧ (v'.ownBlock = (Value.slice a es.length c).ownBlock ∨ v'.ownBlock = some w.heap.size) := by
    by_cases h0 : m = 0
    · subst h0
      have he : es' = [] := List.eq_nil_of_length_eq_zero hr1
      subst he
      cases A with
      | none => exact ⟨_, w, run_append_nil w t ty e inf sz hu hi _ _ _ hown c', by simpa using hown, World.grownBy.refl w _, .inl rfl⟩
      | some ad =>
        obtain ⟨v', w', q1, q2, q3, _, q5⟩ := run_append_own_at (P := E.P) w 0 t ty e inf z sz by_ hu hi hz h3 h4 h5 hsz' _ _ _ hown ad 0 c' [] (by simp) (by simp) (by simp) hb2 hb (Nat.zero_le _)
        exact ⟨v', w', q1, by simpa using q2, q3, q5⟩
    · obtain ⟨ad, hA, hc⟩ := hr3 (Nat.mul_pos (by omega) hsz')
      subst hA
      obtain ⟨v', w', q1, q2, q3, _, q5⟩ := run_append_own_at (P := E.P) w 0 t ty e inf z sz by_ hu hi hz h3 h4 h5 hsz' _ _ _ hown ad m c' es'.flatten (by rw [flatten_length_of hr2, hr1])
        (fun j v hj => by have := flat_at (w := w) (ad := ad) es' 0 hr2 (fun i e j v hi hj => by simpa using hc i e j v hi hj) j v hj; simpa using this) h1 hb2 hb (Nat.zero_le _)
      exact ⟨v', w', q1, q2, q3, q5⟩
  obtain ⟨v', w', q1, q2, q3, q5⟩ := main
  have hform : ∃ a' c2, v' = .slice a' (es ++ es').length c2 := by
    rcases q2.2 with ⟨rfl, h0⟩ | ⟨gg, cap, cur, rfl, _⟩
    · exact ⟨none, 0, by rw [List.length_append, hr1, h0]⟩
    · exact ⟨_, cap, by rw [List.length_append, hr1]⟩
  obtain ⟨a', c2, rfl⟩ := hform
  refine wp_value (by simp) (w' := w') (v := .slice a' (es ++ es').length c2) ?_ ?_
  · simp [execOp, resolve, invoke, builtin, hfr.ev hs, hfr.ev hx, q1]
  · refine k a' c2 _ _ (hfr.put hd' _) ?_
    refine hst.move i hC (row := (Value.slice a es.length c).ownBlock) (fun b hb => ?_) rfl q3 (fun y hy => ?_) ?_
    · cases a with
      | none => simp [Value.ownBlock] at hb
      | some ad => exact ⟨ad, rfl, by simpa [Value.ownBlock] using hb.symm⟩
    · obtain ⟨ad, rfl, rfl⟩ := hy
      rcases q5 with h | h
      · left; rw [← h]; rfl
      · right; simp [Value.ownBlock] at h; omega
    · refine ⟨hl2, ?_⟩
      rw [List.flatten_append]
      rw [show (es ++ es').length = es.length + m from by rw [List.length_append, hr1]] at q2 ⊢
      exact q2
end
end
section
structure Slc where
  a : Option Addr
  n : Nat
  c : Nat
  deriving DecidableEq
def iC (x : Int) : List Value := [.int .i64 x]
@[simp] theorem iC_length (x : Int) : (iC x).length = 1 := rfl
def iC_u32 (x : Int) : List Value := [.int .u32 x]
@[simp] theorem iC_u32_length (x : Int) : (iC_u32 x).length = 1 := rfl
def iC_u8 (x : Int) : List Value := [.int .u8 x]
@[simp] theorem iC_u8_length (x : Int) : (iC_u8 x).length = 1 := rfl
theorem wrap_u8_i64 {n : Int} (h : 0 ≤ n ∧ n ≤ 255) : IntKind.i64.wrap n = n := wrap_in ⟨by omega, by omega⟩
theorem mulb {a b A B : Int} (h1 : 0 ≤ a) (h2 : a ≤ A) (h3 : 0 ≤ b) (h4 : b ≤ B) : 0 ≤ a * b ∧ a * b ≤ A * B :=
  ⟨Int.mul_nonneg h1 h3, Int.mul_le_mul h2 h4 h3 (Int.le_trans h1 h2)⟩
theorem one_flat {α : Type} {f : α → List Value} (h : ∀ s, (f s).all Value.oneCell' = true) (l : List α) : ∀ v ∈ (l.map f).flatten, v.oneCell' = true := fun v hv => by
  obtain ⟨x, hx, hvx⟩ := List.mem_flatten.1 hv
  obtain ⟨s, _, rfl⟩ := List.mem_map.1 hx
  exact List.all_eq_true.1 (h s) v hvx
theorem one_iC (l : List Int) : ∀ v ∈ (l.map iC).flatten, v.oneCell' = true := one_flat (fun _ => rfl) l
theorem eq_struct {P : Program} {t : TypeId} (x y : Operand) {xs ys : List Value} {b : Bool} (hm : P.eqGuardType P.depth t = false) (h : ∀ w, (Op.equalIn 10000 t (.agg xs.toArray) (.agg ys.toArray)).run P w = .ok b w) : BinRun P .eql t x y (.agg xs.toArray) (.agg ys.toArray) (.bool b) := fun w => by
  rw [Sem.run_bind, run_eqGuard_agg w _ _ _ _ _ _ hm]
  simp only [Result.andThen_ok]
  rw [run_eql_struct, h w]; rfl
theorem ne_struct {P : Program} {t : TypeId} (x y : Operand) {xs ys : List Value} {b : Bool} (hm : P.eqGuardType P.depth t = false) (h : ∀ w, (Op.equalIn 10000 t (.agg xs.toArray) (.agg ys.toArray)).run P w = .ok b w) : BinRun P .neq t x y (.agg xs.toArray) (.agg ys.toArray) (.bool (!b)) := fun w => by
  rw [Sem.run_bind, run_eqGuard_agg w _ _ _ _ _ _ hm]
  simp only [Result.andThen_ok]
  rw [run_neq_struct, h w]; rfl
theorem part_agg {P : Program} {t n off : Nat} {xs vs : List Value} (ht : tK P t = some (true, n)) (hv : (xs.drop off).take n = vs) (w : World) : (part t xs.toArray off).run P w = .ok (.agg vs.toArray) w := by
  simp [part, (tK_agg ht w).1, (tK_agg ht w).2]
  exact hv
theorem part_one {P : Program} {t n off : Nat} {xs : List Value} {v : Value} (ht : tK P t = some (false, n)) (hv : xs[off]? = some v) (w : World) : (part t xs.toArray off).run P w = .ok v w := by
  simp [part, (tK_one ht w).1, hv]
/-- a struct's fields: of what type, where; none is blank -/
def fL (P : Program) (t : TypeId) : Option (List (Nat × Nat)) :=
  match P.underlying t with
  | some (.struct fs) => if fs.toList.all (fun f => f.name != "_") && !P.stoodInHeld t && !P.eqGuardType P.depth t then some (fs.toList.map fun f => (f.type, f.offset)) else none
  | _ => none
def eqP (d : Nat) (xs ys : Array Value) : List (Nat × Nat) → Sem Bool
  | [] => pure true
  | (t, o) :: fs => do
    let a ← part t xs o
    let b ← part t ys o
    let r ← Op.equalIn d t a b
    if (!r) = true then pure false else eqP d xs ys fs
theorem eqP_eq {P : Program} {d : Nat} {xs ys : Array Value} : ∀ (fs : List Field) (w : World), fs.all (fun f => f.name != "_") = true → (Op.eqFields d xs ys fs).run P w = (eqP d xs ys (fs.map fun f => (f.type, f.offset))).run P w := by
  intro fs
  induction fs with
  | nil => intro w _; simp [Op.eqFields, eqP]
  | cons f fs ih =>
    intro w h
    simp only [List.all_cons, Bool.and_eq_true, bne_iff_ne, ne_eq] at h
    simp only [Op.eqFields, eqP, List.map_cons, ne_eq, h.1, not_false_eq_true, if_true, Sem.run_bind]
    generalize (part f.type xs f.offset).run P w = r1
    cases r1 with
    | halt x w1 => rfl
    | ok a w1 =>
      simp only [Result.andThen_ok]
      generalize (part f.type ys f.offset).run P w1 = r2
      cases r2 with
      | halt x w2 => rfl
      | ok b w2 =>
        simp only [Result.andThen_ok]
        generalize (Op.equalIn d f.type a b).run P w2 = r3
        cases r3 with
        | halt x w3 => rfl
        | ok r w3 => cases r <;> simp [ih _ h.2]
/-- one field more -/
theorem eqf_cons {P : Program} {d t o : Nat} {xs ys : Array Value} {fs : List (Nat × Nat)} {a b : Value} {p q : Bool} (w : World) (ha : (part t xs o).run P w = .ok a w) (hb : (part t ys o).run P w = .ok b w)
    (he : (Op.equalIn d t a b).run P w = .ok p w) (hr : (eqP d xs ys fs).run P w = .ok q w) : (eqP d xs ys ((t, o) :: fs)).run P w = .ok (p && q) w := by
  simp only [eqP, Sem.run_bind, ha, hb, he, Result.andThen_ok]
  cases p <;> simp [hr]
theorem eqf_nil {P : Program} {d : Nat} {xs ys : Array Value} (w : World) : (eqP d xs ys []).run P w = .ok true w := by simp [eqP]
theorem eqI_int {P : Program} {t : TypeId} {k : IntKind} (d : Nat) {a b : Int} (h : P.underlying t = some (.int k)) (w : World) : (Op.equalIn (d + 1) t (.int k a) (.int k b)).run P w = .ok (decide (a = b)) w := by
  rw [run_equalIn_int w d t k k a b h, beq_dec]
theorem eqI_struct {P : Program} {t : TypeId} {l : List (Nat × Nat)} (d : Nat) {xs ys : List Value} {b : Bool} (hl : fL P t = some l) (w : World) (h : (eqP d xs.toArray ys.toArray l).run P w = .ok b w) : (Op.equalIn (d + 1) t (.agg xs.toArray) (.agg ys.toArray)).run P w = .ok b w := by
  unfold fL at hl
  cases hu : P.underlying t with
  | none => simp [hu] at hl
  | some dd =>
    cases dd <;> simp only [hu] at hl <;> try (cases hl; done)
    rename_i fs
    split at hl
    · rename_i hc
      simp only [Bool.and_eq_true, Bool.not_eq_true'] at hc
      cases hl
      have hf : P.fieldsOf t = fs := by simp [Program.fieldsOf, hu]
      rw [run_equalIn_struct w d t _ _ (by rw [hf]; exact hu) hc.1.2, hf, eqP_eq _ _ hc.1.1]
      exact h
    · cases hl
theorem fL_guard {P : Program} {t : TypeId} {l : List (Nat × Nat)} (hl : fL P t = some l) : P.eqGuardType P.depth t = false := by
  unfold fL at hl
  cases hu : P.underlying t with
  | none => simp [hu] at hl
  | some dd =>
    cases dd <;> simp only [hu] at hl <;> try (cases hl; done)
    split at hl
    · rename_i hc
      simp only [Bool.and_eq_true, Bool.not_eq_true'] at hc
      exact hc.2
    · cases hl
end
section
open Go.RowKit
set_option linter.unusedVariables false
def bund (C : List Assn) : Assn where
  foot b := ∃ A ∈ C, A.foot b
  wf b := ∃ A ∈ C, A.wf b
  holds w := (∀ A ∈ C, A.holds w) ∧ C.Pairwise Sep
  wr := C.all (·.wr)
  wfoot b := by rintro ⟨A, hA, h⟩; exact ⟨A, hA, A.wfoot b h⟩
  whole h b := by rintro ⟨A, hA, hb⟩; exact ⟨A, hA, A.whole (List.all_eq_true.1 h A hA) b hb⟩
  lt w h b := by rintro ⟨A, hA, hb⟩; exact A.lt w (h.1 A hA) b hb
  keep w w' hk h := ⟨fun A hA => A.keep w w' (fun b hb => hk b ⟨A, hA, hb⟩) (h.1 A hA), h.2⟩
theorem St.tied {S : BS} {w0 w : World} {C1 C2 : List Assn} (h : St S w0 (C1 ++ C2) w) : St S w0 (Go.Proofs.YthiigjekcdjkkaaGreat.bund C1 :: C2) w := by
  obtain ⟨p1, p2, p3⟩ := List.pairwise_append.1 h.sep
  refine ⟨h.keeps, fun A hA => ?_, List.Pairwise.cons (fun B hB b => ?_) p2, fun A hA b hb => ?_, fun A hA b hb => ?_⟩
  · rcases List.mem_cons.1 hA with rfl | hA
    · exact ⟨fun A hA => h.holds A (List.mem_append_left _ hA), p1⟩
    · exact h.holds A (List.mem_append_right _ hA)
  · rintro ⟨A, hA, hb⟩ hb'
    have hs := p3 A hA B hB b hb hb'
    refine ⟨?_, hs.2⟩
    rintro ⟨A', hA', hw⟩
    exact (p3 A' hA' B hB b (A'.wfoot b hw) hb').1 hw
  · rcases List.mem_cons.1 hA with rfl | hA
    · obtain ⟨A', hA', hb'⟩ := hb
      exact h.own A' (List.mem_append_left _ hA') b hb'
    · exact h.own A (List.mem_append_right _ hA) b hb
  · rcases List.mem_cons.1 hA with rfl | hA
    · obtain ⟨A', hA', hb'⟩ := hb
      exact h.seen A' (List.mem_append_left _ hA') b hb'
    · exact h.seen A (List.mem_append_right _ hA) b hb
theorem St.untied {S : BS} {w0 w : World} {C1 C2 : List Assn} (h : St S w0 (Go.Proofs.YthiigjekcdjkkaaGreat.bund C1 :: C2) w) : St S w0 (C1 ++ C2) w := by
  obtain ⟨p1, p2⟩ := List.pairwise_cons.1 h.sep
  have hb := h.holds _ (List.mem_cons_self ..)
  refine ⟨h.keeps, fun A hA => ?_, List.pairwise_append.2 ⟨hb.2, p2, fun A hA B hB b ha hb' => ?_⟩, fun A hA b hb' => ?_, fun A hA b hb' => ?_⟩
  · rcases List.mem_append.1 hA with hA | hA
    · exact hb.1 A hA
    · exact h.holds A (List.mem_cons_of_mem _ hA)
  · have hs := p1 B hB b ⟨A, hA, ha⟩ hb'
    exact ⟨fun hw => hs.1 ⟨A, hA, hw⟩, hs.2⟩
  · rcases List.mem_append.1 hA with hA | hA
    · exact h.own _ (List.mem_cons_self ..) b ⟨A, hA, hb'⟩
    · exact h.own A (List.mem_cons_of_mem _ hA) b hb'
  · rcases List.mem_append.1 hA with hA | hA
    · exact h.seen _ (List.mem_cons_self ..) b ⟨A, hA, hb'⟩
    · exact h.seen A (List.mem_cons_of_mem _ hA) b hb'
/-- from one world to another: A's blocks may have turned, or have gone to new ones: B holds -/
structure Mv (A B : Assn) (w w' : World) : Prop where
  holds : B.holds w'
  keeps : Keeps A.wf w w'
  wf : ∀ b, B.wf b → A.wf b ∨ w.heap.size ≤ b
  foot : ∀ b, B.foot b → A.foot b ∨ w.heap.size ≤ b
theorem St.mv {S : BS} {w0 w w' : World} {C : List Assn} {A B : Assn} (i : Nat) (h : St S w0 C w) (hC : C[i]? = some A) (m : Mv A B w w') : St S w0 (C.set i B) w' := by
  have hi : i < C.length := (List.getElem?_eq_some_iff.1 hC).1
  have hget : C[i] = A := (List.getElem?_eq_some_iff.1 hC).2
  have hmem : A ∈ C := List.mem_of_getElem? hC
  have hsep : ∀ j (hj : j < C.length), j ≠ i → ∀ x, (C[j]).foot x → A.foot x → ¬ (C[j]).wf x ∧ ¬ A.wf x := by
    intro j hj hne x hx he
    rcases Nat.lt_or_gt_of_ne hne with hlt | hlt
    · have := List.pairwise_iff_getElem.1 h.sep j i hj hi hlt
      rw [hget] at this
      exact this x hx he
    · have := List.pairwise_iff_getElem.1 h.sep i j hi hj hlt
      rw [hget] at this
      exact (this x he hx).symm
  have hnew : ∀ j (hj : j < C.length), j ≠ i → ∀ x, (C[j]).foot x → B.foot x → ¬ (C[j]).wf x ∧ ¬ B.wf x := by
    intro j hj hne x hx he
    have hlt := (C[j]).lt w (h.holds _ (List.getElem_mem hj)) x hx
    rcases m.foot x he with h1 | h1
    · obtain ⟨h2, h3⟩ := hsep j hj hne x hx h1
      refine ⟨h2, fun hw => ?_⟩
      rcases m.wf x hw with h4 | h4
      · exact h3 h4
      · omega
    · omega
  refine ⟨?_, ?_, ?_, ?_, ?_⟩
  · refine ⟨m.keeps.os.trans h.keeps.os, m.keeps.tape.trans h.keeps.tape, m.keeps.output.trans h.keeps.output, Nat.le_trans h.keeps.size m.keeps.size, fun k hkk hn => ?_⟩
    refine (m.keeps.block k (Nat.lt_of_lt_of_le hkk h.keeps.size) (fun e => ?_)).trans (h.keeps.block k hkk hn)
    rcases h.own A hmem k e with h1 | h1
    · omega
    · exact hn h1
  · intro X hX
    obtain ⟨j, hj, hjX⟩ := List.mem_iff_getElem.1 hX
    rw [List.getElem_set] at hjX
    split at hjX
    · subst hjX; exact m.holds
    · rename_i hne
      subst hjX
      have hj' : j < C.length := by simpa using hj
      have hm : C[j] ∈ C := List.getElem_mem hj'
      refine (C[j]).keep w w' (fun x hx => m.keeps.block x ((C[j]).lt w (h.holds _ hm) x hx) (fun e => ?_)) (h.holds _ hm)
      exact (hsep j hj' (Ne.symm hne) x hx (A.wfoot x e)).2 e
  · rw [List.pairwise_iff_getElem]
    intro p q hp hq hpq
    have hp' : p < C.length := by simpa using hp
    have hq' : q < C.length := by simpa using hq
    have hs := List.pairwise_iff_getElem.1 h.sep p q hp' hq' hpq
    rw [List.getElem_set, List.getElem_set]
    split
    · rename_i e1; subst e1
      rw [if_neg (by omega)]
      exact fun x hx hx' => (hnew q hq' (by omega) x hx' hx).symm
    · split
      · rename_i e1; subst e1
        exact fun x hx hx' => hnew p hp' (by omega) x hx hx'
      · exact hs
  · intro X hX x hx
    obtain ⟨j, hj, hjX⟩ := List.mem_iff_getElem.1 hX
    rw [List.getElem_set] at hjX
    split at hjX
    · subst hjX
      rcases m.wf x hx with h1 | h1
      · exact h.own A hmem x h1
      · exact .inl (Nat.le_trans h.keeps.size h1)
    · subst hjX
      exact h.own _ (List.getElem_mem _) x hx
  · intro X hX x hx
    obtain ⟨j, hj, hjX⟩ := List.mem_iff_getElem.1 hX
    rw [List.getElem_set] at hjX
    split at hjX
    · subst hjX
      rcases m.foot x hx with h1 | h1
      · exact h.seen A hmem x h1
      · exact .inl (Nat.le_trans h.keeps.size h1)
    · subst hjX
      exact h.seen _ (List.getElem_mem _) x hx
/-- a state that was entered with an assertion's blocks alone, left with others -/
theorem Mv.of {A : Assn} {w w' : World} {C : List Assn} (h : St ⟨A.wf, A.foot⟩ w C w') : Mv A (bund C) w w' := by
  refine ⟨⟨h.holds, h.sep⟩, h.keeps, ?_, ?_⟩
  · rintro b ⟨B, hB, hb⟩; exact (h.own B hB b hb).symm
  · rintro b ⟨B, hB, hb⟩; exact (h.seen B hB b hb).symm
theorem St.of_bund {w : World} {C : List Assn} (h : (bund C).holds w) : St ⟨(bund C).wf, (bund C).foot⟩ w C w :=
  ⟨Keeps.refl _ _, h.1, h.2, fun A hA b hb => .inr ⟨A, hA, hb⟩, fun A hA b hb => .inr ⟨A, hA, hb⟩⟩
/-- what is read by one is what another holds -/
structure Cov (B A : Assn) : Prop where
  holds : ∀ w, B.holds w → A.holds w
  foot : ∀ b, A.foot b → B.foot b
theorem cov_refl (A : Assn) : Cov A A := ⟨fun _ h => h, fun _ h => h⟩
theorem cov_ro {A B : Assn} (h : Cov B A) : Cov B.ro A := ⟨h.holds, h.foot⟩
theorem cov_own {a : Option Addr} {c e sz : Nat} {es : List (List Value)} : Cov (own a c e sz es) (rd a es.length sz es) := ⟨fun _ h => own_rd h, fun b h => h.2⟩
def Yl (w0 : World) (P : Program) (l : Nat) (xs : List (List Value)) (J : Nat → Assn → Prop) (Z : Assn → Prop) : Prop :=
  ∀ k x A w, xs[k]? = some x → J k A → w0.heap.size ≤ w.heap.size → A.holds w → YieldAt (Fw none) 0 P l x.toArray w fun e w' =>
    (e = .returned (.bool true) ∧ ∃ B, J (k + 1) B ∧ Mv A B w w') ∨ (e = .returned (.bool false) ∧ ∃ B, Z B ∧ Mv A B w w')
def EndS (J : Nat → Assn → Prop) (Z : Assn → Prop) (n : Nat) (A0 : Assn) (w0 : World) (e : Ending) (w' : World) : Prop :=
  ∃ v, e = .returned v ∧ ((∃ B, J n B ∧ Mv A0 B w0 w') ∨ ∃ B, Z B ∧ Mv A0 B w0 w')
structure SeqV (P : Program) (f : FuncId) (fi ca : List Value) (Cp : List Assn) (xs : List (List Value)) : Prop where
  go : isGo P f = true
  run : ∀ (l : Nat) (J : Nat → Assn → Prop) (Z : Assn → Prop) (A0 : Assn) (w : World), Yl w P l xs J Z → J 0 A0 → A0.holds w → (∀ A ∈ Cp, A.holds w) → (∀ A ∈ Cp, Sep A0 A.ro) →
    Calls P f (fi ++ Value.func (.yield l) #[] #[] :: ca).toArray w (EndS J Z xs.length A0 w)
def Fo (A0 : Assn) (w0 : World) (B : Assn) : Prop := ∀ b, B.foot b → A0.foot b ∨ w0.heap.size ≤ b
theorem endS {J : Nat → Assn → Prop} {Z : Assn → Prop} {n : Nat} {A0 B : Assn} {w0 w : World} {C : List Assn} {v : Value} (i : Nat) (hC : C[i]? = some B) (hJ : J n B) (hF : Fo A0 w0 B) (hs : St ⟨A0.wf, fun _ => True⟩ w0 C w) : EndS J Z n A0 w0 (.returned v) w :=
  ⟨v, rfl, .inl ⟨B, hJ, hs.holds B (List.mem_of_getElem? hC), hs.keeps, fun b hb => (hs.own B (List.mem_of_getElem? hC) b hb).symm, hF⟩⟩
theorem endSz {J : Nat → Assn → Prop} {Z : Assn → Prop} {n : Nat} {A0 B : Assn} {w0 w : World} {C : List Assn} {v : Value} (i : Nat) (hC : C[i]? = some B) (hJ : Z B) (hF : Fo A0 w0 B) (hs : St ⟨A0.wf, fun _ => True⟩ w0 C w) : EndS J Z n A0 w0 (.returned v) w :=
  ⟨v, rfl, .inr ⟨B, hJ, hs.holds B (List.mem_of_getElem? hC), hs.keeps, fun b hb => (hs.own B (List.mem_of_getElem? hC) b hb).symm, hF⟩⟩
theorem fn_of' {P : Program} {f : FuncId} {fn : Func} {c : Code} {args : List Value} {Cp : List Assn} {S : BS} {R : Ending → World → Prop} {w : World} (hf : P.funcs[f]? = some fn) (hb : fn.body = some c) (hn : Nat.ble args.length fn.ntmps = true)
    (h : ∀ (Q : Post), (∀ D L C, LJ ⟨P, none, fn.ntmps, S, w⟩ fn R D L C → KJ ⟨P, none, fn.ntmps, S, w⟩ (Q .ret) D L C) → (∀ D L C, LJ ⟨P, none, fn.ntmps, S, w⟩ fn R D L C → KJ ⟨P, none, fn.ntmps, S, w⟩ (Q .normal) D L C) →
      WJ ⟨P, none, fn.ntmps, S, w⟩ c Q [] (fr0 args) Cp) (hw : St S w Cp w) : Calls P f args.toArray w R := by
  refine calls_of_in (callsIn_of_wp_marks hf hb trivial ?_ rfl)
  have hle := Nat.le_of_ble_eq_true hn
  refine h (bodyPostM (Fw none) 0 P fn R) ?_ ?_ _ w ⟨rfl, by simp; omega, fun t v hv => ?_⟩ hw
  · intro D L C hl a w' hf' hs'
    have := hl a w' hf' hs'
    show LeavesInM (Fw none) 0 P fn a.tmps R a.defers .returning w'
    rw [hf'.defers]; exact this
  · intro D L C hl a w' hf' hs'
    have := hl a w' hf' hs'
    show LeavesInM (Fw none) 0 P fn a.tmps R a.defers .returning w'
    rw [hf'.defers]; exact this
  · obtain ⟨_, h2⟩ := lookup_zip args 0 t v hv
    have ht : t < args.length := by
      have := (List.getElem?_eq_some_iff.1 h2).1; omega
    simp only [Nat.sub_zero] at h2
    rw [Array.getElem?_append_left (by simpa using ht)]
    simpa using h2
theorem seqV_of {P : Program} {f : FuncId} {fn : Func} {c : Code} {fi ca : List Value} {Cp : List Assn} {xs : List (List Value)} (hgo : isGo P f = true) (hf : P.funcs[f]? = some fn) (hb : fn.body = some c) (hn : Nat.ble (fi.length + ca.length + 1) fn.ntmps = true)
    (h : ∀ (l : Nat) (J : Nat → Assn → Prop) (Z : Assn → Prop) (A0 : Assn) (w0 : World) (Q : Post), Yl w0 P l xs J Z → J 0 A0 → Fo A0 w0 A0 →
      (∀ D L C, LJ ⟨P, none, fn.ntmps, ⟨A0.wf, fun _ => True⟩, w0⟩ fn (EndS J Z xs.length A0 w0) D L C → KJ ⟨P, none, fn.ntmps, ⟨A0.wf, fun _ => True⟩, w0⟩ (Q .ret) D L C) →
      (∀ D L C, LJ ⟨P, none, fn.ntmps, ⟨A0.wf, fun _ => True⟩, w0⟩ fn (EndS J Z xs.length A0 w0) D L C → KJ ⟨P, none, fn.ntmps, ⟨A0.wf, fun _ => True⟩, w0⟩ (Q .normal) D L C) →
      WJ ⟨P, none, fn.ntmps, ⟨A0.wf, fun _ => True⟩, w0⟩ c Q [] (fr0 (fi ++ Value.func (.yield l) #[] #[] :: ca)) (A0 :: Cp.map Assn.ro)) : SeqV P f fi ca Cp xs := by
  refine ⟨hgo, fun l J Z A0 w hY hJ hA hCp hsep => ?_⟩
  refine fn_of' hf hb (by simpa [Nat.add_assoc] using hn) (h l J Z A0 w · hY hJ (fun b hb => .inl hb)) ?_
  have h0 := ro_holds hCp
  refine ⟨Keeps.refl _ _, fun A hA' => ?_, List.Pairwise.cons (fun B hB => ?_) h0.sep, fun A hA' b hb => ?_, fun _ _ _ _ => .inr trivial⟩
  · rcases List.mem_cons.1 hA' with rfl | hA'
    · exact hA
    · exact h0.holds A hA'
  · obtain ⟨B', hB', rfl⟩ := List.mem_map.1 hB
    exact hsep B' hB'
  · rcases List.mem_cons.1 hA' with rfl | hA'
    · exact .inr hb
    · obtain ⟨B', hB', rfl⟩ := List.mem_map.1 hA'
      exact hb.elim
section
variable {E : Env} {ops : Array Oper} {Q : Post} {rest : List Oper} {D : List Deferred} {L : List (Nat × Value)} {C : List Assn}
variable {d : Nat} {ty : TypeId} {ps : String} {af : Array Edge} {g : Option (Nat × Bool)}
/-- a call of yield -/
theorem r_yield {fop : Operand} {xs : Array Operand} {ts : Array TypeId} {l k : Nat} {vs : List Value} {ls : List (List Value)} {J : Nat → Assn → Prop} {Z : Assn → Prop} {A0 A : Assn} (i : Nat) (hY : Yl E.w0 E.P l ls J Z) (hJ : J k A) (hF : Fo A0 E.w0 A) (hg : gOn ops L g = true) (hf : ev L fop = some (.func (.yield l) #[] #[]))
    (hx : evs L xs.toList = some vs) (hk : ls[k]? = some vs) (hC : C[i]? = some A) (hd : Nat.blt d E.n = true)
    (k1 : ∀ B, J (k + 1) B → Fo A0 E.w0 B → RJ E ops Q rest D ((d, .bool true) :: L) (C.set i B))
    (k2 : ∀ B, Z B → Fo A0 E.w0 B → RJ E ops Q rest D ((d, .bool false) :: L) (C.set i B)) :
    RJ E ops Q (⟨some d, .call { callee := .value fop, args := xs, argTypes := ts }, ty, ps, af, g⟩ :: rest) D L C := by
  intro a w hfr hs
  have hd' : d < E.n := by rw [← Nat.blt_eq]; exact hd
  unfold wpL
  rw [if_pos (gOn_wanted hfr hg)]
  have h1 : xs.map a.eval = vs.toArray := by
    have := hfr.evs hx
    apply Array.ext'
    simp [this]
  obtain ⟨fn, tmps, assign, body, hy, hr⟩ := hY k vs A w hk hJ hs.keeps.size (hs.holds A (List.mem_of_getElem? hC))
  have hrun : (execOp a.eval ⟨some d, .call { callee := .value fop, args := xs, argTypes := ts }, ty, ps, af, g⟩).run E.P w = .ok (.round l fn tmps assign body) w := by
    simp [execOp, resolve, hfr.ev hf, Deferred.ofValue, invoke, h1, hy]
  refine ⟨fun _ _ => trivial, ?_⟩
  rw [Oper.semAt_eq _ _ _ (by simp), hrun]
  refine ⟨fun h => by simp at h, ?_⟩
  have hfo : ∀ (B : Assn) (w' : World), Mv A B w w' → Fo A0 E.w0 B := fun B w' m b hb => by
    rcases m.foot b hb with h2 | h2
    · exact hF b h2
    · exact .inr (Nat.le_trans hs.keeps.size h2)
  have hr' : RoundIn (Fw E.r) 0 E.P l fn tmps assign body w _ := hr
  refine hr'.mono fun e w' he => ?_
  rcases he with ⟨rfl, B, hB, m⟩ | ⟨rfl, B, hB, m⟩
  · exact k1 B hB (hfo B w' m) _ _ (hfr.put hd' _) (hs.mv i hC m)
  · exact k2 B hB (hfo B w' m) _ _ (hfr.put hd' _) (hs.mv i hC m)
end
def parL (ps : List Tmp) (x : List Value) (L : List (Nat × Value)) : List (Nat × Value) := (ps.zip x).foldl (fun L p => (p.1, p.2) :: L) L
theorem fr_par {n : Nat} : ∀ (ps : List Tmp) (x : List Value) (L : List (Nat × Value)) (tmps : Array Value), (∀ t ∈ ps, t < n) → Fr n [] L { tmps := tmps, defers := [] } →
    Fr n [] (parL ps x L) { tmps := (ps.zip x).foldl (fun tmps (p : Tmp × Value) => tmps.setIfInBounds p.1 p.2) tmps, defers := [] } := by
  intro ps
  induction ps with
  | nil => intro x L tmps _ h; simpa [parL] using h
  | cons t ps ih =>
    intro x L tmps hlt h
    cases x with
    | nil => simpa [parL] using h
    | cons v x =>
      have := h.put (hlt t (by simp)) v
      simpa [parL] using ih x _ _ (fun t' ht => hlt t' (by simp [ht])) this
theorem w_range {E : Env} {Q : Post} {D : List Deferred} {L L0 : List (Nat × Value)} {C F : List Assn} {g : Operand} {ps : Array Tmp} {assign body : Code} {f : FuncId} {fi ca : List Value} {Cp : List Assn} {xs : List (List Value)} {ι κ : Type}
    (inv : Nat → ι → Prop) (Ci : Nat → ι → List Assn) (invx : Code → κ → Prop) (Cx : Code → κ → List Assn) (isJ isF : List Nat) (y0 : ι)
    (hr : E.r = none) (hg : ev L g = some (.func (.func f) fi.toArray ca.toArray)) (hs : SeqV E.P f fi ca Cp xs)
    (hnd : decide (isJ ++ isF).Nodup = true) (hJ : sel C isJ = Ci 0 y0) (hF : sel C isF = F) (h0 : inv 0 y0) (hCp : ∀ A ∈ Cp, ∃ B ∈ F, Cov B A)
    (hps : ∀ x ∈ xs, x.length = ps.size) (hpn : ps.toList.all (fun t => Nat.blt t E.n) = true) (hL : Sub L L0)
    (round : ∀ (k : Nat) (x : List Value) (y : ι) (l : Nat) (ra rb : Loop) (S : BS) (w0 : World) (K : Act → World → Prop) (Qr : Post), xs[k]? = some x → inv k y →
      (∀ L' C', WJ ⟨E.P, some l, E.n, S, w0⟩ body Qr [] L' (obj l (.loop rb) :: C') → KJ ⟨E.P, some l, E.n, S, w0⟩ K [] L' (obj l (.loop ra) :: C')) →
      (∀ y' L' C', inv (k + 1) y' → (∀ w, St S w0 C' w → St S w0 (obj l (.loop rb) :: Ci (k + 1) y') w) → KJ ⟨E.P, some l, E.n, S, w0⟩ (Qr .normal) [] L' C') →
      (∀ id z L' C', invx (.exit id) z → (∀ w, St S w0 C' w → St S w0 (obj l (.loop rb) :: Cx (.exit id) z) w) → KJ ⟨E.P, some l, E.n, S, w0⟩ (Qr (.exit id)) [] L' C') →
      (∀ z L' C', invx .ret z → (∀ w, St S w0 C' w → St S w0 (obj l (.loop rb) :: Cx .ret z) w) → KJ ⟨E.P, some l, E.n, S, w0⟩ (Qr .ret) [] L' C') →
      WJ ⟨E.P, some l, E.n, S, w0⟩ assign (Exit.then K (fun _ _ _ => False)) [] (parL ps.toList x L0) (obj l (.loop ra) :: Ci k y))
    (fin : ∀ r y, inv xs.length y → KJ E (Q .normal) (mark r :: D) L0 (obj r (.deferred (some [])) :: (F ++ Ci xs.length y)))
    (finx : ∀ r id z, invx (.exit id) z → KJ E (Q (.exit id)) (mark r :: D) L0 (obj r (.deferred (some [])) :: (F ++ Cx (.exit id) z)))
    (finr : ∀ r z, invx .ret z → KJ E (Q .ret) (mark r :: D) L0 (obj r (.deferred (some [])) :: (F ++ Cx .ret z))) : WJ E (.rangeFunc g ps assign body) Q D L C := by
  intro a w hf hst
  refine wpIn_rangeFunc fun fn _ => ?_
  show ∃ l mark w₁ d w₁' f args w₂, (Instr.enterLoop fn a.tmps ps assign body E.r).run E.P w = .ok (l, mark) w₁ ∧ _
  rw [hr]
  obtain ⟨rec, hrec⟩ : ∃ rec : LoopState → Option Code → Loop, rec = fun st pe => { state := st, pending := pe, fn, tmps := a.tmps, params := ps, assign, body, defers := w.heap.size } := ⟨_, rfl⟩
  obtain ⟨W1, hW1⟩ : ∃ W1, (w.alloc (.deferred (some []))).alloc (.loop (rec .ready none)) = W1 := ⟨_, rfl⟩
  have hev : a.eval g = .func (.func f) fi.toArray ca.toArray := hf.ev hg
  have hent : (Instr.enterLoop fn a.tmps ps assign body none).run E.P w = .ok (w.heap.size + 1, [mark w.heap.size]) W1 := by
    rw [← hW1, hrec]; exact run_enterLoop_outer _ _ _ _ _
  -- the state with the record and the block
  have hst1 : St E.S E.w0 ((obj (w.heap.size + 1) (.loop (rec .ready none)) :: Ci 0 y0) ++ (obj w.heap.size (.deferred (some [])) :: F)) W1 := by
    have h1 : St E.S E.w0 (Ci 0 y0 ++ F) w := St.sel (isJ ++ isF) hnd (by have h1 := hJ; have h2 := hF; unfold Go.Proofs.YthiigjekcdjkkaaGreat.sel at h1 h2 ⊢; rw [List.filterMap_append, h1, h2]) hst
    have hn : New w W1 [obj (w.heap.size + 1) (.loop (rec .ready none)), obj w.heap.size (.deferred (some []))] := by
      refine ⟨fun A hA => ?_, fun A hA b hb => ?_, ?_⟩
      · rcases List.mem_cons.1 hA with rfl | hA
        · show W1.heap[w.heap.size + 1]? = _
          rw [← hW1]; have := World.alloc_heap_new (w.alloc (.deferred (some []))) (.loop (rec .ready none)); rwa [World.size_alloc] at this
        · simp only [List.mem_singleton] at hA; subst hA
          show W1.heap[w.heap.size]? = _
          rw [← hW1]; exact (Below.heap_alloc _ _ _ (by simp)).trans (World.alloc_heap_new w _)
      · rcases List.mem_cons.1 hA with rfl | hA
        · have : b = w.heap.size + 1 := hb
          omega
        · simp only [List.mem_singleton] at hA; subst hA
          have : b = w.heap.size := hb
          omega
      · refine List.Pairwise.cons (fun B hB b h1 h2 => ?_) (List.pairwise_singleton _ _)
        simp only [List.mem_singleton] at hB; subst hB
        have e1 : b = w.heap.size + 1 := h1
        have e2 : b = w.heap.size := h2
        omega
    have hk : Keeps no w W1 := by rw [← hW1]; exact (Keeps.alloc no w _).trans (Keeps.alloc no _ _)
    have h2 := h1.grow hk hn
    refine h2.perm ?_
    simp only [List.cons_append, List.nil_append]
    exact List.Perm.cons _ (List.perm_middle.symm)
  have hb1 := hst1.tied
  obtain ⟨hs1, hs2⟩ := List.pairwise_cons.1 hb1.sep
  have hA0 := hb1.holds _ (List.mem_cons_self ..)
  let J : Nat → Assn → Prop := fun k A => ∃ y, inv k y ∧ A = bund (obj (w.heap.size + 1) (.loop (rec .ready none)) :: Ci k y)
  let Z : Assn → Prop := fun A => ∃ c z, (c = .ret ∨ ∃ id, c = .exit id) ∧ invx c z ∧ A = bund (obj (w.heap.size + 1) (.loop (rec .done (some c))) :: Cx c z)
  refine ⟨w.heap.size + 1, [mark w.heap.size], W1, { target := .fn (.func f) ca.toArray, args := fi.toArray ++ #[.func (.yield (w.heap.size + 1)) #[] #[]] }, W1, f,
    (fi ++ Value.func (.yield (w.heap.size + 1)) #[] #[] :: ca).toArray, W1, hent, ?_, fun _ _ => trivial, ?_, fun h => by simp at h, ?_⟩
  · simp only [resolve, hev]
    simp [Deferred.ofValue, Act.eval]
  · have : fi.toArray ++ #[Value.func (.yield (w.heap.size + 1)) #[] #[]] ++ ca.toArray = (fi ++ Value.func (.yield (w.heap.size + 1)) #[] #[] :: ca).toArray := by simp
    simp [invoke, run_callFunc hs.go]
  · refine (calls_in E.r (hs.run (w.heap.size + 1) J Z _ W1 ?_ ⟨y0, h0, rfl⟩ hA0 ?_ ?_)).mono ?_
    · -- a round
      rintro k x A W hx ⟨y, hy, rfl⟩ _ hA
      have hl : W.heap[w.heap.size + 1]? = some (.loop (rec .ready none)) := hA.1 _ (List.mem_cons_self ..)
      have hyl := run_yield (P := E.P) (args := x.toArray) hl (by rw [hrec]; simpa using hps x (List.mem_of_getElem? hx))
      rw [hrec] at hyl
      refine ⟨fn, _, assign, body, hyl, roundIn_of_wpIn trivial ?_⟩
      let A : Assn := bund (obj (w.heap.size + 1) (.loop (rec .ready none)) :: Ci k y)
      have hfr : Fr E.n [] (parL ps.toList x L0) { tmps := (ps.zip x.toArray).foldl (fun tmps (t, a) => tmps.setIfInBounds t a) a.tmps, defers := [] } := by
        have h1 := fr_par ps.toList x L0 a.tmps (fun t ht => by have := List.all_eq_true.1 hpn t ht; rwa [Nat.blt_eq] at this) ⟨rfl, hf.size, fun t v hv => hf.at_ t v (hL t v hv)⟩
        rw [← Array.foldl_toList]
        simpa using h1
      have hbusy : ∀ (c : Option Code) (b : Bool), ({ rec .busy none with state := if b then .ready else .done, pending := c } : Loop) = rec (if b then .ready else .done) c := fun c b => by rw [hrec]
      have hend : ∀ (c : Option Code) (w1 : World) (C' : List Assn) (S : BS), St S W (obj (w.heap.size + 1) (.loop (rec .busy none)) :: C') w1 →
          ∃ w2, (Instr.endRound (w.heap.size + 1) c).run E.P w1 = .ok (.bool c.isNone) w2 ∧ St S W (obj (w.heap.size + 1) (.loop (rec (if c.isNone then .ready else .done) c)) :: C') w2 := fun c w1 C' S hs1 => by
        have hl1 : w1.heap[w.heap.size + 1]? = some (.loop (rec .busy none)) := hs1.holds _ (List.mem_cons_self ..)
        refine ⟨_, run_endRound c hl1, ?_⟩
        have := hs1.upd (b := w.heap.size + 1) (A' := obj (w.heap.size + 1) (.loop (rec (if c.isNone then .ready else .done) c))) 0 rfl rfl rfl (keeps_putObj _) (fun _ h => h) (World.putObj_heap_same (lt_of_heap hl1))
        rw [hbusy]
        exact this
      refine round k x y (w.heap.size + 1) (rec .ready none) (rec .busy none) ⟨A.wf, A.foot⟩ W _ (roundPost E.P (w.heap.size + 1) (fun e w' => (e = .returned (.bool true) ∧ ∃ B, J (k + 1) B ∧ Mv A B W w') ∨ (e = .returned (.bool false) ∧ ∃ B, Z B ∧ Mv A B W w'))) hx hy ?_ ?_ ?_ ?_ _ _ hfr (St.of_bund hA)
      · intro L' C' hW a1 w1 hf1 hs1
        have hl1 : w1.heap[w.heap.size + 1]? = some (.loop (rec .ready none)) := hs1.holds _ (List.mem_cons_self ..)
        refine ⟨_, run_beginRound hl1 (by rw [hrec]), hW _ _ hf1 ?_⟩
        have := hs1.upd (b := w.heap.size + 1) (A' := obj (w.heap.size + 1) (.loop (rec .busy none))) 0 rfl rfl rfl (keeps_putObj _) (fun _ h => h) (World.putObj_heap_same (lt_of_heap hl1))
        have e : ({ rec .ready none with state := .busy } : Loop) = rec .busy none := by rw [hrec]
        rw [e]; exact this
      · intro y' L' C' hy' hC' a1 w1 hf1 hs1
        obtain ⟨w2, e1, e2⟩ := hend none w1 _ _ (hC' _ hs1)
        exact ⟨_, w2, e1, .inl ⟨rfl, _, ⟨y', hy', rfl⟩, Mv.of e2⟩⟩
      · intro id z L' C' hz hC' a1 w1 hf1 hs1
        obtain ⟨w2, e1, e2⟩ := hend (some (.exit id)) w1 _ _ (hC' _ hs1)
        exact ⟨_, w2, e1, .inr ⟨rfl, _, ⟨_, z, .inr ⟨id, rfl⟩, hz, rfl⟩, Mv.of e2⟩⟩
      · intro z L' C' hz hC' a1 w1 hf1 hs1
        obtain ⟨w2, e1, e2⟩ := hend (some .ret) w1 _ _ (hC' _ hs1)
        exact ⟨_, w2, e1, .inr ⟨rfl, _, ⟨_, z, .inl rfl, hz, rfl⟩, Mv.of e2⟩⟩
    · intro A hA
      obtain ⟨B, hB, hc⟩ := hCp A hA
      exact hc.holds _ (hb1.holds B (List.mem_cons_of_mem _ (List.mem_cons_of_mem _ hB)))
    · intro A hA b hb hb'
      obtain ⟨B, hB, hc⟩ := hCp A hA
      exact ⟨(hs1 B (List.mem_cons_of_mem _ hB) b hb (hc.foot b hb')).1, fun h => h⟩
    · rintro e w' ⟨v, rfl, hh⟩
      have hfin : Fr E.n (mark w.heap.size :: D) L0 { a with defers := [mark w.heap.size] ++ a.defers } := ⟨by simp [hf.defers], hf.size, fun t v hv => hf.at_ t v (hL t v hv)⟩
      have hleave : ∀ (st : LoopState) (c : Option Code) (C' : List Assn), st ≠ .busy → Mv (bund (obj (w.heap.size + 1) (.loop (rec .ready none)) :: Ci 0 y0)) (bund (obj (w.heap.size + 1) (.loop (rec st c)) :: C')) W1 w' →
          ∃ w2, (Instr.endLoop (w.heap.size + 1)).run E.P w' = .ok c w2 ∧ St E.S E.w0 (obj w.heap.size (.deferred (some [])) :: (F ++ C')) w2 := fun st c C' hne m => by
        have h1 := (hb1.mv 0 rfl m).untied
        have h1' : St E.S E.w0 ((obj (w.heap.size + 1) (.loop (rec st c)) :: C') ++ (obj w.heap.size (.deferred (some [])) :: F)) w' := h1
        have hl1 : w'.heap[w.heap.size + 1]? = some (.loop (rec st c)) := h1'.holds (obj (w.heap.size + 1) (.loop (rec st c))) (by simp)
        refine ⟨_, by have := run_endLoop (P := E.P) hl1 (by rw [hrec]; exact hne); rw [this, hrec], ?_⟩
        have h2 := h1'.upd (b := w.heap.size + 1) (A' := obj (w.heap.size + 1) (.loop { rec st c with state := .exhausted })) 0 rfl rfl rfl (keeps_putObj _) (fun _ h => h) (World.putObj_heap_same (lt_of_heap hl1))
        have h3 : St E.S E.w0 (C' ++ (obj w.heap.size (.deferred (some [])) :: F)) _ := h2.take (List.sublist_cons_self _ _)
        rw [hrec] at h3
        refine h3.perm ?_
        exact (List.perm_append_comm).trans (by simp)
      rcases hh with ⟨B, ⟨y, hy, rfl⟩, m⟩ | ⟨B, ⟨c, z, hc, hz, rfl⟩, m⟩
      · obtain ⟨w2, e1, e2⟩ := hleave .ready none _ (by simp) m
        exact ⟨none, w2, e1, fin w.heap.size y hy _ _ hfin e2⟩
      · obtain ⟨w2, e1, e2⟩ := hleave .done (some c) _ (by simp) m
        refine ⟨some c, w2, e1, ?_⟩
        rcases hc with rfl | ⟨id, rfl⟩
        · exact wpIn_ret (finr w.heap.size z hz _ _ hfin e2)
        · exact wpIn_exit (finx w.heap.size id z hz _ _ hfin e2)
end
section
open Go.RowKit
set_option linter.unusedVariables false
theorem w_scope {E : Env} {c : Code} {Q : Post} {D : List Deferred} {L : List (Nat × Value)} {C : List Assn} (hr : E.r = none) (h : WJ E c (Exit.noGoto Q) D L C) : WJ E (.scope c) Q D L C := by
  intro a w hf hs
  obtain ⟨P, r, n, S, w0⟩ := E
  subst hr
  exact (wpIn_wide (n := 0)).2 (wp_scope_straight ((wpIn_wide (n := 0)).1 (h a w hf hs)))
theorem w_label {E : Env} {l : Nat} {Q : Post} {D : List Deferred} {L : List (Nat × Value)} {C : List Assn} (h : KJ E (Q .normal) D L C) : WJ E (.label l) Q D L C := fun a w hf hs => wpIn_label (h a w hf hs)
theorem FnV.eq {P : Program} {f : FuncId} {args : List Value} {Cp : List Assn} {u v : Value} (h : FnV P f args Cp v) (e : v = u) : FnV P f args Cp u := e ▸ h
/-- a function value that is called: what it hands back -/
def Clo (P : Program) (fv : Value) (args : List Value) (Cp : List Assn) (v : Value) : Prop :=
  ∃ f fi ca, fv = .func (.func f) fi ca ∧ FnV P f (fi.toList ++ args ++ ca.toList) Cp v
theorem clo_of {P : Program} {f : FuncId} {fi ca args : List Value} {Cp : List Assn} {v : Value} (h : FnV P f (fi ++ args ++ ca) Cp v) : Clo P (.func (.func f) fi.toArray ca.toArray) args Cp v := ⟨f, _, _, rfl, by simpa using h⟩
section
variable {E : Env} {ops : Array Oper} {Q : Post} {rest : List Oper} {D : List Deferred} {L : List (Nat × Value)} {C : List Assn}
variable {dst : Option Tmp} {d : Nat} {ty : TypeId} {ps : String} {af : Array Edge} {g : Option (Nat × Bool)}
theorem sd_clo {fop : Operand} {xs : Array Operand} {ts : Array TypeId} {fv : Value} {vs : List Value} {Cp : List Assn} {v : Value} (hg : gOn ops L g = true) (hf : ev L fop = some fv)
    (hx : evs L xs.toList = some vs) (c : Clo E.P fv vs Cp v) (hC : HasAll C Cp) : SD E ops ⟨dst, .call { callee := .value fop, args := xs, argTypes := ts }, ty, ps, af, g⟩ D L C v := by
  obtain ⟨f, fi, ca, rfl, h⟩ := c
  exact sd_call hg hf hx rfl h hC
end
theorem St.dup {S : BS} {w0 w : World} {C : List Assn} {A : Assn} (i : Nat) (h : St S w0 C w) (hC : C[i]? = some A) (hw : ∀ b, ¬ A.wf b) : St S w0 (A :: C) w := by
  have hm := List.mem_of_getElem? hC
  refine ⟨h.keeps, fun B hB => ?_, List.Pairwise.cons (fun B hB b ha hb => ⟨hw b, fun hwb => ?_⟩) h.sep, fun B hB => ?_, fun B hB => ?_⟩
  · rcases List.mem_cons.1 hB with rfl | hB
    · exact h.holds B hm
    · exact h.holds B hB
  · obtain ⟨j, hj, rfl⟩ := List.mem_iff_getElem.1 hB
    obtain ⟨hi, rfl⟩ := List.getElem?_eq_some_iff.1 hC
    rcases Nat.lt_trichotomy i j with hlt | heq | hlt
    · exact (List.pairwise_iff_getElem.1 h.sep i j hi hj hlt b ha hb).2 hwb
    · subst heq; exact hw b hwb
    · exact (List.pairwise_iff_getElem.1 h.sep j i hj hi hlt b hb ha).1 hwb
  · rcases List.mem_cons.1 hB with rfl | hB
    · exact h.own B hm
    · exact h.own B hB
  · rcases List.mem_cons.1 hB with rfl | hB
    · exact h.seen B hm
    · exact h.seen B hB
theorem w_dup {E : Env} {c : Code} {Q : Post} {D : List Deferred} {L : List (Nat × Value)} {C : List Assn} {A : Assn} (i : Nat) (hC : C[i]? = some A) (hw : ∀ b, ¬ A.wf b) (h : WJ E c Q D L (A :: C)) : WJ E c Q D L C := fun a w hf hs => h a w hf (hs.dup i hC hw)
theorem map_len {α : Type} {f : α → List Value} {n : Nat} (h : ∀ a, (f a).length = n) (l : List α) : ∀ x ∈ l.map f, x.length = n := fun x hx => by
  obtain ⟨a, _, rfl⟩ := List.mem_map.1 hx; exact h a
def RoJ (E : Env) (c : Code) (Q : Post) (m : Nat) (D : List Deferred) (L : List (Nat × Value)) (C : List Assn) : Prop :=
  ∀ a w, Fr E.n D L a → St E.S E.w0 C w → Code.roundsIn (Fw E.r) 0 E.P c Q m a w
theorem w_rounds {E : Env} {c : Code} {Q : Post} {D : List Deferred} {L : List (Nat × Value)} {C : List Assn} (m : Nat) (h : RoJ E c Q m D L C) : WJ E (.loop c) Q D L C := fun a w hf hs => wpIn_loop_rounds m (h a w hf hs)
theorem ro_succ {E : Env} {c : Code} {Q : Post} {m : Nat} {D : List Deferred} {L : List (Nat × Value)} {C : List Assn}
    (h : ∀ K : Act → World → Prop, (∀ D L C, RoJ E c Q m D L C → KJ E K D L C) → WJ E c (Exit.then K Q) D L C) : RoJ E c Q (m + 1) D L C :=
  fun a w hf hs => h (Code.roundsIn (Fw E.r) 0 E.P c Q m) (fun _ _ _ hy a w hf hs => hy a w hf hs) a w hf hs
theorem w_join {E : Env} {x y : Code} {Q : Post} {D : List Deferred} {L : List (Nat × Value)} {C : List Assn} {ι : Type} (L' : ι → List (Nat × Value)) (C' : ι → List Assn)
    (hy : ∀ z, WJ E y Q D (L' z) (C' z)) (h : ∀ K : Act → World → Prop, (∀ z, KJ E K D (L' z) (C' z)) → WJ E x (Exit.then K Q) D L C) : WJ E (.seq x y) Q D L C :=
  w_seq fun K hK => h K fun z => hK _ _ _ (hy z)
theorem sub_bool {L L' : List (Nat × Value)} {t : Nat} {b c : Bool} (h1 : L.lookup t = some (.bool b)) (h2 : c = b) (k : Sub L L') : Sub L ((t, .bool c) :: L') := Sub.cons (h2 ▸ h1) k
theorem sub_val {L L' : List (Nat × Value)} {t : Nat} {u v : Value} (h1 : L.lookup t = some u) (h2 : v = u) (k : Sub L L') : Sub L ((t, v) :: L') := Sub.cons (h2 ▸ h1) k
def bun (C : List Assn) : Assn where
  foot b := ∃ A ∈ C, A.foot b
  wf _ := False
  holds w := ∀ A ∈ C, A.holds w
  wr := false
  wfoot _ h := h.elim
  whole h := by cases h
  lt w h b := by rintro ⟨A, hA, hb⟩; exact A.lt w (h A hA) b hb
  keep w w' hk h := fun A hA => A.keep w w' (fun b hb => hk b ⟨A, hA, hb⟩) (h A hA)
theorem fnV_bun {P : Program} {f : FuncId} {args : List Value} {Cp C : List Assn} {v : Value} (h : FnV P f args Cp v) (hC : HasAll C Cp) : FnV P f args [bun C] v := ⟨h.go, fun w hw => h.run w (hC w (hw _ (List.mem_singleton.2 rfl)))⟩
theorem has_bun {C Cp : List Assn} (h : HasAll C Cp) : Has C (bun Cp).holds := fun w hw => h w hw
def tX (P : Program) (t : TypeId) : Option (Nat × TypeId) :=
  match P.underlying t with
  | some (.array n e) => some (n, e)
  | _ => none
theorem tX_out {P : Program} {t n e : Nat} (h : tX P t = some (n, e)) : P.underlying t = some (.array n e) := by
  unfold tX at h
  cases hu : P.underlying t with
  | none => simp [hu] at h
  | some d => cases d <;> simp [hu] at h <;> (obtain ⟨rfl, rfl⟩ := h; rfl)
section
variable {E : Env} {ops : Array Oper} {Q : Post} {rest : List Oper} {D : List Deferred} {L : List (Nat × Value)} {C : List Assn}
variable {dst : Option Tmp} {d : Nat} {ty : TypeId} {ps : String} {af : Array Edge} {g : Option (Nat × Bool)}
theorem sd_index {x ix : Operand} {t e len sz : Nat} {cs vs : List Value} {j : Int} (m : Nat) (hg : gOn ops L g = true) (hx : ev L x = some (.agg cs.toArray)) (hi : ev L ix = some (.int .i64 j)) (ht : tX E.P t = some (len, e)) (hk : tK E.P e = some (true, sz)) (hj : j = (m : Int)) (hm : m < len) (hv : (cs.drop (m * sz)).take sz = vs) :
    SD E ops ⟨dst, .index t x ix, ty, ps, af, g⟩ D L C (.agg vs.toArray) :=
  sd_pure hg (by simp) fun a w hfr _ => by
    have h0 : (0 : Int) ≤ (m : Int) ∧ (m : Int) < (len : Int) := by omega
    subst hj
    simp [execOp, hfr.ev hx, hfr.ev hi, Instr.index, asIntOf, run_underlying (tX_out ht), h0, hm, (tK_agg hk w).2, part_agg hk hv w]
end
end
section
open Go.RowKit
set_option linter.unusedVariables false
def pickL (ops : Array Oper) (is : List Nat) : List Oper := is.filterMap (ops[·]?)
theorem pickL_get {ops : Array Oper} : ∀ {is : List Nat}, (∀ i ∈ is, i < ops.size) → ∀ p : Nat, (pickL ops is)[p]? = (is[p]?).bind (ops[·]?) := by
  intro is
  induction is with
  | nil => intro _ p; simp [pickL]
  | cons i is ih =>
    intro h p
    have hi := h i (by simp)
    have h1 : pickL ops (i :: is) = ops[i] :: pickL ops is := by simp [pickL, hi]
    rw [h1]
    cases p with
    | zero => simp [hi]
    | succ p => simpa using ih (fun j hj => h j (by simp [hj])) p
theorem pickL_length {ops : Array Oper} {is : List Nat} (h : ∀ i ∈ is, i < ops.size) : (pickL ops is).length = is.length := by
  induction is with
  | nil => rfl
  | cons i is ih =>
    have hi := h i (by simp)
    have h1 : pickL ops (i :: is) = ops[i] :: pickL ops is := by simp [pickL, hi]
    rw [h1]; simp [ih (fun j hj => h j (by simp [hj]))]
def plainOp (o : Oper) : Bool := match o.op with | .select .. => false | .defer _ => false | _ => true
def chk3M (m : Array Nat) (ops : Array Oper) (free T : List Nat) : Bool :=
  (free.all (Nat.blt · ops.size)) && (T.all (Nat.blt · ops.size)) && ((List.range ops.size).all fun i => free.contains i || T.contains i) && (T.all fun i => !free.contains i) &&
  ((List.range ops.size).all fun i => match ops[i]? with
    | none => false
    | some o => plainOp o && o.after.toList.all fun e => !Region.binds .any e || Nat.blt e.on i) &&
  ((List.range free.length).all fun p => match (free[p]?).bind fun i => (ops[i]?).map fun o => (i, o) with
    | none => false
    | some (i, o) => o.dst.isSome &&
      ((List.range free.length).all fun q => q == p || match (free[q]?).bind fun j => (ops[j]?).map fun o => (j, o) with
        | none => false
        | some (j, r) => match r.dst with
          | none => false
          | some d => o.dst != some d && (!(o.looksAt ops).contains d || (if q < p then ancB m j i else ancB m i j))) &&
      (T.all fun j => match ops[j]? with
        | none => false
        | some r => r.dst != o.dst && (match r.dst with | none => true | some d => !(o.looksAt ops).contains d || ancB m i j) && (match o.dst with | none => true | some d => !(r.looksAt ops).contains d || ancB m i j))) &&
  ((List.range T.length).all fun p => (List.range p).all fun q => match T[p]?, T[q]? with
    | some i, some j => i != j && ancB m j i
    | _, _ => false)
def chk4M (m : Array Nat) (ops : Array Oper) (free T : List Nat) (fe tb : List Bool) : Bool :=
  chk3M m ops free T && ((List.range T.length).all fun q => (tb[q]?).getD false || (List.range free.length).all fun p => !(fe[p]?).getD false || match free[p]?, T[q]? with
    | some i, some j => ancB m i j
    | _, _ => false)
def chk4 (ops : Array Oper) (free T : List Nat) (fe tb : List Bool) : Bool := chk4M (msk ops) ops free T fe tb
def chk3 (ops : Array Oper) (free T : List Nat) : Bool := chk3M (msk ops) ops free T
theorem chk4_out {ops : Array Oper} {free T : List Nat} {fe tb : List Bool} (h : chk4 ops free T fe tb = true) : chk3 ops free T = true ∧ ∀ (p q i j : Nat), free[p]? = some i → T[q]? = some j → (fe[p]?).getD false = true → (tb[q]?).getD false = true ∨ ancB (msk ops) i j = true := by
  simp only [chk4, chk4M, Bool.and_eq_true] at h
  refine ⟨h.1, fun p q i j hp hq hf => ?_⟩
  have h2 := h.2
  rw [List.all_eq_true] at h2
  have h3 := h2 q (by simpa using (List.getElem?_eq_some_iff.1 hq).1)
  rw [Bool.or_eq_true] at h3
  rcases h3 with h3 | h3
  · exact .inl h3
  · rw [List.all_eq_true] at h3
    have h4 := h3 p (by simpa using (List.getElem?_eq_some_iff.1 hp).1)
    simp only [hp, hq, hf, Bool.not_true, Bool.false_or] at h4
    exact .inr h4
structure Chk3 (ops : Array Oper) (free T : List Nat) : Prop where
  fl : ∀ i ∈ free, i < ops.size
  tl : ∀ i ∈ T, i < ops.size
  cover : ∀ i, i < ops.size → i ∈ free ∨ i ∈ T
  disj : ∀ i ∈ T, i ∉ free
  plain : ∀ (i : Nat) (o : Oper), ops[i]? = some o → (∀ cs b, o.op ≠ .select cs b) ∧ (∀ c, o.op ≠ .defer c)
  edge : ∀ (i : Nat) (o : Oper) (e : Edge), ops[i]? = some o → e ∈ o.after → Region.binds .any e = true → e.on < i
  apart : ∀ (p q i j : Nat) (o r : Oper) (d : Nat), free[p]? = some i → free[q]? = some j → q ≠ p → ops[i]? = some o → ops[j]? = some r → r.dst = some d → o.dst ≠ some d ∧ (d ∈ o.looksAt ops → (q < p ∧ ancB (msk ops) j i = true) ∨ (p < q ∧ ancB (msk ops) i j = true))
  ft : ∀ (i j : Nat) (o r : Oper), i ∈ free → j ∈ T → ops[i]? = some o → ops[j]? = some r → r.dst ≠ o.dst ∧ (∀ d, r.dst = some d → d ∈ o.looksAt ops → ancB (msk ops) i j = true) ∧ (∀ d, o.dst = some d → d ∈ r.looksAt ops → ancB (msk ops) i j = true)
  chain : ∀ p q i j : Nat, T[p]? = some i → T[q]? = some j → q < p → i ≠ j ∧ ancB (msk ops) j i = true
theorem Chk3.of {ops : Array Oper} {free T : List Nat} (h : chk3 ops free T = true) : Chk3 ops free T := by
  simp only [chk3, chk3M, Bool.and_eq_true] at h
  obtain ⟨⟨⟨⟨⟨⟨h1, h2⟩, h3⟩, h4⟩, h5⟩, h6⟩, h7⟩ := h
  rw [List.all_eq_true] at h1 h2 h3 h4 h5 h6 h7
  have hfl : ∀ i ∈ free, i < ops.size := fun i hi => by have := h1 i hi; rwa [Nat.blt_eq] at this
  have htl : ∀ i ∈ T, i < ops.size := fun i hi => by have := h2 i hi; rwa [Nat.blt_eq] at this
  refine ⟨hfl, htl, fun i hi => ?_, fun i hi => ?_, fun i o ho => ?_, fun i o e ho he hb => ?_, ?_, ?_, ?_⟩
  · have := h3 i (by simpa using hi)
    simpa using this
  · have := h4 i hi
    simpa using this
  · have hi : i < ops.size := (Array.getElem?_eq_some_iff.1 ho).1
    have := h5 i (by simpa using hi)
    simp only [ho, Bool.and_eq_true] at this
    have := this.1
    refine ⟨fun cs b hh => ?_, fun c hh => ?_⟩ <;> simp [plainOp, hh] at this
  · have hi : i < ops.size := (Array.getElem?_eq_some_iff.1 ho).1
    have := h5 i (by simpa using hi)
    simp only [ho, Bool.and_eq_true] at this
    have := this.2
    rw [List.all_eq_true] at this
    have := this e (by simpa using he)
    rw [hb] at this
    simpa using this
  · intro p q i j o r d hp hq hne ho hr hd
    have := h6 p (by simpa using (List.getElem?_eq_some_iff.1 hp).1)
    simp only [hp, ho, Option.bind_some, Option.map_some, Bool.and_eq_true] at this
    have := this.1.2
    rw [List.all_eq_true] at this
    have := this q (by simpa using (List.getElem?_eq_some_iff.1 hq).1)
    simp only [hq, hr, hd, Option.bind_some, Option.map_some, Bool.or_eq_true, Bool.and_eq_true, beq_iff_eq, bne_iff_ne, ne_eq] at this
    rcases this with h | ⟨h8, h9⟩
    · exact absurd h hne
    · refine ⟨h8, fun hm => ?_⟩
      rcases h9 with h9 | h9
      · simp [hm] at h9
      · by_cases hlt : q < p
        · rw [if_pos hlt] at h9; exact .inl ⟨hlt, h9⟩
        · rw [if_neg hlt] at h9; exact .inr ⟨by omega, h9⟩
  · intro i j o r hi hj ho hr
    obtain ⟨p, hp⟩ := List.mem_iff_getElem?.1 hi
    have := h6 p (by simpa using (List.getElem?_eq_some_iff.1 hp).1)
    simp only [hp, ho, Option.bind_some, Option.map_some, Bool.and_eq_true] at this
    have := this.2
    rw [List.all_eq_true] at this
    have := this j hj
    simp only [hr, Bool.and_eq_true, bne_iff_ne, ne_eq] at this
    refine ⟨this.1.1, fun d hd hm => ?_, fun d hd hm => ?_⟩
    · have := this.1.2
      simp [hd, hm] at this; exact this
    · have := this.2
      simp [hd, hm] at this; exact this
  · intro p q i j hp hq hlt
    have := h7 p (by simpa using (List.getElem?_eq_some_iff.1 hp).1)
    rw [List.all_eq_true] at this
    have := this q (by simpa using hlt)
    simp only [hp, hq, Bool.and_eq_true, bne_iff_ne, ne_eq] at this
    exact this
def NQ (K : Act → World → Prop) : Post
  | .normal => K
  | _ => fun _ _ => False
/-- the others, one behind the other; the part C' of the state stands throughout, the part C1 as long as the flags say -/
def TJ (E : Env) (ops : Array Oper) (D : List Deferred) (C' C1 : List Assn) (F : List (Nat × Value) → List Assn → Prop) : List Bool → List Oper → List (Nat × Value) → List Assn → Prop
  | _, [], L, C => F L C
  | bs, o :: T, L, C => ∀ K : Act → World → Prop, (∀ L' C'', (∀ w, St E.S E.w0 C'' w → St E.S E.w0 C' w) → (bs.headD false = true → ∀ w, St E.S E.w0 C'' w → St E.S E.w0 C1 w) → TJ E ops D C' C1 F bs.tail T L' C'' → KJ E K D L' C'') → RJ E ops (NQ K) [o] D L C
/-- the free ones: an early one (its flag) may read C1 -/
def DJ4 (E : Env) (ops : Array Oper) (D : List Deferred) (C' C1 : List Assn) (F : List (Nat × Value) → Prop) : List Bool → List Oper → List (Nat × Value) → Prop
  | _, [], L => F L
  | bs, o :: rest, L => ∃ d v, o.dst = some d ∧ d < E.n ∧ SD E ops o D L (bif bs.headD false then C1 else C') v ∧ DJ4 E ops D C' C1 F bs.tail rest ((d, v) :: L)
theorem DJ4.out {E : Env} {ops : Array Oper} {D : List Deferred} {C' C1 : List Assn} {F : List (Nat × Value) → Prop} : ∀ (bs : List Bool) (os : List Oper) (L : List (Nat × Value)), DJ4 E ops D C' C1 F bs os L →
    ∃ vs : List Value, vs.length = os.length ∧ F (lat os vs os.length L) ∧ ∀ i o, os[i]? = some o → ∃ d v, o.dst = some d ∧ d < E.n ∧ vs[i]? = some v ∧ SD E ops o D (lat os vs i L) (bif (bs[i]?).getD false then C1 else C') v := by
  intro bs os
  induction os generalizing bs with
  | nil => intro L h; exact ⟨[], rfl, by cases bs <;> exact h, fun i o ho => by simp at ho⟩
  | cons o os ih =>
    intro L h
    have h' : ∃ d v, o.dst = some d ∧ d < E.n ∧ SD E ops o D L (bif bs.headD false then C1 else C') v ∧ DJ4 E ops D C' C1 F bs.tail os ((d, v) :: L) := by cases bs <;> exact h
    obtain ⟨d, v, ho, hd, hsd, hk⟩ := h'
    obtain ⟨vs, hl, hF, hall⟩ := ih _ _ hk
    refine ⟨v :: vs, by simp [hl], by simpa [lat, ho] using hF, fun i o' ho' => ?_⟩
    cases i with
    | zero =>
      simp at ho'; subst ho'
      refine ⟨d, v, ho, hd, by simp, ?_⟩
      have e : (bs[0]?).getD false = bs.headD false := by cases bs <;> rfl
      rw [e]; simpa [lat] using hsd
    | succ i =>
      obtain ⟨d', v', h1, h2, h3, h4⟩ := hall i o' (by simpa using ho')
      refine ⟨d', v', h1, h2, by simpa using h3, ?_⟩
      have e : (bs[i + 1]?) = bs.tail[i]? := by cases bs <;> simp
      rw [e]; simpa [lat, ho] using h4
theorem op_swap {E : Env} {ops : Array Oper} {o : Oper} (hsel : ∀ cs b, o.op ≠ .select cs b) (hdef : ∀ c, o.op ≠ .defer c) {a a' : Act} (hl : ∀ t ∈ o.looksAt ops, a.tmps[t]? = a'.tmps[t]?) {w : World}
    {K N : Act → World → Prop} {Q : Post} (h : wpL E.r E.P ops (NQ K) [o] a' w) (hK : ∀ b w', K b w' → b.defers = a'.defers) (hn : ∀ u w', K (a'.put o.dst u) w' → N (a.put o.dst u) w') :
    if Region.wanted o (yielded ops a.tmps) then o.wpIn (Fw E.r) 0 E.P a w N Q else (∀ f, o.about E.P w a.eval = some f → (Fw E.r).fn f) ∧ N (a.put o.dst undef) w := by
  rw [wanted_congr hl]
  unfold wpL at h
  by_cases hw : Region.wanted o (yielded ops a'.tmps) = true
  · rw [if_pos hw] at h ⊢
    refine ⟨fun _ _ => trivial, ?_⟩
    have h2 := h.2
    rw [Oper.semAt_eq _ _ _ hdef] at h2 ⊢
    rw [execOp_congr (ρ := a.eval) (ρ' := a'.eval) o hsel (eval_congr hl)]
    generalize (execOp a'.eval o).run E.P w = res at h2
    cases res with
    | halt x w' => cases x <;> simp [Oper.uponIn, NQ] at h2
    | ok x w' =>
      cases x with
      | value u => exact hn u w' h2
      | skip => exact hn _ w' h2
      | defer dd =>
        have h3 := hK _ _ h2
        have := congrArg List.length h3
        simp [Act.put] at this
        cases ho : o.dst <;> simp [ho] at this
      | enter f args =>
        refine ⟨h2.1, h2.2.mono fun e w'' he => ?_⟩
        cases e with
        | returned u => exact hn u w'' he
        | panicked ch => exact he.elim
        | outgrown => obtain ⟨_, _, hF⟩ := he; exact hF.elim
      | row x args => exact ⟨h2.1, h2.2.mono fun u w'' he => hn u w'' he⟩
      | round l f tmps asl bd =>
        refine ⟨h2.1, h2.2.mono fun e w'' he => ?_⟩
        cases e with
        | returned u => exact hn u w'' he
        | panicked ch => exact he.elim
        | outgrown => obtain ⟨_, _, hF⟩ := he; exact hF.elim
      | _ => simp [Oper.uponIn] at h2
  · rw [if_neg hw] at h ⊢
    exact ⟨fun _ _ => trivial, hn _ w h⟩
set_option maxHeartbeats 1000000 in
theorem w_draw4 {E : Env} {id : Nat} {ops : Array Oper} {Q : Post} {D : List Deferred} {L : List (Nat × Value)} {C : List Assn} (hm : E.P.follows .mixedOrders = true) (free T : List Nat) (fe tb : List Bool) (C' C1 : List Assn) (hc : chk4 ops free T fe tb = true)
    (hC : ∀ w, St E.S E.w0 C w → St E.S E.w0 C' w) (hC1 : ∀ w, St E.S E.w0 C w → St E.S E.w0 C1 w)
    (h : DJ4 E ops D C' C1 (fun L' => TJ E ops D C' C1 (fun L C => KJ E (Q .normal) D L C) tb (pickL ops T) L' C) fe (pickL ops free) L) : WJ E (.region id ops true) Q D L C := by
  obtain ⟨hc, hc4⟩ := chk4_out hc
  have hc := Chk3.of hc
  intro a0 w0 hf0 hs0
  refine wpIn_region_any hm ?_
  have hs1 : St E.S E.w0 C ({ w0 with drawn := w0.drawn + 1 } : World) := hs0.same (Keeps.drew no w0)
  obtain ⟨vs, hvl, hF, hall⟩ := DJ4.out _ _ _ h
  have hfl := pickL_length hc.fl
  have hgf : ∀ (p : Nat) (i : Nat) (o : Oper), free[p]? = some i → ops[i]? = some o → (pickL ops free)[p]? = some o := fun p i o hp ho => by rw [pickL_get hc.fl, hp]; exact ho
  have hfg : ∀ (p : Nat) (o : Oper), (pickL ops free)[p]? = some o → ∃ i, free[p]? = some i ∧ ops[i]? = some o := fun p o h => by
    rw [pickL_get hc.fl] at h
    cases hp : free[p]? with
    | none => simp [hp] at h
    | some i => exact ⟨i, rfl, by simpa [hp] using h⟩
  have hdlt : ∀ (j : Nat) (o : Oper) (d : Nat), (pickL ops free)[j]? = some o → o.dst = some d → d < E.n := fun j o d ho hd => by
    obtain ⟨d', v, h1, h2, _⟩ := hall j o ho
    rw [h1] at hd; cases hd; exact h2
  -- all is listed
  have done : ∀ (listed : Array Bool) (a : Act) (w : World) (k : Nat) (Lk : List (Nat × Value)) (Ck : List Assn) (af : Act), (∀ i, i < ops.size → listed.getD i false = true) →
      (∀ m i, T[m]? = some i → (listed.getD i false = true ↔ m < k)) → a.defers = D → a.tmps.size = E.n →
      TJ E ops D C' C1 (fun L C => KJ E (Q .normal) D L C) (tb.drop k) (pickL ops (T.drop k)) Lk Ck → Fr E.n D Lk af → St E.S E.w0 Ck w →
      (∀ t, (∀ (p i : Nat) (o : Oper), free[p]? = some i → ops[i]? = some o → o.dst ≠ some t) → af.tmps[t]? = a.tmps[t]?) →
      (∀ (p i : Nat) (o : Oper) (d : Nat), free[p]? = some i → ops[i]? = some o → o.dst = some d → af.tmps[d]? = vs[p]? ∧ (listed.getD i false = true → a.tmps[d]? = vs[p]?)) → Q .normal a w := by
    intro listed a w k Lk Ck af hal hTk hd hz hT hfr hst hslot hfree
    have hk : T.drop k = [] := by
      rw [List.drop_eq_nil_iff]
      rcases Nat.lt_or_ge k T.length with hlt | hge
      · have hi := (hTk k _ (List.getElem?_eq_getElem hlt)).1 (hal _ (hc.tl _ (List.getElem_mem hlt)))
        omega
      · exact hge
    rw [hk] at hT
    have hT : KJ E (Q .normal) D Lk Ck := by cases hb : tb.drop k <;> (rw [hb] at hT; exact hT)
    refine hT a w ⟨hd, hz, fun t v hv => ?_⟩ hst
    rw [← hfr.at_ t v hv]
    by_cases hw : ∃ (p i : Nat) (o : Oper), free[p]? = some i ∧ ops[i]? = some o ∧ o.dst = some t
    · obtain ⟨p, i, o, hp, ho, hdst⟩ := hw
      obtain ⟨e1, e2⟩ := hfree p i o t hp ho hdst
      rw [e1, e2 (hal i (hc.fl i (List.mem_of_getElem? hp)))]
    · exact (hslot t (fun p i o hp ho hdst => hw ⟨p, i, o, hp, ho, hdst⟩)).symm
  have key : ∀ (fuel : Nat) (listed : Array Bool) (a : Act) (w : World) (k : Nat) (Lk : List (Nat × Value)) (Ck : List Assn) (af : Act), listed.size = ops.size → (unl ops.size listed).length ≤ fuel → (∀ j, listed.getD j false = true → Deps ops (fun k => listed.getD k false = true) j) →
      (∀ m i, T[m]? = some i → (listed.getD i false = true ↔ m < k)) → a.defers = D → a.tmps.size = E.n →
      TJ E ops D C' C1 (fun L C => KJ E (Q .normal) D L C) (tb.drop k) (pickL ops (T.drop k)) Lk Ck → Fr E.n D Lk af → St E.S E.w0 Ck w → (∀ w, St E.S E.w0 Ck w → St E.S E.w0 C' w) → (∀ (p i : Nat), free[p]? = some i → (fe[p]?).getD false = true → listed.getD i false = false → ∀ w, St E.S E.w0 Ck w → St E.S E.w0 C1 w) →
      (∀ t, (∀ (p i : Nat) (o : Oper), free[p]? = some i → ops[i]? = some o → o.dst ≠ some t) → af.tmps[t]? = a.tmps[t]?) →
      (∀ t, (∀ (i : Nat) (o : Oper), listed.getD i false = true → ops[i]? = some o → o.dst ≠ some t) → a.tmps[t]? = a0.tmps[t]?) →
      (∀ (p i : Nat) (o : Oper) (d : Nat), free[p]? = some i → ops[i]? = some o → o.dst = some d → af.tmps[d]? = vs[p]? ∧ (listed.getD i false = true → a.tmps[d]? = vs[p]?)) →
      wpAnyIn (Fw E.r) 0 E.P .any ops Q fuel listed a w := by
    intro fuel
    induction fuel with
    | zero =>
      intro listed a w k Lk Ck af hsz hu hcl hTk hd hz hT hfr hst hsub hsub1 hslot hold hfree
      have hall' : ∀ i, i < ops.size → listed.getD i false = true := fun i hi => by
        cases hg : listed.getD i false with
        | true => rfl
        | false =>
          have := List.length_pos_of_mem (mem_unl.2 ⟨hi, hg⟩)
          omega
      refine ⟨?_, done listed a w k Lk Ck af hall' hTk hd hz hT hfr hst hslot hfree⟩
      rw [List.eq_nil_iff_forall_not_mem]
      intro i hi
      obtain ⟨h1, h2, _⟩ := of_ready hsz hi
      rw [hall' i h1] at h2; cases h2
    | succ fuel ih =>
      intro listed a w k Lk Ck af hsz hu hcl hTk hd hz hT hfr hst hsub hsub1 hslot hold hfree
      refine ⟨fun hnil => ?_, fun i hi => ?_⟩
      · refine done listed a w k Lk Ck af (fun i hi => ?_) hTk hd hz hT hfr hst hslot hfree
        cases hg : listed.getD i false with
        | true => rfl
        | false =>
          exfalso
          have hex : ∃ i, i < ops.size ∧ listed.getD i false = false := ⟨i, hi, hg⟩
          obtain ⟨j, hj, hmin⟩ := exists_least hex
          have hr : j ∈ Region.ready .any ops listed := ready_of hsz hj.1 hj.2 (fun o e ho he hb => by
            have h1 := hc.edge j o e ho he hb
            cases hg : listed.getD e.on false with
            | true => exact hg
            | false => exact absurd (hmin e.on ⟨by omega, hg⟩) (by omega))
          rw [hnil] at hr; cases hr
      · obtain ⟨hi1, hi2, hi3⟩ := of_ready hsz hi
        obtain ⟨o, ho⟩ : ∃ o, ops[i]? = some o := ⟨ops[i], Array.getElem?_eq_getElem hi1⟩
        obtain ⟨hsel, hdef⟩ := hc.plain i o ho
        have hset : ∀ j, (listed.setIfInBounds i true).getD j false = if j = i then true else listed.getD j false := fun j => getD_set (by omega) false
        have hun := unl_lt (n := ops.size) (i := i) (listed := listed) (by omega) (mem_unl.2 ⟨hi1, hi2⟩)
        have hcl' : ∀ j, (listed.setIfInBounds i true).getD j false = true → Deps ops (fun k => (listed.setIfInBounds i true).getD k false = true) j := by
          intro j hj o' e ho' he hb
          show (listed.setIfInBounds i true).getD e.on false = true
          rw [hset] at hj ⊢
          by_cases e1 : e.on = i
          · simp [e1]
          · simp only [e1, if_false]
            by_cases e2 : j = i
            · subst e2; exact hi3 o' e ho' he hb
            · simp only [e2, if_false] at hj; exact hcl j hj o' e ho' he hb
        have hanc : ∀ j, ancB (msk ops) j i = true → listed.getD j false = true := fun j hj => ancB_closed (S := fun k => listed.getD k false = true) hcl hj hi3
        have hnanc : ∀ j, ancB (msk ops) i j = true → listed.getD j false = false := fun j hj => by
          cases hg : listed.getD j false with
          | false => rfl
          | true =>
            have := ancB_closed (S := fun k => listed.getD k false = true) hcl hj (hcl j hg)
            rw [this] at hi2; cases hi2
        unfold wpOpIn
        simp only [ho]
        rcases hc.cover i hi1 with hin | hin
        · -- a free one
          obtain ⟨p, hp⟩ := List.mem_iff_getElem?.1 hin
          obtain ⟨d, v, hod, hdn, hvi, hsd⟩ := hall p o (hgf p i o hp ho)
          have hfrp := actAt_fr (pickL ops free) vs p L a0 hdlt hf0
          have hlook : ∀ t ∈ o.looksAt ops, a.tmps[t]? = (actAt (pickL ops free) vs p a0).tmps[t]? := by
            intro t htl
            by_cases hw : ∃ (q j : Nat) (r : Oper), free[q]? = some j ∧ q ≠ p ∧ ops[j]? = some r ∧ r.dst = some t
            · obtain ⟨q, j, r, hq, hne, hr, hrd⟩ := hw
              obtain ⟨d', v', e1, e2, e3, _⟩ := hall q r (hgf q j r hq hr)
              rw [hrd] at e1; cases e1
              have hap := hc.apart p q i j o r t hp hq hne ho hr hrd
              rcases hap.2 htl with ⟨hlt, ha⟩ | ⟨hlt, ha⟩
              · rw [(hfree q j r t hq hr hrd).2 (hanc j ha), e3]
                refine (actAt_at (pickL ops free) vs p a0 q r t v' hlt (hgf q j r hq hr) hrd (by rw [hf0.size]; exact e2) e3 (fun m u hm hne' hu => ?_)).symm
                obtain ⟨x, hx1, hx2⟩ := hfg m u hu
                exact (hc.apart m q x j u r t hx1 hq (Ne.symm hne') hx2 hr hrd).1
              · have hnS := hnanc j ha
                refine (hold t (fun m u hm hu hud => ?_)).trans (actAt_other (pickL ops free) vs p a0 t (fun m u hm hu hud => ?_)).symm
                · rcases hc.cover m (Array.getElem?_eq_some_iff.1 hu).1 with hmf | hmT
                  · obtain ⟨x, hx⟩ := List.mem_iff_getElem?.1 hmf
                    by_cases e : x = q
                    · subst e; rw [hq] at hx; cases hx; rw [hm] at hnS; cases hnS
                    · exact (hc.apart x q m j u r t hx hq (Ne.symm e) hu hr hrd).1 hud
                  · exact (hc.ft j m r u (List.mem_of_getElem? hq) hmT hr hu).1 (by rw [hud, hrd])
                · obtain ⟨x, hx1, hx2⟩ := hfg m u hu
                  exact (hc.apart m q x j u r t hx1 hq (by omega) hx2 hr hrd).1 hud
            · refine (hold t (fun m u hm hu hud => ?_)).trans (actAt_other (pickL ops free) vs p a0 t (fun m u hm hu hud => ?_)).symm
              · rcases hc.cover m (Array.getElem?_eq_some_iff.1 hu).1 with hmf | hmT
                · obtain ⟨x, hx⟩ := List.mem_iff_getElem?.1 hmf
                  by_cases e : x = p
                  · subst e; rw [hp] at hx; cases hx; rw [hm] at hi2; cases hi2
                  · exact hw ⟨x, m, u, hx, e, hu, hud⟩
                · have := hnanc m ((hc.ft i m o u hin hmT ho hu).2.1 t hud htl)
                  rw [hm] at this; cases this
              · obtain ⟨x, hx1, hx2⟩ := hfg m u hu
                exact hw ⟨m, x, u, hx1, by omega, hx2, hud⟩
          have hTi : ∀ m j, T[m]? = some j → j ≠ i := fun m j hmj e => hc.disj j (List.mem_of_getElem? hmj) (e ▸ hin)
          have hgo : ∀ w', Keeps no w w' → wpAnyIn (Fw E.r) 0 E.P .any ops Q fuel (listed.setIfInBounds i true) (a.put (some d) v) w' := by
            intro w' hk
            refine ih _ _ w' k Lk Ck af (by simpa using hsz) (by omega) hcl' (fun m j hmj => ?_) hd (by simp [Act.put, hz]) hT hfr (hst.same hk) hsub (fun p' i' hp' hf' hl' => hsub1 p' i' hp' hf' (by rw [hset] at hl'; by_cases e : i' = i; (rw [if_pos e] at hl'; cases hl'); (rwa [if_neg e] at hl'))) (fun t ht => ?_) (fun t ht => ?_) (fun q j r d' hq hr hrd => ?_)
            · rw [hset, if_neg (hTi m j hmj)]; exact hTk m j hmj
            · have hne : d ≠ t := fun e => ht p i o hp ho (by rw [hod, e])
              simp only [Act.put]
              rw [Array.getElem?_setIfInBounds_ne hne]
              exact hslot t ht
            · have hne : d ≠ t := fun e => ht i o (by rw [hset]; simp) ho (by rw [hod, e])
              simp only [Act.put]
              rw [Array.getElem?_setIfInBounds_ne hne]
              exact hold t (fun m u hm hu => ht m u (by rw [hset]; split <;> simp [hm]) hu)
            · refine ⟨(hfree q j r d' hq hr hrd).1, fun hl => ?_⟩
              by_cases e : q = p
              · subst e
                rw [hp] at hq; cases hq
                rw [ho] at hr; cases hr
                rw [hod] at hrd; cases hrd
                simp only [Act.put]
                rw [Array.getElem?_setIfInBounds_self_of_lt (by rw [hz]; exact hdn), hvi]
              · have hne := (hc.apart p q i j o r d' hp hq e ho hr hrd).1
                simp only [Act.put]
                rw [Array.getElem?_setIfInBounds_ne (fun h => hne (by rw [hod, h]))]
                refine (hfree q j r d' hq hr hrd).2 ?_
                rw [hset] at hl
                by_cases e2 : j = i
                · subst e2
                  exact absurd (by rw [ho] at hr; cases hr; rw [hod] at hrd ⊢; exact hrd) hne
                · simpa [e2] using hl
          refine sd_swapk hsd hod hdn hsel hdef hfrp hlook ?_ hgo
          cases hfl : (fe[p]?).getD false with
          | true => exact hsub1 p i hp hfl hi2 w hst
          | false => exact hsub w hst
        · -- one of the others
          obtain ⟨m, hm'⟩ := List.mem_iff_getElem?.1 hin
          have hmk : m = k := by
            have h1 : ¬ m < k := fun h => by have := (hTk m i hm').2 h; rw [this] at hi2; cases hi2
            rcases Nat.lt_or_ge k m with h2 | h2
            · have hkT : k < T.length := by have := (List.getElem?_eq_some_iff.1 hm').1; omega
              have := hanc _ (hc.chain m k i _ hm' (List.getElem?_eq_getElem hkT) h2).2
              have := (hTk k _ (List.getElem?_eq_getElem hkT)).1 this
              omega
            · omega
          subst hmk
          have hdrop : pickL ops (T.drop m) = o :: pickL ops (T.drop (m + 1)) := by
            have hlt := (List.getElem?_eq_some_iff.1 hm').1
            have hx : T[m] = i := (List.getElem?_eq_some_iff.1 hm').2
            rw [List.drop_eq_getElem_cons hlt, hx]
            simp [pickL, ho]
          rw [hdrop] at hT
          have hbh : (tb.drop m).headD false = (tb[m]?).getD false := by rw [List.headD_eq_head?_getD, List.head?_drop]
          have hbt : (tb.drop m).tail = tb.drop (m + 1) := by simp
          have hT : ∀ K : Act → World → Prop, (∀ L' C'', (∀ w, St E.S E.w0 C'' w → St E.S E.w0 C' w) → ((tb.drop m).headD false = true → ∀ w, St E.S E.w0 C'' w → St E.S E.w0 C1 w) → TJ E ops D C' C1 (fun L C => KJ E (Q .normal) D L C) (tb.drop m).tail (pickL ops (T.drop (m + 1))) L' C'' → KJ E K D L' C'') → RJ E ops (NQ K) [o] D Lk Ck := by
            cases hb : tb.drop m <;> (rw [hb] at hT; exact hT)
          rw [hbh, hbt] at hT
          have hlook : ∀ t ∈ o.looksAt ops, a.tmps[t]? = af.tmps[t]? := by
            intro t htl
            by_cases hw : ∃ (q j : Nat) (r : Oper), free[q]? = some j ∧ ops[j]? = some r ∧ r.dst = some t
            · obtain ⟨q, j, r, hq, hr, hrd⟩ := hw
              have ha := (hc.ft j i r o (List.mem_of_getElem? hq) hin hr ho).2.2 t hrd htl
              obtain ⟨e1, e2⟩ := hfree q j r t hq hr hrd
              rw [e1, e2 (hanc j ha)]
            · exact (hslot t (fun q j r hq hr hrd => hw ⟨q, j, r, hq, hr, hrd⟩)).symm
          refine op_swap hsel hdef hlook (hT (fun af' w' => af'.defers = D ∧ ∃ L' C'', (∀ w, St E.S E.w0 C'' w → St E.S E.w0 C' w) ∧ ((tb[m]?).getD false = true → ∀ w, St E.S E.w0 C'' w → St E.S E.w0 C1 w) ∧ TJ E ops D C' C1 (fun L C => KJ E (Q .normal) D L C) (tb.drop (m + 1)) (pickL ops (T.drop (m + 1))) L' C'' ∧ Fr E.n D L' af' ∧ St E.S E.w0 C'' w')
            (fun L' C'' h1 h1' h2 af' w' h3 h4 => ⟨h3.defers, L', C'', h1, h1', h2, h3, h4⟩) af w hfr hst) (fun b w' hb => hb.1.trans hfr.defers.symm) ?_
          rintro u w' ⟨_, L', C'', h1, h1', h2, h3, h4⟩
          have hput : ∀ (b : Act) (t : Nat), o.dst ≠ some t → (b.put o.dst u).tmps[t]? = b.tmps[t]? := fun b t hne => by
            cases hod : o.dst with
            | none => rfl
            | some d => simp only [Act.put]; rw [Array.getElem?_setIfInBounds_ne (fun e => hne (by rw [hod, e]))]
          have hputs : ∀ (b : Act), (b.put o.dst u).tmps.size = b.tmps.size := fun b => by cases o.dst <;> simp [Act.put]
          refine ih _ _ w' (m + 1) L' C'' (af.put o.dst u) (by simpa using hsz) (by omega) hcl' (fun q j hq => ?_) (by cases o.dst <;> exact hd) (by rw [hputs]; exact hz) h2 h3 h4 h1 (fun p' i' hp' hf' hl' => by
            rcases hc4 p' m i' i hp' hm' hf' with h5 | h5
            · exact h1' h5
            · have h6 := hanc i' h5
              rw [hset] at hl'
              by_cases e : i' = i
              · rw [if_pos e] at hl'; cases hl'
              · rw [if_neg e, h6] at hl'; cases hl') (fun t ht => ?_) (fun t ht => ?_) (fun q j r d' hq hr hrd => ?_)
          · rw [hset]
            by_cases e : j = i
            · subst e
              simp only [if_true, true_iff]
              rcases Nat.lt_trichotomy q m with h5 | h5 | h5
              · omega
              · omega
              · exact absurd rfl (hc.chain q m j j hq hm' h5).1
            · simp only [e, if_false]
              rw [hTk q j hq]
              constructor
              · omega
              · intro h5
                rcases Nat.lt_or_ge q m with h6 | h6
                · exact h6
                · have : q = m := by omega
                  subst this; rw [hm'] at hq; cases hq; exact absurd rfl e
          · by_cases hod : o.dst = some t
            · rw [hod]
              simp only [Act.put]
              by_cases hlt : t < E.n
              · rw [Array.getElem?_setIfInBounds_self_of_lt (by rw [hfr.size]; exact hlt), Array.getElem?_setIfInBounds_self_of_lt (by rw [hz]; exact hlt)]
              · rw [Array.getElem?_eq_none (by rw [Array.size_setIfInBounds, hfr.size]; exact Nat.le_of_not_lt hlt), Array.getElem?_eq_none (by rw [Array.size_setIfInBounds, hz]; exact Nat.le_of_not_lt hlt)]
            · rw [hput a t hod, hput af t hod]; exact hslot t ht
          · rw [hput a t (ht i o (by rw [hset]; simp) ho)]
            exact hold t (fun m' u' hm'' hu' => ht m' u' (by rw [hset]; split <;> simp [hm'']) hu')
          · have hne : o.dst ≠ some d' := fun e => (hc.ft j i r o (List.mem_of_getElem? hq) hin hr ho).1 (by rw [e, hrd])
            rw [hput a d' hne, hput af d' hne]
            refine ⟨(hfree q j r d' hq hr hrd).1, fun hl => (hfree q j r d' hq hr hrd).2 ?_⟩
            rw [hset] at hl
            have : j ≠ i := fun e => hc.disj i hin (e ▸ List.mem_of_getElem? hq)
            simpa [this] using hl
  refine key ops.size (Array.replicate ops.size false) a0 _ 0 _ C (actAt (pickL ops free) vs (pickL ops free).length a0) (by simp) ?_ ?_ ?_ hf0.defers hf0.size (by simpa using hF) (actAt_fr _ vs _ L a0 hdlt hf0) hs1 hC (fun _ _ _ _ _ => hC1) ?_ (fun _ _ => rfl) ?_
  · unfold unl; exact Nat.le_trans (List.length_filter_le _ _) (by simp)
  · intro j hj
    simp only [Array.getD_eq_getD_getElem?, Array.getElem?_replicate] at hj
    split at hj <;> simp at hj
  · intro m i _
    simp only [Array.getD_eq_getD_getElem?, Array.getElem?_replicate]
    split <;> simp
  · intro t ht
    refine actAt_other _ vs _ a0 t (fun m u _ hu hud => ?_)
    obtain ⟨x, hx1, hx2⟩ := hfg m u hu
    exact ht m x u hx1 hx2 hud
  · intro p i o d hp ho hod
    obtain ⟨d', v', e1, e2, e3, _⟩ := hall p o (hgf p i o hp ho)
    rw [hod] at e1; cases e1
    refine ⟨?_, fun hl => ?_⟩
    · rw [e3]
      refine actAt_at _ vs _ a0 p o d v' (by rw [hfl]; exact (List.getElem?_eq_some_iff.1 hp).1) (hgf p i o hp ho) hod (by rw [hf0.size]; exact e2) e3 (fun m u hm hne hu => ?_)
      obtain ⟨x, hx1, hx2⟩ := hfg m u hu
      exact (hc.apart m p x i u o d hx1 hp (Ne.symm hne) hx2 ho hod).1
    · simp only [Array.getD_eq_getD_getElem?, Array.getElem?_replicate] at hl
      split at hl <;> simp at hl
theorem d_fin {E : Env} {ops : Array Oper} {D : List Deferred} {C' C1 : List Assn} {F : List (Nat × Value) → Prop} {bs : List Bool} {l : List Oper} {L : List (Nat × Value)} (hl : l = []) (h : F L) : DJ4 E ops D C' C1 F bs l L := by subst hl; cases bs <;> exact h
theorem d4_sd {E : Env} {ops : Array Oper} {D : List Deferred} {C' C1 : List Assn} {F : List (Nat × Value) → Prop} {bs : List Bool} {o : Oper} {l rest : List Oper} {L : List (Nat × Value)} {v : Value} {d : Nat} (h : SD E ops o D L C' v) (hl : l = o :: rest) (ho : o.dst = some d) (hd : Nat.blt d E.n = true) (k : DJ4 E ops D C' C1 F bs rest ((d, v) :: L)) :
    DJ4 E ops D C' C1 F (false :: bs) l L := by subst hl; exact ⟨d, v, ho, by rw [← Nat.blt_eq]; exact hd, h, k⟩
theorem d5_sd {E : Env} {ops : Array Oper} {D : List Deferred} {C' C1 : List Assn} {F : List (Nat × Value) → Prop} {bs : List Bool} {o : Oper} {l rest : List Oper} {L : List (Nat × Value)} {v : Value} {d : Nat} (h : SD E ops o D L C1 v) (hl : l = o :: rest) (ho : o.dst = some d) (hd : Nat.blt d E.n = true) (k : DJ4 E ops D C' C1 F bs rest ((d, v) :: L)) :
    DJ4 E ops D C' C1 F (true :: bs) l L := by subst hl; exact ⟨d, v, ho, by rw [← Nat.blt_eq]; exact hd, h, k⟩
theorem t_fin {E : Env} {ops : Array Oper} {D : List Deferred} {C' C1 : List Assn} {F : List (Nat × Value) → List Assn → Prop} {bs : List Bool} {l : List Oper} {L : List (Nat × Value)} {C : List Assn} (hl : l = []) (h : F L C) : TJ E ops D C' C1 F bs l L C := by subst hl; cases bs <;> exact h
theorem t_cons {E : Env} {ops : Array Oper} {D : List Deferred} {C' C1 : List Assn} {F : List (Nat × Value) → List Assn → Prop} {bs : List Bool} {l T : List Oper} {o : Oper} {L : List (Nat × Value)} {C : List Assn} (hl : l = o :: T)
    (h : ∀ K : Act → World → Prop, (∀ L' C'', (∀ w, St E.S E.w0 C'' w → St E.S E.w0 C' w) → TJ E ops D C' C1 F bs T L' C'' → KJ E K D L' C'') → RJ E ops (NQ K) [o] D L C) : TJ E ops D C' C1 F (false :: bs) l L C := by
  subst hl; exact fun K hK => h K fun L' C'' h1 h2 => hK L' C'' h1 (fun h => by cases h) h2
theorem t5_cons {E : Env} {ops : Array Oper} {D : List Deferred} {C' C1 : List Assn} {F : List (Nat × Value) → List Assn → Prop} {bs : List Bool} {l T : List Oper} {o : Oper} {L : List (Nat × Value)} {C : List Assn} (hl : l = o :: T)
    (h : ∀ K : Act → World → Prop, (∀ L' C'', (∀ w, St E.S E.w0 C'' w → St E.S E.w0 C' w) → (∀ w, St E.S E.w0 C'' w → St E.S E.w0 C1 w) → TJ E ops D C' C1 F bs T L' C'' → KJ E K D L' C'') → RJ E ops (NQ K) [o] D L C) : TJ E ops D C' C1 F (true :: bs) l L C := by
  subst hl; exact fun K hK => h K fun L' C'' h1 h3 h2 => hK L' C'' h1 (fun _ => h3) h2
theorem TJ.sub {E : Env} {ops : Array Oper} {Q : Post} {D : List Deferred} {C' C1 C : List Assn} : ∀ {bs : List Bool} {T : List Oper} {L L' : List (Nat × Value)}, Sub L L' → TJ E ops D C' C1 (fun L C => KJ E (Q .normal) D L C) bs T L' C → TJ E ops D C' C1 (fun L C => KJ E (Q .normal) D L C) bs T L C := by
  intro bs T
  cases T with
  | nil => intro L L' hs h; cases bs <;> exact k_sub hs (fun _ h => h) h
  | cons o T => intro L L' hs h; cases bs <;> exact fun K hK => r_sub hs (fun _ h => h) (h K hK)
theorem DJ4.mono {E : Env} {ops : Array Oper} {D : List Deferred} {C' C1 : List Assn} {F : List (Nat × Value) → Prop} (hF : ∀ L L', Sub L L' → F L' → F L) : ∀ {bs : List Bool} {os : List Oper} {L L' : List (Nat × Value)}, Sub L L' → DJ4 E ops D C' C1 F bs os L' → DJ4 E ops D C' C1 F bs os L := by
  intro bs os
  induction os generalizing bs with
  | nil => intro L L' hs h; cases bs <;> exact hF _ _ hs h
  | cons o os ih =>
    intro L L' hs h
    have h' : ∃ d v, o.dst = some d ∧ d < E.n ∧ SD E ops o D L' (bif bs.headD false then C1 else C') v ∧ DJ4 E ops D C' C1 F bs.tail os ((d, v) :: L') := by cases bs <;> exact h
    obtain ⟨d, v, ho, hd, hsd, hk⟩ := h'
    have h2 : ∃ d v, o.dst = some d ∧ d < E.n ∧ SD E ops o D L (bif bs.headD false then C1 else C') v ∧ DJ4 E ops D C' C1 F bs.tail os ((d, v) :: L) := ⟨d, v, ho, hd, hsd.sub hs, ih (hs.head d v) hk⟩
    cases bs <;> exact h2
end
section
open Go.ChangeShapes Go.WideShapes Go.ChangeAt Go.RowKit
set_option linter.unusedVariables false
/-- whatever reads at a type has these cells, and this is so of memory -/
def OpR (P : Program) (t : TypeId) (α : Type) (cells : α → List Value) (R : World → α → Prop) : Prop :=
  ∀ {H : Type} (enc : TypeId × Value → H) (w : World) (base : Nat) (sp : Nat → Bool) (held : Bool) (fuel : Nat) (cs : List Value) (x : DataW H × List MemPlace),
    DataW.trod enc P w base sp held fuel t cs = some x → ∃ s : α, cs = cells s ∧ R w s
theorem op_int {P : Program} {t : TypeId} {k : IntKind} (ht : P.underlying t = some (.int k)) : OpR P t Int (fun n => [.int k n]) (fun _ n => k.min ≤ n ∧ n ≤ k.max) := fun {H} enc w base sp held fuel cs x h => by
  obtain ⟨n, rfl, _, hw⟩ := DataW.trod_int ht h
  refine ⟨n, rfl, ?_⟩
  simpa [Lit.wf] using hw
theorem op_i64 {P : Program} {t : TypeId} (ht : P.underlying t = some (.int .i64)) : OpR P t Int iC (fun _ n => In64 n) := op_int ht
theorem op_u8 {P : Program} {t : TypeId} (ht : P.underlying t = some (.int .u8)) : OpR P t Int iC_u8 (fun _ n => 0 ≤ n ∧ n ≤ 255) := op_int ht
theorem op_parts {H : Type} {enc : TypeId × Value → H} {P : Program} {w : World} {base : Nat} {sp : Nat → Bool} {held : Bool} {fuel t : Nat} {cs : List Value} {x : DataW H × List MemPlace} {l : List (Nat × Nat)} (hl : fL P t = some l)
    (h : DataW.trod enc P w base sp held fuel t cs = some x) : cs.length = P.cellsOf t ∧ ∀ (i ft off : Nat), l[i]? = some (ft, off) → ∃ n y, DataW.trod enc P w base sp held n ft ((cs.drop off).take (P.cellsOf ft)) = some y := by
  unfold fL at hl
  cases hu : P.underlying t with
  | none => simp [hu] at hl
  | some d =>
    cases d <;> simp [hu] at hl
    rename_i fs
    obtain ⟨xs, n, _, _, hlen, hsz, hf⟩ := DataW.trod_struct hu h
    refine ⟨hlen, fun i ft off hi => ?_⟩
    have hl2 := hl.2
    subst hl2
    simp only [List.getElem?_map, Option.map_eq_some_iff] at hi
    obtain ⟨f, hfi, hfe⟩ := hi
    simp only [Prod.mk.injEq] at hfe
    obtain ⟨rfl, rfl⟩ := hfe
    have hfi' : fs[i]? = some f := by simpa using hfi
    have hil : i < xs.length := by rw [hsz]; exact (Array.getElem?_eq_some_iff.1 hfi').1
    exact ⟨n, xs[i], by rw [hf i f hfi', List.getElem?_eq_getElem hil]⟩
theorem parts_last {cs a : List Value} {o n m : Nat} (hl : cs.length = m) (hm : o + n = m) (h : (cs.drop o).take n = a) : cs.drop o = a := by
  rwa [List.take_of_length_le (by rw [List.length_drop]; omega)] at h
theorem parts_cons {cs a b : List Value} {o n m : Nat} (h : (cs.drop o).take n = a) (hm : o + n = m) (hb : cs.drop m = b) : cs.drop o = a ++ b := by
  rw [← h, ← hb, ← hm, ← List.drop_drop, List.take_append_drop]
theorem op_slice {P : Program} {t e sz : Nat} {α : Type} {cells : α → List Value} {R : World → α → Prop} (ht : P.underlying t = some (.slice e)) (hc : P.cellsOf e = sz) (he : OpR P e α cells R) :
    OpR P t Slc (fun s => [.slice s.a s.n s.c]) (fun w s => ∃ l : List α, s.n = l.length ∧ (rd s.a l.length sz (l.map cells)).holds w ∧ (∀ x ∈ l, R w x) ∧ l.length ≤ maxLen ∧ s.n ≤ s.c) := fun {H} enc w base sp held fuel cs x h => by
  rcases Go.Deep.open_slice ht h with ⟨rfl, _⟩ | ⟨a, len, cap, m, n, D, Pl, rfl, hb, hl, hm, hmm, hx, hi⟩
  · exact ⟨⟨none, 0, 0⟩, rfl, [], rfl, ⟨rfl, by simp, fun h => by simp at h⟩, by simp, Nat.zero_le _, Nat.le_refl _⟩
  · rw [hc] at hi
    have hlm : len ≤ m := by rw [hmm]; split <;> omega
    have hex : ∀ k : Nat, k ≤ len → ∃ l : List α, l.length = k ∧ (∀ x ∈ l, R w x) ∧ ∀ (i : Nat) (x : α), l[i]? = some x → (cells x).length = sz ∧ ∀ (j : Nat) v, (cells x)[j]? = some v → w.cell? (a.add (i * sz + j)) = some v := by
      intro k
      induction k with
      | zero => exact fun _ => ⟨[], rfl, by simp, by simp⟩
      | succ k ih =>
        intro hk
        obtain ⟨l, h1, h2, h3⟩ := ih (by omega)
        obtain ⟨cs', hcs, htr⟩ := hi k (by omega)
        obtain ⟨_, hcl, hat⟩ := World.cells?_some hcs
        obtain ⟨s, rfl, hR⟩ := he enc w base sp held n cs' _ htr
        refine ⟨l ++ [s], by simp [h1], fun x hx => ?_, fun i x hx => ?_⟩
        · rcases List.mem_append.1 hx with hx | hx
          · exact h2 x hx
          · simp at hx; subst hx; exact hR
        · by_cases hil : i < l.length
          · rw [List.getElem?_append_left hil] at hx; exact h3 i x hx
          · have hik : i = k := by
              have := (List.getElem?_eq_some_iff.1 hx).1
              simp at this; omega
            subst hik
            rw [List.getElem?_append_right (by omega), h1] at hx
            simp at hx; subst hx
            refine ⟨hcl, fun j v hj => ?_⟩
            have hjl : j < sz := by rw [← hcl]; exact (List.getElem?_eq_some_iff.1 hj).1
            rw [← add_add, hat j hjl, hj]
    obtain ⟨l, h1, h2, h3⟩ := hex len (Nat.le_refl _)
    refine ⟨⟨some a, len, cap⟩, rfl, l, h1.symm, ⟨by simp, fun e he' => ?_, fun _ => ⟨a, rfl, fun i e' j v hi' hj => ?_⟩⟩, h2, by omega, hl⟩
    · obtain ⟨x, hx, rfl⟩ := List.mem_map.1 he'
      obtain ⟨i, hi'⟩ := List.getElem?_of_mem hx
      exact (h3 i x hi').1
    · rw [List.getElem?_map] at hi'
      obtain ⟨x, hx, rfl⟩ := Option.map_eq_some_iff.1 hi'
      exact (h3 i x hx).2 j v hj
theorem arg_struct {H : Type} {enc : TypeId × Value → H} {P : Program} {w : World} {base : Nat} {sp : Nat → Bool} {held : Bool} {r : Reach} {b0 : Nat} {t : TypeId} {l : List (Nat × Nat)} {v : Value} {d : DataW H} {p : List MemPlace} {α : Type} {cells : α → List Value} {R : World → α → Prop}
    (hl : fL P t = some l) (ho : OpR P t α cells R) (hv : Value.okWide P w r b0 t v) (h : DataW.Trod enc P w base sp held t v d p) : ∃ s, v = .agg (cells s).toArray ∧ R w s := by
  unfold fL at hl
  cases hu : P.underlying t with
  | none => simp [hu] at hl
  | some d =>
    cases d <;> simp [hu] at hl
    rename_i fs
    obtain ⟨cs, rfl, hsz⟩ := okWide_struct hu hv
    obtain ⟨fuel, hf⟩ := h
    obtain ⟨s, hc, hR⟩ := ho enc w base sp held fuel _ _ hf
    refine ⟨s, ?_, hR⟩
    simp only [Value.cells] at hc
    rw [← hc]
theorem arg_int {H : Type} {enc : TypeId × Value → H} {P : Program} {w : World} {base : Nat} {sp : Nat → Bool} {held : Bool} {r : Reach} {b0 : Nat} {t : TypeId} {k : IntKind} {v : Value} {d : DataW H} {p : List MemPlace}
    (ht : P.underlying t = some (.int k)) (hv : Value.okWide P w r b0 t v) (h : DataW.Trod enc P w base sp held t v d p) : ∃ n, v = .int k n ∧ k.min ≤ n ∧ n ≤ k.max := by
  obtain ⟨n, rfl, _, _, hw⟩ := open_int ht hv h
  refine ⟨n, rfl, ?_⟩
  simpa [Lit.wf] using hw
section
variable {H : Type} {enc : TypeId × Value → H} {P : Program}
theorem trodAll_stays (hl : laidOutB P = true) {W W' : World} {sp : Nat → Bool} (hb : Below W.heap.size W W') : ∀ (ts : List TypeId) (vs : List Value) (ds : List (DataW H)) (ps : List MemPlace), (ts.all fun t => P.readableRec t && decide (t < P.types.size)) = true →
    DataW.TrodAll enc P W 0 (fun _ => true) true ts vs ds ps → (∀ x ∈ ps, x.block < W.heap.size) → (∀ x ∈ ps, sp x.block = true) → DataW.TrodAll enc P W' 0 sp true ts vs ds ps
  | [], [], [], ps, _, h, _, _ => h
  | t :: ts, v :: vs, d :: ds, ps, ha, h, hlt, hsp => by
    obtain ⟨p, q, h1, h2, rfl⟩ := h
    simp only [List.all_cons, Bool.and_eq_true, decide_eq_true_eq] at ha
    refine ⟨p, q, ?_, trodAll_stays hl hb ts vs ds q ha.2 h2 (fun x hx => hlt x (List.mem_append_right _ hx)) (fun x hx => hsp x (List.mem_append_right _ hx)), rfl⟩
    exact WideElems.Trod_stays hl ha.1.1 ha.1.2 h1 (fun x hx => hb.same (hlt x (List.mem_append_left _ hx))) (fun x hx => hsp x (List.mem_append_left _ hx))
  | [], [], _ :: _, _, _, h, _, _ => h.elim
  | [], _ :: _, _, _, _, h, _, _ => h.elim
  | _ :: _, [], _, _, _, h, _, _ => h.elim
  | _ :: _, _ :: _, [], _, _, h, _, _ => h.elim
/-- a law that said true and kept all that was there has answered its row -/
theorem law_post {f : Func} {s : ChangeSpec} {apart fresh handsOn : Bool} {W W' : World} {args : Array Value} {ds : List (DataW H)} {p : List MemPlace} {bt : TypeId} (hl : laidOutB P = true)
    (hW : DataW.Whole enc P f.params.toList s.vars apart W args.toList ds [] p) (hA : DataW.TrodAll enc P W 0 (fun _ => true) true f.params.toList args.toList ds p)
    (hv : s.vars = []) (hs : s.fn H (ds ++ []) = { results := [.lit (.bool true)], args := ds }) (hr : (f.params.toList.all fun t => P.readableRec t && decide (t < P.types.size)) = true)
    (hb : Below W.heap.size W W') (ht : f.resultTypes = #[bt]) (hu : P.underlying bt = some .bool) : s.post enc P f apart fresh handsOn false W args (.bool true) W' := by
  have hlt : ∀ x ∈ p, x.block < W.heap.size := fun x hx => hW.lt x hx
  refine ⟨ds, [], p, [], p, [], hW, ?_, ?_, ?_, World.keptBut_mono (fun x hx => ⟨hx, .inr (.inl hx)⟩) (hb.frame (· ∈ p)), fun h => by cases h⟩
  · rw [hs, ht]; exact trodAll_mk1 (shut_bool hu _)
  · rw [hs]; exact trodAll_stays hl hb _ _ _ _ hr hA hlt (fun x hx => by simpa using hlt x hx)
  · rw [hs, hv]; rfl
end
end
section
@[ext] structure TallyV where
  right : Int
  missed : Int
  deriving DecidableEq
def TallyV.cells (s : TallyV) : List Value := Value.int .i64 s.right :: ([Value.int .i64 s.missed])
theorem TallyV.cells_length (s : TallyV) : s.cells.length = 2 := rfl
@[ext] structure TrackV where
  Stretches : Slc
  deriving DecidableEq
def TrackV.cells (s : TrackV) : List Value := [Value.slice s.Stretches.a s.Stretches.n s.Stretches.c]
theorem TrackV.cells_length (s : TrackV) : s.cells.length = 1 := rfl
@[ext] structure LineV where
  Track : TrackV
  Fast : Int
  Clocks : Slc
  Beams : Slc
  Finish : Int
  Fakes : Int
  Misses : Int
  deriving DecidableEq
def LineV.cells (s : LineV) : List Value := TrackV.cells s.Track ++ (Value.int .i64 s.Fast :: (Value.slice s.Clocks.a s.Clocks.n s.Clocks.c :: (Value.slice s.Beams.a s.Beams.n s.Beams.c :: (Value.int .i64 s.Finish :: (Value.int .i64 s.Fakes :: ([Value.int .i64 s.Misses]))))))
theorem LineV.cells_length (s : LineV) : s.cells.length = 7 := rfl
@[ext] structure RideV where
  Start : Int
  Now : Int
  Signals : Slc
  deriving DecidableEq
def RideV.cells (s : RideV) : List Value := Value.int .i64 s.Start :: (Value.int .i64 s.Now :: ([Value.slice s.Signals.a s.Signals.n s.Signals.c]))
theorem RideV.cells_length (s : RideV) : s.cells.length = 3 := rfl
@[ext] structure WatchV where
  Line : LineV
  ride : RideV
  least : Slc
  times : Slc
  forward : Slc
  back : Slc
  deriving DecidableEq
def WatchV.cells (s : WatchV) : List Value := LineV.cells s.Line ++ (RideV.cells s.ride ++ (Value.slice s.least.a s.least.n s.least.c :: (Value.slice s.times.a s.times.n s.times.c :: (Value.slice s.forward.a s.forward.n s.forward.c :: ([Value.slice s.back.a s.back.n s.back.c])))))
theorem WatchV.cells_length (s : WatchV) : s.cells.length = 14 := rfl
@[ext] structure SpanV where
  Lo : Int
  Hi : Int
  deriving DecidableEq
def SpanV.cells (s : SpanV) : List Value := Value.int .i64 s.Lo :: ([Value.int .i64 s.Hi])
theorem SpanV.cells_length (s : SpanV) : s.cells.length = 2 := rfl
@[ext] structure StretchV where
  Id : Int
  Long : SpanV
  Fall : SpanV
  Radius : SpanV
  Side : Int
  Wall : Int
  deriving DecidableEq
def StretchV.cells (s : StretchV) : List Value := Value.int .i64 s.Id :: (SpanV.cells s.Long ++ (SpanV.cells s.Fall ++ (SpanV.cells s.Radius ++ (Value.int .u8 s.Side :: ([Value.int .i64 s.Wall])))))
theorem StretchV.cells_length (s : StretchV) : s.cells.length = 9 := rfl
@[ext] structure SurveyV where
  Track : TrackV
  deriving DecidableEq
def SurveyV.cells (s : SurveyV) : List Value := TrackV.cells s.Track
theorem SurveyV.cells_length (s : SurveyV) : s.cells.length = 1 := rfl
@[ext] structure SpotV where
  Stretch : Int
  Off : SpanV
  deriving DecidableEq
def SpotV.cells (s : SpotV) : List Value := Value.int .i64 s.Stretch :: (SpanV.cells s.Off)
theorem SpotV.cells_length (s : SpotV) : s.cells.length = 3 := rfl
@[ext] structure BeamV where
  Spot : SpotV
  Clock : Int
  deriving DecidableEq
def BeamV.cells (s : BeamV) : List Value := SpotV.cells s.Spot ++ ([Value.int .i64 s.Clock])
theorem BeamV.cells_length (s : BeamV) : s.cells.length = 4 := rfl
@[ext] structure ClockV where
  Drift : Int
  Syncs : Slc
  deriving DecidableEq
def ClockV.cells (s : ClockV) : List Value := Value.int .i64 s.Drift :: ([Value.slice s.Syncs.a s.Syncs.n s.Syncs.c])
theorem ClockV.cells_length (s : ClockV) : s.cells.length = 2 := rfl
@[ext] structure SyncV where
  At : Int
  Ahead : SpanV
  deriving DecidableEq
def SyncV.cells (s : SyncV) : List Value := Value.int .i64 s.At :: (SpanV.cells s.Ahead)
theorem SyncV.cells_length (s : SyncV) : s.cells.length = 3 := rfl
@[ext] structure SignalV where
  Beam : Int
  Read : Int
  deriving DecidableEq
def SignalV.cells (s : SignalV) : List Value := Value.int .i64 s.Beam :: ([Value.int .i64 s.Read])
theorem SignalV.cells_length (s : SignalV) : s.cells.length = 2 := rfl
structure T144V where
  so : Value
def T144V.cells (s : T144V) : List Value := [s.so]
theorem T144V.cells_length (s : T144V) : s.cells.length = 1 := rfl
structure ClockM where
  Drift : Int
  Syncs : List SyncV
  deriving DecidableEq
def ClockM.cells (m : ClockM) (a : Option Addr × Nat) : List Value := ClockV.cells ⟨m.Drift, ⟨a.1, m.Syncs.length, a.2⟩⟩
def ClockM.rds (m : ClockM) (a : Option Addr × Nat) : List Assn := [rd a.1 m.Syncs.length 3 (m.Syncs.map SyncV.cells)]
def ClockM.owns (m : ClockM) (a : Option Addr × Nat) : List Assn := [own a.1 a.2 65 3 (m.Syncs.map SyncV.cells)]
structure LineM where
  Track : List StretchV
  Fast : Int
  Clocks : List ClockM
  Beams : List BeamV
  Finish : Int
  Fakes : Int
  Misses : Int
  deriving DecidableEq
structure RideM where
  Start : Int
  Now : Int
  Signals : List SignalV
  deriving DecidableEq
end
section
open Go.RowKit
set_option linter.unusedVariables false
def setK {β : Type} (l : List (Int × β)) (x : Int) (y : β) : List (Int × β) := if (l.lookup x).isSome then l.map (fun p => if p.1 = x then (x, y) else p) else l ++ [(x, y)]
def delK {β : Type} (l : List (Int × β)) (x : Int) : List (Int × β) := l.filter fun p => !decide (p.1 = x)
theorem lookup_none {β : Type} {x : Int} : ∀ {l : List (Int × β)}, l.lookup x = none ↔ ∀ p ∈ l, p.1 ≠ x
  | [] => by simp
  | p :: l => by
    obtain ⟨k, v⟩ := p
    by_cases h : x = k
    · subst h; simp [List.lookup]
    · have hb : (x == k) = false := by simpa using h
      simp only [List.lookup, hb, List.mem_cons, forall_eq_or_imp]
      rw [lookup_none (l := l)]
      exact ⟨fun q => ⟨fun e => h e.symm, q⟩, fun q => q.2⟩
structure MapIs (es : Array MapEntry) (c : Nat) (m : List (Int × Value)) : Prop where
  list : es.toList.map (fun e => (e.key, e.val)) = m.map (fun p => (Value.int .i64 p.1, p.2))
  keys : (m.map (·.1)).Nodup
  old : ∀ e ∈ es.toList, e.born < c
  born : (es.toList.map (·.born)).Nodup
theorem MapIs.nil : MapIs #[] 0 [] := ⟨rfl, List.nodup_nil, by simp, List.nodup_nil⟩
theorem MapIs.size {es : Array MapEntry} {c : Nat} {m : List (Int × Value)} (h : MapIs es c m) : es.size = m.length := by
  have := congrArg List.length h.list
  simpa using this
theorem run_check {P : Program} {w : World} {kt : Nat} {x : Int} (hk : P.underlying kt = some (.int .i64)) (e : Bool) : (Instr.checkKey e 10000 kt (.int .i64 x)).run P w = .ok () w := by
  exact MapKept.run_checkKey hk (show MapKept.IsKey (.int .i64) (.int .i64 x) from rfl) e 9999
section
variable {E : Env} {ops : Array Oper} {Q : Post} {rest : List Oper} {D : List Deferred} {L : List (Nat × Value)} {C : List Assn}
variable {dst : Option Tmp} {d : Nat} {ty : TypeId} {ps : String} {af : Array Edge} {g : Option (Nat × Bool)}
theorem keeps_set {w : World} {b : Nat} (o : Obj) : Keeps (only b) w { w with heap := w.heap.setIfInBounds b o } :=
  ⟨rfl, rfl, rfl, by simp, fun k hk hn => by simp only [only] at hn; exact Array.getElem?_setIfInBounds_ne (fun e => hn e.symm)⟩
theorem heap_set {w : World} {b : Nat} {o o' : Obj} (h : w.heap[b]? = some o) : ({ w with heap := w.heap.setIfInBounds b o' } : World).heap[b]? = some o' := by
  have := (Array.getElem?_eq_some_iff.1 h).1
  simp [Array.getElem?_setIfInBounds_self_of_lt this]
theorem MapIs.push {es : Array MapEntry} {c : Nat} {m : List (Int × Value)} (h : MapIs es c m) {x : Int} (hx : m.lookup x = none) (v : Value) : MapIs (es.push { key := .int .i64 x, val := v, born := c }) (c + 1) (m ++ [(x, v)]) := by
  refine ⟨by simp [h.list], ?_, ?_, ?_⟩
  · rw [List.map_append, List.nodup_append]
    refine ⟨h.keys, by simp, fun a ha b hb => ?_⟩
    simp at hb; subst hb
    obtain ⟨p, hp, rfl⟩ := List.mem_map.1 ha
    exact lookup_none.1 hx p hp
  · intro e he
    simp only [Array.toList_push, List.mem_append, List.mem_singleton] at he
    rcases he with he | rfl
    · exact Nat.lt_succ_of_lt (h.old e he)
    · exact Nat.lt_succ_self _
  · simp only [Array.toList_push, List.map_append, List.map_cons, List.map_nil]
    rw [List.nodup_append]
    refine ⟨h.born, by simp, fun a ha b hb => ?_⟩
    simp at hb; subst hb
    obtain ⟨p, hp, rfl⟩ := List.mem_map.1 ha
    exact Nat.ne_of_lt (h.old p hp)
theorem set_at {m : List (Int × Value)} {j : Nat} {x : Int} {v0 v : Value} (hn : (m.map (·.1)).Nodup) (hj : m[j]? = some (x, v0)) : m.map (fun p => if p.1 = x then (x, v) else p) = m.set j (x, v) := by
  refine List.ext_getElem? fun i => ?_
  rw [List.getElem?_map, List.getElem?_set]
  by_cases e : j = i
  · subst e
    have hl := (List.getElem?_eq_some_iff.1 hj).1
    rw [hj]; simp [hl]
  · rw [if_neg e]
    cases hi : m[i]? with
    | none => rfl
    | some p =>
      simp only [Option.map_some]
      rw [if_neg]
      intro hp
      have h1 : (m.map (·.1))[i]? = some x := by rw [List.getElem?_map, hi]; simp [hp]
      have h2 : (m.map (·.1))[j]? = some x := by rw [List.getElem?_map, hj]; rfl
      have hil := (List.getElem?_eq_some_iff.1 h1).1
      exact e (((List.getElem?_inj hil hn).1 (h1.trans h2.symm)).symm)
theorem MapIs.set {es : Array MapEntry} {c : Nat} {m : List (Int × Value)} (h : MapIs es c m) {x : Int} {j : Nat} {v0 : Value} (hj : m[j]? = some (x, v0)) (hx : m.lookup x = some v0) (v : Value) :
    MapIs (es.modify j fun e => { e with key := .int .i64 x, val := v }) c (setK m x v) := by
  have e1 : setK m x v = m.set j (x, v) := by unfold setK; rw [hx]; simpa using set_at h.keys hj
  have hl := (List.getElem?_eq_some_iff.1 hj).1
  have hsz := h.size
  have hje : j < es.size := by omega
  have e2 : (es.modify j fun e => { e with key := .int .i64 x, val := v }).toList = es.toList.set j { (es[j]) with key := .int .i64 x, val := v } := by
    refine List.ext_getElem? fun i => ?_
    rw [Array.getElem?_toList, Array.getElem?_modify, List.getElem?_set]
    by_cases e : j = i
    · subst e; simp [hje]
    · simp [e]
  have e3 : (es.toList.set j { (es[j]) with key := .int .i64 x, val := v }).map (·.born) = es.toList.map (·.born) := by
    rw [List.map_set]
    refine List.ext_getElem? fun i => ?_
    rw [List.getElem?_set]
    by_cases e : j = i
    · subst e; simp [hje]
    · rw [if_neg e]
  refine ⟨?_, ?_, ?_, ?_⟩
  · rw [e2, e1, List.map_set, List.map_set, h.list]
  · rw [e1, List.map_set]
    have : (m.map (·.1)).set j x = m.map (·.1) := by
      refine List.ext_getElem? fun i => ?_
      rw [List.getElem?_set]
      by_cases e : j = i
      · subst e; simp [hl]; simpa using (congrArg Prod.fst ((List.getElem?_eq_some_iff.1 hj).2)).symm
      · rw [if_neg e]
    simp only [this]
    exact h.keys
  · intro e he
    rw [e2] at he
    have hb : e.born ∈ (es.toList.set j { (es[j]) with key := .int .i64 x, val := v }).map (·.born) := List.mem_map.2 ⟨e, he, rfl⟩
    rw [e3] at hb
    obtain ⟨e', he', hq⟩ := List.mem_map.1 hb
    rw [← hq]; exact h.old e' he'
  · rw [e2, e3]; exact h.born
theorem MapIs.del {es : Array MapEntry} {c : Nat} {m : List (Int × Value)} (h : MapIs es c m) {x : Int} {j : Nat} {v0 : Value} (hj : m[j]? = some (x, v0)) : MapIs (es.eraseIdxIfInBounds j) c (delK m x) := by
  have hl := (List.getElem?_eq_some_iff.1 hj).1
  have hsz := h.size
  have hje : j < es.size := by omega
  have e1 : (es.eraseIdxIfInBounds j).toList = es.toList.eraseIdx j := by simp [Array.eraseIdxIfInBounds, hje]
  have e2 : delK m x = m.eraseIdx j := by
    have hn := h.keys
    clear h hsz hje e1
    induction m generalizing j with
    | nil => simp at hj
    | cons p m ih =>
      obtain ⟨k, v⟩ := p
      simp only [List.map_cons, List.nodup_cons] at hn
      cases j with
      | zero =>
        simp at hj
        obtain ⟨rfl, rfl⟩ := hj
        simp only [delK, List.eraseIdx_zero, List.tail_cons]
        rw [List.filter_cons_of_neg (by simp)]
        refine List.filter_eq_self.2 fun p hp => ?_
        have : p.1 ≠ k := fun e => hn.1 (List.mem_map.2 ⟨p, hp, e⟩)
        simpa using this
      | succ j =>
        simp only [List.getElem?_cons_succ] at hj
        have hne : k ≠ x := fun e => hn.1 (List.mem_map.2 ⟨_, List.mem_of_getElem? hj, e.symm⟩)
        simp only [delK, List.eraseIdx_cons_succ] at ih ⊢
        rw [List.filter_cons_of_pos (by simpa using hne), ih hj (by simpa using (List.getElem?_eq_some_iff.1 hj).1) hn.2]
  have sub : (es.eraseIdxIfInBounds j).toList.Sublist es.toList := by rw [e1]; exact List.eraseIdx_sublist _ _
  refine ⟨?_, ?_, fun e he => h.old e (sub.subset he), h.born.sublist (sub.map _)⟩
  · rw [e1, e2, ChangeMaps.map_eraseIdx, ChangeMaps.map_eraseIdx, h.list]
  · rw [e2]; exact h.keys.sublist ((List.eraseIdx_sublist _ _).map _)
def tV (P : Program) (t : TypeId) : Option Value := (P.info? t).bind (·.zero)
theorem run_zv {P : Program} {t : TypeId} {z : Value} (h : tV P t = some z) (w : World) : (zeroValue t).run P w = .ok z w := by
  unfold tV at h
  cases hi : P.info? t with
  | none => simp [hi] at h
  | some i => simp only [hi, Option.bind_some] at h; simp [zeroValue, typeInfo, hi, h]
end
theorem has_own_n {C : List Assn} {a : Option Addr} {c e sz n : Nat} {es : List (List Value)} (i : Nat) (hC : C[i]? = some (own a c e sz es)) (hn : es.length = n) : Has C (rd a n sz es).holds := hn ▸ has_own i hC
abbrev iV : Int → Value := Value.int .i64
end
section
def SpanOk (s : SpanV) (lo hi : Int) : Prop := s.Lo ≤ s.Hi ∧ lo ≤ s.Lo ∧ s.Hi ≤ hi
instance (s : SpanV) (lo hi : Int) : Decidable (SpanOk s lo hi) := by unfold SpanOk; infer_instance
def StretchOk (x : StretchV) : Prop := (0 ≤ x.Id ∧ x.Id ≤ 9999) ∧ SpanOk x.Long 1 30000 ∧ SpanOk x.Fall 0 5000 ∧ (0 ≤ x.Wall ∧ x.Wall ≤ 5000) ∧
  (x.Side = 0 ∧ x.Radius.Lo = 0 ∧ x.Radius.Hi = 0 ∨ (x.Side = 1 ∨ x.Side = 2) ∧ SpanOk x.Radius 500 20000)
instance (x : StretchV) : Decidable (StretchOk x) := by unfold StretchOk; infer_instance
def trackFrom : Int → List StretchV → Bool
  | _, [] => true
  | last, x :: xs => decide (last < x.Id ∧ StretchOk x) && trackFrom x.Id xs
def trackOk (ts : List StretchV) : Bool := decide (1 ≤ (ts.length : Int) ∧ (ts.length : Int) ≤ 12) && trackFrom (-1) ts
theorem drop_step {α : Type} {l : List α} {i : Nat} {x : α} (h : l[i]? = some x) : l.drop i = x :: l.drop (i + 1) := by
  obtain ⟨h1, rfl⟩ := List.getElem?_eq_some_iff.1 h
  exact List.drop_eq_getElem_cons h1
theorem trackFrom_step {ts : List StretchV} {i : Nat} {x : StretchV} (last : Int) (h : ts[i]? = some x) : trackFrom last (ts.drop i) = (decide (last < x.Id ∧ StretchOk x) && trackFrom x.Id (ts.drop (i + 1))) := by
  rw [drop_step h]; rfl
def findI {α : Type} (p : α → Bool) (l : List α) : Int := if l.any p then (l.findIdx p : Nat) else -1
theorem findI_at {α : Type} {p : α → Bool} {l : List α} {i : Nat} {x : α} (h : l[i]? = some x) (hp : p x = true) (h0 : (l.take i).any p = false) : findI p l = i := by
  obtain ⟨h1, rfl⟩ := List.getElem?_eq_some_iff.1 h
  have ha : l.any p = true := List.any_eq_true.2 ⟨_, List.getElem_mem h1, hp⟩
  have hi : l.findIdx p = i := by
    rw [List.findIdx_eq h1]
    refine ⟨hp, fun j hj => ?_⟩
    have := List.any_eq_false.1 h0 l[j] (by rw [List.mem_take_iff_getElem]; exact ⟨j, by omega, rfl⟩)
    simpa using this
  simp [findI, ha, hi]
theorem findI_none {α : Type} {p : α → Bool} {l : List α} {i : Nat} (hi : l.length ≤ i) (h0 : (l.take i).any p = false) : findI p l = -1 := by
  rw [List.take_of_length_le hi] at h0
  simp [findI, h0]
theorem any_step {α : Type} {p : α → Bool} {l : List α} {i : Nat} {x : α} (h : l[i]? = some x) (h0 : (l.take i).any p = false) (hp : p x = false) : (l.take (i + 1)).any p = false := by
  rw [List.take_add_one, h]; simp [h0, hp]
theorem findI_any {α : Type} {p : α → Bool} {l : List α} : decide (0 ≤ findI p l) = l.any p := by
  unfold findI; cases l.any p <;> simp
def inAll (lo hi : Int) (l : List Int) : Bool := !(l.any fun u => decide (u < lo ∨ hi < u))
theorem inAll_one {lo hi a : Int} : Value.bool (inAll lo hi [a]) = Value.bool (decide (lo ≤ a ∧ a ≤ hi)) := by
  refine congrArg _ ?_
  rw [Bool.eq_iff_iff]; simp [inAll]
theorem inAll_two {lo hi a b : Int} : Value.bool (inAll lo hi [a, b]) = Value.bool (decide ((lo ≤ a ∧ a ≤ hi) ∧ lo ≤ b ∧ b ≤ hi)) := by
  refine congrArg _ ?_
  rw [Bool.eq_iff_iff]; simp [inAll]
def lastId (ts : List StretchV) (i : Nat) : Int := if i = 0 then -1 else ((ts[i - 1]?).map (·.Id)).getD 0
theorem lastId_zero {ts : List StretchV} {i : Nat} (h : i = 0) : lastId ts i = -1 := by simp [lastId, h]
theorem lastId_pos {ts : List StretchV} {i : Nat} {y : StretchV} (h : 0 < i) (hy : ts[i - 1]? = some y) : lastId ts i = y.Id := by
  simp [lastId, hy]; omega
theorem lastId_succ {ts : List StretchV} {i : Nat} {y : StretchV} (hy : ts[i]? = some y) : lastId ts (i + 1) = y.Id := by simp [lastId, hy]
theorem trackOk_len {ts : List StretchV} (h : ¬ (1 ≤ (ts.length : Int) ∧ (ts.length : Int) ≤ 12)) : trackOk ts = false := by
  simp only [trackOk, decide_eq_false h, Bool.false_and]
theorem trackOk_no {ts : List StretchV} {i : Nat} {x : StretchV} (h : trackFrom (-1) ts = trackFrom (lastId ts i) (ts.drop i)) (hx : ts[i]? = some x) (hn : ¬ (lastId ts i < x.Id ∧ StretchOk x)) : trackOk ts = false := by
  rw [trackOk, h, trackFrom_step _ hx, decide_eq_false hn]; simp
theorem trackOk_yes {ts : List StretchV} {i : Nat} (h : trackFrom (-1) ts = trackFrom (lastId ts i) (ts.drop i)) (hi : ts.length ≤ i) (hl : 1 ≤ (ts.length : Int) ∧ (ts.length : Int) ≤ 12) : trackOk ts = true := by
  rw [trackOk, h, List.drop_eq_nil_of_le hi, decide_eq_true hl]; rfl
theorem trackFrom_next {ts : List StretchV} {i : Nat} {x : StretchV} (h : trackFrom (-1) ts = trackFrom (lastId ts i) (ts.drop i)) (hx : ts[i]? = some x) (hn : lastId ts i < x.Id ∧ StretchOk x) : trackFrom (-1) ts = trackFrom (lastId ts (i + 1)) (ts.drop (i + 1)) := by
  rw [h, trackFrom_step _ hx, decide_eq_true hn, lastId_succ hx]; rfl
theorem lists_ne {α : Type} {a b : List α} {i : Nat} {x y : α} (hx : a[i]? = some x) (hy : b[i]? = some y) (h : ¬ x = y) : ¬ a = b := by
  rintro rfl; rw [hx] at hy; exact h (Option.some.inj hy)
theorem lists_eq {α : Type} {a b : List α} {i : Nat} (hl : a.length = b.length) (ht : a.take i = b.take i) (hi : a.length ≤ i) : a = b := by
  rwa [List.take_of_length_le hi, List.take_of_length_le (by omega)] at ht
theorem take_same {α : Type} {a b : List α} {i : Nat} {x y : α} (ht : a.take i = b.take i) (hx : a[i]? = some x) (hy : b[i]? = some y) (h : x = y) : a.take (i + 1) = b.take (i + 1) := by
  rw [List.take_add_one, List.take_add_one, ht, hx, hy, h]
theorem trackFrom_all : ∀ {ts : List StretchV} {last : Int}, trackFrom last ts = true → ∀ x ∈ ts, StretchOk x
  | [], _, _, x, hx => by cases hx
  | y :: ts, last, h, x, hx => by
    simp only [trackFrom, Bool.and_eq_true, decide_eq_true_eq] at h
    rcases List.mem_cons.1 hx with rfl | hx
    · exact h.1.2
    · exact trackFrom_all h.2 x hx
theorem trackOk_all {ts : List StretchV} (h : trackOk ts = true) : ∀ x ∈ ts, StretchOk x := by
  simp only [trackOk, Bool.and_eq_true] at h
  exact trackFrom_all h.2
theorem trackOk_le {ts : List StretchV} (h : trackOk ts = true) : ts.length ≤ 12 := by
  simp only [trackOk, Bool.and_eq_true, decide_eq_true_eq] at h
  omega
end
section
theorem tk3 : tK Tryz.prog 3 = some (false, 1) := by kernel_rfl
theorem tk5 : tK Tryz.prog 5 = some (false, 1) := by kernel_rfl
theorem tk22 : tK Tryz.prog 22 = some (false, 1) := by kernel_rfl
theorem tk24 : tK Tryz.prog 24 = some (true, 1) := by kernel_rfl
theorem tk25 : tK Tryz.prog 25 = some (false, 1) := by kernel_rfl
theorem tk26 : tK Tryz.prog 26 = some (false, 1) := by kernel_rfl
theorem tk28 : tK Tryz.prog 28 = some (true, 7) := by kernel_rfl
theorem tk29 : tK Tryz.prog 29 = some (false, 1) := by kernel_rfl
theorem tk31 : tK Tryz.prog 31 = some (true, 3) := by kernel_rfl
theorem tk32 : tK Tryz.prog 32 = some (false, 1) := by kernel_rfl
theorem tk35 : tK Tryz.prog 35 = some (false, 1) := by kernel_rfl
theorem tk47 : tK Tryz.prog 47 = some (true, 2) := by kernel_rfl
theorem tk61 : tK Tryz.prog 61 = some (false, 1) := by kernel_rfl
theorem tk63 : tK Tryz.prog 63 = some (true, 2) := by kernel_rfl
theorem tk65 : tK Tryz.prog 65 = some (true, 3) := by kernel_rfl
theorem tk67 : tK Tryz.prog 67 = some (true, 2) := by kernel_rfl
theorem tk77 : tK Tryz.prog 77 = some (false, 1) := by kernel_rfl
theorem tk88 : tK Tryz.prog 88 = some (false, 1) := by kernel_rfl
theorem tk95 : tK Tryz.prog 95 = some (false, 1) := by kernel_rfl
theorem tk99 : tK Tryz.prog 99 = some (true, 3) := by kernel_rfl
theorem tk101 : tK Tryz.prog 101 = some (true, 4) := by kernel_rfl
theorem tk114 : tK Tryz.prog 114 = some (false, 1) := by kernel_rfl
theorem tk115 : tK Tryz.prog 115 = some (false, 1) := by kernel_rfl
theorem tk120 : tK Tryz.prog 120 = some (false, 1) := by kernel_rfl
theorem tk122 : tK Tryz.prog 122 = some (false, 1) := by kernel_rfl
theorem tk124 : tK Tryz.prog 124 = some (true, 2) := by kernel_rfl
theorem tk134 : tK Tryz.prog 134 = some (false, 1) := by kernel_rfl
theorem tk141 : tK Tryz.prog 141 = some (true, 9) := by kernel_rfl
theorem tk144 : tK Tryz.prog 144 = some (true, 1) := by kernel_rfl
theorem tk145 : tK Tryz.prog 145 = some (true, 4) := by kernel_rfl
theorem tk173 : tK Tryz.prog 173 = some (true, 1) := by kernel_rfl
theorem ts3 : (tK Tryz.prog 3).map (·.2) = some 1 := by rw [tk3]; rfl
theorem ts28 : (tK Tryz.prog 28).map (·.2) = some 7 := by rw [tk28]; rfl
theorem ts29 : (tK Tryz.prog 29).map (·.2) = some 1 := by rw [tk29]; rfl
theorem ts31 : (tK Tryz.prog 31).map (·.2) = some 3 := by rw [tk31]; rfl
theorem ts35 : (tK Tryz.prog 35).map (·.2) = some 1 := by rw [tk35]; rfl
theorem ts47 : (tK Tryz.prog 47).map (·.2) = some 2 := by rw [tk47]; rfl
theorem ts63 : (tK Tryz.prog 63).map (·.2) = some 2 := by rw [tk63]; rfl
theorem ts65 : (tK Tryz.prog 65).map (·.2) = some 3 := by rw [tk65]; rfl
theorem ts67 : (tK Tryz.prog 67).map (·.2) = some 2 := by rw [tk67]; rfl
theorem ts95 : (tK Tryz.prog 95).map (·.2) = some 1 := by rw [tk95]; rfl
theorem ts99 : (tK Tryz.prog 99).map (·.2) = some 3 := by rw [tk99]; rfl
theorem ts115 : (tK Tryz.prog 115).map (·.2) = some 1 := by rw [tk115]; rfl
theorem ts120 : (tK Tryz.prog 120).map (·.2) = some 1 := by rw [tk120]; rfl
theorem ts122 : (tK Tryz.prog 122).map (·.2) = some 1 := by rw [tk122]; rfl
theorem ts124 : (tK Tryz.prog 124).map (·.2) = some 2 := by rw [tk124]; rfl
theorem ts141 : (tK Tryz.prog 141).map (·.2) = some 9 := by rw [tk141]; rfl
theorem ts144 : (tK Tryz.prog 144).map (·.2) = some 1 := by rw [tk144]; rfl
theorem ts145 : (tK Tryz.prog 145).map (·.2) = some 4 := by rw [tk145]; rfl
theorem ts173 : (tK Tryz.prog 173).map (·.2) = some 1 := by rw [tk173]; rfl
theorem fo24_0 : fOff Tryz.prog 24 0 = some 0 := by kernel_rfl
theorem fo28_0 : fOff Tryz.prog 28 0 = some 0 := by kernel_rfl
theorem fo28_1 : fOff Tryz.prog 28 1 = some 1 := by kernel_rfl
theorem fo28_2 : fOff Tryz.prog 28 2 = some 2 := by kernel_rfl
theorem fo28_3 : fOff Tryz.prog 28 3 = some 3 := by kernel_rfl
theorem fo28_4 : fOff Tryz.prog 28 4 = some 4 := by kernel_rfl
theorem fo28_5 : fOff Tryz.prog 28 5 = some 5 := by kernel_rfl
theorem fo28_6 : fOff Tryz.prog 28 6 = some 6 := by kernel_rfl
theorem fo31_0 : fOff Tryz.prog 31 0 = some 0 := by kernel_rfl
theorem fo31_1 : fOff Tryz.prog 31 1 = some 1 := by kernel_rfl
theorem fo31_2 : fOff Tryz.prog 31 2 = some 2 := by kernel_rfl
theorem fo47_0 : fOff Tryz.prog 47 0 = some 0 := by kernel_rfl
theorem fo47_1 : fOff Tryz.prog 47 1 = some 1 := by kernel_rfl
theorem fo63_0 : fOff Tryz.prog 63 0 = some 0 := by kernel_rfl
theorem fo63_1 : fOff Tryz.prog 63 1 = some 1 := by kernel_rfl
theorem fo65_0 : fOff Tryz.prog 65 0 = some 0 := by kernel_rfl
theorem fo65_1 : fOff Tryz.prog 65 1 = some 1 := by kernel_rfl
theorem fo67_0 : fOff Tryz.prog 67 0 = some 0 := by kernel_rfl
theorem fo67_1 : fOff Tryz.prog 67 1 = some 1 := by kernel_rfl
theorem fo99_0 : fOff Tryz.prog 99 0 = some 0 := by kernel_rfl
theorem fo99_1 : fOff Tryz.prog 99 1 = some 1 := by kernel_rfl
theorem fo101_0 : fOff Tryz.prog 101 0 = some 0 := by kernel_rfl
theorem fo101_1 : fOff Tryz.prog 101 1 = some 3 := by kernel_rfl
theorem fo117_0 : fOff Tryz.prog 117 0 = some 0 := by kernel_rfl
theorem fo117_1 : fOff Tryz.prog 117 1 = some 7 := by kernel_rfl
theorem fo117_2 : fOff Tryz.prog 117 2 = some 10 := by kernel_rfl
theorem fo117_3 : fOff Tryz.prog 117 3 = some 11 := by kernel_rfl
theorem fo117_4 : fOff Tryz.prog 117 4 = some 12 := by kernel_rfl
theorem fo117_5 : fOff Tryz.prog 117 5 = some 13 := by kernel_rfl
theorem fo124_0 : fOff Tryz.prog 124 0 = some 0 := by kernel_rfl
theorem fo124_1 : fOff Tryz.prog 124 1 = some 1 := by kernel_rfl
theorem fo141_0 : fOff Tryz.prog 141 0 = some 0 := by kernel_rfl
theorem fo141_1 : fOff Tryz.prog 141 1 = some 1 := by kernel_rfl
theorem fo141_2 : fOff Tryz.prog 141 2 = some 3 := by kernel_rfl
theorem fo141_3 : fOff Tryz.prog 141 3 = some 5 := by kernel_rfl
theorem fo141_4 : fOff Tryz.prog 141 4 = some 7 := by kernel_rfl
theorem fo141_5 : fOff Tryz.prog 141 5 = some 8 := by kernel_rfl
theorem fo144_0 : fOff Tryz.prog 144 0 = some 0 := by kernel_rfl
theorem fo173_0 : fOff Tryz.prog 173 0 = some 0 := by kernel_rfl
theorem go4 : isGo Tryz.prog 4 = true := by kernel_rfl
theorem go7 : isGo Tryz.prog 7 = true := by kernel_rfl
theorem go10 : isGo Tryz.prog 10 = true := by kernel_rfl
theorem go12 : isGo Tryz.prog 12 = true := by kernel_rfl
theorem go14 : isGo Tryz.prog 14 = true := by kernel_rfl
theorem go15 : isGo Tryz.prog 15 = true := by kernel_rfl
theorem go17 : isGo Tryz.prog 17 = true := by kernel_rfl
theorem go19 : isGo Tryz.prog 19 = true := by kernel_rfl
theorem go25 : isGo Tryz.prog 25 = true := by kernel_rfl
theorem go26 : isGo Tryz.prog 26 = true := by kernel_rfl
theorem go27 : isGo Tryz.prog 27 = true := by kernel_rfl
theorem go28 : isGo Tryz.prog 28 = true := by kernel_rfl
theorem go31 : isGo Tryz.prog 31 = true := by kernel_rfl
theorem go33 : isGo Tryz.prog 33 = true := by kernel_rfl
theorem go34 : isGo Tryz.prog 34 = true := by kernel_rfl
theorem go36 : isGo Tryz.prog 36 = true := by kernel_rfl
theorem go37 : isGo Tryz.prog 37 = true := by kernel_rfl
theorem go38 : isGo Tryz.prog 38 = true := by kernel_rfl
theorem go39 : isGo Tryz.prog 39 = true := by kernel_rfl
theorem go40 : isGo Tryz.prog 40 = true := by kernel_rfl
theorem go41 : isGo Tryz.prog 41 = true := by kernel_rfl
theorem go42 : isGo Tryz.prog 42 = true := by kernel_rfl
theorem go43 : isGo Tryz.prog 43 = true := by kernel_rfl
theorem go45 : isGo Tryz.prog 45 = true := by kernel_rfl
theorem go48 : isGo Tryz.prog 48 = true := by kernel_rfl
theorem go49 : isGo Tryz.prog 49 = true := by kernel_rfl
theorem go50 : isGo Tryz.prog 50 = true := by kernel_rfl
theorem go51 : isGo Tryz.prog 51 = true := by kernel_rfl
theorem go52 : isGo Tryz.prog 52 = true := by kernel_rfl
theorem go56 : isGo Tryz.prog 56 = true := by kernel_rfl
theorem go57 : isGo Tryz.prog 57 = true := by kernel_rfl
theorem go58 : isGo Tryz.prog 58 = true := by kernel_rfl
theorem go59 : isGo Tryz.prog 59 = true := by kernel_rfl
theorem go60 : isGo Tryz.prog 60 = true := by kernel_rfl
theorem go61 : isGo Tryz.prog 61 = true := by kernel_rfl
theorem go62 : isGo Tryz.prog 62 = true := by kernel_rfl
theorem go65 : isGo Tryz.prog 65 = true := by kernel_rfl
theorem go66 : isGo Tryz.prog 66 = true := by kernel_rfl
theorem go67 : isGo Tryz.prog 67 = true := by kernel_rfl
theorem go68 : isGo Tryz.prog 68 = true := by kernel_rfl
theorem go69 : isGo Tryz.prog 69 = true := by kernel_rfl
theorem go70 : isGo Tryz.prog 70 = true := by kernel_rfl
theorem go71 : isGo Tryz.prog 71 = true := by kernel_rfl
theorem go72 : isGo Tryz.prog 72 = true := by kernel_rfl
theorem go73 : isGo Tryz.prog 73 = true := by kernel_rfl
theorem go74 : isGo Tryz.prog 74 = true := by kernel_rfl
theorem go75 : isGo Tryz.prog 75 = true := by kernel_rfl
theorem go76 : isGo Tryz.prog 76 = true := by kernel_rfl
theorem go77 : isGo Tryz.prog 77 = true := by kernel_rfl
theorem go78 : isGo Tryz.prog 78 = true := by kernel_rfl
theorem go79 : isGo Tryz.prog 79 = true := by kernel_rfl
theorem go80 : isGo Tryz.prog 80 = true := by kernel_rfl
theorem go81 : isGo Tryz.prog 81 = true := by kernel_rfl
theorem go82 : isGo Tryz.prog 82 = true := by kernel_rfl
theorem go86 : isGo Tryz.prog 86 = true := by kernel_rfl
theorem go87 : isGo Tryz.prog 87 = true := by kernel_rfl
theorem go88 : isGo Tryz.prog 88 = true := by kernel_rfl
theorem go89 : isGo Tryz.prog 89 = true := by kernel_rfl
theorem go90 : isGo Tryz.prog 90 = true := by kernel_rfl
theorem go91 : isGo Tryz.prog 91 = true := by kernel_rfl
theorem go92 : isGo Tryz.prog 92 = true := by kernel_rfl
theorem go93 : isGo Tryz.prog 93 = true := by kernel_rfl
theorem go99 : isGo Tryz.prog 99 = true := by kernel_rfl
theorem go103 : isGo Tryz.prog 103 = true := by kernel_rfl
theorem go104 : isGo Tryz.prog 104 = true := by kernel_rfl
theorem go105 : isGo Tryz.prog 105 = true := by kernel_rfl
theorem go106 : isGo Tryz.prog 106 = true := by kernel_rfl
theorem go107 : isGo Tryz.prog 107 = true := by kernel_rfl
theorem go108 : isGo Tryz.prog 108 = true := by kernel_rfl
theorem go109 : isGo Tryz.prog 109 = true := by kernel_rfl
theorem go110 : isGo Tryz.prog 110 = true := by kernel_rfl
theorem go111 : isGo Tryz.prog 111 = true := by kernel_rfl
theorem go112 : isGo Tryz.prog 112 = true := by kernel_rfl
theorem go113 : isGo Tryz.prog 113 = true := by kernel_rfl
theorem go114 : isGo Tryz.prog 114 = true := by kernel_rfl
theorem go115 : isGo Tryz.prog 115 = true := by kernel_rfl
theorem go116 : isGo Tryz.prog 116 = true := by kernel_rfl
theorem go117 : isGo Tryz.prog 117 = true := by kernel_rfl
theorem go118 : isGo Tryz.prog 118 = true := by kernel_rfl
theorem go119 : isGo Tryz.prog 119 = true := by kernel_rfl
theorem go121 : isGo Tryz.prog 121 = true := by kernel_rfl
theorem go122 : isGo Tryz.prog 122 = true := by kernel_rfl
theorem go123 : isGo Tryz.prog 123 = true := by kernel_rfl
theorem go129 : isGo Tryz.prog 129 = true := by kernel_rfl
theorem go130 : isGo Tryz.prog 130 = true := by kernel_rfl
theorem go131 : isGo Tryz.prog 131 = true := by kernel_rfl
theorem go132 : isGo Tryz.prog 132 = true := by kernel_rfl
theorem go133 : isGo Tryz.prog 133 = true := by kernel_rfl
theorem go134 : isGo Tryz.prog 134 = true := by kernel_rfl
theorem go135 : isGo Tryz.prog 135 = true := by kernel_rfl
theorem go136 : isGo Tryz.prog 136 = true := by kernel_rfl
theorem go137 : isGo Tryz.prog 137 = true := by kernel_rfl
theorem go139 : isGo Tryz.prog 139 = true := by kernel_rfl
theorem one_SpanV_cells (l : List SpanV) : ∀ v ∈ (l.map SpanV.cells).flatten, v.oneCell' = true := one_flat (fun _ => rfl) l
theorem one_SignalV_cells (l : List SignalV) : ∀ v ∈ (l.map SignalV.cells).flatten, v.oneCell' = true := one_flat (fun _ => rfl) l
theorem ta29 : tA Tryz.prog 29 = some (67, 2, 16, (Value.agg [(Value.int .i64 0), (Value.int .i64 0)].toArray)) := by kernel_rfl
theorem ta35 : tA Tryz.prog 35 = some (3, 1, 8, (Value.int .i64 0)) := by kernel_rfl
theorem ta114 : tA Tryz.prog 114 = some (120, 1, 8, (Value.map none)) := by kernel_rfl
theorem ta115 : tA Tryz.prog 115 = some (122, 1, 8, (Value.map none)) := by kernel_rfl
theorem ta127 : tA Tryz.prog 127 = some (47, 2, 16, (Value.agg [(Value.int .i64 0), (Value.int .i64 0)].toArray)) := by kernel_rfl
theorem tb24 : tB Tryz.prog 24 = some ([(Value.slice none 0 0)], [(0, 1)]) := by kernel_rfl
theorem tb28 : tB Tryz.prog 28 = some ([(Value.slice none 0 0), (Value.int .i64 0), (Value.slice none 0 0), (Value.slice none 0 0), (Value.int .i64 0), (Value.int .i64 0), (Value.int .i64 0)], [(0, 1), (1, 1), (2, 1), (3, 1), (4, 1), (5, 1), (6, 1)]) := by kernel_rfl
theorem tb31 : tB Tryz.prog 31 = some ([(Value.int .i64 0), (Value.int .i64 0), (Value.slice none 0 0)], [(0, 1), (1, 1), (2, 1)]) := by kernel_rfl
theorem tb47 : tB Tryz.prog 47 = some ([(Value.int .i64 0), (Value.int .i64 0)], [(0, 1), (1, 1)]) := by kernel_rfl
theorem tb63 : tB Tryz.prog 63 = some ([(Value.int .i64 0), (Value.slice none 0 0)], [(0, 1), (1, 1)]) := by kernel_rfl
theorem tb65 : tB Tryz.prog 65 = some ([(Value.int .i64 0), (Value.int .i64 0), (Value.int .i64 0)], [(0, 1), (1, 2)]) := by kernel_rfl
theorem tb67 : tB Tryz.prog 67 = some ([(Value.int .i64 0), (Value.int .i64 0)], [(0, 1), (1, 1)]) := by kernel_rfl
theorem tb99 : tB Tryz.prog 99 = some ([(Value.int .i64 0), (Value.int .i64 0), (Value.int .i64 0)], [(0, 1), (1, 2)]) := by kernel_rfl
theorem tb101 : tB Tryz.prog 101 = some ([(Value.int .i64 0), (Value.int .i64 0), (Value.int .i64 0), (Value.int .i64 0)], [(0, 3), (3, 1)]) := by kernel_rfl
theorem tb117 : tB Tryz.prog 117 = some ([(Value.slice none 0 0), (Value.int .i64 0), (Value.slice none 0 0), (Value.slice none 0 0), (Value.int .i64 0), (Value.int .i64 0), (Value.int .i64 0), (Value.int .i64 0), (Value.int .i64 0), (Value.slice none 0 0), (Value.slice none 0 0), (Value.slice none 0 0), (Value.slice none 0 0), (Value.slice none 0 0)], [(0, 7), (7, 3), (10, 1), (11, 1), (12, 1), (13, 1)]) := by kernel_rfl
theorem tb124 : tB Tryz.prog 124 = some ([(Value.int .i64 0), (Value.int .i64 0)], [(0, 1), (1, 1)]) := by kernel_rfl
theorem tb141 : tB Tryz.prog 141 = some ([(Value.int .i64 0), (Value.int .i64 0), (Value.int .i64 0), (Value.int .i64 0), (Value.int .i64 0), (Value.int .i64 0), (Value.int .i64 0), (Value.int .u8 0), (Value.int .i64 0)], [(0, 1), (1, 2), (3, 2), (5, 2), (7, 1), (8, 1)]) := by kernel_rfl
theorem tb144 : tB Tryz.prog 144 = some ([Value.nilFunc], [(0, 1)]) := by kernel_rfl
theorem tb145 : tB Tryz.prog 145 = some ([Value.nilFunc, Value.nilFunc, Value.nilFunc, Value.nilFunc], [(0, 1), (1, 1), (2, 1), (3, 1)]) := by kernel_rfl
theorem tb173 : tB Tryz.prog 173 = some ([(Value.slice none 0 0)], [(0, 1)]) := by kernel_rfl
theorem te22 : tE Tryz.prog 22 = some (141, 9) := by kernel_rfl
theorem te25 : tE Tryz.prog 25 = some (63, 2) := by kernel_rfl
theorem te26 : tE Tryz.prog 26 = some (101, 4) := by kernel_rfl
theorem te29 : tE Tryz.prog 29 = some (67, 2) := by kernel_rfl
theorem te35 : tE Tryz.prog 35 = some (3, 1) := by kernel_rfl
theorem te61 : tE Tryz.prog 61 = some (65, 3) := by kernel_rfl
theorem te112 : tE Tryz.prog 112 = some (88, 1) := by kernel_rfl
theorem te114 : tE Tryz.prog 114 = some (120, 1) := by kernel_rfl
theorem te115 : tE Tryz.prog 115 = some (122, 1) := by kernel_rfl
theorem te127 : tE Tryz.prog 127 = some (47, 2) := by kernel_rfl
theorem te191 : tE Tryz.prog 191 = some (99, 3) := by kernel_rfl
theorem tf31_2 : (match Tryz.prog.underlying 31 with | some (.struct fs) => (fs[2]?).map (fun fl => tK Tryz.prog fl.type) | _ => none) = some (some (false, 1)) := by kernel_rfl
theorem tf47_0 : (match Tryz.prog.underlying 47 with | some (.struct fs) => (fs[0]?).map (fun fl => tK Tryz.prog fl.type) | _ => none) = some (some (false, 1)) := by kernel_rfl
theorem tf47_1 : (match Tryz.prog.underlying 47 with | some (.struct fs) => (fs[1]?).map (fun fl => tK Tryz.prog fl.type) | _ => none) = some (some (false, 1)) := by kernel_rfl
theorem tv3 : tV Tryz.prog 3 = some (Value.int .i64 0) := by kernel_rfl
theorem tx145 : tX Tryz.prog 145 = some (4, 144) := by kernel_rfl
theorem tz3 : tZ Tryz.prog 3 = some [(Value.int .i64 0)] := by kernel_rfl
theorem tz28 : tZ Tryz.prog 28 = some [(Value.slice none 0 0), (Value.int .i64 0), (Value.slice none 0 0), (Value.slice none 0 0), (Value.int .i64 0), (Value.int .i64 0), (Value.int .i64 0)] := by kernel_rfl
theorem tz31 : tZ Tryz.prog 31 = some [(Value.int .i64 0), (Value.int .i64 0), (Value.slice none 0 0)] := by kernel_rfl
theorem tz47 : tZ Tryz.prog 47 = some [(Value.int .i64 0), (Value.int .i64 0)] := by kernel_rfl
theorem tz63 : tZ Tryz.prog 63 = some [(Value.int .i64 0), (Value.slice none 0 0)] := by kernel_rfl
theorem tz65 : tZ Tryz.prog 65 = some [(Value.int .i64 0), (Value.int .i64 0), (Value.int .i64 0)] := by kernel_rfl
theorem tz67 : tZ Tryz.prog 67 = some [(Value.int .i64 0), (Value.int .i64 0)] := by kernel_rfl
theorem tz88 : tZ Tryz.prog 88 = some [Value.nilFunc] := by kernel_rfl
theorem tz95 : tZ Tryz.prog 95 = some [(Value.map none)] := by kernel_rfl
theorem tz99 : tZ Tryz.prog 99 = some [(Value.int .i64 0), (Value.int .i64 0), (Value.int .i64 0)] := by kernel_rfl
theorem tz101 : tZ Tryz.prog 101 = some [(Value.int .i64 0), (Value.int .i64 0), (Value.int .i64 0), (Value.int .i64 0)] := by kernel_rfl
theorem tz124 : tZ Tryz.prog 124 = some [(Value.int .i64 0), (Value.int .i64 0)] := by kernel_rfl
theorem tz141 : tZ Tryz.prog 141 = some [(Value.int .i64 0), (Value.int .i64 0), (Value.int .i64 0), (Value.int .i64 0), (Value.int .i64 0), (Value.int .i64 0), (Value.int .i64 0), (Value.int .u8 0), (Value.int .i64 0)] := by kernel_rfl
theorem tz144 : tZ Tryz.prog 144 = some [Value.nilFunc] := by kernel_rfl
theorem tz145 : tZ Tryz.prog 145 = some [Value.nilFunc, Value.nilFunc, Value.nilFunc, Value.nilFunc] := by kernel_rfl
theorem tz173 : tZ Tryz.prog 173 = some [(Value.slice none 0 0)] := by kernel_rfl
theorem ut3 : Tryz.prog.underlying 3 = some (.int .i64) := by kernel_rfl
theorem ut4 : Tryz.prog.underlying 4 = some .bool := by kernel_rfl
theorem ut5 : Tryz.prog.underlying 5 = some (.int .u8) := by kernel_rfl
theorem ut9 : Tryz.prog.underlying 9 = some .string := by kernel_rfl
theorem ut22 : Tryz.prog.underlying 22 = some (.slice 141) := by kernel_rfl
theorem ut25 : Tryz.prog.underlying 25 = some (.slice 63) := by kernel_rfl
theorem ut26 : Tryz.prog.underlying 26 = some (.slice 101) := by kernel_rfl
theorem ut29 : Tryz.prog.underlying 29 = some (.slice 67) := by kernel_rfl
theorem ut35 : Tryz.prog.underlying 35 = some (.slice 3) := by kernel_rfl
theorem ut61 : Tryz.prog.underlying 61 = some (.slice 65) := by kernel_rfl
theorem ut95 : Tryz.prog.underlying 95 = some (.map 3 4) := by kernel_rfl
theorem ut112 : Tryz.prog.underlying 112 = some (.slice 88) := by kernel_rfl
theorem ut120 : Tryz.prog.underlying 120 = some (.map 3 47) := by kernel_rfl
theorem ut122 : Tryz.prog.underlying 122 = some (.map 124 3) := by kernel_rfl
theorem ut127 : Tryz.prog.underlying 127 = some (.slice 47) := by kernel_rfl
theorem ut139 : Tryz.prog.underlying 139 = some (.int .u64) := by kernel_rfl
theorem ut168 : Tryz.prog.underlying 168 = some (.int .u64) := by kernel_rfl
theorem ut191 : Tryz.prog.underlying 191 = some (.slice 99) := by kernel_rfl
theorem fl47 : fL Tryz.prog 47 = some [(3, 0), (3, 1)] := by kernel_rfl
theorem eqI47 (d : Nat) (s z : SpanV) (w : World) : (Op.equalIn (d + 2) 47 (.agg s.cells.toArray) (.agg z.cells.toArray)).run Tryz.prog w = .ok (decide (s = z)) w := by
  have hc : (decide (s.Lo = z.Lo) && (decide (s.Hi = z.Hi) && true)) = decide (s = z) := by rw [Bool.eq_iff_iff]; simp [SpanV.ext_iff]
  rw [← hc]
  exact eqI_struct (d + 1) fl47 w (eqf_cons w (part_one tk3 rfl w) (part_one tk3 rfl w) (eqI_int _ ut3 w) (eqf_cons w (part_one tk3 rfl w) (part_one tk3 rfl w) (eqI_int _ ut3 w) (eqf_nil w)))
theorem eqs47 (x y : Operand) (s z : SpanV) : BinRun Tryz.prog .eql 47 x y (.agg s.cells.toArray) (.agg z.cells.toArray) (.bool (decide (s = z))) := eq_struct x y (fL_guard fl47) fun w => eqI47 9998 s z w
theorem nes47 (x y : Operand) (s z : SpanV) : BinRun Tryz.prog .neq 47 x y (.agg s.cells.toArray) (.agg z.cells.toArray) (.bool (!decide (s = z))) := ne_struct x y (fL_guard fl47) fun w => eqI47 9998 s z w
theorem fl124 : fL Tryz.prog 124 = some [(3, 0), (3, 1)] := by kernel_rfl
theorem eqI124 (d : Nat) (s z : TallyV) (w : World) : (Op.equalIn (d + 2) 124 (.agg s.cells.toArray) (.agg z.cells.toArray)).run Tryz.prog w = .ok (decide (s = z)) w := by
  have hc : (decide (s.right = z.right) && (decide (s.missed = z.missed) && true)) = decide (s = z) := by rw [Bool.eq_iff_iff]; simp [TallyV.ext_iff]
  rw [← hc]
  exact eqI_struct (d + 1) fl124 w (eqf_cons w (part_one tk3 rfl w) (part_one tk3 rfl w) (eqI_int _ ut3 w) (eqf_cons w (part_one tk3 rfl w) (part_one tk3 rfl w) (eqI_int _ ut3 w) (eqf_nil w)))
theorem mixed : Tryz.prog.follows .mixedOrders = true := by kernel_rfl
end
end Go.Proofs.YthiigjekcdjkkaaGreat
