/-
  The core of a small program logic over the model's fenced walk: frames as lists of slots, memory as a list of assertions; rules for code.
  No condition: the theorems hold over whatever program.
-/
import Derived.WalkKit
import Derived.RangeFuncLeaves
import Derived.RangeFuncRecord
import Derived.OrdersIn
import Derived.Deep.LoopGhost
namespace Go.Proofs.Ytaehngpnlkokkaa
open Go.RowKit
set_option linter.unusedVariables false

/-! ## fences -/
abbrev Fw (r : Option Nat) : Fence := { fn := fun _ => True, depth := none, alive := false, round := r }
theorem calls_in {P : Program} {f : FuncId} {args : Array Value} {w : World} {R : Ending → World → Prop} (r : Option Nat) (h : Calls P f args w R) : CallsIn (Fw r) 0 P f args w R :=
  (callsIn_wide (n := 0)).2 h
theorem calls_of_in {P : Program} {f : FuncId} {args : Array Value} {w : World} {R : Ending → World → Prop} (h : CallsIn (Fw none) 0 P f args w R) : Calls P f args w R :=
  (callsIn_wide (n := 0)).1 h

/-! ## frames -/
structure Fr (n : Nat) (D : List Deferred) (L : List (Nat × Value)) (a : Act) : Prop where
  defers : a.defers = D
  size : a.tmps.size = n
  at_ : ∀ t v, L.lookup t = some v → a.tmps[t]? = some v
def ev (L : List (Nat × Value)) : Operand → Option Value
  | .tmp t => L.lookup t
  | .const v => some v
  | .global g => some (.pointer (some ⟨g, 0, none⟩))
  | .func f => some (.func (.func f) #[] #[])
theorem Fr.ev {n : Nat} {D : List Deferred} {L : List (Nat × Value)} {a : Act} (h : Fr n D L a) {x : Operand} {v : Value} (hx : ev L x = some v) : a.eval x = v := by
  cases x with
  | tmp t => have := h.at_ t v hx; simp [Act.eval, this]
  | const u => simpa [Go.Proofs.Ytaehngpnlkokkaa.ev, Act.eval] using hx
  | global g => simpa [Go.Proofs.Ytaehngpnlkokkaa.ev, Act.eval] using hx
  | func f => simpa [Go.Proofs.Ytaehngpnlkokkaa.ev, Act.eval] using hx
theorem Fr.put {n : Nat} {D : List Deferred} {L : List (Nat × Value)} {a : Act} (h : Fr n D L a) {d : Nat} (hd : d < n) (v : Value) : Fr n D ((d, v) :: L) (a.put (some d) v) := by
  refine ⟨h.defers, by simp [Act.put, h.size], fun t u hu => ?_⟩
  simp only [Act.put]
  by_cases e : t = d
  · subst e
    simp only [List.lookup, beq_self_eq_true] at hu
    rw [Array.getElem?_setIfInBounds_self_of_lt (by rw [h.size]; exact hd)]; exact hu
  · have : (t == d) = false := by simpa using e
    simp only [List.lookup, this] at hu
    rw [Array.getElem?_setIfInBounds_ne (fun x => e x.symm)]
    exact h.at_ t u hu
/-- fewer slots are known -/
def Sub (L L' : List (Nat × Value)) : Prop := ∀ t v, L'.lookup t = some v → L.lookup t = some v
theorem Sub.nil (L : List (Nat × Value)) : Sub L [] := fun _ _ h => by simp [List.lookup] at h
theorem Sub.cons {L L' : List (Nat × Value)} {t : Nat} {v : Value} (h : L.lookup t = some v) (k : Sub L L') : Sub L ((t, v) :: L') := fun s u hu => by
  by_cases e : s = t
  · subst e; simp only [List.lookup, beq_self_eq_true] at hu; exact h.trans hu
  · have : (s == t) = false := by simpa using e
    simp only [List.lookup, this] at hu; exact k s u hu
theorem Fr.sub {n : Nat} {D : List Deferred} {L L' : List (Nat × Value)} {a : Act} (h : Fr n D L a) (k : Sub L L') : Fr n D L' a :=
  ⟨h.defers, h.size, fun t v hv => h.at_ t v (k t v hv)⟩

/-! ## memory -/
structure Assn where
  foot : Nat → Prop
  /-- what of it may be written -/
  wf : Nat → Prop
  holds : World → Prop
  /-- all of it may be written -/
  wr : Bool
  wfoot : ∀ b, wf b → foot b
  whole : wr = true → ∀ b, foot b → wf b
  lt : ∀ w, holds w → ∀ b, foot b → b < w.heap.size
  keep : ∀ w w' : World, (∀ b, foot b → w'.heap[b]? = w.heap[b]?) → holds w → holds w'
def Sep (A B : Assn) : Prop := ∀ b, A.foot b → B.foot b → ¬ A.wf b ∧ ¬ B.wf b
abbrev NS := Nat → Prop
def no : NS := fun _ => False
def only (b : Nat) : NS := fun k => k = b
/-- what may be written, and what may be read, of the blocks that were there -/
structure BS where
  w : NS
  r : NS
def fnS : BS := ⟨no, fun _ => True⟩
theorem Sep.symm {A B : Assn} (h : Sep A B) : Sep B A := fun b hb ha => (h b ha hb).symm
/-- all but the blocks of S is as it was; nothing of the streams has turned -/
structure Keeps (S : NS) (w w' : World) : Prop where
  os : w'.os = w.os
  tape : w'.tape = w.tape
  output : w'.output = w.output
  size : w.heap.size ≤ w'.heap.size
  block : ∀ k, k < w.heap.size → ¬ S k → w'.heap[k]? = w.heap[k]?
theorem Keeps.refl (S : NS) (w : World) : Keeps S w w := ⟨rfl, rfl, rfl, Nat.le_refl _, fun _ _ _ => rfl⟩
theorem Keeps.trans {S : NS} {a b c : World} (h : Keeps S a b) (k : Keeps S b c) : Keeps S a c :=
  ⟨k.os.trans h.os, k.tape.trans h.tape, k.output.trans h.output, Nat.le_trans h.size k.size, fun i hi hs => (k.block i (Nat.lt_of_lt_of_le hi h.size) hs).trans (h.block i hi hs)⟩
theorem Keeps.mono {S S' : NS} {a b : World} (h : Keeps S a b) (hs : ∀ k, S k → S' k) : Keeps S' a b :=
  ⟨h.os, h.tape, h.output, h.size, fun i hi hn => h.block i hi (fun hm => hn (hs i hm))⟩
theorem Keeps.below {w w' : World} (h : Keeps no w w') : Below w.heap.size w w' := ⟨h.os, h.tape, h.output, h.size, fun k hk => h.block k hk (fun h => h)⟩
theorem Keeps.of_below {w w' : World} (h : Below w.heap.size w w') : Keeps no w w' := ⟨h.os, h.tape, h.output, h.size, fun k hk _ => h.block k hk⟩
theorem Keeps.drew (S : NS) (w : World) : Keeps S w w.drew := ⟨rfl, rfl, rfl, Nat.le_refl _, fun _ _ _ => rfl⟩
theorem Keeps.alloc (S : NS) (w : World) (o : Obj) : Keeps S w (w.alloc o) := ⟨rfl, rfl, rfl, by simp, fun k hk _ => Below.heap_alloc w o k hk⟩
/-- the state: what holds of memory, each thing by itself -/
structure St (S : BS) (w0 : World) (C : List Assn) (w : World) : Prop where
  keeps : Keeps S.w w0 w
  holds : ∀ A ∈ C, A.holds w
  sep : C.Pairwise Sep
  own : ∀ A ∈ C, ∀ b, A.wf b → w0.heap.size ≤ b ∨ S.w b
  seen : ∀ A ∈ C, ∀ b, A.foot b → w0.heap.size ≤ b ∨ S.r b
/-- C' is a part of C, in whatever order, each thing once -/
theorem St.sub {S : BS} {w0 w : World} {C C' : List Assn} (h : St S w0 C w) (hs : C'.Pairwise Sep) (hm : ∀ A ∈ C', A ∈ C) : St S w0 C' w :=
  ⟨h.keeps, fun A hA => h.holds A (hm A hA), hs, fun A hA => h.own A (hm A hA), fun A hA => h.seen A (hm A hA)⟩
theorem St.take {S : BS} {w0 w : World} {C C' : List Assn} (h : St S w0 C w) (hs : C'.Sublist C) : St S w0 C' w :=
  h.sub (h.sep.sublist hs) (fun _ hA => hs.subset hA)
theorem St.perm {S : BS} {w0 w : World} {C C' : List Assn} (h : St S w0 C w) (hs : C.Perm C') : St S w0 C' w :=
  h.sub (hs.pairwise h.sep (fun k => Sep.symm k)) (fun _ hA => hs.mem_iff.2 hA)
/-- what is new -/
structure New (w w' : World) (N : List Assn) : Prop where
  holds : ∀ A ∈ N, A.holds w'
  fresh : ∀ A ∈ N, ∀ b, A.foot b → w.heap.size ≤ b
  sep : N.Pairwise Sep
theorem New.nil (w w' : World) : New w w' [] := ⟨by simp, by simp, List.Pairwise.nil⟩
theorem St.grow {S : BS} {w0 w w' : World} {C N : List Assn} (h : St S w0 C w) (k : Keeps no w w') (n : New w w' N) : St S w0 (N ++ C) w' := by
  refine ⟨h.keeps.trans (k.mono (fun _ h => h.elim)), fun A hA => ?_, ?_, fun A hA b hb => ?_, fun A hA b hb => ?_⟩
  · rcases List.mem_append.1 hA with hA | hA
    · exact n.holds A hA
    · exact A.keep w w' (fun b hb => k.block b (A.lt w (h.holds A hA) b hb) (fun h => h)) (h.holds A hA)
  · rw [List.pairwise_append]
    refine ⟨n.sep, h.sep, fun A hA B hB b ha hb => ?_⟩
    have h1 := n.fresh A hA b ha
    have h2 := B.lt w (h.holds B hB) b hb
    omega
  · rcases List.mem_append.1 hA with hA | hA
    · exact .inl (Nat.le_trans h.keeps.size (n.fresh A hA b (A.wfoot b hb)))
    · exact h.own A hA b hb
  · rcases List.mem_append.1 hA with hA | hA
    · exact .inl (Nat.le_trans h.keeps.size (n.fresh A hA b hb))
    · exact h.seen A hA b hb
theorem St.same {S : BS} {w0 w w' : World} {C : List Assn} (h : St S w0 C w) (k : Keeps no w w') : St S w0 C w' := by
  simpa using h.grow k (New.nil w w')

/-! ## code -/
structure Env where
  P : Program
  r : Option Nat
  n : Nat
  S : BS
  w0 : World
abbrev Post := Exit → Act → World → Prop
/-- code, from a frame and a state -/
def WJ (E : Env) (c : Code) (Q : Post) (D : List Deferred) (L : List (Nat × Value)) (C : List Assn) : Prop :=
  ∀ a w, Fr E.n D L a → St E.S E.w0 C w → c.wpIn (Fw E.r) 0 E.P Q a w
/-- a thing that is asked of what follows -/
def KJ (E : Env) (K : Act → World → Prop) (D : List Deferred) (L : List (Nat × Value)) (C : List Assn) : Prop :=
  ∀ a w, Fr E.n D L a → St E.S E.w0 C w → K a w
def wpL (r : Option Nat) (P : Program) (ops : Array Oper) (Q : Post) : List Oper → Act → World → Prop
  | [], a, w => Q .normal a w
  | o :: rest, a, w => if Region.wanted o (yielded ops a.tmps) then o.wpIn (Fw r) 0 P a w (wpL r P ops Q rest) Q else wpL r P ops Q rest (a.put o.dst undef) w
def RJ (E : Env) (ops : Array Oper) (Q : Post) (rest : List Oper) (D : List Deferred) (L : List (Nat × Value)) (C : List Assn) : Prop :=
  ∀ a w, Fr E.n D L a → St E.S E.w0 C w → wpL E.r E.P ops Q rest a w
theorem uponIn_mono {F : Fence} {n : Nat} {P : Program} {o : Oper} {a : Act} {N N' : Act → World → Prop} {Q Q' : Post} (hn : ∀ a w, N a w → N' a w) (hq : ∀ e a w, Q e a w → Q' e a w) :
    ∀ {res : Result Next}, o.uponIn F n P a N Q res → o.uponIn F n P a N' Q' res := by
  intro res h
  cases res with
  | halt x w => cases x <;> simp only [Oper.uponIn] at h ⊢ <;> first | exact hq _ _ _ h | exact h
  | ok x w =>
    cases x with
    | value v => exact hn _ _ h
    | skip => exact hn _ _ h
    | defer d => exact hn _ _ h
    | enter f args =>
      refine ⟨h.1, h.2.mono fun e w'' he => ?_⟩
      cases e with
      | returned v => exact hn _ _ he
      | panicked ch => exact hq _ _ _ he
      | outgrown => obtain ⟨a0, w0, h0⟩ := he; exact ⟨a0, w0, hq _ _ _ h0⟩
    | row x args => exact ⟨h.1, h.2.mono fun v w'' he => hn _ _ he⟩
    | round l f tmps as bd =>
      refine ⟨h.1, h.2.mono fun e w'' he => ?_⟩
      cases e with
      | returned v => exact hn _ _ he
      | panicked ch => exact hq _ _ _ he
      | outgrown => obtain ⟨a0, w0, h0⟩ := he; exact ⟨a0, w0, hq _ _ _ h0⟩
    | _ => simp [Oper.uponIn] at h
theorem wpIn_op_mono {F : Fence} {n : Nat} {P : Program} {o : Oper} {a : Act} {w : World} {N N' : Act → World → Prop} {Q Q' : Post} (h : o.wpIn F n P a w N Q) (hn : ∀ a w, N a w → N' a w) (hq : ∀ e a w, Q e a w → Q' e a w) : o.wpIn F n P a w N' Q' :=
  ⟨h.1, uponIn_mono hn hq h.2⟩
theorem wpOpsIn_eq {r : Option Nat} {P : Program} {ops : Array Oper} {Q : Post} (l : List Oper) : ∀ (k : Nat) (a : Act) (w : World), (∀ j, l[j]? = ops[k + j]?) → wpL r P ops Q l a w → wpOpsIn (Fw r) 0 P ops Q (List.range' k l.length) a w := by
  induction l with
  | nil => intro k a w _ h; simpa [wpOpsIn, wpL] using h
  | cons o l ih =>
    intro k a w hl h
    have h0 : ops[k]? = some o := by simpa using (hl 0).symm
    have hl' : ∀ j, l[j]? = ops[k + 1 + j]? := fun j => by have := hl (j + 1); simpa [Nat.add_assoc, Nat.add_comm 1 j] using this
    simp only [List.length_cons, List.range'_succ, wpOpsIn, h0]
    simp only [wpL] at h
    split at h
    · rename_i hw
      rw [if_pos hw]
      exact wpIn_op_mono h (fun a w => ih _ a w hl') (fun _ _ _ h => h)
    · rename_i hw
      rw [if_neg hw]
      exact ⟨fun _ _ => trivial, ih _ _ _ hl' h⟩
theorem w_region {E : Env} {id : Nat} {ops : Array Oper} {Q : Post} {D : List Deferred} {L : List (Nat × Value)} {C : List Assn} (h : RJ E ops Q ops.toList D L C) : WJ E (.region id ops false) Q D L C := by
  intro a w hf hs
  refine wpIn_region ?_
  have := wpOpsIn_eq (r := E.r) (P := E.P) (Q := Q) ops.toList 0 a w (by simp) (h a w hf hs)
  rwa [List.range_eq_range', ← Array.length_toList]
theorem r_nil {E : Env} {ops : Array Oper} {Q : Post} {D : List Deferred} {L : List (Nat × Value)} {C : List Assn} (h : KJ E (Q .normal) D L C) : RJ E ops Q [] D L C := h
theorem w_seq {E : Env} {x y : Code} {Q : Post} {D : List Deferred} {L : List (Nat × Value)} {C : List Assn}
    (h : ∀ K : Act → World → Prop, (∀ D L C, WJ E y Q D L C → KJ E K D L C) → WJ E x (Exit.then K Q) D L C) : WJ E (.seq x y) Q D L C :=
  fun a w hf hs => wpIn_seq (h _ (fun _ _ _ hy a w hf hs => hy a w hf hs) a w hf hs)
theorem k_then {E : Env} {K : Act → World → Prop} {Q : Post} {D : List Deferred} {L : List (Nat × Value)} {C : List Assn} (h : KJ E K D L C) : KJ E (Exit.then K Q .normal) D L C := h
theorem k_block {E : Env} {id : Nat} {Q : Post} {D : List Deferred} {L : List (Nat × Value)} {C : List Assn} (h : KJ E (Q .normal) D L C) : KJ E (Exit.inBlock id Q .normal) D L C := h
theorem k_exit_then {E : Env} {id : Nat} {K : Act → World → Prop} {Q : Post} {D : List Deferred} {L : List (Nat × Value)} {C : List Assn} (h : KJ E (Q (.exit id)) D L C) : KJ E (Exit.then K Q (.exit id)) D L C := h
theorem k_exit_same {E : Env} {id : Nat} {Q : Post} {D : List Deferred} {L : List (Nat × Value)} {C : List Assn} (h : KJ E (Q .normal) D L C) : KJ E (Exit.inBlock id Q (.exit id)) D L C := fun a w hf hs => by
  simp only [Exit.inBlock, if_true]; exact h a w hf hs
theorem k_exit_other {E : Env} {id id' : Nat} {Q : Post} {D : List Deferred} {L : List (Nat × Value)} {C : List Assn} (hne : Nat.beq id' id = false) (h : KJ E (Q (.exit id')) D L C) : KJ E (Exit.inBlock id Q (.exit id')) D L C := fun a w hf hs => by
  have : id' ≠ id := fun e => by subst e; simp at hne
  simp only [Exit.inBlock, this, if_false]; exact h a w hf hs
theorem w_skip {E : Env} {Q : Post} {D : List Deferred} {L : List (Nat × Value)} {C : List Assn} (h : KJ E (Q .normal) D L C) : WJ E .skip Q D L C := fun a w hf hs => wpIn_skip (h a w hf hs)
theorem w_ret {E : Env} {Q : Post} {D : List Deferred} {L : List (Nat × Value)} {C : List Assn} (h : KJ E (Q .ret) D L C) : WJ E .ret Q D L C := fun a w hf hs => wpIn_ret (h a w hf hs)
theorem w_exit {E : Env} {id : Nat} {Q : Post} {D : List Deferred} {L : List (Nat × Value)} {C : List Assn} (h : KJ E (Q (.exit id)) D L C) : WJ E (.exit id) Q D L C := fun a w hf hs => wpIn_exit (h a w hf hs)
theorem w_block {E : Env} {id : Nat} {c : Code} {Q : Post} {D : List Deferred} {L : List (Nat × Value)} {C : List Assn} (h : WJ E c (Exit.inBlock id Q) D L C) : WJ E (.block id c) Q D L C := fun a w hf hs => wpIn_block (h a w hf hs)
theorem w_if {E : Env} {c : Operand} {x y : Code} {b : Bool} {Q : Post} {D : List Deferred} {L : List (Nat × Value)} {C : List Assn} (hc : ev L c = some (.bool b))
    (h1 : b = true → WJ E x Q D L C) (h2 : b = false → WJ E y Q D L C) : WJ E (.cond c x y) Q D L C := by
  intro a w hf hs
  refine wpIn_cond_split (hf.ev hc) (fun hb => h1 hb a w hf hs) (fun hb => h2 hb a w hf hs)
theorem w_if_true {E : Env} {c : Operand} {x y : Code} {Q : Post} {D : List Deferred} {L : List (Nat × Value)} {C : List Assn} (hc : ev L c = some (.bool true)) (h1 : WJ E x Q D L C) : WJ E (.cond c x y) Q D L C :=
  w_if hc (fun _ => h1) (fun h => by cases h)
theorem w_if_false {E : Env} {c : Operand} {x y : Code} {Q : Post} {D : List Deferred} {L : List (Nat × Value)} {C : List Assn} (hc : ev L c = some (.bool false)) (h1 : WJ E y Q D L C) : WJ E (.cond c x y) Q D L C :=
  w_if hc (fun h => by cases h) (fun _ => h1)
theorem w_sub {E : Env} {c : Code} {Q : Post} {D : List Deferred} {L L' : List (Nat × Value)} {C C' : List Assn} (hL : Sub L L') (hC : ∀ w, St E.S E.w0 C w → St E.S E.w0 C' w) (h : WJ E c Q D L' C') : WJ E c Q D L C :=
  fun a w hf hs => h a w (hf.sub hL) (hC w hs)
theorem k_sub {E : Env} {K : Act → World → Prop} {D : List Deferred} {L L' : List (Nat × Value)} {C C' : List Assn} (hL : Sub L L') (hC : ∀ w, St E.S E.w0 C w → St E.S E.w0 C' w) (h : KJ E K D L' C') : KJ E K D L C :=
  fun a w hf hs => h a w (hf.sub hL) (hC w hs)
theorem w_mono {E : Env} {c : Code} {Q Q' : Post} {D : List Deferred} {L : List (Nat × Value)} {C : List Assn} (h : WJ E c Q D L C) (hq : ∀ e a w, Q e a w → Q' e a w) : WJ E c Q' D L C :=
  fun a w hf hs => wpIn_mono (h a w hf hs) hq

/-- A loop: a relation over a ghost of whatever type, a measure on it. -/
theorem w_loop {E : Env} {c : Code} {Q : Post} {D : List Deferred} {L : List (Nat × Value)} {C : List Assn} {ι : Type} (Li : ι → List (Nat × Value)) (Ci : ι → List Assn) (μ : ι → Nat) (x0 : ι)
    (h0 : Sub L (Li x0)) (hC : ∀ w, St E.S E.w0 C w → St E.S E.w0 (Ci x0) w)
    (round : ∀ x (J : Act → World → Prop), (∀ y D' L' C', D' = D → μ y < μ x → Sub L' (Li y) → (∀ w, St E.S E.w0 C' w → St E.S E.w0 (Ci y) w) → KJ E J D' L' C') → WJ E c (Exit.then J Q) D (Li x) (Ci x)) : WJ E (.loop c) Q D L C := by
  intro a w hf hs
  have hst : ∃ x, Fr E.n D (Li x) a ∧ St E.S E.w0 (Ci x) w := ⟨x0, hf.sub h0, hC w hs⟩
  clear hf hs
  have key : ∀ (m : Nat) (a : Act) (w : World), (∃ x, μ x = m ∧ Fr E.n D (Li x) a ∧ St E.S E.w0 (Ci x) w) → (Code.loop c).wpIn (Fw E.r) 0 E.P Q a w := by
    intro m a w hx
    refine wpIn_loop (fun a w => ∃ x, Fr E.n D (Li x) a ∧ St E.S E.w0 (Ci x) w) (fun a w => leastOf fun k => ∃ x, μ x = k ∧ Fr E.n D (Li x) a ∧ St E.S E.w0 (Ci x) w) (by obtain ⟨x, _, h⟩ := hx; exact ⟨x, h⟩) ?_
    intro a w hx
    have hex : ∃ k, ∃ x, μ x = k ∧ Fr E.n D (Li x) a ∧ St E.S E.w0 (Ci x) w := by obtain ⟨x, h⟩ := hx; exact ⟨_, x, rfl, h⟩
    obtain ⟨x, hxm, hxf, hxs⟩ := (leastOf_spec hex).1
    refine round x _ ?_ a w hxf hxs
    intro y D' L' C' hD hlt hsub hcc a' w' hf' hs'
    subst hD
    refine ⟨⟨y, hf'.sub hsub, hcc _ hs'⟩, ?_⟩
    rw [← hxm]
    exact Nat.lt_of_le_of_lt ((leastOf_spec ⟨_, y, rfl, hf'.sub hsub, hcc _ hs'⟩).2 _ ⟨y, rfl, hf'.sub hsub, hcc _ hs'⟩) hlt
  obtain ⟨x, h⟩ := hst
  exact key _ a w ⟨x, rfl, h⟩
end Go.Proofs.Ytaehngpnlkokkaa
