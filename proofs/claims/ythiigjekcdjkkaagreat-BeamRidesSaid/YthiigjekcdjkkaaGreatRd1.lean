/-
 The statement beamRides_said, part 1 of 6: Core, Step, Ops, Mem, Call, Fun, Own, Aux, Range, More, Draw, Open, Types, Map, Trk, Tab, DrawN, Pure, Fm, It.
 Conditions: none.
-/
import Derived.WalkKit
import Derived.RangeFuncLeaves
import Derived.RangeFuncRecord
import Derived.OrdersIn
import Derived.Deep.LoopGhost
import Derived.Maps.AppendAt
import Derived.RangeFuncNested
import Derived.Scope
import Derived.LoopNIn
import Derived.ProofKit
import Derived.Deep.Slices
import Derived.Below
import Derived.ChangeSame
import Derived.Maps.RangeRun
import Derived.Test.YthiigjekcdjkkaaGreatProg
import Derived.KernelRfl
import Derived.Laws.OwnMore
namespace Go.Proofs.YthiigjekcdjkkaaGreat
section
open Go.RowKit
set_option linter.unusedVariables false
abbrev Fw (r:Option Nat):Fence:={fn:=fun _=>True,depth:=none,alive:=false,round:=r}
theorem nO {P:Program} {f:FuncId} {args:Array Value} {w:World} {R:Ending→World→Prop} (r:Option Nat) (h:Calls P f args w R):CallsIn (Fw r) 0 P f args w R:=
 (callsIn_wide (n:=0)).2 h
theorem q9 {P:Program} {f:FuncId} {args:Array Value} {w:World} {R:Ending→World→Prop} (h:CallsIn (Fw none) 0 P f args w R):Calls P f args w R:=
 (callsIn_wide (n:=0)).1 h
structure Fr (n:Nat) (D:List Deferred) (L:List (Nat×Value)) (a:Act):Prop where
 defers:a.defers=D
 size:a.tmps.size=n
 at_: ∀ t v,L.lookup t=some v→a.tmps[t]? =some v
def ev (L:List (Nat×Value)):Operand→Option Value
 | .tmp t=>L.lookup t
 | .const v=>some v
 | .global g=>some (.pointer (some ⟨g,0,none⟩))
 | .func f=>some (.func (.func f) #[] #[])
theorem Fr.ev {n:Nat} {D:List Deferred} {L:List (Nat×Value)} {a:Act} (h:Fr n D L a) {x:Operand} {v:Value} (hx:ev L x=some v):a.eval x=v:=by
 cases x with
 |tmp t=>have:=h.at_ t v hx; simp [Act.eval,this]
 |const u=>simpa [Go.Proofs.YthiigjekcdjkkaaGreat.ev,Act.eval] using hx
 |global g=>simpa [Go.Proofs.YthiigjekcdjkkaaGreat.ev,Act.eval] using hx
 |func f=>simpa [Go.Proofs.YthiigjekcdjkkaaGreat.ev,Act.eval] using hx
theorem Fr.put {n:Nat} {D:List Deferred} {L:List (Nat×Value)} {a:Act} (h:Fr n D L a) {d:Nat} (hd:d<n) (v:Value):Fr n D ((d,v)::L) (a.put (some d) v):=by
 refine ⟨h.defers,by simp [Act.put,h.size],fun t u hu=>?_⟩
 simp only [Act.put]
 by_cases e:t=d
 ·subst e
  simp only [List.lookup,beq_self_eq_true] at hu
  rw [Array.getElem?_setIfInBounds_self_of_lt (by rw [h.size]; exact hd)]; exact hu
 ·have:(t==d)=false:=by simpa using e
  simp only [List.lookup,this] at hu
  rw [Array.getElem?_setIfInBounds_ne (fun x=>e x.symm)]
  exact h.at_ t u hu
/-- fewer slots are known -/
def an (L L':List (Nat×Value)):Prop:= ∀ t v,L'.lookup t=some v→L.lookup t=some v
theorem an.nil (L:List (Nat×Value)):an L []:=fun _ _ h=>by simp [List.lookup] at h
theorem an.cons {L L':List (Nat×Value)} {t:Nat} {v:Value} (h:L.lookup t=some v) (k:an L L'):an L ((t,v)::L'):=fun s u hu=>by
 by_cases e:s=t
 ·subst e; simp only [List.lookup,beq_self_eq_true] at hu; exact h.trans hu
 ·have:(s==t)=false:=by simpa using e
  simp only [List.lookup,this] at hu; exact k s u hu
theorem Fr.sub {n:Nat} {D:List Deferred} {L L':List (Nat×Value)} {a:Act} (h:Fr n D L a) (k:an L L'):Fr n D L' a:=
 ⟨h.defers,h.size,fun t v hv=>h.at_ t v (k t v hv)⟩
structure aA where
 ej:Nat→Prop
 /-- what of it may be written -/
 wf:Nat→Prop
 holds:World→Prop
 /-- all of it may be written -/
 wr:Bool
 i_: ∀ b,wf b→ej b
 whole:wr=true→ ∀ b,ej b→wf b
 lt: ∀ w,holds w→ ∀ b,ej b→b<w.heap.size
 j2: ∀ w w':World,(∀ b,ej b→w'.heap[b]? =w.heap[b]?)→holds w→holds w'
def wO (A B:aA):Prop:= ∀ b,A.ej b→B.ej b→ ¬ A.wf b∧ ¬ B.wf b
abbrev NS:=Nat→Prop
def no:NS:=fun _=>False
def only (b:Nat):NS:=fun k=>k=b
/-- what may be written, and what may be read, of the blocks that were there -/
structure BS where
 w:NS
 r:NS
def ue:BS:=⟨no,fun _=>True⟩
theorem wO.symm {A B:aA} (h:wO A B):wO B A:=fun b hb ha=>(h b ha hb).symm
/-- all but the blocks of S is as it was; nothing of the streams has turned -/
structure dj (S:NS) (w w':World):Prop where
 os:w'.os=w.os
 tape:w'.tape=w.tape
 output:w'.output=w.output
 size:w.heap.size≤w'.heap.size
 block: ∀ k,k<w.heap.size→ ¬ S k→w'.heap[k]? =w.heap[k]?
theorem dj.refl (S:NS) (w:World):dj S w w:=⟨rfl,rfl,rfl,Nat.le_refl _,fun _ _ _=>rfl⟩
theorem dj.trans {S:NS} {a b c:World} (h:dj S a b) (k:dj S b c):dj S a c:=
 ⟨k.os.trans h.os,k.tape.trans h.tape,k.output.trans h.output,Nat.le_trans h.size k.size,fun i hi hs=>(k.block i (Nat.lt_of_lt_of_le hi h.size) hs).trans (h.block i hi hs)⟩
theorem dj.mono {S S':NS} {a b:World} (h:dj S a b) (hs: ∀ k,S k→S' k):dj S' a b:=
 ⟨h.os,h.tape,h.output,h.size,fun i hi hn=>h.block i hi (fun hm=>hn (hs i hm))⟩
theorem dj.below {w w':World} (h:dj no w w'):Below w.heap.size w w':=⟨h.os,h.tape,h.output,h.size,fun k hk=>h.block k hk (fun h=>h)⟩
theorem dj.drew (S:NS) (w:World):dj S w w.drew:=⟨rfl,rfl,rfl,Nat.le_refl _,fun _ _ _=>rfl⟩
theorem dj.alloc (S:NS) (w:World) (o:Obj):dj S w (w.alloc o):=⟨rfl,rfl,rfl,by simp,fun k hk _=>Below.heap_alloc w o k hk⟩
/-- the state: what holds of memory, each thing by itself -/
structure St (S:BS) (w0:World) (C:List aA) (w:World):Prop where
 keeps:dj S.w w0 w
 holds: ∀ A∈C,A.holds w
 sep:C.Pairwise wO
 own: ∀ A∈C,∀ b,A.wf b→w0.heap.size≤b∨S.w b
 seen: ∀ A∈C,∀ b,A.ej b→w0.heap.size≤b∨S.r b
/-- C' is a part of C, in whatever order, each thing once -/
theorem St.sub {S:BS} {w0 w:World} {C C':List aA} (h:St S w0 C w) (hs:C'.Pairwise wO) (hm: ∀ A∈C',A∈C):St S w0 C' w:=
 ⟨h.keeps,fun A hA=>h.holds A (hm A hA),hs,fun A hA=>h.own A (hm A hA),fun A hA=>h.seen A (hm A hA)⟩
theorem St.take {S:BS} {w0 w:World} {C C':List aA} (h:St S w0 C w) (hs:C'.Sublist C):St S w0 C' w:=
 h.sub (h.sep.sublist hs) (fun _ hA=>hs.subset hA)
theorem St.perm {S:BS} {w0 w:World} {C C':List aA} (h:St S w0 C w) (hs:C.Perm C'):St S w0 C' w:=
 h.sub (hs.pairwise h.sep (fun k=>wO.symm k)) (fun _ hA=>hs.mem_iff.2 hA)
/-- what is new -/
structure Cs (w w':World) (N:List aA):Prop where
 holds: ∀ A∈N,A.holds w'
 fresh: ∀ A∈N,∀ b,A.ej b→w.heap.size≤b
 sep:N.Pairwise wO
theorem Cs.nil (w w':World):Cs w w' []:=⟨by simp,by simp,List.Pairwise.nil⟩
theorem St.grow {S:BS} {w0 w w':World} {C N:List aA} (h:St S w0 C w) (k:dj no w w') (n:Cs w w' N):St S w0 (N++C) w':=by
 refine ⟨h.keeps.trans (k.mono (fun _ h=>h.elim)),fun A hA=>?_,?_,fun A hA b hb=>?_,fun A hA b hb=>?_⟩
 ·rcases List.mem_append.1 hA with hA|hA
  ·exact n.holds A hA
  ·exact A.j2 w w' (fun b hb=>k.block b (A.lt w (h.holds A hA) b hb) (fun h=>h)) (h.holds A hA)
 ·rw [List.pairwise_append]
  refine ⟨n.sep,h.sep,fun A hA B hB b ha hb=>?_⟩
  have h1:=n.fresh A hA b ha
  have h2:=B.lt w (h.holds B hB) b hb
  omega
 ·rcases List.mem_append.1 hA with hA|hA
  ·exact .inl (Nat.le_trans h.keeps.size (n.fresh A hA b (A.i_ b hb)))
  ·exact h.own A hA b hb
 ·rcases List.mem_append.1 hA with hA|hA
  ·exact .inl (Nat.le_trans h.keeps.size (n.fresh A hA b hb))
  ·exact h.seen A hA b hb
theorem St.same {S:BS} {w0 w w':World} {C:List aA} (h:St S w0 C w) (k:dj no w w'):St S w0 C w':=by
 simpa using h.grow k (Cs.nil w w')
structure eI where
 P:Program
 r:Option Nat
 n:Nat
 S:BS
 w0:World
abbrev dh:=Exit→Act→World→Prop
/-- code, from a frame and a state -/
def WJ (E:eI) (c:Code) (Q:dh) (D:List Deferred) (L:List (Nat×Value)) (C:List aA):Prop:=
 ∀ a w,Fr E.n D L a→St E.S E.w0 C w→c.wpIn (Fw E.r) 0 E.P Q a w
/-- a thing that is asked of what follows -/
def KJ (E:eI) (K:Act→World→Prop) (D:List Deferred) (L:List (Nat×Value)) (C:List aA):Prop:=
 ∀ a w,Fr E.n D L a→St E.S E.w0 C w→K a w
def pc (r:Option Nat) (P:Program) (ops:Array Oper) (Q:dh):List Oper→Act→World→Prop
 |[],a,w=>Q .normal a w
 |o::rest,a,w=>if Region.wanted o (yielded ops a.tmps) then o.wpIn (Fw r) 0 P a w (pc r P ops Q rest) Q else pc r P ops Q rest (a.put o.dst undef) w
def RJ (E:eI) (ops:Array Oper) (Q:dh) (rest:List Oper) (D:List Deferred) (L:List (Nat×Value)) (C:List aA):Prop:=
 ∀ a w,Fr E.n D L a→St E.S E.w0 C w→pc E.r E.P ops Q rest a w
theorem vu {F:Fence} {n:Nat} {P:Program} {o:Oper} {a:Act} {N N':Act→World→Prop} {Q Q':dh} (hn: ∀ a w,N a w→N' a w) (hq: ∀ e a w,Q e a w→Q' e a w):
 ∀ {res:Result Next},o.uponIn F n P a N Q res→o.uponIn F n P a N' Q' res:=by
 intro res h
 cases res with
 |halt x w=>cases x<;>simp only [Oper.uponIn] at h ⊢ <;>first|exact hq _ _ _ h|exact h
 |ok x w=>
  cases x with
  |value v=>exact hn _ _ h
  |skip=>exact hn _ _ h
  |defer d=>exact hn _ _ h
  |enter f args=>
   refine ⟨h.1,h.2.mono fun e w'' he=>?_⟩
   cases e with
   |returned v=>exact hn _ _ he
   |panicked ch=>exact hq _ _ _ he
   |outgrown=>obtain ⟨a0,w0,h0⟩:=he; exact ⟨a0,w0,hq _ _ _ h0⟩
  |row x args=>exact ⟨h.1,h.2.mono fun v w'' he=>hn _ _ he⟩
  |round l f tmps asl bd=>
   refine ⟨h.1,h.2.mono fun e w'' he=>?_⟩
   cases e with
   |returned v=>exact hn _ _ he
   |panicked ch=>exact hq _ _ _ he
   |outgrown=>obtain ⟨a0,w0,h0⟩:=he; exact ⟨a0,w0,hq _ _ _ h0⟩
  |_=>simp [Oper.uponIn] at h
theorem kK {F:Fence} {n:Nat} {P:Program} {o:Oper} {a:Act} {w:World} {N N':Act→World→Prop} {Q Q':dh} (h:o.wpIn F n P a w N Q) (hn: ∀ a w,N a w→N' a w) (hq: ∀ e a w,Q e a w→Q' e a w):o.wpIn F n P a w N' Q':=
 ⟨h.1,vu hn hq h.2⟩
theorem wV {r:Option Nat} {P:Program} {ops:Array Oper} {Q:dh} (l:List Oper): ∀ (k:Nat) (a:Act) (w:World),(∀ j,l[j]? =ops[k+j]?)→pc r P ops Q l a w→wpOpsIn (Fw r) 0 P ops Q (List.range' k l.length) a w:=by
 induction l with
 |nil=>intro k a w _ h; simpa [wpOpsIn,pc] using h
 |cons o l ih=>
  intro k a w hl h
  have h0:ops[k]? =some o:=by simpa using (hl 0).symm
  have hl': ∀ j,l[j]? =ops[k+1+j]? :=fun j=>by have:=hl (j+1); simpa [Nat.add_assoc,Nat.add_comm 1 j] using this
  simp only [List.length_cons,List.range'_succ,wpOpsIn,h0]
  simp only [pc] at h
  split at h
  ·rename_i hw
   rw [if_pos hw]
   exact kK h (fun a w=>ih _ a w hl') (fun _ _ _ h=>h)
  ·rename_i hw
   rw [if_neg hw]
   exact ⟨fun _ _=>trivial,ih _ _ _ hl' h⟩
theorem ar {E:eI} {id:Nat} {ops:Array Oper} {Q:dh} {D:List Deferred} {L:List (Nat×Value)} {C:List aA} (h:RJ E ops Q ops.toList D L C):WJ E (.region id ops false) Q D L C:=by
 intro a w hf hs
 refine wpIn_region ?_
 have:=wV (r:=E.r) (P:=E.P) (Q:=Q) ops.toList 0 a w (by simp) (h a w hf hs)
 rwa [List.range_eq_range',← Array.length_toList]
theorem aP {E:eI} {ops:Array Oper} {Q:dh} {D:List Deferred} {L:List (Nat×Value)} {C:List aA} (h:KJ E (Q .normal) D L C):RJ E ops Q [] D L C:=h
theorem aq {E:eI} {x y:Code} {Q:dh} {D:List Deferred} {L:List (Nat×Value)} {C:List aA}
 (h: ∀ K:Act→World→Prop,(∀ D L C,WJ E y Q D L C→KJ E K D L C)→WJ E x (Exit.then K Q) D L C):WJ E (.seq x y) Q D L C:=
 fun a w hf hs=>wpIn_seq (h _ (fun _ _ _ hy a w hf hs=>hy a w hf hs) a w hf hs)
theorem aO {E:eI} {K:Act→World→Prop} {Q:dh} {D:List Deferred} {L:List (Nat×Value)} {C:List aA} (h:KJ E K D L C):KJ E (Exit.then K Q .normal) D L C:=h
theorem aK {E:eI} {id:Nat} {Q:dh} {D:List Deferred} {L:List (Nat×Value)} {C:List aA} (h:KJ E (Q .normal) D L C):KJ E (Exit.inBlock id Q .normal) D L C:=h
theorem ai {E:eI} {id:Nat} {K:Act→World→Prop} {Q:dh} {D:List Deferred} {L:List (Nat×Value)} {C:List aA} (h:KJ E (Q (.exit id)) D L C):KJ E (Exit.then K Q (.exit id)) D L C:=h
theorem aH {E:eI} {id:Nat} {Q:dh} {D:List Deferred} {L:List (Nat×Value)} {C:List aA} (h:KJ E (Q .normal) D L C):KJ E (Exit.inBlock id Q (.exit id)) D L C:=fun a w hf hs=>by
 simp only [Exit.inBlock,if_true]; exact h a w hf hs
theorem gG {E:eI} {id id':Nat} {Q:dh} {D:List Deferred} {L:List (Nat×Value)} {C:List aA} (hne:Nat.beq id' id=false) (h:KJ E (Q (.exit id')) D L C):KJ E (Exit.inBlock id Q (.exit id')) D L C:=fun a w hf hs=>by
 have:id'≠id:=fun e=>by subst e; simp at hne
 simp only [Exit.inBlock,this,if_false]; exact h a w hf hs
theorem cM {E:eI} {Q:dh} {D:List Deferred} {L:List (Nat×Value)} {C:List aA} (h:KJ E (Q .normal) D L C):WJ E .skip Q D L C:=fun a w hf hs=>wpIn_skip (h a w hf hs)
theorem aE {E:eI} {Q:dh} {D:List Deferred} {L:List (Nat×Value)} {C:List aA} (h:KJ E (Q .ret) D L C):WJ E .ret Q D L C:=fun a w hf hs=>wpIn_ret (h a w hf hs)
theorem bE {E:eI} {id:Nat} {Q:dh} {D:List Deferred} {L:List (Nat×Value)} {C:List aA} (h:KJ E (Q (.exit id)) D L C):WJ E (.exit id) Q D L C:=fun a w hf hs=>wpIn_exit (h a w hf hs)
theorem aG {E:eI} {id:Nat} {c:Code} {Q:dh} {D:List Deferred} {L:List (Nat×Value)} {C:List aA} (h:WJ E c (Exit.inBlock id Q) D L C):WJ E (.block id c) Q D L C:=fun a w hf hs=>wpIn_block (h a w hf hs)
theorem bj {E:eI} {c:Operand} {x y:Code} {b:Bool} {Q:dh} {D:List Deferred} {L:List (Nat×Value)} {C:List aA} (hc:ev L c=some (.bool b))
 (h1:b=true→WJ E x Q D L C) (h2:b=false→WJ E y Q D L C):WJ E (.cond c x y) Q D L C:=by
 intro a w hf hs
 refine wpIn_cond_split (hf.ev hc) (fun hb=>h1 hb a w hf hs) (fun hb=>h2 hb a w hf hs)
theorem aX {E:eI} {c:Operand} {x y:Code} {Q:dh} {D:List Deferred} {L:List (Nat×Value)} {C:List aA} (hc:ev L c=some (.bool true)) (h1:WJ E x Q D L C):WJ E (.cond c x y) Q D L C:=
 bj hc (fun _=>h1) (fun h=>by cases h)
theorem bV {E:eI} {c:Operand} {x y:Code} {Q:dh} {D:List Deferred} {L:List (Nat×Value)} {C:List aA} (hc:ev L c=some (.bool false)) (h1:WJ E y Q D L C):WJ E (.cond c x y) Q D L C:=
 bj hc (fun h=>by cases h) (fun _=>h1)
theorem e7 {E:eI} {K:Act→World→Prop} {D:List Deferred} {L L':List (Nat×Value)} {C C':List aA} (hL:an L L') (hC: ∀ w,St E.S E.w0 C w→St E.S E.w0 C' w) (h:KJ E K D L' C'):KJ E K D L C:=
 fun a w hf hs=>h a w (hf.sub hL) (hC w hs)
/-- A loop: a relation over a ghost of whatever type, a measure on it. -/
theorem cq {E:eI} {c:Code} {Q:dh} {D:List Deferred} {L:List (Nat×Value)} {C:List aA} {ι:Type} (Li:ι→List (Nat×Value)) (Ci:ι→List aA) (μ:ι→Nat) (x0:ι)
 (h0:an L (Li x0)) (hC: ∀ w,St E.S E.w0 C w→St E.S E.w0 (Ci x0) w)
 (round: ∀ x (J:Act→World→Prop),(∀ y D' L' C',D'=D→μ y<μ x→an L' (Li y)→(∀ w,St E.S E.w0 C' w→St E.S E.w0 (Ci y) w)→KJ E J D' L' C')→WJ E c (Exit.then J Q) D (Li x) (Ci x)):WJ E (.loop c) Q D L C:=by
 intro a w hf hs
 have hst: ∃ x,Fr E.n D (Li x) a∧St E.S E.w0 (Ci x) w:=⟨x0,hf.sub h0,hC w hs⟩
 clear hf hs
 have key: ∀ (m:Nat) (a:Act) (w:World),(∃ x,μ x=m∧Fr E.n D (Li x) a∧St E.S E.w0 (Ci x) w)→(Code.loop c).wpIn (Fw E.r) 0 E.P Q a w:=by
  intro m a w hx
  refine wpIn_loop (fun a w=> ∃ x,Fr E.n D (Li x) a∧St E.S E.w0 (Ci x) w) (fun a w=>leastOf fun k=> ∃ x,μ x=k∧Fr E.n D (Li x) a∧St E.S E.w0 (Ci x) w) (by obtain ⟨x,_,h⟩:=hx; exact ⟨x,h⟩) ?_
  intro a w hx
  have hex: ∃ k,∃ x,μ x=k∧Fr E.n D (Li x) a∧St E.S E.w0 (Ci x) w:=by obtain ⟨x,h⟩:=hx; exact ⟨_,x,rfl,h⟩
  obtain ⟨x,hxm,hxf,hxs⟩:=(leastOf_spec hex).1
  refine round x _ ?_ a w hxf hxs
  intro y D' L' C' hD hlt hsub hcc a' w' hf' hs'
  subst hD
  refine ⟨⟨y,hf'.sub hsub,hcc _ hs'⟩,?_⟩
  rw [← hxm]
  exact Nat.lt_of_le_of_lt ((leastOf_spec ⟨_,y,rfl,hf'.sub hsub,hcc _ hs'⟩).2 _ ⟨y,rfl,hf'.sub hsub,hcc _ hs'⟩) hlt
 obtain ⟨x,h⟩:=hst
 exact key _ a w ⟨x,rfl,h⟩
end
section
open Go.RowKit
set_option linter.unusedVariables false
/-- An operation that yields v, whatever else holds; the state stays. -/
def SD (E:eI) (ops:Array Oper) (o:Oper) (D:List Deferred) (L:List (Nat×Value)) (C:List aA) (v:Value):Prop:=
 ∀ a w,Fr E.n D L a→St E.S E.w0 C w→
  (Region.wanted o (yielded ops a.tmps)=true∧o.wpIn (Fw E.r) 0 E.P a w (fun a' w'=>a'=a.put o.dst v∧dj no w w') (fun _ _ _=>False))∨
  (Region.wanted o (yielded ops a.tmps)=false∧v=undef)
/-- in the text's order -/
theorem H5 {E:eI} {ops:Array Oper} {Q:dh} {o:Oper} {rest:List Oper} {D:List Deferred} {L:List (Nat×Value)} {C:List aA} {v:Value} {d:Nat}
 (h:SD E ops o D L C v) (ho:o.dst=some d) (hd:Nat.blt d E.n=true) (k:RJ E ops Q rest D ((d,v)::L) C):RJ E ops Q (o::rest) D L C:=by
 intro a w hf hs
 have hd':d<E.n:=by rw [← Nat.blt_eq]; exact hd
 unfold pc
 rcases h a w hf hs with ⟨hw,hh⟩|⟨hw,rfl⟩
 ·rw [if_pos hw]
  refine kK hh (fun a' w' ⟨ha,hs'⟩=>?_) (fun _ _ _ hF=>hF.elim)
  subst ha
  rw [ho]
  exact k _ _ (hf.put hd' v) (hs.same hs')
 ·rw [if_neg (by simp [hw]),ho]
  exact k _ _ (hf.put hd' _) hs
/-- the operations in the text's order, each with what it yields -/
def DJ (E:eI) (ops:Array Oper) (D:List Deferred) (C:List aA) (F:List (Nat×Value)→Prop):List Oper→List (Nat×Value)→Prop
 |[],L=>F L
 |o::rest,L=> ∃ d v,o.dst=some d∧d<E.n∧SD E ops o D L C v∧DJ E ops D C F rest ((d,v)::L)
theorem IV {E:eI} {ops:Array Oper} {F:List (Nat×Value)→Prop} {o:Oper} {rest:List Oper} {D:List Deferred} {L:List (Nat×Value)} {C:List aA} {v:Value} {d:Nat}
 (h:SD E ops o D L C v) (ho:o.dst=some d) (hd:Nat.blt d E.n=true) (k:DJ E ops D C F rest ((d,v)::L)):DJ E ops D C F (o::rest) L:=
 ⟨d,v,ho,by rw [← Nat.blt_eq]; exact hd,h,k⟩
/-- a set of numbers that is closed downwards -/
def qv (ops:Array Oper) (S:Nat→Prop) (j:Nat):Prop:= ∀ o e,ops[j]? =some o→e∈o.after→Region.binds .any e=true→S e.on
/-- who stands before an operation, by the edges: a set of numbers as the bits of one -/
def GS (o:Oper) (acc:Array Nat):Nat:=o.after.toList.foldl (fun s e=>if Region.binds .any e then s ||| (2^e.on ||| acc.getD e.on 0) else s) 0
def Ey:List Oper→Array Nat→Array Nat
 |[],acc=>acc
 |o::os,acc=>Ey os (acc.push (GS o acc))
def nx (ops:Array Oper):Array Nat:=Ey ops.toList #[]
def gz (m:Array Nat) (j i:Nat):Bool:=(m.getD i 0).testBit j
theorem Ak (acc:Array Nat) (j:Nat): ∀ (es:List Edge) (s:Nat),(es.foldl (fun s e=>if Region.binds .any e then s ||| (2^e.on ||| acc.getD e.on 0) else s) s).testBit j=true→
 s.testBit j=true∨ ∃ e∈es,Region.binds .any e=true∧(e.on=j∨(acc.getD e.on 0).testBit j=true):=by
 intro es
 induction es with
 |nil=>intro s h; exact .inl h
 |cons e es ih=>
  intro s h
  simp only [List.foldl_cons] at h
  rcases ih _ h with h1|⟨e',he',hb,hc⟩
  ·by_cases hb:Region.binds .any e=true
   ·rw [if_pos hb] at h1
    simp only [Nat.testBit_or,Bool.or_eq_true] at h1
    rcases h1 with h1|h1|h1
    ·exact .inl h1
    ·refine .inr ⟨e,by simp,hb,.inl ?_⟩
     rw [Nat.testBit_two_pow] at h1
     exact of_decide_eq_true h1
    ·exact .inr ⟨e,by simp,hb,.inr h1⟩
   ·rw [if_neg hb] at h1; exact .inl h1
  ·exact .inr ⟨e',by simp [he'],hb,hc⟩
theorem wB {ops:Array Oper} {S:Nat→Prop} (hS: ∀ j,S j→qv ops S j): ∀ (os:List Oper) (acc:Array Nat),(∀ k,os[k]? =ops[acc.size+k]?)→
 (∀ i j,(acc.getD i 0).testBit j=true→qv ops S i→S j)→ ∀ i j,((Ey os acc).getD i 0).testBit j=true→qv ops S i→S j:=by
 intro os
 induction os with
 |nil=>intro acc _ h; exact h
 |cons o os ih=>
  intro acc hk h
  refine ih _ (fun k=>by have:=hk (k+1); simp only [Array.size_push]; rw [show acc.size+1+k=acc.size+(k+1) from by omega]; simpa using this) ?_
  intro i j hb hd
  have h0:ops[acc.size]? =some o:=by simpa using (hk 0).symm
  simp only [Array.getD_eq_getD_getElem?,Array.getElem?_push] at hb
  by_cases e:i=acc.size
  ·subst e
   simp only [if_true,Option.getD_some] at hb
   rcases Ak acc j _ _ hb with h1|⟨e,he,hbind,h1⟩
   ·simp at h1
   ·have hSe:S e.on:=hd o e h0 (by simpa using he) hbind
    rcases h1 with h1|h1
    ·exact h1▸hSe
    ·exact h _ _ h1 (hS _ hSe)
  ·rw [if_neg e] at hb
   exact h i j (by rw [Array.getD_eq_getD_getElem?]; exact hb) hd
theorem g6 {ops:Array Oper} {S:Nat→Prop} (hS: ∀ j,S j→qv ops S j) {i j:Nat} (h:gz (nx ops) j i=true) (hd:qv ops S i):S j:=
 wB hS ops.toList #[] (by simp) (fun i j hb=>by simp at hb) i j h hd
/-- what is asked of a region's first n operations: each writes a slot of its own; whoever writes a slot that another looks at stands before it or behind it by the edges; the rest waits for all that stands before it -/
def G1 (m:Array Nat) (ops:Array Oper) (n:Nat):Bool:=
 Nat.ble n ops.size&&
 ((List.range ops.size).all fun i=>match ops[i]? with
  |none=>false
  |some o=>o.after.toList.all fun e=> !Region.binds .any e||Nat.blt e.on i)&&
 ((List.range n).all fun i=>match ops[i]? with
  |none=>false
  |some o=>o.dst.isSome&& !(match o.op with | .select .. =>true| .defer _=>true|_=>false)&&
   (List.range n).all fun j=>j==i||match ops[j]? with
    |none=>false
    |some p=>match p.dst with
     |none=>false
     |some d=>o.dst != some d&&(!(o.looksAt ops).contains d||(if j<i then gz m j i else gz m i j)))&&
 ((List.range' n (ops.size-n)).all fun i=>(List.range i).all fun j=>gz m j i)
def HS (ops:Array Oper) (n:Nat):Bool:=G1 (nx ops) ops n
structure Ha (ops:Array Oper) (n:Nat):Prop where
 le:n≤ops.size
 vy: ∀ i o e,ops[i]? =some o→e∈o.after→Region.binds .any e=true→e.on<i
 plain: ∀ i o,i<n→ops[i]? =some o→(∀ cs b,o.op≠ .select cs b)∧(∀ c,o.op≠ .defer c)
 apart: ∀ i j o p d,i<n→j<n→j≠i→ops[i]? =some o→ops[j]? =some p→p.dst=some d→o.dst≠some d∧(d∈o.looksAt ops→(j<i∧gz (nx ops) j i=true)∨(i<j∧gz (nx ops) i j=true))
 tail: ∀ i j,n≤i→i<ops.size→j<i→gz (nx ops) j i=true
theorem Ha.of {ops:Array Oper} {n:Nat} (h:HS ops n=true):Ha ops n:=by
 simp only [HS,G1,Bool.and_eq_true] at h
 obtain ⟨⟨⟨h1,h2⟩,h3⟩,h4⟩:=h
 have hle:n≤ops.size:=Nat.le_of_ble_eq_true h1
 rw [List.all_eq_true] at h2 h3 h4
 refine ⟨hle,?_,?_,?_,?_⟩
 ·intro i o e ho he hb
  have hi:i<ops.size:=(Array.getElem?_eq_some_iff.1 ho).1
  have:=h2 i (by simpa using hi)
  simp only [ho] at this
  rw [List.all_eq_true] at this
  have:=this e (by simpa using he)
  rw [hb] at this
  simpa using this
 ·intro i o hi ho
  have:=h3 i (by simpa using hi)
  simp only [ho,Bool.and_eq_true] at this
  refine ⟨fun cs b hh=>?_,fun c hh=>?_⟩<;>simp [hh] at this
 ·intro i j o p d hi hj hne ho hp hd
  have:=h3 i (by simpa using hi)
  simp only [ho,Bool.and_eq_true] at this
  have:=this.2
  rw [List.all_eq_true] at this
  have:=this j (by simpa using hj)
  simp only [hp,hd,Bool.or_eq_true,Bool.and_eq_true,beq_iff_eq,bne_iff_ne,ne_eq] at this
  rcases this with h|⟨h5,h6⟩
  ·exact absurd h hne
  ·refine ⟨h5,fun hm=>?_⟩
   rcases h6 with h6|h6
   ·simp [hm] at h6
   ·by_cases hlt:j<i
    ·rw [if_pos hlt] at h6; exact .inl ⟨hlt,h6⟩
    ·rw [if_neg hlt] at h6; exact .inr ⟨by omega,h6⟩
 ·intro i j h5 h6 h7
  have:=h4 i (by rw [List.mem_range'_1]; omega)
  rw [List.all_eq_true] at this
  exact this j (by simpa using h7)
/-- the frame, the activation behind the first i operations -/
def ve:List Oper→List Value→Nat→List (Nat×Value)→List (Nat×Value)
 |o::os,v::vs,i+1,L=>ve os vs i (match o.dst with |some d=>(d,v)::L|none=>L)
 |_,_,_,L=>L
def jR:List Oper→List Value→Nat→Act→Act
 |o::os,v::vs,i+1,a=>jR os vs i (a.put o.dst v)
 |_,_,_,a=>a
theorem DJ.out {E:eI} {ops:Array Oper} {D:List Deferred} {C:List aA} {F:List (Nat×Value)→Prop}: ∀ (os:List Oper) (L:List (Nat×Value)),DJ E ops D C F os L→
 ∃ vs:List Value,vs.length=os.length∧F (ve os vs os.length L)∧ ∀ i o,os[i]? =some o→ ∃ d v,o.dst=some d∧d<E.n∧vs[i]? =some v∧SD E ops o D (ve os vs i L) C v:=by
 intro os
 induction os with
 |nil=>intro L h; exact ⟨[],rfl,h,fun i o ho=>by simp at ho⟩
 |cons o os ih=>
  intro L h
  obtain ⟨d,v,ho,hd,hsd,hk⟩:=h
  obtain ⟨vs,hl,hF,hall⟩:=ih _ hk
  refine ⟨v::vs,by simp [hl],by simpa [ve,ho] using hF,fun i o' ho'=>?_⟩
  cases i with
  |zero=>simp at ho'; subst ho'; exact ⟨d,v,ho,hd,by simp,by simpa [ve] using hsd⟩
  |succ i=>
   obtain ⟨d',v',h1,h2,h3,h4⟩:=hall i o' (by simpa using ho')
   exact ⟨d',v',h1,h2,by simpa using h3,by simpa [ve,ho] using h4⟩
theorem jO {n:Nat} {D:List Deferred}: ∀ (os:List Oper) (vs:List Value) (i:Nat) (L:List (Nat×Value)) (a:Act),(∀ (j:Nat) (o:Oper) (d:Nat),os[j]? =some o→o.dst=some d→d<n)→Fr n D L a→Fr n D (ve os vs i L) (jR os vs i a):=by
 intro os
 induction os with
 |nil=>intro vs i L a _ h; simpa [ve,jR] using h
 |cons o os ih=>
  intro vs i L a hd h
  cases vs with
  |nil=>simpa [ve,jR] using h
  |cons v vs=>
   cases i with
   |zero=>simpa [ve,jR] using h
   |succ i=>
    simp only [ve,jR]
    refine ih vs i _ _ (fun j o' d ho' hd'=>hd (j+1) o' d (by simpa using ho') hd') ?_
    cases ho:o.dst with
    |none=>exact h
    |some d=>exact h.put (hd 0 o d (by simp) ho) v
theorem ep: ∀ (os:List Oper) (vs:List Value) (i:Nat) (a:Act) (t:Nat),(∀ (j:Nat) (o:Oper),j<i→os[j]? =some o→o.dst≠some t)→(jR os vs i a).tmps[t]? =a.tmps[t]? :=by
 intro os
 induction os with
 |nil=>intro vs i a t _; simp [jR]
 |cons o os ih=>
  intro vs i a t h
  cases vs with
  |nil=>simp [jR]
  |cons v vs=>
   cases i with
   |zero=>simp [jR]
   |succ i=>
    simp only [jR]
    rw [ih vs i _ t (fun j o' hj ho'=>h (j+1) o' (by omega) (by simpa using ho'))]
    have h0:=h 0 o (by omega) (by simp)
    cases ho:o.dst with
    |none=>rfl
    |some d=>simp only [Act.put]; rw [Array.getElem?_setIfInBounds_ne (fun e=>h0 (by rw [ho,e]))]
theorem jQ: ∀ (os:List Oper) (vs:List Value) (i:Nat) (a:Act) (k:Nat) (p:Oper) (d:Nat) (v:Value),k<i→os[k]? =some p→p.dst=some d→d<a.tmps.size→vs[k]? =some v→
 (∀ (j:Nat) (o:Oper),j<i→j≠k→os[j]? =some o→o.dst≠some d)→(jR os vs i a).tmps[d]? =some v:=by
 intro os
 induction os with
 |nil=>intro vs i a k p d v _ hp; simp at hp
 |cons o os ih=>
  intro vs i a k p d v hk hp hpd hd hv h
  cases vs with
  |nil=>simp at hv
  |cons u vs=>
   cases i with
   |zero=>omega
   |succ i=>
    simp only [jR]
    cases k with
    |zero=>
     simp at hp hv
     subst hp hv
     rw [ep os vs i _ d (fun j o' hj ho'=>h (j+1) o' (by omega) (by omega) (by simpa using ho')),hpd]
     simp only [Act.put]
     rw [Array.getElem?_setIfInBounds_self_of_lt hd]
    |succ k=>
     refine ih vs i _ k p d v (by omega) (by simpa using hp) hpd ?_ (by simpa using hv) (fun j o' hj hne ho'=>h (j+1) o' (by omega) (by omega) (by simpa using ho'))
     cases o.dst<;>simp [Act.put,hd]
theorem uT {a a':Act} {t:Nat} (h:a.tmps[t]? =a'.tmps[t]?):a.eval (.tmp t)=a'.eval (.tmp t):=by simp [Act.eval,h]
theorem tu {ops:Array Oper} {o:Oper} {a a':Act} (h: ∀ t∈o.looksAt ops,a.tmps[t]? =a'.tmps[t]?): ∀ x∈o.op.operands,a.eval x=a'.eval x:=by
 intro x hx
 cases x with
 |tmp t=>exact uT (h t (List.mem_append_left _ (List.mem_filterMap.2 ⟨.tmp t,by simpa using hx,rfl⟩)))
 |_=>rfl
theorem pj {ops:Array Oper} {o:Oper} {a a':Act} (h: ∀ t∈o.looksAt ops,a.tmps[t]? =a'.tmps[t]?):Region.wanted o (yielded ops a.tmps)=Region.wanted o (yielded ops a'.tmps):=by
 unfold Region.wanted
 cases hg:o.guard with
 |none=>rfl
 |some gw=>
  obtain ⟨g,want⟩:=gw
  have hy:yielded ops a.tmps g=yielded ops a'.tmps g:=by
   unfold yielded
   cases ht:(ops[g]?).bind (·.dst) with
   |none=>rfl
   |some t=>simp only [Option.bind_some]; rw [h t (List.mem_append_right _ (by simp [hg,ht]))]
  simp only [hy]
/-- what an operation does hangs on the slots that it looks at alone -/
theorem pJ {E:eI} {ops:Array Oper} {o:Oper} {D:List Deferred} {L:List (Nat×Value)} {C:List aA} {v:Value} {d:Nat} (h:SD E ops o D L C v) (ho:o.dst=some d) (hd:d<E.n)
 (hsel: ∀ cs b,o.op≠ .select cs b) (hdef: ∀ c,o.op≠ .defer c) {a a':Act} (hf:Fr E.n D L a') (hl: ∀ t∈o.looksAt ops,a.tmps[t]? =a'.tmps[t]?) {w:World} (hs:St E.S E.w0 C w)
 {N:Act→World→Prop} {Q:dh} (hn: ∀ w',dj no w w'→N (a.put (some d) v) w'):
 if Region.wanted o (yielded ops a.tmps) then o.wpIn (Fw E.r) 0 E.P a w N Q else (∀ f,o.about E.P w a.eval=some f→(Fw E.r).fn f)∧N (a.put o.dst undef) w:=by
 rw [pj hl]
 rcases h a' w hf hs with ⟨hw,hh⟩|⟨hw,rfl⟩
 ·rw [if_pos hw]
  refine ⟨fun _ _=>trivial,?_⟩
  have h2:=hh.2
  rw [Oper.semAt_eq _ _ _ hdef] at h2 ⊢
  rw [execOp_congr (ρ:=a.eval) (ρ':=a'.eval) o hsel (tu hl)]
  have hval: ∀ u,a'.put o.dst u=a'.put o.dst v→u=v:=by
   intro u hu
   rw [ho] at hu
   have:=congrArg (fun b:Act=>b.tmps[d]?) hu
   simp only [Act.put] at this
   rw [Array.getElem?_setIfInBounds_self_of_lt (by rw [hf.size]; exact hd),Array.getElem?_setIfInBounds_self_of_lt (by rw [hf.size]; exact hd)] at this
   injection this
  have hgo: ∀ u w',(a'.put o.dst u=a'.put o.dst v∧dj no w w')→N (a.put o.dst u) w':=by
   rintro u w' ⟨hu,hs'⟩
   rw [hval u hu,ho]
   exact hn w' hs'
  generalize (execOp a'.eval o).run E.P w=res at h2
  cases res with
  |halt x w'=>cases x<;>simp [Oper.uponIn] at h2
  |ok x w'=>
   cases x with
   |value u=>exact hgo u w' h2
   |skip=>exact hgo _ w' h2
   |defer dd=>
    have h3:({a' with defers:=dd::a'.defers}:Act).put o.dst undef=a'.put o.dst v:=h2.1
    rw [ho] at h3
    have:=congrArg (fun b:Act=>b.defers.length) h3
    simp [Act.put] at this
   |enter f args=>
    refine ⟨h2.1,h2.2.mono fun e w'' he=>?_⟩
    cases e with
    |returned u=>exact hgo u w'' he
    |panicked ch=>exact he.elim
    |outgrown=>obtain ⟨_,_,hF⟩:=he; exact hF.elim
   |row x args=>exact ⟨h2.1,h2.2.mono fun u w'' he=>hgo u w'' he⟩
   |round l f tmps asl bd=>
    refine ⟨h2.1,h2.2.mono fun e w'' he=>?_⟩
    cases e with
    |returned u=>exact hgo u w'' he
    |panicked ch=>exact he.elim
    |outgrown=>obtain ⟨_,_,hF⟩:=he; exact hF.elim
   |_=>simp [Oper.uponIn] at h2
 ·rw [if_neg (by simp [hw])]
  refine ⟨fun _ _=>trivial,?_⟩
  rw [ho]
  exact hn w (dj.refl _ _)
theorem Cv {E:eI} {ops:Array Oper} {o:Oper} {D:List Deferred} {L:List (Nat×Value)} {C:List aA} {v:Value} {d:Nat} (h:SD E ops o D L C v) (ho:o.dst=some d) (hd:d<E.n)
 (hsel: ∀ cs b,o.op≠ .select cs b) (hdef: ∀ c,o.op≠ .defer c) {a a':Act} (hf:Fr E.n D L a') (hl: ∀ t∈o.looksAt ops,a.tmps[t]? =a'.tmps[t]?) {w:World} (hs:St E.S E.w0 C w)
 {N:Act→World→Prop} {Q:dh} (hn: ∀ w',St E.S E.w0 C w'→N (a.put (some d) v) w'):
 if Region.wanted o (yielded ops a.tmps) then o.wpIn (Fw E.r) 0 E.P a w N Q else (∀ f,o.about E.P w a.eval=some f→(Fw E.r).fn f)∧N (a.put o.dst undef) w:=
 pJ h ho hd hsel hdef hf hl hs (fun w' hk=>hn w' (hs.same hk))
def wN (n:Nat) (listed:Array Bool):List Nat:=(List.range n).filter fun i=> !listed.getD i false
theorem lR {n:Nat} {listed:Array Bool} {i:Nat}:i∈wN n listed↔i<n∧listed.getD i false=false:=by simp [wN]
theorem nV {listed:Array Bool} {i j:Nat} (hi:i<listed.size) (d:Bool):(listed.setIfInBounds i true).getD j d=if j=i then true else listed.getD j d:=by
 simp only [Array.getD_eq_getD_getElem?]
 by_cases e:j=i
 ·subst e; rw [Array.getElem?_setIfInBounds_self_of_lt hi]; simp
 ·rw [Array.getElem?_setIfInBounds_ne (fun h=>e h.symm)]; simp [e]
theorem Cj {n:Nat} {listed:Array Bool} {i:Nat} (hi:i<listed.size):wN n (listed.setIfInBounds i true)=(wN n listed).filter (fun j=>j != i):=by
 unfold wN
 rw [List.filter_filter]
 refine List.filter_congr fun j _=>?_
 rw [nV hi]
 by_cases e:j=i<;>simp [e]
theorem uE {n:Nat} {listed:Array Bool} {i:Nat} (hi:i<listed.size) (hm:i∈wN n listed):(wN n (listed.setIfInBounds i true)).length<(wN n listed).length:=by
 rw [Cj hi]
 exact List.length_filter_lt_length_iff_exists.2 ⟨i,hm,by simp⟩
section
variable {ops:Array Oper} {listed:Array Bool}
theorem po {i:Nat} (hs:listed.size=ops.size) (hi:i<ops.size) (hu:listed.getD i false=false) (hd:qv ops (fun k=>listed.getD k false=true) i):i∈Region.ready .any ops listed:=by
 rw [mem_ready]
 obtain ⟨o,ho⟩: ∃ o,ops[i]? =some o:=⟨ops[i],Array.getElem?_eq_getElem hi⟩
 refine ⟨?_,o,ho,?_⟩
 ·rw [Array.getD_eq_getD_getElem?] at hu ⊢
  rw [Array.getElem?_eq_getElem (by omega)] at hu ⊢
  exact hu
 ·intro e he hb
  exact hd o e ho he hb
theorem kF {i:Nat} (hs:listed.size=ops.size) (h:i∈Region.ready .any ops listed):i<ops.size∧listed.getD i false=false∧qv ops (fun k=>listed.getD k false=true) i:=by
 obtain ⟨hu,o,ho,hall⟩:=mem_ready.1 h
 have hi:i<ops.size:=(Array.getElem?_eq_some_iff.1 ho).1
 refine ⟨hi,?_,fun o' e ho' he hb=>?_⟩
 ·rw [Array.getD_eq_getD_getElem?] at hu ⊢
  rw [Array.getElem?_eq_getElem (by omega)] at hu ⊢
  exact hu
 ·rw [ho] at ho'; cases ho'
  exact hall e he hb
end
section
variable {r:Option Nat} {P:Program} {ops:Array Oper} {Q:dh} {n:Nat}
theorem vR (hc:Ha ops n): ∀ (fuel:Nat) (listed:Array Bool) (a:Act) (w:World) (m:Nat),listed.size=ops.size→n≤m→(∀ i,i<ops.size→(listed.getD i false=true↔i<m))→(wN ops.size listed).length≤fuel→
 pc r P ops Q (ops.toList.drop m) a w→wpAnyIn (Fw r) 0 P .any ops Q fuel listed a w:=by
 intro fuel
 induction fuel with
 |zero=>
  intro listed a w m hsz hnm hm hf h
  have hall: ∀ i,i<ops.size→listed.getD i false=true:=fun i hi=>by
   cases hg:listed.getD i false with
   |true=>rfl
   |false=>
    have:i∈wN ops.size listed:=lR.2 ⟨hi,hg⟩
    have:=List.length_pos_of_mem this
    omega
  have hmz:ops.size≤m:=by
   rcases Nat.lt_or_ge m ops.size with hlt|hge
   ·have:=(hm m hlt).1 (hall m hlt); omega
   ·exact hge
  refine ⟨?_,?_⟩
  ·rw [List.eq_nil_iff_forall_not_mem]
   intro i hi
   obtain ⟨h1,h2,_⟩:=kF hsz hi
   rw [hall i h1] at h2; cases h2
  ·rw [List.drop_eq_nil_of_le (by simpa using hmz)] at h
   exact h
 |succ fuel ih=>
  intro listed a w m hsz hnm hm hf h
  have hcl: ∀ j,j<ops.size→listed.getD j false=true→qv ops (fun k=>listed.getD k false=true) j:=fun j hj hl o e ho he hb=>by
   have h1:=hc.vy j o e ho he hb
   have h2:=(hm j hj).1 hl
   exact (hm e.on (by omega)).2 (by omega)
  rcases Nat.lt_or_ge m ops.size with hlt|hge
  ·obtain ⟨o,ho⟩: ∃ o,ops[m]? =some o:=⟨ops[m],Array.getElem?_eq_getElem hlt⟩
   have hmr:m∈Region.ready .any ops listed:=po hsz hlt (by
    cases hg:listed.getD m false with
    |false=>rfl
    |true=>have:=(hm m hlt).1 hg; omega) (fun o' e ho' he hb=>(hm e.on (by have:=hc.vy m o' e ho' he hb; omega)).2 (hc.vy m o' e ho' he hb))
   refine ⟨fun hnil=>absurd hmr (by rw [hnil]; simp),fun i hi=>?_⟩
   obtain ⟨hi1,hi2,hi3⟩:=kF hsz hi
   have him:i=m:=by
    have h1:m≤i:=by
     rcases Nat.lt_or_ge i m with hlt'|hge'
     ·have:=(hm i hi1).2 hlt'; rw [this] at hi2; cases hi2
     ·exact hge'
    rcases Nat.lt_or_ge m i with h2|h2
    ·have hanc:=hc.tail i m (by omega) hi1 h2
     have hS:listed.getD m false=true:=g6 (S:=fun k=>listed.getD k false=true) (fun j hj=>by
      rcases Nat.lt_or_ge j ops.size with hj'|hj'
      ·exact hcl j hj' hj
      ·intro o' e ho'; rw [Array.getElem?_eq_none hj'] at ho'; cases ho') hanc hi3
     have:=(hm m hlt).1 hS; omega
    ·omega
   subst him
   have hdrop:ops.toList.drop i=o::ops.toList.drop (i+1):=by
    rw [List.drop_eq_getElem_cons (by simpa using hlt)]
    congr 1
    have:=(Array.getElem?_eq_some_iff.1 ho).2
    simpa using this
   rw [hdrop] at h
   simp only [pc] at h
   unfold wpOpIn
   simp only [ho]
   have hnext: ∀ a' w',pc r P ops Q (ops.toList.drop (i+1)) a' w'→wpAnyIn (Fw r) 0 P .any ops Q fuel (listed.setIfInBounds i true) a' w':=fun a' w' h'=>by
    refine ih _ a' w' (i+1) (by simpa using hsz) (by omega) (fun k hk=>?_) ?_ h'
    ·rw [nV (by omega)]
     by_cases e:k=i
     ·subst e; simp
     ·simp only [e,if_false]; rw [hm k hk]; omega
    ·have:=uE (n:=ops.size) (by omega) (lR.2 ⟨hi1,hi2⟩)
     omega
   split at h
   ·rename_i hw
    rw [if_pos hw]
    exact kK h hnext (fun _ _ _ h=>h)
   ·rename_i hw
    rw [if_neg hw]
    exact ⟨fun _ _=>trivial,hnext _ _ h⟩
  ·refine ⟨fun _=>?_,fun i hi=>?_⟩
   ·rw [List.drop_eq_nil_of_le (by simpa using hge)] at h; exact h
   ·obtain ⟨hi1,hi2,_⟩:=kF hsz hi
    have:=(hm i hi1).2 (by omega)
    rw [this] at hi2; cases hi2
end
/-- A REGION WHOSE ORDER IS OPEN: its first n operations yield, each by itself, what they yield in the text's order; what stands behind waits for them. -/
theorem dm {E:eI} {id:Nat} {ops:Array Oper} {Q:dh} {D:List Deferred} {L:List (Nat×Value)} {C:List aA} (hm:E.P.follows .mixedOrders=true) (n:Nat) (hc:HS ops n=true)
 (h:DJ E ops D C (fun L'=>RJ E ops Q (ops.toList.drop n) D L' C) (ops.toList.take n) L):WJ E (.region id ops true) Q D L C:=by
 have hc:=Ha.of hc
 intro a0 w0 hf0 hs0
 refine wpIn_region_any hm ?_
 have hs1:St E.S E.w0 C ({w0 with drawn:=w0.drawn+1}:World):=hs0.same (dj.drew no w0)
 obtain ⟨vs,hvl,hF,hall⟩:=h.out
 have hlen:(ops.toList.take n).length=n:=by rw [List.length_take]; have:=hc.le; simp; omega
 have hop: ∀ i o,(ops.toList.take n)[i]? =some o↔(i<n∧ops[i]? =some o):=fun i o=>by
  rw [List.getElem?_take]
  by_cases hi:i<n<;>simp [hi]
 have hdlt: ∀ (j:Nat) (o:Oper) (d:Nat),(ops.toList.take n)[j]? =some o→o.dst=some d→d<E.n:=fun j o d ho hd=>by
  obtain ⟨d',v,h1,h2,_⟩:=hall j o ho
  rw [h1] at hd; cases hd; exact h2
 -- the state of a partial order
 have key: ∀ (fuel:Nat) (listed:Array Bool) (a:Act) (w:World),listed.size=ops.size→(wN ops.size listed).length≤fuel→(∀ j,listed.getD j false=true→qv ops (fun k=>listed.getD k false=true) j)→
  (∀ j,n≤j→listed.getD j false=false)→a.defers=D→a.tmps.size=E.n→St E.S E.w0 C w→
  (∀ t,(∀ j o,j<n→ops[j]? =some o→listed.getD j false=true→o.dst≠some t)→a.tmps[t]? =a0.tmps[t]?)→
  (∀ j o d,j<n→ops[j]? =some o→listed.getD j false=true→o.dst=some d→a.tmps[d]? =vs[j]?)→
  wpAnyIn (Fw E.r) 0 E.P .any ops Q fuel listed a w:=by
  intro fuel
  induction fuel with
  |zero=>
   intro listed a w hsz hu hcl hlow hd hz hs ht1 ht2
   have hall': ∀ i,i<ops.size→listed.getD i false=true:=fun i hi=>by
    cases hg:listed.getD i false with
    |true=>rfl
    |false=>
     have:=List.length_pos_of_mem (lR.2 ⟨hi,hg⟩)
     omega
   have hn:n=ops.size:=by
    rcases Nat.lt_or_ge n ops.size with hlt|hge
    ·have h1:=hall' n hlt; have h2:=hlow n (Nat.le_refl _); rw [h1] at h2; cases h2
    ·exact Nat.le_antisymm hc.le hge
   have hact:Fr E.n D (ve (ops.toList.take n) vs (ops.toList.take n).length L) a:=by
    have h1:=jO (ops.toList.take n) vs (ops.toList.take n).length L a0 hdlt hf0
    refine ⟨hd,hz,fun t v hv=>?_⟩
    rw [← h1.at_ t v hv]
    by_cases hw: ∃ j o,j<n∧ops[j]? =some o∧o.dst=some t
    ·obtain ⟨j,o,hj,ho,hdst⟩:=hw
     obtain ⟨d',v',e1,e2,e3,_⟩:=hall j o ((hop j o).2 ⟨hj,ho⟩)
     rw [hdst] at e1; cases e1
     rw [ht2 j o t hj ho (hall' j (by omega)) hdst,e3]
     refine (jQ (ops.toList.take n) vs _ a0 j o t v' (by omega) ((hop j o).2 ⟨hj,ho⟩) hdst (by rw [hf0.size]; exact e2) e3 (fun k p hk hne hp=>?_)).symm
     obtain ⟨hk',hp'⟩:=(hop k p).1 hp
     exact (hc.apart k j p o t hk' hj (Ne.symm hne) hp' ho hdst).1
    ·rw [ht1 t (fun j o hj ho _ hdst=>hw ⟨j,o,hj,ho,hdst⟩)]
     refine (ep (ops.toList.take n) vs _ a0 t (fun j o _ ho hdst=>?_)).symm
     obtain ⟨hj,ho'⟩:=(hop j o).1 ho
     exact hw ⟨j,o,hj,ho',hdst⟩
   refine vR hc 0 listed a w n hsz (Nat.le_refl _) (fun i hi=>⟨fun _=>by omega,fun _=>hall' i hi⟩) hu (hF a w hact hs)
  |succ fuel ih=>
   intro listed a w hsz hu hcl hlow hd hz hs ht1 ht2
   by_cases hdone: ∀ i,i<n→listed.getD i false=true
   ·have hact:Fr E.n D (ve (ops.toList.take n) vs (ops.toList.take n).length L) a:=by
     have h1:=jO (ops.toList.take n) vs (ops.toList.take n).length L a0 hdlt hf0
     refine ⟨hd,hz,fun t v hv=>?_⟩
     rw [← h1.at_ t v hv]
     by_cases hw: ∃ j o,j<n∧ops[j]? =some o∧o.dst=some t
     ·obtain ⟨j,o,hj,ho,hdst⟩:=hw
      obtain ⟨d',v',e1,e2,e3,_⟩:=hall j o ((hop j o).2 ⟨hj,ho⟩)
      rw [hdst] at e1; cases e1
      rw [ht2 j o t hj ho (hdone j hj) hdst,e3]
      refine (jQ (ops.toList.take n) vs _ a0 j o t v' (by omega) ((hop j o).2 ⟨hj,ho⟩) hdst (by rw [hf0.size]; exact e2) e3 (fun k p hk hne hp=>?_)).symm
      obtain ⟨hk',hp'⟩:=(hop k p).1 hp
      exact (hc.apart k j p o t hk' hj (Ne.symm hne) hp' ho hdst).1
     ·rw [ht1 t (fun j o hj ho _ hdst=>hw ⟨j,o,hj,ho,hdst⟩)]
      refine (ep (ops.toList.take n) vs _ a0 t (fun j o _ ho hdst=>?_)).symm
      obtain ⟨hj,ho'⟩:=(hop j o).1 ho
      exact hw ⟨j,o,hj,ho',hdst⟩
    refine vR hc (fuel+1) listed a w n hsz (Nat.le_refl _) (fun i hi=>⟨fun hl=>?_,fun hl=>hdone i hl⟩) hu (hF a w hact hs)
    rcases Nat.lt_or_ge i n with h1|h1
    ·exact h1
    ·rw [hlow i h1] at hl; cases hl
   ·refine ⟨fun hnil=>?_,fun i hi=>?_⟩
    ·exfalso
     -- the least that is not listed is ready
     have hex: ∃ i,i<n∧listed.getD i false=false:=by
      rcases Classical.em (∃ i,i<n∧listed.getD i false=false) with h1|h1
      ·exact h1
      ·exact absurd (fun i hi=>by
        cases hg:listed.getD i false with
        |true=>rfl
        |false=>exact absurd ⟨i,hi,hg⟩ h1) hdone
     obtain ⟨i,hi,hmin⟩:=exists_least hex
     have hr:i∈Region.ready .any ops listed:=po hsz (by have:=hc.le; omega) hi.2 (fun o e ho he hb=>by
      have h1:=hc.vy i o e ho he hb
      cases hg:listed.getD e.on false with
      |true=>exact hg
      |false=>exact absurd (hmin e.on ⟨by omega,hg⟩) (by omega))
     rw [hnil] at hr; cases hr
    ·obtain ⟨hi1,hi2,hi3⟩:=kF hsz hi
     have hin:i<n:=by
      rcases Nat.lt_or_ge i n with h1|h1
      ·exact h1
      ·exfalso
       refine hdone fun j hj=>?_
       exact g6 (S:=fun k=>listed.getD k false=true) hcl (hc.tail i j h1 hi1 (by omega)) hi3
     obtain ⟨o,ho⟩: ∃ o,ops[i]? =some o:=⟨ops[i],Array.getElem?_eq_getElem hi1⟩
     obtain ⟨d,v,hod,hdn,hvi,hsd⟩:=hall i o ((hop i o).2 ⟨hin,ho⟩)
     obtain ⟨hsel,hdef⟩:=hc.plain i o hin ho
     have hfr:=jO (ops.toList.take n) vs i L a0 hdlt hf0
     have hlook: ∀ t∈o.looksAt ops,a.tmps[t]? =(jR (ops.toList.take n) vs i a0).tmps[t]? :=by
      intro t htl
      by_cases hw: ∃ j p,j<n∧j≠i∧ops[j]? =some p∧p.dst=some t
      ·obtain ⟨j,p,hj,hne,hp,hpd⟩:=hw
       obtain ⟨d',v',e1,e2,e3,_⟩:=hall j p ((hop j p).2 ⟨hj,hp⟩)
       rw [hpd] at e1; cases e1
       have hap:=hc.apart i j o p t hin hj hne ho hp hpd
       rcases hap.2 htl with ⟨hlt,hanc⟩|⟨hlt,hanc⟩
       ·have hS:listed.getD j false=true:=g6 (S:=fun k=>listed.getD k false=true) hcl hanc hi3
        rw [ht2 j p t hj hp hS hpd,e3]
        refine (jQ (ops.toList.take n) vs i a0 j p t v' hlt ((hop j p).2 ⟨hj,hp⟩) hpd (by rw [hf0.size]; exact e2) e3 (fun k q hk hne' hq=>?_)).symm
        obtain ⟨hk',hq'⟩:=(hop k q).1 hq
        exact (hc.apart k j q p t hk' hj (Ne.symm hne') hq' hp hpd).1
       ·have hnS:listed.getD j false=false:=by
         cases hg:listed.getD j false with
         |false=>rfl
         |true=>
          have:=g6 (S:=fun k=>listed.getD k false=true) hcl hanc (hcl j hg)
          rw [this] at hi2; cases hi2
        refine (ht1 t (fun k q hk hq hkl hqd=>?_)).trans (ep (ops.toList.take n) vs i a0 t (fun k q hk hq hqd=>?_)).symm
        ·by_cases e:k=j
         ·subst e; rw [hkl] at hnS; cases hnS
         ·exact (hc.apart k j q p t hk hj (Ne.symm e) hq hp hpd).1 hqd
        ·obtain ⟨hk',hq'⟩:=(hop k q).1 hq
         exact (hc.apart k j q p t hk' hj (by omega) hq' hp hpd).1 hqd
      ·refine (ht1 t (fun k q hk hq hkl hqd=>?_)).trans (ep (ops.toList.take n) vs i a0 t (fun k q hk hq hqd=>?_)).symm
       ·by_cases e:k=i
        ·subst e; rw [hkl] at hi2; cases hi2
        ·exact hw ⟨k,q,hk,e,hq,hqd⟩
       ·obtain ⟨hk',hq'⟩:=(hop k q).1 hq
        exact hw ⟨k,q,hk',by omega,hq',hqd⟩
     unfold wpOpIn
     simp only [ho]
     refine Cv hsd hod hdn hsel hdef hfr hlook hs (fun w' hs'=>?_)
     have hset: ∀ j,(listed.setIfInBounds i true).getD j false=if j=i then true else listed.getD j false:=fun j=>nV (by omega) false
     refine ih _ _ w' (by simpa using hsz) (by have:=uE (n:=ops.size) (i:=i) (listed:=listed) (by omega) (lR.2 ⟨hi1,hi2⟩); omega) ?_ ?_ hd (by simp [Act.put,hz]) hs' ?_ ?_
     ·intro j hj o' e ho' he hb
      rw [hset] at hj ⊢
      by_cases e1:e.on=i
      ·simp [e1]
      ·simp only [e1,if_false]
       by_cases e2:j=i
       ·subst e2; exact hi3 o' e ho' he hb
       ·simp only [e2,if_false] at hj; exact hcl j hj o' e ho' he hb
     ·intro j hj
      rw [hset,if_neg (by omega)]
      exact hlow j hj
     ·intro t ht
      have hti:d≠t:=fun e=>by subst e; exact ht i o hin ho (by rw [hset]; simp) hod
      simp only [Act.put]
      rw [Array.getElem?_setIfInBounds_ne hti]
      refine ht1 t (fun j p hj hp hl=>ht j p hj hp (by rw [hset]; split<;>simp [hl]))
     ·intro j p d' hj hp hl hpd
      rw [hset] at hl
      simp only [Act.put]
      by_cases e:j=i
      ·subst e
       rw [ho] at hp; cases hp
       rw [hod] at hpd; cases hpd
       rw [Array.getElem?_setIfInBounds_self_of_lt (by rw [hz]; exact hdn),hvi]
      ·simp only [e,if_false] at hl
       have:=(hc.apart i j o p d' hin hj e ho hp hpd).1
       rw [Array.getElem?_setIfInBounds_ne (fun h=>this (by rw [hod,h]))]
       exact ht2 j p d' hj hp hl hpd
 refine key ops.size (Array.replicate ops.size false) a0 _ (by simp) ?_ ?_ ?_ hf0.defers hf0.size hs1 (fun _ _=>rfl) ?_
 ·unfold wN; exact Nat.le_trans (List.length_filter_le _ _) (by simp)
 ·intro j hj
  simp only [Array.getD_eq_getD_getElem?,Array.getElem?_replicate] at hj
  split at hj<;>simp at hj
 ·intro j _
  simp only [Array.getD_eq_getD_getElem?,Array.getElem?_replicate]
  split<;>rfl
 ·intro j o d _ _ hl
  simp only [Array.getD_eq_getD_getElem?,Array.getElem?_replicate] at hl
  split at hl<;>simp at hl
theorem cP {E:eI} {ops:Array Oper} {Q:dh} {rest:List Oper} {D:List Deferred} {L:List (Nat×Value)} {C:List aA} (h:RJ E ops Q rest D L C):DJ E ops D C (fun L'=>RJ E ops Q rest D L' C) [] L:=h
theorem SD.sub {E:eI} {ops:Array Oper} {o:Oper} {D:List Deferred} {L L':List (Nat×Value)} {C:List aA} {v:Value} (hs:an L L') (h:SD E ops o D L' C v):SD E ops o D L C v:=fun a w hf hst=>h a w (hf.sub hs) hst
theorem an.head {L L':List (Nat×Value)} (hs:an L L') (d:Nat) (v:Value):an ((d,v)::L) ((d,v)::L'):=fun t u hu=>by
 by_cases e:t=d
 ·subst e; simpa [List.lookup] using hu
 ·have he:(t==d)=false:=by simpa using e
  simp only [List.lookup,he] at hu ⊢; exact hs t u hu
theorem DJ.sub {E:eI} {ops:Array Oper} {Q:dh} {rest:List Oper} {D:List Deferred} {C:List aA}: ∀ {os:List Oper} {L L':List (Nat×Value)},an L L'→DJ E ops D C (fun L'=>RJ E ops Q rest D L' C) os L'→DJ E ops D C (fun L'=>RJ E ops Q rest D L' C) os L:=by
 intro os
 induction os with
 |nil=>intro L L' hs h a w hf hst; exact h a w (hf.sub hs) hst
 |cons o os ih=>
  intro L L' hs h
  obtain ⟨d,v,ho,hd,hsd,hk⟩:=h
  exact ⟨d,v,ho,hd,hsd.sub hs,ih (hs.head d v) hk⟩
theorem e9 {E:eI} {ops:Array Oper} {Q:dh} {rest:List Oper} {D:List Deferred} {C:List aA} {os:List Oper} {L:List (Nat×Value)} {t:Nat} {b:Bool} (h:L.lookup t=some (.bool b))
 (h1:b=true→DJ E ops D C (fun L'=>RJ E ops Q rest D L' C) os ((t,.bool true)::L)) (h2:b=false→DJ E ops D C (fun L'=>RJ E ops Q rest D L' C) os ((t,.bool false)::L)):DJ E ops D C (fun L'=>RJ E ops Q rest D L' C) os L:=by
 have hsub: ∀ v:Bool,b=v→an L ((t,.bool v)::L):=fun v hv=>an.cons (hv▸h) (fun _ _ h=>h)
 cases b
 ·exact DJ.sub (hsub _ rfl) (h2 rfl)
 ·exact DJ.sub (hsub _ rfl) (h1 rfl)
end
section
open Go.RowKit
set_option linter.unusedVariables false
def jv (ops:Array Oper) (L:List (Nat×Value)) (g:Option (Nat×Bool)):Bool:=
 match g with
 |none=>true
 |some (j,b)=>match (ops[j]?).bind (·.dst) with
  |some t=>match L.lookup t with
   |some (.bool b')=>b'==b
   |_=>false
  |none=>false
def BR (ops:Array Oper) (L:List (Nat×Value)) (g:Option (Nat×Bool)):Bool:=
 match g with
 |none=>false
 |some (j,b)=>match (ops[j]?).bind (·.dst) with
  |some t=>match L.lookup t with
   |some (.bool b')=>b' != b
   |some (.tuple _)=>true
   |_=>false
  |none=>false
theorem dz {ops:Array Oper} {L:List (Nat×Value)} {o:Oper} {n:Nat} {D:List Deferred} {a:Act} (hf:Fr n D L a) (h:jv ops L o.guard=true):Region.wanted o (yielded ops a.tmps)=true:=by
 unfold Region.wanted
 cases hg:o.guard with
 |none=>rfl
 |some jb=>
  obtain ⟨j,b⟩:=jb
  rw [hg] at h
  simp only [jv] at h
  simp only [yielded]
  cases ht:(ops[j]?).bind (·.dst) with
  |none=>simp [ht] at h
  |some t=>
   simp only [ht] at h
   cases hl:L.lookup t with
   |none=>simp [hl] at h
   |some v=>
    simp only [hl] at h
    cases v<;>simp at h
    subst h
    simp [hf.at_ t _ hl]
theorem we {ops:Array Oper} {L:List (Nat×Value)} {o:Oper} {n:Nat} {D:List Deferred} {a:Act} (hf:Fr n D L a) (h:BR ops L o.guard=true):Region.wanted o (yielded ops a.tmps)=false:=by
 unfold Region.wanted
 cases hg:o.guard with
 |none=>simp [hg,BR] at h
 |some jb=>
  obtain ⟨j,b⟩:=jb
  rw [hg] at h
  simp only [BR] at h
  simp only [yielded]
  cases ht:(ops[j]?).bind (·.dst) with
  |none=>simp [ht] at h
  |some t=>
   simp only [ht] at h
   cases hl:L.lookup t with
   |none=>simp [hl] at h
   |some v=>
    simp only [hl] at h
    cases v<;>simp at h
    ·rename_i b'
     simp [hf.at_ t _ hl]
     cases b<;>cases b'<;>simp_all
    ·simp [hf.at_ t _ hl]
section
variable {E:eI} {ops:Array Oper} {D:List Deferred} {L:List (Nat×Value)} {C:List aA}
/-- passed over -/
theorem E5 {o:Oper} (hg:BR ops L o.guard=true):SD E ops o D L C undef:=fun a w hf hs=> .inr ⟨we hf hg,rfl⟩
theorem gH {r:Option Nat} {P:Program} {o:Oper} {a:Act} {w w':World} {N:Act→World→Prop} {Q:dh} {v:Value} (hd: ∀ c,o.op≠ .defer c) (h:(execOp a.eval o).run P w= .ok (.value v) w') (hn:N (a.put o.dst v) w'):o.wpIn (Fw r) 0 P a w N Q:=
 ⟨fun _ _=>trivial,by rw [Oper.semAt_eq _ _ _ hd,h]; exact hn⟩
theorem oL {r:Option Nat} {P:Program} {o:Oper} {a:Act} {w w':World} {N:Act→World→Prop} {Q:dh} (hd: ∀ c,o.op≠ .defer c) (h:(execOp a.eval o).run P w= .ok .skip w') (hn:N (a.put o.dst undef) w'):o.wpIn (Fw r) 0 P a w N Q:=
 ⟨fun _ _=>trivial,by rw [Oper.semAt_eq _ _ _ hd,h]; exact hn⟩
theorem ed {o:Oper} {v:Value} (hg:jv ops L o.guard=true) (hd: ∀ c,o.op≠ .defer c) (h: ∀ a w,Fr E.n D L a→St E.S E.w0 C w→(execOp a.eval o).run E.P w= .ok (.value v) w):SD E ops o D L C v:=
 fun a w hf hs=> .inl ⟨dz hf hg,gH hd (h a w hf hs) ⟨rfl,dj.refl _ _⟩⟩
variable {dst:Option Tmp} {ty:TypeId} {ps:String} {af:Array Edge} {g:Option (Nat×Bool)}
theorem C7 {x:Operand} {v:Value} (hg:jv ops L g=true) (hx:ev L x=some v):SD E ops ⟨dst,.move x,ty,ps,af,g⟩ D L C v:=
 ed hg (by simp) fun a w hf _=>by simp [execOp,hf.ev hx]
theorem yU {x:Operand} {v:Value} (hg:jv ops L g=true) (hx:ev L x=some v):SD E ops ⟨dst,.assign x,ty,ps,af,g⟩ D L C v:=
 ed hg (by simp) fun a w hf _=>by simp [execOp,hf.ev hx]
def fz (P:Program) (op:BinOp) (t:TypeId) (x y:Operand) (u v r:Value):Prop:= ∀ w,(do eqGuard op t x y u v; binOp op t u v:Sem Value).run P w= .ok r w
theorem fK {op:BinOp} {xt yt:TypeId} {x y:Operand} {u v r:Value} (hg:jv ops L g=true) (hx:ev L x=some u) (hy:ev L y=some v) (h:fz E.P op xt x y u v r):SD E ops ⟨dst,.binOp op xt x y yt,ty,ps,af,g⟩ D L C r:=
 ed hg (by simp) fun a w hf _=>by
  have:=h w
  simp only [execOp,hf.ev hx,hf.ev hy]
  simp only [Sem.run_bind,Sem.run_pure] at this ⊢
  rw [this]; rfl
theorem ED {xt:TypeId} {x:Operand} {b:Bool} (hg:jv ops L g=true) (hx:ev L x=some (.bool b)):SD E ops ⟨dst,.unOp .not xt x,ty,ps,af,g⟩ D L C (.bool !b):=
 ed hg (by simp) fun a w hf _=>by simp [execOp,hf.ev hx,Op.unary]
abbrev nD (n:Int):Prop:= -9223372036854775808≤n∧n≤9223372036854775807
theorem lM {n:Int} (h:nD n):IntKind.i64.wrap n=n:=by
 obtain ⟨h1,h2⟩:=h
 rw [IntKind.wrap_i64]
 omega
theorem D5 {xt:TypeId} {x:Operand} {n:Int} (hg:jv ops L g=true) (hx:ev L x=some (.int .i64 n)) (hb:nD (-n)):SD E ops ⟨dst,.unOp .neg xt x,ty,ps,af,g⟩ D L C (.int .i64 (-n)):=
 ed hg (by simp) fun a w hf _=>by
  have:(0:Int)-n= -n:=by omega
  simp [execOp,hf.ev hx,Op.unary,Op.intArith,this,lM hb]
theorem y7 {c x y:Operand} {v:Value} (hg:jv ops L g=true) (hc:ev L c=some (.bool true)) (hx:ev L x=some v):SD E ops ⟨dst,.pick c x y,ty,ps,af,g⟩ D L C v:=
 ed hg (by simp) fun a w hf _=>by simp [execOp,hf.ev hc,hf.ev hx,asBool]
theorem zJ {c x y:Operand} {v:Value} (hg:jv ops L g=true) (hc:ev L c=some (.bool false)) (hy:ev L y=some v):SD E ops ⟨dst,.pick c x y,ty,ps,af,g⟩ D L C v:=
 ed hg (by simp) fun a w hf _=>by simp [execOp,hf.ev hc,hf.ev hy,asBool]
theorem rE {st dt:TypeId} {x:Operand} {k k':IntKind} {n m:Int} (hg:jv ops L g=true) (hx:ev L x=some (.int k' n)) (hs:E.P.underlying st=some (.int k')) (hd:E.P.underlying dt=some (.int k)) (hw:k.wrap n=m):SD E ops ⟨dst,.convert st dt x,ty,ps,af,g⟩ D L C (.int k m):=
 ed hg (by simp) fun a w hf _=>by
  simp [execOp,hf.ev hx,convert,run_underlying hs,run_underlying hd,Conv.intToInt,hw]
def evs (L:List (Nat×Value)):List Operand→Option (List Value)
 |[]=>some []
 |x::xs=>match ev L x,evs L xs with
  |some v,some vs=>some (v::vs)
  |_,_=>none
theorem Fr.evs {n:Nat} {a:Act} (h:Fr n D L a): ∀ {xs:List Operand} {vs:List Value},Go.Proofs.YthiigjekcdjkkaaGreat.evs L xs=some vs→xs.map a.eval=vs:=by
 intro xs
 induction xs with
 |nil=>intro vs hv; simpa [Go.Proofs.YthiigjekcdjkkaaGreat.evs] using hv
 |cons x xs ih=>
  intro vs hv
  simp only [Go.Proofs.YthiigjekcdjkkaaGreat.evs] at hv
  cases hx:Go.Proofs.YthiigjekcdjkkaaGreat.ev L x with
  |none=>simp [hx] at hv
  |some u=>
   cases hxs:Go.Proofs.YthiigjekcdjkkaaGreat.evs L xs with
   |none=>simp [hx,hxs] at hv
   |some us=>simp [hx,hxs] at hv; subst hv; simp [h.ev hx,ih hxs]
theorem u2 {a b:Int}:(a==b)=decide (a=b):=by by_cases h:a=b<;>simp [h]
section
variable {P:Program} {t:TypeId} {x y:Operand} {a b:Int} {k:IntKind}
theorem aZ (h:nD (a+b)):fz P .add t x y (.int .i64 a) (.int .i64 b) (.int .i64 (a+b)):=fun w=>by simp [eqGuard_add,binOp_add,Op.intArith,lM h]
theorem da (h:nD (a-b)):fz P .sub t x y (.int .i64 a) (.int .i64 b) (.int .i64 (a-b)):=fun w=>by simp [eqGuard_sub,binOp_sub,Op.intArith,lM h]
theorem vV (h:nD (a*b)):fz P .mul t x y (.int .i64 a) (.int .i64 b) (.int .i64 (a*b)):=fun w=>by simp [eqGuard_mul,binOp_mul,Op.intArith,lM h]
theorem sP (h0:0≤a) (h1:0<b) (h:a≤9223372036854775807):fz P .quo t x y (.int .i64 a) (.int .i64 b) (.int .i64 (a/b)):=fun w=>by
 have hb:b≠0:=by omega
 have h3:0≤a/b:=Int.ediv_nonneg h0 (by omega)
 have h4:a/b≤a:=Int.ediv_le_self b h0
 simp [eqGuard_quo,binOp_quo,Op.intDiv,hb,Int.tdiv_eq_ediv_of_nonneg h0,lM (show nD (a/b) from ⟨by omega,by omega⟩)]
theorem E9 (h1:b≠0) (h:nD (a.tdiv b)):fz P .quo t x y (.int .i64 a) (.int .i64 b) (.int .i64 (a.tdiv b)):=fun w=>by
 simp [eqGuard_quo,binOp_quo,Op.intDiv,h1,lM h]
theorem FO (h0:0≤a) (h1:0<b):fz P .rem t x y (.int k a) (.int k b) (.int k (a % b)):=fun w=>by
 have hb:b≠0:=by omega
 simp [eqGuard_rem,binOp_rem,Op.intDiv,hb,Int.tmod_eq_emod_of_nonneg h0]
theorem cv:fz P .lss t x y (.int k a) (.int k b) (.bool (decide (a<b))):=fun w=>by simp [eqGuard_lss,binOp_lss]
theorem gl:fz P .leq t x y (.int k a) (.int k b) (.bool (decide (a≤b))):=fun w=>by simp [eqGuard_leq,binOp_leq]
theorem fY:fz P .gtr t x y (.int k a) (.int k b) (.bool (decide (b<a))):=fun w=>by simp [eqGuard_gtr,binOp_gtr]
theorem kv:fz P .geq t x y (.int k a) (.int k b) (.bool (decide (b≤a))):=fun w=>by simp [eqGuard_geq,binOp_geq]
theorem g0:fz P .eql t x y (.int k a) (.int k b) (.bool (decide (a=b))):=fun w=>by simp [eqGuard_at_int,binOp_eql]; exact u2
theorem dB:fz P .neq t x y (.int k a) (.int k b) (.bool (!decide (a=b))):=fun w=>by simp [eqGuard_at_int,binOp_neq,bne]; exact u2
end
theorem Eg {x:Operand} {t e:TypeId} {A:Option Addr} {n c:Nat} (hg:jv ops L g=true) (hx:ev L x=some (.slice A n c)) (ht:E.P.underlying t=some (.slice e)):
 SD E ops ⟨dst,.call {callee:= .builtin .len,args:= #[x],argTypes:= #[t]},ty,ps,af,g⟩ D L C (.int .i64 n):=
 ed hg (by simp) fun a w hf _=>by
  simp [execOp,resolve,invoke,builtin,Builtin.len_,hf.ev hx,run_underlying ht,goInt]
theorem E0 {x y:Operand} {ts:Array TypeId} {a b:Int} {k:IntKind} (hg:jv ops L g=true) (hx:ev L x=some (.int k a)) (hy:ev L y=some (.int k b)):
 SD E ops ⟨dst,.call {callee:= .builtin .min,args:= #[x,y],argTypes:=ts},ty,ps,af,g⟩ D L C (.int k (min a b)):=
 ed hg (by simp) fun c w hf _=>by
  have:(if b<a then b else a)=min a b:=by omega
  simp [execOp,resolve,invoke,builtin,Builtin.min_,Builtin.min2,hf.ev hx,hf.ev hy,this]
theorem Et {x y:Operand} {ts:Array TypeId} {a b:Int} {k:IntKind} (hg:jv ops L g=true) (hx:ev L x=some (.int k a)) (hy:ev L y=some (.int k b)):
 SD E ops ⟨dst,.call {callee:= .builtin .max,args:= #[x,y],argTypes:=ts},ty,ps,af,g⟩ D L C (.int k (max a b)):=
 ed hg (by simp) fun c w hf _=>by
  have:(if a<b then b else a)=max a b:=by omega
  simp [execOp,resolve,invoke,builtin,Builtin.max_,Builtin.max2,hf.ev hx,hf.ev hy,this]
end
end
section
open Go.RowKit
set_option linter.unusedVariables false
def aA.ro (A:aA):aA:={A with wf:=fun _=>False,wr:=false,i_:=fun _ h=>h.elim,whole:=fun h=>by cases h}
theorem dp {w:World} {g:Nat} {o:Obj} (h:w.heap[g]? =some o):g<w.heap.size:=(Array.getElem?_eq_some_iff.1 h).1
/-- a block of one's own, known whole -/
def aT (g:Nat) (t:TypeId) (cs:List Value):aA where
 ej b:=b=g
 wf b:=b=g
 holds w:=w.heap[g]? =some (.cells cs.toArray t (0,0))
 wr:=true
 i_ _ h:=h
 whole _ _ h:=h
 lt w h b hb:=hb▸dp h
 j2 w w' hk h:=(hk g rfl).trans h
/-- an object that is no row of cells -/
def iM (g:Nat) (o:Obj):aA where
 ej b:=b=g
 wf b:=b=g
 holds w:=w.heap[g]? =some o
 wr:=true
 i_ _ h:=h
 whole _ _ h:=h
 lt w h b hb:=hb▸dp h
 j2 w w' hk h:=(hk g rfl).trans h
/-- what stands at a place -/
def o2 (A:Option Addr) (k:Nat):Option Addr:=A.map (·.add k)
theorem vb (a:Addr) (i j:Nat):(a.add i).add j=a.add (i+j):=by
 unfold Addr.add
 by_cases hi:i=0<;>by_cases hj:j=0<;>simp [hi,hj,Nat.add_assoc]
theorem qx (a:Addr) (n:Nat):(a.add n).block=a.block:=by unfold Addr.add; split<;>rfl
theorem iU (g o k:Nat):(⟨g,o,none⟩:Addr).add k=⟨g,o+k,none⟩:=by unfold Addr.add; split<;>simp_all
/-- a slice that reads as a list of elements, each its cells -/
def rd (A:Option Addr) (n sz:Nat) (es:List (List Value)):aA where
 ej b:=0<n*sz∧ ∃ ad,A=some ad∧b=ad.block
 holds w:=es.length=n∧(∀ e∈es,e.length=sz)∧(0<n*sz→ ∃ ad,A=some ad∧ ∀ i e j v,es[i]? =some e→e[j]? =some v→w.cell? (ad.add (i*sz+j))=some v)
 wf _:=False
 wr:=false
 i_ _ h:=h.elim
 whole h:=by cases h
 lt w h b hb:=by
  obtain ⟨h1,h2,h3⟩:=h
  obtain ⟨hn,ad,hA,rfl⟩:=hb
  obtain ⟨ad',hA',hc⟩:=h3 hn
  rw [hA] at hA'; cases hA'
  have hn0:0<n:=Nat.pos_of_mul_pos_right hn
  have hs0:0<sz:=Nat.pos_of_mul_pos_left hn
  have he:es[0]? =some (es[0]'(by omega)):=List.getElem?_eq_getElem (by omega)
  have hl:(es[0]'(by omega)).length=sz:=h2 _ (List.getElem_mem _)
  have hv:=hc 0 _ 0 _ he (List.getElem?_eq_getElem (by omega))
  have:=World.block_lt_of_cell? w _ hv
  rwa [qx] at this
 j2 w w' hk h:=by
  refine ⟨h.1,h.2.1,fun hn=>?_⟩
  obtain ⟨ad,hA,hc⟩:=h.2.2 hn
  refine ⟨ad,hA,fun i e j v hi hj=>?_⟩
  rw [World.cell?_of_block (w:=w) (by rw [qx]; exact hk _ ⟨hn,ad,hA,rfl⟩)]
  exact hc i e j v hi hj
def jS (C:List aA) (p:World→Prop):Prop:= ∀ w,(∀ A∈C,A.holds w)→p w
theorem aI {C:List aA} {A:aA} (i:Nat) (h:C[i]? =some A):jS C A.holds:=fun w hw=>hw A (List.mem_of_getElem? h)
def j9 (C Cp:List aA):Prop:= ∀ w,(∀ A∈C,A.holds w)→ ∀ A∈Cp,A.holds w
theorem ay {C:List aA}:j9 C []:=fun w _ A hA=>by cases hA
theorem aM {C Cp:List aA} {A:aA} (h:jS C A.holds) (t:j9 C Cp):j9 C (A::Cp):=fun w hw B hB=>by
 rcases List.mem_cons.1 hB with rfl|hB
 ·exact h w hw
 ·exact t w hw B hB
theorem ax {C Cp:List aA} {A B:aA} (i:Nat) (h:C[i]? =some B) (e:B.holds=A.holds) (t:j9 C Cp):j9 C (A::Cp):=aM (e▸aI i h) t
theorem St.has {S:BS} {w0 w:World} {C:List aA} {p:World→Prop} (h:St S w0 C w) (k:jS C p):p w:=k w h.holds
/-- a block that holds the elements of a list, one behind the other, from its head on -/
theorem tN {w:World} {g:Nat} {t:TypeId} {cs:List Value} {n sz:Nat} {es:List (List Value)} (h:(aT g t cs).holds w) (h1:es.length=n) (h2: ∀ e∈es,e.length=sz) (h3:es.flatten <+: cs):(rd (some ⟨g,0,none⟩) n sz es).holds w:=by
 refine ⟨h1,h2,fun _=>⟨_,rfl,fun i e j v hi hj=>?_⟩⟩
 have hfl: ∀ (es:List (List Value)) (i:Nat),(∀ e∈es,e.length=sz)→es[i]? =some e→es.flatten[i*sz+j]? =some v:=by
  intro es
  induction es with
  |nil=>intro i _ hi; simp at hi
  |cons x xs ih=>
   intro i hl hi
   have hx:=hl x (by simp)
   have hjl:j<e.length:=(List.getElem?_eq_some_iff.1 hj).1
   cases i with
   |zero=>
    simp at hi; subst hi
    simp only [List.flatten_cons,Nat.zero_mul,Nat.zero_add]
    rw [List.getElem?_append_left hjl]; exact hj
   |succ i=>
    simp only [List.flatten_cons]
    rw [List.getElem?_append_right (by rw [hx,Nat.succ_mul]; omega)]
    have:(i+1)*sz+j-x.length=i*sz+j:=by rw [hx,Nat.succ_mul]; omega
    rw [this]
    exact ih i (fun e he=>hl e (by simp [he])) (by simpa using hi)
 have hv:=hfl es i h2 hi
 obtain ⟨rest,hr⟩:=h3
 rw [iU,cell_of_row w g _ cs.toArray t (0,0) h]
 simp only [List.getElem?_toArray,Nat.zero_add]
 rw [← hr,List.getElem?_append_left (List.getElem?_eq_some_iff.1 hv).1]
 exact hv
theorem bf {C:List aA} {g t:Nat} {cs:List Value} {n sz:Nat} {es:List (List Value)} (i:Nat) (hC:C[i]? =some (aT g t cs)) (h1:es.length=n) (h2: ∀ e∈es,e.length=sz) (h3:es.flatten=cs):jS C (rd (some ⟨g,0,none⟩) n sz es).holds:=fun w hw=>
 tN (aI i hC w hw) h1 h2 ⟨[],by simp [h3]⟩
/-- the cells of a zero value; the places of the parts: where, how many cells -/
def tB (P:Program) (t:TypeId):Option (List Value×List (Nat×Nat)):=
 match P.info? t,P.underlying t with
 |some it,some (.array n e)=>
  match it.zero,P.info? e with
  |some z,some ie=>some (z.cells.toList,(List.range n).map fun i=>(i*ie.size,ie.size))
  |_,_=>none
 |some it,some (.struct fields)=>
  match it.zero,fields.toList.mapM (fun f=>(P.info? f.type).map fun i=>(f.offset,i.size)) with
  |some z,some places=>some (z.cells.toList,places)
  |_,_=>none
 |_,_=>none
def G2 (z:List Value) (pl:List (Nat×Nat)):List (Nat×Value)→Option (List Value)
 |[]=>some z
 |(i,v)::rest=>match pl[i]? with
  |none=>none
  |some (off,sz)=>if v.cells.toList.length=sz∧off+sz≤z.length then G2 (z.take off++v.cells.toList++z.drop (off+sz)) pl rest else none
def fo (P:Program) (s f:Nat):Option Nat:=
 match P.underlying s with
 |some (.struct fs)=>match fs[f]? with
  |some fl=>match P.info? fl.type with
   |some i=>if i.size=0 then none else some fl.offset
   |none=>none
  |none=>none
 |_=>none
/-- is it a struct or an array; how many cells -/
def tK (P:Program) (t:TypeId):Option (Bool×Nat):=
 match P.underlying t,P.info? t with
 |some (.struct _),some i=>some (true,i.size)
 |some (.array _ _),some i=>some (true,i.size)
 |some _,some i=>some (false,i.size)
 |_,_=>none
def tZ (P:Program) (t:TypeId):Option (List Value):=((P.info? t).bind (·.zero)).map (·.cells.toList)
def tE (P:Program) (t:TypeId):Option (TypeId×Nat):=
 match P.underlying t with
 |some (.slice e)=>match P.info? e with
  |some i=>some (e,i.size)
  |none=>none
 |_=>none
def cE (P:Program) (f:FuncId):Bool:=
 match P.funcs[f]? with
 |some fn=> !(fn.name=="runtime.NumGoroutine")&&fn.body.isSome
 |none=>false
theorem ng {P:Program} {t:TypeId} {n:Nat} (h:tK P t=some (true,n)) (w:World):(isAgg t).run P w= .ok true w∧(sizeOf t).run P w= .ok n w:=by
 unfold tK at h
 cases hu:P.underlying t with
 |none=>simp [hu] at h
 |some d=>
  cases hi:P.info? t with
  |none=>cases d<;>simp [hu,hi] at h
  |some i=>
   cases d<;>simp [hu,hi] at h<;>(subst h; constructor<;>simp [isAgg,sizeOf,typeInfo,run_underlying hu,hi])
theorem qh {P:Program} {t:TypeId} {n:Nat} (h:tK P t=some (false,n)) (w:World):(isAgg t).run P w= .ok false w∧(sizeOf t).run P w= .ok n w:=by
 unfold tK at h
 cases hu:P.underlying t with
 |none=>simp [hu] at h
 |some d=>
  cases hi:P.info? t with
  |none=>cases d<;>simp [hu,hi] at h
  |some i=>
   cases d<;>simp [hu,hi] at h<;>(subst h; constructor<;>simp [isAgg,sizeOf,typeInfo,run_underlying hu,hi])
theorem qU {P:Program} {s f k:Nat} (h:fo P s f=some k) (a:Addr) (w:World):(Instr.fieldAt s (.pointer (some a)) f).run P w= .ok (.pointer (some (a.add k))) w:=by
 unfold fo at h
 cases hu:P.underlying s with
 |none=>simp [hu] at h
 |some d=>
  cases d<;>simp [hu] at h
  rename_i fs
  cases hf:fs[f]? with
  |none=>simp [hf] at h
  |some fl=>
   simp only [hf] at h
   cases hi:P.info? fl.type with
   |none=>simp [hi] at h
   |some i=>
    simp only [hi] at h
    by_cases hz:i.size=0
    ·simp [hz] at h
    ·simp only [hz,if_false,Option.some.injEq] at h
     subst h
     simp [Instr.fieldAt,run_underlying hu,hf,Instr.sureAddr,fieldPlace,sizeOf,typeInfo,hi,hz]
section
variable {E:eI} {ops:Array Oper} {D:List Deferred} {L:List (Nat×Value)} {C:List aA}
variable {dst:Option Tmp} {ty:TypeId} {ps:String} {af:Array Edge} {g:Option (Nat×Bool)}
theorem Gw {x:Operand} {b o o' s f k:Nat} (hg:jv ops L g=true) (hx:ev L x=some (.pointer (some ⟨b,o,none⟩))) (hf:fo E.P s f=some k) (ho:o+k=o'):
 SD E ops ⟨dst,.fieldAddr s x f,ty,ps,af,g⟩ D L C (.pointer (some ⟨b,o',none⟩)):=
 ed hg (by simp) fun a w hfr _=>by
  simp [execOp,hfr.ev hx,qU hf,iU,ho]
theorem Am {x:Operand} {A:Option Addr} {n sz:Nat} {es:List (List Value)} {k0 s f k k':Nat} (hg:jv ops L g=true) (hx:ev L x=some (.pointer (o2 A k0))) (hR:jS C (rd A n sz es).holds) (hn:0<n*sz)
 (hf:fo E.P s f=some k) (ho:k0+k=k'):SD E ops ⟨dst,.fieldAddr s x f,ty,ps,af,g⟩ D L C (.pointer (o2 A k')):=
 ed hg (by simp) fun a w hfr hs=>by
  obtain ⟨ad,hA,_⟩:=(hs.has hR).2.2 hn
  subst hA
  simp [execOp,hfr.ev hx,o2,qU hf,vb,ho]
theorem rh {P:Program} {t e sz:Nat} (h:tE P t=some (e,sz)) {a:Addr} {n c:Nat} {k:Nat} (hk:k<n) (w:World):
 (Instr.indexAt t (.slice (some a) n c) (.int .i64 (k:Int))).run P w= .ok (.pointer (some (a.add (k*sz)))) w:=by
 unfold tE at h
 cases hu:P.underlying t with
 |none=>simp [hu] at h
 |some d=>
  cases d<;>simp [hu] at h
  rename_i e'
  cases hi:P.info? e' with
  |none=>simp [hi] at h
  |some i=>
   simp only [hi,Option.some.injEq,Prod.mk.injEq] at h
   obtain ⟨rfl,rfl⟩:=h
   have h1:(0:Int)≤(k:Int)∧(k:Int)<(n:Int):=by omega
   simp [Instr.indexAt,asIntOf,run_underlying hu,h1,sizeOf,typeInfo,hi,hk]
theorem Fx {x ix:Operand} {A:Option Addr} {n c sz e t k:Nat} {es:List (List Value)} {j:Int} (hg:jv ops L g=true) (hx:ev L x=some (.slice A n c)) (hi:ev L ix=some (.int .i64 j)) (hR:jS C (rd A n sz es).holds)
 (ht:tE E.P t=some (e,sz)) (hz:0<sz) (hj:j=(k:Int)) (hk:k<n):SD E ops ⟨dst,.indexAddr t x ix,ty,ps,af,g⟩ D L C (.pointer (o2 A (k*sz))):=
 ed hg (by simp) fun a w hfr hs=>by
  obtain ⟨ad,hA,_⟩:=(hs.has hR).2.2 (Nat.mul_pos (by omega) hz)
  subst hA hj
  simp [execOp,hfr.ev hx,hfr.ev hi,o2,rh ht hk]
theorem CZ {x ix:Operand} {b o n c sz e t k o':Nat} {j:Int} (hg:jv ops L g=true) (hx:ev L x=some (.slice (some ⟨b,o,none⟩) n c)) (hi:ev L ix=some (.int .i64 j))
 (ht:tE E.P t=some (e,sz)) (hj:j=(k:Int)) (hk:k<n) (ho:o+k*sz=o'):SD E ops ⟨dst,.indexAddr t x ix,ty,ps,af,g⟩ D L C (.pointer (some ⟨b,o',none⟩)):=
 ed hg (by simp) fun a w hfr hs=>by
  subst hj
  simp [execOp,hfr.ev hx,hfr.ev hi,rh ht hk,iU,ho]
/-- what stands in memory from an address on -/
def At (C:List aA) (A:Option Addr) (vs:List Value):Prop:=jS C fun w=> ∃ ad,A=some ad∧ ∀ j v,vs[j]? =some v→w.cell? (ad.add j)=some v
theorem cy {b o t:Nat} {cs vs:List Value} (i:Nat) (hC:C[i]? =some (aT b t cs)) (hv:(cs.drop o).take vs.length=vs):At C (some ⟨b,o,none⟩) vs:=fun w hw=>by
 have h:=aI i hC w hw
 refine ⟨_,rfl,fun j v hj=>?_⟩
 rw [iU,cell_of_row w b _ cs.toArray t (0,0) h]
 rw [← hv,List.getElem?_take] at hj
 split at hj
 ·rw [List.getElem?_drop] at hj; simpa using hj
 ·cases hj
theorem rz {b o t:Nat} {cs vs:List Value} (i:Nat) (hC:C[i]? =some (aT b t cs).ro) (hv:(cs.drop o).take vs.length=vs):At C (some ⟨b,o,none⟩) vs:=fun w hw=>by
 have h:(aT b t cs).holds w:=aI i hC w hw
 refine ⟨_,rfl,fun j v hj=>?_⟩
 rw [iU,cell_of_row w b _ cs.toArray t (0,0) h]
 rw [← hv,List.getElem?_take] at hj
 split at hj
 ·rw [List.getElem?_drop] at hj; simpa using hj
 ·cases hj
theorem Du {A:Option Addr} {n sz k o m:Nat} {es:List (List Value)} {e vs:List Value} (hR:jS C (rd A n sz es).holds) (he:es[k]? =some e) (hm:m=k*sz+o) (hz:0<sz) (hv:(e.drop o).take vs.length=vs):At C (o2 A m) vs:=fun w hw=>by
 obtain ⟨h1,h2,h3⟩:=hR w hw
 have hk:k<n:=by rw [← h1]; exact (List.getElem?_eq_some_iff.1 he).1
 obtain ⟨ad,hA,hc⟩:=h3 (Nat.mul_pos (by omega) hz)
 subst hA hm
 refine ⟨_,rfl,fun j v hj=>?_⟩
 rw [vb,Nat.add_assoc]
 refine hc k e (o+j) v he ?_
 rw [← hv,List.getElem?_take] at hj
 split at hj
 ·rw [List.getElem?_drop] at hj; exact hj
 ·cases hj
theorem sh {x:Operand} {A:Option Addr} {t n:Nat} {v:Value} (hg:jv ops L g=true) (hx:ev L x=some (.pointer A)) (ht:tK E.P t=some (false,n)) (hc:At C A [v]):SD E ops ⟨dst,.load t x,ty,ps,af,g⟩ D L C v:=
 ed hg (by simp) fun a w hf hs=>by
  obtain ⟨ad,hA,hcell⟩:=hs.has hc
  subst hA
  have h0:w.cell? ad=some v:=by simpa [Addr.add] using hcell 0 v rfl
  simp [execOp,hf.ev hx,Instr.loadAt,Instr.sureAddr,loadVar,(qh ht w).1,h0]
theorem sB {x:Operand} {A:Option Addr} {t n:Nat} {vs:List Value} (hg:jv ops L g=true) (hx:ev L x=some (.pointer A)) (ht:tK E.P t=some (true,n)) (hc:At C A vs) (hn:vs.length=n):SD E ops ⟨dst,.load t x,ty,ps,af,g⟩ D L C (.agg vs.toArray):=
 ed hg (by simp) fun a w hf hs=>by
  obtain ⟨ad,hA,hcell⟩:=hs.has hc
  subst hA
  have hl:(loadCells ad n).run E.P w= .ok vs.toArray w:=by rw [← hn]; exact run_loadCells_list w ad vs hcell
  simp [execOp,hf.ev hx,Instr.loadAt,Instr.sureAddr,loadVar,(ng ht w).1,(ng ht w).2,hl]
end
end
section
open Go.RowKit
set_option linter.unusedVariables false
/-- what the call hands back is known -/
structure eH (P:Program) (f:FuncId) (args:List Value) (Cp:List aA) (v:Value):Prop where
 go:cE P f=true
 run: ∀ w,(∀ A∈Cp,A.holds w)→Calls P f args.toArray w fun e w'=>e= .returned v∧dj no w w'
/-- what the call hands back is known up to something; what is new in memory -/
structure rp (P:Program) (f:FuncId) (args:List Value) (Cp:List aA) {α:Type} (V:α→Value) (p:α→Prop) (N:α→List aA):Prop where
 go:cE P f=true
 run: ∀ w,(∀ A∈Cp,A.holds w)→Calls P f args.toArray w fun e w'=> ∃ x,e= .returned (V x)∧p x∧dj no w w'∧Cs w w' (N x)
theorem mZ {P:Program} {f:FuncId} (h:cE P f=true) (args:Array Value) (w:World):(callFunc f args).run P w= .ok (.enter f args) w:=by
 unfold cE at h
 cases hf:P.funcs[f]? with
 |none=>simp [hf] at h
 |some fn=>
  simp only [hf,Bool.and_eq_true,Bool.not_eq_true',Option.isSome_iff_ne_none] at h
  have h1:=h.1
  have h2:fn.body.isNone=false:=by cases hb:fn.body<;>simp_all
  simp only [beq_eq_false_iff_ne,ne_eq] at h1
  simp [callFunc,program,Sem.run,hf,h1]
  exact fun hb=>absurd hb h.2
section
variable {E:eI} {ops:Array Oper} {Q:dh} {rest:List Oper} {D:List Deferred} {L:List (Nat×Value)} {C:List aA}
variable {dst:Option Tmp} {d:Nat} {ty:TypeId} {ps:String} {af:Array Edge} {g:Option (Nat×Bool)}
theorem sv {a:Act} {fop:Operand} {xs:Array Operand} {ts:Array TypeId} {f:FuncId} {fi ca:Array Value} {vs args:List Value} {n:Nat} (hfr:Fr n D L a) (hgo:cE E.P f=true) (hf:ev L fop=some (.func (.func f) fi ca))
 (hx:evs L xs.toList=some vs) (ha:fi.toList++vs++ca.toList=args) (w:World):
 (execOp a.eval ⟨dst,.call {callee:= .value fop,args:=xs,argTypes:=ts},ty,ps,af,g⟩).run E.P w= .ok (.enter f args.toArray) w:=by
 have h1:xs.map a.eval=vs.toArray:=by
  have:=hfr.evs hx
  apply Array.ext'
  simp [this]
 have h2:fi++vs.toArray++ca=args.toArray:=by rw [← ha]; simp
 simp [execOp,resolve,hfr.ev hf,Deferred.ofValue,invoke,h1,h2,mZ hgo]
theorem xU {fop:Operand} {xs:Array Operand} {ts:Array TypeId} {f:FuncId} {fi ca:Array Value} {vs args:List Value} {Cp:List aA} {v:Value} (hg:jv ops L g=true) (hf:ev L fop=some (.func (.func f) fi ca))
 (hx:evs L xs.toList=some vs) (ha:fi.toList++vs++ca.toList=args) (c:eH E.P f args Cp v) (hC:j9 C Cp):SD E ops ⟨dst,.call {callee:= .value fop,args:=xs,argTypes:=ts},ty,ps,af,g⟩ D L C v:=by
 intro a w hfr hs
 refine .inl ⟨dz hfr hg,fun _ _=>trivial,?_⟩
 rw [Oper.semAt_eq _ _ _ (by simp),sv hfr c.go hf hx ha]
 refine ⟨fun h=>by simp at h,(nO E.r (c.run w (hC w hs.holds))).mono fun e w' he=>?_⟩
 obtain ⟨rfl,hk⟩:=he
 exact ⟨rfl,hk⟩
theorem EG {fop:Operand} {xs:Array Operand} {ts:Array TypeId} {f:FuncId} {fi ca:Array Value} {vs args:List Value} {Cp:List aA} {α:Type} {V:α→Value} {p:α→Prop} {N:α→List aA} (hg:jv ops L g=true) (hf:ev L fop=some (.func (.func f) fi ca))
 (hx:evs L xs.toList=some vs) (ha:fi.toList++vs++ca.toList=args) (c:rp E.P f args Cp V p N) (hC:j9 C Cp) (hd:Nat.blt d E.n=true) (k: ∀ x,p x→RJ E ops Q rest D ((d,V x)::L) (N x++C)):
 RJ E ops Q (⟨some d,.call {callee:= .value fop,args:=xs,argTypes:=ts},ty,ps,af,g⟩::rest) D L C:=by
 intro a w hfr hs
 have hd':d<E.n:=by rw [← Nat.blt_eq]; exact hd
 unfold pc
 rw [if_pos (dz hfr hg)]
 refine ⟨fun _ _=>trivial,?_⟩
 rw [Oper.semAt_eq _ _ _ (by simp),sv hfr c.go hf hx ha]
 refine ⟨fun h=>by simp at h,(nO E.r (c.run w (hC w hs.holds))).mono fun e w' he=>?_⟩
 obtain ⟨x,rfl,hp,hk,hn⟩:=he
 exact k x hp _ _ (hfr.put hd' _) (hs.grow hk hn)
/-- a fact on the slots alone: parted -/
theorem bH {t:Nat} {b:Bool} (h:L.lookup t=some (.bool b)) (h1:b=true→RJ E ops Q rest D ((t,.bool true)::L) C) (h2:b=false→RJ E ops Q rest D ((t,.bool false)::L) C):RJ E ops Q rest D L C:=by
 have hsub: ∀ v:Bool,b=v→an L ((t,.bool v)::L):=fun v hv=>an.cons (hv▸h) (fun _ _ h=>h)
 cases b
 ·exact fun a w hf hs=>h2 rfl a w (hf.sub (hsub _ rfl)) hs
 ·exact fun a w hf hs=>h1 rfl a w (hf.sub (hsub _ rfl)) hs
theorem Dz {L':List (Nat×Value)} {C':List aA} (hL:an L L') (hC: ∀ w,St E.S E.w0 C w→St E.S E.w0 C' w) (h:RJ E ops Q rest D L' C'):RJ E ops Q rest D L C:=fun a w hf hs=>h a w (hf.sub hL) (hC w hs)
theorem Cn {w:World} {t:TypeId} {cs:List Value}:Cs w (w.alloc (.cells cs.toArray t)) [aT w.heap.size t cs]:=
 ⟨fun A hA=>by simp at hA; subst hA; exact heap_alloc_new w _,fun A hA b hb=>by simp at hA; subst hA; exact Nat.le_of_eq (Eq.symm hb),List.pairwise_singleton _ _⟩
theorem yk {o:Oper} {t:TypeId} {cs:List Value} {V:Nat→Value} (hg:jv ops L o.guard=true) (ho:o.dst=some d) (hnd: ∀ c,o.op≠ .defer c) (hd:Nat.blt d E.n=true)
 (hr: ∀ a w,Fr E.n D L a→St E.S E.w0 C w→(execOp a.eval o).run E.P w= .ok (.value (V w.heap.size)) (w.alloc (.cells cs.toArray t)))
 (k: ∀ b,RJ E ops Q rest D ((d,V b)::L) (aT b t cs::C)):RJ E ops Q (o::rest) D L C:=by
 intro a w hfr hs
 have hd':d<E.n:=by rw [← Nat.blt_eq]; exact hd
 unfold pc
 rw [if_pos (dz hfr hg)]
 refine gH hnd (hr a w hfr hs) ?_
 rw [ho]
 exact k _ _ _ (hfr.put hd' _) (hs.grow (dj.alloc no w _) Cn)
theorem CJ {t:TypeId} {cs:List Value} (hg:jv ops L g=true) (hz:tZ E.P t=some cs) (hd:Nat.blt d E.n=true) (k: ∀ b,RJ E ops Q rest D ((d,.pointer (some ⟨b,0,none⟩))::L) (aT b t cs::C)):
 RJ E ops Q (⟨some d,.alloc t,ty,ps,af,g⟩::rest) D L C:=by
 refine yk (V:=fun b=> .pointer (some ⟨b,0,none⟩)) (t:=t) (cs:=cs) (by exact hg) rfl (by simp) hd (fun a w hfr _=>?_) k
 unfold tZ at hz
 cases hi:E.P.info? t with
 |none=>simp [hi] at hz
 |some i=>
  cases hzz:i.zero with
  |none=>simp [hi,hzz] at hz
  |some z=>
   simp only [hi,hzz,Option.bind_some,Option.map_some,Option.some.injEq] at hz
   subst hz
   simp [execOp,Instr.alloc,zeroValue,typeInfo,hi,hzz,newVar,newRow]
theorem DC {t:TypeId} {x:Operand} {v:Value} {cs:List Value} (hg:jv ops L g=true) (hx:ev L x=some v) (hv:v.cells.toList=cs) (hd:Nat.blt d E.n=true) (k: ∀ b,RJ E ops Q rest D ((d,.pointer (some ⟨b,0,none⟩))::L) (aT b t cs::C)):
 RJ E ops Q (⟨some d,.box t x,ty,ps,af,g⟩::rest) D L C:=by
 refine yk (V:=fun b=> .pointer (some ⟨b,0,none⟩)) (t:=t) (cs:=cs) (by exact hg) rfl (by simp) hd (fun a w hfr _=>?_) k
 subst hv
 simp [execOp,Instr.box,hfr.ev hx,newVar,newRow]
theorem ur {t e sz:Nat} (hg:jv ops L g=true) (ht:tE E.P t=some (e,sz)) (hd:Nat.blt d E.n=true) (k: ∀ b,RJ E ops Q rest D ((d,.slice (some ⟨b,0,none⟩) 0 0)::L) (aT b e []::C)):
 RJ E ops Q (⟨some d,.buildSlice t 0 #[],ty,ps,af,g⟩::rest) D L C:=by
 refine yk (V:=fun b=> .slice (some ⟨b,0,none⟩) 0 0) (t:=e) (cs:=[]) (by exact hg) rfl (by simp) hd (fun a w hfr _=>?_) k
 unfold tE at ht
 cases hu:E.P.underlying t with
 |none=>simp [hu] at ht
 |some dd=>
  cases dd<;>simp [hu] at ht
  rename_i e'
  cases hi:E.P.info? e' with
  |none=>simp [hi] at ht
  |some i=>
   simp only [hi,Option.some.injEq,Prod.mk.injEq] at ht
   obtain ⟨rfl,rfl⟩:=ht
   have h0:Array.range 0= #[]:=rfl
   simp [execOp,Instr.buildSlice,run_underlying hu,sizeOf,typeInfo,hi,Instr.fill,newRow,h0]
theorem vU (off:Nat): ∀ (xs:List Value) (k:Nat) (cs:Array Value),off+k+xs.length≤cs.size→
 ((xs.zipIdx k).foldl (fun (cs:Array Value) (p:Value×Nat)=>cs.setIfInBounds (off+p.2) p.1) cs).toList=cs.toList.take (off+k)++xs++cs.toList.drop (off+k+xs.length):=by
 intro xs
 induction xs with
 |nil=>intro k cs h; simp
 |cons x xs ih=>
  intro k cs h
  simp only [List.length_cons] at h
  simp only [List.zipIdx_cons,List.foldl_cons]
  rw [ih (k+1) _ (by simp; omega)]
  have h1:(cs.setIfInBounds (off+k) x).toList=cs.toList.set (off+k) x:=by simp
  rw [h1]
  have hk:off+k<cs.toList.length:=by simp; omega
  rw [show off+(k+1)=off+k+1 from by omega,List.take_add_one,List.take_set_of_le (Nat.le_refl _),List.getElem?_set_self hk,List.drop_set_of_lt (by omega)]
  simp [Nat.add_assoc,Nat.add_comm,Nat.add_left_comm]
/-- the cells of so many elements -/
theorem A_ {sz:Nat}: ∀ (vs:List Value) (k:Nat) (cs:Array Value),(∀ v∈vs,v.cells.size=sz)→cs.size=(k+vs.length)*sz→
 ∃ r,Instr.fill (fun i=>some (i*sz,sz)) cs ((vs.zipIdx k).map fun p=>(p.2,p.1))=some r∧r.toList=cs.toList.take (k*sz)++(vs.map (·.cells.toList)).flatten:=by
 intro vs
 induction vs with
 |nil=>intro k cs _ hs; exact ⟨cs,rfl,by simp at hs; rw [← hs,List.take_of_length_le (by simp)]; simp⟩
 |cons v vs ih=>
  intro k cs hv hs
  have hv0:=hv v (by simp)
  have hle:k*sz+sz≤cs.size:=by
   rw [hs,← Nat.succ_mul]
   exact Nat.mul_le_mul_right _ (by simp)
  have hf:=vU (k*sz) v.cells.toList 0 cs (by simp [hv0]; exact hle)
  obtain ⟨r,h1,h2⟩:=ih (k+1) (v.cells.toList.zipIdx.foldl (fun (cs:Array Value) (p:Value×Nat)=>cs.setIfInBounds (k*sz+p.2) p.1) cs) (fun u hu=>hv u (by simp [hu])) (by
   have hl:=congrArg List.length hf
   simp only [Array.length_toList] at hl
   rw [hl]
   simp [hv0] at hs ⊢
   rw [show k+1+vs.length=k+(vs.length+1) from by omega,← hs]
   omega)
  refine ⟨r,?_,?_⟩
  ·simp only [List.zipIdx_cons,List.map_cons,Instr.fill]
   rw [if_neg (by simp [hv0]; omega)]
   rw [← h1]
   congr 1
   rw [← Array.foldl_toList]
   simp [Array.toList_zipIdx]
  ·rw [h2,hf]
   simp only [Nat.add_zero,List.map_cons,List.flatten_cons]
   rw [show (k+1)*sz=k*sz+sz from Nat.succ_mul k sz]
   have hlen:(cs.toList.take (k*sz)++v.cells.toList).length=k*sz+sz:=by simp [hv0]; omega
   rw [List.take_append_of_le_length (by rw [hlen]; omega),List.take_of_length_le (by rw [hlen]; omega)]
   simp
theorem fp {t e sz n:Nat} {xs:List Operand} {vs:List Value} {cs zs:List Value} (hg:jv ops L g=true) (ht:tE E.P t=some (e,sz)) (hz:tZ E.P e=some zs) (hx:evs L xs=some vs) (hn:xs.length=n) (hp:Nat.blt 0 (n*sz)=true) (hb:Nat.ble (n*sz) 16777216=true) (hv: ∀ v∈vs,v.cells.size=sz)
 (hc:(vs.map (·.cells.toList)).flatten=cs) (hd:Nat.blt d E.n=true) (k: ∀ b,RJ E ops Q rest D ((d,.slice (some ⟨b,0,none⟩) n n)::L) (aT b e cs::C)):
 RJ E ops Q (⟨some d,.buildSlice t n ((xs.zipIdx.map fun p=>(p.2,p.1)).toArray),ty,ps,af,g⟩::rest) D L C:=by
 refine yk (V:=fun b=> .slice (some ⟨b,0,none⟩) n n) (t:=e) (cs:=cs) (by exact hg) rfl (by simp) hd (fun a w hfr _=>?_) k
 have hlen:vs.length=n:=by
  have:=hfr.evs hx
  rw [← this,List.length_map,hn]
 unfold tE at ht
 cases hu:E.P.underlying t with
 |none=>simp [hu] at ht
 |some dd=>
  cases dd<;>simp [hu] at ht
  rename_i e'
  cases hi:E.P.info? e' with
  |none=>simp [hi] at ht
  |some i=>
   simp only [hi,Option.some.injEq,Prod.mk.injEq] at ht
   obtain ⟨rfl,rfl⟩:=ht
   cases hzz:i.zero with
   |none=>simp [tZ,hi,hzz] at hz
   |some z=>
    have hA:((xs.zipIdx.map fun p=>(p.2,p.1)).toArray.map fun ((i,x):Nat×Operand)=>(i,a.eval x))=((vs.zipIdx 0).map fun p=>(p.2,p.1)).toArray:=by
     rw [← hfr.evs hx]
     apply Array.ext'
     simp [List.zipIdx_map]
    obtain ⟨r,hr1,hr2⟩:=A_ (sz:=i.size) vs 0 ((Array.range (n*i.size)).map fun j=>(if n*i.size=0 then #[] else z.cells)[j % (if n*i.size=0 then (#[]:Array Value) else z.cells).size]!) hv (by simp [hlen])
    simp only [Nat.zero_mul,List.take_zero,List.nil_append,hc] at hr2
    have hrr:r=cs.toArray:=by rw [← hr2]
    subst hrr
    have hb': ¬ (n*i.size>2^24):=by have:=Nat.le_of_ble_eq_true hb; omega
    have hzero: ¬ n*i.size=0:=by rw [Nat.blt_eq] at hp; omega
    simp only [hzero,if_false] at hr1
    simp only [execOp,hA,Instr.buildSlice,Sem.run_bind,run_underlying hu,Result.andThen_ok,sizeOf,typeInfo,run_program,hi,Sem.run_pure,hzero,if_false,hb',zeroValue,hzz,hr1]
    simp [newRow]
theorem vW {place:Nat→Option (Nat×Nat)} {pl:List (Nat×Nat)} (hp: ∀ i x,pl[i]? =some x→place i=some x): ∀ (parts:List (Nat×Value)) (z:Array Value) (cs:List Value),G2 z.toList pl parts=some cs→ ∃ r,Instr.fill place z parts=some r∧r.toList=cs:=by
 intro parts
 induction parts with
 |nil=>intro z cs h; exact ⟨z,rfl,by simpa [G2] using h⟩
 |cons p rest ih=>
  obtain ⟨i,v⟩:=p
  intro z cs h
  simp only [G2] at h
  cases hi:pl[i]? with
  |none=>simp [hi] at h
  |some x=>
   obtain ⟨off,sz⟩:=x
   simp only [hi] at h
   split at h
   ·rename_i hc
    have hs:v.cells.size=sz:=by simpa using hc.1
    have hz:off+sz≤z.size:=by simpa using hc.2
    have hf:=vU off v.cells.toList 0 z (by simp [hs]; exact hz)
    simp only [Nat.add_zero,Array.length_toList,hs] at hf
    rw [← hf] at h
    obtain ⟨r,h1,h2⟩:=ih _ cs h
    refine ⟨r,?_,h2⟩
    simp only [Instr.fill,hp i _ hi]
    rw [if_neg (by simp [hs]; omega),← h1]
    congr 1
    rw [← Array.foldl_toList]
    simp [Array.toList_zipIdx]
   ·cases h
theorem bq {P:Program} {t:TypeId} {z:List Value} {pl:List (Nat×Nat)} {parts:List (Nat×Value)} {cs:List Value} (h:tB P t=some (z,pl)) (hb:G2 z pl parts=some cs):(P.built t parts).map (·.toList)=some cs:=by
 unfold tB at h
 unfold Program.built
 cases hit:P.info? t with
 |none=>simp [hit] at h
 |some it=>
  cases hu:P.underlying t with
  |none=>simp [hit,hu] at h
  |some d=>
   cases hz:it.zero with
   |none=>cases d<;>simp [hit,hu,hz] at h
   |some zv=>
    cases d<;>try (simp [hit,hu] at h; done)
    case array n e=>
     cases hie:P.info? e with
     |none=>simp [hit,hu,hz,hie] at h
     |some ie=>
      simp only [hit,hu,hz,hie,Option.some.injEq,Prod.mk.injEq] at h
      obtain ⟨h1,h2⟩:=h
      subst h1 h2
      obtain ⟨r,hr1,hr2⟩:=vW (place:=fun i=>some (i*ie.size,ie.size)) (fun i x hi=>by
       rw [List.getElem?_map] at hi
       cases hg:(List.range n)[i]? with
       |none=>simp [hg] at hi
       |some j=>
        have hj:j=i:=by
         have:=(List.getElem?_eq_some_iff.1 hg).2
         simpa using this.symm
        subst hj
        simpa [hg] using hi) parts zv.cells cs hb
      simp only [hz,hie,hr1,Option.map_some,hr2]
    case struct fields=>
     cases hp:fields.toList.mapM (fun f=>(P.info? f.type).map fun i=>(f.offset,i.size)) with
     |none=>simp [hit,hu,hz,hp] at h
     |some places=>
      simp only [hit,hu,hz,hp,Option.some.injEq,Prod.mk.injEq] at h
      obtain ⟨h1,h2⟩:=h
      subst h1 h2
      obtain ⟨r,hr1,hr2⟩:=vW (place:=(places.toArray[·]?)) (fun i x hi=>by simpa using hi) parts zv.cells cs hb
      simp only [hz,hp,hr1,Option.map_some,hr2]
theorem bp {t:TypeId} {xs:List (Nat×Operand)} {vs:List Value} {cs:List Value} (hg:jv ops L g=true) (hx:evs L (xs.map (·.2))=some vs) (hb:(E.P.built t ((xs.map (·.1)).zip vs)).map (·.toList)=some cs):
 SD E ops ⟨dst,.build t xs.toArray,ty,ps,af,g⟩ D L C (.agg cs.toArray):=
 ed hg (by simp) fun a w hf _=>by
  have hA:(xs.toArray.map fun ((i,x):Nat×Operand)=>(i,a.eval x))=((xs.map (·.1)).zip vs).toArray:=by
   rw [← hf.evs hx]
   apply Array.ext'
   simp [List.zip_map',List.map_map]
  obtain ⟨cells,hc,hcc⟩:=Option.map_eq_some_iff.1 hb
  have hcells:cells=cs.toArray:=by rw [← hcc]
  subst hcells
  have h1:=run_build (P:=E.P) w t (((xs.map (·.1)).zip vs).toArray) cs.toArray (by simpa using hc)
  simp only [execOp,hA,Sem.run_bind,h1,Result.andThen_ok,Sem.run_pure]
theorem oB {t:TypeId} {x:Operand} {cs:List Value} {f o n:Nat} {v:Value} (hg:jv ops L g=true) (hx:ev L x=some (.agg cs.toArray)) (hf:fo E.P t f=some o) (ht:(match E.P.underlying t with |some (.struct fs)=>(fs[f]?).map (fun fl=>tK E.P fl.type)|_=>none)=some (some (false,n)))
 (hv:cs[o]? =some v):SD E ops ⟨dst,.field t x f,ty,ps,af,g⟩ D L C v:=
 ed hg (by simp) fun a w hfr _=>by
  unfold fo at hf
  cases hu:E.P.underlying t with
  |none=>simp [hu] at hf
  |some dd=>
   cases dd<;>simp [hu] at hf
   rename_i fs
   cases hff:fs[f]? with
   |none=>simp [hff] at hf
   |some fl=>
    simp only [hu,hff,Option.map_some,Option.some.injEq] at ht
    simp only [hff] at hf
    cases hi:E.P.info? fl.type with
    |none=>simp [hi] at hf
    |some i=>
     simp only [hi] at hf
     by_cases hz:i.size=0
     ·simp [hz] at hf
     ·simp only [hz,if_false,Option.some.injEq] at hf
      subst hf
      simp [execOp,hfr.ev hx,Instr.field,run_underlying hu,hff,asAgg,part,(qh ht w).1,hv]
theorem xh {x:Operand} {vs:List Value} {i:Nat} {v:Value} (hg:jv ops L g=true) (hx:ev L x=some (.tuple vs.toArray)) (hv:vs[i]? =some v):SD E ops ⟨dst,.extract x i,ty,ps,af,g⟩ D L C v:=
 ed hg (by simp) fun a w hf _=>by simp [execOp,hf.ev hx,Instr.extract,hv]
theorem CP {fn:Fn} {xs ys:Array Operand} {us vs:List Value} (hg:jv ops L g=true) (hx:evs L xs.toList=some us) (hy:evs L ys.toList=some vs):SD E ops ⟨dst,.makeFunc fn xs ys,ty,ps,af,g⟩ D L C (.func fn us.toArray vs.toArray):=
 ed hg (by simp) fun a w hf _=>by
  have h1:xs.map a.eval=us.toArray:=Array.ext' (by simp [hf.evs hx])
  have h2:ys.map a.eval=vs.toArray:=Array.ext' (by simp [hf.evs hy])
  simp [execOp,Instr.makeFunc,h1,h2]
theorem nK {P:Program} {b t:Nat}: ∀ (vs:List Value) (cs:List Value) (o i:Nat) (w:World),(∀ v∈vs,v.oneCell'=true)→o+i+vs.length≤cs.length→w.heap[b]? =some (.cells cs.toArray t (0,0))→
 ∃ w',(storeCells ⟨b,o,none⟩ vs i).run P w= .ok () w'∧w'.heap[b]? =some (.cells (cs.take (o+i)++vs++cs.drop (o+i+vs.length)).toArray t (0,0))∧dj (only b) w w':=by
 intro vs
 induction vs with
 |nil=>intro cs o i w _ _ h; exact ⟨w,by simp [storeCells],by simpa using h,dj.refl _ _⟩
 |cons v vs ih=>
  intro cs o i w hv hl h
  simp only [List.length_cons] at hl
  have hlt:=dp h
  have hcell:w.cell? ((⟨b,o,none⟩:Addr).add i)=some (cs[o+i]'(by omega)):=by
   rw [iU,cell_of_row w b _ cs.toArray t (0,0) h]
   simp
  have hfz:w.frozen? ((⟨b,o,none⟩:Addr).add i)=false:=by rw [iU]; simp [World.frozen?,h]
  have hset:(w.setCell ((⟨b,o,none⟩:Addr).add i) v).heap[b]? =some (.cells (cs.set (o+i) v).toArray t (0,0)):=by
   rw [iU]
   simp [World.setCell,Array.getElem?_modify,h]
  have hkeep:dj (only b) w (w.setCell ((⟨b,o,none⟩:Addr).add i) v):=⟨rfl,rfl,rfl,by simp [World.setCell],fun k hk hn=>Below.heap_setCell _ _ _ _ (by rw [qx]; exact hn)⟩
  obtain ⟨w',h1,h2,h3⟩:=ih (cs.set (o+i) v) o (i+1) _ (fun u hu=>hv u (by simp [hu])) (by simp; omega) hset
  refine ⟨w',?_,?_,hkeep.trans h3⟩
  ·have hv0:=hv v (by simp)
   have hst:(store ((⟨b,o,none⟩:Addr).add i) v).run P w= .ok () (w.setCell ((⟨b,o,none⟩:Addr).add i) v):=by
    rw [run_store P w _ v _ (by simpa [Value.oneCell'] using hv0)]
    simp [hcell,hfz]
   simp only [storeCells,Sem.run_bind,hst,Result.andThen_ok,h1]
  ·rw [h2]
   congr 3
   rw [show o+(i+1)=o+i+1 from by omega,List.take_add_one,List.take_set_of_le (Nat.le_refl _),List.getElem?_set_self (by omega),List.drop_set_of_lt (by omega)]
   simp [Nat.add_assoc,Nat.add_comm,Nat.add_left_comm]
theorem St.wK {S:BS} {w0 w w':World} {b:Nat} {A A':aA} (i:Nat) (h:St S w0 C w) (hC:C[i]? =some A) (hA:A.ej b) (hw:A.wr=true) (hk:dj (only b) w w') (hA': ∀ x,A'.ej x→x=b) (hb:A'.holds w'):St S w0 (C.set i A') w':=by
 have hi:i<C.length:=(List.getElem?_eq_some_iff.1 hC).1
 have hget:C[i]=A:=(List.getElem?_eq_some_iff.1 hC).2
 have hAw:=A.whole hw b hA
 have hown:=h.own A (List.mem_of_getElem? hC) b hAw
 have hseen:=h.seen A (List.mem_of_getElem? hC) b hA
 have hsep: ∀ j (hj:j<C.length),j≠i→ ∀ x,(C[j]).ej x→x≠b:=by
  intro j hj hne x hx he
  subst he
  rcases Nat.lt_or_gt_of_ne hne with hlt|hlt
  ·have:=List.pairwise_iff_getElem.1 h.sep j i hj hi hlt
   rw [hget] at this
   exact (this x hx hA).2 hAw
  ·have:=List.pairwise_iff_getElem.1 h.sep i j hi hj hlt
   rw [hget] at this
   exact (this x hA hx).1 hAw
 refine ⟨?_,?_,?_,?_,?_⟩
 ·refine ⟨hk.os.trans h.keeps.os,hk.tape.trans h.keeps.tape,hk.output.trans h.keeps.output,Nat.le_trans h.keeps.size hk.size,fun k hkk hn=>?_⟩
  have hne: ¬ only b k:=by
   rintro rfl
   rcases hown with h1|h1
   ·omega
   ·exact hn h1
  exact (hk.block k (Nat.lt_of_lt_of_le hkk h.keeps.size) hne).trans (h.keeps.block k hkk hn)
 ·intro B hB
  obtain ⟨j,hj,hjB⟩:=List.mem_iff_getElem.1 hB
  rw [List.getElem_set] at hjB
  split at hjB
  ·subst hjB; exact hb
  ·rename_i hne
   subst hjB
   have hj':j<C.length:=by simpa using hj
   have hm:C[j]∈C:=List.getElem_mem hj'
   refine (C[j]).j2 w w' (fun x hx=>hk.block x ((C[j]).lt w (h.holds _ hm) x hx) ?_) (h.holds _ hm)
   exact hsep j hj' (Ne.symm hne) x hx
 ·rw [List.pairwise_iff_getElem]
  intro p q hp hq hpq
  have hp':p<C.length:=by simpa using hp
  have hq':q<C.length:=by simpa using hq
  have hs:=List.pairwise_iff_getElem.1 h.sep p q hp' hq' hpq
  rw [List.getElem_set,List.getElem_set]
  split
  ·rename_i e1; subst e1
   rw [if_neg (by omega)]
   intro x hx hx'
   exact absurd (hA' x hx) (hsep q hq' (by omega) x hx')
  ·split
   ·rename_i e1; subst e1
    intro x hx hx'
    exact absurd (hA' x hx') (hsep p hp' (by omega) x hx)
   ·exact hs
 ·intro B hB x hx
  obtain ⟨j,hj,hjB⟩:=List.mem_iff_getElem.1 hB
  rw [List.getElem_set] at hjB
  split at hjB
  ·subst hjB
   have:=hA' x (A'.i_ x hx)
   subst this; exact hown
  ·subst hjB
   exact h.own _ (List.getElem_mem _) x hx
 ·intro B hB x hx
  obtain ⟨j,hj,hjB⟩:=List.mem_iff_getElem.1 hB
  rw [List.getElem_set] at hjB
  split at hjB
  ·subst hjB
   have:=hA' x hx
   subst this; exact hseen
  ·subst hjB
   exact h.seen _ (List.getElem_mem _) x hx
theorem St.store {S:BS} {w0 w w':World} {b t:Nat} {cs cs':List Value} (i:Nat) (h:St S w0 C w) (hC:C[i]? =some (aT b t cs)) (hk:dj (only b) w w') (hb:w'.heap[b]? =some (.cells cs'.toArray t (0,0))):St S w0 (C.set i (aT b t cs')) w':=
 h.wK i hC rfl rfl hk (fun _ h=>h) hb
theorem pQ {t n b o tt:Nat} {x y:Operand} {v:Value} {vs cs cs':List Value} {C':List aA} (i:Nat) (hg:jv ops L g=true) (hx:ev L x=some (.pointer (some ⟨b,o,none⟩))) (hy:ev L y=some v) (ht:(tK E.P t).map (·.2)=some n) (hv:v.cells.toList=vs) (hn:vs.length=n)
 (h1:vs.all Value.oneCell'=true) (hC:C[i]? =some (aT b tt cs)) (hl:Nat.ble (o+n) cs.length=true) (hcs:cs.take o++vs++cs.drop (o+n)=cs') (hC':C.set i (aT b tt cs')=C') (k:RJ E ops Q rest D L C'):
 RJ E ops Q (⟨none,.store t x y,ty,ps,af,g⟩::rest) D L C:=by
 intro a w hfr hs
 unfold pc
 rw [if_pos (dz hfr hg)]
 have hl':=Nat.le_of_ble_eq_true hl
 obtain ⟨w',hr,hb',hk⟩:=nK (P:=E.P) vs cs o 0 w (fun v hv=>List.all_eq_true.1 h1 v hv) (by rw [hn]; exact hl') (hs.holds _ (List.mem_of_getElem? hC))
 have hsize:(sizeOf t).run E.P w= .ok n w:=by
  obtain ⟨bn,hbn,rfl⟩:=Option.map_eq_some_iff.1 ht
  obtain ⟨bb,nn⟩:=bn
  cases bb
  ·exact (qh hbn w).2
  ·exact (ng hbn w).2
 have hvs:v.cells.size=n:=by rw [← hn,← hv]; simp
 refine oL (by simp) (w':=w') ?_ ?_
 ·simp [execOp,hfr.ev hx,hfr.ev hy,Instr.storeAt,Instr.sureAddr,storeVar,hsize,hvs,hv,hr]
 ·refine k _ _ ⟨hfr.defers,hfr.size,hfr.at_⟩ ?_
  rw [← hC']
  refine hs.store i hC hk ?_
  rw [hb']
  simp only [Nat.add_zero,hn,hcs]
end
end
section
open Go.RowKit
set_option linter.unusedVariables false
def br (C:List aA) (is:List Nat):List aA:=is.filterMap (C[·]?)
theorem B0 {C:List aA} {is:List Nat} {A:aA} (h:A∈br C is):A∈C:=by
 obtain ⟨i,_,hi⟩:=List.mem_filterMap.1 h
 exact List.mem_of_getElem? hi
theorem Ce {C:List aA} (hC:C.Pairwise wO): ∀ {is:List Nat},is.Nodup→(br C is).Pairwise wO:=by
 intro is
 induction is with
 |nil=>intro _; exact List.Pairwise.nil
 |cons i is ih=>
  intro hn
  rw [List.nodup_cons] at hn
  unfold br
  cases hi:C[i]? with
  |none=>simp only [List.filterMap_cons,hi]; exact ih hn.2
  |some A=>
   simp only [List.filterMap_cons,hi]
   refine List.Pairwise.cons (fun B hB=>?_) (ih hn.2)
   obtain ⟨j,hj,hjB⟩:=List.mem_filterMap.1 hB
   have hne:i≠j:=fun e=>hn.1 (e▸hj)
   obtain ⟨hi1,hi2⟩:=List.getElem?_eq_some_iff.1 hi
   obtain ⟨hj1,hj2⟩:=List.getElem?_eq_some_iff.1 hjB
   rcases Nat.lt_or_gt_of_ne hne with h|h
   ·have:=List.pairwise_iff_getElem.1 hC i j hi1 hj1 h
    rwa [hi2,hj2] at this
   ·have:=List.pairwise_iff_getElem.1 hC j i hj1 hi1 h
    rw [hi2,hj2] at this
    exact wO.symm this
theorem AJ {is:List Nat} (h:decide is.Nodup=true):is.Nodup:=of_decide_eq_true h
theorem St.br {S:BS} {w0 w:World} {C C':List aA} (is:List Nat) (hn:decide is.Nodup=true) (hC:Go.Proofs.YthiigjekcdjkkaaGreat.br C is=C') (h:St S w0 C w):St S w0 C' w:=by
 subst hC
 exact h.sub (Ce h.sep (AJ hn)) (fun A hA=>B0 hA)
def jD (r:Nat):Deferred:={target:= .collected r,args:= #[]}
/-- what is asked where a function is left -/
def LJ (E:eI) (fn:Func) (R:Ending→World→Prop) (D:List Deferred) (L:List (Nat×Value)) (C:List aA):Prop:=
 ∀ a w,Fr E.n D L a→St E.S E.w0 C w→LeavesInM (Fw none) 0 E.P fn a.tmps R D .returning w
def Bg (P:Program) (L:List (Nat×Value)) (C:List aA):List ResultVar→List Value→Prop
 |[],[]=>True
 | .tmp t::rs,v::vs=>L.lookup t=some v∧Bg P L C rs vs
 | .cell a t::rs,v::vs=>(∃ A,L.lookup a=some (.pointer A)∧((∃ n us,tK P t=some (true,n)∧At C A us∧us.length=n∧v= .agg us.toArray)∨(∃ n,tK P t=some (false,n)∧At C A [v])))∧Bg P L C rs vs
 |_,_=>False
def G3 (vs:List Value):Value:=match vs with |[v]=>v|_=> .tuple vs.toArray
theorem sk {P:Program} {t n:Nat} {A:Option Addr} {v:Value} {w:World} (ht:tK P t=some (false,n)) (h: ∃ ad,A=some ad∧ ∀ j u,[v][j]? =some u→w.cell? (ad.add j)=some u):(do loadVar t (← asAddr (.pointer A)):Sem Value).run P w= .ok v w:=by
 obtain ⟨ad,rfl,hc⟩:=h
 have h0:w.cell? ad=some v:=by simpa [Addr.add] using hc 0 v rfl
 simp [asAddr,loadVar,(qh ht w).1,h0]
theorem tq {P:Program} {t n:Nat} {A:Option Addr} {us:List Value} {w:World} (ht:tK P t=some (true,n)) (hn:us.length=n) (h: ∃ ad,A=some ad∧ ∀ j u,us[j]? =some u→w.cell? (ad.add j)=some u):(do loadVar t (← asAddr (.pointer A)):Sem Value).run P w= .ok (.agg us.toArray) w:=by
 obtain ⟨ad,rfl,hc⟩:=h
 have hl:(loadCells ad n).run P w= .ok us.toArray w:=by rw [← hn]; exact run_loadCells_list w ad us hc
 simp [asAddr,loadVar,(ng ht w).1,(ng ht w).2,hl]
theorem BO {P:Program} {L:List (Nat×Value)} {C:List aA} {tmps:Array Value} {w:World} (hL: ∀ t v,L.lookup t=some v→tmps[t]? =some v) (hw: ∀ A∈C,A.holds w): ∀ (rs:List ResultVar) (vs:List Value),Bg P L C rs vs→
 (rs.mapM (fun
  | .tmp t=>pure (tmps.getD t undef)
  | .cell a t=>do loadVar t (← asAddr (tmps.getD a undef)):ResultVar→Sem Value)).run P w= .ok vs w:=by
 intro rs
 induction rs with
 |nil=>intro vs h; cases vs with |nil=>simp |cons v vs=>exact h.elim
 |cons r rs ih=>
  intro vs h
  cases vs with
  |nil=>cases r<;>exact h.elim
  |cons v vs=>
   cases r with
   |tmp t=>
    obtain ⟨h1,h2⟩:=h
    have hg:tmps.getD t undef=v:=by simp [hL t v h1]
    simp only [List.mapM_cons,Sem.run_bind,hg,Sem.run_pure,Result.andThen_ok,ih vs h2]
   |cell a t=>
    obtain ⟨⟨A,h1,h3⟩,h2⟩:=h
    have hg:tmps.getD a undef= .pointer A:=by simp [hL a _ h1]
    have hl:(do loadVar t (← asAddr (.pointer A)):Sem Value).run P w= .ok v w:=by
     rcases h3 with ⟨n,us,ht,hat,hn,rfl⟩|⟨n,ht,hat⟩
     ·exact tq ht hn (hat w hw)
     ·exact sk ht (hat w hw)
    rw [← hg] at hl
    simp only [List.mapM_cons]
    rw [Sem.run_bind,hl]
    simp only [Result.andThen_ok,Sem.run_bind,ih vs h2,Sem.run_pure]
theorem vZ {P:Program} {fn:Func} {L:List (Nat×Value)} {C:List aA} {tmps:Array Value} {w:World} {vs:List Value} (hL: ∀ t v,L.lookup t=some v→tmps[t]? =some v) (hw: ∀ A∈C,A.holds w) (h:Bg P L C fn.results.toList vs):(results fn tmps).run P w= .ok (G3 vs) w:=by
 have h1:=BO hL hw _ _ h
 unfold results
 rw [Array.mapM_eq_mapM_toList]
 generalize (fn.results.toList.mapM _:Sem (List Value))=m at h1 ⊢
 match vs with
 |[]=>simp [G3,h1]
 |[v]=>simp [G3,h1]
 |u::v::vs=>simp [G3,h1]
theorem bB {E:eI} {fn:Func} {R:Ending→World→Prop} {L:List (Nat×Value)} {C:List aA} {vs:List Value} (h:Bg E.P L C fn.results.toList vs) (hR: ∀ w,St E.S E.w0 C w→R (.returned (G3 vs)) w):LJ E fn R [] L C:=
 fun a w hf hs=>⟨_,vZ hf.at_ hs.holds h,hR w hs⟩
theorem hE {w:World} {b:Nat} (o:Obj):dj (only b) w (w.putObj b o):=⟨rfl,rfl,rfl,by simp [World.putObj],fun k _ hn=>World.putObj_heap_other hn⟩
theorem qn {E:eI} {fn:Func} {R:Ending→World→Prop} {D:List Deferred} {L:List (Nat×Value)} {C C':List aA} {r:Nat} (i:Nat) (hC:C[i]? =some (iM r (.deferred (some [])))) (hC':C.set i (iM r (.deferred none))=C') (h:LJ E fn R D L C'):LJ E fn R (jD r::D) L C:=by
 intro a w hf hs
 have hb:w.heap[r]? =some (.deferred (some [])):=hs.holds _ (List.mem_of_getElem? hC)
 refine ⟨by simp,.inl ⟨r,_,rfl,run_takeDeferred hb,?_⟩⟩
 refine h {a with defers:=D} _ ⟨rfl,hf.size,hf.at_⟩ ?_
 rw [← hC']
 exact hs.wK i hC rfl rfl (hE _) (fun _ h=>h) (World.putObj_heap_same (dp hb))
/-- the contract's end, out of the state -/
def B6 (w0:World) {α:Type} (V:α→Value) (p:α→Prop) (N:α→List aA) (e:Ending) (w':World):Prop:= ∃ x,e= .returned (V x)∧p x∧dj no w0 w'∧Cs w0 w' (N x)
theorem fB {w0 w:World} {C:List aA} {α:Type} {V:α→Value} {p:α→Prop} {N:α→List aA} {v:Value} (x:α) (is:List Nat) (hV:v=V x) (hp:p x) (hn:decide is.Nodup=true) (hN:br C is=N x) (hw:(N x).all (·.wr)=true) (hs:St ue w0 C w):B6 w0 V p N (.returned v) w:=by
 refine ⟨x,by rw [hV],hp,hs.keeps,?_⟩
 have h1:=St.br is hn hN hs
 refine ⟨h1.holds,fun A hA b hb=>?_,h1.sep⟩
 rcases h1.own A hA b (A.whole (List.all_eq_true.1 hw A hA) b hb) with h|h
 ·exact h
 ·exact h.elim
def zD (w0:World) (v:Value) (e:Ending) (w':World):Prop:=e= .returned v∧dj no w0 w'
theorem fq {w0 w:World} {C:List aA} {u v:Value} (h:u=v) (hs:St ue w0 C w):zD w0 v (.returned u) w:=⟨by rw [h],hs.keeps⟩
def E6 (args:List Value):List (Nat×Value):=(args.zipIdx 0).map fun p=>(p.2,p.1)
theorem se: ∀ (args:List Value) (k t:Nat) (v:Value),((args.zipIdx k).map fun p=>(p.2,p.1)).lookup t=some v→k≤t∧args[t-k]? =some v:=by
 intro args
 induction args with
 |nil=>intro k t v h; simp at h
 |cons x xs ih=>
  intro k t v h
  simp only [List.zipIdx_cons,List.map_cons,List.lookup] at h
  by_cases e:t=k
  ·subst e; simp at h; subst h; simp
  ·have:(t==k)=false:=by simpa using e
   rw [this] at h
   obtain ⟨h1,h2⟩:=ih (k+1) t v h
   refine ⟨by omega,?_⟩
   rw [show t-k=(t-(k+1))+1 from by omega]
   simpa using h2
theorem pD {Cp:List aA} {w:World} (h: ∀ A∈Cp,A.holds w):St ue w (Cp.map aA.ro) w:=by
 refine ⟨dj.refl _ _,fun A hA=>?_,?_,fun A hA b hb=>?_,fun A hA b hb=> .inr trivial⟩
 ·obtain ⟨B,hB,rfl⟩:=List.mem_map.1 hA; exact h B hB
 ·refine List.pairwise_of_forall_mem_list fun A hA B hB b _ _=>?_
  obtain ⟨A',_,rfl⟩:=List.mem_map.1 hA
  obtain ⟨B',_,rfl⟩:=List.mem_map.1 hB
  exact ⟨fun h=>h,fun h=>h⟩
 ·obtain ⟨B,_,rfl⟩:=List.mem_map.1 hA; exact hb.elim
theorem Dw {P:Program} {f:FuncId} {fn:Func} {c:Code} {args:List Value} {Cp:List aA} {R:World→Ending→World→Prop} (hf:P.funcs[f]? =some fn) (hb:fn.body=some c) (hn:Nat.ble args.length fn.ntmps=true)
 (h: ∀ (w0:World) (Q:dh),(∀ D L C,LJ ⟨P,none,fn.ntmps,ue,w0⟩ fn (R w0) D L C→KJ ⟨P,none,fn.ntmps,ue,w0⟩ (Q .ret) D L C)→(∀ D L C,LJ ⟨P,none,fn.ntmps,ue,w0⟩ fn (R w0) D L C→KJ ⟨P,none,fn.ntmps,ue,w0⟩ (Q .normal) D L C)→
  WJ ⟨P,none,fn.ntmps,ue,w0⟩ c Q [] (E6 args) (Cp.map aA.ro)) (w:World) (hw: ∀ A∈Cp,A.holds w):Calls P f args.toArray w (R w):=by
 refine q9 (callsIn_of_wp_marks hf hb trivial ?_ rfl)
 have hle:=Nat.le_of_ble_eq_true hn
 refine h w (bodyPostM (Fw none) 0 P fn (R w)) ?_ ?_ _ w ⟨rfl,by simp; omega,fun t v hv=>?_⟩ (pD hw)
 ·intro D L C hl a w' hf' hs'
  have:=hl a w' hf' hs'
  show LeavesInM (Fw none) 0 P fn a.tmps (R w) a.defers .returning w'
  rw [hf'.defers]; exact this
 ·intro D L C hl a w' hf' hs'
  have:=hl a w' hf' hs'
  show LeavesInM (Fw none) 0 P fn a.tmps (R w) a.defers .returning w'
  rw [hf'.defers]; exact this
 ·obtain ⟨_,h2⟩:=se args 0 t v hv
  have ht:t<args.length:=by
   have:=(List.getElem?_eq_some_iff.1 h2).1; omega
  simp only [Nat.sub_zero] at h2
  rw [Array.getElem?_append_left (by simpa using ht)]
  simpa using h2
theorem bL {P:Program} {f:FuncId} {fn:Func} {c:Code} {args:List Value} {Cp:List aA} {v:Value} (hgo:cE P f=true) (hf:P.funcs[f]? =some fn) (hb:fn.body=some c) (hn:Nat.ble args.length fn.ntmps=true)
 (h: ∀ (w0:World) (Q:dh),(∀ D L C,LJ ⟨P,none,fn.ntmps,ue,w0⟩ fn (zD w0 v) D L C→KJ ⟨P,none,fn.ntmps,ue,w0⟩ (Q .ret) D L C)→(∀ D L C,LJ ⟨P,none,fn.ntmps,ue,w0⟩ fn (zD w0 v) D L C→KJ ⟨P,none,fn.ntmps,ue,w0⟩ (Q .normal) D L C)→
  WJ ⟨P,none,fn.ntmps,ue,w0⟩ c Q [] (E6 args) (Cp.map aA.ro)):eH P f args Cp v:=⟨hgo,fun w hw=>Dw (R:=fun w0=>zD w0 v) hf hb hn h w hw⟩
theorem gp {P:Program} {f:FuncId} {fn:Func} {c:Code} {args:List Value} {Cp:List aA} {α:Type} {V:α→Value} {p:α→Prop} {N:α→List aA} (hgo:cE P f=true) (hf:P.funcs[f]? =some fn) (hb:fn.body=some c) (hn:Nat.ble args.length fn.ntmps=true)
 (h: ∀ (w0:World) (Q:dh),(∀ D L C,LJ ⟨P,none,fn.ntmps,ue,w0⟩ fn (B6 w0 V p N) D L C→KJ ⟨P,none,fn.ntmps,ue,w0⟩ (Q .ret) D L C)→(∀ D L C,LJ ⟨P,none,fn.ntmps,ue,w0⟩ fn (B6 w0 V p N) D L C→KJ ⟨P,none,fn.ntmps,ue,w0⟩ (Q .normal) D L C)→
  WJ ⟨P,none,fn.ntmps,ue,w0⟩ c Q [] (E6 args) (Cp.map aA.ro)):rp P f args Cp V p N:=⟨hgo,fun w hw=>Dw (R:=fun w0=>B6 w0 V p N) hf hb hn h w hw⟩
end
section
open Go.RowKit
set_option linter.unusedVariables false
/-- a slice of one's own, that may be appended to -/
def own (a:Option Addr) (c:Nat) (e sz:Nat) (es:List (List Value)):aA where
 ej b:= ∃ ad,a=some ad∧b=ad.block
 wf b:= ∃ ad,a=some ad∧b=ad.block
 holds w:=(∀ x∈es,x.length=sz)∧w.ownsRow 0 e sz (.slice a es.length c) es.length es.flatten
 wr:=true
 i_ _ h:=h
 whole _ _ h:=h
 lt w h b hb:=by
  obtain ⟨ad,rfl,rfl⟩:=hb
  exact (h.2.lt ad.block rfl).2
 j2 w w' hk h:=by
  refine ⟨h.1,h.2.1,?_⟩
  rcases h.2.2 with h1|⟨g,cap,cur,hv,h2,h3,h4⟩
  ·exact .inl h1
  ·refine .inr ⟨g,cap,cur,hv,h2,?_,h4⟩
   injection hv with hv
   subst hv
   rw [hk g ⟨_,rfl,rfl⟩]; exact h3
theorem pa {w:World} {a:Option Addr} {c e sz:Nat} {es:List (List Value)} (h:(own a c e sz es).holds w):(rd a es.length sz es).holds w:=by
 obtain ⟨hl,hlen,h2⟩:=h
 rcases h2 with ⟨h1,h0⟩|⟨g,cap,cur,hv,_,h3,h4,h5,h6,h7⟩
 ·exact ⟨rfl,hl,fun hn=>by simp [h0] at hn⟩
 ·injection hv with hv
  subst hv
  refine tN (cs:=cur.toList) (t:=e) ?_ rfl hl ⟨cur.toList.drop (es.length*sz),?_⟩
  ·show w.heap[g]? =_
   rw [h3]
  ·rw [← h7]; exact List.take_append_drop _ _
theorem Cu {C:List aA} {a:Option Addr} {c e sz:Nat} {es:List (List Value)} (i:Nat) (hC:C[i]? =some (own a c e sz es)):jS C (rd a es.length sz es).holds:=fun w hw=>pa (aI i hC w hw)
theorem pf (w:World) (e sz:Nat):(own none 0 e sz []).holds w:=⟨by simp,by simp,.inl ⟨rfl,rfl⟩⟩
theorem St.pf {S:BS} {w0 w:World} {C:List aA} (h:St S w0 C w) (e sz:Nat):St S w0 (Go.Proofs.YthiigjekcdjkkaaGreat.own none 0 e sz []::C) w:=by
 refine ⟨h.keeps,fun A hA=>?_,List.Pairwise.cons (fun B _ b hb=>?_) h.sep,fun A hA b hb=>?_,fun A hA b hb=>?_⟩
 ·rcases List.mem_cons.1 hA with rfl|hA
  ·exact Go.Proofs.YthiigjekcdjkkaaGreat.pf w e sz
  ·exact h.holds A hA
 ·obtain ⟨ad,h1,_⟩:=hb; cases h1
 ·rcases List.mem_cons.1 hA with rfl|hA
  ·obtain ⟨ad,h1,_⟩:=hb; cases h1
  ·exact h.own A hA b hb
 ·rcases List.mem_cons.1 hA with rfl|hA
  ·obtain ⟨ad,h1,_⟩:=hb; cases h1
  ·exact h.seen A hA b hb
theorem ia {E:eI} {ops:Array Oper} {Q:dh} {rest:List Oper} {D:List Deferred} {L:List (Nat×Value)} {C:List aA} (e sz:Nat) (k:RJ E ops Q rest D L (own none 0 e sz []::C)):RJ E ops Q rest D L C:=fun a w hf hs=>k a w hf (hs.pf e sz)
theorem fU {E:eI} {c:Code} {Q:dh} {D:List Deferred} {L:List (Nat×Value)} {C:List aA} (e sz:Nat) (k:WJ E c Q D L (own none 0 e sz []::C)):WJ E c Q D L C:=fun a w hf hs=>k a w hf (hs.pf e sz)
theorem CQ {w:World} {g e:Nat} {cs:List Value} {sz:Nat} {es:List (List Value)} (h:(aT g e cs).holds w) (h2: ∀ x∈es,x.length=sz) (h3:es.flatten=cs) (hm:es.length≤maxLen):(own (some ⟨g,0,none⟩) es.length e sz es).holds w:=by
 have hl:es.flatten.length=es.length*sz:=by
  clear h3 hm
  induction es with
  |nil=>simp
  |cons x xs ih=>
   simp only [List.flatten_cons,List.length_append,List.length_cons]
   rw [ih (fun y hy=>h2 y (by simp [hy])),h2 x (by simp),Nat.succ_mul,Nat.add_comm]
 refine ⟨h2,hl,.inr ⟨g,es.length,cs.toArray,rfl,Nat.zero_le _,h,Nat.le_refl _,hm,by simp [← h3,hl],?_⟩⟩
 show List.take (es.length*sz) cs=es.flatten
 rw [← h3,← hl]
 exact List.take_length
theorem jX {E:eI} {ops:Array Oper} {Q:dh} {rest:List Oper} {D:List Deferred} {L:List (Nat×Value)} {C C':List aA} {g e:Nat} {cs:List Value} {sz:Nat} {es:List (List Value)} (i:Nat) (hC:C[i]? =some (aT g e cs)) (h2: ∀ x∈es,x.length=sz) (h3:es.flatten=cs) (hm:es.length≤maxLen)
 (hC':C.set i (own (some ⟨g,0,none⟩) es.length e sz es)=C') (k:RJ E ops Q rest D L C'):RJ E ops Q rest D L C:=fun a w hf hs=>by
 refine k a w hf ?_
 rw [← hC']
 refine hs.wK i hC rfl rfl (dj.refl _ _) (fun x hx=>?_) (CQ (hs.holds _ (List.mem_of_getElem? hC)) h2 h3 hm)
 obtain ⟨ad,h1,h2⟩:=hx
 cases h1; exact h2
/-- one assertion's block has turned, or has gone to a new one -/
theorem St.move {S:BS} {w0 w w':World} {C:List aA} {A A':aA} {row:Option Nat} (i:Nat) (h:St S w0 C w) (hC:C[i]? =some A) (hA: ∀ b,row=some b→A.ej b) (hw:A.wr=true) (hk:w.grownBy w' row) (hA': ∀ x,A'.ej x→row=some x∨w.heap.size≤x) (hb:A'.holds w'):St S w0 (C.set i A') w':=by
 have hi:i<C.length:=(List.getElem?_eq_some_iff.1 hC).1
 have hget:C[i]=A:=(List.getElem?_eq_some_iff.1 hC).2
 have hmem:A∈C:=List.mem_of_getElem? hC
 have hsep: ∀ j (hj:j<C.length),j≠i→ ∀ x,(C[j]).ej x→ ¬ A.ej x:=by
  intro j hj hne x hx he
  rcases Nat.lt_or_gt_of_ne hne with hlt|hlt
  ·have:=List.pairwise_iff_getElem.1 h.sep j i hj hi hlt
   rw [hget] at this
   exact (this x hx he).2 (A.whole hw x he)
  ·have:=List.pairwise_iff_getElem.1 h.sep i j hi hj hlt
   rw [hget] at this
   exact (this x he hx).1 (A.whole hw x he)
 have hnew: ∀ j (hj:j<C.length),j≠i→ ∀ x,(C[j]).ej x→ ¬ A'.ej x:=by
  intro j hj hne x hx he
  rcases hA' x he with h1|h1
  ·exact hsep j hj hne x hx (hA x h1)
  ·have:=(C[j]).lt w (h.holds _ (List.getElem_mem hj)) x hx
   omega
 refine ⟨?_,?_,?_,?_,?_⟩
 ·refine ⟨hk.os.trans h.keeps.os,hk.tape.trans h.keeps.tape,hk.output.trans h.keeps.output,Nat.le_trans h.keeps.size hk.size,fun k hkk hn=>?_⟩
  refine (hk.block k (Nat.lt_of_lt_of_le hkk h.keeps.size) (fun e=>?_)).trans (h.keeps.block k hkk hn)
  rcases h.own A hmem k (A.whole hw k (hA k e.symm)) with h1|h1
  ·omega
  ·exact hn h1
 ·intro B hB
  obtain ⟨j,hj,hjB⟩:=List.mem_iff_getElem.1 hB
  rw [List.getElem_set] at hjB
  split at hjB
  ·subst hjB; exact hb
  ·rename_i hne
   subst hjB
   have hj':j<C.length:=by simpa using hj
   have hm:C[j]∈C:=List.getElem_mem hj'
   refine (C[j]).j2 w w' (fun x hx=>hk.block x ((C[j]).lt w (h.holds _ hm) x hx) (fun e=>?_)) (h.holds _ hm)
   exact hsep j hj' (Ne.symm hne) x hx (hA x e.symm)
 ·rw [List.pairwise_iff_getElem]
  intro p q hp hq hpq
  have hp':p<C.length:=by simpa using hp
  have hq':q<C.length:=by simpa using hq
  have hs:=List.pairwise_iff_getElem.1 h.sep p q hp' hq' hpq
  rw [List.getElem_set,List.getElem_set]
  split
  ·rename_i e1; subst e1
   rw [if_neg (by omega)]
   exact fun x hx hx'=>absurd hx (hnew q hq' (by omega) x hx')
  ·split
   ·rename_i e1; subst e1
    exact fun x hx hx'=>absurd hx' (hnew p hp' (by omega) x hx)
   ·exact hs
 ·intro B hB x hx
  obtain ⟨j,hj,hjB⟩:=List.mem_iff_getElem.1 hB
  rw [List.getElem_set] at hjB
  split at hjB
  ·subst hjB
   rcases hA' x (A'.i_ x hx) with h1|h1
   ·exact h.own A hmem x (A.whole hw x (hA x h1))
   ·exact .inl (Nat.le_trans h.keeps.size h1)
  ·subst hjB
   exact h.own _ (List.getElem_mem _) x hx
 ·intro B hB x hx
  obtain ⟨j,hj,hjB⟩:=List.mem_iff_getElem.1 hB
  rw [List.getElem_set] at hjB
  split at hjB
  ·subst hjB
   rcases hA' x hx with h1|h1
   ·exact h.seen A hmem x (hA x h1)
   ·exact .inl (Nat.le_trans h.keeps.size h1)
  ·subst hjB
   exact h.seen _ (List.getElem_mem _) x hx
def tA (P:Program) (t:TypeId):Option (TypeId×Nat×Nat×Value):=
 match P.underlying t with
 |some (.slice e)=>match P.info? e with
  |some i=>match i.zero with
   |some z=>if z.cells.size=i.size then some (e,i.size,i.bytes,z) else none
   |none=>none
  |none=>none
 |_=>none
theorem z3 {P:Program} {t e sz by_:Nat} {z:Value} (h:tA P t=some (e,sz,by_,z)): ∃ i,P.underlying t=some (.slice e)∧P.info? e=some i∧i.zero=some z∧i.size=sz∧i.bytes=by_∧z.cells.size=sz:=by
 unfold tA at h
 cases hu:P.underlying t with
 |none=>simp [hu] at h
 |some d=>
  cases d<;>simp [hu] at h
  rename_i e'
  cases hi:P.info? e' with
  |none=>simp [hi] at h
  |some i=>
   cases hz:i.zero with
   |none=>simp [hi,hz] at h
   |some z'=>
    simp only [hi,hz] at h
    split at h
    ·simp only [Option.some.injEq,Prod.mk.injEq] at h
     obtain ⟨rfl,rfl,rfl,rfl⟩:=h
     exact ⟨i,rfl,hi,hz,rfl,rfl,by assumption⟩
    ·cases h
theorem tv {P:Program} (w:World) (t ty e:TypeId) (i:TypeInfo) (size:Nat) (ht:P.underlying t=some (.slice e)) (hi:P.info? e=some i)
 (v:Value) (n:Nat) (xs:List Value) (hown:w.ownsRow 0 e size v n xs) (c:Nat):(Builtin.append_ #[t,t] ty #[v,.slice none 0 c]).run P w= .ok v w:=by
 rcases hown.2 with ⟨rfl,rfl⟩|⟨g,cap,cur,rfl,_,_,hnc,_⟩
 ·simp [Builtin.append_,run_underlying ht,sizeOf,typeInfo,hi,Builtin.lenOf,Builtin.firstCells]
 ·simp [Builtin.append_,run_underlying ht,sizeOf,typeInfo,hi,Builtin.lenOf,Builtin.firstCells,hnc,storeCells]
theorem CN {w:World} {ad:Addr} {sz:Nat}: ∀ (es:List (List Value)) (k:Nat),(∀ e∈es,e.length=sz)→(∀ i e j v,es[i]? =some e→e[j]? =some v→w.cell? (ad.add ((k+i)*sz+j))=some v)→ ∀ j v,es.flatten[j]? =some v→w.cell? (ad.add (k*sz+j))=some v:=by
 intro es
 induction es with
 |nil=>intro k _ _ j v hj; simp at hj
 |cons x xs ih=>
  intro k hl h j v hj
  have hx:=hl x (by simp)
  simp only [List.flatten_cons] at hj
  rcases Nat.lt_or_ge j x.length with hlt|hge
  ·rw [List.getElem?_append_left hlt] at hj
   exact h 0 x j v (by simp) hj
  ·rw [List.getElem?_append_right hge] at hj
   have:=ih (k+1) (fun e he=>hl e (by simp [he])) (fun i e j v hi hj=>by
    have:=h (i+1) e j v (by simpa using hi) hj
    rwa [show k+1+i=k+(i+1) from by omega]) (j-x.length) v hj
   rw [Nat.succ_mul] at this
   rwa [show k*sz+sz+(j-x.length)=k*sz+j from by omega] at this
section
variable {E:eI} {ops:Array Oper} {Q:dh} {rest:List Oper} {D:List Deferred} {L:List (Nat×Value)} {C:List aA}
variable {d:Nat} {ty:TypeId} {ps:String} {af:Array Edge} {g:Option (Nat×Bool)}
theorem jI {sz:Nat}: ∀ {es:List (List Value)},(∀ x∈es,x.length=sz)→es.flatten.length=es.length*sz:=by
 intro es
 induction es with
 |nil=>intro _; simp
 |cons x xs ih=>
  intro h
  simp only [List.flatten_cons,List.length_append,List.length_cons]
  rw [ih (fun y hy=>h y (by simp [hy])),h x (by simp),Nat.succ_mul,Nat.add_comm]
theorem dR {s x:Operand} {t e sz by_ n m m' c c':Nat} {z:Value} {a A:Option Addr} {es es' es2:List (List Value)} (i:Nat) (hg:jv ops L g=true) (hs:ev L s=some (.slice a n c)) (hx:ev L x=some (.slice A m c')) (ht:tA E.P t=some (e,sz,by_,z)) (hsz:Nat.blt 0 sz=true)
 (hC:C[i]? =some (own a c e sz es)) (hn:n=es.length) (hR:jS C (rd A m sz es').holds) (h1: ∀ v∈es'.flatten,v.oneCell'=true) (hb:(n+m)*by_≤140737488355328) (hb2:n+m≤maxLen) (hes:es++es'=es2) (hm':es2.length=m') (hd:Nat.blt d E.n=true)
 (k: ∀ (a':Option Addr) (c2:Nat),RJ E ops Q rest D ((d,.slice a' m' c2)::L) (C.set i (own a' c2 e sz es2))):
 RJ E ops Q (⟨some d,.call {callee:= .builtin .append,args:= #[s,x],argTypes:= #[t,t]},ty,ps,af,g⟩::rest) D L C:=by
 intro act w hfr hst
 have hd':d<E.n:=by rw [← Nat.blt_eq]; exact hd
 have hsz':0<sz:=by rw [← Nat.blt_eq]; exact hsz
 obtain ⟨inf,hu,hi,hz,h3,h4,h5⟩:=z3 ht
 unfold pc
 rw [if_pos (dz hfr hg)]
 subst hn hes hm'
 obtain ⟨hl1,hown⟩:(own a c e sz es).holds w:=hst.holds _ (List.mem_of_getElem? hC)
 obtain ⟨hr1,hr2,hr3⟩:=hst.has hR
 have hl2: ∀ x∈es++es',x.length=sz:=fun x hx=>by
  rcases List.mem_append.1 hx with h|h
  ·exact hl1 x h
  ·exact hr2 x h
 have main: ∃ v' w',(Builtin.append_ #[t,t] ty #[.slice a es.length c,.slice A m c']).run E.P w= .ok v' w'∧w'.ownsRow 0 e sz v' (es.length+m) (es.flatten++es'.flatten)∧w.grownBy w' (Value.slice a es.length c).ownBlock∧(v'.ownBlock=(Value.slice a es.length c).ownBlock∨v'.ownBlock=some w.heap.size):=by
  by_cases h0:m=0
  ·subst h0
   have he:es'=[]:=List.eq_nil_of_length_eq_zero hr1
   subst he
   cases A with
   |none=>exact ⟨_,w,tv w t ty e inf sz hu hi _ _ _ hown c',by simpa using hown,World.grownBy.refl w _,.inl rfl⟩
   |some ad=>
    obtain ⟨v',w',q1,q2,q3,_,q5⟩:=run_append_own_at (P:=E.P) w 0 t ty e inf z sz by_ hu hi hz h3 h4 h5 hsz' _ _ _ hown ad 0 c' [] (by simp) (by simp) (by simp) hb2 hb (Nat.zero_le _)
    exact ⟨v',w',q1,by simpa using q2,q3,q5⟩
  ·obtain ⟨ad,hA,hc⟩:=hr3 (Nat.mul_pos (by omega) hsz')
   subst hA
   obtain ⟨v',w',q1,q2,q3,_,q5⟩:=run_append_own_at (P:=E.P) w 0 t ty e inf z sz by_ hu hi hz h3 h4 h5 hsz' _ _ _ hown ad m c' es'.flatten (by rw [jI hr2,hr1])
    (fun j v hj=>by have:=CN (w:=w) (ad:=ad) es' 0 hr2 (fun i e j v hi hj=>by simpa using hc i e j v hi hj) j v hj; simpa using this) h1 hb2 hb (Nat.zero_le _)
   exact ⟨v',w',q1,q2,q3,q5⟩
 obtain ⟨v',w',q1,q2,q3,q5⟩:=main
 have hform: ∃ a' c2,v'= .slice a' (es++es').length c2:=by
  rcases q2.2 with ⟨rfl,h0⟩|⟨gg,cap,cur,rfl,_⟩
  ·exact ⟨none,0,by rw [List.length_append,hr1,h0]⟩
  ·exact ⟨_,cap,by rw [List.length_append,hr1]⟩
 obtain ⟨a',c2,rfl⟩:=hform
 refine gH (by simp) (w':=w') (v:= .slice a' (es++es').length c2) ?_ ?_
 ·simp [execOp,resolve,invoke,builtin,hfr.ev hs,hfr.ev hx,q1]
 ·refine k a' c2 _ _ (hfr.put hd' _) ?_
  refine hst.move i hC (row:=(Value.slice a es.length c).ownBlock) (fun b hb=>?_) rfl q3 (fun y hy=>?_) ?_
  ·cases a with
   |none=>simp [Value.ownBlock] at hb
   |some ad=>exact ⟨ad,rfl,by simpa [Value.ownBlock] using hb.symm⟩
  ·obtain ⟨ad,rfl,rfl⟩:=hy
   rcases q5 with h|h
   ·left; rw [← h]; rfl
   ·right; simp [Value.ownBlock] at h; omega
  ·refine ⟨hl2,?_⟩
   rw [List.flatten_append]
   rw [show (es++es').length=es.length+m from by rw [List.length_append,hr1]] at q2 ⊢
   exact q2
end
end
section
structure av where
 a:Option Addr
 n:Nat
 c:Nat
 deriving DecidableEq
def iC (x:Int):List Value:=[.int .i64 x]
@[simp] theorem bY (x:Int):(iC x).length=1:=rfl
def D6 (x:Int):List Value:=[.int .u32 x]
@[simp] theorem BV (x:Int):(D6 x).length=1:=rfl
def Au (x:Int):List Value:=[.int .u8 x]
@[simp] theorem Cq (x:Int):(Au x).length=1:=rfl
theorem rf {n:Int} (h:0≤n∧n≤255):IntKind.i64.wrap n=n:=lM ⟨by omega,by omega⟩
theorem EM {a b A B:Int} (h1:0≤a) (h2:a≤A) (h3:0≤b) (h4:b≤B):0≤a*b∧a*b≤A*B:=
 ⟨Int.mul_nonneg h1 h3,Int.mul_le_mul h2 h4 h3 (Int.le_trans h1 h2)⟩
theorem lx {α:Type} {f:α→List Value} (h: ∀ s,(f s).all Value.oneCell'=true) (l:List α): ∀ v∈(l.map f).flatten,v.oneCell'=true:=fun v hv=>by
 obtain ⟨x,hx,hvx⟩:=List.mem_flatten.1 hv
 obtain ⟨s,_,rfl⟩:=List.mem_map.1 hx
 exact List.all_eq_true.1 (h s) v hvx
theorem jF (l:List Int): ∀ v∈(l.map iC).flatten,v.oneCell'=true:=lx (fun _=>rfl) l
theorem yG {P:Program} {t:TypeId} (x y:Operand) {xs ys:List Value} {b:Bool} (hm:P.eqGuardType P.depth t=false) (h: ∀ w,(Op.equalIn 10000 t (.agg xs.toArray) (.agg ys.toArray)).run P w= .ok b w):fz P .eql t x y (.agg xs.toArray) (.agg ys.toArray) (.bool b):=fun w=>by
 rw [Sem.run_bind,run_eqGuard_agg w _ _ _ _ _ _ hm]
 simp only [Result.andThen_ok]
 rw [run_eql_struct,h w]; rfl
theorem l_ {P:Program} {t:TypeId} (x y:Operand) {xs ys:List Value} {b:Bool} (hm:P.eqGuardType P.depth t=false) (h: ∀ w,(Op.equalIn 10000 t (.agg xs.toArray) (.agg ys.toArray)).run P w= .ok b w):fz P .neq t x y (.agg xs.toArray) (.agg ys.toArray) (.bool (!b)):=fun w=>by
 rw [Sem.run_bind,run_eqGuard_agg w _ _ _ _ _ _ hm]
 simp only [Result.andThen_ok]
 rw [run_neq_struct,h w]; rfl
theorem gW {P:Program} {t n off:Nat} {xs vs:List Value} (ht:tK P t=some (true,n)) (hv:(xs.drop off).take n=vs) (w:World):(part t xs.toArray off).run P w= .ok (.agg vs.toArray) w:=by
 simp [part,(ng ht w).1,(ng ht w).2]
 exact hv
theorem dD {P:Program} {t n off:Nat} {xs:List Value} {v:Value} (ht:tK P t=some (false,n)) (hv:xs[off]? =some v) (w:World):(part t xs.toArray off).run P w= .ok v w:=by
 simp [part,(qh ht w).1,hv]
/-- a struct's fields: of what type, where; none is blank -/
def fL (P:Program) (t:TypeId):Option (List (Nat×Nat)):=
 match P.underlying t with
 |some (.struct fs)=>if fs.toList.all (fun f=>f.name != "_")&& !P.stoodInHeld t&& !P.eqGuardType P.depth t then some (fs.toList.map fun f=>(f.type,f.offset)) else none
 |_=>none
def BX (d:Nat) (xs ys:Array Value):List (Nat×Nat)→Sem Bool
 |[]=>pure true
 |(t,o)::fs=>do
  let a ← part t xs o
  let b ← part t ys o
  let r ← Op.equalIn d t a b
  if (!r)=true then pure false else BX d xs ys fs
theorem Ec {P:Program} {d:Nat} {xs ys:Array Value}: ∀ (fs:List Field) (w:World),fs.all (fun f=>f.name != "_")=true→(Op.eqFields d xs ys fs).run P w=(BX d xs ys (fs.map fun f=>(f.type,f.offset))).run P w:=by
 intro fs
 induction fs with
 |nil=>intro w _; simp [Op.eqFields,BX]
 |cons f fs ih=>
  intro w h
  simp only [List.all_cons,Bool.and_eq_true,bne_iff_ne,ne_eq] at h
  simp only [Op.eqFields,BX,List.map_cons,ne_eq,h.1,not_false_eq_true,if_true,Sem.run_bind]
  generalize (part f.type xs f.offset).run P w=r1
  cases r1 with
  |halt x w1=>rfl
  |ok a w1=>
   simp only [Result.andThen_ok]
   generalize (part f.type ys f.offset).run P w1=r2
   cases r2 with
   |halt x w2=>rfl
   |ok b w2=>
    simp only [Result.andThen_ok]
    generalize (Op.equalIn d f.type a b).run P w2=r3
    cases r3 with
    |halt x w3=>rfl
    |ok r w3=>cases r<;>simp [ih _ h.2]
/-- one field more -/
theorem eW {P:Program} {d t o:Nat} {xs ys:Array Value} {fs:List (Nat×Nat)} {a b:Value} {p q:Bool} (w:World) (ha:(part t xs o).run P w= .ok a w) (hb:(part t ys o).run P w= .ok b w)
 (he:(Op.equalIn d t a b).run P w= .ok p w) (hr:(BX d xs ys fs).run P w= .ok q w):(BX d xs ys ((t,o)::fs)).run P w= .ok (p&&q) w:=by
 simp only [BX,Sem.run_bind,ha,hb,he,Result.andThen_ok]
 cases p<;>simp [hr]
theorem na {P:Program} {d:Nat} {xs ys:Array Value} (w:World):(BX d xs ys []).run P w= .ok true w:=by simp [BX]
theorem jl {P:Program} {t:TypeId} {k:IntKind} (d:Nat) {a b:Int} (h:P.underlying t=some (.int k)) (w:World):(Op.equalIn (d+1) t (.int k a) (.int k b)).run P w= .ok (decide (a=b)) w:=by
 rw [run_equalIn_int w d t k k a b h,u2]
theorem jo {P:Program} {t:TypeId} {l:List (Nat×Nat)} (d:Nat) {xs ys:List Value} {b:Bool} (hl:fL P t=some l) (w:World) (h:(BX d xs.toArray ys.toArray l).run P w= .ok b w):(Op.equalIn (d+1) t (.agg xs.toArray) (.agg ys.toArray)).run P w= .ok b w:=by
 unfold fL at hl
 cases hu:P.underlying t with
 |none=>simp [hu] at hl
 |some dd=>
  cases dd<;>simp only [hu] at hl<;>try (cases hl; done)
  rename_i fs
  split at hl
  ·rename_i hc
   simp only [Bool.and_eq_true,Bool.not_eq_true'] at hc
   cases hl
   have hf:P.fieldsOf t=fs:=by simp [Program.fieldsOf,hu]
   rw [run_equalIn_struct w d t _ _ (by rw [hf]; exact hu) hc.1.2,hf,Ec _ _ hc.1.1]
   exact h
  ·cases hl
theorem mg {P:Program} {t:TypeId} {l:List (Nat×Nat)} (hl:fL P t=some l):P.eqGuardType P.depth t=false:=by
 unfold fL at hl
 cases hu:P.underlying t with
 |none=>simp [hu] at hl
 |some dd=>
  cases dd<;>simp only [hu] at hl<;>try (cases hl; done)
  split at hl
  ·rename_i hc
   simp only [Bool.and_eq_true,Bool.not_eq_true'] at hc
   exact hc.2
  ·cases hl
end
section
open Go.RowKit
set_option linter.unusedVariables false
def a5 (C:List aA):aA where
 ej b:= ∃ A∈C,A.ej b
 wf b:= ∃ A∈C,A.wf b
 holds w:=(∀ A∈C,A.holds w)∧C.Pairwise wO
 wr:=C.all (·.wr)
 i_ b:=by rintro ⟨A,hA,h⟩; exact ⟨A,hA,A.i_ b h⟩
 whole h b:=by rintro ⟨A,hA,hb⟩; exact ⟨A,hA,A.whole (List.all_eq_true.1 h A hA) b hb⟩
 lt w h b:=by rintro ⟨A,hA,hb⟩; exact A.lt w (h.1 A hA) b hb
 j2 w w' hk h:=⟨fun A hA=>A.j2 w w' (fun b hb=>hk b ⟨A,hA,hb⟩) (h.1 A hA),h.2⟩
theorem St.nM {S:BS} {w0 w:World} {C1 C2:List aA} (h:St S w0 (C1++C2) w):St S w0 (Go.Proofs.YthiigjekcdjkkaaGreat.a5 C1::C2) w:=by
 obtain ⟨p1,p2,p3⟩:=List.pairwise_append.1 h.sep
 refine ⟨h.keeps,fun A hA=>?_,List.Pairwise.cons (fun B hB b=>?_) p2,fun A hA b hb=>?_,fun A hA b hb=>?_⟩
 ·rcases List.mem_cons.1 hA with rfl|hA
  ·exact ⟨fun A hA=>h.holds A (List.mem_append_left _ hA),p1⟩
  ·exact h.holds A (List.mem_append_right _ hA)
 ·rintro ⟨A,hA,hb⟩ hb'
  have hs:=p3 A hA B hB b hb hb'
  refine ⟨?_,hs.2⟩
  rintro ⟨A',hA',hw⟩
  exact (p3 A' hA' B hB b (A'.i_ b hw) hb').1 hw
 ·rcases List.mem_cons.1 hA with rfl|hA
  ·obtain ⟨A',hA',hb'⟩:=hb
   exact h.own A' (List.mem_append_left _ hA') b hb'
  ·exact h.own A (List.mem_append_right _ hA) b hb
 ·rcases List.mem_cons.1 hA with rfl|hA
  ·obtain ⟨A',hA',hb'⟩:=hb
   exact h.seen A' (List.mem_append_left _ hA') b hb'
  ·exact h.seen A (List.mem_append_right _ hA) b hb
theorem St.ig {S:BS} {w0 w:World} {C1 C2:List aA} (h:St S w0 (Go.Proofs.YthiigjekcdjkkaaGreat.a5 C1::C2) w):St S w0 (C1++C2) w:=by
 obtain ⟨p1,p2⟩:=List.pairwise_cons.1 h.sep
 have hb:=h.holds _ (List.mem_cons_self ..)
 refine ⟨h.keeps,fun A hA=>?_,List.pairwise_append.2 ⟨hb.2,p2,fun A hA B hB b ha hb'=>?_⟩,fun A hA b hb'=>?_,fun A hA b hb'=>?_⟩
 ·rcases List.mem_append.1 hA with hA|hA
  ·exact hb.1 A hA
  ·exact h.holds A (List.mem_cons_of_mem _ hA)
 ·have hs:=p1 B hB b ⟨A,hA,ha⟩ hb'
  exact ⟨fun hw=>hs.1 ⟨A,hA,hw⟩,hs.2⟩
 ·rcases List.mem_append.1 hA with hA|hA
  ·exact h.own _ (List.mem_cons_self ..) b ⟨A,hA,hb'⟩
  ·exact h.own A (List.mem_cons_of_mem _ hA) b hb'
 ·rcases List.mem_append.1 hA with hA|hA
  ·exact h.seen _ (List.mem_cons_self ..) b ⟨A,hA,hb'⟩
  ·exact h.seen A (List.mem_cons_of_mem _ hA) b hb'
/-- from one world to another: A's blocks may have turned, or have gone to new ones: B holds -/
structure Mv (A B:aA) (w w':World):Prop where
 holds:B.holds w'
 keeps:dj A.wf w w'
 wf: ∀ b,B.wf b→A.wf b∨w.heap.size≤b
 ej: ∀ b,B.ej b→A.ej b∨w.heap.size≤b
theorem St.mv {S:BS} {w0 w w':World} {C:List aA} {A B:aA} (i:Nat) (h:St S w0 C w) (hC:C[i]? =some A) (m:Mv A B w w'):St S w0 (C.set i B) w':=by
 have hi:i<C.length:=(List.getElem?_eq_some_iff.1 hC).1
 have hget:C[i]=A:=(List.getElem?_eq_some_iff.1 hC).2
 have hmem:A∈C:=List.mem_of_getElem? hC
 have hsep: ∀ j (hj:j<C.length),j≠i→ ∀ x,(C[j]).ej x→A.ej x→ ¬ (C[j]).wf x∧ ¬ A.wf x:=by
  intro j hj hne x hx he
  rcases Nat.lt_or_gt_of_ne hne with hlt|hlt
  ·have:=List.pairwise_iff_getElem.1 h.sep j i hj hi hlt
   rw [hget] at this
   exact this x hx he
  ·have:=List.pairwise_iff_getElem.1 h.sep i j hi hj hlt
   rw [hget] at this
   exact (this x he hx).symm
 have hnew: ∀ j (hj:j<C.length),j≠i→ ∀ x,(C[j]).ej x→B.ej x→ ¬ (C[j]).wf x∧ ¬ B.wf x:=by
  intro j hj hne x hx he
  have hlt:=(C[j]).lt w (h.holds _ (List.getElem_mem hj)) x hx
  rcases m.ej x he with h1|h1
  ·obtain ⟨h2,h3⟩:=hsep j hj hne x hx h1
   refine ⟨h2,fun hw=>?_⟩
   rcases m.wf x hw with h4|h4
   ·exact h3 h4
   ·omega
  ·omega
 refine ⟨?_,?_,?_,?_,?_⟩
 ·refine ⟨m.keeps.os.trans h.keeps.os,m.keeps.tape.trans h.keeps.tape,m.keeps.output.trans h.keeps.output,Nat.le_trans h.keeps.size m.keeps.size,fun k hkk hn=>?_⟩
  refine (m.keeps.block k (Nat.lt_of_lt_of_le hkk h.keeps.size) (fun e=>?_)).trans (h.keeps.block k hkk hn)
  rcases h.own A hmem k e with h1|h1
  ·omega
  ·exact hn h1
 ·intro X hX
  obtain ⟨j,hj,hjX⟩:=List.mem_iff_getElem.1 hX
  rw [List.getElem_set] at hjX
  split at hjX
  ·subst hjX; exact m.holds
  ·rename_i hne
   subst hjX
   have hj':j<C.length:=by simpa using hj
   have hm:C[j]∈C:=List.getElem_mem hj'
   refine (C[j]).j2 w w' (fun x hx=>m.keeps.block x ((C[j]).lt w (h.holds _ hm) x hx) (fun e=>?_)) (h.holds _ hm)
   exact (hsep j hj' (Ne.symm hne) x hx (A.i_ x e)).2 e
 ·rw [List.pairwise_iff_getElem]
  intro p q hp hq hpq
  have hp':p<C.length:=by simpa using hp
  have hq':q<C.length:=by simpa using hq
  have hs:=List.pairwise_iff_getElem.1 h.sep p q hp' hq' hpq
  rw [List.getElem_set,List.getElem_set]
  split
  ·rename_i e1; subst e1
   rw [if_neg (by omega)]
   exact fun x hx hx'=>(hnew q hq' (by omega) x hx' hx).symm
  ·split
   ·rename_i e1; subst e1
    exact fun x hx hx'=>hnew p hp' (by omega) x hx hx'
   ·exact hs
 ·intro X hX x hx
  obtain ⟨j,hj,hjX⟩:=List.mem_iff_getElem.1 hX
  rw [List.getElem_set] at hjX
  split at hjX
  ·subst hjX
   rcases m.wf x hx with h1|h1
   ·exact h.own A hmem x h1
   ·exact .inl (Nat.le_trans h.keeps.size h1)
  ·subst hjX
   exact h.own _ (List.getElem_mem _) x hx
 ·intro X hX x hx
  obtain ⟨j,hj,hjX⟩:=List.mem_iff_getElem.1 hX
  rw [List.getElem_set] at hjX
  split at hjX
  ·subst hjX
   rcases m.ej x hx with h1|h1
   ·exact h.seen A hmem x h1
   ·exact .inl (Nat.le_trans h.keeps.size h1)
  ·subst hjX
   exact h.seen _ (List.getElem_mem _) x hx
/-- a state that was entered with an assertion's blocks alone, left with others -/
theorem Mv.of {A:aA} {w w':World} {C:List aA} (h:St ⟨A.wf,A.ej⟩ w C w'):Mv A (a5 C) w w':=by
 refine ⟨⟨h.holds,h.sep⟩,h.keeps,?_,?_⟩
 ·rintro b ⟨B,hB,hb⟩; exact (h.own B hB b hb).symm
 ·rintro b ⟨B,hB,hb⟩; exact (h.seen B hB b hb).symm
theorem St.yl {w:World} {C:List aA} (h:(a5 C).holds w):St ⟨(a5 C).wf,(a5 C).ej⟩ w C w:=
 ⟨dj.refl _ _,h.1,h.2,fun A hA b hb=> .inr ⟨A,hA,hb⟩,fun A hA b hb=> .inr ⟨A,hA,hb⟩⟩
/-- what is read by one is what another holds -/
structure BU (B A:aA):Prop where
 holds: ∀ w,B.holds w→A.holds w
 ej: ∀ b,A.ej b→B.ej b
theorem ck (A:aA):BU A A:=⟨fun _ h=>h,fun _ h=>h⟩
theorem fM {A B:aA} (h:BU B A):BU B.ro A:=⟨h.holds,h.ej⟩
theorem B8 {a:Option Addr} {c e sz:Nat} {es:List (List Value)}:BU (own a c e sz es) (rd a es.length sz es):=⟨fun _ h=>pa h,fun b h=>h.2⟩
def Yl (w0:World) (P:Program) (l:Nat) (xs:List (List Value)) (J:Nat→aA→Prop) (Z:aA→Prop):Prop:=
 ∀ k x A w,xs[k]? =some x→J k A→w0.heap.size≤w.heap.size→A.holds w→YieldAt (Fw none) 0 P l x.toArray w fun e w'=>
  (e= .returned (.bool true)∧ ∃ B,J (k+1) B∧Mv A B w w')∨(e= .returned (.bool false)∧ ∃ B,Z B∧Mv A B w w')
def AD (J:Nat→aA→Prop) (Z:aA→Prop) (n:Nat) (A0:aA) (w0:World) (e:Ending) (w':World):Prop:=
 ∃ v,e= .returned v∧((∃ B,J n B∧Mv A0 B w0 w')∨ ∃ B,Z B∧Mv A0 B w0 w')
structure Es (P:Program) (f:FuncId) (fi ca:List Value) (Cp:List aA) (xs:List (List Value)):Prop where
 go:cE P f=true
 run: ∀ (l:Nat) (J:Nat→aA→Prop) (Z:aA→Prop) (A0:aA) (w:World),Yl w P l xs J Z→J 0 A0→A0.holds w→(∀ A∈Cp,A.holds w)→(∀ A∈Cp,wO A0 A.ro)→
  Calls P f (fi++Value.func (.yield l) #[] #[]::ca).toArray w (AD J Z xs.length A0 w)
def Fo (A0:aA) (w0:World) (B:aA):Prop:= ∀ b,B.ej b→A0.ej b∨w0.heap.size≤b
theorem IC {J:Nat→aA→Prop} {Z:aA→Prop} {n:Nat} {A0 B:aA} {w0 w:World} {C:List aA} {v:Value} (i:Nat) (hC:C[i]? =some B) (hJ:J n B) (hF:Fo A0 w0 B) (hs:St ⟨A0.wf,fun _=>True⟩ w0 C w):AD J Z n A0 w0 (.returned v) w:=
 ⟨v,rfl,.inl ⟨B,hJ,hs.holds B (List.mem_of_getElem? hC),hs.keeps,fun b hb=>(hs.own B (List.mem_of_getElem? hC) b hb).symm,hF⟩⟩
theorem FK {J:Nat→aA→Prop} {Z:aA→Prop} {n:Nat} {A0 B:aA} {w0 w:World} {C:List aA} {v:Value} (i:Nat) (hC:C[i]? =some B) (hJ:Z B) (hF:Fo A0 w0 B) (hs:St ⟨A0.wf,fun _=>True⟩ w0 C w):AD J Z n A0 w0 (.returned v) w:=
 ⟨v,rfl,.inr ⟨B,hJ,hs.holds B (List.mem_of_getElem? hC),hs.keeps,fun b hb=>(hs.own B (List.mem_of_getElem? hC) b hb).symm,hF⟩⟩
theorem w9 {P:Program} {f:FuncId} {fn:Func} {c:Code} {args:List Value} {Cp:List aA} {S:BS} {R:Ending→World→Prop} {w:World} (hf:P.funcs[f]? =some fn) (hb:fn.body=some c) (hn:Nat.ble args.length fn.ntmps=true)
 (h: ∀ (Q:dh),(∀ D L C,LJ ⟨P,none,fn.ntmps,S,w⟩ fn R D L C→KJ ⟨P,none,fn.ntmps,S,w⟩ (Q .ret) D L C)→(∀ D L C,LJ ⟨P,none,fn.ntmps,S,w⟩ fn R D L C→KJ ⟨P,none,fn.ntmps,S,w⟩ (Q .normal) D L C)→
  WJ ⟨P,none,fn.ntmps,S,w⟩ c Q [] (E6 args) Cp) (hw:St S w Cp w):Calls P f args.toArray w R:=by
 refine q9 (callsIn_of_wp_marks hf hb trivial ?_ rfl)
 have hle:=Nat.le_of_ble_eq_true hn
 refine h (bodyPostM (Fw none) 0 P fn R) ?_ ?_ _ w ⟨rfl,by simp; omega,fun t v hv=>?_⟩ hw
 ·intro D L C hl a w' hf' hs'
  have:=hl a w' hf' hs'
  show LeavesInM (Fw none) 0 P fn a.tmps R a.defers .returning w'
  rw [hf'.defers]; exact this
 ·intro D L C hl a w' hf' hs'
  have:=hl a w' hf' hs'
  show LeavesInM (Fw none) 0 P fn a.tmps R a.defers .returning w'
  rw [hf'.defers]; exact this
 ·obtain ⟨_,h2⟩:=se args 0 t v hv
  have ht:t<args.length:=by
   have:=(List.getElem?_eq_some_iff.1 h2).1; omega
  simp only [Nat.sub_zero] at h2
  rw [Array.getElem?_append_left (by simpa using ht)]
  simpa using h2
theorem Cz {P:Program} {f:FuncId} {fn:Func} {c:Code} {fi ca:List Value} {Cp:List aA} {xs:List (List Value)} (hgo:cE P f=true) (hf:P.funcs[f]? =some fn) (hb:fn.body=some c) (hn:Nat.ble (fi.length+ca.length+1) fn.ntmps=true)
 (h: ∀ (l:Nat) (J:Nat→aA→Prop) (Z:aA→Prop) (A0:aA) (w0:World) (Q:dh),Yl w0 P l xs J Z→J 0 A0→Fo A0 w0 A0→
  (∀ D L C,LJ ⟨P,none,fn.ntmps,⟨A0.wf,fun _=>True⟩,w0⟩ fn (AD J Z xs.length A0 w0) D L C→KJ ⟨P,none,fn.ntmps,⟨A0.wf,fun _=>True⟩,w0⟩ (Q .ret) D L C)→
  (∀ D L C,LJ ⟨P,none,fn.ntmps,⟨A0.wf,fun _=>True⟩,w0⟩ fn (AD J Z xs.length A0 w0) D L C→KJ ⟨P,none,fn.ntmps,⟨A0.wf,fun _=>True⟩,w0⟩ (Q .normal) D L C)→
  WJ ⟨P,none,fn.ntmps,⟨A0.wf,fun _=>True⟩,w0⟩ c Q [] (E6 (fi++Value.func (.yield l) #[] #[]::ca)) (A0::Cp.map aA.ro)):Es P f fi ca Cp xs:=by
 refine ⟨hgo,fun l J Z A0 w hY hJ hA hCp hsep=>?_⟩
 refine w9 hf hb (by simpa [Nat.add_assoc] using hn) (h l J Z A0 w · hY hJ (fun b hb=> .inl hb)) ?_
 have h0:=pD hCp
 refine ⟨dj.refl _ _,fun A hA'=>?_,List.Pairwise.cons (fun B hB=>?_) h0.sep,fun A hA' b hb=>?_,fun _ _ _ _=> .inr trivial⟩
 ·rcases List.mem_cons.1 hA' with rfl|hA'
  ·exact hA
  ·exact h0.holds A hA'
 ·obtain ⟨B',hB',rfl⟩:=List.mem_map.1 hB
  exact hsep B' hB'
 ·rcases List.mem_cons.1 hA' with rfl|hA'
  ·exact .inr hb
  ·obtain ⟨B',hB',rfl⟩:=List.mem_map.1 hA'
   exact hb.elim
section
variable {E:eI} {ops:Array Oper} {Q:dh} {rest:List Oper} {D:List Deferred} {L:List (Nat×Value)} {C:List aA}
variable {d:Nat} {ty:TypeId} {ps:String} {af:Array Edge} {g:Option (Nat×Bool)}
/-- a call of yield -/
theorem Da {fop:Operand} {xs:Array Operand} {ts:Array TypeId} {l k:Nat} {vs:List Value} {ls:List (List Value)} {J:Nat→aA→Prop} {Z:aA→Prop} {A0 A:aA} (i:Nat) (hY:Yl E.w0 E.P l ls J Z) (hJ:J k A) (hF:Fo A0 E.w0 A) (hg:jv ops L g=true) (hf:ev L fop=some (.func (.yield l) #[] #[]))
 (hx:evs L xs.toList=some vs) (hk:ls[k]? =some vs) (hC:C[i]? =some A) (hd:Nat.blt d E.n=true)
 (k1: ∀ B,J (k+1) B→Fo A0 E.w0 B→RJ E ops Q rest D ((d,.bool true)::L) (C.set i B))
 (k2: ∀ B,Z B→Fo A0 E.w0 B→RJ E ops Q rest D ((d,.bool false)::L) (C.set i B)):
 RJ E ops Q (⟨some d,.call {callee:= .value fop,args:=xs,argTypes:=ts},ty,ps,af,g⟩::rest) D L C:=by
 intro a w hfr hs
 have hd':d<E.n:=by rw [← Nat.blt_eq]; exact hd
 unfold pc
 rw [if_pos (dz hfr hg)]
 have h1:xs.map a.eval=vs.toArray:=by
  have:=hfr.evs hx
  apply Array.ext'
  simp [this]
 obtain ⟨fn,tmps,assign,body,hy,hr⟩:=hY k vs A w hk hJ hs.keeps.size (hs.holds A (List.mem_of_getElem? hC))
 have hrun:(execOp a.eval ⟨some d,.call {callee:= .value fop,args:=xs,argTypes:=ts},ty,ps,af,g⟩).run E.P w= .ok (.round l fn tmps assign body) w:=by
  simp [execOp,resolve,hfr.ev hf,Deferred.ofValue,invoke,h1,hy]
 refine ⟨fun _ _=>trivial,?_⟩
 rw [Oper.semAt_eq _ _ _ (by simp),hrun]
 refine ⟨fun h=>by simp at h,?_⟩
 have hfo: ∀ (B:aA) (w':World),Mv A B w w'→Fo A0 E.w0 B:=fun B w' m b hb=>by
  rcases m.ej b hb with h2|h2
  ·exact hF b h2
  ·exact .inr (Nat.le_trans hs.keeps.size h2)
 have hr':RoundIn (Fw E.r) 0 E.P l fn tmps assign body w _:=hr
 refine hr'.mono fun e w' he=>?_
 rcases he with ⟨rfl,B,hB,m⟩|⟨rfl,B,hB,m⟩
 ·exact k1 B hB (hfo B w' m) _ _ (hfr.put hd' _) (hs.mv i hC m)
 ·exact k2 B hB (hfo B w' m) _ _ (hfr.put hd' _) (hs.mv i hC m)
end
def v7 (ps:List Tmp) (x:List Value) (L:List (Nat×Value)):List (Nat×Value):=(ps.zip x).foldl (fun L p=>(p.1,p.2)::L) L
theorem BJ {n:Nat}: ∀ (ps:List Tmp) (x:List Value) (L:List (Nat×Value)) (tmps:Array Value),(∀ t∈ps,t<n)→Fr n [] L {tmps:=tmps,defers:=[]}→
 Fr n [] (v7 ps x L) {tmps:=(ps.zip x).foldl (fun tmps (p:Tmp×Value)=>tmps.setIfInBounds p.1 p.2) tmps,defers:=[]}:=by
 intro ps
 induction ps with
 |nil=>intro x L tmps _ h; simpa [v7] using h
 |cons t ps ih=>
  intro x L tmps hlt h
  cases x with
  |nil=>simpa [v7] using h
  |cons v x=>
   have:=h.put (hlt t (by simp)) v
   simpa [v7] using ih x _ _ (fun t' ht=>hlt t' (by simp [ht])) this
theorem Cr {E:eI} {Q:dh} {D:List Deferred} {L L0:List (Nat×Value)} {C F:List aA} {g:Operand} {ps:Array Tmp} {assign body:Code} {f:FuncId} {fi ca:List Value} {Cp:List aA} {xs:List (List Value)} {ι κ:Type}
 (inv:Nat→ι→Prop) (Ci:Nat→ι→List aA) (invx:Code→κ→Prop) (Cx:Code→κ→List aA) (isJ isF:List Nat) (y0:ι)
 (hr:E.r=none) (hg:ev L g=some (.func (.func f) fi.toArray ca.toArray)) (hs:Es E.P f fi ca Cp xs)
 (hnd:decide (isJ++isF).Nodup=true) (hJ:br C isJ=Ci 0 y0) (hF:br C isF=F) (h0:inv 0 y0) (hCp: ∀ A∈Cp,∃ B∈F,BU B A)
 (hps: ∀ x∈xs,x.length=ps.size) (hpn:ps.toList.all (fun t=>Nat.blt t E.n)=true) (hL:an L L0)
 (round: ∀ (k:Nat) (x:List Value) (y:ι) (l:Nat) (ra rb:Loop) (S:BS) (w0:World) (K:Act→World→Prop) (Qr:dh),xs[k]? =some x→inv k y→
  (∀ L' C',WJ ⟨E.P,some l,E.n,S,w0⟩ body Qr [] L' (iM l (.loop rb)::C')→KJ ⟨E.P,some l,E.n,S,w0⟩ K [] L' (iM l (.loop ra)::C'))→
  (∀ y' L' C',inv (k+1) y'→(∀ w,St S w0 C' w→St S w0 (iM l (.loop rb)::Ci (k+1) y') w)→KJ ⟨E.P,some l,E.n,S,w0⟩ (Qr .normal) [] L' C')→
  (∀ id z L' C',invx (.exit id) z→(∀ w,St S w0 C' w→St S w0 (iM l (.loop rb)::Cx (.exit id) z) w)→KJ ⟨E.P,some l,E.n,S,w0⟩ (Qr (.exit id)) [] L' C')→
  (∀ z L' C',invx .ret z→(∀ w,St S w0 C' w→St S w0 (iM l (.loop rb)::Cx .ret z) w)→KJ ⟨E.P,some l,E.n,S,w0⟩ (Qr .ret) [] L' C')→
  WJ ⟨E.P,some l,E.n,S,w0⟩ assign (Exit.then K (fun _ _ _=>False)) [] (v7 ps.toList x L0) (iM l (.loop ra)::Ci k y))
 (fin: ∀ r y,inv xs.length y→KJ E (Q .normal) (jD r::D) L0 (iM r (.deferred (some []))::(F++Ci xs.length y)))
 (finx: ∀ r id z,invx (.exit id) z→KJ E (Q (.exit id)) (jD r::D) L0 (iM r (.deferred (some []))::(F++Cx (.exit id) z)))
 (finr: ∀ r z,invx .ret z→KJ E (Q .ret) (jD r::D) L0 (iM r (.deferred (some []))::(F++Cx .ret z))):WJ E (.rangeFunc g ps assign body) Q D L C:=by
 intro a w hf hst
 refine wpIn_rangeFunc fun fn _=>?_
 show ∃ l jD w₁ d w₁' f args w₂,(Instr.enterLoop fn a.tmps ps assign body E.r).run E.P w= .ok (l,jD) w₁∧_
 rw [hr]
 obtain ⟨rec,hrec⟩: ∃ rec:LoopState→Option Code→Loop,rec=fun st pe=>{state:=st,pending:=pe,fn,tmps:=a.tmps,params:=ps,assign,body,defers:=w.heap.size}:=⟨_,rfl⟩
 obtain ⟨W1,hW1⟩: ∃ W1,(w.alloc (.deferred (some []))).alloc (.loop (rec .ready none))=W1:=⟨_,rfl⟩
 have hev:a.eval g= .func (.func f) fi.toArray ca.toArray:=hf.ev hg
 have hent:(Instr.enterLoop fn a.tmps ps assign body none).run E.P w= .ok (w.heap.size+1,[jD w.heap.size]) W1:=by
  rw [← hW1,hrec]; exact run_enterLoop_outer _ _ _ _ _
 -- the state with the record and the block
 have hst1:St E.S E.w0 ((iM (w.heap.size+1) (.loop (rec .ready none))::Ci 0 y0)++(iM w.heap.size (.deferred (some []))::F)) W1:=by
  have h1:St E.S E.w0 (Ci 0 y0++F) w:=St.br (isJ++isF) hnd (by have h1:=hJ; have h2:=hF; unfold Go.Proofs.YthiigjekcdjkkaaGreat.br at h1 h2 ⊢; rw [List.filterMap_append,h1,h2]) hst
  have hn:Cs w W1 [iM (w.heap.size+1) (.loop (rec .ready none)),iM w.heap.size (.deferred (some []))]:=by
   refine ⟨fun A hA=>?_,fun A hA b hb=>?_,?_⟩
   ·rcases List.mem_cons.1 hA with rfl|hA
    ·show W1.heap[w.heap.size+1]? =_
     rw [← hW1]; have:=World.alloc_heap_new (w.alloc (.deferred (some []))) (.loop (rec .ready none)); rwa [World.size_alloc] at this
    ·simp only [List.mem_singleton] at hA; subst hA
     show W1.heap[w.heap.size]? =_
     rw [← hW1]; exact (Below.heap_alloc _ _ _ (by simp)).trans (World.alloc_heap_new w _)
   ·rcases List.mem_cons.1 hA with rfl|hA
    ·have:b=w.heap.size+1:=hb
     omega
    ·simp only [List.mem_singleton] at hA; subst hA
     have:b=w.heap.size:=hb
     omega
   ·refine List.Pairwise.cons (fun B hB b h1 h2=>?_) (List.pairwise_singleton _ _)
    simp only [List.mem_singleton] at hB; subst hB
    have e1:b=w.heap.size+1:=h1
    have e2:b=w.heap.size:=h2
    omega
  have hk:dj no w W1:=by rw [← hW1]; exact (dj.alloc no w _).trans (dj.alloc no _ _)
  have h2:=h1.grow hk hn
  refine h2.perm ?_
  simp only [List.cons_append,List.nil_append]
  exact List.Perm.cons _ (List.perm_middle.symm)
 have hb1:=hst1.nM
 obtain ⟨hs1,hs2⟩:=List.pairwise_cons.1 hb1.sep
 have hA0:=hb1.holds _ (List.mem_cons_self ..)
 let J:Nat→aA→Prop:=fun k A=> ∃ y,inv k y∧A=a5 (iM (w.heap.size+1) (.loop (rec .ready none))::Ci k y)
 let Z:aA→Prop:=fun A=> ∃ c z,(c= .ret∨ ∃ id,c= .exit id)∧invx c z∧A=a5 (iM (w.heap.size+1) (.loop (rec .done (some c)))::Cx c z)
 refine ⟨w.heap.size+1,[jD w.heap.size],W1,{target:= .fn (.func f) ca.toArray,args:=fi.toArray++ #[.func (.yield (w.heap.size+1)) #[] #[]]},W1,f,
  (fi++Value.func (.yield (w.heap.size+1)) #[] #[]::ca).toArray,W1,hent,?_,fun _ _=>trivial,?_,fun h=>by simp at h,?_⟩
 ·simp only [resolve,hev]
  simp [Deferred.ofValue,Act.eval]
 ·have:fi.toArray++ #[Value.func (.yield (w.heap.size+1)) #[] #[]]++ca.toArray=(fi++Value.func (.yield (w.heap.size+1)) #[] #[]::ca).toArray:=by simp
  simp [invoke,mZ hs.go]
 ·refine (nO E.r (hs.run (w.heap.size+1) J Z _ W1 ?_ ⟨y0,h0,rfl⟩ hA0 ?_ ?_)).mono ?_
  ·-- a round
   rintro k x A W hx ⟨y,hy,rfl⟩ _ hA
   have hl:W.heap[w.heap.size+1]? =some (.loop (rec .ready none)):=hA.1 _ (List.mem_cons_self ..)
   have hyl:=run_yield (P:=E.P) (args:=x.toArray) hl (by rw [hrec]; simpa using hps x (List.mem_of_getElem? hx))
   rw [hrec] at hyl
   refine ⟨fn,_,assign,body,hyl,roundIn_of_wpIn trivial ?_⟩
   let A:aA:=a5 (iM (w.heap.size+1) (.loop (rec .ready none))::Ci k y)
   have hfr:Fr E.n [] (v7 ps.toList x L0) {tmps:=(ps.zip x.toArray).foldl (fun tmps (t,a)=>tmps.setIfInBounds t a) a.tmps,defers:=[]}:=by
    have h1:=BJ ps.toList x L0 a.tmps (fun t ht=>by have:=List.all_eq_true.1 hpn t ht; rwa [Nat.blt_eq] at this) ⟨rfl,hf.size,fun t v hv=>hf.at_ t v (hL t v hv)⟩
    rw [← Array.foldl_toList]
    simpa using h1
   have hbusy: ∀ (c:Option Code) (b:Bool),({rec .busy none with state:=if b then .ready else .done,pending:=c}:Loop)=rec (if b then .ready else .done) c:=fun c b=>by rw [hrec]
   have hend: ∀ (c:Option Code) (w1:World) (C':List aA) (S:BS),St S W (iM (w.heap.size+1) (.loop (rec .busy none))::C') w1→
    ∃ w2,(Instr.endRound (w.heap.size+1) c).run E.P w1= .ok (.bool c.isNone) w2∧St S W (iM (w.heap.size+1) (.loop (rec (if c.isNone then .ready else .done) c))::C') w2:=fun c w1 C' S hs1=>by
    have hl1:w1.heap[w.heap.size+1]? =some (.loop (rec .busy none)):=hs1.holds _ (List.mem_cons_self ..)
    refine ⟨_,run_endRound c hl1,?_⟩
    have:=hs1.wK (b:=w.heap.size+1) (A':=iM (w.heap.size+1) (.loop (rec (if c.isNone then .ready else .done) c))) 0 rfl rfl rfl (hE _) (fun _ h=>h) (World.putObj_heap_same (dp hl1))
    rw [hbusy]
    exact this
   refine round k x y (w.heap.size+1) (rec .ready none) (rec .busy none) ⟨A.wf,A.ej⟩ W _ (roundPost E.P (w.heap.size+1) (fun e w'=>(e= .returned (.bool true)∧ ∃ B,J (k+1) B∧Mv A B W w')∨(e= .returned (.bool false)∧ ∃ B,Z B∧Mv A B W w'))) hx hy ?_ ?_ ?_ ?_ _ _ hfr (St.yl hA)
   ·intro L' C' hW a1 w1 hf1 hs1
    have hl1:w1.heap[w.heap.size+1]? =some (.loop (rec .ready none)):=hs1.holds _ (List.mem_cons_self ..)
    refine ⟨_,run_beginRound hl1 (by rw [hrec]),hW _ _ hf1 ?_⟩
    have:=hs1.wK (b:=w.heap.size+1) (A':=iM (w.heap.size+1) (.loop (rec .busy none))) 0 rfl rfl rfl (hE _) (fun _ h=>h) (World.putObj_heap_same (dp hl1))
    have e:({rec .ready none with state:= .busy}:Loop)=rec .busy none:=by rw [hrec]
    rw [e]; exact this
   ·intro y' L' C' hy' hC' a1 w1 hf1 hs1
    obtain ⟨w2,e1,e2⟩:=hend none w1 _ _ (hC' _ hs1)
    exact ⟨_,w2,e1,.inl ⟨rfl,_,⟨y',hy',rfl⟩,Mv.of e2⟩⟩
   ·intro id z L' C' hz hC' a1 w1 hf1 hs1
    obtain ⟨w2,e1,e2⟩:=hend (some (.exit id)) w1 _ _ (hC' _ hs1)
    exact ⟨_,w2,e1,.inr ⟨rfl,_,⟨_,z,.inr ⟨id,rfl⟩,hz,rfl⟩,Mv.of e2⟩⟩
   ·intro z L' C' hz hC' a1 w1 hf1 hs1
    obtain ⟨w2,e1,e2⟩:=hend (some .ret) w1 _ _ (hC' _ hs1)
    exact ⟨_,w2,e1,.inr ⟨rfl,_,⟨_,z,.inl rfl,hz,rfl⟩,Mv.of e2⟩⟩
  ·intro A hA
   obtain ⟨B,hB,hc⟩:=hCp A hA
   exact hc.holds _ (hb1.holds B (List.mem_cons_of_mem _ (List.mem_cons_of_mem _ hB)))
  ·intro A hA b hb hb'
   obtain ⟨B,hB,hc⟩:=hCp A hA
   exact ⟨(hs1 B (List.mem_cons_of_mem _ hB) b hb (hc.ej b hb')).1,fun h=>h⟩
  ·rintro e w' ⟨v,rfl,hh⟩
   have hfin:Fr E.n (jD w.heap.size::D) L0 {a with defers:=[jD w.heap.size]++a.defers}:=⟨by simp [hf.defers],hf.size,fun t v hv=>hf.at_ t v (hL t v hv)⟩
   have hleave: ∀ (st:LoopState) (c:Option Code) (C':List aA),st≠ .busy→Mv (a5 (iM (w.heap.size+1) (.loop (rec .ready none))::Ci 0 y0)) (a5 (iM (w.heap.size+1) (.loop (rec st c))::C')) W1 w'→
    ∃ w2,(Instr.endLoop (w.heap.size+1)).run E.P w'= .ok c w2∧St E.S E.w0 (iM w.heap.size (.deferred (some []))::(F++C')) w2:=fun st c C' hne m=>by
    have h1:=(hb1.mv 0 rfl m).ig
    have h1':St E.S E.w0 ((iM (w.heap.size+1) (.loop (rec st c))::C')++(iM w.heap.size (.deferred (some []))::F)) w':=h1
    have hl1:w'.heap[w.heap.size+1]? =some (.loop (rec st c)):=h1'.holds (iM (w.heap.size+1) (.loop (rec st c))) (by simp)
    refine ⟨_,by have:=run_endLoop (P:=E.P) hl1 (by rw [hrec]; exact hne); rw [this,hrec],?_⟩
    have h2:=h1'.wK (b:=w.heap.size+1) (A':=iM (w.heap.size+1) (.loop {rec st c with state:= .exhausted})) 0 rfl rfl rfl (hE _) (fun _ h=>h) (World.putObj_heap_same (dp hl1))
    have h3:St E.S E.w0 (C'++(iM w.heap.size (.deferred (some []))::F)) _:=h2.take (List.sublist_cons_self _ _)
    rw [hrec] at h3
    refine h3.perm ?_
    exact (List.perm_append_comm).trans (by simp)
   rcases hh with ⟨B,⟨y,hy,rfl⟩,m⟩|⟨B,⟨c,z,hc,hz,rfl⟩,m⟩
   ·obtain ⟨w2,e1,e2⟩:=hleave .ready none _ (by simp) m
    exact ⟨none,w2,e1,fin w.heap.size y hy _ _ hfin e2⟩
   ·obtain ⟨w2,e1,e2⟩:=hleave .done (some c) _ (by simp) m
    refine ⟨some c,w2,e1,?_⟩
    rcases hc with rfl|⟨id,rfl⟩
    ·exact wpIn_ret (finr w.heap.size z hz _ _ hfin e2)
    ·exact wpIn_exit (finx w.heap.size id z hz _ _ hfin e2)
end
section
open Go.RowKit
set_option linter.unusedVariables false
theorem yj {E:eI} {c:Code} {Q:dh} {D:List Deferred} {L:List (Nat×Value)} {C:List aA} (hr:E.r=none) (h:WJ E c (Exit.noGoto Q) D L C):WJ E (.scope c) Q D L C:=by
 intro a w hf hs
 obtain ⟨P,r,n,S,w0⟩:=E
 subst hr
 exact (wpIn_wide (n:=0)).2 (wp_scope_straight ((wpIn_wide (n:=0)).1 (h a w hf hs)))
theorem x7 {E:eI} {l:Nat} {Q:dh} {D:List Deferred} {L:List (Nat×Value)} {C:List aA} (h:KJ E (Q .normal) D L C):WJ E (.label l) Q D L C:=fun a w hf hs=>wpIn_label (h a w hf hs)
theorem eH.eq {P:Program} {f:FuncId} {args:List Value} {Cp:List aA} {u v:Value} (h:eH P f args Cp v) (e:v=u):eH P f args Cp u:=e▸h
/-- a function value that is called: what it hands back -/
def Ap (P:Program) (fv:Value) (args:List Value) (Cp:List aA) (v:Value):Prop:=
 ∃ f fi ca,fv= .func (.func f) fi ca∧eH P f (fi.toList++args++ca.toList) Cp v
theorem nG {P:Program} {f:FuncId} {fi ca args:List Value} {Cp:List aA} {v:Value} (h:eH P f (fi++args++ca) Cp v):Ap P (.func (.func f) fi.toArray ca.toArray) args Cp v:=⟨f,_,_,rfl,by simpa using h⟩
section
variable {E:eI} {ops:Array Oper} {Q:dh} {rest:List Oper} {D:List Deferred} {L:List (Nat×Value)} {C:List aA}
variable {dst:Option Tmp} {d:Nat} {ty:TypeId} {ps:String} {af:Array Edge} {g:Option (Nat×Bool)}
theorem qL {fop:Operand} {xs:Array Operand} {ts:Array TypeId} {fv:Value} {vs:List Value} {Cp:List aA} {v:Value} (hg:jv ops L g=true) (hf:ev L fop=some fv)
 (hx:evs L xs.toList=some vs) (c:Ap E.P fv vs Cp v) (hC:j9 C Cp):SD E ops ⟨dst,.call {callee:= .value fop,args:=xs,argTypes:=ts},ty,ps,af,g⟩ D L C v:=by
 obtain ⟨f,fi,ca,rfl,h⟩:=c
 exact xU hg hf hx rfl h hC
end
theorem St.dup {S:BS} {w0 w:World} {C:List aA} {A:aA} (i:Nat) (h:St S w0 C w) (hC:C[i]? =some A) (hw: ∀ b,¬ A.wf b):St S w0 (A::C) w:=by
 have hm:=List.mem_of_getElem? hC
 refine ⟨h.keeps,fun B hB=>?_,List.Pairwise.cons (fun B hB b ha hb=>⟨hw b,fun hwb=>?_⟩) h.sep,fun B hB=>?_,fun B hB=>?_⟩
 ·rcases List.mem_cons.1 hB with rfl|hB
  ·exact h.holds B hm
  ·exact h.holds B hB
 ·obtain ⟨j,hj,rfl⟩:=List.mem_iff_getElem.1 hB
  obtain ⟨hi,rfl⟩:=List.getElem?_eq_some_iff.1 hC
  rcases Nat.lt_trichotomy i j with hlt|heq|hlt
  ·exact (List.pairwise_iff_getElem.1 h.sep i j hi hj hlt b ha hb).2 hwb
  ·subst heq; exact hw b hwb
  ·exact (List.pairwise_iff_getElem.1 h.sep j i hj hi hlt b hb ha).1 hwb
 ·rcases List.mem_cons.1 hB with rfl|hB
  ·exact h.own B hm
  ·exact h.own B hB
 ·rcases List.mem_cons.1 hB with rfl|hB
  ·exact h.seen B hm
  ·exact h.seen B hB
theorem mh {E:eI} {c:Code} {Q:dh} {D:List Deferred} {L:List (Nat×Value)} {C:List aA} {A:aA} (i:Nat) (hC:C[i]? =some A) (hw: ∀ b,¬ A.wf b) (h:WJ E c Q D L (A::C)):WJ E c Q D L C:=fun a w hf hs=>h a w hf (hs.dup i hC hw)
def Iu (E:eI) (c:Code) (Q:dh) (m:Nat) (D:List Deferred) (L:List (Nat×Value)) (C:List aA):Prop:=
 ∀ a w,Fr E.n D L a→St E.S E.w0 C w→Code.roundsIn (Fw E.r) 0 E.P c Q m a w
theorem pZ {E:eI} {c:Code} {Q:dh} {D:List Deferred} {L:List (Nat×Value)} {C:List aA} (m:Nat) (h:Iu E c Q m D L C):WJ E (.loop c) Q D L C:=fun a w hf hs=>wpIn_loop_rounds m (h a w hf hs)
theorem kJ {E:eI} {c:Code} {Q:dh} {m:Nat} {D:List Deferred} {L:List (Nat×Value)} {C:List aA}
 (h: ∀ K:Act→World→Prop,(∀ D L C,Iu E c Q m D L C→KJ E K D L C)→WJ E c (Exit.then K Q) D L C):Iu E c Q (m+1) D L C:=
 fun a w hf hs=>h (Code.roundsIn (Fw E.r) 0 E.P c Q m) (fun _ _ _ hy a w hf hs=>hy a w hf hs) a w hf hs
theorem mT {E:eI} {x y:Code} {Q:dh} {D:List Deferred} {L:List (Nat×Value)} {C:List aA} {ι:Type} (L':ι→List (Nat×Value)) (C':ι→List aA)
 (hy: ∀ z,WJ E y Q D (L' z) (C' z)) (h: ∀ K:Act→World→Prop,(∀ z,KJ E K D (L' z) (C' z))→WJ E x (Exit.then K Q) D L C):WJ E (.seq x y) Q D L C:=
 aq fun K hK=>h K fun z=>hK _ _ _ (hy z)
theorem lf {L L':List (Nat×Value)} {t:Nat} {b c:Bool} (h1:L.lookup t=some (.bool b)) (h2:c=b) (k:an L L'):an L ((t,.bool c)::L'):=an.cons (h2▸h1) k
theorem aQ {L L':List (Nat×Value)} {t:Nat} {u v:Value} (h1:L.lookup t=some u) (h2:v=u) (k:an L L'):an L ((t,v)::L'):=an.cons (h2▸h1) k
def cZ (C:List aA):aA where
 ej b:= ∃ A∈C,A.ej b
 wf _:=False
 holds w:= ∀ A∈C,A.holds w
 wr:=false
 i_ _ h:=h.elim
 whole h:=by cases h
 lt w h b:=by rintro ⟨A,hA,hb⟩; exact A.lt w (h A hA) b hb
 j2 w w' hk h:=fun A hA=>A.j2 w w' (fun b hb=>hk b ⟨A,hA,hb⟩) (h A hA)
theorem mF {P:Program} {f:FuncId} {args:List Value} {Cp C:List aA} {v:Value} (h:eH P f args Cp v) (hC:j9 C Cp):eH P f args [cZ C] v:=⟨h.go,fun w hw=>h.run w (hC w (hw _ (List.mem_singleton.2 rfl)))⟩
theorem mW {C Cp:List aA} (h:j9 C Cp):jS C (cZ Cp).holds:=fun w hw=>h w hw
def tX (P:Program) (t:TypeId):Option (Nat×TypeId):=
 match P.underlying t with
 |some (.array n e)=>some (n,e)
 |_=>none
theorem E3 {P:Program} {t n e:Nat} (h:tX P t=some (n,e)):P.underlying t=some (.array n e):=by
 unfold tX at h
 cases hu:P.underlying t with
 |none=>simp [hu] at h
 |some d=>cases d<;>simp [hu] at h<;>(obtain ⟨rfl,rfl⟩:=h; rfl)
section
variable {E:eI} {ops:Array Oper} {Q:dh} {rest:List Oper} {D:List Deferred} {L:List (Nat×Value)} {C:List aA}
variable {dst:Option Tmp} {d:Nat} {ty:TypeId} {ps:String} {af:Array Edge} {g:Option (Nat×Bool)}
theorem qa {x ix:Operand} {t e len sz:Nat} {cs vs:List Value} {j:Int} (m:Nat) (hg:jv ops L g=true) (hx:ev L x=some (.agg cs.toArray)) (hi:ev L ix=some (.int .i64 j)) (ht:tX E.P t=some (len,e)) (hk:tK E.P e=some (true,sz)) (hj:j=(m:Int)) (hm:m<len) (hv:(cs.drop (m*sz)).take sz=vs):
 SD E ops ⟨dst,.index t x ix,ty,ps,af,g⟩ D L C (.agg vs.toArray):=
 ed hg (by simp) fun a w hfr _=>by
  have h0:(0:Int)≤(m:Int)∧(m:Int)<(len:Int):=by omega
  subst hj
  simp [execOp,hfr.ev hx,hfr.ev hi,Instr.index,asIntOf,run_underlying (E3 ht),h0,hm,(ng hk w).2,gW hk hv w]
end
end
section
open Go.RowKit
set_option linter.unusedVariables false
def dM (ops:Array Oper) (is:List Nat):List Oper:=is.filterMap (ops[·]?)
theorem kU {ops:Array Oper}: ∀ {is:List Nat},(∀ i∈is,i<ops.size)→ ∀ p:Nat,(dM ops is)[p]? =(is[p]?).bind (ops[·]?):=by
 intro is
 induction is with
 |nil=>intro _ p; simp [dM]
 |cons i is ih=>
  intro h p
  have hi:=h i (by simp)
  have h1:dM ops (i::is)=ops[i]::dM ops is:=by simp [dM,hi]
  rw [h1]
  cases p with
  |zero=>simp [hi]
  |succ p=>simpa using ih (fun j hj=>h j (by simp [hj])) p
theorem mL {ops:Array Oper} {is:List Nat} (h: ∀ i∈is,i<ops.size):(dM ops is).length=is.length:=by
 induction is with
 |nil=>rfl
 |cons i is ih=>
  have hi:=h i (by simp)
  have h1:dM ops (i::is)=ops[i]::dM ops is:=by simp [dM,hi]
  rw [h1]; simp [ih (fun j hj=>h j (by simp [hj]))]
def og (o:Oper):Bool:=match o.op with | .select .. =>false| .defer _=>false|_=>true
def BN (m:Array Nat) (ops:Array Oper) (free T:List Nat):Bool:=
 (free.all (Nat.blt · ops.size))&&(T.all (Nat.blt · ops.size))&&((List.range ops.size).all fun i=>free.contains i||T.contains i)&&(T.all fun i=> !free.contains i)&&
 ((List.range ops.size).all fun i=>match ops[i]? with
  |none=>false
  |some o=>og o&&o.after.toList.all fun e=> !Region.binds .any e||Nat.blt e.on i)&&
 ((List.range free.length).all fun p=>match (free[p]?).bind fun i=>(ops[i]?).map fun o=>(i,o) with
  |none=>false
  |some (i,o)=>o.dst.isSome&&
   ((List.range free.length).all fun q=>q==p||match (free[q]?).bind fun j=>(ops[j]?).map fun o=>(j,o) with
    |none=>false
    |some (j,r)=>match r.dst with
     |none=>false
     |some d=>o.dst != some d&&(!(o.looksAt ops).contains d||(if q<p then gz m j i else gz m i j)))&&
   (T.all fun j=>match ops[j]? with
    |none=>false
    |some r=>r.dst != o.dst&&(match r.dst with |none=>true|some d=> !(o.looksAt ops).contains d||gz m i j)&&(match o.dst with |none=>true|some d=> !(r.looksAt ops).contains d||gz m i j)))&&
 ((List.range T.length).all fun p=>(List.range p).all fun q=>match T[p]?,T[q]? with
  |some i,some j=>i != j&&gz m j i
  |_,_=>false)
def DH (m:Array Nat) (ops:Array Oper) (free T:List Nat) (fe tb:List Bool):Bool:=
 BN m ops free T&&((List.range T.length).all fun q=>(tb[q]?).getD false||(List.range free.length).all fun p=> !(fe[p]?).getD false||match free[p]?,T[q]? with
  |some i,some j=>gz m i j
  |_,_=>false)
def DO (ops:Array Oper) (free T:List Nat) (fe tb:List Bool):Bool:=DH (nx ops) ops free T fe tb
def EH (ops:Array Oper) (free T:List Nat):Bool:=BN (nx ops) ops free T
theorem Aa {ops:Array Oper} {free T:List Nat} {fe tb:List Bool} (h:DO ops free T fe tb=true):EH ops free T=true∧ ∀ (p q i j:Nat),free[p]? =some i→T[q]? =some j→(fe[p]?).getD false=true→(tb[q]?).getD false=true∨gz (nx ops) i j=true:=by
 simp only [DO,DH,Bool.and_eq_true] at h
 refine ⟨h.1,fun p q i j hp hq hf=>?_⟩
 have h2:=h.2
 rw [List.all_eq_true] at h2
 have h3:=h2 q (by simpa using (List.getElem?_eq_some_iff.1 hq).1)
 rw [Bool.or_eq_true] at h3
 rcases h3 with h3|h3
 ·exact .inl h3
 ·rw [List.all_eq_true] at h3
  have h4:=h3 p (by simpa using (List.getElem?_eq_some_iff.1 hp).1)
  simp only [hp,hq,hf,Bool.not_true,Bool.false_or] at h4
  exact .inr h4
structure EZ (ops:Array Oper) (free T:List Nat):Prop where
 fl: ∀ i∈free,i<ops.size
 tl: ∀ i∈T,i<ops.size
 cover: ∀ i,i<ops.size→i∈free∨i∈T
 Ab: ∀ i∈T,i ∉ free
 plain: ∀ (i:Nat) (o:Oper),ops[i]? =some o→(∀ cs b,o.op≠ .select cs b)∧(∀ c,o.op≠ .defer c)
 vy: ∀ (i:Nat) (o:Oper) (e:Edge),ops[i]? =some o→e∈o.after→Region.binds .any e=true→e.on<i
 apart: ∀ (p q i j:Nat) (o r:Oper) (d:Nat),free[p]? =some i→free[q]? =some j→q≠p→ops[i]? =some o→ops[j]? =some r→r.dst=some d→o.dst≠some d∧(d∈o.looksAt ops→(q<p∧gz (nx ops) j i=true)∨(p<q∧gz (nx ops) i j=true))
 ft: ∀ (i j:Nat) (o r:Oper),i∈free→j∈T→ops[i]? =some o→ops[j]? =some r→r.dst≠o.dst∧(∀ d,r.dst=some d→d∈o.looksAt ops→gz (nx ops) i j=true)∧(∀ d,o.dst=some d→d∈r.looksAt ops→gz (nx ops) i j=true)
 chain: ∀ p q i j:Nat,T[p]? =some i→T[q]? =some j→q<p→i≠j∧gz (nx ops) j i=true
theorem EZ.of {ops:Array Oper} {free T:List Nat} (h:EH ops free T=true):EZ ops free T:=by
 simp only [EH,BN,Bool.and_eq_true] at h
 obtain ⟨⟨⟨⟨⟨⟨h1,h2⟩,h3⟩,h4⟩,h5⟩,h6⟩,h7⟩:=h
 rw [List.all_eq_true] at h1 h2 h3 h4 h5 h6 h7
 have hfl: ∀ i∈free,i<ops.size:=fun i hi=>by have:=h1 i hi; rwa [Nat.blt_eq] at this
 have htl: ∀ i∈T,i<ops.size:=fun i hi=>by have:=h2 i hi; rwa [Nat.blt_eq] at this
 refine ⟨hfl,htl,fun i hi=>?_,fun i hi=>?_,fun i o ho=>?_,fun i o e ho he hb=>?_,?_,?_,?_⟩
 ·have:=h3 i (by simpa using hi)
  simpa using this
 ·have:=h4 i hi
  simpa using this
 ·have hi:i<ops.size:=(Array.getElem?_eq_some_iff.1 ho).1
  have:=h5 i (by simpa using hi)
  simp only [ho,Bool.and_eq_true] at this
  have:=this.1
  refine ⟨fun cs b hh=>?_,fun c hh=>?_⟩<;>simp [og,hh] at this
 ·have hi:i<ops.size:=(Array.getElem?_eq_some_iff.1 ho).1
  have:=h5 i (by simpa using hi)
  simp only [ho,Bool.and_eq_true] at this
  have:=this.2
  rw [List.all_eq_true] at this
  have:=this e (by simpa using he)
  rw [hb] at this
  simpa using this
 ·intro p q i j o r d hp hq hne ho hr hd
  have:=h6 p (by simpa using (List.getElem?_eq_some_iff.1 hp).1)
  simp only [hp,ho,Option.bind_some,Option.map_some,Bool.and_eq_true] at this
  have:=this.1.2
  rw [List.all_eq_true] at this
  have:=this q (by simpa using (List.getElem?_eq_some_iff.1 hq).1)
  simp only [hq,hr,hd,Option.bind_some,Option.map_some,Bool.or_eq_true,Bool.and_eq_true,beq_iff_eq,bne_iff_ne,ne_eq] at this
  rcases this with h|⟨h8,h9⟩
  ·exact absurd h hne
  ·refine ⟨h8,fun hm=>?_⟩
   rcases h9 with h9|h9
   ·simp [hm] at h9
   ·by_cases hlt:q<p
    ·rw [if_pos hlt] at h9; exact .inl ⟨hlt,h9⟩
    ·rw [if_neg hlt] at h9; exact .inr ⟨by omega,h9⟩
 ·intro i j o r hi hj ho hr
  obtain ⟨p,hp⟩:=List.mem_iff_getElem?.1 hi
  have:=h6 p (by simpa using (List.getElem?_eq_some_iff.1 hp).1)
  simp only [hp,ho,Option.bind_some,Option.map_some,Bool.and_eq_true] at this
  have:=this.2
  rw [List.all_eq_true] at this
  have:=this j hj
  simp only [hr,Bool.and_eq_true,bne_iff_ne,ne_eq] at this
  refine ⟨this.1.1,fun d hd hm=>?_,fun d hd hm=>?_⟩
  ·have:=this.1.2
   simp [hd,hm] at this; exact this
  ·have:=this.2
   simp [hd,hm] at this; exact this
 ·intro p q i j hp hq hlt
  have:=h7 p (by simpa using (List.getElem?_eq_some_iff.1 hp).1)
  rw [List.all_eq_true] at this
  have:=this q (by simpa using hlt)
  simp only [hp,hq,Bool.and_eq_true,bne_iff_ne,ne_eq] at this
  exact this
def NQ (K:Act→World→Prop):dh
 | .normal=>K
 |_=>fun _ _=>False
/-- the others, one behind the other; the part C' of the state stands throughout, the part C1 as long as the flags say -/
def TJ (E:eI) (ops:Array Oper) (D:List Deferred) (C' C1:List aA) (F:List (Nat×Value)→List aA→Prop):List Bool→List Oper→List (Nat×Value)→List aA→Prop
 |_,[],L,C=>F L C
 |bs,o::T,L,C=> ∀ K:Act→World→Prop,(∀ L' C'',(∀ w,St E.S E.w0 C'' w→St E.S E.w0 C' w)→(bs.headD false=true→ ∀ w,St E.S E.w0 C'' w→St E.S E.w0 C1 w)→TJ E ops D C' C1 F bs.tail T L' C''→KJ E K D L' C'')→RJ E ops (NQ K) [o] D L C
/-- the free ones: an early one (its flag) may read C1 -/
def tw (E:eI) (ops:Array Oper) (D:List Deferred) (C' C1:List aA) (F:List (Nat×Value)→Prop):List Bool→List Oper→List (Nat×Value)→Prop
 |_,[],L=>F L
 |bs,o::rest,L=> ∃ d v,o.dst=some d∧d<E.n∧SD E ops o D L (bif bs.headD false then C1 else C') v∧tw E ops D C' C1 F bs.tail rest ((d,v)::L)
theorem tw.out {E:eI} {ops:Array Oper} {D:List Deferred} {C' C1:List aA} {F:List (Nat×Value)→Prop}: ∀ (bs:List Bool) (os:List Oper) (L:List (Nat×Value)),tw E ops D C' C1 F bs os L→
 ∃ vs:List Value,vs.length=os.length∧F (ve os vs os.length L)∧ ∀ i o,os[i]? =some o→ ∃ d v,o.dst=some d∧d<E.n∧vs[i]? =some v∧SD E ops o D (ve os vs i L) (bif (bs[i]?).getD false then C1 else C') v:=by
 intro bs os
 induction os generalizing bs with
 |nil=>intro L h; exact ⟨[],rfl,by cases bs<;>exact h,fun i o ho=>by simp at ho⟩
 |cons o os ih=>
  intro L h
  have h': ∃ d v,o.dst=some d∧d<E.n∧SD E ops o D L (bif bs.headD false then C1 else C') v∧tw E ops D C' C1 F bs.tail os ((d,v)::L):=by cases bs<;>exact h
  obtain ⟨d,v,ho,hd,hsd,hk⟩:=h'
  obtain ⟨vs,hl,hF,hall⟩:=ih _ _ hk
  refine ⟨v::vs,by simp [hl],by simpa [ve,ho] using hF,fun i o' ho'=>?_⟩
  cases i with
  |zero=>
   simp at ho'; subst ho'
   refine ⟨d,v,ho,hd,by simp,?_⟩
   have e:(bs[0]?).getD false=bs.headD false:=by cases bs<;>rfl
   rw [e]; simpa [ve] using hsd
  |succ i=>
   obtain ⟨d',v',h1,h2,h3,h4⟩:=hall i o' (by simpa using ho')
   refine ⟨d',v',h1,h2,by simpa using h3,?_⟩
   have e:(bs[i+1]?)=bs.tail[i]? :=by cases bs<;>simp
   rw [e]; simpa [ve,ho] using h4
theorem yv {E:eI} {ops:Array Oper} {o:Oper} (hsel: ∀ cs b,o.op≠ .select cs b) (hdef: ∀ c,o.op≠ .defer c) {a a':Act} (hl: ∀ t∈o.looksAt ops,a.tmps[t]? =a'.tmps[t]?) {w:World}
 {K N:Act→World→Prop} {Q:dh} (h:pc E.r E.P ops (NQ K) [o] a' w) (hK: ∀ b w',K b w'→b.defers=a'.defers) (hn: ∀ u w',K (a'.put o.dst u) w'→N (a.put o.dst u) w'):
 if Region.wanted o (yielded ops a.tmps) then o.wpIn (Fw E.r) 0 E.P a w N Q else (∀ f,o.about E.P w a.eval=some f→(Fw E.r).fn f)∧N (a.put o.dst undef) w:=by
 rw [pj hl]
 unfold pc at h
 by_cases hw:Region.wanted o (yielded ops a'.tmps)=true
 ·rw [if_pos hw] at h ⊢
  refine ⟨fun _ _=>trivial,?_⟩
  have h2:=h.2
  rw [Oper.semAt_eq _ _ _ hdef] at h2 ⊢
  rw [execOp_congr (ρ:=a.eval) (ρ':=a'.eval) o hsel (tu hl)]
  generalize (execOp a'.eval o).run E.P w=res at h2
  cases res with
  |halt x w'=>cases x<;>simp [Oper.uponIn,NQ] at h2
  |ok x w'=>
   cases x with
   |value u=>exact hn u w' h2
   |skip=>exact hn _ w' h2
   |defer dd=>
    have h3:=hK _ _ h2
    have:=congrArg List.length h3
    simp [Act.put] at this
    cases ho:o.dst<;>simp [ho] at this
   |enter f args=>
    refine ⟨h2.1,h2.2.mono fun e w'' he=>?_⟩
    cases e with
    |returned u=>exact hn u w'' he
    |panicked ch=>exact he.elim
    |outgrown=>obtain ⟨_,_,hF⟩:=he; exact hF.elim
   |row x args=>exact ⟨h2.1,h2.2.mono fun u w'' he=>hn u w'' he⟩
   |round l f tmps asl bd=>
    refine ⟨h2.1,h2.2.mono fun e w'' he=>?_⟩
    cases e with
    |returned u=>exact hn u w'' he
    |panicked ch=>exact he.elim
    |outgrown=>obtain ⟨_,_,hF⟩:=he; exact hF.elim
   |_=>simp [Oper.uponIn] at h2
 ·rw [if_neg hw] at h ⊢
  exact ⟨fun _ _=>trivial,hn _ w h⟩
set_option maxHeartbeats 1000000 in
theorem er {E:eI} {id:Nat} {ops:Array Oper} {Q:dh} {D:List Deferred} {L:List (Nat×Value)} {C:List aA} (hm:E.P.follows .mixedOrders=true) (free T:List Nat) (fe tb:List Bool) (C' C1:List aA) (hc:DO ops free T fe tb=true)
 (hC: ∀ w,St E.S E.w0 C w→St E.S E.w0 C' w) (hC1: ∀ w,St E.S E.w0 C w→St E.S E.w0 C1 w)
 (h:tw E ops D C' C1 (fun L'=>TJ E ops D C' C1 (fun L C=>KJ E (Q .normal) D L C) tb (dM ops T) L' C) fe (dM ops free) L):WJ E (.region id ops true) Q D L C:=by
 obtain ⟨hc,hc4⟩:=Aa hc
 have hc:=EZ.of hc
 intro a0 w0 hf0 hs0
 refine wpIn_region_any hm ?_
 have hs1:St E.S E.w0 C ({w0 with drawn:=w0.drawn+1}:World):=hs0.same (dj.drew no w0)
 obtain ⟨vs,hvl,hF,hall⟩:=tw.out _ _ _ h
 have hfl:=mL hc.fl
 have hgf: ∀ (p:Nat) (i:Nat) (o:Oper),free[p]? =some i→ops[i]? =some o→(dM ops free)[p]? =some o:=fun p i o hp ho=>by rw [kU hc.fl,hp]; exact ho
 have hfg: ∀ (p:Nat) (o:Oper),(dM ops free)[p]? =some o→ ∃ i,free[p]? =some i∧ops[i]? =some o:=fun p o h=>by
  rw [kU hc.fl] at h
  cases hp:free[p]? with
  |none=>simp [hp] at h
  |some i=>exact ⟨i,rfl,by simpa [hp] using h⟩
 have hdlt: ∀ (j:Nat) (o:Oper) (d:Nat),(dM ops free)[j]? =some o→o.dst=some d→d<E.n:=fun j o d ho hd=>by
  obtain ⟨d',v,h1,h2,_⟩:=hall j o ho
  rw [h1] at hd; cases hd; exact h2
 -- all is listed
 have done: ∀ (listed:Array Bool) (a:Act) (w:World) (k:Nat) (Lk:List (Nat×Value)) (Ck:List aA) (af:Act),(∀ i,i<ops.size→listed.getD i false=true)→
  (∀ m i,T[m]? =some i→(listed.getD i false=true↔m<k))→a.defers=D→a.tmps.size=E.n→
  TJ E ops D C' C1 (fun L C=>KJ E (Q .normal) D L C) (tb.drop k) (dM ops (T.drop k)) Lk Ck→Fr E.n D Lk af→St E.S E.w0 Ck w→
  (∀ t,(∀ (p i:Nat) (o:Oper),free[p]? =some i→ops[i]? =some o→o.dst≠some t)→af.tmps[t]? =a.tmps[t]?)→
  (∀ (p i:Nat) (o:Oper) (d:Nat),free[p]? =some i→ops[i]? =some o→o.dst=some d→af.tmps[d]? =vs[p]? ∧(listed.getD i false=true→a.tmps[d]? =vs[p]?))→Q .normal a w:=by
  intro listed a w k Lk Ck af hal hTk hd hz hT hfr hst hslot hfree
  have hk:T.drop k=[]:=by
   rw [List.drop_eq_nil_iff]
   rcases Nat.lt_or_ge k T.length with hlt|hge
   ·have hi:=(hTk k _ (List.getElem?_eq_getElem hlt)).1 (hal _ (hc.tl _ (List.getElem_mem hlt)))
    omega
   ·exact hge
  rw [hk] at hT
  have hT:KJ E (Q .normal) D Lk Ck:=by cases hb:tb.drop k<;>(rw [hb] at hT; exact hT)
  refine hT a w ⟨hd,hz,fun t v hv=>?_⟩ hst
  rw [← hfr.at_ t v hv]
  by_cases hw: ∃ (p i:Nat) (o:Oper),free[p]? =some i∧ops[i]? =some o∧o.dst=some t
  ·obtain ⟨p,i,o,hp,ho,hdst⟩:=hw
   obtain ⟨e1,e2⟩:=hfree p i o t hp ho hdst
   rw [e1,e2 (hal i (hc.fl i (List.mem_of_getElem? hp)))]
  ·exact (hslot t (fun p i o hp ho hdst=>hw ⟨p,i,o,hp,ho,hdst⟩)).symm
 have key: ∀ (fuel:Nat) (listed:Array Bool) (a:Act) (w:World) (k:Nat) (Lk:List (Nat×Value)) (Ck:List aA) (af:Act),listed.size=ops.size→(wN ops.size listed).length≤fuel→(∀ j,listed.getD j false=true→qv ops (fun k=>listed.getD k false=true) j)→
  (∀ m i,T[m]? =some i→(listed.getD i false=true↔m<k))→a.defers=D→a.tmps.size=E.n→
  TJ E ops D C' C1 (fun L C=>KJ E (Q .normal) D L C) (tb.drop k) (dM ops (T.drop k)) Lk Ck→Fr E.n D Lk af→St E.S E.w0 Ck w→(∀ w,St E.S E.w0 Ck w→St E.S E.w0 C' w)→(∀ (p i:Nat),free[p]? =some i→(fe[p]?).getD false=true→listed.getD i false=false→ ∀ w,St E.S E.w0 Ck w→St E.S E.w0 C1 w)→
  (∀ t,(∀ (p i:Nat) (o:Oper),free[p]? =some i→ops[i]? =some o→o.dst≠some t)→af.tmps[t]? =a.tmps[t]?)→
  (∀ t,(∀ (i:Nat) (o:Oper),listed.getD i false=true→ops[i]? =some o→o.dst≠some t)→a.tmps[t]? =a0.tmps[t]?)→
  (∀ (p i:Nat) (o:Oper) (d:Nat),free[p]? =some i→ops[i]? =some o→o.dst=some d→af.tmps[d]? =vs[p]? ∧(listed.getD i false=true→a.tmps[d]? =vs[p]?))→
  wpAnyIn (Fw E.r) 0 E.P .any ops Q fuel listed a w:=by
  intro fuel
  induction fuel with
  |zero=>
   intro listed a w k Lk Ck af hsz hu hcl hTk hd hz hT hfr hst hsub hsub1 hslot hold hfree
   have hall': ∀ i,i<ops.size→listed.getD i false=true:=fun i hi=>by
    cases hg:listed.getD i false with
    |true=>rfl
    |false=>
     have:=List.length_pos_of_mem (lR.2 ⟨hi,hg⟩)
     omega
   refine ⟨?_,done listed a w k Lk Ck af hall' hTk hd hz hT hfr hst hslot hfree⟩
   rw [List.eq_nil_iff_forall_not_mem]
   intro i hi
   obtain ⟨h1,h2,_⟩:=kF hsz hi
   rw [hall' i h1] at h2; cases h2
  |succ fuel ih=>
   intro listed a w k Lk Ck af hsz hu hcl hTk hd hz hT hfr hst hsub hsub1 hslot hold hfree
   refine ⟨fun hnil=>?_,fun i hi=>?_⟩
   ·refine done listed a w k Lk Ck af (fun i hi=>?_) hTk hd hz hT hfr hst hslot hfree
    cases hg:listed.getD i false with
    |true=>rfl
    |false=>
     exfalso
     have hex: ∃ i,i<ops.size∧listed.getD i false=false:=⟨i,hi,hg⟩
     obtain ⟨j,hj,hmin⟩:=exists_least hex
     have hr:j∈Region.ready .any ops listed:=po hsz hj.1 hj.2 (fun o e ho he hb=>by
      have h1:=hc.vy j o e ho he hb
      cases hg:listed.getD e.on false with
      |true=>exact hg
      |false=>exact absurd (hmin e.on ⟨by omega,hg⟩) (by omega))
     rw [hnil] at hr; cases hr
   ·obtain ⟨hi1,hi2,hi3⟩:=kF hsz hi
    obtain ⟨o,ho⟩: ∃ o,ops[i]? =some o:=⟨ops[i],Array.getElem?_eq_getElem hi1⟩
    obtain ⟨hsel,hdef⟩:=hc.plain i o ho
    have hset: ∀ j,(listed.setIfInBounds i true).getD j false=if j=i then true else listed.getD j false:=fun j=>nV (by omega) false
    have hun:=uE (n:=ops.size) (i:=i) (listed:=listed) (by omega) (lR.2 ⟨hi1,hi2⟩)
    have hcl': ∀ j,(listed.setIfInBounds i true).getD j false=true→qv ops (fun k=>(listed.setIfInBounds i true).getD k false=true) j:=by
     intro j hj o' e ho' he hb
     show (listed.setIfInBounds i true).getD e.on false=true
     rw [hset] at hj ⊢
     by_cases e1:e.on=i
     ·simp [e1]
     ·simp only [e1,if_false]
      by_cases e2:j=i
      ·subst e2; exact hi3 o' e ho' he hb
      ·simp only [e2,if_false] at hj; exact hcl j hj o' e ho' he hb
    have hanc: ∀ j,gz (nx ops) j i=true→listed.getD j false=true:=fun j hj=>g6 (S:=fun k=>listed.getD k false=true) hcl hj hi3
    have hnanc: ∀ j,gz (nx ops) i j=true→listed.getD j false=false:=fun j hj=>by
     cases hg:listed.getD j false with
     |false=>rfl
     |true=>
      have:=g6 (S:=fun k=>listed.getD k false=true) hcl hj (hcl j hg)
      rw [this] at hi2; cases hi2
    unfold wpOpIn
    simp only [ho]
    rcases hc.cover i hi1 with hin|hin
    ·-- a free one
     obtain ⟨p,hp⟩:=List.mem_iff_getElem?.1 hin
     obtain ⟨d,v,hod,hdn,hvi,hsd⟩:=hall p o (hgf p i o hp ho)
     have hfrp:=jO (dM ops free) vs p L a0 hdlt hf0
     have hlook: ∀ t∈o.looksAt ops,a.tmps[t]? =(jR (dM ops free) vs p a0).tmps[t]? :=by
      intro t htl
      by_cases hw: ∃ (q j:Nat) (r:Oper),free[q]? =some j∧q≠p∧ops[j]? =some r∧r.dst=some t
      ·obtain ⟨q,j,r,hq,hne,hr,hrd⟩:=hw
       obtain ⟨d',v',e1,e2,e3,_⟩:=hall q r (hgf q j r hq hr)
       rw [hrd] at e1; cases e1
       have hap:=hc.apart p q i j o r t hp hq hne ho hr hrd
       rcases hap.2 htl with ⟨hlt,ha⟩|⟨hlt,ha⟩
       ·rw [(hfree q j r t hq hr hrd).2 (hanc j ha),e3]
        refine (jQ (dM ops free) vs p a0 q r t v' hlt (hgf q j r hq hr) hrd (by rw [hf0.size]; exact e2) e3 (fun m u hm hne' hu=>?_)).symm
        obtain ⟨x,hx1,hx2⟩:=hfg m u hu
        exact (hc.apart m q x j u r t hx1 hq (Ne.symm hne') hx2 hr hrd).1
       ·have hnS:=hnanc j ha
        refine (hold t (fun m u hm hu hud=>?_)).trans (ep (dM ops free) vs p a0 t (fun m u hm hu hud=>?_)).symm
        ·rcases hc.cover m (Array.getElem?_eq_some_iff.1 hu).1 with hmf|hmT
         ·obtain ⟨x,hx⟩:=List.mem_iff_getElem?.1 hmf
          by_cases e:x=q
          ·subst e; rw [hq] at hx; cases hx; rw [hm] at hnS; cases hnS
          ·exact (hc.apart x q m j u r t hx hq (Ne.symm e) hu hr hrd).1 hud
         ·exact (hc.ft j m r u (List.mem_of_getElem? hq) hmT hr hu).1 (by rw [hud,hrd])
        ·obtain ⟨x,hx1,hx2⟩:=hfg m u hu
         exact (hc.apart m q x j u r t hx1 hq (by omega) hx2 hr hrd).1 hud
      ·refine (hold t (fun m u hm hu hud=>?_)).trans (ep (dM ops free) vs p a0 t (fun m u hm hu hud=>?_)).symm
       ·rcases hc.cover m (Array.getElem?_eq_some_iff.1 hu).1 with hmf|hmT
        ·obtain ⟨x,hx⟩:=List.mem_iff_getElem?.1 hmf
         by_cases e:x=p
         ·subst e; rw [hp] at hx; cases hx; rw [hm] at hi2; cases hi2
         ·exact hw ⟨x,m,u,hx,e,hu,hud⟩
        ·have:=hnanc m ((hc.ft i m o u hin hmT ho hu).2.1 t hud htl)
         rw [hm] at this; cases this
       ·obtain ⟨x,hx1,hx2⟩:=hfg m u hu
        exact hw ⟨m,x,u,hx1,by omega,hx2,hud⟩
     have hTi: ∀ m j,T[m]? =some j→j≠i:=fun m j hmj e=>hc.Ab j (List.mem_of_getElem? hmj) (e▸hin)
     have hgo: ∀ w',dj no w w'→wpAnyIn (Fw E.r) 0 E.P .any ops Q fuel (listed.setIfInBounds i true) (a.put (some d) v) w':=by
      intro w' hk
      refine ih _ _ w' k Lk Ck af (by simpa using hsz) (by omega) hcl' (fun m j hmj=>?_) hd (by simp [Act.put,hz]) hT hfr (hst.same hk) hsub (fun p' i' hp' hf' hl'=>hsub1 p' i' hp' hf' (by rw [hset] at hl'; by_cases e:i'=i; (rw [if_pos e] at hl'; cases hl'); (rwa [if_neg e] at hl'))) (fun t ht=>?_) (fun t ht=>?_) (fun q j r d' hq hr hrd=>?_)
      ·rw [hset,if_neg (hTi m j hmj)]; exact hTk m j hmj
      ·have hne:d≠t:=fun e=>ht p i o hp ho (by rw [hod,e])
       simp only [Act.put]
       rw [Array.getElem?_setIfInBounds_ne hne]
       exact hslot t ht
      ·have hne:d≠t:=fun e=>ht i o (by rw [hset]; simp) ho (by rw [hod,e])
       simp only [Act.put]
       rw [Array.getElem?_setIfInBounds_ne hne]
       exact hold t (fun m u hm hu=>ht m u (by rw [hset]; split<;>simp [hm]) hu)
      ·refine ⟨(hfree q j r d' hq hr hrd).1,fun hl=>?_⟩
       by_cases e:q=p
       ·subst e
        rw [hp] at hq; cases hq
        rw [ho] at hr; cases hr
        rw [hod] at hrd; cases hrd
        simp only [Act.put]
        rw [Array.getElem?_setIfInBounds_self_of_lt (by rw [hz]; exact hdn),hvi]
       ·have hne:=(hc.apart p q i j o r d' hp hq e ho hr hrd).1
        simp only [Act.put]
        rw [Array.getElem?_setIfInBounds_ne (fun h=>hne (by rw [hod,h]))]
        refine (hfree q j r d' hq hr hrd).2 ?_
        rw [hset] at hl
        by_cases e2:j=i
        ·subst e2
         exact absurd (by rw [ho] at hr; cases hr; rw [hod] at hrd ⊢; exact hrd) hne
        ·simpa [e2] using hl
     refine pJ hsd hod hdn hsel hdef hfrp hlook ?_ hgo
     cases hfl:(fe[p]?).getD false with
     |true=>exact hsub1 p i hp hfl hi2 w hst
     |false=>exact hsub w hst
    ·-- one of the others
     obtain ⟨m,hm'⟩:=List.mem_iff_getElem?.1 hin
     have hmk:m=k:=by
      have h1: ¬ m<k:=fun h=>by have:=(hTk m i hm').2 h; rw [this] at hi2; cases hi2
      rcases Nat.lt_or_ge k m with h2|h2
      ·have hkT:k<T.length:=by have:=(List.getElem?_eq_some_iff.1 hm').1; omega
       have:=hanc _ (hc.chain m k i _ hm' (List.getElem?_eq_getElem hkT) h2).2
       have:=(hTk k _ (List.getElem?_eq_getElem hkT)).1 this
       omega
      ·omega
     subst hmk
     have hdrop:dM ops (T.drop m)=o::dM ops (T.drop (m+1)):=by
      have hlt:=(List.getElem?_eq_some_iff.1 hm').1
      have hx:T[m]=i:=(List.getElem?_eq_some_iff.1 hm').2
      rw [List.drop_eq_getElem_cons hlt,hx]
      simp [dM,ho]
     rw [hdrop] at hT
     have hbh:(tb.drop m).headD false=(tb[m]?).getD false:=by rw [List.headD_eq_head?_getD,List.head?_drop]
     have hbt:(tb.drop m).tail=tb.drop (m+1):=by simp
     have hT: ∀ K:Act→World→Prop,(∀ L' C'',(∀ w,St E.S E.w0 C'' w→St E.S E.w0 C' w)→((tb.drop m).headD false=true→ ∀ w,St E.S E.w0 C'' w→St E.S E.w0 C1 w)→TJ E ops D C' C1 (fun L C=>KJ E (Q .normal) D L C) (tb.drop m).tail (dM ops (T.drop (m+1))) L' C''→KJ E K D L' C'')→RJ E ops (NQ K) [o] D Lk Ck:=by
      cases hb:tb.drop m<;>(rw [hb] at hT; exact hT)
     rw [hbh,hbt] at hT
     have hlook: ∀ t∈o.looksAt ops,a.tmps[t]? =af.tmps[t]? :=by
      intro t htl
      by_cases hw: ∃ (q j:Nat) (r:Oper),free[q]? =some j∧ops[j]? =some r∧r.dst=some t
      ·obtain ⟨q,j,r,hq,hr,hrd⟩:=hw
       have ha:=(hc.ft j i r o (List.mem_of_getElem? hq) hin hr ho).2.2 t hrd htl
       obtain ⟨e1,e2⟩:=hfree q j r t hq hr hrd
       rw [e1,e2 (hanc j ha)]
      ·exact (hslot t (fun q j r hq hr hrd=>hw ⟨q,j,r,hq,hr,hrd⟩)).symm
     refine yv hsel hdef hlook (hT (fun af' w'=>af'.defers=D∧ ∃ L' C'',(∀ w,St E.S E.w0 C'' w→St E.S E.w0 C' w)∧((tb[m]?).getD false=true→ ∀ w,St E.S E.w0 C'' w→St E.S E.w0 C1 w)∧TJ E ops D C' C1 (fun L C=>KJ E (Q .normal) D L C) (tb.drop (m+1)) (dM ops (T.drop (m+1))) L' C''∧Fr E.n D L' af'∧St E.S E.w0 C'' w')
      (fun L' C'' h1 h1' h2 af' w' h3 h4=>⟨h3.defers,L',C'',h1,h1',h2,h3,h4⟩) af w hfr hst) (fun b w' hb=>hb.1.trans hfr.defers.symm) ?_
     rintro u w' ⟨_,L',C'',h1,h1',h2,h3,h4⟩
     have hput: ∀ (b:Act) (t:Nat),o.dst≠some t→(b.put o.dst u).tmps[t]? =b.tmps[t]? :=fun b t hne=>by
      cases hod:o.dst with
      |none=>rfl
      |some d=>simp only [Act.put]; rw [Array.getElem?_setIfInBounds_ne (fun e=>hne (by rw [hod,e]))]
     have hputs: ∀ (b:Act),(b.put o.dst u).tmps.size=b.tmps.size:=fun b=>by cases o.dst<;>simp [Act.put]
     refine ih _ _ w' (m+1) L' C'' (af.put o.dst u) (by simpa using hsz) (by omega) hcl' (fun q j hq=>?_) (by cases o.dst<;>exact hd) (by rw [hputs]; exact hz) h2 h3 h4 h1 (fun p' i' hp' hf' hl'=>by
      rcases hc4 p' m i' i hp' hm' hf' with h5|h5
      ·exact h1' h5
      ·have h6:=hanc i' h5
       rw [hset] at hl'
       by_cases e:i'=i
       ·rw [if_pos e] at hl'; cases hl'
       ·rw [if_neg e,h6] at hl'; cases hl') (fun t ht=>?_) (fun t ht=>?_) (fun q j r d' hq hr hrd=>?_)
     ·rw [hset]
      by_cases e:j=i
      ·subst e
       simp only [if_true,true_iff]
       rcases Nat.lt_trichotomy q m with h5|h5|h5
       ·omega
       ·omega
       ·exact absurd rfl (hc.chain q m j j hq hm' h5).1
      ·simp only [e,if_false]
       rw [hTk q j hq]
       constructor
       ·omega
       ·intro h5
        rcases Nat.lt_or_ge q m with h6|h6
        ·exact h6
        ·have:q=m:=by omega
         subst this; rw [hm'] at hq; cases hq; exact absurd rfl e
     ·by_cases hod:o.dst=some t
      ·rw [hod]
       simp only [Act.put]
       by_cases hlt:t<E.n
       ·rw [Array.getElem?_setIfInBounds_self_of_lt (by rw [hfr.size]; exact hlt),Array.getElem?_setIfInBounds_self_of_lt (by rw [hz]; exact hlt)]
       ·rw [Array.getElem?_eq_none (by rw [Array.size_setIfInBounds,hfr.size]; exact Nat.le_of_not_lt hlt),Array.getElem?_eq_none (by rw [Array.size_setIfInBounds,hz]; exact Nat.le_of_not_lt hlt)]
      ·rw [hput a t hod,hput af t hod]; exact hslot t ht
     ·rw [hput a t (ht i o (by rw [hset]; simp) ho)]
      exact hold t (fun m' u' hm'' hu'=>ht m' u' (by rw [hset]; split<;>simp [hm'']) hu')
     ·have hne:o.dst≠some d':=fun e=>(hc.ft j i r o (List.mem_of_getElem? hq) hin hr ho).1 (by rw [e,hrd])
      rw [hput a d' hne,hput af d' hne]
      refine ⟨(hfree q j r d' hq hr hrd).1,fun hl=>(hfree q j r d' hq hr hrd).2 ?_⟩
      rw [hset] at hl
      have:j≠i:=fun e=>hc.Ab i hin (e▸List.mem_of_getElem? hq)
      simpa [this] using hl
 refine key ops.size (Array.replicate ops.size false) a0 _ 0 _ C (jR (dM ops free) vs (dM ops free).length a0) (by simp) ?_ ?_ ?_ hf0.defers hf0.size (by simpa using hF) (jO _ vs _ L a0 hdlt hf0) hs1 hC (fun _ _ _ _ _=>hC1) ?_ (fun _ _=>rfl) ?_
 ·unfold wN; exact Nat.le_trans (List.length_filter_le _ _) (by simp)
 ·intro j hj
  simp only [Array.getD_eq_getD_getElem?,Array.getElem?_replicate] at hj
  split at hj<;>simp at hj
 ·intro m i _
  simp only [Array.getD_eq_getD_getElem?,Array.getElem?_replicate]
  split<;>simp
 ·intro t ht
  refine ep _ vs _ a0 t (fun m u _ hu hud=>?_)
  obtain ⟨x,hx1,hx2⟩:=hfg m u hu
  exact ht m x u hx1 hx2 hud
 ·intro p i o d hp ho hod
  obtain ⟨d',v',e1,e2,e3,_⟩:=hall p o (hgf p i o hp ho)
  rw [hod] at e1; cases e1
  refine ⟨?_,fun hl=>?_⟩
  ·rw [e3]
   refine jQ _ vs _ a0 p o d v' (by rw [hfl]; exact (List.getElem?_eq_some_iff.1 hp).1) (hgf p i o hp ho) hod (by rw [hf0.size]; exact e2) e3 (fun m u hm hne hu=>?_)
   obtain ⟨x,hx1,hx2⟩:=hfg m u hu
   exact (hc.apart m p x i u o d hx1 hp (Ne.symm hne) hx2 ho hod).1
  ·simp only [Array.getD_eq_getD_getElem?,Array.getElem?_replicate] at hl
   split at hl<;>simp at hl
theorem fw {E:eI} {ops:Array Oper} {D:List Deferred} {C' C1:List aA} {F:List (Nat×Value)→Prop} {bs:List Bool} {l:List Oper} {L:List (Nat×Value)} (hl:l=[]) (h:F L):tw E ops D C' C1 F bs l L:=by subst hl; cases bs<;>exact h
theorem GO {E:eI} {ops:Array Oper} {D:List Deferred} {C' C1:List aA} {F:List (Nat×Value)→Prop} {bs:List Bool} {o:Oper} {l rest:List Oper} {L:List (Nat×Value)} {v:Value} {d:Nat} (h:SD E ops o D L C' v) (hl:l=o::rest) (ho:o.dst=some d) (hd:Nat.blt d E.n=true) (k:tw E ops D C' C1 F bs rest ((d,v)::L)):
 tw E ops D C' C1 F (false::bs) l L:=by subst hl; exact ⟨d,v,ho,by rw [← Nat.blt_eq]; exact hd,h,k⟩
theorem Gp {E:eI} {ops:Array Oper} {D:List Deferred} {C' C1:List aA} {F:List (Nat×Value)→Prop} {bs:List Bool} {o:Oper} {l rest:List Oper} {L:List (Nat×Value)} {v:Value} {d:Nat} (h:SD E ops o D L C1 v) (hl:l=o::rest) (ho:o.dst=some d) (hd:Nat.blt d E.n=true) (k:tw E ops D C' C1 F bs rest ((d,v)::L)):
 tw E ops D C' C1 F (true::bs) l L:=by subst hl; exact ⟨d,v,ho,by rw [← Nat.blt_eq]; exact hd,h,k⟩
theorem g_ {E:eI} {ops:Array Oper} {D:List Deferred} {C' C1:List aA} {F:List (Nat×Value)→List aA→Prop} {bs:List Bool} {l:List Oper} {L:List (Nat×Value)} {C:List aA} (hl:l=[]) (h:F L C):TJ E ops D C' C1 F bs l L C:=by subst hl; cases bs<;>exact h
theorem cL {E:eI} {ops:Array Oper} {D:List Deferred} {C' C1:List aA} {F:List (Nat×Value)→List aA→Prop} {bs:List Bool} {l T:List Oper} {o:Oper} {L:List (Nat×Value)} {C:List aA} (hl:l=o::T)
 (h: ∀ K:Act→World→Prop,(∀ L' C'',(∀ w,St E.S E.w0 C'' w→St E.S E.w0 C' w)→TJ E ops D C' C1 F bs T L' C''→KJ E K D L' C'')→RJ E ops (NQ K) [o] D L C):TJ E ops D C' C1 F (false::bs) l L C:=by
 subst hl; exact fun K hK=>h K fun L' C'' h1 h2=>hK L' C'' h1 (fun h=>by cases h) h2
theorem jm {E:eI} {ops:Array Oper} {D:List Deferred} {C' C1:List aA} {F:List (Nat×Value)→List aA→Prop} {bs:List Bool} {l T:List Oper} {o:Oper} {L:List (Nat×Value)} {C:List aA} (hl:l=o::T)
 (h: ∀ K:Act→World→Prop,(∀ L' C'',(∀ w,St E.S E.w0 C'' w→St E.S E.w0 C' w)→(∀ w,St E.S E.w0 C'' w→St E.S E.w0 C1 w)→TJ E ops D C' C1 F bs T L' C''→KJ E K D L' C'')→RJ E ops (NQ K) [o] D L C):TJ E ops D C' C1 F (true::bs) l L C:=by
 subst hl; exact fun K hK=>h K fun L' C'' h1 h3 h2=>hK L' C'' h1 (fun _=>h3) h2
theorem TJ.sub {E:eI} {ops:Array Oper} {Q:dh} {D:List Deferred} {C' C1 C:List aA}: ∀ {bs:List Bool} {T:List Oper} {L L':List (Nat×Value)},an L L'→TJ E ops D C' C1 (fun L C=>KJ E (Q .normal) D L C) bs T L' C→TJ E ops D C' C1 (fun L C=>KJ E (Q .normal) D L C) bs T L C:=by
 intro bs T
 cases T with
 |nil=>intro L L' hs h; cases bs<;>exact e7 hs (fun _ h=>h) h
 |cons o T=>intro L L' hs h; cases bs<;>exact fun K hK=>Dz hs (fun _ h=>h) (h K hK)
theorem tw.mono {E:eI} {ops:Array Oper} {D:List Deferred} {C' C1:List aA} {F:List (Nat×Value)→Prop} (hF: ∀ L L',an L L'→F L'→F L): ∀ {bs:List Bool} {os:List Oper} {L L':List (Nat×Value)},an L L'→tw E ops D C' C1 F bs os L'→tw E ops D C' C1 F bs os L:=by
 intro bs os
 induction os generalizing bs with
 |nil=>intro L L' hs h; cases bs<;>exact hF _ _ hs h
 |cons o os ih=>
  intro L L' hs h
  have h': ∃ d v,o.dst=some d∧d<E.n∧SD E ops o D L' (bif bs.headD false then C1 else C') v∧tw E ops D C' C1 F bs.tail os ((d,v)::L'):=by cases bs<;>exact h
  obtain ⟨d,v,ho,hd,hsd,hk⟩:=h'
  have h2: ∃ d v,o.dst=some d∧d<E.n∧SD E ops o D L (bif bs.headD false then C1 else C') v∧tw E ops D C' C1 F bs.tail os ((d,v)::L):=⟨d,v,ho,hd,hsd.sub hs,ih (hs.head d v) hk⟩
  cases bs<;>exact h2
end
section
open Go.ChangeShapes Go.WideShapes Go.ChangeAt Go.RowKit
set_option linter.unusedVariables false
/-- whatever reads at a type has these cells, and this is so of memory -/
def rX (P:Program) (t:TypeId) (α:Type) (cells:α→List Value) (R:World→α→Prop):Prop:=
 ∀ {H:Type} (enc:TypeId×Value→H) (w:World) (base:Nat) (sp:Nat→Bool) (held:Bool) (fuel:Nat) (cs:List Value) (x:DataW H×List MemPlace),
  DataW.trod enc P w base sp held fuel t cs=some x→ ∃ s:α,cs=cells s∧R w s
theorem Bb {P:Program} {t:TypeId} {k:IntKind} (ht:P.underlying t=some (.int k)):rX P t Int (fun n=>[.int k n]) (fun _ n=>k.min≤n∧n≤k.max):=fun {H} enc w base sp held fuel cs x h=>by
 obtain ⟨n,rfl,_,hw⟩:=DataW.trod_int ht h
 refine ⟨n,rfl,?_⟩
 simpa [Lit.wf] using hw
theorem EY {P:Program} {t:TypeId} (ht:P.underlying t=some (.int .i64)):rX P t Int iC (fun _ n=>nD n):=Bb ht
theorem FX {P:Program} {t:TypeId} (ht:P.underlying t=some (.int .u8)):rX P t Int Au (fun _ n=>0≤n∧n≤255):=Bb ht
theorem iZ {H:Type} {enc:TypeId×Value→H} {P:Program} {w:World} {base:Nat} {sp:Nat→Bool} {held:Bool} {fuel t:Nat} {cs:List Value} {x:DataW H×List MemPlace} {l:List (Nat×Nat)} (hl:fL P t=some l)
 (h:DataW.trod enc P w base sp held fuel t cs=some x):cs.length=P.cellsOf t∧ ∀ (i ft off:Nat),l[i]? =some (ft,off)→ ∃ n y,DataW.trod enc P w base sp held n ft ((cs.drop off).take (P.cellsOf ft))=some y:=by
 unfold fL at hl
 cases hu:P.underlying t with
 |none=>simp [hu] at hl
 |some d=>
  cases d<;>simp [hu] at hl
  rename_i fs
  obtain ⟨xs,n,_,_,hlen,hsz,hf⟩:=DataW.trod_struct hu h
  refine ⟨hlen,fun i ft off hi=>?_⟩
  have hl2:=hl.2
  subst hl2
  simp only [List.getElem?_map,Option.map_eq_some_iff] at hi
  obtain ⟨f,hfi,hfe⟩:=hi
  simp only [Prod.mk.injEq] at hfe
  obtain ⟨rfl,rfl⟩:=hfe
  have hfi':fs[i]? =some f:=by simpa using hfi
  have hil:i<xs.length:=by rw [hsz]; exact (Array.getElem?_eq_some_iff.1 hfi').1
  exact ⟨n,xs[i],by rw [hf i f hfi',List.getElem?_eq_getElem hil]⟩
theorem gK {cs a:List Value} {o n m:Nat} (hl:cs.length=m) (hm:o+n=m) (h:(cs.drop o).take n=a):cs.drop o=a:=by
 rwa [List.take_of_length_le (by rw [List.length_drop]; omega)] at h
theorem dH {cs a b:List Value} {o n m:Nat} (h:(cs.drop o).take n=a) (hm:o+n=m) (hb:cs.drop m=b):cs.drop o=a++b:=by
 rw [← h,← hb,← hm,← List.drop_drop,List.take_append_drop]
theorem nU {P:Program} {t e sz:Nat} {α:Type} {cells:α→List Value} {R:World→α→Prop} (ht:P.underlying t=some (.slice e)) (hc:P.cellsOf e=sz) (he:rX P e α cells R):
 rX P t av (fun s=>[.slice s.a s.n s.c]) (fun w s=> ∃ l:List α,s.n=l.length∧(rd s.a l.length sz (l.map cells)).holds w∧(∀ x∈l,R w x)∧l.length≤maxLen∧s.n≤s.c):=fun {H} enc w base sp held fuel cs x h=>by
 rcases Go.Deep.open_slice ht h with ⟨rfl,_⟩|⟨a,len,cap,m,n,D,Pl,rfl,hb,hl,hm,hmm,hx,hi⟩
 ·exact ⟨⟨none,0,0⟩,rfl,[],rfl,⟨rfl,by simp,fun h=>by simp at h⟩,by simp,Nat.zero_le _,Nat.le_refl _⟩
 ·rw [hc] at hi
  have hlm:len≤m:=by rw [hmm]; split<;>omega
  have hex: ∀ k:Nat,k≤len→ ∃ l:List α,l.length=k∧(∀ x∈l,R w x)∧ ∀ (i:Nat) (x:α),l[i]? =some x→(cells x).length=sz∧ ∀ (j:Nat) v,(cells x)[j]? =some v→w.cell? (a.add (i*sz+j))=some v:=by
   intro k
   induction k with
   |zero=>exact fun _=>⟨[],rfl,by simp,by simp⟩
   |succ k ih=>
    intro hk
    obtain ⟨l,h1,h2,h3⟩:=ih (by omega)
    obtain ⟨cs',hcs,htr⟩:=hi k (by omega)
    obtain ⟨_,hcl,hat⟩:=World.cells?_some hcs
    obtain ⟨s,rfl,hR⟩:=he enc w base sp held n cs' _ htr
    refine ⟨l++[s],by simp [h1],fun x hx=>?_,fun i x hx=>?_⟩
    ·rcases List.mem_append.1 hx with hx|hx
     ·exact h2 x hx
     ·simp at hx; subst hx; exact hR
    ·by_cases hil:i<l.length
     ·rw [List.getElem?_append_left hil] at hx; exact h3 i x hx
     ·have hik:i=k:=by
       have:=(List.getElem?_eq_some_iff.1 hx).1
       simp at this; omega
      subst hik
      rw [List.getElem?_append_right (by omega),h1] at hx
      simp at hx; subst hx
      refine ⟨hcl,fun j v hj=>?_⟩
      have hjl:j<sz:=by rw [← hcl]; exact (List.getElem?_eq_some_iff.1 hj).1
      rw [← vb,hat j hjl,hj]
  obtain ⟨l,h1,h2,h3⟩:=hex len (Nat.le_refl _)
  refine ⟨⟨some a,len,cap⟩,rfl,l,h1.symm,⟨by simp,fun e he'=>?_,fun _=>⟨a,rfl,fun i e' j v hi' hj=>?_⟩⟩,h2,by omega,hl⟩
  ·obtain ⟨x,hx,rfl⟩:=List.mem_map.1 he'
   obtain ⟨i,hi'⟩:=List.getElem?_of_mem hx
   exact (h3 i x hi').1
  ·rw [List.getElem?_map] at hi'
   obtain ⟨x,hx,rfl⟩:=Option.map_eq_some_iff.1 hi'
   exact (h3 i x hx).2 j v hj
theorem tr {H:Type} {enc:TypeId×Value→H} {P:Program} {w:World} {base:Nat} {sp:Nat→Bool} {held:Bool} {r:Reach} {b0:Nat} {t:TypeId} {l:List (Nat×Nat)} {v:Value} {d:DataW H} {p:List MemPlace} {α:Type} {cells:α→List Value} {R:World→α→Prop}
 (hl:fL P t=some l) (ho:rX P t α cells R) (hv:Value.okWide P w r b0 t v) (h:DataW.Trod enc P w base sp held t v d p): ∃ s,v= .agg (cells s).toArray∧R w s:=by
 unfold fL at hl
 cases hu:P.underlying t with
 |none=>simp [hu] at hl
 |some d=>
  cases d<;>simp [hu] at hl
  rename_i fs
  obtain ⟨cs,rfl,hsz⟩:=okWide_struct hu hv
  obtain ⟨fuel,hf⟩:=h
  obtain ⟨s,hc,hR⟩:=ho enc w base sp held fuel _ _ hf
  refine ⟨s,?_,hR⟩
  simp only [Value.cells] at hc
  rw [← hc]
theorem B5 {H:Type} {enc:TypeId×Value→H} {P:Program} {w:World} {base:Nat} {sp:Nat→Bool} {held:Bool} {r:Reach} {b0:Nat} {t:TypeId} {k:IntKind} {v:Value} {d:DataW H} {p:List MemPlace}
 (ht:P.underlying t=some (.int k)) (hv:Value.okWide P w r b0 t v) (h:DataW.Trod enc P w base sp held t v d p): ∃ n,v= .int k n∧k.min≤n∧n≤k.max:=by
 obtain ⟨n,rfl,_,_,hw⟩:=open_int ht hv h
 refine ⟨n,rfl,?_⟩
 simpa [Lit.wf] using hw
section
variable {H:Type} {enc:TypeId×Value→H} {P:Program}
theorem oR (hl:laidOutB P=true) {W W':World} {sp:Nat→Bool} (hb:Below W.heap.size W W'): ∀ (ts:List TypeId) (vs:List Value) (ds:List (DataW H)) (ps:List MemPlace),(ts.all fun t=>P.readableRec t&&decide (t<P.types.size))=true→
 DataW.TrodAll enc P W 0 (fun _=>true) true ts vs ds ps→(∀ x∈ps,x.block<W.heap.size)→(∀ x∈ps,sp x.block=true)→DataW.TrodAll enc P W' 0 sp true ts vs ds ps
 |[],[],[],ps,_,h,_,_=>h
 |t::ts,v::vs,d::ds,ps,ha,h,hlt,hsp=>by
  obtain ⟨p,q,h1,h2,rfl⟩:=h
  simp only [List.all_cons,Bool.and_eq_true,decide_eq_true_eq] at ha
  refine ⟨p,q,?_,oR hl hb ts vs ds q ha.2 h2 (fun x hx=>hlt x (List.mem_append_right _ hx)) (fun x hx=>hsp x (List.mem_append_right _ hx)),rfl⟩
  exact WideElems.Trod_stays hl ha.1.1 ha.1.2 h1 (fun x hx=>hb.same (hlt x (List.mem_append_left _ hx))) (fun x hx=>hsp x (List.mem_append_left _ hx))
 |[],[],_::_,_,_,h,_,_=>h.elim
 |[],_::_,_,_,_,h,_,_=>h.elim
 |_::_,[],_,_,_,h,_,_=>h.elim
 |_::_,_::_,[],_,_,h,_,_=>h.elim
/-- a law that said true and kept all that was there has answered its row -/
theorem Bd {f:Func} {s:ChangeSpec} {apart fresh handsOn:Bool} {W W':World} {args:Array Value} {ds:List (DataW H)} {p:List MemPlace} {bt:TypeId} (hl:laidOutB P=true)
 (hW:DataW.Whole enc P f.params.toList s.vars apart W args.toList ds [] p) (hA:DataW.TrodAll enc P W 0 (fun _=>true) true f.params.toList args.toList ds p)
 (hv:s.vars=[]) (hs:s.fn H (ds++[])={results:=[.lit (.bool true)],args:=ds}) (hr:(f.params.toList.all fun t=>P.readableRec t&&decide (t<P.types.size))=true)
 (hb:Below W.heap.size W W') (ht:f.resultTypes= #[bt]) (hu:P.underlying bt=some .bool):s.post enc P f apart fresh handsOn false W args (.bool true) W':=by
 have hlt: ∀ x∈p,x.block<W.heap.size:=fun x hx=>hW.lt x hx
 refine ⟨ds,[],p,[],p,[],hW,?_,?_,?_,World.keptBut_mono (fun x hx=>⟨hx,.inr (.inl hx)⟩) (hb.frame (· ∈p)),fun h=>by cases h⟩
 ·rw [hs,ht]; exact trodAll_mk1 (shut_bool hu _)
 ·rw [hs]; exact oR hl hb _ _ _ _ hr hA hlt (fun x hx=>by simpa using hlt x hx)
 ·rw [hs,hv]; rfl
end
end
section
@[ext] structure ao where
 right:Int
 de:Int
 deriving DecidableEq
def ao.cells (s:ao):List Value:=Value.int .i64 s.right::([Value.int .i64 s.de])
theorem ao.bg (s:ao):s.cells.length=2:=rfl
@[ext] structure au where
 j0:av
 deriving DecidableEq
def au.cells (s:au):List Value:=[Value.slice s.j0.a s.j0.n s.j0.c]
theorem au.bg (s:au):s.cells.length=1:=rfl
@[ext] structure aF where
 al:au
 bw:Int
 ag:av
 aa:av
 aD:Int
 aV:Int
 aJ:Int
 deriving DecidableEq
def aF.cells (s:aF):List Value:=au.cells s.al++(Value.int .i64 s.bw::(Value.slice s.ag.a s.ag.n s.ag.c::(Value.slice s.aa.a s.aa.n s.aa.c::(Value.int .i64 s.aD::(Value.int .i64 s.aV::([Value.int .i64 s.aJ]))))))
theorem aF.bg (s:aF):s.cells.length=7:=rfl
@[ext] structure aS where
 Start:Int
 cI:Int
 ab:av
 deriving DecidableEq
def aS.cells (s:aS):List Value:=Value.int .i64 s.Start::(Value.int .i64 s.cI::([Value.slice s.ab.a s.ab.n s.ab.c]))
theorem aS.bg (s:aS):s.cells.length=3:=rfl
@[ext] structure aN where
 Iw:aF
 tJ:aS
 least:av
 times:av
 forward:av
 back:av
 deriving DecidableEq
def aN.cells (s:aN):List Value:=aF.cells s.Iw++(aS.cells s.tJ++(Value.slice s.least.a s.least.n s.least.c::(Value.slice s.times.a s.times.n s.times.c::(Value.slice s.forward.a s.forward.n s.forward.c::([Value.slice s.back.a s.back.n s.back.c])))))
theorem aN.bg (s:aN):s.cells.length=14:=rfl
@[ext] structure ae where
 Lo:Int
 Hi:Int
 deriving DecidableEq
def ae.cells (s:ae):List Value:=Value.int .i64 s.Lo::([Value.int .i64 s.Hi])
theorem ae.bg (s:ae):s.cells.length=2:=rfl
@[ext] structure ah where
 Id:Int
 g5:ae
 iA:ae
 cQ:ae
 gi:Int
 pX:Int
 deriving DecidableEq
def ah.cells (s:ah):List Value:=Value.int .i64 s.Id::(ae.cells s.g5++(ae.cells s.iA++(ae.cells s.cQ++(Value.int .u8 s.gi::([Value.int .i64 s.pX])))))
theorem ah.bg (s:ah):s.cells.length=9:=rfl
@[ext] structure bX where
 al:au
 deriving DecidableEq
def bX.cells (s:bX):List Value:=au.cells s.al
theorem bX.bg (s:bX):s.cells.length=1:=rfl
@[ext] structure bS where
 ak:Int
 ek:ae
 deriving DecidableEq
def bS.cells (s:bS):List Value:=Value.int .i64 s.ak::(ae.cells s.ek)
theorem bS.bg (s:bS):s.cells.length=3:=rfl
@[ext] structure aY where
 hU:bS
 gk:Int
 deriving DecidableEq
def aY.cells (s:aY):List Value:=bS.cells s.hU++([Value.int .i64 s.gk])
theorem aY.bg (s:aY):s.cells.length=4:=rfl
@[ext] structure bO where
 bJ:Int
 aB:av
 deriving DecidableEq
def bO.cells (s:bO):List Value:=Value.int .i64 s.bJ::([Value.slice s.aB.a s.aB.n s.aB.c])
theorem bO.bg (s:bO):s.cells.length=2:=rfl
@[ext] structure bD where
 At:Int
 bQ:ae
 deriving DecidableEq
def bD.cells (s:bD):List Value:=Value.int .i64 s.At::(ae.cells s.bQ)
theorem bD.bg (s:bD):s.cells.length=3:=rfl
@[ext] structure aw where
 cU:Int
 Read:Int
 deriving DecidableEq
def aw.cells (s:aw):List Value:=Value.int .i64 s.cU::([Value.int .i64 s.Read])
theorem aw.bg (s:aw):s.cells.length=2:=rfl
structure cW where
 so:Value
def cW.cells (s:cW):List Value:=[s.so]
theorem cW.bg (s:cW):s.cells.length=1:=rfl
@[ext] structure yf where
 Eh:aw
 JG:Int
 deriving DecidableEq
def yf.cells (s:yf):List Value:=aw.cells s.Eh++([Value.int .i64 s.JG])
theorem yf.bg (s:yf):s.cells.length=3:=rfl
@[ext] structure dw where
 least:av
 times:av
 some:av
 deriving DecidableEq
def dw.cells (s:dw):List Value:=Value.slice s.least.a s.least.n s.least.c::(Value.slice s.times.a s.times.n s.times.c::([Value.slice s.some.a s.some.n s.some.c]))
theorem dw.bg (s:dw):s.cells.length=3:=rfl
@[ext] structure td where
 cY:av
 fE:av
 jC:av
 deriving DecidableEq
def td.cells (s:td):List Value:=Value.slice s.cY.a s.cY.n s.cY.c::(Value.slice s.fE.a s.fE.n s.fE.c::([Value.slice s.jC.a s.jC.n s.jC.c]))
theorem td.bg (s:td):s.cells.length=3:=rfl
structure aj where
 bJ:Int
 aB:List bD
 deriving DecidableEq
def aj.cells (m:aj) (a:Option Addr×Nat):List Value:=bO.cells ⟨m.bJ,⟨a.1,m.aB.length,a.2⟩⟩
def aj.dX (m:aj) (a:Option Addr×Nat):List aA:=[rd a.1 m.aB.length 3 (m.aB.map bD.cells)]
def aj.owns (m:aj) (a:Option Addr×Nat):List aA:=[own a.1 a.2 65 3 (m.aB.map bD.cells)]
structure aU where
 al:List ah
 bw:Int
 ag:List aj
 aa:List aY
 aD:Int
 aV:Int
 aJ:Int
 deriving DecidableEq
structure bK where
 Start:Int
 cI:Int
 ab:List aw
 deriving DecidableEq
structure bM where
 cY:List Int
 fE:List Int
 jC:List Int
abbrev jc:=(Option Addr×Nat)×(Option Addr×Nat)×(Option Addr×Nat)
abbrev j3:Nat:=3
def bM.cells (m:bM) (a:jc):List Value:=td.cells ⟨⟨a.1.1,m.cY.length,a.1.2⟩,⟨a.2.1.1,m.fE.length,a.2.1.2⟩,⟨a.2.2.1,m.jC.length,a.2.2.2⟩⟩
def bM.dX (m:bM) (a:jc):List aA:=[rd a.1.1 m.cY.length 1 (m.cY.map iC),rd a.2.1.1 m.fE.length 1 (m.fE.map iC),rd a.2.2.1 m.jC.length 1 (m.jC.map iC)]
def bM.owns (m:bM) (a:jc):List aA:=[own a.1.1 a.1.2 j3 1 (m.cY.map iC),own a.2.1.1 a.2.1.2 j3 1 (m.fE.map iC),own a.2.2.1 a.2.2.2 j3 1 (m.jC.map iC)]
end
section
open Go.RowKit
set_option linter.unusedVariables false
def D9 {β:Type} (l:List (Int×β)) (x:Int) (y:β):List (Int×β):=if (l.lookup x).isSome then l.map (fun p=>if p.1=x then (x,y) else p) else l++[(x,y)]
def B_ {β:Type} (l:List (Int×β)) (x:Int):List (Int×β):=l.filter fun p=> !decide (p.1=x)
theorem q_ {β:Type} {x:Int}: ∀ {l:List (Int×β)},l.lookup x=none↔ ∀ p∈l,p.1≠x
 |[]=>by simp
 |p::l=>by
  obtain ⟨k,v⟩:=p
  by_cases h:x=k
  ·subst h; simp [List.lookup]
  ·have hb:(x==k)=false:=by simpa using h
   simp only [List.lookup,hb,List.mem_cons,forall_eq_or_imp]
   rw [q_ (l:=l)]
   exact ⟨fun q=>⟨fun e=>h e.symm,q⟩,fun q=>q.2⟩
structure lQ (es:Array MapEntry) (c:Nat) (m:List (Int×Value)):Prop where
 list:es.toList.map (fun e=>(e.key,e.val))=m.map (fun p=>(Value.int .i64 p.1,p.2))
 keys:(m.map (·.1)).Nodup
 Br: ∀ e∈es.toList,e.born<c
 born:(es.toList.map (·.born)).Nodup
theorem lQ.nil:lQ #[] 0 []:=⟨rfl,List.nodup_nil,by simp,List.nodup_nil⟩
theorem lQ.size {es:Array MapEntry} {c:Nat} {m:List (Int×Value)} (h:lQ es c m):es.size=m.length:=by
 have:=congrArg List.length h.list
 simpa using this
theorem zK {P:Program} {w:World} {kt:Nat} {x:Int} (hk:P.underlying kt=some (.int .i64)) (e:Bool):(Instr.checkKey e 10000 kt (.int .i64 x)).run P w= .ok () w:=by
 exact MapKept.run_checkKey hk (show MapKept.IsKey (.int .i64) (.int .i64 x) from rfl) e 9999
section
variable {E:eI} {ops:Array Oper} {Q:dh} {rest:List Oper} {D:List Deferred} {L:List (Nat×Value)} {C:List aA}
variable {dst:Option Tmp} {d:Nat} {ty:TypeId} {ps:String} {af:Array Edge} {g:Option (Nat×Bool)}
theorem kT {w:World} {b:Nat} (o:Obj):dj (only b) w {w with heap:=w.heap.setIfInBounds b o}:=
 ⟨rfl,rfl,rfl,by simp,fun k hk hn=>by simp only [only] at hn; exact Array.getElem?_setIfInBounds_ne (fun e=>hn e.symm)⟩
theorem mA {w:World} {b:Nat} {o o':Obj} (h:w.heap[b]? =some o):({w with heap:=w.heap.setIfInBounds b o'}:World).heap[b]? =some o':=by
 have:=(Array.getElem?_eq_some_iff.1 h).1
 simp [Array.getElem?_setIfInBounds_self_of_lt this]
theorem lQ.push {es:Array MapEntry} {c:Nat} {m:List (Int×Value)} (h:lQ es c m) {x:Int} (hx:m.lookup x=none) (v:Value):lQ (es.push {key:= .int .i64 x,val:=v,born:=c}) (c+1) (m++[(x,v)]):=by
 refine ⟨by simp [h.list],?_,?_,?_⟩
 ·rw [List.map_append,List.nodup_append]
  refine ⟨h.keys,by simp,fun a ha b hb=>?_⟩
  simp at hb; subst hb
  obtain ⟨p,hp,rfl⟩:=List.mem_map.1 ha
  exact q_.1 hx p hp
 ·intro e he
  simp only [Array.toList_push,List.mem_append,List.mem_singleton] at he
  rcases he with he|rfl
  ·exact Nat.lt_succ_of_lt (h.Br e he)
  ·exact Nat.lt_succ_self _
 ·simp only [Array.toList_push,List.map_append,List.map_cons,List.map_nil]
  rw [List.nodup_append]
  refine ⟨h.born,by simp,fun a ha b hb=>?_⟩
  simp at hb; subst hb
  obtain ⟨p,hp,rfl⟩:=List.mem_map.1 ha
  exact Nat.ne_of_lt (h.Br p hp)
theorem D4 {m:List (Int×Value)} {j:Nat} {x:Int} {v0 v:Value} (hn:(m.map (·.1)).Nodup) (hj:m[j]? =some (x,v0)):m.map (fun p=>if p.1=x then (x,v) else p)=m.set j (x,v):=by
 refine List.ext_getElem? fun i=>?_
 rw [List.getElem?_map,List.getElem?_set]
 by_cases e:j=i
 ·subst e
  have hl:=(List.getElem?_eq_some_iff.1 hj).1
  rw [hj]; simp [hl]
 ·rw [if_neg e]
  cases hi:m[i]? with
  |none=>rfl
  |some p=>
   simp only [Option.map_some]
   rw [if_neg]
   intro hp
   have h1:(m.map (·.1))[i]? =some x:=by rw [List.getElem?_map,hi]; simp [hp]
   have h2:(m.map (·.1))[j]? =some x:=by rw [List.getElem?_map,hj]; rfl
   have hil:=(List.getElem?_eq_some_iff.1 h1).1
   exact e (((List.getElem?_inj hil hn).1 (h1.trans h2.symm)).symm)
theorem lQ.set {es:Array MapEntry} {c:Nat} {m:List (Int×Value)} (h:lQ es c m) {x:Int} {j:Nat} {v0:Value} (hj:m[j]? =some (x,v0)) (hx:m.lookup x=some v0) (v:Value):
 lQ (es.modify j fun e=>{e with key:= .int .i64 x,val:=v}) c (D9 m x v):=by
 have e1:D9 m x v=m.set j (x,v):=by unfold D9; rw [hx]; simpa using D4 h.keys hj
 have hl:=(List.getElem?_eq_some_iff.1 hj).1
 have hsz:=h.size
 have hje:j<es.size:=by omega
 have e2:(es.modify j fun e=>{e with key:= .int .i64 x,val:=v}).toList=es.toList.set j {(es[j]) with key:= .int .i64 x,val:=v}:=by
  refine List.ext_getElem? fun i=>?_
  rw [Array.getElem?_toList,Array.getElem?_modify,List.getElem?_set]
  by_cases e:j=i
  ·subst e; simp [hje]
  ·simp [e]
 have e3:(es.toList.set j {(es[j]) with key:= .int .i64 x,val:=v}).map (·.born)=es.toList.map (·.born):=by
  rw [List.map_set]
  refine List.ext_getElem? fun i=>?_
  rw [List.getElem?_set]
  by_cases e:j=i
  ·subst e; simp [hje]
  ·rw [if_neg e]
 refine ⟨?_,?_,?_,?_⟩
 ·rw [e2,e1,List.map_set,List.map_set,h.list]
 ·rw [e1,List.map_set]
  have:(m.map (·.1)).set j x=m.map (·.1):=by
   refine List.ext_getElem? fun i=>?_
   rw [List.getElem?_set]
   by_cases e:j=i
   ·subst e; simp [hl]; simpa using (congrArg Prod.fst ((List.getElem?_eq_some_iff.1 hj).2)).symm
   ·rw [if_neg e]
  simp only [this]
  exact h.keys
 ·intro e he
  rw [e2] at he
  have hb:e.born∈(es.toList.set j {(es[j]) with key:= .int .i64 x,val:=v}).map (·.born):=List.mem_map.2 ⟨e,he,rfl⟩
  rw [e3] at hb
  obtain ⟨e',he',hq⟩:=List.mem_map.1 hb
  rw [← hq]; exact h.Br e' he'
 ·rw [e2,e3]; exact h.born
theorem lQ.del {es:Array MapEntry} {c:Nat} {m:List (Int×Value)} (h:lQ es c m) {x:Int} {j:Nat} {v0:Value} (hj:m[j]? =some (x,v0)):lQ (es.eraseIdxIfInBounds j) c (B_ m x):=by
 have hl:=(List.getElem?_eq_some_iff.1 hj).1
 have hsz:=h.size
 have hje:j<es.size:=by omega
 have e1:(es.eraseIdxIfInBounds j).toList=es.toList.eraseIdx j:=by simp [Array.eraseIdxIfInBounds,hje]
 have e2:B_ m x=m.eraseIdx j:=by
  have hn:=h.keys
  clear h hsz hje e1
  induction m generalizing j with
  |nil=>simp at hj
  |cons p m ih=>
   obtain ⟨k,v⟩:=p
   simp only [List.map_cons,List.nodup_cons] at hn
   cases j with
   |zero=>
    simp at hj
    obtain ⟨rfl,rfl⟩:=hj
    simp only [B_,List.eraseIdx_zero,List.tail_cons]
    rw [List.filter_cons_of_neg (by simp)]
    refine List.filter_eq_self.2 fun p hp=>?_
    have:p.1≠k:=fun e=>hn.1 (List.mem_map.2 ⟨p,hp,e⟩)
    simpa using this
   |succ j=>
    simp only [List.getElem?_cons_succ] at hj
    have hne:k≠x:=fun e=>hn.1 (List.mem_map.2 ⟨_,List.mem_of_getElem? hj,e.symm⟩)
    simp only [B_,List.eraseIdx_cons_succ] at ih ⊢
    rw [List.filter_cons_of_pos (by simpa using hne),ih hj (by simpa using (List.getElem?_eq_some_iff.1 hj).1) hn.2]
 have sub:(es.eraseIdxIfInBounds j).toList.Sublist es.toList:=by rw [e1]; exact List.eraseIdx_sublist _ _
 refine ⟨?_,?_,fun e he=>h.Br e (sub.subset he),h.born.sublist (sub.map _)⟩
 ·rw [e1,e2,ChangeMaps.map_eraseIdx,ChangeMaps.map_eraseIdx,h.list]
 ·rw [e2]; exact h.keys.sublist ((List.eraseIdx_sublist _ _).map _)
def tV (P:Program) (t:TypeId):Option Value:=(P.info? t).bind (·.zero)
theorem EE {P:Program} {t:TypeId} {z:Value} (h:tV P t=some z) (w:World):(zeroValue t).run P w= .ok z w:=by
 unfold tV at h
 cases hi:P.info? t with
 |none=>simp [hi] at h
 |some i=>simp only [hi,Option.bind_some] at h; simp [zeroValue,typeInfo,hi,h]
end
theorem aC {C:List aA} {a:Option Addr} {c e sz n:Nat} {es:List (List Value)} (i:Nat) (hC:C[i]? =some (own a c e sz es)) (hn:es.length=n):jS C (rd a n sz es).holds:=hn▸Cu i hC
abbrev iV:Int→Value:=Value.int .i64
end
section
def cT (s:ae) (lo hi:Int):Prop:=s.Lo≤s.Hi∧lo≤s.Lo∧s.Hi≤hi
instance (s:ae) (lo hi:Int):Decidable (cT s lo hi):=by unfold cT; infer_instance
def a_ (x:ah):Prop:=(0≤x.Id∧x.Id≤9999)∧cT x.g5 1 30000∧cT x.iA 0 5000∧(0≤x.pX∧x.pX≤5000)∧
 (x.gi=0∧x.cQ.Lo=0∧x.cQ.Hi=0∨(x.gi=1∨x.gi=2)∧cT x.cQ 500 20000)
instance (x:ah):Decidable (a_ x):=by unfold a_; infer_instance
def dG:Int→List ah→Bool
 |_,[]=>true
 |last,x::xs=>decide (last<x.Id∧a_ x)&&dG x.Id xs
def cj (ts:List ah):Bool:=decide (1≤(ts.length:Int)∧(ts.length:Int)≤12)&&dG (-1) ts
theorem yZ {α:Type} {l:List α} {i:Nat} {x:α} (h:l[i]? =some x):l.drop i=x::l.drop (i+1):=by
 obtain ⟨h1,rfl⟩:=List.getElem?_eq_some_iff.1 h
 exact List.drop_eq_getElem_cons h1
theorem nN {ts:List ah} {i:Nat} {x:ah} (last:Int) (h:ts[i]? =some x):dG last (ts.drop i)=(decide (last<x.Id∧a_ x)&&dG x.Id (ts.drop (i+1))):=by
 rw [yZ h]; rfl
def pV {α:Type} (p:α→Bool) (l:List α):Int:=if l.any p then (l.findIdx p:Nat) else-1
theorem mc {α:Type} {p:α→Bool} {l:List α} {i:Nat} {x:α} (h:l[i]? =some x) (hp:p x=true) (h0:(l.take i).any p=false):pV p l=i:=by
 obtain ⟨h1,rfl⟩:=List.getElem?_eq_some_iff.1 h
 have ha:l.any p=true:=List.any_eq_true.2 ⟨_,List.getElem_mem h1,hp⟩
 have hi:l.findIdx p=i:=by
  rw [List.findIdx_eq h1]
  refine ⟨hp,fun j hj=>?_⟩
  have:=List.any_eq_false.1 h0 l[j] (by rw [List.mem_take_iff_getElem]; exact ⟨j,by omega,rfl⟩)
  simpa using this
 simp [pV,ha,hi]
theorem j6 {α:Type} {p:α→Bool} {l:List α} {i:Nat} (hi:l.length≤i) (h0:(l.take i).any p=false):pV p l= -1:=by
 rw [List.take_of_length_le hi] at h0
 simp [pV,h0]
theorem sJ {α:Type} {p:α→Bool} {l:List α} {i:Nat} {x:α} (h:l[i]? =some x) (h0:(l.take i).any p=false) (hp:p x=false):(l.take (i+1)).any p=false:=by
 rw [List.take_add_one,h]; simp [h0,hp]
theorem qf {α:Type} {p:α→Bool} {l:List α}:decide (0≤pV p l)=l.any p:=by
 unfold pV; cases l.any p<;>simp
def um (lo hi:Int) (l:List Int):Bool:= !(l.any fun u=>decide (u<lo∨hi<u))
theorem dq {lo hi a:Int}:Value.bool (um lo hi [a])=Value.bool (decide (lo≤a∧a≤hi)):=by
 refine congrArg _ ?_
 rw [Bool.eq_iff_iff]; simp [um]
theorem ui {lo hi a b:Int}:Value.bool (um lo hi [a,b])=Value.bool (decide ((lo≤a∧a≤hi)∧lo≤b∧b≤hi)):=by
 refine congrArg _ ?_
 rw [Bool.eq_iff_iff]; simp [um]
def ew (ts:List ah) (i:Nat):Int:=if i=0 then-1 else ((ts[i-1]?).map (·.Id)).getD 0
theorem vY {ts:List ah} {i:Nat} (h:i=0):ew ts i= -1:=by simp [ew,h]
theorem xG {ts:List ah} {i:Nat} {y:ah} (h:0<i) (hy:ts[i-1]? =some y):ew ts i=y.Id:=by
 simp [ew,hy]; omega
theorem eD {ts:List ah} {i:Nat} {y:ah} (hy:ts[i]? =some y):ew ts (i+1)=y.Id:=by simp [ew,hy]
theorem cb {ts:List ah} (h: ¬ (1≤(ts.length:Int)∧(ts.length:Int)≤12)):cj ts=false:=by
 simp only [cj,decide_eq_false h,Bool.false_and]
theorem cz {ts:List ah} {i:Nat} {x:ah} (h:dG (-1) ts=dG (ew ts i) (ts.drop i)) (hx:ts[i]? =some x) (hn: ¬ (ew ts i<x.Id∧a_ x)):cj ts=false:=by
 rw [cj,h,nN _ hx,decide_eq_false hn]; simp
theorem b_ {ts:List ah} {i:Nat} (h:dG (-1) ts=dG (ew ts i) (ts.drop i)) (hi:ts.length≤i) (hl:1≤(ts.length:Int)∧(ts.length:Int)≤12):cj ts=true:=by
 rw [cj,h,List.drop_eq_nil_of_le hi,decide_eq_true hl]; rfl
theorem e_ {ts:List ah} {i:Nat} {x:ah} (h:dG (-1) ts=dG (ew ts i) (ts.drop i)) (hx:ts[i]? =some x) (hn:ew ts i<x.Id∧a_ x):dG (-1) ts=dG (ew ts (i+1)) (ts.drop (i+1)):=by
 rw [h,nN _ hx,decide_eq_true hn,eD hx]; rfl
theorem jK {α:Type} {a b:List α} {i:Nat} {x y:α} (hx:a[i]? =some x) (hy:b[i]? =some y) (h: ¬ x=y): ¬ a=b:=by
 rintro rfl; rw [hx] at hy; exact h (Option.some.inj hy)
theorem cB {α:Type} {a b:List α} {i:Nat} (hl:a.length=b.length) (ht:a.take i=b.take i) (hi:a.length≤i):a=b:=by
 rwa [List.take_of_length_le hi,List.take_of_length_le (by omega)] at ht
theorem jy {α:Type} {a b:List α} {i:Nat} {x y:α} (ht:a.take i=b.take i) (hx:a[i]? =some x) (hy:b[i]? =some y) (h:x=y):a.take (i+1)=b.take (i+1):=by
 rw [List.take_add_one,List.take_add_one,ht,hx,hy,h]
theorem oP: ∀ {ts:List ah} {last:Int},dG last ts=true→ ∀ x∈ts,a_ x
 |[],_,_,x,hx=>by cases hx
 |y::ts,last,h,x,hx=>by
  simp only [dG,Bool.and_eq_true,decide_eq_true_eq] at h
  rcases List.mem_cons.1 hx with rfl|hx
  ·exact h.1.2
  ·exact oP h.2 x hx
theorem iI {ts:List ah} (h:cj ts=true): ∀ x∈ts,a_ x:=by
 simp only [cj,Bool.and_eq_true] at h
 exact oP h.2
theorem jt {ts:List ah} (h:cj ts=true):ts.length≤12:=by
 simp only [cj,Bool.and_eq_true,decide_eq_true_eq] at h
 omega
end
section
theorem bu:tK Tryz.prog 3=some (false,1):=by kernel_rfl
theorem G5:tK Tryz.prog 4=some (false,1):=by kernel_rfl
theorem Fa:tK Tryz.prog 5=some (false,1):=by kernel_rfl
theorem lD:tK Tryz.prog 22=some (false,1):=by kernel_rfl
theorem jn:tK Tryz.prog 24=some (true,1):=by kernel_rfl
theorem lE:tK Tryz.prog 25=some (false,1):=by kernel_rfl
theorem g3:tK Tryz.prog 26=some (false,1):=by kernel_rfl
theorem eO:tK Tryz.prog 28=some (true,7):=by kernel_rfl
theorem lh:tK Tryz.prog 29=some (false,1):=by kernel_rfl
theorem iw:tK Tryz.prog 31=some (true,3):=by kernel_rfl
theorem CV:tK Tryz.prog 32=some (false,1):=by kernel_rfl
theorem nZ:tK Tryz.prog 35=some (false,1):=by kernel_rfl
theorem cp:tK Tryz.prog 47=some (true,2):=by kernel_rfl
theorem kq:tK Tryz.prog 61=some (false,1):=by kernel_rfl
theorem rq:tK Tryz.prog 63=some (true,2):=by kernel_rfl
theorem rr:tK Tryz.prog 65=some (true,3):=by kernel_rfl
theorem mO:tK Tryz.prog 67=some (true,2):=by kernel_rfl
theorem jJ:tK Tryz.prog 77=some (false,1):=by kernel_rfl
theorem H2:tK Tryz.prog 88=some (false,1):=by kernel_rfl
theorem CA:tK Tryz.prog 95=some (false,1):=by kernel_rfl
theorem kO:tK Tryz.prog 99=some (true,3):=by kernel_rfl
theorem zX:tK Tryz.prog 101=some (true,4):=by kernel_rfl
theorem tm:tK Tryz.prog 114=some (false,1):=by kernel_rfl
theorem kX:tK Tryz.prog 115=some (false,1):=by kernel_rfl
theorem tQ:tK Tryz.prog 120=some (false,1):=by kernel_rfl
theorem nt:tK Tryz.prog 122=some (false,1):=by kernel_rfl
theorem k6:tK Tryz.prog 124=some (true,2):=by kernel_rfl
theorem vD:tK Tryz.prog 127=some (false,1):=by kernel_rfl
theorem BA:tK Tryz.prog 128=some (false,1):=by kernel_rfl
theorem vt:tK Tryz.prog 130=some (true,3):=by kernel_rfl
theorem F8:tK Tryz.prog 134=some (false,1):=by kernel_rfl
theorem uc:tK Tryz.prog 141=some (true,9):=by kernel_rfl
theorem vT:tK Tryz.prog 144=some (true,1):=by kernel_rfl
theorem DK:tK Tryz.prog 145=some (true,4):=by kernel_rfl
theorem rU:tK Tryz.prog 173=some (true,1):=by kernel_rfl
theorem yN:(tK Tryz.prog 3).map (·.2)=some 1:=by rw [bu]; rfl
theorem HN:(tK Tryz.prog 4).map (·.2)=some 1:=by rw [G5]; rfl
theorem FT:(tK Tryz.prog 24).map (·.2)=some 1:=by rw [jn]; rfl
theorem Iq:(tK Tryz.prog 25).map (·.2)=some 1:=by rw [lE]; rfl
theorem Hk:(tK Tryz.prog 26).map (·.2)=some 1:=by rw [g3]; rfl
theorem qo:(tK Tryz.prog 28).map (·.2)=some 7:=by rw [eO]; rfl
theorem It:(tK Tryz.prog 29).map (·.2)=some 1:=by rw [lh]; rfl
theorem qs:(tK Tryz.prog 31).map (·.2)=some 3:=by rw [iw]; rfl
theorem Em:(tK Tryz.prog 35).map (·.2)=some 1:=by rw [nZ]; rfl
theorem cK:(tK Tryz.prog 47).map (·.2)=some 2:=by rw [cp]; rfl
theorem Jm:(tK Tryz.prog 61).map (·.2)=some 1:=by rw [kq]; rfl
theorem zr:(tK Tryz.prog 63).map (·.2)=some 2:=by rw [rq]; rfl
theorem uR:(tK Tryz.prog 65).map (·.2)=some 3:=by rw [rr]; rfl
theorem qi:(tK Tryz.prog 67).map (·.2)=some 2:=by rw [mO]; rfl
theorem Jg:(tK Tryz.prog 95).map (·.2)=some 1:=by rw [CA]; rfl
theorem F7:(tK Tryz.prog 99).map (·.2)=some 3:=by rw [kO]; rfl
theorem tY:(tK Tryz.prog 115).map (·.2)=some 1:=by rw [kX]; rfl
theorem DG:(tK Tryz.prog 120).map (·.2)=some 1:=by rw [tQ]; rfl
theorem AI:(tK Tryz.prog 122).map (·.2)=some 1:=by rw [nt]; rfl
theorem oO:(tK Tryz.prog 124).map (·.2)=some 2:=by rw [k6]; rfl
theorem Gk:(tK Tryz.prog 127).map (·.2)=some 1:=by rw [vD]; rfl
theorem F9:(tK Tryz.prog 128).map (·.2)=some 1:=by rw [BA]; rfl
theorem Gv:(tK Tryz.prog 130).map (·.2)=some 3:=by rw [vt]; rfl
theorem AE:(tK Tryz.prog 141).map (·.2)=some 9:=by rw [uc]; rfl
theorem yb:(tK Tryz.prog 144).map (·.2)=some 1:=by rw [vT]; rfl
theorem Ff:(tK Tryz.prog 145).map (·.2)=some 4:=by rw [DK]; rfl
theorem zW:(tK Tryz.prog 173).map (·.2)=some 1:=by rw [rU]; rfl
theorem gv:fo Tryz.prog 24 0=some 0:=by kernel_rfl
theorem j4:fo Tryz.prog 28 0=some 0:=by kernel_rfl
theorem n9:fo Tryz.prog 28 1=some 1:=by kernel_rfl
theorem gu:fo Tryz.prog 28 2=some 2:=by kernel_rfl
theorem dy:fo Tryz.prog 28 3=some 3:=by kernel_rfl
theorem lV:fo Tryz.prog 28 4=some 4:=by kernel_rfl
theorem qz:fo Tryz.prog 28 5=some 5:=by kernel_rfl
theorem qK:fo Tryz.prog 28 6=some 6:=by kernel_rfl
theorem jr:fo Tryz.prog 31 0=some 0:=by kernel_rfl
theorem lY:fo Tryz.prog 31 1=some 1:=by kernel_rfl
theorem gd:fo Tryz.prog 31 2=some 2:=by kernel_rfl
theorem bU:fo Tryz.prog 47 0=some 0:=by kernel_rfl
theorem cd:fo Tryz.prog 47 1=some 1:=by kernel_rfl
theorem lk:fo Tryz.prog 63 0=some 0:=by kernel_rfl
theorem ff:fo Tryz.prog 63 1=some 1:=by kernel_rfl
theorem js:fo Tryz.prog 65 0=some 0:=by kernel_rfl
theorem eU:fo Tryz.prog 65 1=some 1:=by kernel_rfl
theorem gr:fo Tryz.prog 67 0=some 0:=by kernel_rfl
theorem j7:fo Tryz.prog 67 1=some 1:=by kernel_rfl
theorem sr:fo Tryz.prog 85 0=some 0:=by kernel_rfl
theorem Ej:fo Tryz.prog 85 1=some 1:=by kernel_rfl
theorem EU:fo Tryz.prog 85 2=some 2:=by kernel_rfl
theorem gX:fo Tryz.prog 99 0=some 0:=by kernel_rfl
theorem f_:fo Tryz.prog 99 1=some 1:=by kernel_rfl
theorem mM:fo Tryz.prog 101 0=some 0:=by kernel_rfl
theorem rv:fo Tryz.prog 101 1=some 3:=by kernel_rfl
theorem rD:fo Tryz.prog 117 0=some 0:=by kernel_rfl
theorem oI:fo Tryz.prog 117 1=some 7:=by kernel_rfl
theorem m0:fo Tryz.prog 117 2=some 10:=by kernel_rfl
theorem mP:fo Tryz.prog 117 3=some 11:=by kernel_rfl
theorem kL:fo Tryz.prog 117 4=some 12:=by kernel_rfl
theorem mI:fo Tryz.prog 117 5=some 13:=by kernel_rfl
theorem u1:fo Tryz.prog 124 0=some 0:=by kernel_rfl
theorem u3:fo Tryz.prog 124 1=some 1:=by kernel_rfl
theorem pr:fo Tryz.prog 130 0=some 0:=by kernel_rfl
theorem pH:fo Tryz.prog 130 1=some 1:=by kernel_rfl
theorem uW:fo Tryz.prog 130 2=some 2:=by kernel_rfl
theorem ox:fo Tryz.prog 141 0=some 0:=by kernel_rfl
theorem lO:fo Tryz.prog 141 1=some 1:=by kernel_rfl
theorem ob:fo Tryz.prog 141 2=some 3:=by kernel_rfl
theorem kh:fo Tryz.prog 141 3=some 5:=by kernel_rfl
theorem rL:fo Tryz.prog 141 4=some 7:=by kernel_rfl
theorem uD:fo Tryz.prog 141 5=some 8:=by kernel_rfl
theorem rF:fo Tryz.prog 144 0=some 0:=by kernel_rfl
theorem p5:fo Tryz.prog 173 0=some 0:=by kernel_rfl
theorem Jy:cE Tryz.prog 3=true:=by kernel_rfl
theorem JC:cE Tryz.prog 7=true:=by kernel_rfl
theorem JB:cE Tryz.prog 8=true:=by kernel_rfl
theorem JD:cE Tryz.prog 9=true:=by kernel_rfl
theorem IE:cE Tryz.prog 10=true:=by kernel_rfl
theorem H3:cE Tryz.prog 11=true:=by kernel_rfl
theorem IP:cE Tryz.prog 12=true:=by kernel_rfl
theorem I2:cE Tryz.prog 13=true:=by kernel_rfl
theorem IL:cE Tryz.prog 14=true:=by kernel_rfl
theorem HG:cE Tryz.prog 15=true:=by kernel_rfl
theorem IF:cE Tryz.prog 16=true:=by kernel_rfl
theorem HL:cE Tryz.prog 17=true:=by kernel_rfl
theorem Ia:cE Tryz.prog 18=true:=by kernel_rfl
theorem Hs:cE Tryz.prog 19=true:=by kernel_rfl
theorem Jn:cE Tryz.prog 20=true:=by kernel_rfl
theorem Ja:cE Tryz.prog 21=true:=by kernel_rfl
theorem IZ:cE Tryz.prog 22=true:=by kernel_rfl
theorem Hh:cE Tryz.prog 23=true:=by kernel_rfl
theorem Hm:cE Tryz.prog 24=true:=by kernel_rfl
theorem Hp:cE Tryz.prog 31=true:=by kernel_rfl
theorem Hu:cE Tryz.prog 32=true:=by kernel_rfl
theorem Fh:cE Tryz.prog 33=true:=by kernel_rfl
theorem IM:cE Tryz.prog 34=true:=by kernel_rfl
theorem I5:cE Tryz.prog 35=true:=by kernel_rfl
theorem H6:cE Tryz.prog 36=true:=by kernel_rfl
theorem IG:cE Tryz.prog 37=true:=by kernel_rfl
theorem Ib:cE Tryz.prog 38=true:=by kernel_rfl
theorem Hg:cE Tryz.prog 39=true:=by kernel_rfl
theorem Hn:cE Tryz.prog 40=true:=by kernel_rfl
theorem HX:cE Tryz.prog 41=true:=by kernel_rfl
theorem Jf:cE Tryz.prog 42=true:=by kernel_rfl
theorem Hv:cE Tryz.prog 43=true:=by kernel_rfl
theorem Hr:cE Tryz.prog 44=true:=by kernel_rfl
theorem I4:cE Tryz.prog 45=true:=by kernel_rfl
theorem HO:cE Tryz.prog 46=true:=by kernel_rfl
theorem HH:cE Tryz.prog 47=true:=by kernel_rfl
theorem Hw:cE Tryz.prog 57=true:=by kernel_rfl
theorem Ga:cE Tryz.prog 58=true:=by kernel_rfl
theorem Jc:cE Tryz.prog 59=true:=by kernel_rfl
theorem Jd:cE Tryz.prog 60=true:=by kernel_rfl
theorem Iy:cE Tryz.prog 61=true:=by kernel_rfl
theorem HB:cE Tryz.prog 62=true:=by kernel_rfl
theorem Is:cE Tryz.prog 63=true:=by kernel_rfl
theorem Jh:cE Tryz.prog 64=true:=by kernel_rfl
theorem HI:cE Tryz.prog 65=true:=by kernel_rfl
theorem IW:cE Tryz.prog 66=true:=by kernel_rfl
theorem Hl:cE Tryz.prog 67=true:=by kernel_rfl
theorem Jk:cE Tryz.prog 68=true:=by kernel_rfl
theorem IQ:cE Tryz.prog 69=true:=by kernel_rfl
theorem HD:cE Tryz.prog 70=true:=by kernel_rfl
theorem IJ:cE Tryz.prog 71=true:=by kernel_rfl
theorem Ip:cE Tryz.prog 72=true:=by kernel_rfl
theorem IK:cE Tryz.prog 73=true:=by kernel_rfl
theorem Hy:cE Tryz.prog 74=true:=by kernel_rfl
theorem I0:cE Tryz.prog 75=true:=by kernel_rfl
theorem Ig:cE Tryz.prog 76=true:=by kernel_rfl
theorem I1:cE Tryz.prog 77=true:=by kernel_rfl
theorem HR:cE Tryz.prog 78=true:=by kernel_rfl
theorem HJ:cE Tryz.prog 79=true:=by kernel_rfl
theorem Ho:cE Tryz.prog 80=true:=by kernel_rfl
theorem Ie:cE Tryz.prog 81=true:=by kernel_rfl
theorem He:cE Tryz.prog 82=true:=by kernel_rfl
theorem HZ:cE Tryz.prog 83=true:=by kernel_rfl
theorem H_:cE Tryz.prog 84=true:=by kernel_rfl
theorem Ii:cE Tryz.prog 85=true:=by kernel_rfl
theorem Ir:cE Tryz.prog 86=true:=by kernel_rfl
theorem Ik:cE Tryz.prog 87=true:=by kernel_rfl
theorem IT:cE Tryz.prog 88=true:=by kernel_rfl
theorem Il:cE Tryz.prog 89=true:=by kernel_rfl
theorem HE:cE Tryz.prog 90=true:=by kernel_rfl
theorem I3:cE Tryz.prog 91=true:=by kernel_rfl
theorem ID:cE Tryz.prog 92=true:=by kernel_rfl
theorem Ht:cE Tryz.prog 93=true:=by kernel_rfl
theorem Ic:cE Tryz.prog 99=true:=by kernel_rfl
theorem GC:cE Tryz.prog 103=true:=by kernel_rfl
theorem GY:cE Tryz.prog 104=true:=by kernel_rfl
theorem GA:cE Tryz.prog 105=true:=by kernel_rfl
theorem GM:cE Tryz.prog 106=true:=by kernel_rfl
theorem Fl:cE Tryz.prog 107=true:=by kernel_rfl
theorem Fq:cE Tryz.prog 108=true:=by kernel_rfl
theorem F1:cE Tryz.prog 109=true:=by kernel_rfl
theorem Gb:cE Tryz.prog 110=true:=by kernel_rfl
theorem Fk:cE Tryz.prog 111=true:=by kernel_rfl
theorem FY:cE Tryz.prog 112=true:=by kernel_rfl
theorem Gt:cE Tryz.prog 113=true:=by kernel_rfl
theorem FV:cE Tryz.prog 114=true:=by kernel_rfl
theorem GH:cE Tryz.prog 115=true:=by kernel_rfl
theorem Fc:cE Tryz.prog 116=true:=by kernel_rfl
theorem GP:cE Tryz.prog 117=true:=by kernel_rfl
theorem FW:cE Tryz.prog 118=true:=by kernel_rfl
theorem GQ:cE Tryz.prog 119=true:=by kernel_rfl
theorem Fe:cE Tryz.prog 120=true:=by kernel_rfl
theorem G0:cE Tryz.prog 121=true:=by kernel_rfl
theorem GB:cE Tryz.prog 122=true:=by kernel_rfl
theorem DM:cE Tryz.prog 123=true:=by kernel_rfl
theorem Gi:cE Tryz.prog 129=true:=by kernel_rfl
theorem Ge:cE Tryz.prog 130=true:=by kernel_rfl
theorem Fm:cE Tryz.prog 131=true:=by kernel_rfl
theorem GF:cE Tryz.prog 132=true:=by kernel_rfl
theorem FR:cE Tryz.prog 133=true:=by kernel_rfl
theorem Gf:cE Tryz.prog 134=true:=by kernel_rfl
theorem GD:cE Tryz.prog 135=true:=by kernel_rfl
theorem GX:cE Tryz.prog 136=true:=by kernel_rfl
theorem F5:cE Tryz.prog 137=true:=by kernel_rfl
theorem Ft:cE Tryz.prog 139=true:=by kernel_rfl
theorem nq (l:List ae): ∀ v∈(l.map ae.cells).flatten,v.oneCell'=true:=lx (fun _=>rfl) l
theorem ru (l:List bD): ∀ v∈(l.map bD.cells).flatten,v.oneCell'=true:=lx (fun _=>rfl) l
theorem pC (l:List aw): ∀ v∈(l.map aw.cells).flatten,v.oneCell'=true:=lx (fun _=>rfl) l
theorem rm (l:List aY): ∀ v∈(l.map aY.cells).flatten,v.oneCell'=true:=lx (fun _=>rfl) l
theorem o6 (l:List ah): ∀ v∈(l.map ah.cells).flatten,v.oneCell'=true:=lx (fun _=>rfl) l
theorem IS:tA Tryz.prog 22=some (141,9,72,(Value.agg [(Value.int .i64 0),(Value.int .i64 0),(Value.int .i64 0),(Value.int .i64 0),(Value.int .i64 0),(Value.int .i64 0),(Value.int .i64 0),(Value.int .u8 0),(Value.int .i64 0)].toArray)):=by kernel_rfl
theorem HQ:tA Tryz.prog 25=some (63,2,32,(Value.agg [(Value.int .i64 0),(Value.slice none 0 0)].toArray)):=by kernel_rfl
theorem IN:tA Tryz.prog 26=some (101,4,32,(Value.agg [(Value.int .i64 0),(Value.int .i64 0),(Value.int .i64 0),(Value.int .i64 0)].toArray)):=by kernel_rfl
theorem Hd:tA Tryz.prog 29=some (67,2,16,(Value.agg [(Value.int .i64 0),(Value.int .i64 0)].toArray)):=by kernel_rfl
theorem o9:tA Tryz.prog 35=some (3,1,8,(Value.int .i64 0)):=by kernel_rfl
theorem HV:tA Tryz.prog 61=some (65,3,24,(Value.agg [(Value.int .i64 0),(Value.int .i64 0),(Value.int .i64 0)].toArray)):=by kernel_rfl
theorem FF:tA Tryz.prog 81=some (85,3,72,(Value.agg [(Value.slice none 0 0),(Value.slice none 0 0),(Value.slice none 0 0)].toArray)):=by kernel_rfl
theorem Dm:tA Tryz.prog 114=some (120,1,8,(Value.map none)):=by kernel_rfl
theorem wD:tA Tryz.prog 115=some (122,1,8,(Value.map none)):=by kernel_rfl
theorem Dt:tA Tryz.prog 127=some (47,2,16,(Value.agg [(Value.int .i64 0),(Value.int .i64 0)].toArray)):=by kernel_rfl
theorem Gu:tA Tryz.prog 128=some (4,1,1,(Value.bool false)):=by kernel_rfl
theorem HA:tB Tryz.prog 24=some ([(Value.slice none 0 0)],[(0,1)]):=by kernel_rfl
theorem fI:tB Tryz.prog 47=some ([(Value.int .i64 0),(Value.int .i64 0)],[(0,1),(1,1)]):=by kernel_rfl
theorem GU:tB Tryz.prog 67=some ([(Value.int .i64 0),(Value.int .i64 0)],[(0,1),(1,1)]):=by kernel_rfl
theorem Ix:tB Tryz.prog 85=some ([(Value.slice none 0 0),(Value.slice none 0 0),(Value.slice none 0 0)],[(0,1),(1,1),(2,1)]):=by kernel_rfl
theorem Dv:tB Tryz.prog 117=some ([(Value.slice none 0 0),(Value.int .i64 0),(Value.slice none 0 0),(Value.slice none 0 0),(Value.int .i64 0),(Value.int .i64 0),(Value.int .i64 0),(Value.int .i64 0),(Value.int .i64 0),(Value.slice none 0 0),(Value.slice none 0 0),(Value.slice none 0 0),(Value.slice none 0 0),(Value.slice none 0 0)],[(0,7),(7,3),(10,1),(11,1),(12,1),(13,1)]):=by kernel_rfl
theorem vG:tB Tryz.prog 124=some ([(Value.int .i64 0),(Value.int .i64 0)],[(0,1),(1,1)]):=by kernel_rfl
theorem x9:tB Tryz.prog 144=some ([Value.nilFunc],[(0,1)]):=by kernel_rfl
theorem GW:tB Tryz.prog 145=some ([Value.nilFunc,Value.nilFunc,Value.nilFunc,Value.nilFunc],[(0,1),(1,1),(2,1),(3,1)]):=by kernel_rfl
theorem Gh:tB Tryz.prog 173=some ([(Value.slice none 0 0)],[(0,1)]):=by kernel_rfl
theorem rR:tE Tryz.prog 22=some (141,9):=by kernel_rfl
theorem tI:tE Tryz.prog 25=some (63,2):=by kernel_rfl
theorem qu:tE Tryz.prog 26=some (101,4):=by kernel_rfl
theorem sU:tE Tryz.prog 29=some (67,2):=by kernel_rfl
theorem dY:tE Tryz.prog 35=some (3,1):=by kernel_rfl
theorem pR:tE Tryz.prog 61=some (65,3):=by kernel_rfl
theorem wo:tE Tryz.prog 81=some (85,3):=by kernel_rfl
theorem Dh:tE Tryz.prog 112=some (88,1):=by kernel_rfl
theorem rY:tE Tryz.prog 114=some (120,1):=by kernel_rfl
theorem lI:tE Tryz.prog 115=some (122,1):=by kernel_rfl
theorem km:tE Tryz.prog 127=some (47,2):=by kernel_rfl
theorem Dn:tE Tryz.prog 128=some (4,1):=by kernel_rfl
theorem Bv:tE Tryz.prog 191=some (99,3):=by kernel_rfl
theorem Aq:(match Tryz.prog.underlying 47 with |some (.struct fs)=>(fs[0]?).map (fun fl=>tK Tryz.prog fl.type)|_=>none)=some (some (false,1)):=by kernel_rfl
theorem Bj:(match Tryz.prog.underlying 47 with |some (.struct fs)=>(fs[1]?).map (fun fl=>tK Tryz.prog fl.type)|_=>none)=some (some (false,1)):=by kernel_rfl
theorem Js:tV Tryz.prog 3=some (Value.int .i64 0):=by kernel_rfl
theorem yi:tX Tryz.prog 145=some (4,144):=by kernel_rfl
theorem lK:tZ Tryz.prog 3=some [(Value.int .i64 0)]:=by kernel_rfl
theorem Jr:tZ Tryz.prog 4=some [(Value.bool false)]:=by kernel_rfl
theorem HF:tZ Tryz.prog 24=some [(Value.slice none 0 0)]:=by kernel_rfl
theorem tG:tZ Tryz.prog 28=some [(Value.slice none 0 0),(Value.int .i64 0),(Value.slice none 0 0),(Value.slice none 0 0),(Value.int .i64 0),(Value.int .i64 0),(Value.int .i64 0)]:=by kernel_rfl
theorem tL:tZ Tryz.prog 31=some [(Value.int .i64 0),(Value.int .i64 0),(Value.slice none 0 0)]:=by kernel_rfl
theorem dF:tZ Tryz.prog 47=some [(Value.int .i64 0),(Value.int .i64 0)]:=by kernel_rfl
theorem yW:tZ Tryz.prog 63=some [(Value.int .i64 0),(Value.slice none 0 0)]:=by kernel_rfl
theorem u0:tZ Tryz.prog 65=some [(Value.int .i64 0),(Value.int .i64 0),(Value.int .i64 0)]:=by kernel_rfl
theorem BK:tZ Tryz.prog 67=some [(Value.int .i64 0),(Value.int .i64 0)]:=by kernel_rfl
theorem Hz:tZ Tryz.prog 85=some [(Value.slice none 0 0),(Value.slice none 0 0),(Value.slice none 0 0)]:=by kernel_rfl
theorem HY:tZ Tryz.prog 88=some [Value.nilFunc]:=by kernel_rfl
theorem Iv:tZ Tryz.prog 95=some [(Value.map none)]:=by kernel_rfl
theorem B1:tZ Tryz.prog 99=some [(Value.int .i64 0),(Value.int .i64 0),(Value.int .i64 0)]:=by kernel_rfl
theorem pB:tZ Tryz.prog 124=some [(Value.int .i64 0),(Value.int .i64 0)]:=by kernel_rfl
theorem Dp:tZ Tryz.prog 130=some [(Value.slice none 0 0),(Value.slice none 0 0),(Value.slice none 0 0)]:=by kernel_rfl
theorem AY:tZ Tryz.prog 141=some [(Value.int .i64 0),(Value.int .i64 0),(Value.int .i64 0),(Value.int .i64 0),(Value.int .i64 0),(Value.int .i64 0),(Value.int .i64 0),(Value.int .u8 0),(Value.int .i64 0)]:=by kernel_rfl
theorem yu:tZ Tryz.prog 144=some [Value.nilFunc]:=by kernel_rfl
theorem FJ:tZ Tryz.prog 145=some [Value.nilFunc,Value.nilFunc,Value.nilFunc,Value.nilFunc]:=by kernel_rfl
theorem Bp:tZ Tryz.prog 173=some [(Value.slice none 0 0)]:=by kernel_rfl
theorem qY:Tryz.prog.underlying 3=some (.int .i64):=by kernel_rfl
theorem Jw:Tryz.prog.underlying 4=some .bool:=by kernel_rfl
theorem Fg:Tryz.prog.underlying 5=some (.int .u8):=by kernel_rfl
theorem JK:Tryz.prog.underlying 9=some .string:=by kernel_rfl
theorem qk:Tryz.prog.underlying 22=some (.slice 141):=by kernel_rfl
theorem qy:Tryz.prog.underlying 25=some (.slice 63):=by kernel_rfl
theorem jL:Tryz.prog.underlying 26=some (.slice 101):=by kernel_rfl
theorem nB:Tryz.prog.underlying 29=some (.slice 67):=by kernel_rfl
theorem l9:Tryz.prog.underlying 35=some (.slice 3):=by kernel_rfl
theorem oM:Tryz.prog.underlying 61=some (.slice 65):=by kernel_rfl
theorem Aj:Tryz.prog.underlying 81=some (.slice 85):=by kernel_rfl
theorem EN:Tryz.prog.underlying 95=some (.map 3 4):=by kernel_rfl
theorem Df:Tryz.prog.underlying 112=some (.slice 88):=by kernel_rfl
theorem vC:Tryz.prog.underlying 120=some (.map 3 47):=by kernel_rfl
theorem l5:Tryz.prog.underlying 122=some (.map 124 3):=by kernel_rfl
theorem Gg:Tryz.prog.underlying 127=some (.slice 47):=by kernel_rfl
theorem F4:Tryz.prog.underlying 139=some (.int .u64):=by kernel_rfl
theorem Gj:Tryz.prog.underlying 168=some (.int .u64):=by kernel_rfl
theorem FH:Tryz.prog.underlying 191=some (.slice 99):=by kernel_rfl
theorem Ed:fL Tryz.prog 47=some [(3,0),(3,1)]:=by kernel_rfl
theorem sK (d:Nat) (s z:ae) (w:World):(Op.equalIn (d+2) 47 (.agg s.cells.toArray) (.agg z.cells.toArray)).run Tryz.prog w= .ok (decide (s=z)) w:=by
 have hc:(decide (s.Lo=z.Lo)&&(decide (s.Hi=z.Hi)&&true))=decide (s=z):=by rw [Bool.eq_iff_iff]; simp [ae.ext_iff]
 rw [← hc]
 exact jo (d+1) Ed w (eW w (dD bu rfl w) (dD bu rfl w) (jl _ qY w) (eW w (dD bu rfl w) (dD bu rfl w) (jl _ qY w) (na w)))
theorem yo (x y:Operand) (s z:ae):fz Tryz.prog .eql 47 x y (.agg s.cells.toArray) (.agg z.cells.toArray) (.bool (decide (s=z))):=yG x y (mg Ed) fun w=>sK 9998 s z w
theorem Fv (x y:Operand) (s z:ae):fz Tryz.prog .neq 47 x y (.agg s.cells.toArray) (.agg z.cells.toArray) (.bool (!decide (s=z))):=l_ x y (mg Ed) fun w=>sK 9998 s z w
theorem Jo:fL Tryz.prog 99=some [(3,0),(47,1)]:=by kernel_rfl
theorem F3 (d:Nat) (s z:bS) (w:World):(Op.equalIn (d+3) 99 (.agg s.cells.toArray) (.agg z.cells.toArray)).run Tryz.prog w= .ok (decide (s=z)) w:=by
 have hc:(decide (s.ak=z.ak)&&(decide (s.ek=z.ek)&&true))=decide (s=z):=by rw [Bool.eq_iff_iff]; simp [bS.ext_iff]
 rw [← hc]
 exact jo (d+2) Jo w (eW w (dD bu rfl w) (dD bu rfl w) (jl _ qY w) (eW w (gW (vs:=ae.cells s.ek) cp rfl w) (gW (vs:=ae.cells z.ek) cp rfl w) (sK (d+0) s.ek z.ek w) (na w)))
theorem Dy:fL Tryz.prog 101=some [(99,0),(3,3)]:=by kernel_rfl
theorem D7 (d:Nat) (s z:aY) (w:World):(Op.equalIn (d+4) 101 (.agg s.cells.toArray) (.agg z.cells.toArray)).run Tryz.prog w= .ok (decide (s=z)) w:=by
 have hc:(decide (s.hU=z.hU)&&(decide (s.gk=z.gk)&&true))=decide (s=z):=by rw [Bool.eq_iff_iff]; simp [aY.ext_iff]
 rw [← hc]
 exact jo (d+3) Dy w (eW w (gW (vs:=bS.cells s.hU) kO rfl w) (gW (vs:=bS.cells z.hU) kO rfl w) (F3 (d+0) s.hU z.hU w) (eW w (dD bu rfl w) (dD bu rfl w) (jl _ qY w) (na w)))
theorem Er (x y:Operand) (s z:aY):fz Tryz.prog .neq 101 x y (.agg s.cells.toArray) (.agg z.cells.toArray) (.bool (!decide (s=z))):=l_ x y (mg Dy) fun w=>D7 9996 s z w
theorem DE:fL Tryz.prog 124=some [(3,0),(3,1)]:=by kernel_rfl
theorem E7 (d:Nat) (s z:ao) (w:World):(Op.equalIn (d+2) 124 (.agg s.cells.toArray) (.agg z.cells.toArray)).run Tryz.prog w= .ok (decide (s=z)) w:=by
 have hc:(decide (s.right=z.right)&&(decide (s.de=z.de)&&true))=decide (s=z):=by rw [Bool.eq_iff_iff]; simp [ao.ext_iff]
 rw [← hc]
 exact jo (d+1) DE w (eW w (dD bu rfl w) (dD bu rfl w) (jl _ qY w) (eW w (dD bu rfl w) (dD bu rfl w) (jl _ qY w) (na w)))
theorem DI:fL Tryz.prog 141=some [(3,0),(47,1),(47,3),(47,5),(5,7),(3,8)]:=by kernel_rfl
theorem Ex (d:Nat) (s z:ah) (w:World):(Op.equalIn (d+3) 141 (.agg s.cells.toArray) (.agg z.cells.toArray)).run Tryz.prog w= .ok (decide (s=z)) w:=by
 have hc:(decide (s.Id=z.Id)&&(decide (s.g5=z.g5)&&(decide (s.iA=z.iA)&&(decide (s.cQ=z.cQ)&&(decide (s.gi=z.gi)&&(decide (s.pX=z.pX)&&true))))))=decide (s=z):=by rw [Bool.eq_iff_iff]; simp [ah.ext_iff]
 rw [← hc]
 exact jo (d+2) DI w (eW w (dD bu rfl w) (dD bu rfl w) (jl _ qY w) (eW w (gW (vs:=ae.cells s.g5) cp rfl w) (gW (vs:=ae.cells z.g5) cp rfl w) (sK (d+0) s.g5 z.g5 w) (eW w (gW (vs:=ae.cells s.iA) cp rfl w) (gW (vs:=ae.cells z.iA) cp rfl w) (sK (d+0) s.iA z.iA w) (eW w (gW (vs:=ae.cells s.cQ) cp rfl w) (gW (vs:=ae.cells z.cQ) cp rfl w) (sK (d+0) s.cQ z.cQ w) (eW w (dD Fa rfl w) (dD Fa rfl w) (jl _ Fg w) (eW w (dD bu rfl w) (dD bu rfl w) (jl _ qY w) (na w)))))))
theorem Ek (x y:Operand) (s z:ah):fz Tryz.prog .neq 141 x y (.agg s.cells.toArray) (.agg z.cells.toArray) (.bool (!decide (s=z))):=l_ x y (mg DI) fun w=>Ex 9997 s z w
theorem GJ:fL Tryz.prog 65=some [(3,0),(47,1)]:=by kernel_rfl
theorem Gq (d:Nat) (s z:bD) (w:World):(Op.equalIn (d+3) 65 (.agg s.cells.toArray) (.agg z.cells.toArray)).run Tryz.prog w= .ok (decide (s=z)) w:=by
 have hc:(decide (s.At=z.At)&&(decide (s.bQ=z.bQ)&&true))=decide (s=z):=by rw [Bool.eq_iff_iff]; simp [bD.ext_iff]
 rw [← hc]
 exact jo (d+2) GJ w (eW w (dD bu rfl w) (dD bu rfl w) (jl _ qY w) (eW w (gW (vs:=ae.cells s.bQ) cp rfl w) (gW (vs:=ae.cells z.bQ) cp rfl w) (sK (d+0) s.bQ z.bQ w) (na w)))
theorem Dj (x y:Operand) (s z:bD):fz Tryz.prog .neq 65 x y (.agg s.cells.toArray) (.agg z.cells.toArray) (.bool (!decide (s=z))):=l_ x y (mg GJ) fun w=>Gq 9997 s z w
theorem Fi:fL Tryz.prog 67=some [(3,0),(3,1)]:=by kernel_rfl
theorem GI (d:Nat) (s z:aw) (w:World):(Op.equalIn (d+2) 67 (.agg s.cells.toArray) (.agg z.cells.toArray)).run Tryz.prog w= .ok (decide (s=z)) w:=by
 have hc:(decide (s.cU=z.cU)&&(decide (s.Read=z.Read)&&true))=decide (s=z):=by rw [Bool.eq_iff_iff]; simp [aw.ext_iff]
 rw [← hc]
 exact jo (d+1) Fi w (eW w (dD bu rfl w) (dD bu rfl w) (jl _ qY w) (eW w (dD bu rfl w) (dD bu rfl w) (jl _ qY w) (na w)))
theorem Fy (x y:Operand) (s z:aw):fz Tryz.prog .neq 67 x y (.agg s.cells.toArray) (.agg z.cells.toArray) (.bool (!decide (s=z))):=l_ x y (mg Fi) fun w=>GI 9998 s z w
theorem cG:Tryz.prog.follows .mixedOrders=true:=by kernel_rfl
end
section
open Go.RowKit
set_option linter.unusedVariables false
def BQ (m:Array Nat) (ops:Array Oper) (free T:List Nat):Bool:=
 (free.all (Nat.blt · ops.size))&&(T.all (Nat.blt · ops.size))&&((List.range ops.size).all fun i=>free.contains i||T.contains i)&&(T.all fun i=> !free.contains i)&&
 ((List.range ops.size).all fun i=>match ops[i]? with
  |none=>false
  |some o=>og o&&o.after.toList.all fun e=> !Region.binds .any e||Nat.blt e.on i)&&
 ((List.range free.length).all fun p=>match (free[p]?).bind fun i=>(ops[i]?).map fun o=>(i,o) with
  |none=>false
  |some (i,o)=>o.dst.isSome&&
   ((List.range free.length).all fun q=>q==p||match (free[q]?).bind fun j=>(ops[j]?).map fun o=>(j,o) with
    |none=>false
    |some (j,r)=>match r.dst with
     |none=>false
     |some d=>o.dst != some d&&(!(o.looksAt ops).contains d||(if q<p then gz m j i else gz m i j)))&&
   (T.all fun j=>match ops[j]? with
    |none=>false
    |some r=>r.dst != o.dst&&(match r.dst with |none=>true|some d=> !(o.looksAt ops).contains d||gz m i j)&&(match o.dst with |none=>true|some d=> !(r.looksAt ops).contains d||gz m i j)))&&
 ((List.range T.length).all fun p=>(List.range p).all fun q=>match T[p]?,T[q]? with
  |some i,some j=>i != j
  |_,_=>false)
def BP (m:Array Nat) (ops:Array Oper) (free T:List Nat) (fe:List Bool) (tb:List Nat):Bool:=
 BQ m ops free T&&(T.all fun j=>tb.contains j||(List.range free.length).all fun p=> !(fe[p]?).getD false||match free[p]? with
  |some i=>gz m i j
  |_=>false)
def z7 (ops:Array Oper) (free T:List Nat) (fe:List Bool) (tb:List Nat):Bool:=BP (nx ops) ops free T fe tb
def D1 (ops:Array Oper) (free T:List Nat):Bool:=BQ (nx ops) ops free T
theorem BC {ops:Array Oper} {free T:List Nat} {fe:List Bool} {tb:List Nat} (h:z7 ops free T fe tb=true):D1 ops free T=true∧ ∀ (p i j:Nat),free[p]? =some i→j∈T→(fe[p]?).getD false=true→tb.contains j=true∨gz (nx ops) i j=true:=by
 simp only [z7,BP,Bool.and_eq_true] at h
 refine ⟨h.1,fun p i j hp hj hf=>?_⟩
 have h2:=h.2
 rw [List.all_eq_true] at h2
 have h3:=h2 j hj
 rw [Bool.or_eq_true] at h3
 rcases h3 with h3|h3
 ·exact .inl h3
 ·rw [List.all_eq_true] at h3
  have h4:=h3 p (by simpa using (List.getElem?_eq_some_iff.1 hp).1)
  simp only [hp,hf,Bool.not_true,Bool.false_or] at h4
  exact .inr h4
structure Ew (ops:Array Oper) (free T:List Nat):Prop where
 fl: ∀ i∈free,i<ops.size
 tl: ∀ i∈T,i<ops.size
 cover: ∀ i,i<ops.size→i∈free∨i∈T
 Ab: ∀ i∈T,i ∉ free
 plain: ∀ (i:Nat) (o:Oper),ops[i]? =some o→(∀ cs b,o.op≠ .select cs b)∧(∀ c,o.op≠ .defer c)
 vy: ∀ (i:Nat) (o:Oper) (e:Edge),ops[i]? =some o→e∈o.after→Region.binds .any e=true→e.on<i
 apart: ∀ (p q i j:Nat) (o r:Oper) (d:Nat),free[p]? =some i→free[q]? =some j→q≠p→ops[i]? =some o→ops[j]? =some r→r.dst=some d→o.dst≠some d∧(d∈o.looksAt ops→(q<p∧gz (nx ops) j i=true)∨(p<q∧gz (nx ops) i j=true))
 ft: ∀ (i j:Nat) (o r:Oper),i∈free→j∈T→ops[i]? =some o→ops[j]? =some r→r.dst≠o.dst∧(∀ d,r.dst=some d→d∈o.looksAt ops→gz (nx ops) i j=true)∧(∀ d,o.dst=some d→d∈r.looksAt ops→gz (nx ops) i j=true)
 nodup:T.Nodup
theorem Ew.of {ops:Array Oper} {free T:List Nat} (h:D1 ops free T=true):Ew ops free T:=by
 simp only [D1,BQ,Bool.and_eq_true] at h
 obtain ⟨⟨⟨⟨⟨⟨h1,h2⟩,h3⟩,h4⟩,h5⟩,h6⟩,h7⟩:=h
 rw [List.all_eq_true] at h1 h2 h3 h4 h5 h6 h7
 have hfl: ∀ i∈free,i<ops.size:=fun i hi=>by have:=h1 i hi; rwa [Nat.blt_eq] at this
 have htl: ∀ i∈T,i<ops.size:=fun i hi=>by have:=h2 i hi; rwa [Nat.blt_eq] at this
 refine ⟨hfl,htl,fun i hi=>?_,fun i hi=>?_,fun i o ho=>?_,fun i o e ho he hb=>?_,?_,?_,?_⟩
 ·have:=h3 i (by simpa using hi)
  simpa using this
 ·have:=h4 i hi
  simpa using this
 ·have hi:i<ops.size:=(Array.getElem?_eq_some_iff.1 ho).1
  have:=h5 i (by simpa using hi)
  simp only [ho,Bool.and_eq_true] at this
  have:=this.1
  refine ⟨fun cs b hh=>?_,fun c hh=>?_⟩<;>simp [og,hh] at this
 ·have hi:i<ops.size:=(Array.getElem?_eq_some_iff.1 ho).1
  have:=h5 i (by simpa using hi)
  simp only [ho,Bool.and_eq_true] at this
  have:=this.2
  rw [List.all_eq_true] at this
  have:=this e (by simpa using he)
  rw [hb] at this
  simpa using this
 ·intro p q i j o r d hp hq hne ho hr hd
  have:=h6 p (by simpa using (List.getElem?_eq_some_iff.1 hp).1)
  simp only [hp,ho,Option.bind_some,Option.map_some,Bool.and_eq_true] at this
  have:=this.1.2
  rw [List.all_eq_true] at this
  have:=this q (by simpa using (List.getElem?_eq_some_iff.1 hq).1)
  simp only [hq,hr,hd,Option.bind_some,Option.map_some,Bool.or_eq_true,Bool.and_eq_true,beq_iff_eq,bne_iff_ne,ne_eq] at this
  rcases this with h|⟨h8,h9⟩
  ·exact absurd h hne
  ·refine ⟨h8,fun hm=>?_⟩
   rcases h9 with h9|h9
   ·simp [hm] at h9
   ·by_cases hlt:q<p
    ·rw [if_pos hlt] at h9; exact .inl ⟨hlt,h9⟩
    ·rw [if_neg hlt] at h9; exact .inr ⟨by omega,h9⟩
 ·intro i j o r hi hj ho hr
  obtain ⟨p,hp⟩:=List.mem_iff_getElem?.1 hi
  have:=h6 p (by simpa using (List.getElem?_eq_some_iff.1 hp).1)
  simp only [hp,ho,Option.bind_some,Option.map_some,Bool.and_eq_true] at this
  have:=this.2
  rw [List.all_eq_true] at this
  have:=this j hj
  simp only [hr,Bool.and_eq_true,bne_iff_ne,ne_eq] at this
  refine ⟨this.1.1,fun d hd hm=>?_,fun d hd hm=>?_⟩
  ·have:=this.1.2
   simp [hd,hm] at this; exact this
  ·have:=this.2
   simp [hd,hm] at this; exact this
 ·rw [List.nodup_iff_pairwise_ne,List.pairwise_iff_getElem]
  intro q p hq hp hlt
  have:=h7 p (by simpa using hp)
  rw [List.all_eq_true] at this
  have:=this q (by simpa using hlt)
  simp only [List.getElem?_eq_getElem hp,List.getElem?_eq_getElem hq,bne_iff_ne,ne_eq] at this
  exact fun e=>this e.symm
/-- the others, in whatever order the edges leave open; the part C' of the state stands throughout, the part C1 where the list tb says -/
def TN (E:eI) (ops:Array Oper) (D:List Deferred) (C' C1:List aA) (F:List (Nat×Value)→List aA→Prop) (tb:List Nat):Nat→List Nat→List (Nat×Value)→List aA→Prop
 |0,_,L,C=>F L C
 |n+1,rem,L,C=> ∀ i∈rem.filter (fun i=>rem.all fun j=> !gz (nx ops) j i),∀ o,ops[i]? =some o→ ∀ K:Act→World→Prop,(∀ L' C'',(∀ w,St E.S E.w0 C'' w→St E.S E.w0 C' w)→(tb.contains i=true→ ∀ w,St E.S E.w0 C'' w→St E.S E.w0 C1 w)→TN E ops D C' C1 F tb n (rem.filter (· != i)) L' C''→KJ E K D L' C'')→RJ E ops (NQ K) [o] D L C
set_option maxHeartbeats 1000000 in
theorem lJ {E:eI} {id:Nat} {ops:Array Oper} {Q:dh} {D:List Deferred} {L:List (Nat×Value)} {C:List aA} (hm:E.P.follows .mixedOrders=true) (free T:List Nat) (fe:List Bool) (tb:List Nat) (C' C1:List aA) (hc:z7 ops free T fe tb=true)
 (hC: ∀ w,St E.S E.w0 C w→St E.S E.w0 C' w) (hC1: ∀ w,St E.S E.w0 C w→St E.S E.w0 C1 w)
 (h:tw E ops D C' C1 (fun L'=>TN E ops D C' C1 (fun L C=>KJ E (Q .normal) D L C) tb T.length T L' C) fe (dM ops free) L):WJ E (.region id ops true) Q D L C:=by
 obtain ⟨hc,hc4⟩:=BC hc
 have hc:=Ew.of hc
 intro a0 w0 hf0 hs0
 refine wpIn_region_any hm ?_
 have hs1:St E.S E.w0 C ({w0 with drawn:=w0.drawn+1}:World):=hs0.same (dj.drew no w0)
 obtain ⟨vs,hvl,hF,hall⟩:=tw.out _ _ _ h
 have hfl:=mL hc.fl
 have hgf: ∀ (p:Nat) (i:Nat) (o:Oper),free[p]? =some i→ops[i]? =some o→(dM ops free)[p]? =some o:=fun p i o hp ho=>by rw [kU hc.fl,hp]; exact ho
 have hfg: ∀ (p:Nat) (o:Oper),(dM ops free)[p]? =some o→ ∃ i,free[p]? =some i∧ops[i]? =some o:=fun p o h=>by
  rw [kU hc.fl] at h
  cases hp:free[p]? with
  |none=>simp [hp] at h
  |some i=>exact ⟨i,rfl,by simpa [hp] using h⟩
 have hdlt: ∀ (j:Nat) (o:Oper) (d:Nat),(dM ops free)[j]? =some o→o.dst=some d→d<E.n:=fun j o d ho hd=>by
  obtain ⟨d',v,h1,h2,_⟩:=hall j o ho
  rw [h1] at hd; cases hd; exact h2
 -- all is listed
 have done: ∀ (listed:Array Bool) (a:Act) (w:World) (rem:List Nat) (Lk:List (Nat×Value)) (Ck:List aA) (af:Act),(∀ i,i<ops.size→listed.getD i false=true)→
  (∀ i∈T,(listed.getD i false=true↔i ∉ rem))→(∀ i∈rem,i∈T)→rem.Nodup→a.defers=D→a.tmps.size=E.n→
  TN E ops D C' C1 (fun L C=>KJ E (Q .normal) D L C) tb rem.length rem Lk Ck→Fr E.n D Lk af→St E.S E.w0 Ck w→
  (∀ t,(∀ (p i:Nat) (o:Oper),free[p]? =some i→ops[i]? =some o→o.dst≠some t)→af.tmps[t]? =a.tmps[t]?)→
  (∀ (p i:Nat) (o:Oper) (d:Nat),free[p]? =some i→ops[i]? =some o→o.dst=some d→af.tmps[d]? =vs[p]? ∧(listed.getD i false=true→a.tmps[d]? =vs[p]?))→Q .normal a w:=by
  intro listed a w rem Lk Ck af hal hTk hrT hrn hd hz hT hfr hst hslot hfree
  have hk:rem=[]:=by
   rw [List.eq_nil_iff_forall_not_mem]
   intro i hi
   exact (hTk i (hrT i hi)).1 (hal i (hc.tl i (hrT i hi))) hi
  subst hk
  have hT:KJ E (Q .normal) D Lk Ck:=hT
  refine hT a w ⟨hd,hz,fun t v hv=>?_⟩ hst
  rw [← hfr.at_ t v hv]
  by_cases hw: ∃ (p i:Nat) (o:Oper),free[p]? =some i∧ops[i]? =some o∧o.dst=some t
  ·obtain ⟨p,i,o,hp,ho,hdst⟩:=hw
   obtain ⟨e1,e2⟩:=hfree p i o t hp ho hdst
   rw [e1,e2 (hal i (hc.fl i (List.mem_of_getElem? hp)))]
  ·exact (hslot t (fun p i o hp ho hdst=>hw ⟨p,i,o,hp,ho,hdst⟩)).symm
 have key: ∀ (fuel:Nat) (listed:Array Bool) (a:Act) (w:World) (rem:List Nat) (Lk:List (Nat×Value)) (Ck:List aA) (af:Act),listed.size=ops.size→(wN ops.size listed).length≤fuel→(∀ j,listed.getD j false=true→qv ops (fun k=>listed.getD k false=true) j)→
  (∀ i∈T,(listed.getD i false=true↔i ∉ rem))→(∀ i∈rem,i∈T)→rem.Nodup→a.defers=D→a.tmps.size=E.n→
  TN E ops D C' C1 (fun L C=>KJ E (Q .normal) D L C) tb rem.length rem Lk Ck→Fr E.n D Lk af→St E.S E.w0 Ck w→(∀ w,St E.S E.w0 Ck w→St E.S E.w0 C' w)→(∀ (p i:Nat),free[p]? =some i→(fe[p]?).getD false=true→listed.getD i false=false→ ∀ w,St E.S E.w0 Ck w→St E.S E.w0 C1 w)→
  (∀ t,(∀ (p i:Nat) (o:Oper),free[p]? =some i→ops[i]? =some o→o.dst≠some t)→af.tmps[t]? =a.tmps[t]?)→
  (∀ t,(∀ (i:Nat) (o:Oper),listed.getD i false=true→ops[i]? =some o→o.dst≠some t)→a.tmps[t]? =a0.tmps[t]?)→
  (∀ (p i:Nat) (o:Oper) (d:Nat),free[p]? =some i→ops[i]? =some o→o.dst=some d→af.tmps[d]? =vs[p]? ∧(listed.getD i false=true→a.tmps[d]? =vs[p]?))→
  wpAnyIn (Fw E.r) 0 E.P .any ops Q fuel listed a w:=by
  intro fuel
  induction fuel with
  |zero=>
   intro listed a w rem Lk Ck af hsz hu hcl hTk hrT hrn hd hz hT hfr hst hsub hsub1 hslot hold hfree
   have hall': ∀ i,i<ops.size→listed.getD i false=true:=fun i hi=>by
    cases hg:listed.getD i false with
    |true=>rfl
    |false=>
     have:=List.length_pos_of_mem (lR.2 ⟨hi,hg⟩)
     omega
   refine ⟨?_,done listed a w rem Lk Ck af hall' hTk hrT hrn hd hz hT hfr hst hslot hfree⟩
   rw [List.eq_nil_iff_forall_not_mem]
   intro i hi
   obtain ⟨h1,h2,_⟩:=kF hsz hi
   rw [hall' i h1] at h2; cases h2
  |succ fuel ih=>
   intro listed a w rem Lk Ck af hsz hu hcl hTk hrT hrn hd hz hT hfr hst hsub hsub1 hslot hold hfree
   refine ⟨fun hnil=>?_,fun i hi=>?_⟩
   ·refine done listed a w rem Lk Ck af (fun i hi=>?_) hTk hrT hrn hd hz hT hfr hst hslot hfree
    cases hg:listed.getD i false with
    |true=>rfl
    |false=>
     exfalso
     have hex: ∃ i,i<ops.size∧listed.getD i false=false:=⟨i,hi,hg⟩
     obtain ⟨j,hj,hmin⟩:=exists_least hex
     have hr:j∈Region.ready .any ops listed:=po hsz hj.1 hj.2 (fun o e ho he hb=>by
      have h1:=hc.vy j o e ho he hb
      cases hg:listed.getD e.on false with
      |true=>exact hg
      |false=>exact absurd (hmin e.on ⟨by omega,hg⟩) (by omega))
     rw [hnil] at hr; cases hr
   ·obtain ⟨hi1,hi2,hi3⟩:=kF hsz hi
    obtain ⟨o,ho⟩: ∃ o,ops[i]? =some o:=⟨ops[i],Array.getElem?_eq_getElem hi1⟩
    obtain ⟨hsel,hdef⟩:=hc.plain i o ho
    have hset: ∀ j,(listed.setIfInBounds i true).getD j false=if j=i then true else listed.getD j false:=fun j=>nV (by omega) false
    have hun:=uE (n:=ops.size) (i:=i) (listed:=listed) (by omega) (lR.2 ⟨hi1,hi2⟩)
    have hcl': ∀ j,(listed.setIfInBounds i true).getD j false=true→qv ops (fun k=>(listed.setIfInBounds i true).getD k false=true) j:=by
     intro j hj o' e ho' he hb
     show (listed.setIfInBounds i true).getD e.on false=true
     rw [hset] at hj ⊢
     by_cases e1:e.on=i
     ·simp [e1]
     ·simp only [e1,if_false]
      by_cases e2:j=i
      ·subst e2; exact hi3 o' e ho' he hb
      ·simp only [e2,if_false] at hj; exact hcl j hj o' e ho' he hb
    have hanc: ∀ j,gz (nx ops) j i=true→listed.getD j false=true:=fun j hj=>g6 (S:=fun k=>listed.getD k false=true) hcl hj hi3
    have hnanc: ∀ j,gz (nx ops) i j=true→listed.getD j false=false:=fun j hj=>by
     cases hg:listed.getD j false with
     |false=>rfl
     |true=>
      have:=g6 (S:=fun k=>listed.getD k false=true) hcl hj (hcl j hg)
      rw [this] at hi2; cases hi2
    unfold wpOpIn
    simp only [ho]
    rcases hc.cover i hi1 with hin|hin
    ·-- a free one
     obtain ⟨p,hp⟩:=List.mem_iff_getElem?.1 hin
     obtain ⟨d,v,hod,hdn,hvi,hsd⟩:=hall p o (hgf p i o hp ho)
     have hfrp:=jO (dM ops free) vs p L a0 hdlt hf0
     have hlook: ∀ t∈o.looksAt ops,a.tmps[t]? =(jR (dM ops free) vs p a0).tmps[t]? :=by
      intro t htl
      by_cases hw: ∃ (q j:Nat) (r:Oper),free[q]? =some j∧q≠p∧ops[j]? =some r∧r.dst=some t
      ·obtain ⟨q,j,r,hq,hne,hr,hrd⟩:=hw
       obtain ⟨d',v',e1,e2,e3,_⟩:=hall q r (hgf q j r hq hr)
       rw [hrd] at e1; cases e1
       have hap:=hc.apart p q i j o r t hp hq hne ho hr hrd
       rcases hap.2 htl with ⟨hlt,ha⟩|⟨hlt,ha⟩
       ·rw [(hfree q j r t hq hr hrd).2 (hanc j ha),e3]
        refine (jQ (dM ops free) vs p a0 q r t v' hlt (hgf q j r hq hr) hrd (by rw [hf0.size]; exact e2) e3 (fun m u hm hne' hu=>?_)).symm
        obtain ⟨x,hx1,hx2⟩:=hfg m u hu
        exact (hc.apart m q x j u r t hx1 hq (Ne.symm hne') hx2 hr hrd).1
       ·have hnS:=hnanc j ha
        refine (hold t (fun m u hm hu hud=>?_)).trans (ep (dM ops free) vs p a0 t (fun m u hm hu hud=>?_)).symm
        ·rcases hc.cover m (Array.getElem?_eq_some_iff.1 hu).1 with hmf|hmT
         ·obtain ⟨x,hx⟩:=List.mem_iff_getElem?.1 hmf
          by_cases e:x=q
          ·subst e; rw [hq] at hx; cases hx; rw [hm] at hnS; cases hnS
          ·exact (hc.apart x q m j u r t hx hq (Ne.symm e) hu hr hrd).1 hud
         ·exact (hc.ft j m r u (List.mem_of_getElem? hq) hmT hr hu).1 (by rw [hud,hrd])
        ·obtain ⟨x,hx1,hx2⟩:=hfg m u hu
         exact (hc.apart m q x j u r t hx1 hq (by omega) hx2 hr hrd).1 hud
      ·refine (hold t (fun m u hm hu hud=>?_)).trans (ep (dM ops free) vs p a0 t (fun m u hm hu hud=>?_)).symm
       ·rcases hc.cover m (Array.getElem?_eq_some_iff.1 hu).1 with hmf|hmT
        ·obtain ⟨x,hx⟩:=List.mem_iff_getElem?.1 hmf
         by_cases e:x=p
         ·subst e; rw [hp] at hx; cases hx; rw [hm] at hi2; cases hi2
         ·exact hw ⟨x,m,u,hx,e,hu,hud⟩
        ·have:=hnanc m ((hc.ft i m o u hin hmT ho hu).2.1 t hud htl)
         rw [hm] at this; cases this
       ·obtain ⟨x,hx1,hx2⟩:=hfg m u hu
        exact hw ⟨m,x,u,hx1,by omega,hx2,hud⟩
     have hTi: ∀ j∈T,j≠i:=fun j hmj e=>hc.Ab j hmj (e▸hin)
     have hgo: ∀ w',dj no w w'→wpAnyIn (Fw E.r) 0 E.P .any ops Q fuel (listed.setIfInBounds i true) (a.put (some d) v) w':=by
      intro w' hk
      refine ih _ _ w' rem Lk Ck af (by simpa using hsz) (by omega) hcl' (fun j hmj=>?_) hrT hrn hd (by simp [Act.put,hz]) hT hfr (hst.same hk) hsub (fun p' i' hp' hf' hl'=>hsub1 p' i' hp' hf' (by rw [hset] at hl'; by_cases e:i'=i; (rw [if_pos e] at hl'; cases hl'); (rwa [if_neg e] at hl'))) (fun t ht=>?_) (fun t ht=>?_) (fun q j r d' hq hr hrd=>?_)
      ·rw [hset,if_neg (hTi j hmj)]; exact hTk j hmj
      ·have hne:d≠t:=fun e=>ht p i o hp ho (by rw [hod,e])
       simp only [Act.put]
       rw [Array.getElem?_setIfInBounds_ne hne]
       exact hslot t ht
      ·have hne:d≠t:=fun e=>ht i o (by rw [hset]; simp) ho (by rw [hod,e])
       simp only [Act.put]
       rw [Array.getElem?_setIfInBounds_ne hne]
       exact hold t (fun m u hm hu=>ht m u (by rw [hset]; split<;>simp [hm]) hu)
      ·refine ⟨(hfree q j r d' hq hr hrd).1,fun hl=>?_⟩
       by_cases e:q=p
       ·subst e
        rw [hp] at hq; cases hq
        rw [ho] at hr; cases hr
        rw [hod] at hrd; cases hrd
        simp only [Act.put]
        rw [Array.getElem?_setIfInBounds_self_of_lt (by rw [hz]; exact hdn),hvi]
       ·have hne:=(hc.apart p q i j o r d' hp hq e ho hr hrd).1
        simp only [Act.put]
        rw [Array.getElem?_setIfInBounds_ne (fun h=>hne (by rw [hod,h]))]
        refine (hfree q j r d' hq hr hrd).2 ?_
        rw [hset] at hl
        by_cases e2:j=i
        ·subst e2
         exact absurd (by rw [ho] at hr; cases hr; rw [hod] at hrd ⊢; exact hrd) hne
        ·simpa [e2] using hl
     refine pJ hsd hod hdn hsel hdef hfrp hlook ?_ hgo
     cases hfl:(fe[p]?).getD false with
     |true=>exact hsub1 p i hp hfl hi2 w hst
     |false=>exact hsub w hst
    ·-- one of the others
     have hir:i∈rem:=by
      rcases Classical.em (i∈rem) with h|h
      ·exact h
      ·have:=(hTk i hin).2 h; rw [this] at hi2; cases hi2
     have hmin:i∈rem.filter (fun i=>rem.all fun j=> !gz (nx ops) j i):=by
      rw [List.mem_filter]
      refine ⟨hir,List.all_eq_true.2 fun j hj=>?_⟩
      cases hab:gz (nx ops) j i with
      |false=>rfl
      |true=>exact absurd hj ((hTk j (hrT j hj)).1 (hanc j hab))
     obtain ⟨nr,hnr⟩: ∃ nr,rem.length=nr+1:=⟨rem.length-1,by have:=List.length_pos_of_mem hir; omega⟩
     have hnr':(rem.filter (· != i)).length=nr:=by
      have:=hrn.erase_eq_filter i
      rw [← this,List.length_erase_of_mem hir,hnr]; rfl
     rw [hnr] at hT
     have hT:=hT i hmin o ho
     have hlook: ∀ t∈o.looksAt ops,a.tmps[t]? =af.tmps[t]? :=by
      intro t htl
      by_cases hw: ∃ (q j:Nat) (r:Oper),free[q]? =some j∧ops[j]? =some r∧r.dst=some t
      ·obtain ⟨q,j,r,hq,hr,hrd⟩:=hw
       have ha:=(hc.ft j i r o (List.mem_of_getElem? hq) hin hr ho).2.2 t hrd htl
       obtain ⟨e1,e2⟩:=hfree q j r t hq hr hrd
       rw [e1,e2 (hanc j ha)]
      ·exact (hslot t (fun q j r hq hr hrd=>hw ⟨q,j,r,hq,hr,hrd⟩)).symm
     refine yv hsel hdef hlook (hT (fun af' w'=>af'.defers=D∧ ∃ L' C'',(∀ w,St E.S E.w0 C'' w→St E.S E.w0 C' w)∧(tb.contains i=true→ ∀ w,St E.S E.w0 C'' w→St E.S E.w0 C1 w)∧TN E ops D C' C1 (fun L C=>KJ E (Q .normal) D L C) tb nr (rem.filter (· != i)) L' C''∧Fr E.n D L' af'∧St E.S E.w0 C'' w')
      (fun L' C'' h1 h1' h2 af' w' h3 h4=>⟨h3.defers,L',C'',h1,h1',h2,h3,h4⟩) af w hfr hst) (fun b w' hb=>hb.1.trans hfr.defers.symm) ?_
     rintro u w' ⟨_,L',C'',h1,h1',h2,h3,h4⟩
     have hput: ∀ (b:Act) (t:Nat),o.dst≠some t→(b.put o.dst u).tmps[t]? =b.tmps[t]? :=fun b t hne=>by
      cases hod:o.dst with
      |none=>rfl
      |some d=>simp only [Act.put]; rw [Array.getElem?_setIfInBounds_ne (fun e=>hne (by rw [hod,e]))]
     have hputs: ∀ (b:Act),(b.put o.dst u).tmps.size=b.tmps.size:=fun b=>by cases o.dst<;>simp [Act.put]
     refine ih _ _ w' (rem.filter (· != i)) L' C'' (af.put o.dst u) (by simpa using hsz) (by omega) hcl' (fun j hq=>?_) (fun j hj=>hrT j (List.mem_filter.1 hj).1) (hrn.filter _) (by cases o.dst<;>exact hd) (by rw [hputs]; exact hz) (by rw [hnr']; exact h2) h3 h4 h1 (fun p' i' hp' hf' hl'=>by
      rcases hc4 p' i' i hp' hin hf' with h5|h5
      ·exact h1' h5
      ·have h6:=hanc i' h5
       rw [hset] at hl'
       by_cases e:i'=i
       ·rw [if_pos e] at hl'; cases hl'
       ·rw [if_neg e,h6] at hl'; cases hl') (fun t ht=>?_) (fun t ht=>?_) (fun q j r d' hq hr hrd=>?_)
     ·rw [hset]
      by_cases e:j=i
      ·subst e; simp
      ·simp only [e,if_false,List.mem_filter,bne_iff_ne,ne_eq,not_false_eq_true,and_true]
       exact hTk j hq
     ·by_cases hod:o.dst=some t
      ·rw [hod]
       simp only [Act.put]
       by_cases hlt:t<E.n
       ·rw [Array.getElem?_setIfInBounds_self_of_lt (by rw [hfr.size]; exact hlt),Array.getElem?_setIfInBounds_self_of_lt (by rw [hz]; exact hlt)]
       ·rw [Array.getElem?_eq_none (by rw [Array.size_setIfInBounds,hfr.size]; exact Nat.le_of_not_lt hlt),Array.getElem?_eq_none (by rw [Array.size_setIfInBounds,hz]; exact Nat.le_of_not_lt hlt)]
      ·rw [hput a t hod,hput af t hod]; exact hslot t ht
     ·rw [hput a t (ht i o (by rw [hset]; simp) ho)]
      exact hold t (fun m' u' hm'' hu'=>ht m' u' (by rw [hset]; split<;>simp [hm'']) hu')
     ·have hne:o.dst≠some d':=fun e=>(hc.ft j i r o (List.mem_of_getElem? hq) hin hr ho).1 (by rw [e,hrd])
      rw [hput a d' hne,hput af d' hne]
      refine ⟨(hfree q j r d' hq hr hrd).1,fun hl=>(hfree q j r d' hq hr hrd).2 ?_⟩
      rw [hset] at hl
      have:j≠i:=fun e=>hc.Ab i hin (e▸List.mem_of_getElem? hq)
      simpa [this] using hl
 refine key ops.size (Array.replicate ops.size false) a0 _ T _ C (jR (dM ops free) vs (dM ops free).length a0) (by simp) ?_ ?_ ?_ (fun _ h=>h) hc.nodup hf0.defers hf0.size (by simpa using hF) (jO _ vs _ L a0 hdlt hf0) hs1 hC (fun _ _ _ _ _=>hC1) ?_ (fun _ _=>rfl) ?_
 ·unfold wN; exact Nat.le_trans (List.length_filter_le _ _) (by simp)
 ·intro j hj
  simp only [Array.getD_eq_getD_getElem?,Array.getElem?_replicate] at hj
  split at hj<;>simp at hj
 ·intro i hi
  simp only [Array.getD_eq_getD_getElem?,Array.getElem?_replicate]
  split<;>simp [hi]
 ·intro t ht
  refine ep _ vs _ a0 t (fun m u _ hu hud=>?_)
  obtain ⟨x,hx1,hx2⟩:=hfg m u hu
  exact ht m x u hx1 hx2 hud
 ·intro p i o d hp ho hod
  obtain ⟨d',v',e1,e2,e3,_⟩:=hall p o (hgf p i o hp ho)
  rw [hod] at e1; cases e1
  refine ⟨?_,fun hl=>?_⟩
  ·rw [e3]
   refine jQ _ vs _ a0 p o d v' (by rw [hfl]; exact (List.getElem?_eq_some_iff.1 hp).1) (hgf p i o hp ho) hod (by rw [hf0.size]; exact e2) e3 (fun m u hm hne hu=>?_)
   obtain ⟨x,hx1,hx2⟩:=hfg m u hu
   exact (hc.apart m p x i u o d hx1 hp (Ne.symm hne) hx2 ho hod).1
  ·simp only [Array.getD_eq_getD_getElem?,Array.getElem?_replicate] at hl
   split at hl<;>simp at hl
theorem g8 {E:eI} {ops:Array Oper} {D:List Deferred} {C' C1:List aA} {F:List (Nat×Value)→List aA→Prop} {tb rem:List Nat} {L:List (Nat×Value)} {C:List aA} (h:F L C):TN E ops D C' C1 F tb 0 rem L C:=h
def wa (E:eI) (ops:Array Oper) (D:List Deferred) (C' C1:List aA) (F:List (Nat×Value)→List aA→Prop) (tb:List Nat) (n:Nat) (rem:List Nat) (i:Nat) (L:List (Nat×Value)) (C:List aA):Prop:=
 ∀ o,ops[i]? =some o→ ∀ K:Act→World→Prop,(∀ L' C'',(∀ w,St E.S E.w0 C'' w→St E.S E.w0 C' w)→(tb.contains i=true→ ∀ w,St E.S E.w0 C'' w→St E.S E.w0 C1 w)→TN E ops D C' C1 F tb n rem L' C''→KJ E K D L' C'')→RJ E ops (NQ K) [o] D L C
theorem hO {E:eI} {ops:Array Oper} {D:List Deferred} {C' C1:List aA} {F:List (Nat×Value)→List aA→Prop} {tb rem:List Nat} {n:Nat} {L:List (Nat×Value)} {C:List aA} (ms:List Nat) (hm:rem.filter (fun i=>rem.all fun j=> !gz (nx ops) j i)=ms)
 (h: ∀ i∈ms,wa E ops D C' C1 F tb n (rem.filter (· != i)) i L C):TN E ops D C' C1 F tb (n+1) rem L C:=fun i hi=>h i (hm▸hi)
theorem dI {p:Nat→Prop} {i:Nat} {l:List Nat} (h:p i) (t: ∀ j∈l,p j): ∀ j∈i::l,p j:=fun j hj=>by
 rcases List.mem_cons.1 hj with rfl|hj
 ·exact h
 ·exact t j hj
theorem jM {p:Nat→Prop}: ∀ j∈([]:List Nat),p j:=fun j hj=>by cases hj
theorem H0 {E:eI} {ops:Array Oper} {D:List Deferred} {C' C1:List aA} {F:List (Nat×Value)→List aA→Prop} {tb rem rem':List Nat} {n i:Nat} {L:List (Nat×Value)} {C:List aA} {o:Oper} (ho:ops[i]? =some o) (hr:rem=rem') (ht:tb.contains i=false)
 (h: ∀ K:Act→World→Prop,(∀ L' C'',(∀ w,St E.S E.w0 C'' w→St E.S E.w0 C' w)→TN E ops D C' C1 F tb n rem' L' C''→KJ E K D L' C'')→RJ E ops (NQ K) [o] D L C):wa E ops D C' C1 F tb n rem i L C:=fun o' ho' K hK=>by
 rw [ho] at ho'; cases ho'
 subst hr
 exact h K fun L' C'' h1 h2=>hK L' C'' h1 (fun h=>by rw [ht] at h; cases h) h2
theorem re {E:eI} {ops:Array Oper} {D:List Deferred} {C' C1:List aA} {F:List (Nat×Value)→List aA→Prop} {tb rem rem':List Nat} {n i:Nat} {L:List (Nat×Value)} {C:List aA} {o:Oper} (ho:ops[i]? =some o) (hr:rem=rem')
 (h: ∀ K:Act→World→Prop,(∀ L' C'',(∀ w,St E.S E.w0 C'' w→St E.S E.w0 C' w)→(∀ w,St E.S E.w0 C'' w→St E.S E.w0 C1 w)→TN E ops D C' C1 F tb n rem' L' C''→KJ E K D L' C'')→RJ E ops (NQ K) [o] D L C):wa E ops D C' C1 F tb n rem i L C:=fun o' ho' K hK=>by
 rw [ho] at ho'; cases ho'
 subst hr
 exact h K fun L' C'' h1 h1' h2=>hK L' C'' h1 (fun _=>h1') h2
end
section
open Go.RowKit
set_option linter.unusedVariables false
def DN (m:Array Nat) (ops:Array Oper) (rem:List Nat):Bool:=
 (List.range rem.length).all fun p=>match (rem[p]?).bind fun i=>(ops[i]?).map fun o=>(i,o) with
  |none=>false
  |some (i,o)=>o.dst.isSome&&og o&&
   ((List.range rem.length).all fun q=>q==p||match (rem[q]?).bind fun j=>(ops[j]?).map fun o=>(j,o) with
    |none=>false
    |some (j,r)=>i != j&&match r.dst with
     |none=>false
     |some d=>o.dst != some d&&(!(o.looksAt ops).contains d||(if q<p then gz m j i else gz m i j)))
def EC (ops:Array Oper) (rem:List Nat):Bool:=DN (nx ops) ops rem
structure DX (ops:Array Oper) (rem:List Nat):Prop where
 lt: ∀ i∈rem,i<ops.size
 plain: ∀ (p i:Nat) (o:Oper),rem[p]? =some i→ops[i]? =some o→(∀ cs b,o.op≠ .select cs b)∧(∀ c,o.op≠ .defer c)
 apart: ∀ (p q i j:Nat) (o r:Oper) (d:Nat),rem[p]? =some i→rem[q]? =some j→q≠p→ops[i]? =some o→ops[j]? =some r→r.dst=some d→i≠j∧o.dst≠some d∧(d∈o.looksAt ops→(q<p∧gz (nx ops) j i=true)∨(p<q∧gz (nx ops) i j=true))
theorem DX.of {ops:Array Oper} {rem:List Nat} (h:EC ops rem=true):DX ops rem:=by
 simp only [EC,DN] at h
 rw [List.all_eq_true] at h
 refine ⟨fun i hi=>?_,fun p i o hp ho=>?_,?_⟩
 ·obtain ⟨p,hp⟩:=List.mem_iff_getElem?.1 hi
  have:=h p (by simpa using (List.getElem?_eq_some_iff.1 hp).1)
  simp only [hp,Option.bind_some] at this
  cases ho:ops[i]? with
  |none=>simp [ho] at this
  |some o=>exact (Array.getElem?_eq_some_iff.1 ho).1
 ·have:=h p (by simpa using (List.getElem?_eq_some_iff.1 hp).1)
  simp only [hp,ho,Option.bind_some,Option.map_some,Bool.and_eq_true] at this
  have:=this.1.2
  refine ⟨fun cs b hh=>?_,fun c hh=>?_⟩<;>simp [og,hh] at this
 ·intro p q i j o r d hp hq hne ho hr hd
  have:=h p (by simpa using (List.getElem?_eq_some_iff.1 hp).1)
  simp only [hp,ho,Option.bind_some,Option.map_some,Bool.and_eq_true] at this
  have:=this.2
  rw [List.all_eq_true] at this
  have:=this q (by simpa using (List.getElem?_eq_some_iff.1 hq).1)
  simp only [hq,hr,hd,Option.bind_some,Option.map_some,Bool.or_eq_true,Bool.and_eq_true,beq_iff_eq,bne_iff_ne,ne_eq] at this
  rcases this with h|⟨h7,h8,h9⟩
  ·exact absurd h hne
  ·refine ⟨h7,h8,fun hm=>?_⟩
   rcases h9 with h9|h9
   ·simp [hm] at h9
   ·by_cases hlt:q<p
    ·rw [if_pos hlt] at h9; exact .inl ⟨hlt,h9⟩
    ·rw [if_neg hlt] at h9; exact .inr ⟨by omega,h9⟩
def Ih (ops:Array Oper) (is:List Nat):List Nat:=is.filterMap fun i=>(ops[i]?).bind (·.dst)
def uB (L:List (Nat×Value)) (ds:List Nat):List (Nat×Value):=L.filter fun p=> !ds.any (Nat.beq p.1)
theorem p6 {L:List (Nat×Value)} {ds:List Nat} {t:Nat} {v:Value} (h:(uB L ds).lookup t=some v):L.lookup t=some v∧t ∉ ds:=by
 induction L with
 |nil=>simp [uB] at h
 |cons p L ih=>
  obtain ⟨u,x⟩:=p
  unfold uB at h ih
  rw [List.filter_cons] at h
  by_cases e:t=u
  ·subst e
   split at h
   ·rename_i hu
    simp [List.lookup] at h ⊢
    refine ⟨h,fun hm=>?_⟩
    simp only [Bool.not_eq_true',List.any_eq_false] at hu
    exact hu t hm (by simp)
   ·exfalso
    rename_i hu
    have:=(ih h).2
    simp only [Bool.not_eq_true',Bool.not_eq_false,List.any_eq_true] at hu
    obtain ⟨d,hd,he⟩:=hu
    have:t=d:=Nat.eq_of_beq_eq_true he
    subst this
    exact this hd
  ·have hne:(t==u)=false:=by simpa using e
   split at h
   ·simp only [List.lookup,hne] at h ⊢
    exact ih h
   ·simp only [List.lookup,hne]
    exact ih h
set_option maxHeartbeats 1000000 in
/-- what is left yields alone -/
theorem Ei {E:eI} {ops:Array Oper} {Q:dh} {D:List Deferred} {C' C1 C:List aA} {tb rem:List Nat} {L:List (Nat×Value)} {n:Nat} (ds:List Nat) (hc:EC ops rem=true) (hds:Ih ops rem=ds) (hn:rem.length=n) (L0:List (Nat×Value)) (hL:uB L ds=L0) (htb:(rem.all fun i=> !tb.contains i)=true)
 (hC: ∀ w,St E.S E.w0 C w→St E.S E.w0 C' w) (h:DJ E ops D C (fun L'=>RJ E ops Q [] D L' C) (dM ops rem) L0):TN E ops D C' C1 (fun L C=>KJ E (Q .normal) D L C) tb n rem L C:=by
 have hc:=DX.of hc
 obtain ⟨vs,hvl,hF,hall⟩:=DJ.out _ _ h
 have hpl:=mL hc.lt
 have hg: ∀ (p i:Nat) (o:Oper),rem[p]? =some i→ops[i]? =some o→(dM ops rem)[p]? =some o:=fun p i o hp ho=>by rw [kU hc.lt,hp]; exact ho
 have hfg: ∀ (p:Nat) (o:Oper),(dM ops rem)[p]? =some o→ ∃ i,rem[p]? =some i∧ops[i]? =some o:=fun p o h=>by
  rw [kU hc.lt] at h
  cases hp:rem[p]? with
  |none=>simp [hp] at h
  |some i=>exact ⟨i,rfl,by simpa [hp] using h⟩
 have hdlt: ∀ (j:Nat) (o:Oper) (d:Nat),(dM ops rem)[j]? =some o→o.dst=some d→d<E.n:=fun j o d ho hd=>by
  obtain ⟨d',v,h1,h2,_⟩:=hall j o ho
  rw [h1] at hd; cases hd; exact h2
 have hclear: ∀ (t:Nat) (v:Value),L0.lookup t=some v→L.lookup t=some v∧ ∀ (p i:Nat) (o:Oper),rem[p]? =some i→ops[i]? =some o→o.dst≠some t:=fun t v hv=>by
  rw [← hL] at hv
  refine ⟨(p6 hv).1,fun p i o hp ho hd=>(p6 hv).2 ?_⟩
  rw [← hds]
  exact List.mem_filterMap.2 ⟨i,List.mem_of_getElem? hp,by simp [ho,hd]⟩
 have hnd:rem.Nodup:=by
  rw [List.nodup_iff_pairwise_ne,List.pairwise_iff_getElem]
  intro q p hq hp hlt
  obtain ⟨o,ho⟩: ∃ o,ops[rem[p]]? =some o:=⟨_,Array.getElem?_eq_getElem (hc.lt _ (List.getElem_mem hp))⟩
  obtain ⟨r,hr⟩: ∃ r,ops[rem[q]]? =some r:=⟨_,Array.getElem?_eq_getElem (hc.lt _ (List.getElem_mem hq))⟩
  obtain ⟨d,v,h1,_⟩:=hall q r (hg q _ r (List.getElem?_eq_getElem hq) hr)
  exact (fun e=>(hc.apart p q _ _ o r d (List.getElem?_eq_getElem hp) (List.getElem?_eq_getElem hq) (by omega) ho hr h1).1 e.symm)
 -- the frame that a state of the order has
 have key: ∀ (n:Nat) (rem':List Nat) (L':List (Nat×Value)),rem'.length=n→rem'.Nodup→(∀ i∈rem',i∈rem)→(∀ i j,i∈rem'→j∈rem→j ∉ rem'→gz (nx ops) i j=false)→
  (∀ t,(∀ (p i:Nat) (o:Oper),rem[p]? =some i→ops[i]? =some o→o.dst≠some t)→L'.lookup t=L.lookup t)→
  (∀ (p i:Nat) (o:Oper) (d:Nat),rem[p]? =some i→ops[i]? =some o→o.dst=some d→i ∉ rem'→L'.lookup d=vs[p]?)→
  TN E ops D C' C1 (fun L C=>KJ E (Q .normal) D L C) tb n rem' L' C:=by
  intro n
  induction n with
  |zero=>
   intro rem' L' hl _ hsub _ hold hdone
   have hnil:rem'=[]:=List.length_eq_zero_iff.1 hl
   subst hnil
   intro a w hf hs
   have hfL:Fr E.n D L0 a:=⟨hf.defers,hf.size,fun t v hv=>hf.at_ t v (by rw [hold t (hclear t v hv).2]; exact (hclear t v hv).1)⟩
   have hfull:=jO (dM ops rem) vs (dM ops rem).length L0 a hdlt hfL
   refine hF a w ⟨hf.defers,hf.size,fun t v hv=>?_⟩ hs
   have h1:=hfull.at_ t v hv
   rw [← h1]
   by_cases ht: ∀ (p i:Nat) (o:Oper),rem[p]? =some i→ops[i]? =some o→o.dst≠some t
   ·exact (ep _ vs _ a t (fun m u _ hu hud=>by obtain ⟨x,hx1,hx2⟩:=hfg m u hu; exact ht m x u hx1 hx2 hud)).symm
   ·have: ∃ (p i:Nat) (o:Oper),rem[p]? =some i∧ops[i]? =some o∧o.dst=some t:=by
     refine Classical.byContradiction fun hh=>ht fun p i o hp ho hd=>hh ⟨p,i,o,hp,ho,hd⟩
    obtain ⟨p,i,o,hp,ho,hd⟩:=this
    obtain ⟨d',v',e1,e2,e3,_⟩:=hall p o (hg p i o hp ho)
    rw [hd] at e1; cases e1
    rw [hf.at_ t v' (by rw [hdone p i o t hp ho hd (by simp),e3])]
    refine (jQ _ vs _ a p o t v' (by rw [hpl]; exact (List.getElem?_eq_some_iff.1 hp).1) (hg p i o hp ho) hd (by rw [hf.size]; exact e2) e3 (fun m u hm hne hu=>?_)).symm
    obtain ⟨x,hx1,hx2⟩:=hfg m u hu
    exact (hc.apart m p x i u o t hx1 hp (Ne.symm hne) hx2 ho hd).2.1
  |succ n ih=>
   intro rem' L' hl hnd' hsub hcl hold hdone i hi o ho K hK a w hf hs
   rw [List.mem_filter,List.all_eq_true] at hi
   obtain ⟨hir,hmin⟩:=hi
   obtain ⟨p,hp⟩:=List.mem_iff_getElem?.1 (hsub i hir)
   obtain ⟨d,v,hod,hdn,hvi,hsd⟩:=hall p o (hg p i o hp ho)
   obtain ⟨hsel,hdef⟩:=hc.plain p i o hp ho
   have hfL:Fr E.n D L0 a:=⟨hf.defers,hf.size,fun t v hv=>hf.at_ t v (by rw [hold t (hclear t v hv).2]; exact (hclear t v hv).1)⟩
   have hfrp:=jO (dM ops rem) vs p L0 a hdlt hfL
   have hlook: ∀ t∈o.looksAt ops,a.tmps[t]? =(jR (dM ops rem) vs p a).tmps[t]? :=by
    intro t htl
    by_cases hw: ∃ (q j:Nat) (r:Oper),rem[q]? =some j∧q≠p∧ops[j]? =some r∧r.dst=some t
    ·obtain ⟨q,j,r,hq,hne,hr,hrd⟩:=hw
     obtain ⟨d',v',e1,e2,e3,_⟩:=hall q r (hg q j r hq hr)
     rw [hrd] at e1; cases e1
     have hap:=hc.apart p q i j o r t hp hq hne ho hr hrd
     rcases hap.2.2 htl with ⟨hlt,ha⟩|⟨hlt,ha⟩
     ·have hj:j ∉ rem':=fun hj=>by have:=hmin j hj; rw [ha] at this; cases this
      rw [hf.at_ t v' (by rw [hdone q j r t hq hr hrd hj,e3])]
      refine (jQ (dM ops rem) vs p a q r t v' hlt (hg q j r hq hr) hrd (by rw [hf.size]; exact e2) e3 (fun m u hm hne' hu=>?_)).symm
      obtain ⟨x,hx1,hx2⟩:=hfg m u hu
      exact (hc.apart m q x j u r t hx1 hq (Ne.symm hne') hx2 hr hrd).2.1
     ·refine (ep (dM ops rem) vs p a t (fun m u hm hu hud=>?_)).symm
      obtain ⟨x,hx1,hx2⟩:=hfg m u hu
      exact (hc.apart m q x j u r t hx1 hq (by omega) hx2 hr hrd).2.1 hud
    ·refine (ep (dM ops rem) vs p a t (fun m u hm hu hud=>?_)).symm
     obtain ⟨x,hx1,hx2⟩:=hfg m u hu
     exact hw ⟨m,x,u,hx1,by omega,hx2,hud⟩
   have hset:rem'.filter (· != i)=rem'.erase i:=(hnd'.erase_eq_filter i).symm
   have hnext:TN E ops D C' C1 (fun L C=>KJ E (Q .normal) D L C) tb n (rem'.filter (· != i)) ((d,v)::L') C:=by
    refine ih _ _ (by rw [hset,List.length_erase_of_mem hir,hl]; rfl) (hnd'.filter _) (fun j hj=>hsub j (List.mem_filter.1 hj).1) (fun x y hx hy hny=>?_) (fun t ht=>?_) (fun q j r d' hq hr hrd hj=>?_)
    ·have hx':=(List.mem_filter.1 hx).1
     by_cases e:y=i
     ·subst e
      have:=hmin x hx'
      simpa using this
     ·exact hcl x y hx' hy fun hh=>hny (List.mem_filter.2 ⟨hh,by simpa using e⟩)
    ·have hne:(t==d)=false:=by simpa using fun e=>ht p i o hp ho (by rw [hod,e])
     simp only [List.lookup,hne]
     exact hold t ht
    ·by_cases e:q=p
     ·subst e
      rw [hp] at hq; cases hq
      rw [ho] at hr; cases hr
      rw [hod] at hrd; cases hrd
      simp [List.lookup,hvi]
     ·have h9:=hc.apart p q i j o r d' hp hq e ho hr hrd
      have hne:(d'==d)=false:=by simpa using fun e=>h9.2.1 (by rw [hod,e])
      simp only [List.lookup,hne]
      refine hdone q j r d' hq hr hrd fun hh=>hj (List.mem_filter.2 ⟨hh,by simpa using fun e=>h9.1 e.symm⟩)
   have htbi:tb.contains i=false:=by
    have:=(List.all_eq_true.1 htb) i (hsub i hir)
    simpa using this
   have hgo:=fun w' (hk:dj no w w')=>hK ((d,v)::L') C hC (fun hh=>by rw [htbi] at hh; cases hh) hnext (a.put (some d) v) w' (hf.put hdn v) (hs.same hk)
   have:=pJ hsd hod hdn hsel hdef hfrp hlook (w:=w) hs (N:=K) (Q:=NQ K) hgo
   unfold pc
   by_cases hw:Region.wanted o (yielded ops a.tmps)=true
   ·rw [if_pos hw] at this ⊢
    refine kK this (fun a' w' hh=>hh) (fun _ _ _ hF=>hF)
   ·rw [if_neg hw] at this ⊢
    exact this.2
 refine key n rem L hn hnd (fun _ h=>h) (fun i j _ h1 h2=>absurd h1 h2) (fun _ _=>rfl) (fun p i o d hp ho hd hni=>absurd (List.mem_of_getElem? hp) hni)
end
section
open Go.RowKit
set_option linter.unusedVariables false
theorem St.imp {S:BS} {w0 w:World} {C:List aA} {A B:aA} (i:Nat) (h:St S w0 C w) (hC:C[i]? =some A) (hh: ∀ w,A.holds w→B.holds w) (hf: ∀ b,B.ej b→A.ej b) (hw: ∀ b,B.wf b→A.wf b):St S w0 (C.set i B) w:=
 h.mv i hC ⟨hh w (h.holds A (List.mem_of_getElem? hC)),dj.refl _ _,fun b hb=> .inl (hw b hb),fun b hb=> .inl (hf b hb)⟩
theorem n7 {E:eI} {K:Act→World→Prop} {D:List Deferred} {L:List (Nat×Value)} {C C':List aA} {A B:aA} (i:Nat) (hC:C[i]? =some A) (hh:(∀ w,A.holds w→B.holds w)∧(∀ b,B.ej b→A.ej b)∧ ∀ b,B.wf b→A.wf b) (hC':C.set i B=C') (h:KJ E K D L C'):KJ E K D L C:=fun a w hf hs=>
 h a w hf (hC'▸hs.imp i hC hh.1 hh.2.1 hh.2.2)
structure CY (P:Program) (f:FuncId) (args:List Value) (Cp:List aA) (A:aA) {α:Type} (V:α→Value) (p:α→Prop) (A':α→aA):Prop where
 go:cE P f=true
 run: ∀ w,A.holds w→(∀ B∈Cp,B.holds w)→(∀ B∈Cp,wO A B.ro)→Calls P f args.toArray w fun e w'=> ∃ x,e= .returned (V x)∧p x∧Mv A (A' x) w w'
def D8 (w0:World) (A:aA) {α:Type} (V:α→Value) (p:α→Prop) (A':α→aA) (e:Ending) (w':World):Prop:= ∃ x,e= .returned (V x)∧p x∧Mv A (A' x) w0 w'
theorem xO {w0 w:World} {A:aA} {C:List aA} {α:Type} {V:α→Value} {p:α→Prop} {A':α→aA} {v:Value} (x:α) (i:Nat) (hV:v=V x) (hp:p x) (hC:C[i]? =some (A' x)) (hw:(A' x).wr=true) (hs:St ⟨A.wf,fun _=>True⟩ w0 C w):D8 w0 A V p A' (.returned v) w:=
 ⟨x,by rw [hV],hp,hs.holds _ (List.mem_of_getElem? hC),hs.keeps,fun b hb=>(hs.own _ (List.mem_of_getElem? hC) b hb).symm,fun b hb=>by
  rcases hs.own _ (List.mem_of_getElem? hC) b ((A' x).whole hw b hb) with h|h
  ·exact .inr h
  ·exact .inl (A.i_ b h)⟩
theorem sM {P:Program} {f:FuncId} {fn:Func} {c:Code} {args:List Value} {Cp:List aA} {A:aA} {α:Type} {V:α→Value} {p:α→Prop} {A':α→aA} (hgo:cE P f=true) (hf:P.funcs[f]? =some fn) (hb:fn.body=some c) (hn:Nat.ble args.length fn.ntmps=true)
 (h: ∀ (w0:World) (Q:dh),(∀ D L C,LJ ⟨P,none,fn.ntmps,⟨A.wf,fun _=>True⟩,w0⟩ fn (D8 w0 A V p A') D L C→KJ ⟨P,none,fn.ntmps,⟨A.wf,fun _=>True⟩,w0⟩ (Q .ret) D L C)→
  (∀ D L C,LJ ⟨P,none,fn.ntmps,⟨A.wf,fun _=>True⟩,w0⟩ fn (D8 w0 A V p A') D L C→KJ ⟨P,none,fn.ntmps,⟨A.wf,fun _=>True⟩,w0⟩ (Q .normal) D L C)→
  WJ ⟨P,none,fn.ntmps,⟨A.wf,fun _=>True⟩,w0⟩ c Q [] (E6 args) (A::Cp.map aA.ro)):CY P f args Cp A V p A':=by
 refine ⟨hgo,fun w hA hCp hsep=>?_⟩
 refine w9 hf hb hn (h w) ?_
 have h0:=pD hCp
 refine ⟨dj.refl _ _,fun B hB=>?_,List.Pairwise.cons (fun B hB=>?_) h0.sep,fun B hB b hb=>?_,fun _ _ _ _=> .inr trivial⟩
 ·rcases List.mem_cons.1 hB with rfl|hB
  ·exact hA
  ·exact h0.holds B hB
 ·obtain ⟨B',hB',rfl⟩:=List.mem_map.1 hB
  exact hsep B' hB'
 ·rcases List.mem_cons.1 hB with rfl|hB
  ·exact .inr hb
  ·obtain ⟨B',hB',rfl⟩:=List.mem_map.1 hB
   exact hb.elim
/-- each of Cp is read from something of C that is not its i-th -/
def uN (C:List aA) (i:Nat) (Cp:List aA):Prop:= ∀ B∈Cp,∃ j X,j≠i∧C[j]? =some X∧BU X B
theorem o0 {C:List aA} {i:Nat}:uN C i []:=fun B hB=>by cases hB
theorem eV {C Cp:List aA} {i:Nat} {B X:aA} (j:Nat) (hj:Nat.beq j i=false) (hC:C[j]? =some X) (h:BU X B) (t:uN C i Cp):uN C i (B::Cp):=fun B' hB=>by
 rcases List.mem_cons.1 hB with rfl|hB
 ·exact ⟨j,X,fun e=>by subst e; simp at hj,hC,h⟩
 ·exact t B' hB
section
variable {E:eI} {ops:Array Oper} {Q:dh} {rest:List Oper} {D:List Deferred} {L:List (Nat×Value)} {C:List aA}
variable {dst:Option Tmp} {d:Nat} {ty:TypeId} {ps:String} {af:Array Edge} {g:Option (Nat×Bool)}
theorem mK {fop:Operand} {xs:Array Operand} {ts:Array TypeId} {f:FuncId} {fi ca:Array Value} {vs args:List Value} {Cp:List aA} {A:aA} {α:Type} {V:α→Value} {p:α→Prop} {A':α→aA} (i:Nat) (hg:jv ops L g=true) (hf:ev L fop=some (.func (.func f) fi ca))
 (hx:evs L xs.toList=some vs) (ha:fi.toList++vs++ca.toList=args) (c:CY E.P f args Cp A V p A') (hC:C[i]? =some A) (hCp:uN C i Cp) (hd:Nat.blt d E.n=true) (k: ∀ x,p x→RJ E ops Q rest D ((d,V x)::L) (C.set i (A' x))):
 RJ E ops Q (⟨some d,.call {callee:= .value fop,args:=xs,argTypes:=ts},ty,ps,af,g⟩::rest) D L C:=by
 intro a w hfr hs
 have hd':d<E.n:=by rw [← Nat.blt_eq]; exact hd
 unfold pc
 rw [if_pos (dz hfr hg)]
 refine ⟨fun _ _=>trivial,?_⟩
 rw [Oper.semAt_eq _ _ _ (by simp),sv hfr c.go hf hx ha]
 have hCm:=List.mem_of_getElem? hC
 refine ⟨fun h=>by simp at h,(nO E.r (c.run w (hs.holds A hCm) (fun B hB=>?_) (fun B hB b hb hb'=>?_))).mono fun e w' he=>?_⟩
 ·obtain ⟨j,X,_,hX,hc⟩:=hCp B hB
  exact hc.holds w (hs.holds X (List.mem_of_getElem? hX))
 ·obtain ⟨j,X,hne,hX,hc⟩:=hCp B hB
  have hXb:=hc.ej b hb'
  have hj:=(List.getElem?_eq_some_iff.1 hX).1
  have hi:=(List.getElem?_eq_some_iff.1 hC).1
  have e1:=(List.getElem?_eq_some_iff.1 hX).2
  have e2:=(List.getElem?_eq_some_iff.1 hC).2
  refine ⟨?_,fun h=>h⟩
  rcases Nat.lt_or_gt_of_ne hne with hlt|hlt
  ·have:=List.pairwise_iff_getElem.1 hs.sep j i hj hi hlt
   rw [e1,e2] at this
   exact (this b hXb hb).2
  ·have:=List.pairwise_iff_getElem.1 hs.sep i j hi hj hlt
   rw [e1,e2] at this
   exact (this b hb hXb).1
 ·obtain ⟨x,rfl,hp,hm⟩:=he
  exact k x hp _ _ (hfr.put hd' _) (hs.mv i hC hm)
theorem vQ {sz o l:Nat} {vs el:List Value} (hl:vs.length=l) (ho:o+l≤sz): ∀ (es:List (List Value)) (k:Nat),(∀ x∈es,x.length=sz)→es[k]? =some el→
 es.flatten.take (k*sz+o)++vs++es.flatten.drop (k*sz+o+l)=(es.set k (el.take o++vs++el.drop (o+l))).flatten
 |[],k,_,h=>by simp at h
 |x::es,0,hx,h=>by
  simp at h; subst h
  have h1:x.length=sz:=hx x (by simp)
  simp only [List.flatten_cons,List.set_cons_zero,Nat.zero_mul,Nat.zero_add]
  rw [List.take_append_of_le_length (by omega),List.drop_append_of_le_length (by omega)]
  simp [List.append_assoc]
 |x::es,k+1,hx,h=>by
  have h1:x.length=sz:=hx x (by simp)
  have ih:=vQ hl ho es k (fun y hy=>hx y (by simp [hy])) (by simpa using h)
  simp only [List.flatten_cons,List.set_cons_succ]
  rw [← ih]
  have e1:(k+1)*sz+o=x.length+(k*sz+o):=by rw [h1,Nat.succ_mul]; omega
  have e2:(k+1)*sz+o+l=x.length+(k*sz+o+l):=by rw [h1,Nat.succ_mul]; omega
  rw [e1,List.take_length_add_append,show x.length+(k*sz+o)+l=x.length+(k*sz+o+l) by omega,List.drop_length_add_append]
  simp [List.append_assoc]
theorem fP {t n c e sz k o m:Nat} {a:Option Addr} {x y:Operand} {v:Value} {vs el:List Value} {es es':List (List Value)} {C':List aA} (i:Nat) (hg:jv ops L g=true) (hx:ev L x=some (.pointer (o2 a m))) (hy:ev L y=some v) (ht:(tK E.P t).map (·.2)=some n)
 (hv:v.cells.toList=vs) (hn:vs.length=n) (h1:vs.all Value.oneCell'=true) (hC:C[i]? =some (own a c e sz es)) (hk:es[k]? =some el) (hm:m=k*sz+o) (ho:o+n≤sz) (hes:es.set k (el.take o++vs++el.drop (o+n))=es') (hC':C.set i (own a c e sz es')=C') (kk:RJ E ops Q rest D L C'):
 RJ E ops Q (⟨none,.store t x y,ty,ps,af,g⟩::rest) D L C:=by
 subst hm hes hC'
 intro act w hfr hs
 unfold pc
 rw [if_pos (dz hfr hg)]
 obtain ⟨hl,hlen,hrow⟩:=hs.holds _ (List.mem_of_getElem? hC)
 have hke:=(List.getElem?_eq_some_iff.1 hk).1
 rcases hrow with ⟨h2,h0⟩|⟨gg,cap,cur,hv2,hbase,h3,h4,h5,h6,h7⟩
 ·omega
 ·injection hv2 with hv2 hv3 hv4
  subst hv2 hv4
  have hfl:=jI hl
  have hks:k*sz+sz≤es.length*sz:=by rw [← Nat.succ_mul]; exact Nat.mul_le_mul_right _ hke
  have hcl:es.length*sz≤cur.toList.length:=by simp only [Array.length_toList,h6]; exact Nat.mul_le_mul_right _ h4
  have hol:k*sz+o+n≤cur.toList.length:=by omega
  obtain ⟨w',hr,hb',hkk⟩:=nK (P:=E.P) (t:=e) vs cur.toList (k*sz+o) 0 w (fun v hv=>List.all_eq_true.1 h1 v hv) (by rw [hn]; exact hol) (by rw [h3])
  have hsize:(sizeOf t).run E.P w= .ok n w:=by
   obtain ⟨bn,hbn,rfl⟩:=Option.map_eq_some_iff.1 ht
   obtain ⟨bb,nn⟩:=bn
   cases bb
   ·exact (qh hbn w).2
   ·exact (ng hbn w).2
  have hvs:v.cells.size=n:=by rw [← hn,← hv]; simp
  have hpa:o2 (some (⟨gg,0,none⟩:Addr)) (k*sz+o)=some ⟨gg,k*sz+o,none⟩:=by
   simp only [o2,Option.map_some,iU,Nat.zero_add]
  refine oL (by simp) (w':=w') ?_ ?_
  ·simp [execOp,hfr.ev hx,hfr.ev hy,hpa,Instr.storeAt,Instr.sureAddr,storeVar,hsize,hvs,hv,hr]
  ·refine kk _ _ ⟨hfr.defers,hfr.size,hfr.at_⟩ ?_
   have hel:el.length=sz:=hl el (List.mem_of_getElem? hk)
   have hnew: ∀ y∈es.set k (el.take o++vs++el.drop (o+n)),y.length=sz:=by
    intro y hy'
    rcases List.mem_or_eq_of_mem_set hy' with h|rfl
    ·exact hl y h
    ·simp; omega
   have hcap:cur.toList.length=c*sz:=by simpa using h6
   refine hs.wK (b:=gg) i hC ⟨_,rfl,rfl⟩ rfl hkk (fun y ⟨ad,hy1,hy2⟩=>by cases hy1; exact hy2) ⟨hnew,?_⟩
   rw [List.length_set]
   refine ⟨by rw [jI hnew,List.length_set],.inr ⟨gg,c,_,rfl,Nat.zero_le _,hb',h4,h5,?_,?_⟩⟩
   ·simp only [List.size_toArray,List.length_append,List.length_take,List.length_drop,Nat.add_zero]
    omega
   ·rw [Nat.add_zero,hn]
    have e0:=vQ hn ho es k hl hk
    rw [← e0,← h7]
    have q1:k*sz+o≤es.length*sz:=by omega
    show ((cur.toList.take (k*sz+o)++vs)++cur.toList.drop (k*sz+o+n)).take (es.length*sz)=_
    have hA:(cur.toList.take (k*sz+o)++vs).length=k*sz+o+n:=by simp only [List.length_append,List.length_take]; omega
    rw [List.take_append,List.take_of_length_le (by omega),hA,List.take_take,Nat.min_eq_left q1,List.drop_take]
end
end
section
open Go.RowKit
set_option linter.unusedVariables false
/-- an iterator over a map: what is left; what came last -/
def mi (r b:Nat) (m left:List (Int×Value)) (cur:Option (Int×Value)):aA where
 ej k:=k=r∨k=b
 wf k:=k=r∨k=b
 holds w:=r≠b∧ ∃ (es:Array MapEntry) (c since:Nat) (seen:Array Nat) (st:Nat),w.heap[b]? =some (.map es c)∧lQ es c m∧w.heap[r]? =some (.mapIter (some b) since seen st)∧(∀ e∈es.toList,e.born<since)∧since≤st∧since≤c∧
  (leftOf es seen).toList.map (fun e=>(e.key,e.val))=left.map (fun p=>(Value.int .i64 p.1,p.2))∧
  ∀ p,cur=some p→ ∃ (e:MapEntry) (seen0:Array Nat),e∈es.toList∧seen=seen0.push e.born∧st=c∧e.key= .int .i64 p.1∧e.val=p.2
 wr:=true
 i_ _ h:=h
 whole _ _ h:=h
 lt w h k hk:=by
  obtain ⟨_,es,c,since,seen,st,h1,_,h2,_⟩:=h
  rcases hk with rfl|rfl
  ·exact dp h2
  ·exact dp h1
 j2 w w' hk h:=by
  obtain ⟨hne,es,c,since,seen,st,h1,h2,h3,h4⟩:=h
  exact ⟨hne,es,c,since,seen,st,(hk b (.inr rfl)).trans h1,h2,(hk r (.inl rfl)).trans h3,h4⟩
theorem wJ {l:List MapEntry} (h:(l.map (·.born)).Nodup) {x y:MapEntry} (hx:x∈l) (hy:y∈l) (e:x.born=y.born):x=y:=by
 obtain ⟨i,hi⟩:=List.getElem?_of_mem hx
 obtain ⟨j,hj⟩:=List.getElem?_of_mem hy
 have h1:(l.map (·.born))[i]? =some x.born:=by rw [List.getElem?_map,hi]; rfl
 have h2:(l.map (·.born))[j]? =some x.born:=by rw [List.getElem?_map,hj,e]; rfl
 have h3:=(List.getElem?_inj (List.getElem?_eq_some_iff.1 h1).1 h).1 (h1.trans h2.symm)
 subst h3
 exact Option.some.inj (hi.symm.trans hj)
section
variable {E:eI} {ops:Array Oper} {Q:dh} {rest:List Oper} {D:List Deferred} {L:List (Nat×Value)} {C:List aA}
variable {dst:Option Tmp} {d:Nat} {ty:TypeId} {ps:String} {af:Array Edge} {g:Option (Nat×Bool)}
theorem zN {z:Array Value} {n sz:Nat} (hz:z.size=sz):(madeCells z (n*sz)).toList=(List.replicate n z.toList).flatten:=by
 subst hz
 induction n with
 |zero=>simp [madeCells]
 |succ n ih=>
  rw [List.replicate_succ',List.flatten_append,← ih]
  simp only [List.flatten_cons,List.flatten_nil,List.append_nil]
  refine List.ext_getElem? fun i=>?_
  have hl:(madeCells z (n*z.size)).toList.length=n*z.size:=by simp [madeCells]
  by_cases h1:i<n*z.size
  ·rw [List.getElem?_append_left (by omega)]
   have h2:i<(n+1)*z.size:=by rw [Nat.succ_mul]; omega
   simp [madeCells,h1,h2]
  ·rw [List.getElem?_append_right (by omega),hl]
   by_cases h2:i<(n+1)*z.size
   ·have h3:i-n*z.size<z.size:=by rw [Nat.succ_mul] at h2; omega
    have e:i=(i-n*z.size)+n*z.size:=by omega
    have h4:i % z.size=i-n*z.size:=((congrArg (· % z.size) e).trans (Nat.add_mul_mod_self_right _ _ _)).trans (Nat.mod_eq_of_lt h3)
    simp [madeCells,h2,h4,h3]
   ·have h3:z.toList.length≤i-n*z.size:=by rw [Nat.succ_mul] at h2; simp; omega
    rw [List.getElem?_eq_none h3]
    simp [madeCells]; omega
theorem qT {t e sz by_ n:Nat} {z:Value} {xl xc:Operand} {j:Int} {es:List (List Value)} (hg:jv ops L g=true) (hl:ev L xl=some (.int .i64 j)) (hc:ev L xc=some (.int .i64 j)) (ht:tA E.P t=some (e,sz,by_,z)) (hj:j=(n:Int)) (hb:by_*n≤281474976710656) (hm:n≤maxLen)
 (hes:List.replicate n z.cells.toList=es) (hd:Nat.blt d E.n=true) (k: ∀ b,RJ E ops Q rest D ((d,.slice (some ⟨b,0,none⟩) n n)::L) (own (some ⟨b,0,none⟩) n e sz es::C)):
 RJ E ops Q (⟨some d,.makeSlice t xl xc,ty,ps,af,g⟩::rest) D L C:=by
 subst hj hes
 intro a w hfr hs
 have hd':d<E.n:=by rw [← Nat.blt_eq]; exact hd
 unfold pc
 rw [if_pos (dz hfr hg)]
 obtain ⟨inf,hu,hi,hz,h3,h4,h5⟩:=z3 ht
 subst h4
 obtain ⟨w',hr,hown,hk⟩:=run_make_full (P:=E.P) w 0 t e inf z sz hu hi hz h3 .i64 .i64 n hb hm (Nat.zero_le _)
 refine gH (v:= .slice (some ⟨w.heap.size,0,none⟩) n n) (w':=w') (by simp) ?_ ?_
 ·simp [execOp,hfr.ev hl,hfr.ev hc,hr]
 ·refine k _ _ _ (hfr.put hd' _) (hs.grow (N:=[own (some ⟨w.heap.size,0,none⟩) n e sz (List.replicate n z.cells.toList)]) ⟨hk.os,hk.tape,hk.output,hk.size,fun q hq _=>hk.block q hq (by simp)⟩ ⟨fun A hA=>?_,fun A hA b hb=>?_,List.pairwise_singleton _ _⟩)
  ·simp at hA; subst hA
   refine ⟨fun x hx=>by rw [List.eq_of_mem_replicate hx]; simpa using h5,?_⟩
   rw [zN h5] at hown
   simpa using hown
  ·simp at hA; subst hA
   obtain ⟨ad,h1,h2⟩:=hb
   cases h1; exact Nat.le_of_eq h2.symm
end
end
end Go.Proofs.YthiigjekcdjkkaaGreat
