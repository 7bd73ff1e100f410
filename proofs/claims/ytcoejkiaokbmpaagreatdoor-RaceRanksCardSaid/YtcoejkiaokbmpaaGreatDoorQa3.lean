/-
 The statement raceRanks_said, part 3 of 8: Core, Step, Ops, Mem, Call, Fun, Own, Aux, Table, Range, More, Draw, Open, Types, Map, Trk, DrawN, Pure, Fm, It, Sort, Ptr.
 Conditions: none.
-/
import Derived.Test.YtcoejkiaokbmpaaGreatDoorQa1
import Derived.Test.YtcoejkiaokbmpaaGreatDoorQa2
import Derived.WalkKit
import Derived.RangeFuncLeaves
import Derived.RangeFuncRecord
import Derived.OrdersIn
import Derived.Deep.LoopGhost
import Derived.Maps.AppendAt
import Derived.Test.YtcoejkiaokbmpaaGreatDoorRows
import Derived.Test.YtcoejkiaokbmpaaGreatDoorProg
import Derived.LaidMore
import Derived.OpenShut
import Derived.ProofKit
import Derived.KernelRfl
import Derived.RangeFuncNested
import Derived.Scope
import Derived.LoopNIn
import Derived.Deep.Slices
import Derived.Below
import Derived.ChangeSame
import Derived.Maps.RangeRun
import Derived.Laws.OwnMore
namespace Go.Proofs.YtcoejkiaokbmpaaGreatDoor
set_option maxRecDepth 100000
set_option maxHeartbeats 4000000
set_option linter.unusedVariables false
section
open Go.RowKit
theorem aO {α:Type _} (l:List α) (i:Nat) (h:i<l.length): ∃ y,l[i]? =some y:=⟨_,List.getElem?_eq_getElem h⟩
theorem bI {α β:Type _} {l:List α} {i:Nat} {x:α} (f:α→β) (h:l[i]? =some x):(l.map f)[i]? =some (f x):=by rw [List.getElem?_map,h]; rfl
theorem aP {p G:Prop} {i:Decidable p} (k:p→G):decide p=true→G:=fun h=>k (of_decide_eq_true h)
theorem aQ {p G:Prop} {i:Decidable p} (k: ¬ p→G):decide p=false→G:=fun h=>k (of_decide_eq_false h)
theorem bk {p G:Prop} {i:Decidable p} (k: ¬ p→G):(!decide p)=true→G:=fun h=>k (by simpa using h)
theorem bj {p G:Prop} {i:Decidable p} (k:p→G):(!decide p)=false→G:=fun h=>k (by simpa using h)
abbrev vI (n:Int):Value:= .int .i64 n
theorem cB {a b:Bool} (h:a=b):Value.bool a=Value.bool b:=congrArg _ h
theorem cI {a b:Int} (h:a=b):Value.int .i64 a=Value.int .i64 b:=congrArg _ h
abbrev aw:= @List.mem_of_getElem?
abbrev gv:= @List.getElem?_eq_getElem
abbrev MJ:= @List.getElem?_eq_some_iff
abbrev a7:= @decide_eq_false
abbrev bW:= @decide_eq_true
abbrev fq:= @List.getElem?_map
abbrev bU:= @List.mem_singleton
abbrev dZ:= @List.mem_cons
abbrev cZ:= @List.mem_cons_self
abbrev m6:= @List.pairwise_iff_getElem
abbrev rR:= @List.mem_map
abbrev cg:= @List.all_cons
abbrev fz:= @List.all_eq_true
abbrev fX:= @List.eq_nil_of_length_eq_zero
abbrev g4:= @List.mem_append
abbrev dY:= @List.mem_cons_of_mem
abbrev cS:= @Bool.and_eq_true
abbrev N3:= @decide_eq_decide
abbrev vP (b:Nat):Value:= .pointer (some ⟨b,0,none⟩)
abbrev vS (a:Option Addr) (n c:Nat):Value:= .slice a n c
abbrev vB (b:Bool):Value:= .bool b
abbrev vA (l:List Value):Value:= .agg l.toArray
abbrev vT (l:List Value):Value:= .tuple l.toArray
abbrev OA:=Option Addr
abbrev Fw (r:Option Nat):Fence:={fn:=fun _=>True,depth:=none,alive:=false,round:=r}
theorem o7 {P:Program} {f:FuncId} {args:Array Value} {w:World} {R:Ending→World→Prop} (r:Option Nat) (h:Calls P f args w R):CallsIn (Fw r) 0 P f args w R:=
 (callsIn_wide (n:=0)).2 h
theorem tJ {P:Program} {f:FuncId} {args:Array Value} {w:World} {R:Ending→World→Prop} (h:CallsIn (Fw none) 0 P f args w R):Calls P f args w R:=
 (callsIn_wide (n:=0)).1 h
structure Fr (n:Nat) (D:List Deferred) (L:List (Nat×Value)) (a:Act):Prop where
 defers:a.defers=D
 size:a.tmps.size=n
 at_: ∀ t v,L.lookup t=some v→a.tmps[t]? =some v
def ev (L:List (Nat×Value)):Operand→Option Value
 | .tmp t=>L.lookup t
 | .const v=>some v
 | .global g=>some (.pointer (some ⟨g,0,none⟩))
 | .func f=>some (.func (.func f) #[] #[])
theorem Fr.ev {n:Nat} {D:List Deferred} {L:List (Nat×Value)} {a:Act} (h:Fr n D L a) {x:Operand} {v:Value} (hx:ev L x=some v):a.eval x=v:=by
 cases x with
 |tmp t=>have:=h.at_ t v hx; simp [Act.eval,this]
 |const u=>simpa [Go.Proofs.YtcoejkiaokbmpaaGreatDoor.ev,Act.eval] using hx
 |global g=>simpa [Go.Proofs.YtcoejkiaokbmpaaGreatDoor.ev,Act.eval] using hx
 |func f=>simpa [Go.Proofs.YtcoejkiaokbmpaaGreatDoor.ev,Act.eval] using hx
theorem Fr.put {n:Nat} {D:List Deferred} {L:List (Nat×Value)} {a:Act} (h:Fr n D L a) {d:Nat} (hd:d<n) (v:Value):Fr n D ((d,v)::L) (a.put (some d) v):=by
 refine ⟨h.defers,by simp [Act.put,h.size],fun t u hu=>?_⟩
 simp only [Act.put]
 by_cases e:t=d
 ·subst e
  simp only [List.lookup,beq_self_eq_true] at hu
  rw [Array.getElem?_setIfInBounds_self_of_lt (by rw [h.size]; exact hd)]; exact hu
 ·have:(t==d)=false:=by simpa using e
  simp only [List.lookup,this] at hu
  rw [Array.getElem?_setIfInBounds_ne (fun x=>e x.symm)]
  exact h.at_ t u hu
/-- fewer slots are known -/
def dK (L L':List (Nat×Value)):Prop:= ∀ t v,L'.lookup t=some v→L.lookup t=some v
theorem dK.nil (L:List (Nat×Value)):dK L []:=fun _ _ h=>by simp [List.lookup] at h
theorem dK.cons {L L':List (Nat×Value)} {t:Nat} {v:Value} (h:L.lookup t=some v) (k:dK L L'):dK L ((t,v)::L'):=fun s u hu=>by
 by_cases e:s=t
 ·subst e; simp only [List.lookup,beq_self_eq_true] at hu; exact h.trans hu
 ·have:(s==t)=false:=by simpa using e
  simp only [List.lookup,this] at hu; exact k s u hu
theorem Fr.sub {n:Nat} {D:List Deferred} {L L':List (Nat×Value)} {a:Act} (h:Fr n D L a) (k:dK L L'):Fr n D L' a:=
 ⟨h.defers,h.size,fun t v hv=>h.at_ t v (k t v hv)⟩
structure aq where
 eX:Nat→Prop
 /-- what of it may be written -/
 wf:Nat→Prop
 holds:World→Prop
 /-- all of it may be written -/
 wr:Bool
 j3: ∀ b,wf b→eX b
 whole:wr=true→ ∀ b,eX b→wf b
 lt: ∀ w,holds w→ ∀ b,eX b→b<w.heap.size
 lh: ∀ w w':World,(∀ b,eX b→w'.heap[b]? =w.heap[b]?)→holds w→holds w'
def z8 (A B:aq):Prop:= ∀ b,A.eX b→B.eX b→ ¬ A.wf b∧ ¬ B.wf b
abbrev NS:=Nat→Prop
def no:NS:=fun _=>False
def only (b:Nat):NS:=fun k=>k=b
/-- what may be written, and what may be read, of the blocks that were there -/
structure BS where
 w:NS
 r:NS
def wG:BS:=⟨no,fun _=>True⟩
theorem z8.symm {A B:aq} (h:z8 A B):z8 B A:=fun b hb ha=>(h b ha hb).symm
/-- all but the blocks of S is as it was; nothing of the streams has turned -/
structure dD (S:NS) (w w':World):Prop where
 os:w'.os=w.os
 tape:w'.tape=w.tape
 output:w'.output=w.output
 size:w.heap.size≤w'.heap.size
 block: ∀ k,k<w.heap.size→ ¬ S k→w'.heap[k]? =w.heap[k]?
theorem dD.refl (S:NS) (w:World):dD S w w:=⟨rfl,rfl,rfl,Nat.le_refl _,fun _ _ _=>rfl⟩
theorem dD.trans {S:NS} {a b c:World} (h:dD S a b) (k:dD S b c):dD S a c:=
 ⟨k.os.trans h.os,k.tape.trans h.tape,k.output.trans h.output,Nat.le_trans h.size k.size,fun i hi hs=>(k.block i (Nat.lt_of_lt_of_le hi h.size) hs).trans (h.block i hi hs)⟩
theorem dD.mono {S S':NS} {a b:World} (h:dD S a b) (hs: ∀ k,S k→S' k):dD S' a b:=
 ⟨h.os,h.tape,h.output,h.size,fun i hi hn=>h.block i hi (fun hm=>hn (hs i hm))⟩
theorem dD.below {w w':World} (h:dD no w w'):Below w.heap.size w w':=⟨h.os,h.tape,h.output,h.size,fun k hk=>h.block k hk (fun h=>h)⟩
theorem dD.drew (S:NS) (w:World):dD S w w.drew:=⟨rfl,rfl,rfl,Nat.le_refl _,fun _ _ _=>rfl⟩
theorem dD.alloc (S:NS) (w:World) (o:Obj):dD S w (w.alloc o):=⟨rfl,rfl,rfl,sm,fun k hk _=>Below.heap_alloc w o k hk⟩
/-- the state: what holds of memory, each thing by itself -/
structure St (S:BS) (w0:World) (C:List aq) (w:World):Prop where
 keeps:dD S.w w0 w
 holds: ∀ A∈C,A.holds w
 sep:C.Pairwise z8
 own: ∀ A∈C,∀ b,A.wf b→w0.heap.size≤b∨S.w b
 seen: ∀ A∈C,∀ b,A.eX b→w0.heap.size≤b∨S.r b
/-- C' is a part of C, in whatever order, each thing once -/
theorem St.sub {S:BS} {w0 w:World} {C C':List aq} (h:St S w0 C w) (hs:C'.Pairwise z8) (hm: ∀ A∈C',A∈C):St S w0 C' w:=
 ⟨h.keeps,fun A hA=>h.holds A (hm A hA),hs,fun A hA=>h.own A (hm A hA),fun A hA=>h.seen A (hm A hA)⟩
theorem St.take {S:BS} {w0 w:World} {C C':List aq} (h:St S w0 C w) (hs:C'.Sublist C):St S w0 C' w:=
 h.sub (h.sep.sublist hs) (fun _ hA=>hs.subset hA)
theorem St.perm {S:BS} {w0 w:World} {C C':List aq} (h:St S w0 C w) (hs:C.Perm C'):St S w0 C' w:=
 h.sub (hs.pairwise h.sep (fun k=>z8.symm k)) (fun _ hA=>hs.mem_iff.2 hA)
/-- what is new -/
structure HC (w w':World) (N:List aq):Prop where
 holds: ∀ A∈N,A.holds w'
 fresh: ∀ A∈N,∀ b,A.eX b→w.heap.size≤b
 sep:N.Pairwise z8
theorem HC.nil (w w':World):HC w w' []:=⟨sm,sm,List.Pairwise.nil⟩
theorem St.grow {S:BS} {w0 w w':World} {C N:List aq} (h:St S w0 C w) (k:dD no w w') (n:HC w w' N):St S w0 (N++C) w':=by
 refine ⟨h.keeps.trans (k.mono (fun _ h=>h.elim)),fun A hA=>?_,?_,fun A hA b hb=>?_,fun A hA b hb=>?_⟩
 ·rcases List.mem_append.1 hA with hA|hA
  ·exact n.holds A hA
  ·exact A.lh w w' (fun b hb=>k.block b (A.lt w (h.holds A hA) b hb) (fun h=>h)) (h.holds A hA)
 ·rw [List.pairwise_append]
  refine ⟨n.sep,h.sep,fun A hA B hB b ha hb=>?_⟩
  have h1:=n.fresh A hA b ha
  have h2:=B.lt w (h.holds B hB) b hb
  omega
 ·rcases List.mem_append.1 hA with hA|hA
  ·exact .inl (Nat.le_trans h.keeps.size (n.fresh A hA b (A.j3 b hb)))
  ·exact h.own A hA b hb
 ·rcases List.mem_append.1 hA with hA|hA
  ·exact .inl (Nat.le_trans h.keeps.size (n.fresh A hA b hb))
  ·exact h.seen A hA b hb
theorem St.same {S:BS} {w0 w w':World} {C:List aq} (h:St S w0 C w) (k:dD no w w'):St S w0 C w':=by
 simpa using h.grow k (HC.nil w w')
structure e9 where
 P:Program
 r:Option Nat
 n:Nat
 S:BS
 w0:World
abbrev dj:=Exit→Act→World→Prop
/-- code, from a frame and a state -/
def WJ (E:e9) (c:Code) (Q:dj) (D:List Deferred) (L:List (Nat×Value)) (C:List aq):Prop:=
 ∀ a w,Fr E.n D L a→St E.S E.w0 C w→c.wpIn (Fw E.r) 0 E.P Q a w
/-- a thing that is asked of what follows -/
def KJ (E:e9) (K:Act→World→Prop) (D:List Deferred) (L:List (Nat×Value)) (C:List aq):Prop:=
 ∀ a w,Fr E.n D L a→St E.S E.w0 C w→K a w
def qf (r:Option Nat) (P:Program) (ops:Array Oper) (Q:dj):List Oper→Act→World→Prop
 |[],a,w=>Q .normal a w
 |o::rest,a,w=>if Region.wanted o (yielded ops a.tmps) then o.wpIn (Fw r) 0 P a w (qf r P ops Q rest) Q else qf r P ops Q rest (a.put o.dst undef) w
def RJ (E:e9) (ops:Array Oper) (Q:dj) (rest:List Oper) (D:List Deferred) (L:List (Nat×Value)) (C:List aq):Prop:=
 ∀ a w,Fr E.n D L a→St E.S E.w0 C w→qf E.r E.P ops Q rest a w
theorem yo {F:Fence} {n:Nat} {P:Program} {o:Oper} {a:Act} {N N':Act→World→Prop} {Q Q':dj} (hn: ∀ a w,N a w→N' a w) (hq: ∀ e a w,Q e a w→Q' e a w):
 ∀ {res:Result Next},o.uponIn F n P a N Q res→o.uponIn F n P a N' Q' res:=by
 intro res h
 cases res with
 |halt x w=>cases x<;>simp only [Oper.uponIn] at h ⊢ <;>first|exact hq _ _ _ h|exact h
 |ok x w=>
  cases x with
  |value v=>exact hn _ _ h
  |skip=>exact hn _ _ h
  |defer d=>exact hn _ _ h
  |enter f args=>
   refine ⟨h.1,h.2.mono fun e w'' he=>?_⟩
   cases e with
   |returned v=>exact hn _ _ he
   |panicked ch=>exact hq _ _ _ he
   |outgrown=>obtain ⟨a0,w0,h0⟩:=he; exact ⟨a0,w0,hq _ _ _ h0⟩
  |row x args=>exact ⟨h.1,h.2.mono fun v w'' he=>hn _ _ he⟩
  |round l f tmps asl bd=>
   refine ⟨h.1,h.2.mono fun e w'' he=>?_⟩
   cases e with
   |returned v=>exact hn _ _ he
   |panicked ch=>exact hq _ _ _ he
   |outgrown=>obtain ⟨a0,w0,h0⟩:=he; exact ⟨a0,w0,hq _ _ _ h0⟩
  |_=>simp [Oper.uponIn] at h
theorem l7 {F:Fence} {n:Nat} {P:Program} {o:Oper} {a:Act} {w:World} {N N':Act→World→Prop} {Q Q':dj} (h:o.wpIn F n P a w N Q) (hn: ∀ a w,N a w→N' a w) (hq: ∀ e a w,Q e a w→Q' e a w):o.wpIn F n P a w N' Q':=
 ⟨h.1,yo hn hq h.2⟩
theorem As {r:Option Nat} {P:Program} {ops:Array Oper} {Q:dj} (l:List Oper): ∀ (k:Nat) (a:Act) (w:World),(∀ j,l[j]? =ops[k+j]?)→qf r P ops Q l a w→wpOpsIn (Fw r) 0 P ops Q (List.range' k l.length) a w:=by
 induction l with
 |nil=>intro k a w _ h; simpa [wpOpsIn,qf] using h
 |cons o l ih=>
  intro k a w hl h
  have h0:ops[k]? =some o:=by simpa using (hl 0).symm
  have hl': ∀ j,l[j]? =ops[k+1+j]? :=fun j=>by have:=hl (j+1); simpa [Nat.add_assoc,Nat.add_comm 1 j] using this
  simp only [List.length_cons,List.range'_succ,wpOpsIn,h0]
  simp only [qf] at h
  split at h
  ·rename_i hw
   rw [if_pos hw]
   exact l7 h (fun a w=>ih _ a w hl') (fun _ _ _ h=>h)
  ·rename_i hw
   rw [if_neg hw]
   exact ⟨fun _ _=>trivial,ih _ _ _ hl' h⟩
theorem ak {E:e9} {id:Nat} {ops:Array Oper} {Q:dj} {D:List Deferred} {L:List (Nat×Value)} {C:List aq} (h:RJ E ops Q ops.toList D L C):WJ E (.region id ops false) Q D L C:=by
 intro a w hf hs
 refine wpIn_region ?_
 have:=As (r:=E.r) (P:=E.P) (Q:=Q) ops.toList 0 a w sm (h a w hf hs)
 rwa [List.range_eq_range',← Array.length_toList]
theorem aB {E:e9} {ops:Array Oper} {Q:dj} {D:List Deferred} {L:List (Nat×Value)} {C:List aq} (h:KJ E (Q .normal) D L C):RJ E ops Q [] D L C:=h
theorem ai {E:e9} {x y:Code} {Q:dj} {D:List Deferred} {L:List (Nat×Value)} {C:List aq}
 (h: ∀ K:Act→World→Prop,(∀ D L C,WJ E y Q D L C→KJ E K D L C)→WJ E x (Exit.then K Q) D L C):WJ E (.seq x y) Q D L C:=
 fun a w hf hs=>wpIn_seq (h _ (fun _ _ _ hy a w hf hs=>hy a w hf hs) a w hf hs)
theorem aN {E:e9} {K:Act→World→Prop} {Q:dj} {D:List Deferred} {L:List (Nat×Value)} {C:List aq} (h:KJ E K D L C):KJ E (Exit.then K Q .normal) D L C:=h
theorem ax {E:e9} {id:Nat} {Q:dj} {D:List Deferred} {L:List (Nat×Value)} {C:List aq} (h:KJ E (Q .normal) D L C):KJ E (Exit.inBlock id Q .normal) D L C:=h
theorem ae {E:e9} {id:Nat} {K:Act→World→Prop} {Q:dj} {D:List Deferred} {L:List (Nat×Value)} {C:List aq} (h:KJ E (Q (.exit id)) D L C):KJ E (Exit.then K Q (.exit id)) D L C:=h
theorem au {E:e9} {id:Nat} {Q:dj} {D:List Deferred} {L:List (Nat×Value)} {C:List aq} (h:KJ E (Q .normal) D L C):KJ E (Exit.inBlock id Q (.exit id)) D L C:=fun a w hf hs=>by
 simp only [Exit.inBlock,if_true]; exact h a w hf hs
theorem im {E:e9} {id id':Nat} {Q:dj} {D:List Deferred} {L:List (Nat×Value)} {C:List aq} (hne:Nat.beq id' id=false) (h:KJ E (Q (.exit id')) D L C):KJ E (Exit.inBlock id Q (.exit id')) D L C:=fun a w hf hs=>by
 have:id'≠id:=fun e=>by subst e; simp at hne
 simp only [Exit.inBlock,this,if_false]; exact h a w hf hs
theorem bZ {E:e9} {Q:dj} {D:List Deferred} {L:List (Nat×Value)} {C:List aq} (h:KJ E (Q .normal) D L C):WJ E .skip Q D L C:=fun a w hf hs=>wpIn_skip (h a w hf hs)
theorem an {E:e9} {Q:dj} {D:List Deferred} {L:List (Nat×Value)} {C:List aq} (h:KJ E (Q .ret) D L C):WJ E .ret Q D L C:=fun a w hf hs=>wpIn_ret (h a w hf hs)
theorem bp {E:e9} {id:Nat} {Q:dj} {D:List Deferred} {L:List (Nat×Value)} {C:List aq} (h:KJ E (Q (.exit id)) D L C):WJ E (.exit id) Q D L C:=fun a w hf hs=>wpIn_exit (h a w hf hs)
theorem av {E:e9} {id:Nat} {c:Code} {Q:dj} {D:List Deferred} {L:List (Nat×Value)} {C:List aq} (h:WJ E c (Exit.inBlock id Q) D L C):WJ E (.block id c) Q D L C:=fun a w hf hs=>wpIn_block (h a w hf hs)
theorem cP {E:e9} {c:Operand} {x y:Code} {b:Bool} {Q:dj} {D:List Deferred} {L:List (Nat×Value)} {C:List aq} (hc:ev L c=some (.bool b))
 (h1:b=true→WJ E x Q D L C) (h2:b=false→WJ E y Q D L C):WJ E (.cond c x y) Q D L C:=by
 intro a w hf hs
 refine wpIn_cond_split (hf.ev hc) (fun hb=>h1 hb a w hf hs) (fun hb=>h2 hb a w hf hs)
theorem aI {E:e9} {c:Operand} {x y:Code} {Q:dj} {D:List Deferred} {L:List (Nat×Value)} {C:List aq} (hc:ev L c=some (.bool true)) (h1:WJ E x Q D L C):WJ E (.cond c x y) Q D L C:=
 cP hc (fun _=>h1) (fun h=>by cases h)
theorem aW {E:e9} {c:Operand} {x y:Code} {Q:dj} {D:List Deferred} {L:List (Nat×Value)} {C:List aq} (hc:ev L c=some (.bool false)) (h1:WJ E y Q D L C):WJ E (.cond c x y) Q D L C:=
 cP hc (fun h=>by cases h) (fun _=>h1)
theorem jz {E:e9} {K:Act→World→Prop} {D:List Deferred} {L L':List (Nat×Value)} {C C':List aq} (hL:dK L L') (hC: ∀ w,St E.S E.w0 C w→St E.S E.w0 C' w) (h:KJ E K D L' C'):KJ E K D L C:=
 fun a w hf hs=>h a w (hf.sub hL) (hC w hs)
/-- A loop: a relation over a ghost of whatever type, a measure on it. -/
theorem cp {E:e9} {c:Code} {Q:dj} {D:List Deferred} {L:List (Nat×Value)} {C:List aq} {ι:Type} (Li:ι→List (Nat×Value)) (Ci:ι→List aq) (μ:ι→Nat) (x0:ι)
 (h0:dK L (Li x0)) (hC: ∀ w,St E.S E.w0 C w→St E.S E.w0 (Ci x0) w)
 (round: ∀ x (J:Act→World→Prop),(∀ y D' L' C',D'=D→μ y<μ x→dK L' (Li y)→(∀ w,St E.S E.w0 C' w→St E.S E.w0 (Ci y) w)→KJ E J D' L' C')→WJ E c (Exit.then J Q) D (Li x) (Ci x)):WJ E (.loop c) Q D L C:=by
 intro a w hf hs
 have hst: ∃ x,Fr E.n D (Li x) a∧St E.S E.w0 (Ci x) w:=⟨x0,hf.sub h0,hC w hs⟩
 clear hf hs
 have key: ∀ (m:Nat) (a:Act) (w:World),(∃ x,μ x=m∧Fr E.n D (Li x) a∧St E.S E.w0 (Ci x) w)→(Code.loop c).wpIn (Fw E.r) 0 E.P Q a w:=by
  intro m a w hx
  refine wpIn_loop (fun a w=> ∃ x,Fr E.n D (Li x) a∧St E.S E.w0 (Ci x) w) (fun a w=>leastOf fun k=> ∃ x,μ x=k∧Fr E.n D (Li x) a∧St E.S E.w0 (Ci x) w) (by obtain ⟨x,_,h⟩:=hx; exact ⟨x,h⟩) ?_
  intro a w hx
  have hex: ∃ k,∃ x,μ x=k∧Fr E.n D (Li x) a∧St E.S E.w0 (Ci x) w:=by obtain ⟨x,h⟩:=hx; exact ⟨_,x,rfl,h⟩
  obtain ⟨x,hxm,hxf,hxs⟩:=(leastOf_spec hex).1
  refine round x _ ?_ a w hxf hxs
  intro y D' L' C' hD hlt hsub hcc a' w' hf' hs'
  subst hD
  refine ⟨⟨y,hf'.sub hsub,hcc _ hs'⟩,?_⟩
  rw [← hxm]
  exact Nat.lt_of_le_of_lt ((leastOf_spec ⟨_,y,rfl,hf'.sub hsub,hcc _ hs'⟩).2 _ ⟨y,rfl,hf'.sub hsub,hcc _ hs'⟩) hlt
 obtain ⟨x,h⟩:=hst
 exact key _ a w ⟨x,rfl,h⟩
end
section
open Go.RowKit
/-- An operation that yields v, whatever else holds; the state stays. -/
def SD (E:e9) (ops:Array Oper) (o:Oper) (D:List Deferred) (L:List (Nat×Value)) (C:List aq) (v:Value):Prop:=
 ∀ a w,Fr E.n D L a→St E.S E.w0 C w→
  (Region.wanted o (yielded ops a.tmps)=true∧o.wpIn (Fw E.r) 0 E.P a w (fun a' w'=>a'=a.put o.dst v∧dD no w w') (fun _ _ _=>False))∨
  (Region.wanted o (yielded ops a.tmps)=false∧v=undef)
/-- in the text's order -/
theorem Mt {E:e9} {ops:Array Oper} {Q:dj} {o:Oper} {rest:List Oper} {D:List Deferred} {L:List (Nat×Value)} {C:List aq} {v:Value} {d:Nat}
 (h:SD E ops o D L C v) (ho:o.dst=some d) (hd:Nat.blt d E.n=true) (k:RJ E ops Q rest D ((d,v)::L) C):RJ E ops Q (o::rest) D L C:=by
 intro a w hf hs
 have hd':d<E.n:=by rw [← Nat.blt_eq]; exact hd
 unfold qf
 rcases h a w hf hs with ⟨hw,hh⟩|⟨hw,rfl⟩
 ·rw [if_pos hw]
  refine l7 hh (fun a' w' ⟨ha,hs'⟩=>?_) (fun _ _ _ hF=>hF.elim)
  subst ha
  rw [ho]
  exact k _ _ (hf.put hd' v) (hs.same hs')
 ·rw [if_neg (by simp [hw]),ho]
  exact k _ _ (hf.put hd' _) hs
/-- the operations in the text's order, each with what it yields -/
def DJ (E:e9) (ops:Array Oper) (D:List Deferred) (C:List aq) (F:List (Nat×Value)→Prop):List Oper→List (Nat×Value)→Prop
 |[],L=>F L
 |o::rest,L=> ∃ d v,o.dst=some d∧d<E.n∧SD E ops o D L C v∧DJ E ops D C F rest ((d,v)::L)
theorem Mr {E:e9} {ops:Array Oper} {F:List (Nat×Value)→Prop} {o:Oper} {rest:List Oper} {D:List Deferred} {L:List (Nat×Value)} {C:List aq} {v:Value} {d:Nat}
 (h:SD E ops o D L C v) (ho:o.dst=some d) (hd:Nat.blt d E.n=true) (k:DJ E ops D C F rest ((d,v)::L)):DJ E ops D C F (o::rest) L:=
 ⟨d,v,ho,by rw [← Nat.blt_eq]; exact hd,h,k⟩
/-- a set of numbers that is closed downwards -/
def te (ops:Array Oper) (S:Nat→Prop) (j:Nat):Prop:= ∀ o e,ops[j]? =some o→e∈o.after→Region.binds .any e=true→S e.on
/-- who stands before an operation, by the edges: a set of numbers as the bits of one -/
def Ly (o:Oper) (acc:Array Nat):Nat:=o.after.toList.foldl (fun s e=>if Region.binds .any e then s ||| (2^e.on ||| acc.getD e.on 0) else s) 0
def Je:List Oper→Array Nat→Array Nat
 |[],acc=>acc
 |o::os,acc=>Je os (acc.push (Ly o acc))
def oW (ops:Array Oper):Array Nat:=Je ops.toList #[]
def g9 (m:Array Nat) (j i:Nat):Bool:=(m.getD i 0).testBit j
theorem GL (acc:Array Nat) (j:Nat): ∀ (es:List Edge) (s:Nat),(es.foldl (fun s e=>if Region.binds .any e then s ||| (2^e.on ||| acc.getD e.on 0) else s) s).testBit j=true→
 s.testBit j=true∨ ∃ e∈es,Region.binds .any e=true∧(e.on=j∨(acc.getD e.on 0).testBit j=true):=by
 intro es
 induction es with
 |nil=>intro s h; exact .inl h
 |cons e es ih=>
  intro s h
  simp only [List.foldl_cons] at h
  rcases ih _ h with h1|⟨e',he',hb,hc⟩
  ·by_cases hb:Region.binds .any e=true
   ·rw [if_pos hb] at h1
    simp only [Nat.testBit_or,Bool.or_eq_true] at h1
    rcases h1 with h1|h1|h1
    ·exact .inl h1
    ·refine .inr ⟨e,sm,hb,.inl ?_⟩
     rw [Nat.testBit_two_pow] at h1
     exact of_decide_eq_true h1
    ·exact .inr ⟨e,sm,hb,.inr h1⟩
   ·rw [if_neg hb] at h1; exact .inl h1
  ·exact .inr ⟨e',by simp [he'],hb,hc⟩
theorem zD {ops:Array Oper} {S:Nat→Prop} (hS: ∀ j,S j→te ops S j): ∀ (os:List Oper) (acc:Array Nat),(∀ k,os[k]? =ops[acc.size+k]?)→
 (∀ i j,(acc.getD i 0).testBit j=true→te ops S i→S j)→ ∀ i j,((Je os acc).getD i 0).testBit j=true→te ops S i→S j:=by
 intro os
 induction os with
 |nil=>intro acc _ h; exact h
 |cons o os ih=>
  intro acc hk h
  refine ih _ (fun k=>by have:=hk (k+1); simp only [Array.size_push]; rw [show acc.size+1+k=acc.size+(k+1) from by omega]; simpa using this) ?_
  intro i j hb hd
  have h0:ops[acc.size]? =some o:=by simpa using (hk 0).symm
  simp only [Array.getD_eq_getD_getElem?,Array.getElem?_push] at hb
  by_cases e:i=acc.size
  ·subst e
   simp only [if_true,Option.getD_some] at hb
   rcases GL acc j _ _ hb with h1|⟨e,he,hbind,h1⟩
   ·simp at h1
   ·have hSe:S e.on:=hd o e h0 (by simpa using he) hbind
    rcases h1 with h1|h1
    ·exact h1▸hSe
    ·exact h _ _ h1 (hS _ hSe)
  ·rw [if_neg e] at hb
   exact h i j (by rw [Array.getD_eq_getD_getElem?]; exact hb) hd
theorem iM {ops:Array Oper} {S:Nat→Prop} (hS: ∀ j,S j→te ops S j) {i j:Nat} (h:g9 (oW ops) j i=true) (hd:te ops S i):S j:=
 zD hS ops.toList #[] sm (fun i j hb=>by simp at hb) i j h hd
/-- what is asked of a region's first n operations: each writes a slot of its own; whoever writes a slot that another looks at stands before it or behind it by the edges; the rest waits for all that stands before it -/
def MC (m:Array Nat) (ops:Array Oper) (n:Nat):Bool:=
 Nat.ble n ops.size&&
 ((List.range ops.size).all fun i=>match ops[i]? with
  |none=>false
  |some o=>o.after.toList.all fun e=> !Region.binds .any e||Nat.blt e.on i)&&
 ((List.range n).all fun i=>match ops[i]? with
  |none=>false
  |some o=>o.dst.isSome&& !(match o.op with | .select .. =>true| .defer _=>true|_=>false)&&
   (List.range n).all fun j=>j==i||match ops[j]? with
    |none=>false
    |some p=>match p.dst with
     |none=>false
     |some d=>o.dst != some d&&(!(o.looksAt ops).contains d||(if j<i then g9 m j i else g9 m i j)))&&
 ((List.range' n (ops.size-n)).all fun i=>(List.range i).all fun j=>g9 m j i)
def Nk (ops:Array Oper) (n:Nat):Bool:=MC (oW ops) ops n
structure MG (ops:Array Oper) (n:Nat):Prop where
 le:n≤ops.size
 zj: ∀ i o e,ops[i]? =some o→e∈o.after→Region.binds .any e=true→e.on<i
 plain: ∀ i o,i<n→ops[i]? =some o→(∀ cs b,o.op≠ .select cs b)∧(∀ c,o.op≠ .defer c)
 apart: ∀ i j o p d,i<n→j<n→j≠i→ops[i]? =some o→ops[j]? =some p→p.dst=some d→o.dst≠some d∧(d∈o.looksAt ops→(j<i∧g9 (oW ops) j i=true)∨(i<j∧g9 (oW ops) i j=true))
 tail: ∀ i j,n≤i→i<ops.size→j<i→g9 (oW ops) j i=true
theorem MG.of {ops:Array Oper} {n:Nat} (h:Nk ops n=true):MG ops n:=by
 simp only [Nk,MC,cS] at h
 obtain ⟨⟨⟨h1,h2⟩,h3⟩,h4⟩:=h
 have hle:n≤ops.size:=Nat.le_of_ble_eq_true h1
 rw [fz] at h2 h3 h4
 refine ⟨hle,?_,?_,?_,?_⟩
 ·intro i o e ho he hb
  have hi:i<ops.size:=(Array.getElem?_eq_some_iff.1 ho).1
  have:=h2 i (by simpa using hi)
  simp only [ho] at this
  rw [fz] at this
  have:=this e (by simpa using he)
  rw [hb] at this
  simpa using this
 ·intro i o hi ho
  have:=h3 i (by simpa using hi)
  simp only [ho,cS] at this
  refine ⟨fun cs b hh=>?_,fun c hh=>?_⟩<;>simp [hh] at this
 ·intro i j o p d hi hj hne ho hp hd
  have:=h3 i (by simpa using hi)
  simp only [ho,cS] at this
  have:=this.2
  rw [fz] at this
  have:=this j (by simpa using hj)
  simp only [hp,hd,Bool.or_eq_true,cS,beq_iff_eq,bne_iff_ne,ne_eq] at this
  rcases this with h|⟨h5,h6⟩
  ·exact absurd h hne
  ·refine ⟨h5,fun hm=>?_⟩
   rcases h6 with h6|h6
   ·simp [hm] at h6
   ·by_cases hlt:j<i
    ·rw [if_pos hlt] at h6; exact .inl ⟨hlt,h6⟩
    ·rw [if_neg hlt] at h6; exact .inr ⟨om,h6⟩
 ·intro i j h5 h6 h7
  have:=h4 i (by rw [List.mem_range'_1]; omega)
  rw [fz] at this
  exact this j (by simpa using h7)
/-- the frame, the activation behind the first i operations -/
def yk:List Oper→List Value→Nat→List (Nat×Value)→List (Nat×Value)
 |o::os,v::vs,i+1,L=>yk os vs i (match o.dst with |some d=>(d,v)::L|none=>L)
 |_,_,_,L=>L
def kM:List Oper→List Value→Nat→Act→Act
 |o::os,v::vs,i+1,a=>kM os vs i (a.put o.dst v)
 |_,_,_,a=>a
theorem DJ.out {E:e9} {ops:Array Oper} {D:List Deferred} {C:List aq} {F:List (Nat×Value)→Prop}: ∀ (os:List Oper) (L:List (Nat×Value)),DJ E ops D C F os L→
 ∃ vs:List Value,vs.length=os.length∧F (yk os vs os.length L)∧ ∀ i o,os[i]? =some o→ ∃ d v,o.dst=some d∧d<E.n∧vs[i]? =some v∧SD E ops o D (yk os vs i L) C v:=by
 intro os
 induction os with
 |nil=>intro L h; exact ⟨[],rfl,h,fun i o ho=>by simp at ho⟩
 |cons o os ih=>
  intro L h
  obtain ⟨d,v,ho,hd,hsd,hk⟩:=h
  obtain ⟨vs,hl,hF,hall⟩:=ih _ hk
  refine ⟨v::vs,by simp [hl],by simpa [yk,ho] using hF,fun i o' ho'=>?_⟩
  cases i with
  |zero=>simp at ho'; subst ho'; exact ⟨d,v,ho,hd,sm,by simpa [yk] using hsd⟩
  |succ i=>
   obtain ⟨d',v',h1,h2,h3,h4⟩:=hall i o' (by simpa using ho')
   exact ⟨d',v',h1,h2,by simpa using h3,by simpa [yk,ho] using h4⟩
theorem kL {n:Nat} {D:List Deferred}: ∀ (os:List Oper) (vs:List Value) (i:Nat) (L:List (Nat×Value)) (a:Act),(∀ (j:Nat) (o:Oper) (d:Nat),os[j]? =some o→o.dst=some d→d<n)→Fr n D L a→Fr n D (yk os vs i L) (kM os vs i a):=by
 intro os
 induction os with
 |nil=>intro vs i L a _ h; simpa [yk,kM] using h
 |cons o os ih=>
  intro vs i L a hd h
  cases vs with
  |nil=>simpa [yk,kM] using h
  |cons v vs=>
   cases i with
   |zero=>simpa [yk,kM] using h
   |succ i=>
    simp only [yk,kM]
    refine ih vs i _ _ (fun j o' d ho' hd'=>hd (j+1) o' d (by simpa using ho') hd') ?_
    cases ho:o.dst with
    |none=>exact h
    |some d=>exact h.put (hd 0 o d sm ho) v
theorem fj: ∀ (os:List Oper) (vs:List Value) (i:Nat) (a:Act) (t:Nat),(∀ (j:Nat) (o:Oper),j<i→os[j]? =some o→o.dst≠some t)→(kM os vs i a).tmps[t]? =a.tmps[t]? :=by
 intro os
 induction os with
 |nil=>intro vs i a t _; simp [kM]
 |cons o os ih=>
  intro vs i a t h
  cases vs with
  |nil=>simp [kM]
  |cons v vs=>
   cases i with
   |zero=>simp [kM]
   |succ i=>
    simp only [kM]
    rw [ih vs i _ t (fun j o' hj ho'=>h (j+1) o' om (by simpa using ho'))]
    have h0:=h 0 o om sm
    cases ho:o.dst with
    |none=>rfl
    |some d=>simp only [Act.put]; rw [Array.getElem?_setIfInBounds_ne (fun e=>h0 (by rw [ho,e]))]
theorem kD: ∀ (os:List Oper) (vs:List Value) (i:Nat) (a:Act) (k:Nat) (p:Oper) (d:Nat) (v:Value),k<i→os[k]? =some p→p.dst=some d→d<a.tmps.size→vs[k]? =some v→
 (∀ (j:Nat) (o:Oper),j<i→j≠k→os[j]? =some o→o.dst≠some d)→(kM os vs i a).tmps[d]? =some v:=by
 intro os
 induction os with
 |nil=>intro vs i a k p d v _ hp; simp at hp
 |cons o os ih=>
  intro vs i a k p d v hk hp hpd hd hv h
  cases vs with
  |nil=>simp at hv
  |cons u vs=>
   cases i with
   |zero=>omega
   |succ i=>
    simp only [kM]
    cases k with
    |zero=>
     simp at hp hv
     subst hp hv
     rw [fj os vs i _ d (fun j o' hj ho'=>h (j+1) o' om om (by simpa using ho')),hpd]
     simp only [Act.put]
     rw [Array.getElem?_setIfInBounds_self_of_lt hd]
    |succ k=>
     refine ih vs i _ k p d v om (by simpa using hp) hpd ?_ (by simpa using hv) (fun j o' hj hne ho'=>h (j+1) o' om om (by simpa using ho'))
     cases o.dst<;>simp [Act.put,hd]
theorem x9 {a a':Act} {t:Nat} (h:a.tmps[t]? =a'.tmps[t]?):a.eval (.tmp t)=a'.eval (.tmp t):=by simp [Act.eval,h]
theorem v_ {ops:Array Oper} {o:Oper} {a a':Act} (h: ∀ t∈o.looksAt ops,a.tmps[t]? =a'.tmps[t]?): ∀ x∈o.op.operands,a.eval x=a'.eval x:=by
 intro x hx
 cases x with
 |tmp t=>exact x9 (h t (List.mem_append_left _ (List.mem_filterMap.2 ⟨.tmp t,by simpa using hx,rfl⟩)))
 |_=>rfl
theorem q8 {ops:Array Oper} {o:Oper} {a a':Act} (h: ∀ t∈o.looksAt ops,a.tmps[t]? =a'.tmps[t]?):Region.wanted o (yielded ops a.tmps)=Region.wanted o (yielded ops a'.tmps):=by
 unfold Region.wanted
 cases hg:o.guard with
 |none=>rfl
 |some gw=>
  obtain ⟨g,want⟩:=gw
  have hy:yielded ops a.tmps g=yielded ops a'.tmps g:=by
   unfold yielded
   cases ht:(ops[g]?).bind (·.dst) with
   |none=>rfl
   |some t=>simp only [Option.bind_some]; rw [h t (List.mem_append_right _ (by simp [hg,ht]))]
  simp only [hy]
/-- what an operation does hangs on the slots that it looks at alone -/
theorem rn {E:e9} {ops:Array Oper} {o:Oper} {D:List Deferred} {L:List (Nat×Value)} {C:List aq} {v:Value} {d:Nat} (h:SD E ops o D L C v) (ho:o.dst=some d) (hd:d<E.n)
 (hsel: ∀ cs b,o.op≠ .select cs b) (hdef: ∀ c,o.op≠ .defer c) {a a':Act} (hf:Fr E.n D L a') (hl: ∀ t∈o.looksAt ops,a.tmps[t]? =a'.tmps[t]?) {w:World} (hs:St E.S E.w0 C w)
 {N:Act→World→Prop} {Q:dj} (hn: ∀ w',dD no w w'→N (a.put (some d) v) w'):
 if Region.wanted o (yielded ops a.tmps) then o.wpIn (Fw E.r) 0 E.P a w N Q else (∀ f,o.about E.P w a.eval=some f→(Fw E.r).fn f)∧N (a.put o.dst undef) w:=by
 rw [q8 hl]
 rcases h a' w hf hs with ⟨hw,hh⟩|⟨hw,rfl⟩
 ·rw [if_pos hw]
  refine ⟨fun _ _=>trivial,?_⟩
  have h2:=hh.2
  rw [Oper.semAt_eq _ _ _ hdef] at h2 ⊢
  rw [execOp_congr (ρ:=a.eval) (ρ':=a'.eval) o hsel (v_ hl)]
  have hval: ∀ u,a'.put o.dst u=a'.put o.dst v→u=v:=by
   intro u hu
   rw [ho] at hu
   have:=congrArg (fun b:Act=>b.tmps[d]?) hu
   simp only [Act.put] at this
   rw [Array.getElem?_setIfInBounds_self_of_lt (by rw [hf.size]; exact hd),Array.getElem?_setIfInBounds_self_of_lt (by rw [hf.size]; exact hd)] at this
   injection this
  have hgo: ∀ u w',(a'.put o.dst u=a'.put o.dst v∧dD no w w')→N (a.put o.dst u) w':=by
   rintro u w' ⟨hu,hs'⟩
   rw [hval u hu,ho]
   exact hn w' hs'
  generalize (execOp a'.eval o).run E.P w=res at h2
  cases res with
  |halt x w'=>cases x<;>simp [Oper.uponIn] at h2
  |ok x w'=>
   cases x with
   |value u=>exact hgo u w' h2
   |skip=>exact hgo _ w' h2
   |defer dd=>
    have h3:({a' with defers:=dd::a'.defers}:Act).put o.dst undef=a'.put o.dst v:=h2.1
    rw [ho] at h3
    have:=congrArg (fun b:Act=>b.defers.length) h3
    simp [Act.put] at this
   |enter f args=>
    refine ⟨h2.1,h2.2.mono fun e w'' he=>?_⟩
    cases e with
    |returned u=>exact hgo u w'' he
    |panicked ch=>exact he.elim
    |outgrown=>obtain ⟨_,_,hF⟩:=he; exact hF.elim
   |row x args=>exact ⟨h2.1,h2.2.mono fun u w'' he=>hgo u w'' he⟩
   |round l f tmps asl bd=>
    refine ⟨h2.1,h2.2.mono fun e w'' he=>?_⟩
    cases e with
    |returned u=>exact hgo u w'' he
    |panicked ch=>exact he.elim
    |outgrown=>obtain ⟨_,_,hF⟩:=he; exact hF.elim
   |_=>simp [Oper.uponIn] at h2
 ·rw [if_neg (by simp [hw])]
  refine ⟨fun _ _=>trivial,?_⟩
  rw [ho]
  exact hn w (dD.refl _ _)
theorem HR {E:e9} {ops:Array Oper} {o:Oper} {D:List Deferred} {L:List (Nat×Value)} {C:List aq} {v:Value} {d:Nat} (h:SD E ops o D L C v) (ho:o.dst=some d) (hd:d<E.n)
 (hsel: ∀ cs b,o.op≠ .select cs b) (hdef: ∀ c,o.op≠ .defer c) {a a':Act} (hf:Fr E.n D L a') (hl: ∀ t∈o.looksAt ops,a.tmps[t]? =a'.tmps[t]?) {w:World} (hs:St E.S E.w0 C w)
 {N:Act→World→Prop} {Q:dj} (hn: ∀ w',St E.S E.w0 C w'→N (a.put (some d) v) w'):
 if Region.wanted o (yielded ops a.tmps) then o.wpIn (Fw E.r) 0 E.P a w N Q else (∀ f,o.about E.P w a.eval=some f→(Fw E.r).fn f)∧N (a.put o.dst undef) w:=
 rn h ho hd hsel hdef hf hl hs (fun w' hk=>hn w' (hs.same hk))
def z6 (n:Nat) (listed:Array Bool):List Nat:=(List.range n).filter fun i=> !listed.getD i false
theorem mV {n:Nat} {listed:Array Bool} {i:Nat}:i∈z6 n listed↔i<n∧listed.getD i false=false:=by simp [z6]
theorem ph {listed:Array Bool} {i j:Nat} (hi:i<listed.size) (d:Bool):(listed.setIfInBounds i true).getD j d=if j=i then true else listed.getD j d:=by
 simp only [Array.getD_eq_getD_getElem?]
 by_cases e:j=i
 ·subst e; rw [Array.getElem?_setIfInBounds_self_of_lt hi]; simp
 ·rw [Array.getElem?_setIfInBounds_ne (fun h=>e h.symm)]; simp [e]
theorem HP {n:Nat} {listed:Array Bool} {i:Nat} (hi:i<listed.size):z6 n (listed.setIfInBounds i true)=(z6 n listed).filter (fun j=>j != i):=by
 unfold z6
 rw [List.filter_filter]
 refine List.filter_congr fun j _=>?_
 rw [ph hi]
 by_cases e:j=i<;>simp [e]
theorem xM {n:Nat} {listed:Array Bool} {i:Nat} (hi:i<listed.size) (hm:i∈z6 n listed):(z6 n (listed.setIfInBounds i true)).length<(z6 n listed).length:=by
 rw [HP hi]
 exact List.length_filter_lt_length_iff_exists.2 ⟨i,hm,sm⟩
section
variable {ops:Array Oper} {listed:Array Bool}
theorem qZ {i:Nat} (hs:listed.size=ops.size) (hi:i<ops.size) (hu:listed.getD i false=false) (hd:te ops (fun k=>listed.getD k false=true) i):i∈Region.ready .any ops listed:=by
 rw [mem_ready]
 obtain ⟨o,ho⟩: ∃ o,ops[i]? =some o:=⟨ops[i],Array.getElem?_eq_getElem hi⟩
 refine ⟨?_,o,ho,?_⟩
 ·rw [Array.getD_eq_getD_getElem?] at hu ⊢
  rw [Array.getElem?_eq_getElem om] at hu ⊢
  exact hu
 ·intro e he hb
  exact hd o e ho he hb
theorem lO {i:Nat} (hs:listed.size=ops.size) (h:i∈Region.ready .any ops listed):i<ops.size∧listed.getD i false=false∧te ops (fun k=>listed.getD k false=true) i:=by
 obtain ⟨hu,o,ho,hall⟩:=mem_ready.1 h
 have hi:i<ops.size:=(Array.getElem?_eq_some_iff.1 ho).1
 refine ⟨hi,?_,fun o' e ho' he hb=>?_⟩
 ·rw [Array.getD_eq_getD_getElem?] at hu ⊢
  rw [Array.getElem?_eq_getElem om] at hu ⊢
  exact hu
 ·rw [ho] at ho'; cases ho'
  exact hall e he hb
end
section
variable {r:Option Nat} {P:Program} {ops:Array Oper} {Q:dj} {n:Nat}
theorem zS (hc:MG ops n): ∀ (fuel:Nat) (listed:Array Bool) (a:Act) (w:World) (m:Nat),listed.size=ops.size→n≤m→(∀ i,i<ops.size→(listed.getD i false=true↔i<m))→(z6 ops.size listed).length≤fuel→
 qf r P ops Q (ops.toList.drop m) a w→wpAnyIn (Fw r) 0 P .any ops Q fuel listed a w:=by
 intro fuel
 induction fuel with
 |zero=>
  intro listed a w m hsz hnm hm hf h
  have hall: ∀ i,i<ops.size→listed.getD i false=true:=fun i hi=>by
   cases hg:listed.getD i false with
   |true=>rfl
   |false=>
    have:i∈z6 ops.size listed:=mV.2 ⟨hi,hg⟩
    have:=List.length_pos_of_mem this
    omega
  have hmz:ops.size≤m:=by
   rcases Nat.lt_or_ge m ops.size with hlt|hge
   ·have:=(hm m hlt).1 (hall m hlt); omega
   ·exact hge
  refine ⟨?_,?_⟩
  ·rw [List.eq_nil_iff_forall_not_mem]
   intro i hi
   obtain ⟨h1,h2,_⟩:=lO hsz hi
   rw [hall i h1] at h2; cases h2
  ·rw [List.drop_eq_nil_of_le (by simpa using hmz)] at h
   exact h
 |succ fuel ih=>
  intro listed a w m hsz hnm hm hf h
  have hcl: ∀ j,j<ops.size→listed.getD j false=true→te ops (fun k=>listed.getD k false=true) j:=fun j hj hl o e ho he hb=>by
   have h1:=hc.zj j o e ho he hb
   have h2:=(hm j hj).1 hl
   exact (hm e.on om).2 om
  rcases Nat.lt_or_ge m ops.size with hlt|hge
  ·obtain ⟨o,ho⟩: ∃ o,ops[m]? =some o:=⟨ops[m],Array.getElem?_eq_getElem hlt⟩
   have hmr:m∈Region.ready .any ops listed:=qZ hsz hlt (by
    cases hg:listed.getD m false with
    |false=>rfl
    |true=>have:=(hm m hlt).1 hg; omega) (fun o' e ho' he hb=>(hm e.on (by have:=hc.zj m o' e ho' he hb; omega)).2 (hc.zj m o' e ho' he hb))
   refine ⟨fun hnil=>absurd hmr (by rw [hnil]; simp),fun i hi=>?_⟩
   obtain ⟨hi1,hi2,hi3⟩:=lO hsz hi
   have him:i=m:=by
    have h1:m≤i:=by
     rcases Nat.lt_or_ge i m with hlt'|hge'
     ·have:=(hm i hi1).2 hlt'; rw [this] at hi2; cases hi2
     ·exact hge'
    rcases Nat.lt_or_ge m i with h2|h2
    ·have hanc:=hc.tail i m om hi1 h2
     have hS:listed.getD m false=true:=iM (S:=fun k=>listed.getD k false=true) (fun j hj=>by
      rcases Nat.lt_or_ge j ops.size with hj'|hj'
      ·exact hcl j hj' hj
      ·intro o' e ho'; rw [Array.getElem?_eq_none hj'] at ho'; cases ho') hanc hi3
     have:=(hm m hlt).1 hS; omega
    ·omega
   subst him
   have hdrop:ops.toList.drop i=o::ops.toList.drop (i+1):=by
    rw [List.drop_eq_getElem_cons (by simpa using hlt)]
    congr 1
    have:=(Array.getElem?_eq_some_iff.1 ho).2
    simpa using this
   rw [hdrop] at h
   simp only [qf] at h
   unfold wpOpIn
   simp only [ho]
   have hnext: ∀ a' w',qf r P ops Q (ops.toList.drop (i+1)) a' w'→wpAnyIn (Fw r) 0 P .any ops Q fuel (listed.setIfInBounds i true) a' w':=fun a' w' h'=>by
    refine ih _ a' w' (i+1) (by simpa using hsz) om (fun k hk=>?_) ?_ h'
    ·rw [ph om]
     by_cases e:k=i
     ·subst e; simp
     ·simp only [e,if_false]; rw [hm k hk]; omega
    ·have:=xM (n:=ops.size) om (mV.2 ⟨hi1,hi2⟩)
     omega
   split at h
   ·rename_i hw
    rw [if_pos hw]
    exact l7 h hnext (fun _ _ _ h=>h)
   ·rename_i hw
    rw [if_neg hw]
    exact ⟨fun _ _=>trivial,hnext _ _ h⟩
  ·refine ⟨fun _=>?_,fun i hi=>?_⟩
   ·rw [List.drop_eq_nil_of_le (by simpa using hge)] at h; exact h
   ·obtain ⟨hi1,hi2,_⟩:=lO hsz hi
    have:=(hm i hi1).2 om
    rw [this] at hi2; cases hi2
end
/-- A REGION WHOSE ORDER IS OPEN: its first n operations yield, each by itself, what they yield in the text's order; what stands behind waits for them. -/
theorem dC {E:e9} {id:Nat} {ops:Array Oper} {Q:dj} {D:List Deferred} {L:List (Nat×Value)} {C:List aq} (hm:E.P.follows .mixedOrders=true) (n:Nat) (hc:Nk ops n=true)
 (h:DJ E ops D C (fun L'=>RJ E ops Q (ops.toList.drop n) D L' C) (ops.toList.take n) L):WJ E (.region id ops true) Q D L C:=by
 have hc:=MG.of hc
 intro a0 w0 hf0 hs0
 refine wpIn_region_any hm ?_
 have hs1:St E.S E.w0 C ({w0 with drawn:=w0.drawn+1}:World):=hs0.same (dD.drew no w0)
 obtain ⟨vs,hvl,hF,hall⟩:=h.out
 have hlen:(ops.toList.take n).length=n:=by rw [List.length_take]; have:=hc.le; simp; omega
 have hop: ∀ i o,(ops.toList.take n)[i]? =some o↔(i<n∧ops[i]? =some o):=fun i o=>by
  rw [List.getElem?_take]
  by_cases hi:i<n<;>simp [hi]
 have hdlt: ∀ (j:Nat) (o:Oper) (d:Nat),(ops.toList.take n)[j]? =some o→o.dst=some d→d<E.n:=fun j o d ho hd=>by
  obtain ⟨d',v,h1,h2,_⟩:=hall j o ho
  rw [h1] at hd; cases hd; exact h2
 -- the state of a partial order
 have key: ∀ (fuel:Nat) (listed:Array Bool) (a:Act) (w:World),listed.size=ops.size→(z6 ops.size listed).length≤fuel→(∀ j,listed.getD j false=true→te ops (fun k=>listed.getD k false=true) j)→
  (∀ j,n≤j→listed.getD j false=false)→a.defers=D→a.tmps.size=E.n→St E.S E.w0 C w→
  (∀ t,(∀ j o,j<n→ops[j]? =some o→listed.getD j false=true→o.dst≠some t)→a.tmps[t]? =a0.tmps[t]?)→
  (∀ j o d,j<n→ops[j]? =some o→listed.getD j false=true→o.dst=some d→a.tmps[d]? =vs[j]?)→
  wpAnyIn (Fw E.r) 0 E.P .any ops Q fuel listed a w:=by
  intro fuel
  induction fuel with
  |zero=>
   intro listed a w hsz hu hcl hlow hd hz hs ht1 ht2
   have hall': ∀ i,i<ops.size→listed.getD i false=true:=fun i hi=>by
    cases hg:listed.getD i false with
    |true=>rfl
    |false=>
     have:=List.length_pos_of_mem (mV.2 ⟨hi,hg⟩)
     omega
   have hn:n=ops.size:=by
    rcases Nat.lt_or_ge n ops.size with hlt|hge
    ·have h1:=hall' n hlt; have h2:=hlow n (Nat.le_refl _); rw [h1] at h2; cases h2
    ·exact Nat.le_antisymm hc.le hge
   have hact:Fr E.n D (yk (ops.toList.take n) vs (ops.toList.take n).length L) a:=by
    have h1:=kL (ops.toList.take n) vs (ops.toList.take n).length L a0 hdlt hf0
    refine ⟨hd,hz,fun t v hv=>?_⟩
    rw [← h1.at_ t v hv]
    by_cases hw: ∃ j o,j<n∧ops[j]? =some o∧o.dst=some t
    ·obtain ⟨j,o,hj,ho,hdst⟩:=hw
     obtain ⟨d',v',e1,e2,e3,_⟩:=hall j o ((hop j o).2 ⟨hj,ho⟩)
     rw [hdst] at e1; cases e1
     rw [ht2 j o t hj ho (hall' j om) hdst,e3]
     refine (kD (ops.toList.take n) vs _ a0 j o t v' om ((hop j o).2 ⟨hj,ho⟩) hdst (by rw [hf0.size]; exact e2) e3 (fun k p hk hne hp=>?_)).symm
     obtain ⟨hk',hp'⟩:=(hop k p).1 hp
     exact (hc.apart k j p o t hk' hj (Ne.symm hne) hp' ho hdst).1
    ·rw [ht1 t (fun j o hj ho _ hdst=>hw ⟨j,o,hj,ho,hdst⟩)]
     refine (fj (ops.toList.take n) vs _ a0 t (fun j o _ ho hdst=>?_)).symm
     obtain ⟨hj,ho'⟩:=(hop j o).1 ho
     exact hw ⟨j,o,hj,ho',hdst⟩
   refine zS hc 0 listed a w n hsz (Nat.le_refl _) (fun i hi=>⟨fun _=>by omega,fun _=>hall' i hi⟩) hu (hF a w hact hs)
  |succ fuel ih=>
   intro listed a w hsz hu hcl hlow hd hz hs ht1 ht2
   by_cases hdone: ∀ i,i<n→listed.getD i false=true
   ·have hact:Fr E.n D (yk (ops.toList.take n) vs (ops.toList.take n).length L) a:=by
     have h1:=kL (ops.toList.take n) vs (ops.toList.take n).length L a0 hdlt hf0
     refine ⟨hd,hz,fun t v hv=>?_⟩
     rw [← h1.at_ t v hv]
     by_cases hw: ∃ j o,j<n∧ops[j]? =some o∧o.dst=some t
     ·obtain ⟨j,o,hj,ho,hdst⟩:=hw
      obtain ⟨d',v',e1,e2,e3,_⟩:=hall j o ((hop j o).2 ⟨hj,ho⟩)
      rw [hdst] at e1; cases e1
      rw [ht2 j o t hj ho (hdone j hj) hdst,e3]
      refine (kD (ops.toList.take n) vs _ a0 j o t v' om ((hop j o).2 ⟨hj,ho⟩) hdst (by rw [hf0.size]; exact e2) e3 (fun k p hk hne hp=>?_)).symm
      obtain ⟨hk',hp'⟩:=(hop k p).1 hp
      exact (hc.apart k j p o t hk' hj (Ne.symm hne) hp' ho hdst).1
     ·rw [ht1 t (fun j o hj ho _ hdst=>hw ⟨j,o,hj,ho,hdst⟩)]
      refine (fj (ops.toList.take n) vs _ a0 t (fun j o _ ho hdst=>?_)).symm
      obtain ⟨hj,ho'⟩:=(hop j o).1 ho
      exact hw ⟨j,o,hj,ho',hdst⟩
    refine zS hc (fuel+1) listed a w n hsz (Nat.le_refl _) (fun i hi=>⟨fun hl=>?_,fun hl=>hdone i hl⟩) hu (hF a w hact hs)
    rcases Nat.lt_or_ge i n with h1|h1
    ·exact h1
    ·rw [hlow i h1] at hl; cases hl
   ·refine ⟨fun hnil=>?_,fun i hi=>?_⟩
    ·exfalso
     -- the least that is not listed is ready
     have hex: ∃ i,i<n∧listed.getD i false=false:=by
      rcases Classical.em (∃ i,i<n∧listed.getD i false=false) with h1|h1
      ·exact h1
      ·exact absurd (fun i hi=>by
        cases hg:listed.getD i false with
        |true=>rfl
        |false=>exact absurd ⟨i,hi,hg⟩ h1) hdone
     obtain ⟨i,hi,hmin⟩:=exists_least hex
     have hr:i∈Region.ready .any ops listed:=qZ hsz (by have:=hc.le; omega) hi.2 (fun o e ho he hb=>by
      have h1:=hc.zj i o e ho he hb
      cases hg:listed.getD e.on false with
      |true=>exact hg
      |false=>exact absurd (hmin e.on ⟨om,hg⟩) om)
     rw [hnil] at hr; cases hr
    ·obtain ⟨hi1,hi2,hi3⟩:=lO hsz hi
     have hin:i<n:=by
      rcases Nat.lt_or_ge i n with h1|h1
      ·exact h1
      ·exfalso
       refine hdone fun j hj=>?_
       exact iM (S:=fun k=>listed.getD k false=true) hcl (hc.tail i j h1 hi1 om) hi3
     obtain ⟨o,ho⟩: ∃ o,ops[i]? =some o:=⟨ops[i],Array.getElem?_eq_getElem hi1⟩
     obtain ⟨d,v,hod,hdn,hvi,hsd⟩:=hall i o ((hop i o).2 ⟨hin,ho⟩)
     obtain ⟨hsel,hdef⟩:=hc.plain i o hin ho
     have hfr:=kL (ops.toList.take n) vs i L a0 hdlt hf0
     have hlook: ∀ t∈o.looksAt ops,a.tmps[t]? =(kM (ops.toList.take n) vs i a0).tmps[t]? :=by
      intro t htl
      by_cases hw: ∃ j p,j<n∧j≠i∧ops[j]? =some p∧p.dst=some t
      ·obtain ⟨j,p,hj,hne,hp,hpd⟩:=hw
       obtain ⟨d',v',e1,e2,e3,_⟩:=hall j p ((hop j p).2 ⟨hj,hp⟩)
       rw [hpd] at e1; cases e1
       have hap:=hc.apart i j o p t hin hj hne ho hp hpd
       rcases hap.2 htl with ⟨hlt,hanc⟩|⟨hlt,hanc⟩
       ·have hS:listed.getD j false=true:=iM (S:=fun k=>listed.getD k false=true) hcl hanc hi3
        rw [ht2 j p t hj hp hS hpd,e3]
        refine (kD (ops.toList.take n) vs i a0 j p t v' hlt ((hop j p).2 ⟨hj,hp⟩) hpd (by rw [hf0.size]; exact e2) e3 (fun k q hk hne' hq=>?_)).symm
        obtain ⟨hk',hq'⟩:=(hop k q).1 hq
        exact (hc.apart k j q p t hk' hj (Ne.symm hne') hq' hp hpd).1
       ·have hnS:listed.getD j false=false:=by
         cases hg:listed.getD j false with
         |false=>rfl
         |true=>
          have:=iM (S:=fun k=>listed.getD k false=true) hcl hanc (hcl j hg)
          rw [this] at hi2; cases hi2
        refine (ht1 t (fun k q hk hq hkl hqd=>?_)).trans (fj (ops.toList.take n) vs i a0 t (fun k q hk hq hqd=>?_)).symm
        ·by_cases e:k=j
         ·subst e; rw [hkl] at hnS; cases hnS
         ·exact (hc.apart k j q p t hk hj (Ne.symm e) hq hp hpd).1 hqd
        ·obtain ⟨hk',hq'⟩:=(hop k q).1 hq
         exact (hc.apart k j q p t hk' hj om hq' hp hpd).1 hqd
      ·refine (ht1 t (fun k q hk hq hkl hqd=>?_)).trans (fj (ops.toList.take n) vs i a0 t (fun k q hk hq hqd=>?_)).symm
       ·by_cases e:k=i
        ·subst e; rw [hkl] at hi2; cases hi2
        ·exact hw ⟨k,q,hk,e,hq,hqd⟩
       ·obtain ⟨hk',hq'⟩:=(hop k q).1 hq
        exact hw ⟨k,q,hk',om,hq',hqd⟩
     unfold wpOpIn
     simp only [ho]
     refine HR hsd hod hdn hsel hdef hfr hlook hs (fun w' hs'=>?_)
     have hset: ∀ j,(listed.setIfInBounds i true).getD j false=if j=i then true else listed.getD j false:=fun j=>ph om false
     refine ih _ _ w' (by simpa using hsz) (by have:=xM (n:=ops.size) (i:=i) (listed:=listed) om (mV.2 ⟨hi1,hi2⟩); omega) ?_ ?_ hd (by simp [Act.put,hz]) hs' ?_ ?_
     ·intro j hj o' e ho' he hb
      rw [hset] at hj ⊢
      by_cases e1:e.on=i
      ·simp [e1]
      ·simp only [e1,if_false]
       by_cases e2:j=i
       ·subst e2; exact hi3 o' e ho' he hb
       ·simp only [e2,if_false] at hj; exact hcl j hj o' e ho' he hb
     ·intro j hj
      rw [hset,if_neg om]
      exact hlow j hj
     ·intro t ht
      have hti:d≠t:=fun e=>by subst e; exact ht i o hin ho (by rw [hset]; simp) hod
      simp only [Act.put]
      rw [Array.getElem?_setIfInBounds_ne hti]
      refine ht1 t (fun j p hj hp hl=>ht j p hj hp (by rw [hset]; split<;>simp [hl]))
     ·intro j p d' hj hp hl hpd
      rw [hset] at hl
      simp only [Act.put]
      by_cases e:j=i
      ·subst e
       rw [ho] at hp; cases hp
       rw [hod] at hpd; cases hpd
       rw [Array.getElem?_setIfInBounds_self_of_lt (by rw [hz]; exact hdn),hvi]
      ·simp only [e,if_false] at hl
       have:=(hc.apart i j o p d' hin hj e ho hp hpd).1
       rw [Array.getElem?_setIfInBounds_ne (fun h=>this (by rw [hod,h]))]
       exact ht2 j p d' hj hp hl hpd
 refine key ops.size (Array.replicate ops.size false) a0 _ sm ?_ ?_ ?_ hf0.defers hf0.size hs1 (fun _ _=>rfl) ?_
 ·unfold z6; exact Nat.le_trans (List.length_filter_le _ _) sm
 ·intro j hj
  simp only [Array.getD_eq_getD_getElem?,Array.getElem?_replicate] at hj
  split at hj<;>simp at hj
 ·intro j _
  simp only [Array.getD_eq_getD_getElem?,Array.getElem?_replicate]
  split<;>rfl
 ·intro j o d _ _ hl
  simp only [Array.getD_eq_getD_getElem?,Array.getElem?_replicate] at hl
  split at hl<;>simp at hl
theorem cO {E:e9} {ops:Array Oper} {Q:dj} {rest:List Oper} {D:List Deferred} {L:List (Nat×Value)} {C:List aq} (h:RJ E ops Q rest D L C):DJ E ops D C (fun L'=>RJ E ops Q rest D L' C) [] L:=h
theorem SD.sub {E:e9} {ops:Array Oper} {o:Oper} {D:List Deferred} {L L':List (Nat×Value)} {C:List aq} {v:Value} (hs:dK L L') (h:SD E ops o D L' C v):SD E ops o D L C v:=fun a w hf hst=>h a w (hf.sub hs) hst
theorem dK.head {L L':List (Nat×Value)} (hs:dK L L') (d:Nat) (v:Value):dK ((d,v)::L) ((d,v)::L'):=fun t u hu=>by
 by_cases e:t=d
 ·subst e; simpa [List.lookup] using hu
 ·have he:(t==d)=false:=by simpa using e
  simp only [List.lookup,he] at hu ⊢; exact hs t u hu
theorem DJ.sub {E:e9} {ops:Array Oper} {Q:dj} {rest:List Oper} {D:List Deferred} {C:List aq}: ∀ {os:List Oper} {L L':List (Nat×Value)},dK L L'→DJ E ops D C (fun L'=>RJ E ops Q rest D L' C) os L'→DJ E ops D C (fun L'=>RJ E ops Q rest D L' C) os L:=by
 intro os
 induction os with
 |nil=>intro L L' hs h a w hf hst; exact h a w (hf.sub hs) hst
 |cons o os ih=>
  intro L L' hs h
  obtain ⟨d,v,ho,hd,hsd,hk⟩:=h
  exact ⟨d,v,ho,hd,hsd.sub hs,ih (hs.head d v) hk⟩
theorem iL {E:e9} {ops:Array Oper} {Q:dj} {rest:List Oper} {D:List Deferred} {C:List aq} {os:List Oper} {L:List (Nat×Value)} {t:Nat} {b:Bool} (h:L.lookup t=some (.bool b))
 (h1:b=true→DJ E ops D C (fun L'=>RJ E ops Q rest D L' C) os ((t,.bool true)::L)) (h2:b=false→DJ E ops D C (fun L'=>RJ E ops Q rest D L' C) os ((t,.bool false)::L)):DJ E ops D C (fun L'=>RJ E ops Q rest D L' C) os L:=by
 have hsub: ∀ v:Bool,b=v→dK L ((t,.bool v)::L):=fun v hv=>dK.cons (hv▸h) (fun _ _ h=>h)
 cases b
 ·exact DJ.sub (hsub _ rfl) (h2 rfl)
 ·exact DJ.sub (hsub _ rfl) (h1 rfl)
end
section
open Go.RowKit
def ju (ops:Array Oper) (L:List (Nat×Value)) (g:Option (Nat×Bool)):Bool:=
 match g with
 |none=>true
 |some (j,b)=>match (ops[j]?).bind (·.dst) with
  |some t=>match L.lookup t with
   |some (.bool b')=>b'==b
   |_=>false
  |none=>false
def z5 (ops:Array Oper) (L:List (Nat×Value)) (g:Option (Nat×Bool)):Bool:=
 match g with
 |none=>false
 |some (j,b)=>match (ops[j]?).bind (·.dst) with
  |some t=>match L.lookup t with
   |some (.bool b')=>b' != b
   |some (.tuple _)=>true
   |_=>false
  |none=>false
theorem dH {ops:Array Oper} {L:List (Nat×Value)} {o:Oper} {n:Nat} {D:List Deferred} {a:Act} (hf:Fr n D L a) (h:ju ops L o.guard=true):Region.wanted o (yielded ops a.tmps)=true:=by
 unfold Region.wanted
 cases hg:o.guard with
 |none=>rfl
 |some jb=>
  obtain ⟨j,b⟩:=jb
  rw [hg] at h
  simp only [ju] at h
  simp only [yielded]
  cases ht:(ops[j]?).bind (·.dst) with
  |none=>simp [ht] at h
  |some t=>
   simp only [ht] at h
   cases hl:L.lookup t with
   |none=>simp [hl] at h
   |some v=>
    simp only [hl] at h
    cases v<;>simp at h
    subst h
    simp [hf.at_ t _ hl]
theorem zc {ops:Array Oper} {L:List (Nat×Value)} {o:Oper} {n:Nat} {D:List Deferred} {a:Act} (hf:Fr n D L a) (h:z5 ops L o.guard=true):Region.wanted o (yielded ops a.tmps)=false:=by
 unfold Region.wanted
 cases hg:o.guard with
 |none=>simp [hg,z5] at h
 |some jb=>
  obtain ⟨j,b⟩:=jb
  rw [hg] at h
  simp only [z5] at h
  simp only [yielded]
  cases ht:(ops[j]?).bind (·.dst) with
  |none=>simp [ht] at h
  |some t=>
   simp only [ht] at h
   cases hl:L.lookup t with
   |none=>simp [hl] at h
   |some v=>
    simp only [hl] at h
    cases v<;>simp at h
    ·rename_i b'
     simp [hf.at_ t _ hl]
     cases b<;>cases b'<;>simp_all
    ·simp [hf.at_ t _ hl]
section
variable {E:e9} {ops:Array Oper} {D:List Deferred} {L:List (Nat×Value)} {C:List aq}
/-- passed over -/
theorem GH {o:Oper} (hg:z5 ops L o.guard=true):SD E ops o D L C undef:=fun a w hf hs=> .inr ⟨zc hf hg,rfl⟩
theorem gz {r:Option Nat} {P:Program} {o:Oper} {a:Act} {w w':World} {N:Act→World→Prop} {Q:dj} {v:Value} (hd: ∀ c,o.op≠ .defer c) (h:(execOp a.eval o).run P w= .ok (.value v) w') (hn:N (a.put o.dst v) w'):o.wpIn (Fw r) 0 P a w N Q:=
 ⟨fun _ _=>trivial,by rw [Oper.semAt_eq _ _ _ hd,h]; exact hn⟩
theorem qd {r:Option Nat} {P:Program} {o:Oper} {a:Act} {w w':World} {N:Act→World→Prop} {Q:dj} (hd: ∀ c,o.op≠ .defer c) (h:(execOp a.eval o).run P w= .ok .skip w') (hn:N (a.put o.dst undef) w'):o.wpIn (Fw r) 0 P a w N Q:=
 ⟨fun _ _=>trivial,by rw [Oper.semAt_eq _ _ _ hd,h]; exact hn⟩
theorem dJ {o:Oper} {v:Value} (hg:ju ops L o.guard=true) (hd: ∀ c,o.op≠ .defer c) (h: ∀ a w,Fr E.n D L a→St E.S E.w0 C w→(execOp a.eval o).run E.P w= .ok (.value v) w):SD E ops o D L C v:=
 fun a w hf hs=> .inl ⟨dH hf hg,gz hd (h a w hf hs) ⟨rfl,dD.refl _ _⟩⟩
variable {dst:Option Tmp} {ty:TypeId} {ps:String} {af:Array Edge} {g:Option (Nat×Bool)}
theorem BT {x:Operand} {v:Value} (hg:ju ops L g=true) (hx:ev L x=some v):SD E ops ⟨dst,.move x,ty,ps,af,g⟩ D L C v:=
 dJ hg sm fun a w hf _=>by simp [execOp,hf.ev hx]
theorem wE {x:Operand} {v:Value} (hg:ju ops L g=true) (hx:ev L x=some v):SD E ops ⟨dst,.assign x,ty,ps,af,g⟩ D L C v:=
 dJ hg sm fun a w hf _=>by simp [execOp,hf.ev hx]
def g_ (P:Program) (op:BinOp) (t:TypeId) (x y:Operand) (u v r:Value):Prop:= ∀ w,(do eqGuard op t x y u v; binOp op t u v:Sem Value).run P w= .ok r w
theorem cb {op:BinOp} {xt yt:TypeId} {x y:Operand} {u v r:Value} (hg:ju ops L g=true) (hx:ev L x=some u) (hy:ev L y=some v) (h:g_ E.P op xt x y u v r):SD E ops ⟨dst,.binOp op xt x y yt,ty,ps,af,g⟩ D L C r:=
 dJ hg sm fun a w hf _=>by
  have:=h w
  simp only [execOp,hf.ev hx,hf.ev hy]
  simp only [Sem.run_bind,Sem.run_pure] at this ⊢
  rw [this]; rfl
theorem Ga {xt:TypeId} {x:Operand} {b:Bool} (hg:ju ops L g=true) (hx:ev L x=some (.bool b)):SD E ops ⟨dst,.unOp .not xt x,ty,ps,af,g⟩ D L C (.bool !b):=
 dJ hg sm fun a w hf _=>by simp [execOp,hf.ev hx,Op.unary]
abbrev o4 (n:Int):Prop:= -9223372036854775808≤n∧n≤9223372036854775807
theorem ni {n:Int} (h:o4 n):IntKind.i64.wrap n=n:=by
 obtain ⟨h1,h2⟩:=h
 rw [IntKind.wrap_i64]
 omega
theorem Kk {xt:TypeId} {x:Operand} {n:Int} (hg:ju ops L g=true) (hx:ev L x=some (.int .i64 n)) (hb:o4 (-n)):SD E ops ⟨dst,.unOp .neg xt x,ty,ps,af,g⟩ D L C (.int .i64 (-n)):=
 dJ hg sm fun a w hf _=>by
  have:(0:Int)-n= -n:=by omega
  simp [execOp,hf.ev hx,Op.unary,Op.intArith,this,ni hb]
theorem wN {c x y:Operand} {v:Value} (hg:ju ops L g=true) (hc:ev L c=some (.bool true)) (hx:ev L x=some v):SD E ops ⟨dst,.pick c x y,ty,ps,af,g⟩ D L C v:=
 dJ hg sm fun a w hf _=>by simp [execOp,hf.ev hc,hf.ev hx,asBool]
theorem xd {c x y:Operand} {v:Value} (hg:ju ops L g=true) (hc:ev L c=some (.bool false)) (hy:ev L y=some v):SD E ops ⟨dst,.pick c x y,ty,ps,af,g⟩ D L C v:=
 dJ hg sm fun a w hf _=>by simp [execOp,hf.ev hc,hf.ev hy,asBool]
theorem uo {st dt:TypeId} {x:Operand} {k k':IntKind} {n m:Int} (hg:ju ops L g=true) (hx:ev L x=some (.int k' n)) (hs:E.P.underlying st=some (.int k')) (hd:E.P.underlying dt=some (.int k)) (hw:k.wrap n=m):SD E ops ⟨dst,.convert st dt x,ty,ps,af,g⟩ D L C (.int k m):=
 dJ hg sm fun a w hf _=>by
  simp [execOp,hf.ev hx,convert,run_underlying hs,run_underlying hd,Conv.intToInt,hw]
def evs (L:List (Nat×Value)):List Operand→Option (List Value)
 |[]=>some []
 |x::xs=>match ev L x,evs L xs with
  |some v,some vs=>some (v::vs)
  |_,_=>none
theorem Fr.evs {n:Nat} {a:Act} (h:Fr n D L a): ∀ {xs:List Operand} {vs:List Value},Go.Proofs.YtcoejkiaokbmpaaGreatDoor.evs L xs=some vs→xs.map a.eval=vs:=by
 intro xs
 induction xs with
 |nil=>intro vs hv; simpa [Go.Proofs.YtcoejkiaokbmpaaGreatDoor.evs] using hv
 |cons x xs ih=>
  intro vs hv
  simp only [Go.Proofs.YtcoejkiaokbmpaaGreatDoor.evs] at hv
  cases hx:Go.Proofs.YtcoejkiaokbmpaaGreatDoor.ev L x with
  |none=>simp [hx] at hv
  |some u=>
   cases hxs:Go.Proofs.YtcoejkiaokbmpaaGreatDoor.evs L xs with
   |none=>simp [hx,hxs] at hv
   |some us=>simp [hx,hxs] at hv; subst hv; simp [h.ev hx,ih hxs]
theorem xC {a b:Int}:(a==b)=decide (a=b):=by by_cases h:a=b<;>simp [h]
section
variable {P:Program} {t:TypeId} {x y:Operand} {a b:Int} {k:IntKind}
theorem g8 (h:o4 (a+b)):g_ P .add t x y (.int .i64 a) (.int .i64 b) (.int .i64 (a+b)):=fun w=>by simp [eqGuard_add,binOp_add,Op.intArith,ni h]
theorem tM (h:o4 (a-b)):g_ P .sub t x y (.int .i64 a) (.int .i64 b) (.int .i64 (a-b)):=fun w=>by simp [eqGuard_sub,binOp_sub,Op.intArith,ni h]
theorem Cf (h:o4 (a*b)):g_ P .mul t x y (.int .i64 a) (.int .i64 b) (.int .i64 (a*b)):=fun w=>by simp [eqGuard_mul,binOp_mul,Op.intArith,ni h]
theorem o6 (h0:0≤a) (h1:0<b) (h:a≤9223372036854775807):g_ P .quo t x y (.int .i64 a) (.int .i64 b) (.int .i64 (a/b)):=fun w=>by
 have hb:b≠0:=by omega
 have h3:0≤a/b:=Int.ediv_nonneg h0 om
 have h4:a/b≤a:=Int.ediv_le_self b h0
 simp [eqGuard_quo,binOp_quo,Op.intDiv,hb,Int.tdiv_eq_ediv_of_nonneg h0,ni (show o4 (a/b) from ⟨om,om⟩)]
theorem Kj (h1:b≠0) (h:o4 (a.tdiv b)):g_ P .quo t x y (.int .i64 a) (.int .i64 b) (.int .i64 (a.tdiv b)):=fun w=>by
 simp [eqGuard_quo,binOp_quo,Op.intDiv,h1,ni h]
theorem KT (h0:0≤a) (h1:0<b):g_ P .rem t x y (.int k a) (.int k b) (.int k (a % b)):=fun w=>by
 have hb:b≠0:=by omega
 simp [eqGuard_rem,binOp_rem,Op.intDiv,hb,Int.tmod_eq_emod_of_nonneg h0]
theorem gH:g_ P .lss t x y (.int k a) (.int k b) (.bool (decide (a<b))):=fun w=>by simp [eqGuard_lss,binOp_lss]
theorem Mb:g_ P .leq t x y (.int k a) (.int k b) (.bool (decide (a≤b))):=fun w=>by simp [eqGuard_leq,binOp_leq]
theorem KR:g_ P .gtr t x y (.int k a) (.int k b) (.bool (decide (b<a))):=fun w=>by simp [eqGuard_gtr,binOp_gtr]
theorem BY:g_ P .geq t x y (.int k a) (.int k b) (.bool (decide (b≤a))):=fun w=>by simp [eqGuard_geq,binOp_geq]
theorem oR:g_ P .eql t x y (.int k a) (.int k b) (.bool (decide (a=b))):=fun w=>by simp [eqGuard_at_int,binOp_eql]; exact xC
theorem qj:g_ P .neq t x y (.int k a) (.int k b) (.bool (!decide (a=b))):=fun w=>by simp [eqGuard_at_int,binOp_neq,bne]; exact xC
end
theorem Eg {x:Operand} {t e:TypeId} {A:OA} {n c:Nat} (hg:ju ops L g=true) (hx:ev L x=some (.slice A n c)) (ht:E.P.underlying t=some (.slice e)):
 SD E ops ⟨dst,.call {callee:= .builtin .len,args:= #[x],argTypes:= #[t]},ty,ps,af,g⟩ D L C (.int .i64 n):=
 dJ hg sm fun a w hf _=>by
  simp [execOp,resolve,invoke,builtin,Builtin.len_,hf.ev hx,run_underlying ht,goInt]
theorem Ks {x y:Operand} {ts:Array TypeId} {a b:Int} {k:IntKind} (hg:ju ops L g=true) (hx:ev L x=some (.int k a)) (hy:ev L y=some (.int k b)):
 SD E ops ⟨dst,.call {callee:= .builtin .min,args:= #[x,y],argTypes:=ts},ty,ps,af,g⟩ D L C (.int k (min a b)):=
 dJ hg sm fun c w hf _=>by
  have:(if b<a then b else a)=min a b:=by omega
  simp [execOp,resolve,invoke,builtin,Builtin.min_,Builtin.min2,hf.ev hx,hf.ev hy,this]
theorem Ki {x y:Operand} {ts:Array TypeId} {a b:Int} {k:IntKind} (hg:ju ops L g=true) (hx:ev L x=some (.int k a)) (hy:ev L y=some (.int k b)):
 SD E ops ⟨dst,.call {callee:= .builtin .max,args:= #[x,y],argTypes:=ts},ty,ps,af,g⟩ D L C (.int k (max a b)):=
 dJ hg sm fun c w hf _=>by
  have:(if a<b then b else a)=max a b:=by omega
  simp [execOp,resolve,invoke,builtin,Builtin.max_,Builtin.max2,hf.ev hx,hf.ev hy,this]
end
end
section
open Go.RowKit
def aq.ro (A:aq):aq:={A with wf:=fun _=>False,wr:=false,j3:=fun _ h=>h.elim,whole:=fun h=>by cases h}
theorem dW {w:World} {g:Nat} {o:Obj} (h:w.heap[g]? =some o):g<w.heap.size:=(Array.getElem?_eq_some_iff.1 h).1
/-- a block of one's own, known whole -/
def br (g:Nat) (t:TypeId) (cs:List Value):aq where
 eX b:=b=g
 wf b:=b=g
 holds w:=w.heap[g]? =some (.cells cs.toArray t (0,0))
 wr:=true
 j3 _ h:=h
 whole _ _ h:=h
 lt w h b hb:=hb▸dW h
 lh w w' hk h:=(hk g rfl).trans h
/-- an object that is no row of cells -/
def kb (g:Nat) (o:Obj):aq where
 eX b:=b=g
 wf b:=b=g
 holds w:=w.heap[g]? =some o
 wr:=true
 j3 _ h:=h
 whole _ _ h:=h
 lt w h b hb:=hb▸dW h
 lh w w' hk h:=(hk g rfl).trans h
/-- what stands at a place -/
def o3 (A:OA) (k:Nat):OA:=A.map (·.add k)
theorem yf (a:Addr) (i j:Nat):(a.add i).add j=a.add (i+j):=by
 unfold Addr.add
 by_cases hi:i=0<;>by_cases hj:j=0<;>simp [hi,hj,Nat.add_assoc]
theorem sj (a:Addr) (n:Nat):(a.add n).block=a.block:=by unfold Addr.add; split<;>rfl
theorem jm (g o k:Nat):(⟨g,o,none⟩:Addr).add k=⟨g,o+k,none⟩:=by unfold Addr.add; split<;>simp_all
/-- a slice that reads as a list of elements, each its cells -/
def rd (A:OA) (n sz:Nat) (es:List (List Value)):aq where
 eX b:=0<n*sz∧ ∃ ad,A=some ad∧b=ad.block
 holds w:=es.length=n∧(∀ e∈es,e.length=sz)∧(0<n*sz→ ∃ ad,A=some ad∧ ∀ i e j v,es[i]? =some e→e[j]? =some v→w.cell? (ad.add (i*sz+j))=some v)
 wf _:=False
 wr:=false
 j3 _ h:=h.elim
 whole h:=by cases h
 lt w h b hb:=by
  obtain ⟨h1,h2,h3⟩:=h
  obtain ⟨hn,ad,hA,rfl⟩:=hb
  obtain ⟨ad',hA',hc⟩:=h3 hn
  rw [hA] at hA'; cases hA'
  have hn0:0<n:=Nat.pos_of_mul_pos_right hn
  have hs0:0<sz:=Nat.pos_of_mul_pos_left hn
  have he:es[0]? =some (es[0]'om):=gv om
  have hl:(es[0]'om).length=sz:=h2 _ (List.getElem_mem _)
  have hv:=hc 0 _ 0 _ he (gv om)
  have:=World.block_lt_of_cell? w _ hv
  rwa [sj] at this
 lh w w' hk h:=by
  refine ⟨h.1,h.2.1,fun hn=>?_⟩
  obtain ⟨ad,hA,hc⟩:=h.2.2 hn
  refine ⟨ad,hA,fun i e j v hi hj=>?_⟩
  rw [World.cell?_of_block (w:=w) (by rw [sj]; exact hk _ ⟨hn,ad,hA,rfl⟩)]
  exact hc i e j v hi hj
def ji (C:List aq) (p:World→Prop):Prop:= ∀ w,(∀ A∈C,A.holds w)→p w
theorem aA {C:List aq} {A:aq} (i:Nat) (h:C[i]? =some A):ji C A.holds:=fun w hw=>hw A (aw h)
def kG (C Cp:List aq):Prop:= ∀ w,(∀ A∈C,A.holds w)→ ∀ A∈Cp,A.holds w
theorem aT {C:List aq}:kG C []:=fun w _ A hA=>by cases hA
theorem bq {C Cp:List aq} {A:aq} (h:ji C A.holds) (t:kG C Cp):kG C (A::Cp):=fun w hw B hB=>by
 rcases List.mem_cons.1 hB with rfl|hB
 ·exact h w hw
 ·exact t w hw B hB
theorem cw {C Cp:List aq} {A B:aq} (i:Nat) (h:C[i]? =some B) (e:B.holds=A.holds) (t:kG C Cp):kG C (A::Cp):=bq (e▸aA i h) t
theorem St.has {S:BS} {w0 w:World} {C:List aq} {p:World→Prop} (h:St S w0 C w) (k:ji C p):p w:=k w h.holds
/-- a block that holds the elements of a list, one behind the other, from its head on -/
theorem sE {w:World} {g:Nat} {t:TypeId} {cs:List Value} {n sz:Nat} {es:List (List Value)} (h:(br g t cs).holds w) (h1:es.length=n) (h2: ∀ e∈es,e.length=sz) (h3:es.flatten <+: cs):(rd (some ⟨g,0,none⟩) n sz es).holds w:=by
 refine ⟨h1,h2,fun _=>⟨_,rfl,fun i e j v hi hj=>?_⟩⟩
 have hfl: ∀ (es:List (List Value)) (i:Nat),(∀ e∈es,e.length=sz)→es[i]? =some e→es.flatten[i*sz+j]? =some v:=by
  intro es
  induction es with
  |nil=>intro i _ hi; simp at hi
  |cons x xs ih=>
   intro i hl hi
   have hx:=hl x sm
   have hjl:j<e.length:=(List.getElem?_eq_some_iff.1 hj).1
   cases i with
   |zero=>
    simp at hi; subst hi
    simp only [List.flatten_cons,Nat.zero_mul,Nat.zero_add]
    rw [List.getElem?_append_left hjl]; exact hj
   |succ i=>
    simp only [List.flatten_cons]
    rw [List.getElem?_append_right (by rw [hx,Nat.succ_mul]; omega)]
    have:(i+1)*sz+j-x.length=i*sz+j:=by rw [hx,Nat.succ_mul]; omega
    rw [this]
    exact ih i (fun e he=>hl e (by simp [he])) (by simpa using hi)
 have hv:=hfl es i h2 hi
 obtain ⟨rest,hr⟩:=h3
 rw [jm,cell_of_row w g _ cs.toArray t (0,0) h]
 simp only [List.getElem?_toArray,Nat.zero_add]
 rw [← hr,List.getElem?_append_left (List.getElem?_eq_some_iff.1 hv).1]
 exact hv
theorem a_ {C:List aq} {g t:Nat} {cs:List Value} {n sz:Nat} {es:List (List Value)} (i:Nat) (hC:C[i]? =some (br g t cs)) (h1:es.length=n) (h2: ∀ e∈es,e.length=sz) (h3:es.flatten=cs):ji C (rd (some ⟨g,0,none⟩) n sz es).holds:=fun w hw=>
 sE (aA i hC w hw) h1 h2 ⟨[],by simp [h3]⟩
/-- the cells of a zero value; the places of the parts: where, how many cells -/
def tB (P:Program) (t:TypeId):Option (List Value×List (Nat×Nat)):=
 match P.info? t,P.underlying t with
 |some it,some (.array n e)=>
  match it.zero,P.info? e with
  |some z,some ie=>some (z.cells.toList,(List.range n).map fun i=>(i*ie.size,ie.size))
  |_,_=>none
 |some it,some (.struct fields)=>
  match it.zero,fields.toList.mapM (fun f=>(P.info? f.type).map fun i=>(f.offset,i.size)) with
  |some z,some places=>some (z.cells.toList,places)
  |_,_=>none
 |_,_=>none
def ME (z:List Value) (pl:List (Nat×Nat)):List (Nat×Value)→Option (List Value)
 |[]=>some z
 |(i,v)::rest=>match pl[i]? with
  |none=>none
  |some (off,sz)=>if v.cells.toList.length=sz∧off+sz≤z.length then ME (z.take off++v.cells.toList++z.drop (off+sz)) pl rest else none
def uc (P:Program) (s f:Nat):Option Nat:=
 match P.underlying s with
 |some (.struct fs)=>match fs[f]? with
  |some fl=>match P.info? fl.type with
   |some i=>if i.size=0 then none else some fl.offset
   |none=>none
  |none=>none
 |_=>none
/-- is it a struct or an array; how many cells -/
def tK (P:Program) (t:TypeId):Option (Bool×Nat):=
 match P.underlying t,P.info? t with
 |some (.struct _),some i=>some (true,i.size)
 |some (.array _ _),some i=>some (true,i.size)
 |some _,some i=>some (false,i.size)
 |_,_=>none
def tZ (P:Program) (t:TypeId):Option (List Value):=((P.info? t).bind (·.zero)).map (·.cells.toList)
def tE (P:Program) (t:TypeId):Option (TypeId×Nat):=
 match P.underlying t with
 |some (.slice e)=>match P.info? e with
  |some i=>some (e,i.size)
  |none=>none
 |_=>none
def rW (P:Program) (f:FuncId):Bool:=
 match P.funcs[f]? with
 |some fn=> !(fn.name=="runtime.NumGoroutine")&&fn.body.isSome
 |none=>false
theorem oG {P:Program} {t:TypeId} {n:Nat} (h:tK P t=some (true,n)) (w:World):(isAgg t).run P w= .ok true w∧(sizeOf t).run P w= .ok n w:=by
 unfold tK at h
 cases hu:P.underlying t with
 |none=>simp [hu] at h
 |some d=>
  cases hi:P.info? t with
  |none=>cases d<;>simp [hu,hi] at h
  |some i=>
   cases d<;>simp [hu,hi] at h<;>(subst h; constructor<;>simp [isAgg,sizeOf,typeInfo,run_underlying hu,hi])
theorem qB {P:Program} {t:TypeId} {n:Nat} (h:tK P t=some (false,n)) (w:World):(isAgg t).run P w= .ok false w∧(sizeOf t).run P w= .ok n w:=by
 unfold tK at h
 cases hu:P.underlying t with
 |none=>simp [hu] at h
 |some d=>
  cases hi:P.info? t with
  |none=>cases d<;>simp [hu,hi] at h
  |some i=>
   cases d<;>simp [hu,hi] at h<;>(subst h; constructor<;>simp [isAgg,sizeOf,typeInfo,run_underlying hu,hi])
theorem tS {P:Program} {s f k:Nat} (h:uc P s f=some k) (a:Addr) (w:World):(Instr.fieldAt s (.pointer (some a)) f).run P w= .ok (.pointer (some (a.add k))) w:=by
 unfold uc at h
 cases hu:P.underlying s with
 |none=>simp [hu] at h
 |some d=>
  cases d<;>simp [hu] at h
  rename_i fs
  cases hf:fs[f]? with
  |none=>simp [hf] at h
  |some fl=>
   simp only [hf] at h
   cases hi:P.info? fl.type with
   |none=>simp [hi] at h
   |some i=>
    simp only [hi] at h
    by_cases hz:i.size=0
    ·simp [hz] at h
    ·simp only [hz,if_false,Option.some.injEq] at h
     subst h
     simp [Instr.fieldAt,run_underlying hu,hf,Instr.sureAddr,fieldPlace,sizeOf,typeInfo,hi,hz]
section
variable {E:e9} {ops:Array Oper} {D:List Deferred} {L:List (Nat×Value)} {C:List aq}
variable {dst:Option Tmp} {ty:TypeId} {ps:String} {af:Array Edge} {g:Option (Nat×Bool)}
theorem IG {x:Operand} {b o o' s f k:Nat} (hg:ju ops L g=true) (hx:ev L x=some (.pointer (some ⟨b,o,none⟩))) (hf:uc E.P s f=some k) (ho:o+k=o'):
 SD E ops ⟨dst,.fieldAddr s x f,ty,ps,af,g⟩ D L C (.pointer (some ⟨b,o',none⟩)):=
 dJ hg sm fun a w hfr _=>by
  simp [execOp,hfr.ev hx,tS hf,jm,ho]
theorem Fv {x:Operand} {A:OA} {n sz:Nat} {es:List (List Value)} {k0 s f k k':Nat} (hg:ju ops L g=true) (hx:ev L x=some (.pointer (o3 A k0))) (hR:ji C (rd A n sz es).holds) (hn:0<n*sz)
 (hf:uc E.P s f=some k) (ho:k0+k=k'):SD E ops ⟨dst,.fieldAddr s x f,ty,ps,af,g⟩ D L C (.pointer (o3 A k')):=
 dJ hg sm fun a w hfr hs=>by
  obtain ⟨ad,hA,_⟩:=(hs.has hR).2.2 hn
  subst hA
  simp [execOp,hfr.ev hx,o3,tS hf,yf,ho]
theorem tF {P:Program} {t e sz:Nat} (h:tE P t=some (e,sz)) {a:Addr} {n c:Nat} {k:Nat} (hk:k<n) (w:World):
 (Instr.indexAt t (.slice (some a) n c) (.int .i64 (k:Int))).run P w= .ok (.pointer (some (a.add (k*sz)))) w:=by
 unfold tE at h
 cases hu:P.underlying t with
 |none=>simp [hu] at h
 |some d=>
  cases d<;>simp [hu] at h
  rename_i e'
  cases hi:P.info? e' with
  |none=>simp [hi] at h
  |some i=>
   simp only [hi,Option.some.injEq,Prod.mk.injEq] at h
   obtain ⟨rfl,rfl⟩:=h
   have h1:(0:Int)≤(k:Int)∧(k:Int)<(n:Int):=by omega
   simp [Instr.indexAt,asIntOf,run_underlying hu,h1,sizeOf,typeInfo,hi,hk]
theorem LS {x ix:Operand} {A:OA} {n c sz e t k:Nat} {es:List (List Value)} {j:Int} (hg:ju ops L g=true) (hx:ev L x=some (.slice A n c)) (hi:ev L ix=some (.int .i64 j)) (hR:ji C (rd A n sz es).holds)
 (ht:tE E.P t=some (e,sz)) (hz:0<sz) (hj:j=(k:Int)) (hk:k<n):SD E ops ⟨dst,.indexAddr t x ix,ty,ps,af,g⟩ D L C (.pointer (o3 A (k*sz))):=
 dJ hg sm fun a w hfr hs=>by
  obtain ⟨ad,hA,_⟩:=(hs.has hR).2.2 (Nat.mul_pos om hz)
  subst hA hj
  simp [execOp,hfr.ev hx,hfr.ev hi,o3,tF ht hk]
theorem Iv {x ix:Operand} {b o n c sz e t k o':Nat} {j:Int} (hg:ju ops L g=true) (hx:ev L x=some (.slice (some ⟨b,o,none⟩) n c)) (hi:ev L ix=some (.int .i64 j))
 (ht:tE E.P t=some (e,sz)) (hj:j=(k:Int)) (hk:k<n) (ho:o+k*sz=o'):SD E ops ⟨dst,.indexAddr t x ix,ty,ps,af,g⟩ D L C (.pointer (some ⟨b,o',none⟩)):=
 dJ hg sm fun a w hfr hs=>by
  subst hj
  simp [execOp,hfr.ev hx,hfr.ev hi,tF ht hk,jm,ho]
/-- what stands in memory from an address on -/
def At (C:List aq) (A:OA) (vs:List Value):Prop:=ji C fun w=> ∃ ad,A=some ad∧ ∀ j v,vs[j]? =some v→w.cell? (ad.add j)=some v
theorem bQ {b o t:Nat} {cs vs:List Value} (i:Nat) (hC:C[i]? =some (br b t cs)) (hv:(cs.drop o).take vs.length=vs):At C (some ⟨b,o,none⟩) vs:=fun w hw=>by
 have h:=aA i hC w hw
 refine ⟨_,rfl,fun j v hj=>?_⟩
 rw [jm,cell_of_row w b _ cs.toArray t (0,0) h]
 rw [← hv,List.getElem?_take] at hj
 split at hj
 ·rw [List.getElem?_drop] at hj; simpa using hj
 ·cases hj
theorem ue {b o t:Nat} {cs vs:List Value} (i:Nat) (hC:C[i]? =some (br b t cs).ro) (hv:(cs.drop o).take vs.length=vs):At C (some ⟨b,o,none⟩) vs:=fun w hw=>by
 have h:(br b t cs).holds w:=aA i hC w hw
 refine ⟨_,rfl,fun j v hj=>?_⟩
 rw [jm,cell_of_row w b _ cs.toArray t (0,0) h]
 rw [← hv,List.getElem?_take] at hj
 split at hj
 ·rw [List.getElem?_drop] at hj; simpa using hj
 ·cases hj
theorem IE {A:OA} {n sz k o m:Nat} {es:List (List Value)} {e vs:List Value} (hR:ji C (rd A n sz es).holds) (he:es[k]? =some e) (hm:m=k*sz+o) (hz:0<sz) (hv:(e.drop o).take vs.length=vs):At C (o3 A m) vs:=fun w hw=>by
 obtain ⟨h1,h2,h3⟩:=hR w hw
 have hk:k<n:=by rw [← h1]; exact (List.getElem?_eq_some_iff.1 he).1
 obtain ⟨ad,hA,hc⟩:=h3 (Nat.mul_pos om hz)
 subst hA hm
 refine ⟨_,rfl,fun j v hj=>?_⟩
 rw [yf,Nat.add_assoc]
 refine hc k e (o+j) v he ?_
 rw [← hv,List.getElem?_take] at hj
 split at hj
 ·rw [List.getElem?_drop] at hj; exact hj
 ·cases hj
theorem td {x:Operand} {A:OA} {t n:Nat} {v:Value} (hg:ju ops L g=true) (hx:ev L x=some (.pointer A)) (ht:tK E.P t=some (false,n)) (hc:At C A [v]):SD E ops ⟨dst,.load t x,ty,ps,af,g⟩ D L C v:=
 dJ hg sm fun a w hf hs=>by
  obtain ⟨ad,hA,hcell⟩:=hs.has hc
  subst hA
  have h0:w.cell? ad=some v:=by simpa [Addr.add] using hcell 0 v rfl
  simp [execOp,hf.ev hx,Instr.loadAt,Instr.sureAddr,loadVar,(qB ht w).1,h0]
theorem uA {x:Operand} {A:OA} {t n:Nat} {vs:List Value} (hg:ju ops L g=true) (hx:ev L x=some (.pointer A)) (ht:tK E.P t=some (true,n)) (hc:At C A vs) (hn:vs.length=n):SD E ops ⟨dst,.load t x,ty,ps,af,g⟩ D L C (.agg vs.toArray):=
 dJ hg sm fun a w hf hs=>by
  obtain ⟨ad,hA,hcell⟩:=hs.has hc
  subst hA
  have hl:(loadCells ad n).run E.P w= .ok vs.toArray w:=by rw [← hn]; exact run_loadCells_list w ad vs hcell
  simp [execOp,hf.ev hx,Instr.loadAt,Instr.sureAddr,loadVar,(oG ht w).1,(oG ht w).2,hl]
end
def NB (C:List aq):List Nat→List (Option (World→Prop))
 |[]=>[]
 |i::is=>C[i]?.map aq.holds::NB C is
def M4:List aq→List (Option (World→Prop))
 |[]=>[]
 |A::l=>some A.holds::M4 l
theorem bh {C:List aq}: ∀ (is:List Nat) {Cp:List aq} (h:NB C is=M4 Cp:=by rfl),kG C Cp
 |[],[],_=>aT
 |[],_::_,h=>by cases h
 |i::is,[],h=>by cases h
 |i::is,A::Cp,h=>by
  obtain ⟨h1,h2⟩:=List.cons.inj (show C[i]?.map aq.holds::NB C is=some A.holds::M4 Cp from h)
  obtain ⟨B,hB,hh⟩:=Option.map_eq_some_iff.1 h1
  exact cw i hB hh (bh is h2)
end
section
open Go.RowKit
/-- what the call hands back is known -/
structure eu (P:Program) (f:FuncId) (args:List Value) (Cp:List aq) (v:Value):Prop where
 go:rW P f=true
 run: ∀ w,(∀ A∈Cp,A.holds w)→Calls P f args.toArray w fun e w'=>e= .returned v∧dD no w w'
/-- what the call hands back is known up to something; what is new in memory -/
structure oY (P:Program) (f:FuncId) (args:List Value) (Cp:List aq) {α:Type} (V:α→Value) (p:α→Prop) (N:α→List aq):Prop where
 go:rW P f=true
 run: ∀ w,(∀ A∈Cp,A.holds w)→Calls P f args.toArray w fun e w'=> ∃ x,e= .returned (V x)∧p x∧dD no w w'∧HC w w' (N x)
theorem oi {P:Program} {f:FuncId} (h:rW P f=true) (args:Array Value) (w:World):(callFunc f args).run P w= .ok (.enter f args) w:=by
 unfold rW at h
 cases hf:P.funcs[f]? with
 |none=>simp [hf] at h
 |some fn=>
  simp only [hf,cS,Bool.not_eq_true',Option.isSome_iff_ne_none] at h
  have h1:=h.1
  have h2:fn.body.isNone=false:=by cases hb:fn.body<;>simp_all
  simp only [beq_eq_false_iff_ne,ne_eq] at h1
  simp [callFunc,program,Sem.run,hf,h1]
  exact fun hb=>absurd hb h.2
section
variable {E:e9} {ops:Array Oper} {Q:dj} {rest:List Oper} {D:List Deferred} {L:List (Nat×Value)} {C:List aq}
variable {dst:Option Tmp} {d:Nat} {ty:TypeId} {ps:String} {af:Array Edge} {g:Option (Nat×Bool)}
theorem uX {a:Act} {fop:Operand} {xs:Array Operand} {ts:Array TypeId} {f:FuncId} {fi ca:Array Value} {vs args:List Value} {n:Nat} (hfr:Fr n D L a) (hgo:rW E.P f=true) (hf:ev L fop=some (.func (.func f) fi ca))
 (hx:evs L xs.toList=some vs) (ha:fi.toList++vs++ca.toList=args) (w:World):
 (execOp a.eval ⟨dst,.call {callee:= .value fop,args:=xs,argTypes:=ts},ty,ps,af,g⟩).run E.P w= .ok (.enter f args.toArray) w:=by
 have h1:xs.map a.eval=vs.toArray:=by
  have:=hfr.evs hx
  apply Array.ext'
  simp [this]
 have h2:fi++vs.toArray++ca=args.toArray:=by rw [← ha]; simp
 simp [execOp,resolve,hfr.ev hf,Deferred.ofValue,invoke,h1,h2,oi hgo]
theorem B5 {fop:Operand} {xs:Array Operand} {ts:Array TypeId} {f:FuncId} {fi ca:Array Value} {vs args:List Value} {Cp:List aq} {v:Value} (hg:ju ops L g=true) (hf:ev L fop=some (.func (.func f) fi ca))
 (hx:evs L xs.toList=some vs) (ha:fi.toList++vs++ca.toList=args) (c:eu E.P f args Cp v) (hC:kG C Cp):SD E ops ⟨dst,.call {callee:= .value fop,args:=xs,argTypes:=ts},ty,ps,af,g⟩ D L C v:=by
 intro a w hfr hs
 refine .inl ⟨dH hfr hg,fun _ _=>trivial,?_⟩
 rw [Oper.semAt_eq _ _ _ sm,uX hfr c.go hf hx ha]
 refine ⟨fun h=>by simp at h,(o7 E.r (c.run w (hC w hs.holds))).mono fun e w' he=>?_⟩
 obtain ⟨rfl,hk⟩:=he
 exact ⟨rfl,hk⟩
theorem JJ {fop:Operand} {xs:Array Operand} {ts:Array TypeId} {f:FuncId} {fi ca:Array Value} {vs args:List Value} {Cp:List aq} {α:Type} {V:α→Value} {p:α→Prop} {N:α→List aq} (hg:ju ops L g=true) (hf:ev L fop=some (.func (.func f) fi ca))
 (hx:evs L xs.toList=some vs) (ha:fi.toList++vs++ca.toList=args) (c:oY E.P f args Cp V p N) (hC:kG C Cp) (hd:Nat.blt d E.n=true) (k: ∀ x,p x→RJ E ops Q rest D ((d,V x)::L) (N x++C)):
 RJ E ops Q (⟨some d,.call {callee:= .value fop,args:=xs,argTypes:=ts},ty,ps,af,g⟩::rest) D L C:=by
 intro a w hfr hs
 have hd':d<E.n:=by rw [← Nat.blt_eq]; exact hd
 unfold qf
 rw [if_pos (dH hfr hg)]
 refine ⟨fun _ _=>trivial,?_⟩
 rw [Oper.semAt_eq _ _ _ sm,uX hfr c.go hf hx ha]
 refine ⟨fun h=>by simp at h,(o7 E.r (c.run w (hC w hs.holds))).mono fun e w' he=>?_⟩
 obtain ⟨x,rfl,hp,hk,hn⟩:=he
 exact k x hp _ _ (hfr.put hd' _) (hs.grow hk hn)
/-- a fact on the slots alone: parted -/
theorem c8 {t:Nat} {b:Bool} (h:L.lookup t=some (.bool b)) (h1:b=true→RJ E ops Q rest D ((t,.bool true)::L) C) (h2:b=false→RJ E ops Q rest D ((t,.bool false)::L) C):RJ E ops Q rest D L C:=by
 have hsub: ∀ v:Bool,b=v→dK L ((t,.bool v)::L):=fun v hv=>dK.cons (hv▸h) (fun _ _ h=>h)
 cases b
 ·exact fun a w hf hs=>h2 rfl a w (hf.sub (hsub _ rfl)) hs
 ·exact fun a w hf hs=>h1 rfl a w (hf.sub (hsub _ rfl)) hs
theorem I8 {L':List (Nat×Value)} {C':List aq} (hL:dK L L') (hC: ∀ w,St E.S E.w0 C w→St E.S E.w0 C' w) (h:RJ E ops Q rest D L' C'):RJ E ops Q rest D L C:=fun a w hf hs=>h a w (hf.sub hL) (hC w hs)
theorem HK {w:World} {t:TypeId} {cs:List Value}:HC w (w.alloc (.cells cs.toArray t)) [br w.heap.size t cs]:=
 ⟨fun A hA=>by simp at hA; subst hA; exact heap_alloc_new w _,fun A hA b hb=>by simp at hA; subst hA; exact Nat.le_of_eq (Eq.symm hb),List.pairwise_singleton _ _⟩
theorem Ca {o:Oper} {t:TypeId} {cs:List Value} {V:Nat→Value} (hg:ju ops L o.guard=true) (ho:o.dst=some d) (hnd: ∀ c,o.op≠ .defer c) (hd:Nat.blt d E.n=true)
 (hr: ∀ a w,Fr E.n D L a→St E.S E.w0 C w→(execOp a.eval o).run E.P w= .ok (.value (V w.heap.size)) (w.alloc (.cells cs.toArray t)))
 (k: ∀ b,RJ E ops Q rest D ((d,V b)::L) (br b t cs::C)):RJ E ops Q (o::rest) D L C:=by
 intro a w hfr hs
 have hd':d<E.n:=by rw [← Nat.blt_eq]; exact hd
 unfold qf
 rw [if_pos (dH hfr hg)]
 refine gz hnd (hr a w hfr hs) ?_
 rw [ho]
 exact k _ _ _ (hfr.put hd' _) (hs.grow (dD.alloc no w _) HK)
theorem Hm {t:TypeId} {cs:List Value} (hg:ju ops L g=true) (hz:tZ E.P t=some cs) (hd:Nat.blt d E.n=true) (k: ∀ b,RJ E ops Q rest D ((d,.pointer (some ⟨b,0,none⟩))::L) (br b t cs::C)):
 RJ E ops Q (⟨some d,.alloc t,ty,ps,af,g⟩::rest) D L C:=by
 refine Ca (V:=fun b=> .pointer (some ⟨b,0,none⟩)) (t:=t) (cs:=cs) (by exact hg) rfl sm hd (fun a w hfr _=>?_) k
 unfold tZ at hz
 cases hi:E.P.info? t with
 |none=>simp [hi] at hz
 |some i=>
  cases hzz:i.zero with
  |none=>simp [hi,hzz] at hz
  |some z=>
   simp only [hi,hzz,Option.bind_some,Option.map_some,Option.some.injEq] at hz
   subst hz
   simp [execOp,Instr.alloc,zeroValue,typeInfo,hi,hzz,newVar,newRow]
theorem I4 {t:TypeId} {x:Operand} {v:Value} {cs:List Value} (hg:ju ops L g=true) (hx:ev L x=some v) (hv:v.cells.toList=cs) (hd:Nat.blt d E.n=true) (k: ∀ b,RJ E ops Q rest D ((d,.pointer (some ⟨b,0,none⟩))::L) (br b t cs::C)):
 RJ E ops Q (⟨some d,.box t x,ty,ps,af,g⟩::rest) D L C:=by
 refine Ca (V:=fun b=> .pointer (some ⟨b,0,none⟩)) (t:=t) (cs:=cs) (by exact hg) rfl sm hd (fun a w hfr _=>?_) k
 subst hv
 simp [execOp,Instr.box,hfr.ev hx,newVar,newRow]
theorem Mh {t e sz:Nat} (hg:ju ops L g=true) (ht:tE E.P t=some (e,sz)) (hd:Nat.blt d E.n=true) (k: ∀ b,RJ E ops Q rest D ((d,.slice (some ⟨b,0,none⟩) 0 0)::L) (br b e []::C)):
 RJ E ops Q (⟨some d,.buildSlice t 0 #[],ty,ps,af,g⟩::rest) D L C:=by
 refine Ca (V:=fun b=> .slice (some ⟨b,0,none⟩) 0 0) (t:=e) (cs:=[]) (by exact hg) rfl sm hd (fun a w hfr _=>?_) k
 unfold tE at ht
 cases hu:E.P.underlying t with
 |none=>simp [hu] at ht
 |some dd=>
  cases dd<;>simp [hu] at ht
  rename_i e'
  cases hi:E.P.info? e' with
  |none=>simp [hi] at ht
  |some i=>
   simp only [hi,Option.some.injEq,Prod.mk.injEq] at ht
   obtain ⟨rfl,rfl⟩:=ht
   have h0:Array.range 0= #[]:=rfl
   simp [execOp,Instr.buildSlice,run_underlying hu,sizeOf,typeInfo,hi,Instr.fill,newRow,h0]
theorem yN (off:Nat): ∀ (xs:List Value) (k:Nat) (cs:Array Value),off+k+xs.length≤cs.size→
 ((xs.zipIdx k).foldl (fun (cs:Array Value) (p:Value×Nat)=>cs.setIfInBounds (off+p.2) p.1) cs).toList=cs.toList.take (off+k)++xs++cs.toList.drop (off+k+xs.length):=by
 intro xs
 induction xs with
 |nil=>intro k cs h; simp
 |cons x xs ih=>
  intro k cs h
  simp only [List.length_cons] at h
  simp only [List.zipIdx_cons,List.foldl_cons]
  rw [ih (k+1) _ (by simp; omega)]
  have h1:(cs.setIfInBounds (off+k) x).toList=cs.toList.set (off+k) x:=by simp
  rw [h1]
  have hk:off+k<cs.toList.length:=by simp; omega
  rw [show off+(k+1)=off+k+1 from by omega,List.take_add_one,List.take_set_of_le (Nat.le_refl _),List.getElem?_set_self hk,List.drop_set_of_lt om]
  simp [Nat.add_assoc,Nat.add_comm,Nat.add_left_comm]
/-- the cells of so many elements -/
theorem Fl {sz:Nat}: ∀ (vs:List Value) (k:Nat) (cs:Array Value),(∀ v∈vs,v.cells.size=sz)→cs.size=(k+vs.length)*sz→
 ∃ r,Instr.fill (fun i=>some (i*sz,sz)) cs ((vs.zipIdx k).map fun p=>(p.2,p.1))=some r∧r.toList=cs.toList.take (k*sz)++(vs.map (·.cells.toList)).flatten:=by
 intro vs
 induction vs with
 |nil=>intro k cs _ hs; exact ⟨cs,rfl,by simp at hs; rw [← hs,List.take_of_length_le sm]; simp⟩
 |cons v vs ih=>
  intro k cs hv hs
  have hv0:=hv v sm
  have hle:k*sz+sz≤cs.size:=by
   rw [hs,← Nat.succ_mul]
   exact Nat.mul_le_mul_right _ sm
  have hf:=yN (k*sz) v.cells.toList 0 cs (by simp [hv0]; exact hle)
  obtain ⟨r,h1,h2⟩:=ih (k+1) (v.cells.toList.zipIdx.foldl (fun (cs:Array Value) (p:Value×Nat)=>cs.setIfInBounds (k*sz+p.2) p.1) cs) (fun u hu=>hv u (by simp [hu])) (by
   have hl:=congrArg List.length hf
   simp only [Array.length_toList] at hl
   rw [hl]
   simp [hv0] at hs ⊢
   rw [show k+1+vs.length=k+(vs.length+1) from by omega,← hs]
   omega)
  refine ⟨r,?_,?_⟩
  ·simp only [List.zipIdx_cons,List.map_cons,Instr.fill]
   rw [if_neg (by simp [hv0]; omega)]
   rw [← h1]
   congr 1
   rw [← Array.foldl_toList]
   simp [Array.toList_zipIdx]
  ·rw [h2,hf]
   simp only [Nat.add_zero,List.map_cons,List.flatten_cons]
   rw [show (k+1)*sz=k*sz+sz from Nat.succ_mul k sz]
   have hlen:(cs.toList.take (k*sz)++v.cells.toList).length=k*sz+sz:=by simp [hv0]; omega
   rw [List.take_append_of_le_length (by rw [hlen]; omega),List.take_of_length_le (by rw [hlen]; omega)]
   simp
theorem fc {t e sz n:Nat} {xs:List Operand} {vs:List Value} {cs zs:List Value} (hg:ju ops L g=true) (ht:tE E.P t=some (e,sz)) (hz:tZ E.P e=some zs) (hx:evs L xs=some vs) (hn:xs.length=n) (hp:Nat.blt 0 (n*sz)=true) (hb:Nat.ble (n*sz) 16777216=true) (hv: ∀ v∈vs,v.cells.size=sz)
 (hc:(vs.map (·.cells.toList)).flatten=cs) (hd:Nat.blt d E.n=true) (k: ∀ b,RJ E ops Q rest D ((d,.slice (some ⟨b,0,none⟩) n n)::L) (br b e cs::C)):
 RJ E ops Q (⟨some d,.buildSlice t n ((xs.zipIdx.map fun p=>(p.2,p.1)).toArray),ty,ps,af,g⟩::rest) D L C:=by
 refine Ca (V:=fun b=> .slice (some ⟨b,0,none⟩) n n) (t:=e) (cs:=cs) (by exact hg) rfl sm hd (fun a w hfr _=>?_) k
 have hlen:vs.length=n:=by
  have:=hfr.evs hx
  rw [← this,List.length_map,hn]
 unfold tE at ht
 cases hu:E.P.underlying t with
 |none=>simp [hu] at ht
 |some dd=>
  cases dd<;>simp [hu] at ht
  rename_i e'
  cases hi:E.P.info? e' with
  |none=>simp [hi] at ht
  |some i=>
   simp only [hi,Option.some.injEq,Prod.mk.injEq] at ht
   obtain ⟨rfl,rfl⟩:=ht
   cases hzz:i.zero with
   |none=>simp [tZ,hi,hzz] at hz
   |some z=>
    have hA:((xs.zipIdx.map fun p=>(p.2,p.1)).toArray.map fun ((i,x):Nat×Operand)=>(i,a.eval x))=((vs.zipIdx 0).map fun p=>(p.2,p.1)).toArray:=by
     rw [← hfr.evs hx]
     apply Array.ext'
     simp [List.zipIdx_map]
    obtain ⟨r,hr1,hr2⟩:=Fl (sz:=i.size) vs 0 ((Array.range (n*i.size)).map fun j=>(if n*i.size=0 then #[] else z.cells)[j % (if n*i.size=0 then (#[]:Array Value) else z.cells).size]!) hv (by simp [hlen])
    simp only [Nat.zero_mul,List.take_zero,List.nil_append,hc] at hr2
    have hrr:r=cs.toArray:=by rw [← hr2]
    subst hrr
    have hb': ¬ (n*i.size>2^24):=by have:=Nat.le_of_ble_eq_true hb; omega
    have hzero: ¬ n*i.size=0:=by rw [Nat.blt_eq] at hp; omega
    simp only [hzero,if_false] at hr1
    simp only [execOp,hA,Instr.buildSlice,Sem.run_bind,run_underlying hu,Result.andThen_ok,sizeOf,typeInfo,run_program,hi,Sem.run_pure,hzero,if_false,hb',zeroValue,hzz,hr1]
    simp [newRow]
theorem zF {place:Nat→Option (Nat×Nat)} {pl:List (Nat×Nat)} (hp: ∀ i x,pl[i]? =some x→place i=some x): ∀ (parts:List (Nat×Value)) (z:Array Value) (cs:List Value),ME z.toList pl parts=some cs→ ∃ r,Instr.fill place z parts=some r∧r.toList=cs:=by
 intro parts
 induction parts with
 |nil=>intro z cs h; exact ⟨z,rfl,by simpa [ME] using h⟩
 |cons p rest ih=>
  obtain ⟨i,v⟩:=p
  intro z cs h
  simp only [ME] at h
  cases hi:pl[i]? with
  |none=>simp [hi] at h
  |some x=>
   obtain ⟨off,sz⟩:=x
   simp only [hi] at h
   split at h
   ·rename_i hc
    have hs:v.cells.size=sz:=by simpa using hc.1
    have hz:off+sz≤z.size:=by simpa using hc.2
    have hf:=yN off v.cells.toList 0 z (by simp [hs]; exact hz)
    simp only [Nat.add_zero,Array.length_toList,hs] at hf
    rw [← hf] at h
    obtain ⟨r,h1,h2⟩:=ih _ cs h
    refine ⟨r,?_,h2⟩
    simp only [Instr.fill,hp i _ hi]
    rw [if_neg (by simp [hs]; omega),← h1]
    congr 1
    rw [← Array.foldl_toList]
    simp [Array.toList_zipIdx]
   ·cases h
theorem bf {P:Program} {t:TypeId} {z:List Value} {pl:List (Nat×Nat)} {parts:List (Nat×Value)} {cs:List Value} (h:tB P t=some (z,pl)) (hb:ME z pl parts=some cs):(P.built t parts).map (·.toList)=some cs:=by
 unfold tB at h
 unfold Program.built
 cases hit:P.info? t with
 |none=>simp [hit] at h
 |some it=>
  cases hu:P.underlying t with
  |none=>simp [hit,hu] at h
  |some d=>
   cases hz:it.zero with
   |none=>cases d<;>simp [hit,hu,hz] at h
   |some zv=>
    cases d<;>try (simp [hit,hu] at h; done)
    case array n e=>
     cases hie:P.info? e with
     |none=>simp [hit,hu,hz,hie] at h
     |some ie=>
      simp only [hit,hu,hz,hie,Option.some.injEq,Prod.mk.injEq] at h
      obtain ⟨h1,h2⟩:=h
      subst h1 h2
      obtain ⟨r,hr1,hr2⟩:=zF (place:=fun i=>some (i*ie.size,ie.size)) (fun i x hi=>by
       rw [fq] at hi
       cases hg:(List.range n)[i]? with
       |none=>simp [hg] at hi
       |some j=>
        have hj:j=i:=by
         have:=(List.getElem?_eq_some_iff.1 hg).2
         simpa using this.symm
        subst hj
        simpa [hg] using hi) parts zv.cells cs hb
      simp only [hz,hie,hr1,Option.map_some,hr2]
    case struct fields=>
     cases hp:fields.toList.mapM (fun f=>(P.info? f.type).map fun i=>(f.offset,i.size)) with
     |none=>simp [hit,hu,hz,hp] at h
     |some places=>
      simp only [hit,hu,hz,hp,Option.some.injEq,Prod.mk.injEq] at h
      obtain ⟨h1,h2⟩:=h
      subst h1 h2
      obtain ⟨r,hr1,hr2⟩:=zF (place:=(places.toArray[·]?)) (fun i x hi=>by simpa using hi) parts zv.cells cs hb
      simp only [hz,hp,hr1,Option.map_some,hr2]
theorem bg {t:TypeId} {xs:List (Nat×Operand)} {vs:List Value} {cs:List Value} (hg:ju ops L g=true) (hx:evs L (xs.map (·.2))=some vs) (hb:(E.P.built t ((xs.map (·.1)).zip vs)).map (·.toList)=some cs):
 SD E ops ⟨dst,.build t xs.toArray,ty,ps,af,g⟩ D L C (.agg cs.toArray):=
 dJ hg sm fun a w hf _=>by
  have hA:(xs.toArray.map fun ((i,x):Nat×Operand)=>(i,a.eval x))=((xs.map (·.1)).zip vs).toArray:=by
   rw [← hf.evs hx]
   apply Array.ext'
   simp [List.zip_map',List.map_map]
  obtain ⟨cells,hc,hcc⟩:=Option.map_eq_some_iff.1 hb
  have hcells:cells=cs.toArray:=by rw [← hcc]
  subst hcells
  have h1:=run_build (P:=E.P) w t (((xs.map (·.1)).zip vs).toArray) cs.toArray (by simpa using hc)
  simp only [execOp,hA,Sem.run_bind,h1,Result.andThen_ok,Sem.run_pure]
theorem pR {t:TypeId} {x:Operand} {cs:List Value} {f o n:Nat} {v:Value} (hg:ju ops L g=true) (hx:ev L x=some (.agg cs.toArray)) (hf:uc E.P t f=some o) (ht:(match E.P.underlying t with |some (.struct fs)=>(fs[f]?).map (fun fl=>tK E.P fl.type)|_=>none)=some (some (false,n)))
 (hv:cs[o]? =some v):SD E ops ⟨dst,.field t x f,ty,ps,af,g⟩ D L C v:=
 dJ hg sm fun a w hfr _=>by
  unfold uc at hf
  cases hu:E.P.underlying t with
  |none=>simp [hu] at hf
  |some dd=>
   cases dd<;>simp [hu] at hf
   rename_i fs
   cases hff:fs[f]? with
   |none=>simp [hff] at hf
   |some fl=>
    simp only [hu,hff,Option.map_some,Option.some.injEq] at ht
    simp only [hff] at hf
    cases hi:E.P.info? fl.type with
    |none=>simp [hi] at hf
    |some i=>
     simp only [hi] at hf
     by_cases hz:i.size=0
     ·simp [hz] at hf
     ·simp only [hz,if_false,Option.some.injEq] at hf
      subst hf
      simp [execOp,hfr.ev hx,Instr.field,run_underlying hu,hff,asAgg,part,(qB ht w).1,hv]
theorem uR {x:Operand} {vs:List Value} {i:Nat} {v:Value} (hg:ju ops L g=true) (hx:ev L x=some (.tuple vs.toArray)) (hv:vs[i]? =some v):SD E ops ⟨dst,.extract x i,ty,ps,af,g⟩ D L C v:=
 dJ hg sm fun a w hf _=>by simp [execOp,hf.ev hx,Instr.extract,hv]
theorem H0 {fn:Fn} {xs ys:Array Operand} {us vs:List Value} (hg:ju ops L g=true) (hx:evs L xs.toList=some us) (hy:evs L ys.toList=some vs):SD E ops ⟨dst,.makeFunc fn xs ys,ty,ps,af,g⟩ D L C (.func fn us.toArray vs.toArray):=
 dJ hg sm fun a w hf _=>by
  have h1:xs.map a.eval=us.toArray:=Array.ext' (by simp [hf.evs hx])
  have h2:ys.map a.eval=vs.toArray:=Array.ext' (by simp [hf.evs hy])
  simp [execOp,Instr.makeFunc,h1,h2]
theorem pt {P:Program} {b t:Nat}: ∀ (vs:List Value) (cs:List Value) (o i:Nat) (w:World),(∀ v∈vs,v.oneCell'=true)→o+i+vs.length≤cs.length→w.heap[b]? =some (.cells cs.toArray t (0,0))→
 ∃ w',(storeCells ⟨b,o,none⟩ vs i).run P w= .ok () w'∧w'.heap[b]? =some (.cells (cs.take (o+i)++vs++cs.drop (o+i+vs.length)).toArray t (0,0))∧dD (only b) w w':=by
 intro vs
 induction vs with
 |nil=>intro cs o i w _ _ h; exact ⟨w,by simp [storeCells],by simpa using h,dD.refl _ _⟩
 |cons v vs ih=>
  intro cs o i w hv hl h
  simp only [List.length_cons] at hl
  have hlt:=dW h
  have hcell:w.cell? ((⟨b,o,none⟩:Addr).add i)=some (cs[o+i]'om):=by
   rw [jm,cell_of_row w b _ cs.toArray t (0,0) h]
   simp
  have hfz:w.frozen? ((⟨b,o,none⟩:Addr).add i)=false:=by rw [jm]; simp [World.frozen?,h]
  have hset:(w.setCell ((⟨b,o,none⟩:Addr).add i) v).heap[b]? =some (.cells (cs.set (o+i) v).toArray t (0,0)):=by
   rw [jm]
   simp [World.setCell,Array.getElem?_modify,h]
  have hkeep:dD (only b) w (w.setCell ((⟨b,o,none⟩:Addr).add i) v):=⟨rfl,rfl,rfl,by simp [World.setCell],fun k hk hn=>Below.heap_setCell _ _ _ _ (by rw [sj]; exact hn)⟩
  obtain ⟨w',h1,h2,h3⟩:=ih (cs.set (o+i) v) o (i+1) _ (fun u hu=>hv u (by simp [hu])) (by simp; omega) hset
  refine ⟨w',?_,?_,hkeep.trans h3⟩
  ·have hv0:=hv v sm
   have hst:(store ((⟨b,o,none⟩:Addr).add i) v).run P w= .ok () (w.setCell ((⟨b,o,none⟩:Addr).add i) v):=by
    rw [run_store P w _ v _ (by simpa [Value.oneCell'] using hv0)]
    simp [hcell,hfz]
   simp only [storeCells,Sem.run_bind,hst,Result.andThen_ok,h1]
  ·rw [h2]
   congr 3
   rw [show o+(i+1)=o+i+1 from by omega,List.take_add_one,List.take_set_of_le (Nat.le_refl _),List.getElem?_set_self om,List.drop_set_of_lt om]
   simp [Nat.add_assoc,Nat.add_comm,Nat.add_left_comm]
theorem St.zK {S:BS} {w0 w w':World} {b:Nat} {A A':aq} (i:Nat) (h:St S w0 C w) (hC:C[i]? =some A) (hA:A.eX b) (hw:A.wr=true) (hk:dD (only b) w w') (hA': ∀ x,A'.eX x→x=b) (hb:A'.holds w'):St S w0 (C.set i A') w':=by
 have hi:i<C.length:=(List.getElem?_eq_some_iff.1 hC).1
 have hget:C[i]=A:=(List.getElem?_eq_some_iff.1 hC).2
 have hAw:=A.whole hw b hA
 have hown:=h.own A (aw hC) b hAw
 have hseen:=h.seen A (aw hC) b hA
 have hsep: ∀ j (hj:j<C.length),j≠i→ ∀ x,(C[j]).eX x→x≠b:=by
  intro j hj hne x hx he
  subst he
  rcases Nat.lt_or_gt_of_ne hne with hlt|hlt
  ·have:=List.pairwise_iff_getElem.1 h.sep j i hj hi hlt
   rw [hget] at this
   exact (this x hx hA).2 hAw
  ·have:=List.pairwise_iff_getElem.1 h.sep i j hi hj hlt
   rw [hget] at this
   exact (this x hA hx).1 hAw
 refine ⟨?_,?_,?_,?_,?_⟩
 ·refine ⟨hk.os.trans h.keeps.os,hk.tape.trans h.keeps.tape,hk.output.trans h.keeps.output,Nat.le_trans h.keeps.size hk.size,fun k hkk hn=>?_⟩
  have hne: ¬ only b k:=by
   rintro rfl
   rcases hown with h1|h1
   ·omega
   ·exact hn h1
  exact (hk.block k (Nat.lt_of_lt_of_le hkk h.keeps.size) hne).trans (h.keeps.block k hkk hn)
 ·intro B hB
  obtain ⟨j,hj,hjB⟩:=List.mem_iff_getElem.1 hB
  rw [List.getElem_set] at hjB
  split at hjB
  ·subst hjB; exact hb
  ·rename_i hne
   subst hjB
   have hj':j<C.length:=by simpa using hj
   have hm:C[j]∈C:=List.getElem_mem hj'
   refine (C[j]).lh w w' (fun x hx=>hk.block x ((C[j]).lt w (h.holds _ hm) x hx) ?_) (h.holds _ hm)
   exact hsep j hj' (Ne.symm hne) x hx
 ·rw [m6]
  intro p q hp hq hpq
  have hp':p<C.length:=by simpa using hp
  have hq':q<C.length:=by simpa using hq
  have hs:=List.pairwise_iff_getElem.1 h.sep p q hp' hq' hpq
  rw [List.getElem_set,List.getElem_set]
  split
  ·rename_i e1; subst e1
   rw [if_neg om]
   intro x hx hx'
   exact absurd (hA' x hx) (hsep q hq' om x hx')
  ·split
   ·rename_i e1; subst e1
    intro x hx hx'
    exact absurd (hA' x hx') (hsep p hp' om x hx)
   ·exact hs
 ·intro B hB x hx
  obtain ⟨j,hj,hjB⟩:=List.mem_iff_getElem.1 hB
  rw [List.getElem_set] at hjB
  split at hjB
  ·subst hjB
   have:=hA' x (A'.j3 x hx)
   subst this; exact hown
  ·subst hjB
   exact h.own _ (List.getElem_mem _) x hx
 ·intro B hB x hx
  obtain ⟨j,hj,hjB⟩:=List.mem_iff_getElem.1 hB
  rw [List.getElem_set] at hjB
  split at hjB
  ·subst hjB
   have:=hA' x hx
   subst this; exact hseen
  ·subst hjB
   exact h.seen _ (List.getElem_mem _) x hx
theorem St.store {S:BS} {w0 w w':World} {b t:Nat} {cs cs':List Value} (i:Nat) (h:St S w0 C w) (hC:C[i]? =some (br b t cs)) (hk:dD (only b) w w') (hb:w'.heap[b]? =some (.cells cs'.toArray t (0,0))):St S w0 (C.set i (br b t cs')) w':=
 h.zK i hC rfl rfl hk (fun _ h=>h) hb
theorem qQ {t n b o tt:Nat} {x y:Operand} {v:Value} {vs cs cs':List Value} {C':List aq} (i:Nat) (hg:ju ops L g=true) (hx:ev L x=some (.pointer (some ⟨b,o,none⟩))) (hy:ev L y=some v) (ht:(tK E.P t).map (·.2)=some n) (hv:v.cells.toList=vs) (hn:vs.length=n)
 (h1:vs.all Value.oneCell'=true) (hC:C[i]? =some (br b tt cs)) (hl:Nat.ble (o+n) cs.length=true) (hcs:cs.take o++vs++cs.drop (o+n)=cs') (hC':C.set i (br b tt cs')=C') (k:RJ E ops Q rest D L C'):
 RJ E ops Q (⟨none,.store t x y,ty,ps,af,g⟩::rest) D L C:=by
 intro a w hfr hs
 unfold qf
 rw [if_pos (dH hfr hg)]
 have hl':=Nat.le_of_ble_eq_true hl
 obtain ⟨w',hr,hb',hk⟩:=pt (P:=E.P) vs cs o 0 w (fun v hv=>List.all_eq_true.1 h1 v hv) (by rw [hn]; exact hl') (hs.holds _ (aw hC))
 have hsize:(sizeOf t).run E.P w= .ok n w:=by
  obtain ⟨bn,hbn,rfl⟩:=Option.map_eq_some_iff.1 ht
  obtain ⟨bb,nn⟩:=bn
  cases bb
  ·exact (qB hbn w).2
  ·exact (oG hbn w).2
 have hvs:v.cells.size=n:=by rw [← hn,← hv]; simp
 refine qd sm (w':=w') ?_ ?_
 ·simp [execOp,hfr.ev hx,hfr.ev hy,Instr.storeAt,Instr.sureAddr,storeVar,hsize,hvs,hv,hr]
 ·refine k _ _ ⟨hfr.defers,hfr.size,hfr.at_⟩ ?_
  rw [← hC']
  refine hs.store i hC hk ?_
  rw [hb']
  simp only [Nat.add_zero,hn,hcs]
end
end
section
open Go.RowKit
def lH (C:List aq) (is:List Nat):List aq:=is.filterMap (C[·]?)
theorem Hl {C:List aq} {is:List Nat} {A:aq} (h:A∈lH C is):A∈C:=by
 obtain ⟨i,_,hi⟩:=List.mem_filterMap.1 h
 exact aw hi
theorem Hk {C:List aq} (hC:C.Pairwise z8): ∀ {is:List Nat},is.Nodup→(lH C is).Pairwise z8:=by
 intro is
 induction is with
 |nil=>intro _; exact List.Pairwise.nil
 |cons i is ih=>
  intro hn
  rw [List.nodup_cons] at hn
  unfold lH
  cases hi:C[i]? with
  |none=>simp only [List.filterMap_cons,hi]; exact ih hn.2
  |some A=>
   simp only [List.filterMap_cons,hi]
   refine List.Pairwise.cons (fun B hB=>?_) (ih hn.2)
   obtain ⟨j,hj,hjB⟩:=List.mem_filterMap.1 hB
   have hne:i≠j:=fun e=>hn.1 (e▸hj)
   obtain ⟨hi1,hi2⟩:=List.getElem?_eq_some_iff.1 hi
   obtain ⟨hj1,hj2⟩:=List.getElem?_eq_some_iff.1 hjB
   rcases Nat.lt_or_gt_of_ne hne with h|h
   ·have:=List.pairwise_iff_getElem.1 hC i j hi1 hj1 h
    rwa [hi2,hj2] at this
   ·have:=List.pairwise_iff_getElem.1 hC j i hj1 hi1 h
    rw [hi2,hj2] at this
    exact z8.symm this
theorem Gs {is:List Nat} (h:decide is.Nodup=true):is.Nodup:=of_decide_eq_true h
theorem St.lH {S:BS} {w0 w:World} {C C':List aq} (is:List Nat) (hn:decide is.Nodup=true) (hC:Go.Proofs.YtcoejkiaokbmpaaGreatDoor.lH C is=C') (h:St S w0 C w):St S w0 C' w:=by
 subst hC
 exact h.sub (Hk h.sep (Gs hn)) (fun A hA=>Hl hA)
def kO (r:Nat):Deferred:={target:= .collected r,args:= #[]}
/-- what is asked where a function is left -/
def LJ (E:e9) (fn:Func) (R:Ending→World→Prop) (D:List Deferred) (L:List (Nat×Value)) (C:List aq):Prop:=
 ∀ a w,Fr E.n D L a→St E.S E.w0 C w→LeavesInM (Fw none) 0 E.P fn a.tmps R D .returning w
def GK (P:Program) (L:List (Nat×Value)) (C:List aq):List ResultVar→List Value→Prop
 |[],[]=>True
 | .tmp t::rs,v::vs=>L.lookup t=some v∧GK P L C rs vs
 | .cell a t::rs,v::vs=>(∃ A,L.lookup a=some (.pointer A)∧((∃ n us,tK P t=some (true,n)∧At C A us∧us.length=n∧v= .agg us.toArray)∨(∃ n,tK P t=some (false,n)∧At C A [v])))∧GK P L C rs vs
 |_,_=>False
def MB (vs:List Value):Value:=match vs with |[v]=>v|_=> .tuple vs.toArray
theorem vG {P:Program} {t n:Nat} {A:OA} {v:Value} {w:World} (ht:tK P t=some (false,n)) (h: ∃ ad,A=some ad∧ ∀ j u,[v][j]? =some u→w.cell? (ad.add j)=some u):(do loadVar t (← asAddr (.pointer A)):Sem Value).run P w= .ok v w:=by
 obtain ⟨ad,rfl,hc⟩:=h
 have h0:w.cell? ad=some v:=by simpa [Addr.add] using hc 0 v rfl
 simp [asAddr,loadVar,(qB ht w).1,h0]
theorem uS {P:Program} {t n:Nat} {A:OA} {us:List Value} {w:World} (ht:tK P t=some (true,n)) (hn:us.length=n) (h: ∃ ad,A=some ad∧ ∀ j u,us[j]? =some u→w.cell? (ad.add j)=some u):(do loadVar t (← asAddr (.pointer A)):Sem Value).run P w= .ok (.agg us.toArray) w:=by
 obtain ⟨ad,rfl,hc⟩:=h
 have hl:(loadCells ad n).run P w= .ok us.toArray w:=by rw [← hn]; exact run_loadCells_list w ad us hc
 simp [asAddr,loadVar,(oG ht w).1,(oG ht w).2,hl]
theorem GQ {P:Program} {L:List (Nat×Value)} {C:List aq} {tmps:Array Value} {w:World} (hL: ∀ t v,L.lookup t=some v→tmps[t]? =some v) (hw: ∀ A∈C,A.holds w): ∀ (rs:List ResultVar) (vs:List Value),GK P L C rs vs→
 (rs.mapM (fun
  | .tmp t=>pure (tmps.getD t undef)
  | .cell a t=>do loadVar t (← asAddr (tmps.getD a undef)):ResultVar→Sem Value)).run P w= .ok vs w:=by
 intro rs
 induction rs with
 |nil=>intro vs h; cases vs with |nil=>simp |cons v vs=>exact h.elim
 |cons r rs ih=>
  intro vs h
  cases vs with
  |nil=>cases r<;>exact h.elim
  |cons v vs=>
   cases r with
   |tmp t=>
    obtain ⟨h1,h2⟩:=h
    have hg:tmps.getD t undef=v:=by simp [hL t v h1]
    simp only [List.mapM_cons,Sem.run_bind,hg,Sem.run_pure,Result.andThen_ok,ih vs h2]
   |cell a t=>
    obtain ⟨⟨A,h1,h3⟩,h2⟩:=h
    have hg:tmps.getD a undef= .pointer A:=by simp [hL a _ h1]
    have hl:(do loadVar t (← asAddr (.pointer A)):Sem Value).run P w= .ok v w:=by
     rcases h3 with ⟨n,us,ht,hat,hn,rfl⟩|⟨n,ht,hat⟩
     ·exact uS ht hn (hat w hw)
     ·exact vG ht (hat w hw)
    rw [← hg] at hl
    simp only [List.mapM_cons]
    rw [Sem.run_bind,hl]
    simp only [Result.andThen_ok,Sem.run_bind,ih vs h2,Sem.run_pure]
theorem yA {P:Program} {fn:Func} {L:List (Nat×Value)} {C:List aq} {tmps:Array Value} {w:World} {vs:List Value} (hL: ∀ t v,L.lookup t=some v→tmps[t]? =some v) (hw: ∀ A∈C,A.holds w) (h:GK P L C fn.results.toList vs):(results fn tmps).run P w= .ok (MB vs) w:=by
 have h1:=GQ hL hw _ _ h
 unfold results
 rw [Array.mapM_eq_mapM_toList]
 generalize (fn.results.toList.mapM _:Sem (List Value))=m at h1 ⊢
 match vs with
 |[]=>simp [MB,h1]
 |[v]=>simp [MB,h1]
 |u::v::vs=>simp [MB,h1]
theorem aZ {E:e9} {fn:Func} {R:Ending→World→Prop} {L:List (Nat×Value)} {C:List aq} {vs:List Value} (h:GK E.P L C fn.results.toList vs) (hR: ∀ w,St E.S E.w0 C w→R (.returned (MB vs)) w):LJ E fn R [] L C:=
 fun a w hf hs=>⟨_,yA hf.at_ hs.holds h,hR w hs⟩
theorem iZ {w:World} {b:Nat} (o:Obj):dD (only b) w (w.putObj b o):=⟨rfl,rfl,rfl,by simp [World.putObj],fun k _ hn=>World.putObj_heap_other hn⟩
theorem oh {E:e9} {fn:Func} {R:Ending→World→Prop} {D:List Deferred} {L:List (Nat×Value)} {C C':List aq} {r:Nat} (i:Nat) (hC:C[i]? =some (kb r (.deferred (some [])))) (hC':C.set i (kb r (.deferred none))=C') (h:LJ E fn R D L C'):LJ E fn R (kO r::D) L C:=by
 intro a w hf hs
 have hb:w.heap[r]? =some (.deferred (some [])):=hs.holds _ (aw hC)
 refine ⟨sm,.inl ⟨r,_,rfl,run_takeDeferred hb,?_⟩⟩
 refine h {a with defers:=D} _ ⟨rfl,hf.size,hf.at_⟩ ?_
 rw [← hC']
 exact hs.zK i hC rfl rfl (iZ _) (fun _ h=>h) (World.putObj_heap_same (dW hb))
/-- the contract's end, out of the state -/
def Hz (w0:World) {α:Type} (V:α→Value) (p:α→Prop) (N:α→List aq) (e:Ending) (w':World):Prop:= ∃ x,e= .returned (V x)∧p x∧dD no w0 w'∧HC w0 w' (N x)
theorem ej {w0 w:World} {C:List aq} {α:Type} {V:α→Value} {p:α→Prop} {N:α→List aq} {v:Value} (x:α) (is:List Nat) (hV:v=V x) (hp:p x) (hn:decide is.Nodup=true) (hN:lH C is=N x) (hw:(N x).all (·.wr)=true) (hs:St wG w0 C w):Hz w0 V p N (.returned v) w:=by
 refine ⟨x,by rw [hV],hp,hs.keeps,?_⟩
 have h1:=St.lH is hn hN hs
 refine ⟨h1.holds,fun A hA b hb=>?_,h1.sep⟩
 rcases h1.own A hA b (A.whole (List.all_eq_true.1 hw A hA) b hb) with h|h
 ·exact h
 ·exact h.elim
def Dk (w0:World) (v:Value) (e:Ending) (w':World):Prop:=e= .returned v∧dD no w0 w'
theorem eM {w0 w:World} {C:List aq} {u v:Value} (h:u=v) (hs:St wG w0 C w):Dk w0 v (.returned u) w:=⟨by rw [h],hs.keeps⟩
def JV (args:List Value):List (Nat×Value):=(args.zipIdx 0).map fun p=>(p.2,p.1)
theorem vK: ∀ (args:List Value) (k t:Nat) (v:Value),((args.zipIdx k).map fun p=>(p.2,p.1)).lookup t=some v→k≤t∧args[t-k]? =some v:=by
 intro args
 induction args with
 |nil=>intro k t v h; simp at h
 |cons x xs ih=>
  intro k t v h
  simp only [List.zipIdx_cons,List.map_cons,List.lookup] at h
  by_cases e:t=k
  ·subst e; simp at h; subst h; simp
  ·have:(t==k)=false:=by simpa using e
   rw [this] at h
   obtain ⟨h1,h2⟩:=ih (k+1) t v h
   refine ⟨om,?_⟩
   rw [show t-k=(t-(k+1))+1 from by omega]
   simpa using h2
theorem rz {Cp:List aq} {w:World} (h: ∀ A∈Cp,A.holds w):St wG w (Cp.map aq.ro) w:=by
 refine ⟨dD.refl _ _,fun A hA=>?_,?_,fun A hA b hb=>?_,fun A hA b hb=> .inr trivial⟩
 ·obtain ⟨B,hB,rfl⟩:=List.mem_map.1 hA; exact h B hB
 ·refine List.pairwise_of_forall_mem_list fun A hA B hB b _ _=>?_
  obtain ⟨A',_,rfl⟩:=List.mem_map.1 hA
  obtain ⟨B',_,rfl⟩:=List.mem_map.1 hB
  exact ⟨fun h=>h,fun h=>h⟩
 ·obtain ⟨B,_,rfl⟩:=List.mem_map.1 hA; exact hb.elim
theorem I2 {P:Program} {f:FuncId} {fn:Func} {c:Code} {args:List Value} {Cp:List aq} {R:World→Ending→World→Prop} (hf:P.funcs[f]? =some fn) (hb:fn.body=some c) (hn:Nat.ble args.length fn.ntmps=true)
 (h: ∀ (w0:World) (Q:dj),(∀ D L C,LJ ⟨P,none,fn.ntmps,wG,w0⟩ fn (R w0) D L C→KJ ⟨P,none,fn.ntmps,wG,w0⟩ (Q .ret) D L C)→(∀ D L C,LJ ⟨P,none,fn.ntmps,wG,w0⟩ fn (R w0) D L C→KJ ⟨P,none,fn.ntmps,wG,w0⟩ (Q .normal) D L C)→
  WJ ⟨P,none,fn.ntmps,wG,w0⟩ c Q [] (JV args) (Cp.map aq.ro)) (w:World) (hw: ∀ A∈Cp,A.holds w):Calls P f args.toArray w (R w):=by
 refine tJ (callsIn_of_wp_marks hf hb trivial ?_ rfl)
 have hle:=Nat.le_of_ble_eq_true hn
 refine h w (bodyPostM (Fw none) 0 P fn (R w)) ?_ ?_ _ w ⟨rfl,by simp; omega,fun t v hv=>?_⟩ (rz hw)
 ·intro D L C hl a w' hf' hs'
  have:=hl a w' hf' hs'
  show LeavesInM (Fw none) 0 P fn a.tmps (R w) a.defers .returning w'
  rw [hf'.defers]; exact this
 ·intro D L C hl a w' hf' hs'
  have:=hl a w' hf' hs'
  show LeavesInM (Fw none) 0 P fn a.tmps (R w) a.defers .returning w'
  rw [hf'.defers]; exact this
 ·obtain ⟨_,h2⟩:=vK args 0 t v hv
  have ht:t<args.length:=by
   have:=(List.getElem?_eq_some_iff.1 h2).1; omega
  simp only [Nat.sub_zero] at h2
  rw [Array.getElem?_append_left (by simpa using ht)]
  simpa using h2
theorem bu {P:Program} {f:FuncId} {fn:Func} {c:Code} {args:List Value} {Cp:List aq} {v:Value} (hgo:rW P f=true) (hf:P.funcs[f]? =some fn) (hb:fn.body=some c) (hn:Nat.ble args.length fn.ntmps=true)
 (h: ∀ (w0:World) (Q:dj),(∀ D L C,LJ ⟨P,none,fn.ntmps,wG,w0⟩ fn (Dk w0 v) D L C→KJ ⟨P,none,fn.ntmps,wG,w0⟩ (Q .ret) D L C)→(∀ D L C,LJ ⟨P,none,fn.ntmps,wG,w0⟩ fn (Dk w0 v) D L C→KJ ⟨P,none,fn.ntmps,wG,w0⟩ (Q .normal) D L C)→
  WJ ⟨P,none,fn.ntmps,wG,w0⟩ c Q [] (JV args) (Cp.map aq.ro)):eu P f args Cp v:=⟨hgo,fun w hw=>I2 (R:=fun w0=>Dk w0 v) hf hb hn h w hw⟩
theorem ff {P:Program} {f:FuncId} {fn:Func} {c:Code} {args:List Value} {Cp:List aq} {α:Type} {V:α→Value} {p:α→Prop} {N:α→List aq} (hgo:rW P f=true) (hf:P.funcs[f]? =some fn) (hb:fn.body=some c) (hn:Nat.ble args.length fn.ntmps=true)
 (h: ∀ (w0:World) (Q:dj),(∀ D L C,LJ ⟨P,none,fn.ntmps,wG,w0⟩ fn (Hz w0 V p N) D L C→KJ ⟨P,none,fn.ntmps,wG,w0⟩ (Q .ret) D L C)→(∀ D L C,LJ ⟨P,none,fn.ntmps,wG,w0⟩ fn (Hz w0 V p N) D L C→KJ ⟨P,none,fn.ntmps,wG,w0⟩ (Q .normal) D L C)→
  WJ ⟨P,none,fn.ntmps,wG,w0⟩ c Q [] (JV args) (Cp.map aq.ro)):oY P f args Cp V p N:=⟨hgo,fun w hw=>I2 (R:=fun w0=>Hz w0 V p N) hf hb hn h w hw⟩
end
section
open Go.RowKit
/-- a slice of one's own, that may be appended to -/
def own (a:OA) (c:Nat) (e sz:Nat) (es:List (List Value)):aq where
 eX b:= ∃ ad,a=some ad∧b=ad.block
 wf b:= ∃ ad,a=some ad∧b=ad.block
 holds w:=(∀ x∈es,x.length=sz)∧w.ownsRow 0 e sz (.slice a es.length c) es.length es.flatten
 wr:=true
 j3 _ h:=h
 whole _ _ h:=h
 lt w h b hb:=by
  obtain ⟨ad,rfl,rfl⟩:=hb
  exact (h.2.lt ad.block rfl).2
 lh w w' hk h:=by
  refine ⟨h.1,h.2.1,?_⟩
  rcases h.2.2 with h1|⟨g,cap,cur,hv,h2,h3,h4⟩
  ·exact .inl h1
  ·refine .inr ⟨g,cap,cur,hv,h2,?_,h4⟩
   injection hv with hv
   subst hv
   rw [hk g ⟨_,rfl,rfl⟩]; exact h3
theorem qq {w:World} {a:OA} {c e sz:Nat} {es:List (List Value)} (h:(own a c e sz es).holds w):(rd a es.length sz es).holds w:=by
 obtain ⟨hl,hlen,h2⟩:=h
 rcases h2 with ⟨h1,h0⟩|⟨g,cap,cur,hv,_,h3,h4,h5,h6,h7⟩
 ·exact ⟨rfl,hl,fun hn=>by simp [h0] at hn⟩
 ·injection hv with hv
  subst hv
  refine sE (cs:=cur.toList) (t:=e) ?_ rfl hl ⟨cur.toList.drop (es.length*sz),?_⟩
  ·show w.heap[g]? =_
   rw [h3]
  ·rw [← h7]; exact List.take_append_drop _ _
theorem H_ {C:List aq} {a:OA} {c e sz:Nat} {es:List (List Value)} (i:Nat) (hC:C[i]? =some (own a c e sz es)):ji C (rd a es.length sz es).holds:=fun w hw=>qq (aA i hC w hw)
theorem rq (w:World) (e sz:Nat):(own none 0 e sz []).holds w:=⟨sm,sm,.inl ⟨rfl,rfl⟩⟩
theorem St.rq {S:BS} {w0 w:World} {C:List aq} (h:St S w0 C w) (e sz:Nat):St S w0 (Go.Proofs.YtcoejkiaokbmpaaGreatDoor.own none 0 e sz []::C) w:=by
 refine ⟨h.keeps,fun A hA=>?_,List.Pairwise.cons (fun B _ b hb=>?_) h.sep,fun A hA b hb=>?_,fun A hA b hb=>?_⟩
 ·rcases List.mem_cons.1 hA with rfl|hA
  ·exact Go.Proofs.YtcoejkiaokbmpaaGreatDoor.rq w e sz
  ·exact h.holds A hA
 ·obtain ⟨ad,h1,_⟩:=hb; cases h1
 ·rcases List.mem_cons.1 hA with rfl|hA
  ·obtain ⟨ad,h1,_⟩:=hb; cases h1
  ·exact h.own A hA b hb
 ·rcases List.mem_cons.1 hA with rfl|hA
  ·obtain ⟨ad,h1,_⟩:=hb; cases h1
  ·exact h.seen A hA b hb
theorem kY {E:e9} {ops:Array Oper} {Q:dj} {rest:List Oper} {D:List Deferred} {L:List (Nat×Value)} {C:List aq} (e sz:Nat) (k:RJ E ops Q rest D L (own none 0 e sz []::C)):RJ E ops Q rest D L C:=fun a w hf hs=>k a w hf (hs.rq e sz)
theorem fI {E:e9} {c:Code} {Q:dj} {D:List Deferred} {L:List (Nat×Value)} {C:List aq} (e sz:Nat) (k:WJ E c Q D L (own none 0 e sz []::C)):WJ E c Q D L C:=fun a w hf hs=>k a w hf (hs.rq e sz)
theorem Cy {w:World} {g e:Nat} {cs:List Value} {sz:Nat} {es:List (List Value)} (h:(br g e cs).holds w) (h2: ∀ x∈es,x.length=sz) (h3:es.flatten=cs) (hm:es.length≤maxLen):(own (some ⟨g,0,none⟩) es.length e sz es).holds w:=by
 have hl:es.flatten.length=es.length*sz:=by
  clear h3 hm
  induction es with
  |nil=>simp
  |cons x xs ih=>
   simp only [List.flatten_cons,List.length_append,List.length_cons]
   rw [ih (fun y hy=>h2 y (by simp [hy])),h2 x sm,Nat.succ_mul,Nat.add_comm]
 refine ⟨h2,hl,.inr ⟨g,es.length,cs.toArray,rfl,Nat.zero_le _,h,Nat.le_refl _,hm,by simp [← h3,hl],?_⟩⟩
 show List.take (es.length*sz) cs=es.flatten
 rw [← h3,← hl]
 exact List.take_length
theorem wx {E:e9} {ops:Array Oper} {Q:dj} {rest:List Oper} {D:List Deferred} {L:List (Nat×Value)} {C C':List aq} {g e:Nat} {cs:List Value} {sz:Nat} {es:List (List Value)} (i:Nat) (hC:C[i]? =some (br g e cs)) (h2: ∀ x∈es,x.length=sz) (h3:es.flatten=cs) (hm:es.length≤maxLen)
 (hC':C.set i (own (some ⟨g,0,none⟩) es.length e sz es)=C') (k:RJ E ops Q rest D L C'):RJ E ops Q rest D L C:=fun a w hf hs=>by
 refine k a w hf ?_
 rw [← hC']
 refine hs.zK i hC rfl rfl (dD.refl _ _) (fun x hx=>?_) (Cy (hs.holds _ (aw hC)) h2 h3 hm)
 obtain ⟨ad,h1,h2⟩:=hx
 cases h1; exact h2
/-- one assertion's block has turned, or has gone to a new one -/
theorem St.move {S:BS} {w0 w w':World} {C:List aq} {A A':aq} {row:Option Nat} (i:Nat) (h:St S w0 C w) (hC:C[i]? =some A) (hA: ∀ b,row=some b→A.eX b) (hw:A.wr=true) (hk:w.grownBy w' row) (hA': ∀ x,A'.eX x→row=some x∨w.heap.size≤x) (hb:A'.holds w'):St S w0 (C.set i A') w':=by
 have hi:i<C.length:=(List.getElem?_eq_some_iff.1 hC).1
 have hget:C[i]=A:=(List.getElem?_eq_some_iff.1 hC).2
 have hmem:A∈C:=aw hC
 have hsep: ∀ j (hj:j<C.length),j≠i→ ∀ x,(C[j]).eX x→ ¬ A.eX x:=by
  intro j hj hne x hx he
  rcases Nat.lt_or_gt_of_ne hne with hlt|hlt
  ·have:=List.pairwise_iff_getElem.1 h.sep j i hj hi hlt
   rw [hget] at this
   exact (this x hx he).2 (A.whole hw x he)
  ·have:=List.pairwise_iff_getElem.1 h.sep i j hi hj hlt
   rw [hget] at this
   exact (this x he hx).1 (A.whole hw x he)
 have hnew: ∀ j (hj:j<C.length),j≠i→ ∀ x,(C[j]).eX x→ ¬ A'.eX x:=by
  intro j hj hne x hx he
  rcases hA' x he with h1|h1
  ·exact hsep j hj hne x hx (hA x h1)
  ·have:=(C[j]).lt w (h.holds _ (List.getElem_mem hj)) x hx
   omega
 refine ⟨?_,?_,?_,?_,?_⟩
 ·refine ⟨hk.os.trans h.keeps.os,hk.tape.trans h.keeps.tape,hk.output.trans h.keeps.output,Nat.le_trans h.keeps.size hk.size,fun k hkk hn=>?_⟩
  refine (hk.block k (Nat.lt_of_lt_of_le hkk h.keeps.size) (fun e=>?_)).trans (h.keeps.block k hkk hn)
  rcases h.own A hmem k (A.whole hw k (hA k e.symm)) with h1|h1
  ·omega
  ·exact hn h1
 ·intro B hB
  obtain ⟨j,hj,hjB⟩:=List.mem_iff_getElem.1 hB
  rw [List.getElem_set] at hjB
  split at hjB
  ·subst hjB; exact hb
  ·rename_i hne
   subst hjB
   have hj':j<C.length:=by simpa using hj
   have hm:C[j]∈C:=List.getElem_mem hj'
   refine (C[j]).lh w w' (fun x hx=>hk.block x ((C[j]).lt w (h.holds _ hm) x hx) (fun e=>?_)) (h.holds _ hm)
   exact hsep j hj' (Ne.symm hne) x hx (hA x e.symm)
 ·rw [m6]
  intro p q hp hq hpq
  have hp':p<C.length:=by simpa using hp
  have hq':q<C.length:=by simpa using hq
  have hs:=List.pairwise_iff_getElem.1 h.sep p q hp' hq' hpq
  rw [List.getElem_set,List.getElem_set]
  split
  ·rename_i e1; subst e1
   rw [if_neg om]
   exact fun x hx hx'=>absurd hx (hnew q hq' om x hx')
  ·split
   ·rename_i e1; subst e1
    exact fun x hx hx'=>absurd hx' (hnew p hp' om x hx)
   ·exact hs
 ·intro B hB x hx
  obtain ⟨j,hj,hjB⟩:=List.mem_iff_getElem.1 hB
  rw [List.getElem_set] at hjB
  split at hjB
  ·subst hjB
   rcases hA' x (A'.j3 x hx) with h1|h1
   ·exact h.own A hmem x (A.whole hw x (hA x h1))
   ·exact .inl (Nat.le_trans h.keeps.size h1)
  ·subst hjB
   exact h.own _ (List.getElem_mem _) x hx
 ·intro B hB x hx
  obtain ⟨j,hj,hjB⟩:=List.mem_iff_getElem.1 hB
  rw [List.getElem_set] at hjB
  split at hjB
  ·subst hjB
   rcases hA' x hx with h1|h1
   ·exact h.seen A hmem x (hA x h1)
   ·exact .inl (Nat.le_trans h.keeps.size h1)
  ·subst hjB
   exact h.seen _ (List.getElem_mem _) x hx
def tA (P:Program) (t:TypeId):Option (TypeId×Nat×Nat×Value):=
 match P.underlying t with
 |some (.slice e)=>match P.info? e with
  |some i=>match i.zero with
   |some z=>if z.cells.size=i.size then some (e,i.size,i.bytes,z) else none
   |none=>none
  |none=>none
 |_=>none
theorem Bt {P:Program} {t e sz by_:Nat} {z:Value} (h:tA P t=some (e,sz,by_,z)): ∃ i,P.underlying t=some (.slice e)∧P.info? e=some i∧i.zero=some z∧i.size=sz∧i.bytes=by_∧z.cells.size=sz:=by
 unfold tA at h
 cases hu:P.underlying t with
 |none=>simp [hu] at h
 |some d=>
  cases d<;>simp [hu] at h
  rename_i e'
  cases hi:P.info? e' with
  |none=>simp [hi] at h
  |some i=>
   cases hz:i.zero with
   |none=>simp [hi,hz] at h
   |some z'=>
    simp only [hi,hz] at h
    split at h
    ·simp only [Option.some.injEq,Prod.mk.injEq] at h
     obtain ⟨rfl,rfl,rfl,rfl⟩:=h
     exact ⟨i,rfl,hi,hz,rfl,rfl,asm⟩
    ·cases h
theorem wa {P:Program} (w:World) (t ty e:TypeId) (i:TypeInfo) (size:Nat) (ht:P.underlying t=some (.slice e)) (hi:P.info? e=some i)
 (v:Value) (n:Nat) (xs:List Value) (hown:w.ownsRow 0 e size v n xs) (c:Nat):(Builtin.append_ #[t,t] ty #[v,.slice none 0 c]).run P w= .ok v w:=by
 rcases hown.2 with ⟨rfl,rfl⟩|⟨g,cap,cur,rfl,_,_,hnc,_⟩
 ·simp [Builtin.append_,run_underlying ht,sizeOf,typeInfo,hi,Builtin.lenOf,Builtin.firstCells]
 ·simp [Builtin.append_,run_underlying ht,sizeOf,typeInfo,hi,Builtin.lenOf,Builtin.firstCells,hnc,storeCells]
theorem Hg {w:World} {ad:Addr} {sz:Nat}: ∀ (es:List (List Value)) (k:Nat),(∀ e∈es,e.length=sz)→(∀ i e j v,es[i]? =some e→e[j]? =some v→w.cell? (ad.add ((k+i)*sz+j))=some v)→ ∀ j v,es.flatten[j]? =some v→w.cell? (ad.add (k*sz+j))=some v:=by
 intro es
 induction es with
 |nil=>intro k _ _ j v hj; simp at hj
 |cons x xs ih=>
  intro k hl h j v hj
  have hx:=hl x sm
  simp only [List.flatten_cons] at hj
  rcases Nat.lt_or_ge j x.length with hlt|hge
  ·rw [List.getElem?_append_left hlt] at hj
   exact h 0 x j v sm hj
  ·rw [List.getElem?_append_right hge] at hj
   have:=ih (k+1) (fun e he=>hl e (by simp [he])) (fun i e j v hi hj=>by
    have:=h (i+1) e j v (by simpa using hi) hj
    rwa [show k+1+i=k+(i+1) from by omega]) (j-x.length) v hj
   rw [Nat.succ_mul] at this
   rwa [show k*sz+sz+(j-x.length)=k*sz+j from by omega] at this
section
variable {E:e9} {ops:Array Oper} {Q:dj} {rest:List Oper} {D:List Deferred} {L:List (Nat×Value)} {C:List aq}
variable {d:Nat} {ty:TypeId} {ps:String} {af:Array Edge} {g:Option (Nat×Bool)}
theorem ik {sz:Nat}: ∀ {es:List (List Value)},(∀ x∈es,x.length=sz)→es.flatten.length=es.length*sz:=by
 intro es
 induction es with
 |nil=>intro _; simp
 |cons x xs ih=>
  intro h
  simp only [List.flatten_cons,List.length_append,List.length_cons]
  rw [ih (fun y hy=>h y (by simp [hy])),h x sm,Nat.succ_mul,Nat.add_comm]
theorem er {s x:Operand} {t e sz by_ n m m' c c':Nat} {z:Value} {a A:OA} {es es' es2:List (List Value)} (i:Nat) (hg:ju ops L g=true) (hs:ev L s=some (.slice a n c)) (hx:ev L x=some (.slice A m c')) (ht:tA E.P t=some (e,sz,by_,z)) (hsz:Nat.blt 0 sz=true)
 (hC:C[i]? =some (own a c e sz es)) (hn:n=es.length) (hR:ji C (rd A m sz es').holds) (h1: ∀ v∈es'.flatten,v.oneCell'=true) (hb:(n+m)*by_≤140737488355328) (hb2:n+m≤maxLen) (hes:es++es'=es2) (hm':es2.length=m') (hd:Nat.blt d E.n=true)
 (k: ∀ (a':OA) (c2:Nat),RJ E ops Q rest D ((d,.slice a' m' c2)::L) (C.set i (own a' c2 e sz es2))):
 RJ E ops Q (⟨some d,.call {callee:= .builtin .append,args:= #[s,x],argTypes:= #[t,t]},ty,ps,af,g⟩::rest) D L C:=by
 intro act w hfr hst
 have hd':d<E.n:=by rw [← Nat.blt_eq]; exact hd
 have hsz':0<sz:=by rw [← Nat.blt_eq]; exact hsz
 obtain ⟨inf,hu,hi,hz,h3,h4,h5⟩:=Bt ht
 unfold qf
 rw [if_pos (dH hfr hg)]
 subst hn hes hm'
 obtain ⟨hl1,hown⟩:(own a c e sz es).holds w:=hst.holds _ (aw hC)
 obtain ⟨hr1,hr2,hr3⟩:=hst.has hR
 have hl2: ∀ x∈es++es',x.length=sz:=fun x hx=>by
  rcases List.mem_append.1 hx with h|h
  ·exact hl1 x h
  ·exact hr2 x h
 have main: ∃ v' w',(Builtin.append_ #[t,t] ty #[.slice a es.length c,.slice A m c']).run E.P w= .ok v' w'∧w'.ownsRow 0 e sz v' (es.length+m) (es.flatten++es'.flatten)∧w.grownBy w' (vS a es.length c).ownBlock∧(v'.ownBlock=(vS a es.length c).ownBlock∨v'.ownBlock=some w.heap.size):=by
  by_cases h0:m=0
  ·subst h0
   have he:es'=[]:=fX hr1
   subst he
   cases A with
   |none=>exact ⟨_,w,wa w t ty e inf sz hu hi _ _ _ hown c',by simpa using hown,World.grownBy.refl w _,.inl rfl⟩
   |some ad=>
    obtain ⟨v',w',q1,q2,q3,_,q5⟩:=run_append_own_at (P:=E.P) w 0 t ty e inf z sz by_ hu hi hz h3 h4 h5 hsz' _ _ _ hown ad 0 c' [] sm sm sm hb2 hb (Nat.zero_le _)
    exact ⟨v',w',q1,by simpa using q2,q3,q5⟩
  ·obtain ⟨ad,hA,hc⟩:=hr3 (Nat.mul_pos om hsz')
   subst hA
   obtain ⟨v',w',q1,q2,q3,_,q5⟩:=run_append_own_at (P:=E.P) w 0 t ty e inf z sz by_ hu hi hz h3 h4 h5 hsz' _ _ _ hown ad m c' es'.flatten (by rw [ik hr2,hr1])
    (fun j v hj=>by have:=Hg (w:=w) (ad:=ad) es' 0 hr2 (fun i e j v hi hj=>by simpa using hc i e j v hi hj) j v hj; simpa using this) h1 hb2 hb (Nat.zero_le _)
   exact ⟨v',w',q1,q2,q3,q5⟩
 obtain ⟨v',w',q1,q2,q3,q5⟩:=main
 have hform: ∃ a' c2,v'= .slice a' (es++es').length c2:=by
  rcases q2.2 with ⟨rfl,h0⟩|⟨gg,cap,cur,rfl,_⟩
  ·exact ⟨none,0,by rw [List.length_append,hr1,h0]⟩
  ·exact ⟨_,cap,by rw [List.length_append,hr1]⟩
 obtain ⟨a',c2,rfl⟩:=hform
 refine gz sm (w':=w') (v:= .slice a' (es++es').length c2) ?_ ?_
 ·simp [execOp,resolve,invoke,builtin,hfr.ev hs,hfr.ev hx,q1]
 ·refine k a' c2 _ _ (hfr.put hd' _) ?_
  refine hst.move i hC (row:=(vS a es.length c).ownBlock) (fun b hb=>?_) rfl q3 (fun y hy=>?_) ?_
  ·cases a with
   |none=>simp [Value.ownBlock] at hb
   |some ad=>exact ⟨ad,rfl,by simpa [Value.ownBlock] using hb.symm⟩
  ·obtain ⟨ad,rfl,rfl⟩:=hy
   rcases q5 with h|h
   ·left; rw [← h]; rfl
   ·right; simp [Value.ownBlock] at h; omega
  ·refine ⟨hl2,?_⟩
   rw [List.flatten_append]
   rw [show (es++es').length=es.length+m from by rw [List.length_append,hr1]] at q2 ⊢
   exact q2
end
end
section
structure bB where
 a:OA
 n:Nat
 c:Nat
 deriving DecidableEq
def iC (x:Int):List Value:=[.int .i64 x]
@[simp] theorem bT (x:Int):(iC x).length=1:=rfl
def JE (x:Int):List Value:=[.int .u32 x]
@[simp] theorem GX (x:Int):(JE x).length=1:=rfl
def Gl (x:Int):List Value:=[.int .u8 x]
@[simp] theorem Ht (x:Int):(Gl x).length=1:=rfl
theorem tp {n:Int} (h:0≤n∧n≤255):IntKind.i64.wrap n=n:=ni ⟨om,om⟩
theorem Km {a b A B:Int} (h1:0≤a) (h2:a≤A) (h3:0≤b) (h4:b≤B):0≤a*b∧a*b≤A*B:=
 ⟨Int.mul_nonneg h1 h3,Int.mul_le_mul h2 h4 h3 (Int.le_trans h1 h2)⟩
theorem rv {α:Type} {f:α→List Value} (h: ∀ s,(f s).all Value.oneCell'=true) (l:List α): ∀ v∈(l.map f).flatten,v.oneCell'=true:=fun v hv=>by
 obtain ⟨x,hx,hvx⟩:=List.mem_flatten.1 hv
 obtain ⟨s,_,rfl⟩:=List.mem_map.1 hx
 exact List.all_eq_true.1 (h s) v hvx
theorem kK (l:List Int): ∀ v∈(l.map iC).flatten,v.oneCell'=true:=rv (fun _=>rfl) l
theorem Dd {P:Program} {t:TypeId} (x y:Operand) {xs ys:List Value} {b:Bool} (hm:P.eqGuardType P.depth t=false) (h: ∀ w,(Op.equalIn 10000 t (.agg xs.toArray) (.agg ys.toArray)).run P w= .ok b w):g_ P .eql t x y (.agg xs.toArray) (.agg ys.toArray) (.bool b):=fun w=>by
 rw [Sem.run_bind,run_eqGuard_agg w _ _ _ _ _ _ hm]
 simp only [Result.andThen_ok]
 rw [run_eql_struct,h w]; rfl
theorem D7 {P:Program} {t:TypeId} (x y:Operand) {xs ys:List Value} {b:Bool} (hm:P.eqGuardType P.depth t=false) (h: ∀ w,(Op.equalIn 10000 t (.agg xs.toArray) (.agg ys.toArray)).run P w= .ok b w):g_ P .neq t x y (.agg xs.toArray) (.agg ys.toArray) (.bool (!b)):=fun w=>by
 rw [Sem.run_bind,run_eqGuard_agg w _ _ _ _ _ _ hm]
 simp only [Result.andThen_ok]
 rw [run_neq_struct,h w]; rfl
theorem Gt {P:Program} {t n off:Nat} {xs vs:List Value} (ht:tK P t=some (true,n)) (hv:(xs.drop off).take n=vs) (w:World):(part t xs.toArray off).run P w= .ok (.agg vs.toArray) w:=by
 simp [part,(oG ht w).1,(oG ht w).2]
 exact hv
theorem jH {P:Program} {t n off:Nat} {xs:List Value} {v:Value} (ht:tK P t=some (false,n)) (hv:xs[off]? =some v) (w:World):(part t xs.toArray off).run P w= .ok v w:=by
 simp [part,(qB ht w).1,hv]
/-- a struct's fields: of what type, where; none is blank -/
def fL (P:Program) (t:TypeId):Option (List (Nat×Nat)):=
 match P.underlying t with
 |some (.struct fs)=>if fs.toList.all (fun f=>f.name != "_")&& !P.stoodInHeld t&& !P.eqGuardType P.depth t then some (fs.toList.map fun f=>(f.type,f.offset)) else none
 |_=>none
def G0 (d:Nat) (xs ys:Array Value):List (Nat×Nat)→Sem Bool
 |[]=>pure true
 |(t,o)::fs=>do
  let a ← part t xs o
  let b ← part t ys o
  let r ← Op.equalIn d t a b
  if (!r)=true then pure false else G0 d xs ys fs
theorem Jb {P:Program} {d:Nat} {xs ys:Array Value}: ∀ (fs:List Field) (w:World),fs.all (fun f=>f.name != "_")=true→(Op.eqFields d xs ys fs).run P w=(G0 d xs ys (fs.map fun f=>(f.type,f.offset))).run P w:=by
 intro fs
 induction fs with
 |nil=>intro w _; simp [Op.eqFields,G0]
 |cons f fs ih=>
  intro w h
  simp only [cg,cS,bne_iff_ne,ne_eq] at h
  simp only [Op.eqFields,G0,List.map_cons,ne_eq,h.1,not_false_eq_true,if_true,Sem.run_bind]
  generalize (part f.type xs f.offset).run P w=r1
  cases r1 with
  |halt x w1=>rfl
  |ok a w1=>
   simp only [Result.andThen_ok]
   generalize (part f.type ys f.offset).run P w1=r2
   cases r2 with
   |halt x w2=>rfl
   |ok b w2=>
    simp only [Result.andThen_ok]
    generalize (Op.equalIn d f.type a b).run P w2=r3
    cases r3 with
    |halt x w3=>rfl
    |ok r w3=>cases r<;>simp [ih _ h.2]
/-- one field more -/
theorem rh {P:Program} {d t o:Nat} {xs ys:Array Value} {fs:List (Nat×Nat)} {a b:Value} {p q:Bool} (w:World) (ha:(part t xs o).run P w= .ok a w) (hb:(part t ys o).run P w= .ok b w)
 (he:(Op.equalIn d t a b).run P w= .ok p w) (hr:(G0 d xs ys fs).run P w= .ok q w):(G0 d xs ys ((t,o)::fs)).run P w= .ok (p&&q) w:=by
 simp only [G0,Sem.run_bind,ha,hb,he,Result.andThen_ok]
 cases p<;>simp [hr]
theorem BU {P:Program} {d:Nat} {xs ys:Array Value} (w:World):(G0 d xs ys []).run P w= .ok true w:=by simp [G0]
theorem ui {P:Program} {t:TypeId} {k:IntKind} (d:Nat) {a b:Int} (h:P.underlying t=some (.int k)) (w:World):(Op.equalIn (d+1) t (.int k a) (.int k b)).run P w= .ok (decide (a=b)) w:=by
 rw [run_equalIn_int w d t k k a b h,xC]
theorem vN {P:Program} {t:TypeId} {l:List (Nat×Nat)} (d:Nat) {xs ys:List Value} {b:Bool} (hl:fL P t=some l) (w:World) (h:(G0 d xs.toArray ys.toArray l).run P w= .ok b w):(Op.equalIn (d+1) t (.agg xs.toArray) (.agg ys.toArray)).run P w= .ok b w:=by
 unfold fL at hl
 cases hu:P.underlying t with
 |none=>simp [hu] at hl
 |some dd=>
  cases dd<;>simp only [hu] at hl<;>try (cases hl; done)
  rename_i fs
  split at hl
  ·rename_i hc
   simp only [cS,Bool.not_eq_true'] at hc
   cases hl
   have hf:P.fieldsOf t=fs:=by simp [Program.fieldsOf,hu]
   rw [run_equalIn_struct w d t _ _ (by rw [hf]; exact hu) hc.1.2,hf,Jb _ _ hc.1.1]
   exact h
  ·cases hl
theorem yO {P:Program} {t:TypeId} {l:List (Nat×Nat)} (hl:fL P t=some l):P.eqGuardType P.depth t=false:=by
 unfold fL at hl
 cases hu:P.underlying t with
 |none=>simp [hu] at hl
 |some dd=>
  cases dd<;>simp only [hu] at hl<;>try (cases hl; done)
  split at hl
  ·rename_i hc
   simp only [cS,Bool.not_eq_true'] at hc
   exact hc.2
  ·cases hl
end
section
open Go.RowKit Go.ChangeShapes Go.WideShapes
set_option maxRecDepth 100000
/-- the table of kinds, as it is laid -/
abbrev fQ:List (List Value):=[[.func (.func 196) #[] #[],.func (.func 197) #[] #[]],[.func (.func 199) #[] #[],.func (.func 200) #[] #[]],[.func (.func 201) #[] #[],.func (.func 202) #[] #[]]]
/-- the place of the table -/
abbrev g0:OA:=some ⟨0,0,none⟩
theorem HZ:Tryz.prog.globalNamed "kreisel/race.table"=some 0:=by kernel_rfl
theorem He:(Tryz.prog.globals[0]?).map (·.type)=some 158:=by kernel_rfl
theorem EH:Tryz.prog.underlying 158=some (.array 3 157):=by kernel_rfl
theorem DG:fL Tryz.prog 157=some [(155,0),(130,1)]:=by kernel_rfl
theorem yP:Tryz.prog.cellsOf 157=2:=by kernel_rfl
theorem GC:Tryz.prog.cellsOf 155=1:=by kernel_rfl
theorem Fs:Tryz.prog.cellsOf 130=1:=by kernel_rfl
theorem F0:Tryz.prog.cellsOf 158=6:=by kernel_rfl
theorem z4 (t:Nat) (h:(match Tryz.prog.underlying t with |some (.func _ _ _)=>true|_=>false)=true): ∃ ps rs va,Tryz.prog.underlying t=some (.func ps rs va):=by
 split at h
 ·exact ⟨_,_,_,asm⟩
 ·cases h
theorem ot {w:World} {sp:Nat→Bool} {n:Nat} {cs:List Value} {a b:DataW (List UInt8)} {q:List MemPlace} (h:DataW.trod (funcToken Tryz.prog) Tryz.prog w 0 sp true n 157 cs=some (.agg [a,b],q)):
 ∃ v0 v1 n0 q0 q1,cs=[v0,v1]∧DataW.trod (funcToken Tryz.prog) Tryz.prog w 0 sp true n0 155 [v0]=some (a,q0)∧DataW.trod (funcToken Tryz.prog) Tryz.prog w 0 sp true n0 130 [v1]=some (b,q1):=by
 have hl:=DG
 unfold fL at hl
 cases hu:Tryz.prog.underlying 157 with
 |none=>simp [hu] at hl
 |some d=>
  cases d<;>simp [hu] at hl
  rename_i fs
  have hl2:=hl.2
  obtain ⟨xs,m,_,hx,hlen,hsz,hf⟩:=DataW.trod_struct hu h
  obtain ⟨fl⟩:=fs
  match fl,hl2 with
  |[f0,f1],hl2=>
   simp at hl2
   obtain ⟨⟨e1,e2⟩,e3,e4⟩:=hl2
   match xs,hsz with
   |[y0,y1],_=>
    simp at hx
    obtain ⟨⟨rfl,rfl⟩,-⟩:=hx
    rw [yP] at hlen
    match cs,hlen with
    |[v0,v1],_=>
     have h0:=hf 0 f0 rfl
     have h1:=hf 1 f1 rfl
     rw [e1,e2,GC] at h0
     rw [e3,e4,Fs] at h1
     exact ⟨v0,v1,m,y0.2,y1.2,rfl,by simpa using h0,by simpa using h1⟩
/-- what the row's condition gives -/
theorem wm {w:World} (h:laidMetH Tryz.prog [("kreisel/race.table",Rows.laid_kreisel_race_table)] w):(rd g0 3 2 fQ).holds w:=by
 obtain ⟨g,t,cs,fuel,p,hg,ht,hv,hd⟩:=h.funcs (List.mem_singleton.2 rfl)
 obtain rfl:=Option.some.inj (HZ.symm.trans hg)
 obtain rfl:=Option.some.inj (He.symm.trans ht)
 have hd':DataW.trod (funcToken Tryz.prog) Tryz.prog w 0 (fun _=>true) true fuel 158 cs.toList=some (.agg [.agg [.held [107,114,101,105,115,101,108,47,114,97,99,101,46,116,97,98,108,101,36,49],.held [107,114,101,105,115,101,108,47,114,97,99,101,46,116,97,98,108,101,36,50]],.agg [.held [107,114,101,105,115,101,108,47,114,97,99,101,46,116,97,98,108,101,36,51],.held [107,114,101,105,115,101,108,47,114,97,99,101,46,116,97,98,108,101,36,52]],.agg [.held [107,114,101,105,115,101,108,47,114,97,99,101,46,116,97,98,108,101,36,53],.held [107,114,101,105,115,101,108,47,114,97,99,101,46,116,97,98,108,101,36,54]]],p):=hd
 obtain ⟨xs,m,_,hx,hlen,hsz,hel⟩:=DataW.trod_array EH hd'
 rw [F0] at hlen
 obtain ⟨cl⟩:=cs
 match xs,hsz with
 |[(y0,z0),(y1,z1),(y2,z2)],_=>
  simp only [List.map_cons,List.map_nil,Prod.mk.injEq,DataW.agg.injEq,List.cons.injEq] at hx
  obtain ⟨⟨e0,e1,e2,_⟩,_⟩:=hx
  subst e0 e1 e2
  match cl,hlen with
  |[a0,a1,a2,a3,a4,a5],_=>
   have h0:=hel 0 dc
   have h1:=hel 1 dc
   have h2:=hel 2 dc
   rw [yP] at h0 h1 h2
   obtain ⟨v0,v1,n0,q0,q1,hc0,k0,k1⟩:=ot h0
   obtain ⟨v2,v3,n1,q2,q3,hc1,k2,k3⟩:=ot h1
   obtain ⟨v4,v5,n2,q4,q5,hc2,k4,k5⟩:=ot h2
   simp at hc0 hc1 hc2
   obtain ⟨ps,rs,va,u1⟩:=z4 155 kr
   obtain ⟨ps',rs',va',u2⟩:=z4 130 kr
   have f0:=func_of_trod (f0:=196) u1 kr k0
   have f1:=func_of_trod (f0:=197) u2 kr k1
   have f2:=func_of_trod (f0:=199) u1 kr k2
   have f3:=func_of_trod (f0:=200) u2 kr k3
   have f4:=func_of_trod (f0:=201) u1 kr k4
   have f5:=func_of_trod (f0:=202) u2 kr k5
   obtain ⟨rfl,rfl⟩:=hc0
   obtain ⟨rfl,rfl⟩:=hc1
   obtain ⟨rfl,rfl⟩:=hc2
   subst f0 f1 f2 f3 f4 f5
   have hw:=World.var?_cell hg hv
   refine ⟨rfl,by simp [fQ],fun _=>⟨⟨0,0,none⟩,rfl,fun i e j v hi hj=>?_⟩⟩
   rw [jm,hw]
   match i,j with
   |0,0|0,1|1,0|1,1|2,0|2,1=>simp [fQ] at hi; subst hi; simpa using hj
   |0,j+2|1,j+2|2,j+2=>simp [fQ] at hi; subst hi; simp at hj
   |i+3,_=>simp [fQ] at hi
/-- the door's own heap meets the condition -/
theorem AT (os:Os) (args:Array Value):laidMetH Tryz.prog [("kreisel/race.table",Rows.laid_kreisel_race_table)] ((World.doorLaid Tryz.prog 400 os).forCall (fun _ _=>0) ⟨#[],args,[]⟩).memory:=
 laidMetH_of_parts3 (fuel:=8) (laidMet_of_run' 8 kr kr) kr kr
end
section
open Go.RowKit
def bV (C:List aq):aq where
 eX b:= ∃ A∈C,A.eX b
 wf b:= ∃ A∈C,A.wf b
 holds w:=(∀ A∈C,A.holds w)∧C.Pairwise z8
 wr:=C.all (·.wr)
 j3 b:=by rintro ⟨A,hA,h⟩; exact ⟨A,hA,A.j3 b h⟩
 whole h b:=by rintro ⟨A,hA,hb⟩; exact ⟨A,hA,A.whole (List.all_eq_true.1 h A hA) b hb⟩
 lt w h b:=by rintro ⟨A,hA,hb⟩; exact A.lt w (h.1 A hA) b hb
 lh w w' hk h:=⟨fun A hA=>A.lh w w' (fun b hb=>hk b ⟨A,hA,hb⟩) (h.1 A hA),h.2⟩
theorem St.tied {S:BS} {w0 w:World} {C1 C2:List aq} (h:St S w0 (C1++C2) w):St S w0 (Go.Proofs.YtcoejkiaokbmpaaGreatDoor.bV C1::C2) w:=by
 obtain ⟨p1,p2,p3⟩:=List.pairwise_append.1 h.sep
 refine ⟨h.keeps,fun A hA=>?_,List.Pairwise.cons (fun B hB b=>?_) p2,fun A hA b hb=>?_,fun A hA b hb=>?_⟩
 ·rcases List.mem_cons.1 hA with rfl|hA
  ·exact ⟨fun A hA=>h.holds A (List.mem_append_left _ hA),p1⟩
  ·exact h.holds A (List.mem_append_right _ hA)
 ·rintro ⟨A,hA,hb⟩ hb'
  have hs:=p3 A hA B hB b hb hb'
  refine ⟨?_,hs.2⟩
  rintro ⟨A',hA',hw⟩
  exact (p3 A' hA' B hB b (A'.j3 b hw) hb').1 hw
 ·rcases List.mem_cons.1 hA with rfl|hA
  ·obtain ⟨A',hA',hb'⟩:=hb
   exact h.own A' (List.mem_append_left _ hA') b hb'
  ·exact h.own A (List.mem_append_right _ hA) b hb
 ·rcases List.mem_cons.1 hA with rfl|hA
  ·obtain ⟨A',hA',hb'⟩:=hb
   exact h.seen A' (List.mem_append_left _ hA') b hb'
  ·exact h.seen A (List.mem_append_right _ hA) b hb
theorem St.jr {S:BS} {w0 w:World} {C1 C2:List aq} (h:St S w0 (Go.Proofs.YtcoejkiaokbmpaaGreatDoor.bV C1::C2) w):St S w0 (C1++C2) w:=by
 obtain ⟨p1,p2⟩:=List.pairwise_cons.1 h.sep
 have hb:=h.holds _ (cZ ..)
 refine ⟨h.keeps,fun A hA=>?_,List.pairwise_append.2 ⟨hb.2,p2,fun A hA B hB b ha hb'=>?_⟩,fun A hA b hb'=>?_,fun A hA b hb'=>?_⟩
 ·rcases List.mem_append.1 hA with hA|hA
  ·exact hb.1 A hA
  ·exact h.holds A (dY _ hA)
 ·have hs:=p1 B hB b ⟨A,hA,ha⟩ hb'
  exact ⟨fun hw=>hs.1 ⟨A,hA,hw⟩,hs.2⟩
 ·rcases List.mem_append.1 hA with hA|hA
  ·exact h.own _ (cZ ..) b ⟨A,hA,hb'⟩
  ·exact h.own A (dY _ hA) b hb'
 ·rcases List.mem_append.1 hA with hA|hA
  ·exact h.seen _ (cZ ..) b ⟨A,hA,hb'⟩
  ·exact h.seen A (dY _ hA) b hb'
/-- from one world to another: A's blocks may have turned, or have gone to new ones: B holds -/
structure Mv (A B:aq) (w w':World):Prop where
 holds:B.holds w'
 keeps:dD A.wf w w'
 wf: ∀ b,B.wf b→A.wf b∨w.heap.size≤b
 eX: ∀ b,B.eX b→A.eX b∨w.heap.size≤b
theorem St.mv {S:BS} {w0 w w':World} {C:List aq} {A B:aq} (i:Nat) (h:St S w0 C w) (hC:C[i]? =some A) (m:Mv A B w w'):St S w0 (C.set i B) w':=by
 have hi:i<C.length:=(List.getElem?_eq_some_iff.1 hC).1
 have hget:C[i]=A:=(List.getElem?_eq_some_iff.1 hC).2
 have hmem:A∈C:=aw hC
 have hsep: ∀ j (hj:j<C.length),j≠i→ ∀ x,(C[j]).eX x→A.eX x→ ¬ (C[j]).wf x∧ ¬ A.wf x:=by
  intro j hj hne x hx he
  rcases Nat.lt_or_gt_of_ne hne with hlt|hlt
  ·have:=List.pairwise_iff_getElem.1 h.sep j i hj hi hlt
   rw [hget] at this
   exact this x hx he
  ·have:=List.pairwise_iff_getElem.1 h.sep i j hi hj hlt
   rw [hget] at this
   exact (this x he hx).symm
 have hnew: ∀ j (hj:j<C.length),j≠i→ ∀ x,(C[j]).eX x→B.eX x→ ¬ (C[j]).wf x∧ ¬ B.wf x:=by
  intro j hj hne x hx he
  have hlt:=(C[j]).lt w (h.holds _ (List.getElem_mem hj)) x hx
  rcases m.eX x he with h1|h1
  ·obtain ⟨h2,h3⟩:=hsep j hj hne x hx h1
   refine ⟨h2,fun hw=>?_⟩
   rcases m.wf x hw with h4|h4
   ·exact h3 h4
   ·omega
  ·omega
 refine ⟨?_,?_,?_,?_,?_⟩
 ·refine ⟨m.keeps.os.trans h.keeps.os,m.keeps.tape.trans h.keeps.tape,m.keeps.output.trans h.keeps.output,Nat.le_trans h.keeps.size m.keeps.size,fun k hkk hn=>?_⟩
  refine (m.keeps.block k (Nat.lt_of_lt_of_le hkk h.keeps.size) (fun e=>?_)).trans (h.keeps.block k hkk hn)
  rcases h.own A hmem k e with h1|h1
  ·omega
  ·exact hn h1
 ·intro X hX
  obtain ⟨j,hj,hjX⟩:=List.mem_iff_getElem.1 hX
  rw [List.getElem_set] at hjX
  split at hjX
  ·subst hjX; exact m.holds
  ·rename_i hne
   subst hjX
   have hj':j<C.length:=by simpa using hj
   have hm:C[j]∈C:=List.getElem_mem hj'
   refine (C[j]).lh w w' (fun x hx=>m.keeps.block x ((C[j]).lt w (h.holds _ hm) x hx) (fun e=>?_)) (h.holds _ hm)
   exact (hsep j hj' (Ne.symm hne) x hx (A.j3 x e)).2 e
 ·rw [m6]
  intro p q hp hq hpq
  have hp':p<C.length:=by simpa using hp
  have hq':q<C.length:=by simpa using hq
  have hs:=List.pairwise_iff_getElem.1 h.sep p q hp' hq' hpq
  rw [List.getElem_set,List.getElem_set]
  split
  ·rename_i e1; subst e1
   rw [if_neg om]
   exact fun x hx hx'=>(hnew q hq' om x hx' hx).symm
  ·split
   ·rename_i e1; subst e1
    exact fun x hx hx'=>hnew p hp' om x hx hx'
   ·exact hs
 ·intro X hX x hx
  obtain ⟨j,hj,hjX⟩:=List.mem_iff_getElem.1 hX
  rw [List.getElem_set] at hjX
  split at hjX
  ·subst hjX
   rcases m.wf x hx with h1|h1
   ·exact h.own A hmem x h1
   ·exact .inl (Nat.le_trans h.keeps.size h1)
  ·subst hjX
   exact h.own _ (List.getElem_mem _) x hx
 ·intro X hX x hx
  obtain ⟨j,hj,hjX⟩:=List.mem_iff_getElem.1 hX
  rw [List.getElem_set] at hjX
  split at hjX
  ·subst hjX
   rcases m.eX x hx with h1|h1
   ·exact h.seen A hmem x h1
   ·exact .inl (Nat.le_trans h.keeps.size h1)
  ·subst hjX
   exact h.seen _ (List.getElem_mem _) x hx
/-- a state that was entered with an assertion's blocks alone, left with others -/
theorem Mv.of {A:aq} {w w':World} {C:List aq} (h:St ⟨A.wf,A.eX⟩ w C w'):Mv A (bV C) w w':=by
 refine ⟨⟨h.holds,h.sep⟩,h.keeps,?_,?_⟩
 ·rintro b ⟨B,hB,hb⟩; exact (h.own B hB b hb).symm
 ·rintro b ⟨B,hB,hb⟩; exact (h.seen B hB b hb).symm
theorem St.BJ {w:World} {C:List aq} (h:(bV C).holds w):St ⟨(bV C).wf,(bV C).eX⟩ w C w:=
 ⟨dD.refl _ _,h.1,h.2,fun A hA b hb=> .inr ⟨A,hA,hb⟩,fun A hA b hb=> .inr ⟨A,hA,hb⟩⟩
/-- what is read by one is what another holds -/
structure GY (B A:aq):Prop where
 holds: ∀ w,B.holds w→A.holds w
 eX: ∀ b,A.eX b→B.eX b
theorem bO (A:aq):GY A A:=⟨fun _ h=>h,fun _ h=>h⟩
theorem eD {A B:aq} (h:GY B A):GY B.ro A:=⟨h.holds,h.eX⟩
theorem Hv {a:OA} {c e sz:Nat} {es:List (List Value)}:GY (own a c e sz es) (rd a es.length sz es):=⟨fun _ h=>qq h,fun b h=>h.2⟩
def Yl (w0:World) (P:Program) (l:Nat) (xs:List (List Value)) (J:Nat→aq→Prop) (Z:aq→Prop):Prop:=
 ∀ k x A w,xs[k]? =some x→J k A→w0.heap.size≤w.heap.size→A.holds w→YieldAt (Fw none) 0 P l x.toArray w fun e w'=>
  (e= .returned (.bool true)∧ ∃ B,J (k+1) B∧Mv A B w w')∨(e= .returned (.bool false)∧ ∃ B,Z B∧Mv A B w w')
def Gx (J:Nat→aq→Prop) (Z:aq→Prop) (n:Nat) (A0:aq) (w0:World) (e:Ending) (w':World):Prop:=
 ∃ v,e= .returned v∧((∃ B,J n B∧Mv A0 B w0 w')∨ ∃ B,Z B∧Mv A0 B w0 w')
structure Hj (P:Program) (f:FuncId) (fi ca:List Value) (Cp:List aq) (xs:List (List Value)):Prop where
 go:rW P f=true
 run: ∀ (l:Nat) (J:Nat→aq→Prop) (Z:aq→Prop) (A0:aq) (w:World),Yl w P l xs J Z→J 0 A0→A0.holds w→(∀ A∈Cp,A.holds w)→(∀ A∈Cp,z8 A0 A.ro)→
  Calls P f (fi++Value.func (.yield l) #[] #[]::ca).toArray w (Gx J Z xs.length A0 w)
def Fo (A0:aq) (w0:World) (B:aq):Prop:= ∀ b,B.eX b→A0.eX b∨w0.heap.size≤b
theorem Mp {J:Nat→aq→Prop} {Z:aq→Prop} {n:Nat} {A0 B:aq} {w0 w:World} {C:List aq} {v:Value} (i:Nat) (hC:C[i]? =some B) (hJ:J n B) (hF:Fo A0 w0 B) (hs:St ⟨A0.wf,fun _=>True⟩ w0 C w):Gx J Z n A0 w0 (.returned v) w:=
 ⟨v,rfl,.inl ⟨B,hJ,hs.holds B (aw hC),hs.keeps,fun b hb=>(hs.own B (aw hC) b hb).symm,hF⟩⟩
theorem IH {J:Nat→aq→Prop} {Z:aq→Prop} {n:Nat} {A0 B:aq} {w0 w:World} {C:List aq} {v:Value} (i:Nat) (hC:C[i]? =some B) (hJ:Z B) (hF:Fo A0 w0 B) (hs:St ⟨A0.wf,fun _=>True⟩ w0 C w):Gx J Z n A0 w0 (.returned v) w:=
 ⟨v,rfl,.inr ⟨B,hJ,hs.holds B (aw hC),hs.keeps,fun b hb=>(hs.own B (aw hC) b hb).symm,hF⟩⟩
theorem Ab {P:Program} {f:FuncId} {fn:Func} {c:Code} {args:List Value} {Cp:List aq} {S:BS} {R:Ending→World→Prop} {w:World} (hf:P.funcs[f]? =some fn) (hb:fn.body=some c) (hn:Nat.ble args.length fn.ntmps=true)
 (h: ∀ (Q:dj),(∀ D L C,LJ ⟨P,none,fn.ntmps,S,w⟩ fn R D L C→KJ ⟨P,none,fn.ntmps,S,w⟩ (Q .ret) D L C)→(∀ D L C,LJ ⟨P,none,fn.ntmps,S,w⟩ fn R D L C→KJ ⟨P,none,fn.ntmps,S,w⟩ (Q .normal) D L C)→
  WJ ⟨P,none,fn.ntmps,S,w⟩ c Q [] (JV args) Cp) (hw:St S w Cp w):Calls P f args.toArray w R:=by
 refine tJ (callsIn_of_wp_marks hf hb trivial ?_ rfl)
 have hle:=Nat.le_of_ble_eq_true hn
 refine h (bodyPostM (Fw none) 0 P fn R) ?_ ?_ _ w ⟨rfl,by simp; omega,fun t v hv=>?_⟩ hw
 ·intro D L C hl a w' hf' hs'
  have:=hl a w' hf' hs'
  show LeavesInM (Fw none) 0 P fn a.tmps R a.defers .returning w'
  rw [hf'.defers]; exact this
 ·intro D L C hl a w' hf' hs'
  have:=hl a w' hf' hs'
  show LeavesInM (Fw none) 0 P fn a.tmps R a.defers .returning w'
  rw [hf'.defers]; exact this
 ·obtain ⟨_,h2⟩:=vK args 0 t v hv
  have ht:t<args.length:=by
   have:=(List.getElem?_eq_some_iff.1 h2).1; omega
  simp only [Nat.sub_zero] at h2
  rw [Array.getElem?_append_left (by simpa using ht)]
  simpa using h2
theorem Cj {P:Program} {f:FuncId} {fn:Func} {c:Code} {fi ca:List Value} {Cp:List aq} {xs:List (List Value)} (hgo:rW P f=true) (hf:P.funcs[f]? =some fn) (hb:fn.body=some c) (hn:Nat.ble (fi.length+ca.length+1) fn.ntmps=true)
 (h: ∀ (l:Nat) (J:Nat→aq→Prop) (Z:aq→Prop) (A0:aq) (w0:World) (Q:dj),Yl w0 P l xs J Z→J 0 A0→Fo A0 w0 A0→
  (∀ D L C,LJ ⟨P,none,fn.ntmps,⟨A0.wf,fun _=>True⟩,w0⟩ fn (Gx J Z xs.length A0 w0) D L C→KJ ⟨P,none,fn.ntmps,⟨A0.wf,fun _=>True⟩,w0⟩ (Q .ret) D L C)→
  (∀ D L C,LJ ⟨P,none,fn.ntmps,⟨A0.wf,fun _=>True⟩,w0⟩ fn (Gx J Z xs.length A0 w0) D L C→KJ ⟨P,none,fn.ntmps,⟨A0.wf,fun _=>True⟩,w0⟩ (Q .normal) D L C)→
  WJ ⟨P,none,fn.ntmps,⟨A0.wf,fun _=>True⟩,w0⟩ c Q [] (JV (fi++Value.func (.yield l) #[] #[]::ca)) (A0::Cp.map aq.ro)):Hj P f fi ca Cp xs:=by
 refine ⟨hgo,fun l J Z A0 w hY hJ hA hCp hsep=>?_⟩
 refine Ab hf hb (by simpa [Nat.add_assoc] using hn) (h l J Z A0 w · hY hJ (fun b hb=> .inl hb)) ?_
 have h0:=rz hCp
 refine ⟨dD.refl _ _,fun A hA'=>?_,List.Pairwise.cons (fun B hB=>?_) h0.sep,fun A hA' b hb=>?_,fun _ _ _ _=> .inr trivial⟩
 ·rcases List.mem_cons.1 hA' with rfl|hA'
  ·exact hA
  ·exact h0.holds A hA'
 ·obtain ⟨B',hB',rfl⟩:=List.mem_map.1 hB
  exact hsep B' hB'
 ·rcases List.mem_cons.1 hA' with rfl|hA'
  ·exact .inr hb
  ·obtain ⟨B',hB',rfl⟩:=List.mem_map.1 hA'
   exact hb.elim
section
variable {E:e9} {ops:Array Oper} {Q:dj} {rest:List Oper} {D:List Deferred} {L:List (Nat×Value)} {C:List aq}
variable {d:Nat} {ty:TypeId} {ps:String} {af:Array Edge} {g:Option (Nat×Bool)}
/-- a call of yield -/
theorem BP {fop:Operand} {xs:Array Operand} {ts:Array TypeId} {l k:Nat} {vs:List Value} {ls:List (List Value)} {J:Nat→aq→Prop} {Z:aq→Prop} {A0 A:aq} (i:Nat) (hY:Yl E.w0 E.P l ls J Z) (hJ:J k A) (hF:Fo A0 E.w0 A) (hg:ju ops L g=true) (hf:ev L fop=some (.func (.yield l) #[] #[]))
 (hx:evs L xs.toList=some vs) (hk:ls[k]? =some vs) (hC:C[i]? =some A) (hd:Nat.blt d E.n=true)
 (k1: ∀ B,J (k+1) B→Fo A0 E.w0 B→RJ E ops Q rest D ((d,.bool true)::L) (C.set i B))
 (k2: ∀ B,Z B→Fo A0 E.w0 B→RJ E ops Q rest D ((d,.bool false)::L) (C.set i B)):
 RJ E ops Q (⟨some d,.call {callee:= .value fop,args:=xs,argTypes:=ts},ty,ps,af,g⟩::rest) D L C:=by
 intro a w hfr hs
 have hd':d<E.n:=by rw [← Nat.blt_eq]; exact hd
 unfold qf
 rw [if_pos (dH hfr hg)]
 have h1:xs.map a.eval=vs.toArray:=by
  have:=hfr.evs hx
  apply Array.ext'
  simp [this]
 obtain ⟨fn,tmps,assign,body,hy,hr⟩:=hY k vs A w hk hJ hs.keeps.size (hs.holds A (aw hC))
 have hrun:(execOp a.eval ⟨some d,.call {callee:= .value fop,args:=xs,argTypes:=ts},ty,ps,af,g⟩).run E.P w= .ok (.round l fn tmps assign body) w:=by
  simp [execOp,resolve,hfr.ev hf,Deferred.ofValue,invoke,h1,hy]
 refine ⟨fun _ _=>trivial,?_⟩
 rw [Oper.semAt_eq _ _ _ sm,hrun]
 refine ⟨fun h=>by simp at h,?_⟩
 have hfo: ∀ (B:aq) (w':World),Mv A B w w'→Fo A0 E.w0 B:=fun B w' m b hb=>by
  rcases m.eX b hb with h2|h2
  ·exact hF b h2
  ·exact .inr (Nat.le_trans hs.keeps.size h2)
 have hr':RoundIn (Fw E.r) 0 E.P l fn tmps assign body w _:=hr
 refine hr'.mono fun e w' he=>?_
 rcases he with ⟨rfl,B,hB,m⟩|⟨rfl,B,hB,m⟩
 ·exact k1 B hB (hfo B w' m) _ _ (hfr.put hd' _) (hs.mv i hC m)
 ·exact k2 B hB (hfo B w' m) _ _ (hfr.put hd' _) (hs.mv i hC m)
end
def zh (ps:List Tmp) (x:List Value) (L:List (Nat×Value)):List (Nat×Value):=(ps.zip x).foldl (fun L p=>(p.1,p.2)::L) L
theorem Gq {n:Nat}: ∀ (ps:List Tmp) (x:List Value) (L:List (Nat×Value)) (tmps:Array Value),(∀ t∈ps,t<n)→Fr n [] L {tmps:=tmps,defers:=[]}→
 Fr n [] (zh ps x L) {tmps:=(ps.zip x).foldl (fun tmps (p:Tmp×Value)=>tmps.setIfInBounds p.1 p.2) tmps,defers:=[]}:=by
 intro ps
 induction ps with
 |nil=>intro x L tmps _ h; simpa [zh] using h
 |cons t ps ih=>
  intro x L tmps hlt h
  cases x with
  |nil=>simpa [zh] using h
  |cons v x=>
   have:=h.put (hlt t sm) v
   simpa [zh] using ih x _ _ (fun t' ht=>hlt t' (by simp [ht])) this
theorem BN {E:e9} {Q:dj} {D:List Deferred} {L L0:List (Nat×Value)} {C F:List aq} {g:Operand} {ps:Array Tmp} {assign body:Code} {f:FuncId} {fi ca:List Value} {Cp:List aq} {xs:List (List Value)} {ι κ:Type}
 (inv:Nat→ι→Prop) (Ci:Nat→ι→List aq) (invx:Code→κ→Prop) (Cx:Code→κ→List aq) (isJ isF:List Nat) (y0:ι)
 (hr:E.r=none) (hg:ev L g=some (.func (.func f) fi.toArray ca.toArray)) (hs:Hj E.P f fi ca Cp xs)
 (hnd:decide (isJ++isF).Nodup=true) (hJ:lH C isJ=Ci 0 y0) (hF:lH C isF=F) (h0:inv 0 y0) (hCp: ∀ A∈Cp,∃ B∈F,GY B A)
 (hps: ∀ x∈xs,x.length=ps.size) (hpn:ps.toList.all (fun t=>Nat.blt t E.n)=true) (hL:dK L L0)
 (round: ∀ (k:Nat) (x:List Value) (y:ι) (l:Nat) (ra rb:Loop) (S:BS) (w0:World) (K:Act→World→Prop) (Qr:dj),xs[k]? =some x→inv k y→
  (∀ L' C',WJ ⟨E.P,some l,E.n,S,w0⟩ body Qr [] L' (kb l (.loop rb)::C')→KJ ⟨E.P,some l,E.n,S,w0⟩ K [] L' (kb l (.loop ra)::C'))→
  (∀ y' L' C',inv (k+1) y'→(∀ w,St S w0 C' w→St S w0 (kb l (.loop rb)::Ci (k+1) y') w)→KJ ⟨E.P,some l,E.n,S,w0⟩ (Qr .normal) [] L' C')→
  (∀ id z L' C',invx (.exit id) z→(∀ w,St S w0 C' w→St S w0 (kb l (.loop rb)::Cx (.exit id) z) w)→KJ ⟨E.P,some l,E.n,S,w0⟩ (Qr (.exit id)) [] L' C')→
  (∀ z L' C',invx .ret z→(∀ w,St S w0 C' w→St S w0 (kb l (.loop rb)::Cx .ret z) w)→KJ ⟨E.P,some l,E.n,S,w0⟩ (Qr .ret) [] L' C')→
  WJ ⟨E.P,some l,E.n,S,w0⟩ assign (Exit.then K (fun _ _ _=>False)) [] (zh ps.toList x L0) (kb l (.loop ra)::Ci k y))
 (fin: ∀ r y,inv xs.length y→KJ E (Q .normal) (kO r::D) L0 (kb r (.deferred (some []))::(F++Ci xs.length y)))
 (finx: ∀ r id z,invx (.exit id) z→KJ E (Q (.exit id)) (kO r::D) L0 (kb r (.deferred (some []))::(F++Cx (.exit id) z)))
 (finr: ∀ r z,invx .ret z→KJ E (Q .ret) (kO r::D) L0 (kb r (.deferred (some []))::(F++Cx .ret z))):WJ E (.rangeFunc g ps assign body) Q D L C:=by
 intro a w hf hst
 refine wpIn_rangeFunc fun fn _=>?_
 show ∃ l kO w₁ d w₁' f args w₂,(Instr.enterLoop fn a.tmps ps assign body E.r).run E.P w= .ok (l,kO) w₁∧_
 rw [hr]
 obtain ⟨rec,hrec⟩: ∃ rec:LoopState→Option Code→Loop,rec=fun st pe=>{state:=st,pending:=pe,fn,tmps:=a.tmps,params:=ps,assign,body,defers:=w.heap.size}:=⟨_,rfl⟩
 obtain ⟨W1,hW1⟩: ∃ W1,(w.alloc (.deferred (some []))).alloc (.loop (rec .ready none))=W1:=⟨_,rfl⟩
 have hev:a.eval g= .func (.func f) fi.toArray ca.toArray:=hf.ev hg
 have hent:(Instr.enterLoop fn a.tmps ps assign body none).run E.P w= .ok (w.heap.size+1,[kO w.heap.size]) W1:=by
  rw [← hW1,hrec]; exact run_enterLoop_outer _ _ _ _ _
 -- the state with the record and the block
 have hst1:St E.S E.w0 ((kb (w.heap.size+1) (.loop (rec .ready none))::Ci 0 y0)++(kb w.heap.size (.deferred (some []))::F)) W1:=by
  have h1:St E.S E.w0 (Ci 0 y0++F) w:=St.lH (isJ++isF) hnd (by have h1:=hJ; have h2:=hF; unfold Go.Proofs.YtcoejkiaokbmpaaGreatDoor.lH at h1 h2 ⊢; rw [List.filterMap_append,h1,h2]) hst
  have hn:HC w W1 [kb (w.heap.size+1) (.loop (rec .ready none)),kb w.heap.size (.deferred (some []))]:=by
   refine ⟨fun A hA=>?_,fun A hA b hb=>?_,?_⟩
   ·rcases List.mem_cons.1 hA with rfl|hA
    ·show W1.heap[w.heap.size+1]? =_
     rw [← hW1]; have:=World.alloc_heap_new (w.alloc (.deferred (some []))) (.loop (rec .ready none)); rwa [World.size_alloc] at this
    ·simp only [bU] at hA; subst hA
     show W1.heap[w.heap.size]? =_
     rw [← hW1]; exact (Below.heap_alloc _ _ _ sm).trans (World.alloc_heap_new w _)
   ·rcases List.mem_cons.1 hA with rfl|hA
    ·have:b=w.heap.size+1:=hb
     omega
    ·simp only [bU] at hA; subst hA
     have:b=w.heap.size:=hb
     omega
   ·refine List.Pairwise.cons (fun B hB b h1 h2=>?_) (List.pairwise_singleton _ _)
    simp only [bU] at hB; subst hB
    have e1:b=w.heap.size+1:=h1
    have e2:b=w.heap.size:=h2
    omega
  have hk:dD no w W1:=by rw [← hW1]; exact (dD.alloc no w _).trans (dD.alloc no _ _)
  have h2:=h1.grow hk hn
  refine h2.perm ?_
  simp only [List.cons_append,List.nil_append]
  exact List.Perm.cons _ (List.perm_middle.symm)
 have hb1:=hst1.tied
 obtain ⟨hs1,hs2⟩:=List.pairwise_cons.1 hb1.sep
 have hA0:=hb1.holds _ (cZ ..)
 let J:Nat→aq→Prop:=fun k A=> ∃ y,inv k y∧A=bV (kb (w.heap.size+1) (.loop (rec .ready none))::Ci k y)
 let Z:aq→Prop:=fun A=> ∃ c z,(c= .ret∨ ∃ id,c= .exit id)∧invx c z∧A=bV (kb (w.heap.size+1) (.loop (rec .done (some c)))::Cx c z)
 refine ⟨w.heap.size+1,[kO w.heap.size],W1,{target:= .fn (.func f) ca.toArray,args:=fi.toArray++ #[.func (.yield (w.heap.size+1)) #[] #[]]},W1,f,
  (fi++Value.func (.yield (w.heap.size+1)) #[] #[]::ca).toArray,W1,hent,?_,fun _ _=>trivial,?_,fun h=>by simp at h,?_⟩
 ·simp only [resolve,hev]
  simp [Deferred.ofValue,Act.eval]
 ·have:fi.toArray++ #[Value.func (.yield (w.heap.size+1)) #[] #[]]++ca.toArray=(fi++Value.func (.yield (w.heap.size+1)) #[] #[]::ca).toArray:=by simp
  simp [invoke,oi hs.go]
 ·refine (o7 E.r (hs.run (w.heap.size+1) J Z _ W1 ?_ ⟨y0,h0,rfl⟩ hA0 ?_ ?_)).mono ?_
  ·-- a round
   rintro k x A W hx ⟨y,hy,rfl⟩ _ hA
   have hl:W.heap[w.heap.size+1]? =some (.loop (rec .ready none)):=hA.1 _ (cZ ..)
   have hyl:=run_yield (P:=E.P) (args:=x.toArray) hl (by rw [hrec]; simpa using hps x (aw hx))
   rw [hrec] at hyl
   refine ⟨fn,_,assign,body,hyl,roundIn_of_wpIn trivial ?_⟩
   let A:aq:=bV (kb (w.heap.size+1) (.loop (rec .ready none))::Ci k y)
   have hfr:Fr E.n [] (zh ps.toList x L0) {tmps:=(ps.zip x.toArray).foldl (fun tmps (t,a)=>tmps.setIfInBounds t a) a.tmps,defers:=[]}:=by
    have h1:=Gq ps.toList x L0 a.tmps (fun t ht=>by have:=List.all_eq_true.1 hpn t ht; rwa [Nat.blt_eq] at this) ⟨rfl,hf.size,fun t v hv=>hf.at_ t v (hL t v hv)⟩
    rw [← Array.foldl_toList]
    simpa using h1
   have hbusy: ∀ (c:Option Code) (b:Bool),({rec .busy none with state:=if b then .ready else .done,pending:=c}:Loop)=rec (if b then .ready else .done) c:=fun c b=>by rw [hrec]
   have hend: ∀ (c:Option Code) (w1:World) (C':List aq) (S:BS),St S W (kb (w.heap.size+1) (.loop (rec .busy none))::C') w1→
    ∃ w2,(Instr.endRound (w.heap.size+1) c).run E.P w1= .ok (.bool c.isNone) w2∧St S W (kb (w.heap.size+1) (.loop (rec (if c.isNone then .ready else .done) c))::C') w2:=fun c w1 C' S hs1=>by
    have hl1:w1.heap[w.heap.size+1]? =some (.loop (rec .busy none)):=hs1.holds _ (cZ ..)
    refine ⟨_,run_endRound c hl1,?_⟩
    have:=hs1.zK (b:=w.heap.size+1) (A':=kb (w.heap.size+1) (.loop (rec (if c.isNone then .ready else .done) c))) 0 rfl rfl rfl (iZ _) (fun _ h=>h) (World.putObj_heap_same (dW hl1))
    rw [hbusy]
    exact this
   refine round k x y (w.heap.size+1) (rec .ready none) (rec .busy none) ⟨A.wf,A.eX⟩ W _ (roundPost E.P (w.heap.size+1) (fun e w'=>(e= .returned (.bool true)∧ ∃ B,J (k+1) B∧Mv A B W w')∨(e= .returned (.bool false)∧ ∃ B,Z B∧Mv A B W w'))) hx hy ?_ ?_ ?_ ?_ _ _ hfr (St.BJ hA)
   ·intro L' C' hW a1 w1 hf1 hs1
    have hl1:w1.heap[w.heap.size+1]? =some (.loop (rec .ready none)):=hs1.holds _ (cZ ..)
    refine ⟨_,run_beginRound hl1 (by rw [hrec]),hW _ _ hf1 ?_⟩
    have:=hs1.zK (b:=w.heap.size+1) (A':=kb (w.heap.size+1) (.loop (rec .busy none))) 0 rfl rfl rfl (iZ _) (fun _ h=>h) (World.putObj_heap_same (dW hl1))
    have e:({rec .ready none with state:= .busy}:Loop)=rec .busy none:=by rw [hrec]
    rw [e]; exact this
   ·intro y' L' C' hy' hC' a1 w1 hf1 hs1
    obtain ⟨w2,e1,e2⟩:=hend none w1 _ _ (hC' _ hs1)
    exact ⟨_,w2,e1,.inl ⟨rfl,_,⟨y',hy',rfl⟩,Mv.of e2⟩⟩
   ·intro id z L' C' hz hC' a1 w1 hf1 hs1
    obtain ⟨w2,e1,e2⟩:=hend (some (.exit id)) w1 _ _ (hC' _ hs1)
    exact ⟨_,w2,e1,.inr ⟨rfl,_,⟨_,z,.inr ⟨id,rfl⟩,hz,rfl⟩,Mv.of e2⟩⟩
   ·intro z L' C' hz hC' a1 w1 hf1 hs1
    obtain ⟨w2,e1,e2⟩:=hend (some .ret) w1 _ _ (hC' _ hs1)
    exact ⟨_,w2,e1,.inr ⟨rfl,_,⟨_,z,.inl rfl,hz,rfl⟩,Mv.of e2⟩⟩
  ·intro A hA
   obtain ⟨B,hB,hc⟩:=hCp A hA
   exact hc.holds _ (hb1.holds B (dY _ (dY _ hB)))
  ·intro A hA b hb hb'
   obtain ⟨B,hB,hc⟩:=hCp A hA
   exact ⟨(hs1 B (dY _ hB) b hb (hc.eX b hb')).1,fun h=>h⟩
  ·rintro e w' ⟨v,rfl,hh⟩
   have hfin:Fr E.n (kO w.heap.size::D) L0 {a with defers:=[kO w.heap.size]++a.defers}:=⟨by simp [hf.defers],hf.size,fun t v hv=>hf.at_ t v (hL t v hv)⟩
   have hleave: ∀ (st:LoopState) (c:Option Code) (C':List aq),st≠ .busy→Mv (bV (kb (w.heap.size+1) (.loop (rec .ready none))::Ci 0 y0)) (bV (kb (w.heap.size+1) (.loop (rec st c))::C')) W1 w'→
    ∃ w2,(Instr.endLoop (w.heap.size+1)).run E.P w'= .ok c w2∧St E.S E.w0 (kb w.heap.size (.deferred (some []))::(F++C')) w2:=fun st c C' hne m=>by
    have h1:=(hb1.mv 0 rfl m).jr
    have h1':St E.S E.w0 ((kb (w.heap.size+1) (.loop (rec st c))::C')++(kb w.heap.size (.deferred (some []))::F)) w':=h1
    have hl1:w'.heap[w.heap.size+1]? =some (.loop (rec st c)):=h1'.holds (kb (w.heap.size+1) (.loop (rec st c))) sm
    refine ⟨_,by have:=run_endLoop (P:=E.P) hl1 (by rw [hrec]; exact hne); rw [this,hrec],?_⟩
    have h2:=h1'.zK (b:=w.heap.size+1) (A':=kb (w.heap.size+1) (.loop {rec st c with state:= .exhausted})) 0 rfl rfl rfl (iZ _) (fun _ h=>h) (World.putObj_heap_same (dW hl1))
    have h3:St E.S E.w0 (C'++(kb w.heap.size (.deferred (some []))::F)) _:=h2.take (List.sublist_cons_self _ _)
    rw [hrec] at h3
    refine h3.perm ?_
    exact (List.perm_append_comm).trans sm
   rcases hh with ⟨B,⟨y,hy,rfl⟩,m⟩|⟨B,⟨c,z,hc,hz,rfl⟩,m⟩
   ·obtain ⟨w2,e1,e2⟩:=hleave .ready none _ sm m
    exact ⟨none,w2,e1,fin w.heap.size y hy _ _ hfin e2⟩
   ·obtain ⟨w2,e1,e2⟩:=hleave .done (some c) _ sm m
    refine ⟨some c,w2,e1,?_⟩
    rcases hc with rfl|⟨id,rfl⟩
    ·exact wpIn_ret (finr w.heap.size z hz _ _ hfin e2)
    ·exact wpIn_exit (finx w.heap.size id z hz _ _ hfin e2)
end
section
open Go.RowKit
theorem BH {E:e9} {c:Code} {Q:dj} {D:List Deferred} {L:List (Nat×Value)} {C:List aq} (hr:E.r=none) (h:WJ E c (Exit.noGoto Q) D L C):WJ E (.scope c) Q D L C:=by
 intro a w hf hs
 obtain ⟨P,r,n,S,w0⟩:=E
 subst hr
 exact (wpIn_wide (n:=0)).2 (wp_scope_straight ((wpIn_wide (n:=0)).1 (h a w hf hs)))
theorem BB {E:e9} {l:Nat} {Q:dj} {D:List Deferred} {L:List (Nat×Value)} {C:List aq} (h:KJ E (Q .normal) D L C):WJ E (.label l) Q D L C:=fun a w hf hs=>wpIn_label (h a w hf hs)
theorem eu.eq {P:Program} {f:FuncId} {args:List Value} {Cp:List aq} {u v:Value} (h:eu P f args Cp v) (e:v=u):eu P f args Cp u:=e▸h
/-- a function value that is called: what it hands back -/
def Ev (P:Program) (fv:Value) (args:List Value) (Cp:List aq) (v:Value):Prop:=
 ∃ f fi ca,fv= .func (.func f) fi ca∧eu P f (fi.toList++args++ca.toList) Cp v
theorem ob {P:Program} {f:FuncId} {fi ca args:List Value} {Cp:List aq} {v:Value} (h:eu P f (fi++args++ca) Cp v):Ev P (.func (.func f) fi.toArray ca.toArray) args Cp v:=⟨f,_,_,rfl,by simpa using h⟩
section
variable {E:e9} {ops:Array Oper} {Q:dj} {rest:List Oper} {D:List Deferred} {L:List (Nat×Value)} {C:List aq}
variable {dst:Option Tmp} {d:Nat} {ty:TypeId} {ps:String} {af:Array Edge} {g:Option (Nat×Bool)}
theorem sr {fop:Operand} {xs:Array Operand} {ts:Array TypeId} {fv:Value} {vs:List Value} {Cp:List aq} {v:Value} (hg:ju ops L g=true) (hf:ev L fop=some fv)
 (hx:evs L xs.toList=some vs) (c:Ev E.P fv vs Cp v) (hC:kG C Cp):SD E ops ⟨dst,.call {callee:= .value fop,args:=xs,argTypes:=ts},ty,ps,af,g⟩ D L C v:=by
 obtain ⟨f,fi,ca,rfl,h⟩:=c
 exact B5 hg hf hx rfl h hC
end
theorem St.dup {S:BS} {w0 w:World} {C:List aq} {A:aq} (i:Nat) (h:St S w0 C w) (hC:C[i]? =some A) (hw: ∀ b,¬ A.wf b):St S w0 (A::C) w:=by
 have hm:=aw hC
 refine ⟨h.keeps,fun B hB=>?_,List.Pairwise.cons (fun B hB b ha hb=>⟨hw b,fun hwb=>?_⟩) h.sep,fun B hB=>?_,fun B hB=>?_⟩
 ·rcases List.mem_cons.1 hB with rfl|hB
  ·exact h.holds B hm
  ·exact h.holds B hB
 ·obtain ⟨j,hj,rfl⟩:=List.mem_iff_getElem.1 hB
  obtain ⟨hi,rfl⟩:=List.getElem?_eq_some_iff.1 hC
  rcases Nat.lt_trichotomy i j with hlt|heq|hlt
  ·exact (List.pairwise_iff_getElem.1 h.sep i j hi hj hlt b ha hb).2 hwb
  ·subst heq; exact hw b hwb
  ·exact (List.pairwise_iff_getElem.1 h.sep j i hj hi hlt b hb ha).1 hwb
 ·rcases List.mem_cons.1 hB with rfl|hB
  ·exact h.own B hm
  ·exact h.own B hB
 ·rcases List.mem_cons.1 hB with rfl|hB
  ·exact h.seen B hm
  ·exact h.seen B hB
theorem ky {E:e9} {c:Code} {Q:dj} {D:List Deferred} {L:List (Nat×Value)} {C:List aq} {A:aq} (i:Nat) (hC:C[i]? =some A) (hw: ∀ b,¬ A.wf b) (h:WJ E c Q D L (A::C)):WJ E c Q D L C:=fun a w hf hs=>h a w hf (hs.dup i hC hw)
theorem Dl {E:e9} {c:Code} {Q:dj} {D:List Deferred} {L:List (Nat×Value)} {C C':List aq} {g e:Nat} {cs:List Value} {sz:Nat} {es:List (List Value)} (i:Nat) (hC:C[i]? =some (br g e cs)) (h2: ∀ x∈es,x.length=sz) (h3:es.flatten=cs) (hm:es.length≤maxLen)
 (hC':C.set i (own (some ⟨g,0,none⟩) es.length e sz es)=C') (k:WJ E c Q D L C'):WJ E c Q D L C:=fun a w hf hs=>by
 refine k a w hf ?_
 rw [← hC']
 refine hs.zK i hC rfl rfl (dD.refl _ _) (fun x hx=>?_) (Cy (hs.holds _ (aw hC)) h2 h3 hm)
 obtain ⟨ad,h1,h2⟩:=hx
 cases h1; exact h2
theorem HY {α:Type} {f:α→List Value} {n:Nat} (h: ∀ a,(f a).length=n) (l:List α): ∀ x∈l.map f,x.length=n:=fun x hx=>by
 obtain ⟨a,_,rfl⟩:=List.mem_map.1 hx; exact h a
def M_ (E:e9) (c:Code) (Q:dj) (m:Nat) (D:List Deferred) (L:List (Nat×Value)) (C:List aq):Prop:=
 ∀ a w,Fr E.n D L a→St E.S E.w0 C w→Code.roundsIn (Fw E.r) 0 E.P c Q m a w
theorem kz {E:e9} {c:Code} {Q:dj} {D:List Deferred} {L:List (Nat×Value)} {C:List aq} (m:Nat) (h:M_ E c Q m D L C):WJ E (.loop c) Q D L C:=fun a w hf hs=>wpIn_loop_rounds m (h a w hf hs)
theorem ek {E:e9} {c:Code} {Q:dj} {m:Nat} {D:List Deferred} {L:List (Nat×Value)} {C:List aq}
 (h: ∀ K:Act→World→Prop,(∀ D L C,M_ E c Q m D L C→KJ E K D L C)→WJ E c (Exit.then K Q) D L C):M_ E c Q (m+1) D L C:=
 fun a w hf hs=>h (Code.roundsIn (Fw E.r) 0 E.P c Q m) (fun _ _ _ hy a w hf hs=>hy a w hf hs) a w hf hs
theorem pn {E:e9} {x y:Code} {Q:dj} {D:List Deferred} {L:List (Nat×Value)} {C:List aq} {ι:Type} (L':ι→List (Nat×Value)) (C':ι→List aq)
 (hy: ∀ z,WJ E y Q D (L' z) (C' z)) (h: ∀ K:Act→World→Prop,(∀ z,KJ E K D (L' z) (C' z))→WJ E x (Exit.then K Q) D L C):WJ E (.seq x y) Q D L C:=
 ai fun K hK=>h K fun z=>hK _ _ _ (hy z)
theorem mM {L L':List (Nat×Value)} {t:Nat} {b c:Bool} (h1:L.lookup t=some (.bool b)) (h2:c=b) (k:dK L L'):dK L ((t,.bool c)::L'):=dK.cons (h2▸h1) k
theorem aY {L L':List (Nat×Value)} {t:Nat} {u v:Value} (h1:L.lookup t=some u) (h2:v=u) (k:dK L L'):dK L ((t,v)::L'):=dK.cons (h2▸h1) k
def du (C:List aq):aq where
 eX b:= ∃ A∈C,A.eX b
 wf _:=False
 holds w:= ∀ A∈C,A.holds w
 wr:=false
 j3 _ h:=h.elim
 whole h:=by cases h
 lt w h b:=by rintro ⟨A,hA,hb⟩; exact A.lt w (h A hA) b hb
 lh w w' hk h:=fun A hA=>A.lh w w' (fun b hb=>hk b ⟨A,hA,hb⟩) (h A hA)
theorem mW {P:Program} {f:FuncId} {args:List Value} {Cp C:List aq} {v:Value} (h:eu P f args Cp v) (hC:kG C Cp):eu P f args [du C] v:=⟨h.go,fun w hw=>h.run w (hC w (hw _ (List.mem_singleton.2 rfl)))⟩
theorem mY {C Cp:List aq} (h:kG C Cp):ji C (du Cp).holds:=fun w hw=>h w hw
def tX (P:Program) (t:TypeId):Option (Nat×TypeId):=
 match P.underlying t with
 |some (.array n e)=>some (n,e)
 |_=>none
theorem Ff {P:Program} {t n e:Nat} (h:tX P t=some (n,e)):P.underlying t=some (.array n e):=by
 unfold tX at h
 cases hu:P.underlying t with
 |none=>simp [hu] at h
 |some d=>cases d<;>simp [hu] at h<;>(obtain ⟨rfl,rfl⟩:=h; rfl)
section
variable {E:e9} {ops:Array Oper} {Q:dj} {rest:List Oper} {D:List Deferred} {L:List (Nat×Value)} {C:List aq}
variable {dst:Option Tmp} {d:Nat} {ty:TypeId} {ps:String} {af:Array Edge} {g:Option (Nat×Bool)}
theorem q6 {x ix:Operand} {t e len sz:Nat} {cs vs:List Value} {j:Int} (m:Nat) (hg:ju ops L g=true) (hx:ev L x=some (.agg cs.toArray)) (hi:ev L ix=some (.int .i64 j)) (ht:tX E.P t=some (len,e)) (hk:tK E.P e=some (true,sz)) (hj:j=(m:Int)) (hm:m<len) (hv:(cs.drop (m*sz)).take sz=vs):
 SD E ops ⟨dst,.index t x ix,ty,ps,af,g⟩ D L C (.agg vs.toArray):=
 dJ hg sm fun a w hfr _=>by
  have h0:(0:Int)≤(m:Int)∧(m:Int)<(len:Int):=by omega
  subst hj
  simp [execOp,hfr.ev hx,hfr.ev hi,Instr.index,asIntOf,run_underlying (Ff ht),h0,hm,(oG hk w).2,Gt hk hv w]
theorem pT {x ix:Operand} {t e len sz:Nat} {cs:List Value} {v:Value} {j:Int} (m:Nat) (hg:ju ops L g=true) (hx:ev L x=some (.agg cs.toArray)) (hi:ev L ix=some (.int .i64 j)) (ht:tX E.P t=some (len,e)) (hk:tK E.P e=some (false,sz)) (hj:j=(m:Int)) (hm:m<len) (hv:cs[m*sz]? =some v):
 SD E ops ⟨dst,.index t x ix,ty,ps,af,g⟩ D L C v:=
 dJ hg sm fun a w hfr _=>by
  have h0:(0:Int)≤(m:Int)∧(m:Int)<(len:Int):=by omega
  subst hj
  simp [execOp,hfr.ev hx,hfr.ev hi,Instr.index,asIntOf,run_underlying (Ff ht),h0,hm,(qB hk w).2,jH hk hv w]
end
end
section
open Go.RowKit
def eB (ops:Array Oper) (is:List Nat):List Oper:=is.filterMap (ops[·]?)
theorem mw {ops:Array Oper}: ∀ {is:List Nat},(∀ i∈is,i<ops.size)→ ∀ p:Nat,(eB ops is)[p]? =(is[p]?).bind (ops[·]?):=by
 intro is
 induction is with
 |nil=>intro _ p; simp [eB]
 |cons i is ih=>
  intro h p
  have hi:=h i sm
  have h1:eB ops (i::is)=ops[i]::eB ops is:=by simp [eB,hi]
  rw [h1]
  cases p with
  |zero=>simp [hi]
  |succ p=>simpa using ih (fun j hj=>h j (by simp [hj])) p
theorem ov {ops:Array Oper} {is:List Nat} (h: ∀ i∈is,i<ops.size):(eB ops is).length=is.length:=by
 induction is with
 |nil=>rfl
 |cons i is ih=>
  have hi:=h i sm
  have h1:eB ops (i::is)=ops[i]::eB ops is:=by simp [eB,hi]
  rw [h1]; simp [ih (fun j hj=>h j (by simp [hj]))]
def pW (o:Oper):Bool:=match o.op with | .select .. =>false| .defer _=>false|_=>true
def GV (m:Array Nat) (ops:Array Oper) (free T:List Nat):Bool:=
 (free.all (Nat.blt · ops.size))&&(T.all (Nat.blt · ops.size))&&((List.range ops.size).all fun i=>free.contains i||T.contains i)&&(T.all fun i=> !free.contains i)&&
 ((List.range ops.size).all fun i=>match ops[i]? with
  |none=>false
  |some o=>pW o&&o.after.toList.all fun e=> !Region.binds .any e||Nat.blt e.on i)&&
 ((List.range free.length).all fun p=>match (free[p]?).bind fun i=>(ops[i]?).map fun o=>(i,o) with
  |none=>false
  |some (i,o)=>o.dst.isSome&&
   ((List.range free.length).all fun q=>q==p||match (free[q]?).bind fun j=>(ops[j]?).map fun o=>(j,o) with
    |none=>false
    |some (j,r)=>match r.dst with
     |none=>false
     |some d=>o.dst != some d&&(!(o.looksAt ops).contains d||(if q<p then g9 m j i else g9 m i j)))&&
   (T.all fun j=>match ops[j]? with
    |none=>false
    |some r=>r.dst != o.dst&&(match r.dst with |none=>true|some d=> !(o.looksAt ops).contains d||g9 m i j)&&(match o.dst with |none=>true|some d=> !(r.looksAt ops).contains d||g9 m i j)))&&
 ((List.range T.length).all fun p=>(List.range p).all fun q=>match T[p]?,T[q]? with
  |some i,some j=>i != j&&g9 m j i
  |_,_=>false)
def I3 (m:Array Nat) (ops:Array Oper) (free T:List Nat) (fe tb:List Bool):Bool:=
 GV m ops free T&&((List.range T.length).all fun q=>(tb[q]?).getD false||(List.range free.length).all fun p=> !(fe[p]?).getD false||match free[p]?,T[q]? with
  |some i,some j=>g9 m i j
  |_,_=>false)
def Ie (ops:Array Oper) (free T:List Nat) (fe tb:List Bool):Bool:=I3 (oW ops) ops free T fe tb
def Kc (ops:Array Oper) (free T:List Nat):Bool:=GV (oW ops) ops free T
theorem Fe {ops:Array Oper} {free T:List Nat} {fe tb:List Bool} (h:Ie ops free T fe tb=true):Kc ops free T=true∧ ∀ (p q i j:Nat),free[p]? =some i→T[q]? =some j→(fe[p]?).getD false=true→(tb[q]?).getD false=true∨g9 (oW ops) i j=true:=by
 simp only [Ie,I3,cS] at h
 refine ⟨h.1,fun p q i j hp hq hf=>?_⟩
 have h2:=h.2
 rw [fz] at h2
 have h3:=h2 q (by simpa using (List.getElem?_eq_some_iff.1 hq).1)
 rw [Bool.or_eq_true] at h3
 rcases h3 with h3|h3
 ·exact .inl h3
 ·rw [fz] at h3
  have h4:=h3 p (by simpa using (List.getElem?_eq_some_iff.1 hp).1)
  simp only [hp,hq,hf,Bool.not_true,Bool.false_or] at h4
  exact .inr h4
structure JF (ops:Array Oper) (free T:List Nat):Prop where
 fl: ∀ i∈free,i<ops.size
 tl: ∀ i∈T,i<ops.size
 cover: ∀ i,i<ops.size→i∈free∨i∈T
 Gp: ∀ i∈T,i ∉ free
 plain: ∀ (i:Nat) (o:Oper),ops[i]? =some o→(∀ cs b,o.op≠ .select cs b)∧(∀ c,o.op≠ .defer c)
 zj: ∀ (i:Nat) (o:Oper) (e:Edge),ops[i]? =some o→e∈o.after→Region.binds .any e=true→e.on<i
 apart: ∀ (p q i j:Nat) (o r:Oper) (d:Nat),free[p]? =some i→free[q]? =some j→q≠p→ops[i]? =some o→ops[j]? =some r→r.dst=some d→o.dst≠some d∧(d∈o.looksAt ops→(q<p∧g9 (oW ops) j i=true)∨(p<q∧g9 (oW ops) i j=true))
 ft: ∀ (i j:Nat) (o r:Oper),i∈free→j∈T→ops[i]? =some o→ops[j]? =some r→r.dst≠o.dst∧(∀ d,r.dst=some d→d∈o.looksAt ops→g9 (oW ops) i j=true)∧(∀ d,o.dst=some d→d∈r.looksAt ops→g9 (oW ops) i j=true)
 chain: ∀ p q i j:Nat,T[p]? =some i→T[q]? =some j→q<p→i≠j∧g9 (oW ops) j i=true
theorem JF.of {ops:Array Oper} {free T:List Nat} (h:Kc ops free T=true):JF ops free T:=by
 simp only [Kc,GV,cS] at h
 obtain ⟨⟨⟨⟨⟨⟨h1,h2⟩,h3⟩,h4⟩,h5⟩,h6⟩,h7⟩:=h
 rw [fz] at h1 h2 h3 h4 h5 h6 h7
 have hfl: ∀ i∈free,i<ops.size:=fun i hi=>by have:=h1 i hi; rwa [Nat.blt_eq] at this
 have htl: ∀ i∈T,i<ops.size:=fun i hi=>by have:=h2 i hi; rwa [Nat.blt_eq] at this
 refine ⟨hfl,htl,fun i hi=>?_,fun i hi=>?_,fun i o ho=>?_,fun i o e ho he hb=>?_,?_,?_,?_⟩
 ·have:=h3 i (by simpa using hi)
  simpa using this
 ·have:=h4 i hi
  simpa using this
 ·have hi:i<ops.size:=(Array.getElem?_eq_some_iff.1 ho).1
  have:=h5 i (by simpa using hi)
  simp only [ho,cS] at this
  have:=this.1
  refine ⟨fun cs b hh=>?_,fun c hh=>?_⟩<;>simp [pW,hh] at this
 ·have hi:i<ops.size:=(Array.getElem?_eq_some_iff.1 ho).1
  have:=h5 i (by simpa using hi)
  simp only [ho,cS] at this
  have:=this.2
  rw [fz] at this
  have:=this e (by simpa using he)
  rw [hb] at this
  simpa using this
 ·intro p q i j o r d hp hq hne ho hr hd
  have:=h6 p (by simpa using (List.getElem?_eq_some_iff.1 hp).1)
  simp only [hp,ho,Option.bind_some,Option.map_some,cS] at this
  have:=this.1.2
  rw [fz] at this
  have:=this q (by simpa using (List.getElem?_eq_some_iff.1 hq).1)
  simp only [hq,hr,hd,Option.bind_some,Option.map_some,Bool.or_eq_true,cS,beq_iff_eq,bne_iff_ne,ne_eq] at this
  rcases this with h|⟨h8,h9⟩
  ·exact absurd h hne
  ·refine ⟨h8,fun hm=>?_⟩
   rcases h9 with h9|h9
   ·simp [hm] at h9
   ·by_cases hlt:q<p
    ·rw [if_pos hlt] at h9; exact .inl ⟨hlt,h9⟩
    ·rw [if_neg hlt] at h9; exact .inr ⟨om,h9⟩
 ·intro i j o r hi hj ho hr
  obtain ⟨p,hp⟩:=List.mem_iff_getElem?.1 hi
  have:=h6 p (by simpa using (List.getElem?_eq_some_iff.1 hp).1)
  simp only [hp,ho,Option.bind_some,Option.map_some,cS] at this
  have:=this.2
  rw [fz] at this
  have:=this j hj
  simp only [hr,cS,bne_iff_ne,ne_eq] at this
  refine ⟨this.1.1,fun d hd hm=>?_,fun d hd hm=>?_⟩
  ·have:=this.1.2
   simp [hd,hm] at this; exact this
  ·have:=this.2
   simp [hd,hm] at this; exact this
 ·intro p q i j hp hq hlt
  have:=h7 p (by simpa using (List.getElem?_eq_some_iff.1 hp).1)
  rw [fz] at this
  have:=this q (by simpa using hlt)
  simp only [hp,hq,cS,bne_iff_ne,ne_eq] at this
  exact this
def NQ (K:Act→World→Prop):dj
 | .normal=>K
 |_=>fun _ _=>False
/-- the others, one behind the other; the part C' of the state stands throughout, the part C1 as long as the flags say -/
def TJ (E:e9) (ops:Array Oper) (D:List Deferred) (C' C1:List aq) (F:List (Nat×Value)→List aq→Prop):List Bool→List Oper→List (Nat×Value)→List aq→Prop
 |_,[],L,C=>F L C
 |bs,o::T,L,C=> ∀ K:Act→World→Prop,(∀ L' C'',(∀ w,St E.S E.w0 C'' w→St E.S E.w0 C' w)→(bs.headD false=true→ ∀ w,St E.S E.w0 C'' w→St E.S E.w0 C1 w)→TJ E ops D C' C1 F bs.tail T L' C''→KJ E K D L' C'')→RJ E ops (NQ K) [o] D L C
/-- the free ones: an early one (its flag) may read C1 -/
def o0 (E:e9) (ops:Array Oper) (D:List Deferred) (C' C1:List aq) (F:List (Nat×Value)→Prop):List Bool→List Oper→List (Nat×Value)→Prop
 |_,[],L=>F L
 |bs,o::rest,L=> ∃ d v,o.dst=some d∧d<E.n∧SD E ops o D L (bif bs.headD false then C1 else C') v∧o0 E ops D C' C1 F bs.tail rest ((d,v)::L)
theorem o0.out {E:e9} {ops:Array Oper} {D:List Deferred} {C' C1:List aq} {F:List (Nat×Value)→Prop}: ∀ (bs:List Bool) (os:List Oper) (L:List (Nat×Value)),o0 E ops D C' C1 F bs os L→
 ∃ vs:List Value,vs.length=os.length∧F (yk os vs os.length L)∧ ∀ i o,os[i]? =some o→ ∃ d v,o.dst=some d∧d<E.n∧vs[i]? =some v∧SD E ops o D (yk os vs i L) (bif (bs[i]?).getD false then C1 else C') v:=by
 intro bs os
 induction os generalizing bs with
 |nil=>intro L h; exact ⟨[],rfl,by cases bs<;>exact h,fun i o ho=>by simp at ho⟩
 |cons o os ih=>
  intro L h
  have h': ∃ d v,o.dst=some d∧d<E.n∧SD E ops o D L (bif bs.headD false then C1 else C') v∧o0 E ops D C' C1 F bs.tail os ((d,v)::L):=by cases bs<;>exact h
  obtain ⟨d,v,ho,hd,hsd,hk⟩:=h'
  obtain ⟨vs,hl,hF,hall⟩:=ih _ _ hk
  refine ⟨v::vs,by simp [hl],by simpa [yk,ho] using hF,fun i o' ho'=>?_⟩
  cases i with
  |zero=>
   simp at ho'; subst ho'
   refine ⟨d,v,ho,hd,sm,?_⟩
   have e:(bs[0]?).getD false=bs.headD false:=by cases bs<;>rfl
   rw [e]; simpa [yk] using hsd
  |succ i=>
   obtain ⟨d',v',h1,h2,h3,h4⟩:=hall i o' (by simpa using ho')
   refine ⟨d',v',h1,h2,by simpa using h3,?_⟩
   have e:(bs[i+1]?)=bs.tail[i]? :=by cases bs<;>simp
   rw [e]; simpa [yk,ho] using h4
theorem BW {E:e9} {ops:Array Oper} {o:Oper} (hsel: ∀ cs b,o.op≠ .select cs b) (hdef: ∀ c,o.op≠ .defer c) {a a':Act} (hl: ∀ t∈o.looksAt ops,a.tmps[t]? =a'.tmps[t]?) {w:World}
 {K N:Act→World→Prop} {Q:dj} (h:qf E.r E.P ops (NQ K) [o] a' w) (hK: ∀ b w',K b w'→b.defers=a'.defers) (hn: ∀ u w',K (a'.put o.dst u) w'→N (a.put o.dst u) w'):
 if Region.wanted o (yielded ops a.tmps) then o.wpIn (Fw E.r) 0 E.P a w N Q else (∀ f,o.about E.P w a.eval=some f→(Fw E.r).fn f)∧N (a.put o.dst undef) w:=by
 rw [q8 hl]
 unfold qf at h
 by_cases hw:Region.wanted o (yielded ops a'.tmps)=true
 ·rw [if_pos hw] at h ⊢
  refine ⟨fun _ _=>trivial,?_⟩
  have h2:=h.2
  rw [Oper.semAt_eq _ _ _ hdef] at h2 ⊢
  rw [execOp_congr (ρ:=a.eval) (ρ':=a'.eval) o hsel (v_ hl)]
  generalize (execOp a'.eval o).run E.P w=res at h2
  cases res with
  |halt x w'=>cases x<;>simp [Oper.uponIn,NQ] at h2
  |ok x w'=>
   cases x with
   |value u=>exact hn u w' h2
   |skip=>exact hn _ w' h2
   |defer dd=>
    have h3:=hK _ _ h2
    have:=congrArg List.length h3
    simp [Act.put] at this
    cases ho:o.dst<;>simp [ho] at this
   |enter f args=>
    refine ⟨h2.1,h2.2.mono fun e w'' he=>?_⟩
    cases e with
    |returned u=>exact hn u w'' he
    |panicked ch=>exact he.elim
    |outgrown=>obtain ⟨_,_,hF⟩:=he; exact hF.elim
   |row x args=>exact ⟨h2.1,h2.2.mono fun u w'' he=>hn u w'' he⟩
   |round l f tmps asl bd=>
    refine ⟨h2.1,h2.2.mono fun e w'' he=>?_⟩
    cases e with
    |returned u=>exact hn u w'' he
    |panicked ch=>exact he.elim
    |outgrown=>obtain ⟨_,_,hF⟩:=he; exact hF.elim
   |_=>simp [Oper.uponIn] at h2
 ·rw [if_neg hw] at h ⊢
  exact ⟨fun _ _=>trivial,hn _ w h⟩
theorem Ib {E:e9} {id:Nat} {ops:Array Oper} {Q:dj} {D:List Deferred} {L:List (Nat×Value)} {C:List aq} (hm:E.P.follows .mixedOrders=true) (free T:List Nat) (fe tb:List Bool) (C' C1:List aq) (hc:Ie ops free T fe tb=true)
 (hC: ∀ w,St E.S E.w0 C w→St E.S E.w0 C' w) (hC1: ∀ w,St E.S E.w0 C w→St E.S E.w0 C1 w)
 (h:o0 E ops D C' C1 (fun L'=>TJ E ops D C' C1 (fun L C=>KJ E (Q .normal) D L C) tb (eB ops T) L' C) fe (eB ops free) L):WJ E (.region id ops true) Q D L C:=by
 obtain ⟨hc,hc4⟩:=Fe hc
 have hc:=JF.of hc
 intro a0 w0 hf0 hs0
 refine wpIn_region_any hm ?_
 have hs1:St E.S E.w0 C ({w0 with drawn:=w0.drawn+1}:World):=hs0.same (dD.drew no w0)
 obtain ⟨vs,hvl,hF,hall⟩:=o0.out _ _ _ h
 have hfl:=ov hc.fl
 have hgf: ∀ (p i:Nat) (o:Oper),free[p]? =some i→ops[i]? =some o→(eB ops free)[p]? =some o:=fun p i o hp ho=>by rw [mw hc.fl,hp]; exact ho
 have hfg: ∀ (p:Nat) (o:Oper),(eB ops free)[p]? =some o→ ∃ i,free[p]? =some i∧ops[i]? =some o:=fun p o h=>by
  rw [mw hc.fl] at h
  cases hp:free[p]? with
  |none=>simp [hp] at h
  |some i=>exact ⟨i,rfl,by simpa [hp] using h⟩
 have hdlt: ∀ (j:Nat) (o:Oper) (d:Nat),(eB ops free)[j]? =some o→o.dst=some d→d<E.n:=fun j o d ho hd=>by
  obtain ⟨d',v,h1,h2,_⟩:=hall j o ho
  rw [h1] at hd; cases hd; exact h2
 -- all is listed
 have done: ∀ (listed:Array Bool) (a:Act) (w:World) (k:Nat) (Lk:List (Nat×Value)) (Ck:List aq) (af:Act),(∀ i,i<ops.size→listed.getD i false=true)→
  (∀ m i,T[m]? =some i→(listed.getD i false=true↔m<k))→a.defers=D→a.tmps.size=E.n→
  TJ E ops D C' C1 (fun L C=>KJ E (Q .normal) D L C) (tb.drop k) (eB ops (T.drop k)) Lk Ck→Fr E.n D Lk af→St E.S E.w0 Ck w→
  (∀ t,(∀ (p i:Nat) (o:Oper),free[p]? =some i→ops[i]? =some o→o.dst≠some t)→af.tmps[t]? =a.tmps[t]?)→
  (∀ (p i:Nat) (o:Oper) (d:Nat),free[p]? =some i→ops[i]? =some o→o.dst=some d→af.tmps[d]? =vs[p]? ∧(listed.getD i false=true→a.tmps[d]? =vs[p]?))→Q .normal a w:=by
  intro listed a w k Lk Ck af hal hTk hd hz hT hfr hst hslot hfree
  have hk:T.drop k=[]:=by
   rw [List.drop_eq_nil_iff]
   rcases Nat.lt_or_ge k T.length with hlt|hge
   ·have hi:=(hTk k _ (gv hlt)).1 (hal _ (hc.tl _ (List.getElem_mem hlt)))
    omega
   ·exact hge
  rw [hk] at hT
  have hT:KJ E (Q .normal) D Lk Ck:=by cases hb:tb.drop k<;>(rw [hb] at hT; exact hT)
  refine hT a w ⟨hd,hz,fun t v hv=>?_⟩ hst
  rw [← hfr.at_ t v hv]
  by_cases hw: ∃ (p i:Nat) (o:Oper),free[p]? =some i∧ops[i]? =some o∧o.dst=some t
  ·obtain ⟨p,i,o,hp,ho,hdst⟩:=hw
   obtain ⟨e1,e2⟩:=hfree p i o t hp ho hdst
   rw [e1,e2 (hal i (hc.fl i (aw hp)))]
  ·exact (hslot t (fun p i o hp ho hdst=>hw ⟨p,i,o,hp,ho,hdst⟩)).symm
 have key: ∀ (fuel:Nat) (listed:Array Bool) (a:Act) (w:World) (k:Nat) (Lk:List (Nat×Value)) (Ck:List aq) (af:Act),listed.size=ops.size→(z6 ops.size listed).length≤fuel→(∀ j,listed.getD j false=true→te ops (fun k=>listed.getD k false=true) j)→
  (∀ m i,T[m]? =some i→(listed.getD i false=true↔m<k))→a.defers=D→a.tmps.size=E.n→
  TJ E ops D C' C1 (fun L C=>KJ E (Q .normal) D L C) (tb.drop k) (eB ops (T.drop k)) Lk Ck→Fr E.n D Lk af→St E.S E.w0 Ck w→(∀ w,St E.S E.w0 Ck w→St E.S E.w0 C' w)→(∀ (p i:Nat),free[p]? =some i→(fe[p]?).getD false=true→listed.getD i false=false→ ∀ w,St E.S E.w0 Ck w→St E.S E.w0 C1 w)→
  (∀ t,(∀ (p i:Nat) (o:Oper),free[p]? =some i→ops[i]? =some o→o.dst≠some t)→af.tmps[t]? =a.tmps[t]?)→
  (∀ t,(∀ (i:Nat) (o:Oper),listed.getD i false=true→ops[i]? =some o→o.dst≠some t)→a.tmps[t]? =a0.tmps[t]?)→
  (∀ (p i:Nat) (o:Oper) (d:Nat),free[p]? =some i→ops[i]? =some o→o.dst=some d→af.tmps[d]? =vs[p]? ∧(listed.getD i false=true→a.tmps[d]? =vs[p]?))→
  wpAnyIn (Fw E.r) 0 E.P .any ops Q fuel listed a w:=by
  intro fuel
  induction fuel with
  |zero=>
   intro listed a w k Lk Ck af hsz hu hcl hTk hd hz hT hfr hst hsub hsub1 hslot hold hfree
   have hall': ∀ i,i<ops.size→listed.getD i false=true:=fun i hi=>by
    cases hg:listed.getD i false with
    |true=>rfl
    |false=>
     have:=List.length_pos_of_mem (mV.2 ⟨hi,hg⟩)
     omega
   refine ⟨?_,done listed a w k Lk Ck af hall' hTk hd hz hT hfr hst hslot hfree⟩
   rw [List.eq_nil_iff_forall_not_mem]
   intro i hi
   obtain ⟨h1,h2,_⟩:=lO hsz hi
   rw [hall' i h1] at h2; cases h2
  |succ fuel ih=>
   intro listed a w k Lk Ck af hsz hu hcl hTk hd hz hT hfr hst hsub hsub1 hslot hold hfree
   refine ⟨fun hnil=>?_,fun i hi=>?_⟩
   ·refine done listed a w k Lk Ck af (fun i hi=>?_) hTk hd hz hT hfr hst hslot hfree
    cases hg:listed.getD i false with
    |true=>rfl
    |false=>
     exfalso
     have hex: ∃ i,i<ops.size∧listed.getD i false=false:=⟨i,hi,hg⟩
     obtain ⟨j,hj,hmin⟩:=exists_least hex
     have hr:j∈Region.ready .any ops listed:=qZ hsz hj.1 hj.2 (fun o e ho he hb=>by
      have h1:=hc.zj j o e ho he hb
      cases hg:listed.getD e.on false with
      |true=>exact hg
      |false=>exact absurd (hmin e.on ⟨om,hg⟩) om)
     rw [hnil] at hr; cases hr
   ·obtain ⟨hi1,hi2,hi3⟩:=lO hsz hi
    obtain ⟨o,ho⟩: ∃ o,ops[i]? =some o:=⟨ops[i],Array.getElem?_eq_getElem hi1⟩
    obtain ⟨hsel,hdef⟩:=hc.plain i o ho
    have hset: ∀ j,(listed.setIfInBounds i true).getD j false=if j=i then true else listed.getD j false:=fun j=>ph om false
    have hun:=xM (n:=ops.size) (i:=i) (listed:=listed) om (mV.2 ⟨hi1,hi2⟩)
    have hcl': ∀ j,(listed.setIfInBounds i true).getD j false=true→te ops (fun k=>(listed.setIfInBounds i true).getD k false=true) j:=by
     intro j hj o' e ho' he hb
     show (listed.setIfInBounds i true).getD e.on false=true
     rw [hset] at hj ⊢
     by_cases e1:e.on=i
     ·simp [e1]
     ·simp only [e1,if_false]
      by_cases e2:j=i
      ·subst e2; exact hi3 o' e ho' he hb
      ·simp only [e2,if_false] at hj; exact hcl j hj o' e ho' he hb
    have hanc: ∀ j,g9 (oW ops) j i=true→listed.getD j false=true:=fun j hj=>iM (S:=fun k=>listed.getD k false=true) hcl hj hi3
    have hnanc: ∀ j,g9 (oW ops) i j=true→listed.getD j false=false:=fun j hj=>by
     cases hg:listed.getD j false with
     |false=>rfl
     |true=>
      have:=iM (S:=fun k=>listed.getD k false=true) hcl hj (hcl j hg)
      rw [this] at hi2; cases hi2
    unfold wpOpIn
    simp only [ho]
    rcases hc.cover i hi1 with hin|hin
    ·-- a free one
     obtain ⟨p,hp⟩:=List.mem_iff_getElem?.1 hin
     obtain ⟨d,v,hod,hdn,hvi,hsd⟩:=hall p o (hgf p i o hp ho)
     have hfrp:=kL (eB ops free) vs p L a0 hdlt hf0
     have hlook: ∀ t∈o.looksAt ops,a.tmps[t]? =(kM (eB ops free) vs p a0).tmps[t]? :=by
      intro t htl
      by_cases hw: ∃ (q j:Nat) (r:Oper),free[q]? =some j∧q≠p∧ops[j]? =some r∧r.dst=some t
      ·obtain ⟨q,j,r,hq,hne,hr,hrd⟩:=hw
       obtain ⟨d',v',e1,e2,e3,_⟩:=hall q r (hgf q j r hq hr)
       rw [hrd] at e1; cases e1
       have hap:=hc.apart p q i j o r t hp hq hne ho hr hrd
       rcases hap.2 htl with ⟨hlt,ha⟩|⟨hlt,ha⟩
       ·rw [(hfree q j r t hq hr hrd).2 (hanc j ha),e3]
        refine (kD (eB ops free) vs p a0 q r t v' hlt (hgf q j r hq hr) hrd (by rw [hf0.size]; exact e2) e3 (fun m u hm hne' hu=>?_)).symm
        obtain ⟨x,hx1,hx2⟩:=hfg m u hu
        exact (hc.apart m q x j u r t hx1 hq (Ne.symm hne') hx2 hr hrd).1
       ·have hnS:=hnanc j ha
        refine (hold t (fun m u hm hu hud=>?_)).trans (fj (eB ops free) vs p a0 t (fun m u hm hu hud=>?_)).symm
        ·rcases hc.cover m (Array.getElem?_eq_some_iff.1 hu).1 with hmf|hmT
         ·obtain ⟨x,hx⟩:=List.mem_iff_getElem?.1 hmf
          by_cases e:x=q
          ·subst e; rw [hq] at hx; cases hx; rw [hm] at hnS; cases hnS
          ·exact (hc.apart x q m j u r t hx hq (Ne.symm e) hu hr hrd).1 hud
         ·exact (hc.ft j m r u (aw hq) hmT hr hu).1 (by rw [hud,hrd])
        ·obtain ⟨x,hx1,hx2⟩:=hfg m u hu
         exact (hc.apart m q x j u r t hx1 hq om hx2 hr hrd).1 hud
      ·refine (hold t (fun m u hm hu hud=>?_)).trans (fj (eB ops free) vs p a0 t (fun m u hm hu hud=>?_)).symm
       ·rcases hc.cover m (Array.getElem?_eq_some_iff.1 hu).1 with hmf|hmT
        ·obtain ⟨x,hx⟩:=List.mem_iff_getElem?.1 hmf
         by_cases e:x=p
         ·subst e; rw [hp] at hx; cases hx; rw [hm] at hi2; cases hi2
         ·exact hw ⟨x,m,u,hx,e,hu,hud⟩
        ·have:=hnanc m ((hc.ft i m o u hin hmT ho hu).2.1 t hud htl)
         rw [hm] at this; cases this
       ·obtain ⟨x,hx1,hx2⟩:=hfg m u hu
        exact hw ⟨m,x,u,hx1,om,hx2,hud⟩
     have hTi: ∀ m j,T[m]? =some j→j≠i:=fun m j hmj e=>hc.Gp j (aw hmj) (e▸hin)
     have hgo: ∀ w',dD no w w'→wpAnyIn (Fw E.r) 0 E.P .any ops Q fuel (listed.setIfInBounds i true) (a.put (some d) v) w':=by
      intro w' hk
      refine ih _ _ w' k Lk Ck af (by simpa using hsz) om hcl' (fun m j hmj=>?_) hd (by simp [Act.put,hz]) hT hfr (hst.same hk) hsub (fun p' i' hp' hf' hl'=>hsub1 p' i' hp' hf' (by rw [hset] at hl'; by_cases e:i'=i; (rw [if_pos e] at hl'; cases hl'); (rwa [if_neg e] at hl'))) (fun t ht=>?_) (fun t ht=>?_) (fun q j r d' hq hr hrd=>?_)
      ·rw [hset,if_neg (hTi m j hmj)]; exact hTk m j hmj
      ·have hne:d≠t:=fun e=>ht p i o hp ho (by rw [hod,e])
       simp only [Act.put]
       rw [Array.getElem?_setIfInBounds_ne hne]
       exact hslot t ht
      ·have hne:d≠t:=fun e=>ht i o (by rw [hset]; simp) ho (by rw [hod,e])
       simp only [Act.put]
       rw [Array.getElem?_setIfInBounds_ne hne]
       exact hold t (fun m u hm hu=>ht m u (by rw [hset]; split<;>simp [hm]) hu)
      ·refine ⟨(hfree q j r d' hq hr hrd).1,fun hl=>?_⟩
       by_cases e:q=p
       ·subst e
        rw [hp] at hq; cases hq
        rw [ho] at hr; cases hr
        rw [hod] at hrd; cases hrd
        simp only [Act.put]
        rw [Array.getElem?_setIfInBounds_self_of_lt (by rw [hz]; exact hdn),hvi]
       ·have hne:=(hc.apart p q i j o r d' hp hq e ho hr hrd).1
        simp only [Act.put]
        rw [Array.getElem?_setIfInBounds_ne (fun h=>hne (by rw [hod,h]))]
        refine (hfree q j r d' hq hr hrd).2 ?_
        rw [hset] at hl
        by_cases e2:j=i
        ·subst e2
         exact absurd (by rw [ho] at hr; cases hr; rw [hod] at hrd ⊢; exact hrd) hne
        ·simpa [e2] using hl
     refine rn hsd hod hdn hsel hdef hfrp hlook ?_ hgo
     cases hfl:(fe[p]?).getD false with
     |true=>exact hsub1 p i hp hfl hi2 w hst
     |false=>exact hsub w hst
    ·-- one of the others
     obtain ⟨m,hm'⟩:=List.mem_iff_getElem?.1 hin
     have hmk:m=k:=by
      have h1: ¬ m<k:=fun h=>by have:=(hTk m i hm').2 h; rw [this] at hi2; cases hi2
      rcases Nat.lt_or_ge k m with h2|h2
      ·have hkT:k<T.length:=by have:=(List.getElem?_eq_some_iff.1 hm').1; omega
       have:=hanc _ (hc.chain m k i _ hm' (gv hkT) h2).2
       have:=(hTk k _ (gv hkT)).1 this
       omega
      ·omega
     subst hmk
     have hdrop:eB ops (T.drop m)=o::eB ops (T.drop (m+1)):=by
      have hlt:=(List.getElem?_eq_some_iff.1 hm').1
      have hx:T[m]=i:=(List.getElem?_eq_some_iff.1 hm').2
      rw [List.drop_eq_getElem_cons hlt,hx]
      simp [eB,ho]
     rw [hdrop] at hT
     have hbh:(tb.drop m).headD false=(tb[m]?).getD false:=by rw [List.headD_eq_head?_getD,List.head?_drop]
     have hbt:(tb.drop m).tail=tb.drop (m+1):=by simp
     have hT: ∀ K:Act→World→Prop,(∀ L' C'',(∀ w,St E.S E.w0 C'' w→St E.S E.w0 C' w)→((tb.drop m).headD false=true→ ∀ w,St E.S E.w0 C'' w→St E.S E.w0 C1 w)→TJ E ops D C' C1 (fun L C=>KJ E (Q .normal) D L C) (tb.drop m).tail (eB ops (T.drop (m+1))) L' C''→KJ E K D L' C'')→RJ E ops (NQ K) [o] D Lk Ck:=by
      cases hb:tb.drop m<;>(rw [hb] at hT; exact hT)
     rw [hbh,hbt] at hT
     have hlook: ∀ t∈o.looksAt ops,a.tmps[t]? =af.tmps[t]? :=by
      intro t htl
      by_cases hw: ∃ (q j:Nat) (r:Oper),free[q]? =some j∧ops[j]? =some r∧r.dst=some t
      ·obtain ⟨q,j,r,hq,hr,hrd⟩:=hw
       have ha:=(hc.ft j i r o (aw hq) hin hr ho).2.2 t hrd htl
       obtain ⟨e1,e2⟩:=hfree q j r t hq hr hrd
       rw [e1,e2 (hanc j ha)]
      ·exact (hslot t (fun q j r hq hr hrd=>hw ⟨q,j,r,hq,hr,hrd⟩)).symm
     refine BW hsel hdef hlook (hT (fun af' w'=>af'.defers=D∧ ∃ L' C'',(∀ w,St E.S E.w0 C'' w→St E.S E.w0 C' w)∧((tb[m]?).getD false=true→ ∀ w,St E.S E.w0 C'' w→St E.S E.w0 C1 w)∧TJ E ops D C' C1 (fun L C=>KJ E (Q .normal) D L C) (tb.drop (m+1)) (eB ops (T.drop (m+1))) L' C''∧Fr E.n D L' af'∧St E.S E.w0 C'' w')
      (fun L' C'' h1 h1' h2 af' w' h3 h4=>⟨h3.defers,L',C'',h1,h1',h2,h3,h4⟩) af w hfr hst) (fun b w' hb=>hb.1.trans hfr.defers.symm) ?_
     rintro u w' ⟨_,L',C'',h1,h1',h2,h3,h4⟩
     have hput: ∀ (b:Act) (t:Nat),o.dst≠some t→(b.put o.dst u).tmps[t]? =b.tmps[t]? :=fun b t hne=>by
      cases hod:o.dst with
      |none=>rfl
      |some d=>simp only [Act.put]; rw [Array.getElem?_setIfInBounds_ne (fun e=>hne (by rw [hod,e]))]
     have hputs: ∀ (b:Act),(b.put o.dst u).tmps.size=b.tmps.size:=fun b=>by cases o.dst<;>simp [Act.put]
     refine ih _ _ w' (m+1) L' C'' (af.put o.dst u) (by simpa using hsz) om hcl' (fun q j hq=>?_) (by cases o.dst<;>exact hd) (by rw [hputs]; exact hz) h2 h3 h4 h1 (fun p' i' hp' hf' hl'=>by
      rcases hc4 p' m i' i hp' hm' hf' with h5|h5
      ·exact h1' h5
      ·have h6:=hanc i' h5
       rw [hset] at hl'
       by_cases e:i'=i
       ·rw [if_pos e] at hl'; cases hl'
       ·rw [if_neg e,h6] at hl'; cases hl') (fun t ht=>?_) (fun t ht=>?_) (fun q j r d' hq hr hrd=>?_)
     ·rw [hset]
      by_cases e:j=i
      ·subst e
       simp only [if_true,true_iff]
       rcases Nat.lt_trichotomy q m with h5|h5|h5
       ·omega
       ·omega
       ·exact absurd rfl (hc.chain q m j j hq hm' h5).1
      ·simp only [e,if_false]
       rw [hTk q j hq]
       constructor
       ·omega
       ·intro h5
        rcases Nat.lt_or_ge q m with h6|h6
        ·exact h6
        ·have:q=m:=by omega
         subst this; rw [hm'] at hq; cases hq; exact absurd rfl e
     ·by_cases hod:o.dst=some t
      ·rw [hod]
       simp only [Act.put]
       by_cases hlt:t<E.n
       ·rw [Array.getElem?_setIfInBounds_self_of_lt (by rw [hfr.size]; exact hlt),Array.getElem?_setIfInBounds_self_of_lt (by rw [hz]; exact hlt)]
       ·rw [Array.getElem?_eq_none (by rw [Array.size_setIfInBounds,hfr.size]; exact Nat.le_of_not_lt hlt),Array.getElem?_eq_none (by rw [Array.size_setIfInBounds,hz]; exact Nat.le_of_not_lt hlt)]
      ·rw [hput a t hod,hput af t hod]; exact hslot t ht
     ·rw [hput a t (ht i o (by rw [hset]; simp) ho)]
      exact hold t (fun m' u' hm'' hu'=>ht m' u' (by rw [hset]; split<;>simp [hm'']) hu')
     ·have hne:o.dst≠some d':=fun e=>(hc.ft j i r o (aw hq) hin hr ho).1 (by rw [e,hrd])
      rw [hput a d' hne,hput af d' hne]
      refine ⟨(hfree q j r d' hq hr hrd).1,fun hl=>(hfree q j r d' hq hr hrd).2 ?_⟩
      rw [hset] at hl
      have:j≠i:=fun e=>hc.Gp i hin (e▸aw hq)
      simpa [this] using hl
 refine key ops.size (Array.replicate ops.size false) a0 _ 0 _ C (kM (eB ops free) vs (eB ops free).length a0) sm ?_ ?_ ?_ hf0.defers hf0.size (by simpa using hF) (kL _ vs _ L a0 hdlt hf0) hs1 hC (fun _ _ _ _ _=>hC1) ?_ (fun _ _=>rfl) ?_
 ·unfold z6; exact Nat.le_trans (List.length_filter_le _ _) sm
 ·intro j hj
  simp only [Array.getD_eq_getD_getElem?,Array.getElem?_replicate] at hj
  split at hj<;>simp at hj
 ·intro m i _
  simp only [Array.getD_eq_getD_getElem?,Array.getElem?_replicate]
  split<;>simp
 ·intro t ht
  refine fj _ vs _ a0 t (fun m u _ hu hud=>?_)
  obtain ⟨x,hx1,hx2⟩:=hfg m u hu
  exact ht m x u hx1 hx2 hud
 ·intro p i o d hp ho hod
  obtain ⟨d',v',e1,e2,e3,_⟩:=hall p o (hgf p i o hp ho)
  rw [hod] at e1; cases e1
  refine ⟨?_,fun hl=>?_⟩
  ·rw [e3]
   refine kD _ vs _ a0 p o d v' (by rw [hfl]; exact (List.getElem?_eq_some_iff.1 hp).1) (hgf p i o hp ho) hod (by rw [hf0.size]; exact e2) e3 (fun m u hm hne hu=>?_)
   obtain ⟨x,hx1,hx2⟩:=hfg m u hu
   exact (hc.apart m p x i u o d hx1 hp (Ne.symm hne) hx2 ho hod).1
  ·simp only [Array.getD_eq_getD_getElem?,Array.getElem?_replicate] at hl
   split at hl<;>simp at hl
theorem fp {E:e9} {ops:Array Oper} {D:List Deferred} {C' C1:List aq} {F:List (Nat×Value)→Prop} {bs:List Bool} {l:List Oper} {L:List (Nat×Value)} (hl:l=[]) (h:F L):o0 E ops D C' C1 F bs l L:=by subst hl; cases bs<;>exact h
theorem Ky {E:e9} {ops:Array Oper} {D:List Deferred} {C' C1:List aq} {F:List (Nat×Value)→Prop} {bs:List Bool} {o:Oper} {l rest:List Oper} {L:List (Nat×Value)} {v:Value} {d:Nat} (h:SD E ops o D L C' v) (hl:l=o::rest) (ho:o.dst=some d) (hd:Nat.blt d E.n=true) (k:o0 E ops D C' C1 F bs rest ((d,v)::L)):
 o0 E ops D C' C1 F (false::bs) l L:=by subst hl; exact ⟨d,v,ho,by rw [← Nat.blt_eq]; exact hd,h,k⟩
theorem Lq {E:e9} {ops:Array Oper} {D:List Deferred} {C' C1:List aq} {F:List (Nat×Value)→Prop} {bs:List Bool} {o:Oper} {l rest:List Oper} {L:List (Nat×Value)} {v:Value} {d:Nat} (h:SD E ops o D L C1 v) (hl:l=o::rest) (ho:o.dst=some d) (hd:Nat.blt d E.n=true) (k:o0 E ops D C' C1 F bs rest ((d,v)::L)):
 o0 E ops D C' C1 F (true::bs) l L:=by subst hl; exact ⟨d,v,ho,by rw [← Nat.blt_eq]; exact hd,h,k⟩
theorem gh {E:e9} {ops:Array Oper} {D:List Deferred} {C' C1:List aq} {F:List (Nat×Value)→List aq→Prop} {bs:List Bool} {l:List Oper} {L:List (Nat×Value)} {C:List aq} (hl:l=[]) (h:F L C):TJ E ops D C' C1 F bs l L C:=by subst hl; cases bs<;>exact h
theorem cr {E:e9} {ops:Array Oper} {D:List Deferred} {C' C1:List aq} {F:List (Nat×Value)→List aq→Prop} {bs:List Bool} {l T:List Oper} {o:Oper} {L:List (Nat×Value)} {C:List aq} (hl:l=o::T)
 (h: ∀ K:Act→World→Prop,(∀ L' C'',(∀ w,St E.S E.w0 C'' w→St E.S E.w0 C' w)→TJ E ops D C' C1 F bs T L' C''→KJ E K D L' C'')→RJ E ops (NQ K) [o] D L C):TJ E ops D C' C1 F (false::bs) l L C:=by
 subst hl; exact fun K hK=>h K fun L' C'' h1 h2=>hK L' C'' h1 (fun h=>by cases h) h2
theorem l8 {E:e9} {ops:Array Oper} {D:List Deferred} {C' C1:List aq} {F:List (Nat×Value)→List aq→Prop} {bs:List Bool} {l T:List Oper} {o:Oper} {L:List (Nat×Value)} {C:List aq} (hl:l=o::T)
 (h: ∀ K:Act→World→Prop,(∀ L' C'',(∀ w,St E.S E.w0 C'' w→St E.S E.w0 C' w)→(∀ w,St E.S E.w0 C'' w→St E.S E.w0 C1 w)→TJ E ops D C' C1 F bs T L' C''→KJ E K D L' C'')→RJ E ops (NQ K) [o] D L C):TJ E ops D C' C1 F (true::bs) l L C:=by
 subst hl; exact fun K hK=>h K fun L' C'' h1 h3 h2=>hK L' C'' h1 (fun _=>h3) h2
theorem TJ.sub {E:e9} {ops:Array Oper} {Q:dj} {D:List Deferred} {C' C1 C:List aq}: ∀ {bs:List Bool} {T:List Oper} {L L':List (Nat×Value)},dK L L'→TJ E ops D C' C1 (fun L C=>KJ E (Q .normal) D L C) bs T L' C→TJ E ops D C' C1 (fun L C=>KJ E (Q .normal) D L C) bs T L C:=by
 intro bs T
 cases T with
 |nil=>intro L L' hs h; cases bs<;>exact jz hs (fun _ h=>h) h
 |cons o T=>intro L L' hs h; cases bs<;>exact fun K hK=>I8 hs (fun _ h=>h) (h K hK)
theorem o0.mono {E:e9} {ops:Array Oper} {D:List Deferred} {C' C1:List aq} {F:List (Nat×Value)→Prop} (hF: ∀ L L',dK L L'→F L'→F L): ∀ {bs:List Bool} {os:List Oper} {L L':List (Nat×Value)},dK L L'→o0 E ops D C' C1 F bs os L'→o0 E ops D C' C1 F bs os L:=by
 intro bs os
 induction os generalizing bs with
 |nil=>intro L L' hs h; cases bs<;>exact hF _ _ hs h
 |cons o os ih=>
  intro L L' hs h
  have h': ∃ d v,o.dst=some d∧d<E.n∧SD E ops o D L' (bif bs.headD false then C1 else C') v∧o0 E ops D C' C1 F bs.tail os ((d,v)::L'):=by cases bs<;>exact h
  obtain ⟨d,v,ho,hd,hsd,hk⟩:=h'
  have h2: ∃ d v,o.dst=some d∧d<E.n∧SD E ops o D L (bif bs.headD false then C1 else C') v∧o0 E ops D C' C1 F bs.tail os ((d,v)::L):=⟨d,v,ho,hd,hsd.sub hs,ih (hs.head d v) hk⟩
  cases bs<;>exact h2
theorem pS {E:e9} {ops:Array Oper} {Q:dj} {D:List Deferred} {C' C1 C:List aq} {bs ts:List Bool} {T os:List Oper} {L:List (Nat×Value)} {t:Nat} {b:Bool} (h:L.lookup t=some (.bool b))
 (h1:b=true→o0 E ops D C' C1 (fun L'=>TJ E ops D C' C1 (fun L C=>KJ E (Q .normal) D L C) ts T L' C) bs os ((t,.bool true)::L)) (h2:b=false→o0 E ops D C' C1 (fun L'=>TJ E ops D C' C1 (fun L C=>KJ E (Q .normal) D L C) ts T L' C) bs os ((t,.bool false)::L)):
 o0 E ops D C' C1 (fun L'=>TJ E ops D C' C1 (fun L C=>KJ E (Q .normal) D L C) ts T L' C) bs os L:=by
 have hsub: ∀ v:Bool,b=v→dK L ((t,.bool v)::L):=fun v hv=>dK.cons (hv▸h) (fun _ _ h=>h)
 cases b
 ·exact o0.mono (fun _ _=>TJ.sub) (hsub _ rfl) (h2 rfl)
 ·exact o0.mono (fun _ _=>TJ.sub) (hsub _ rfl) (h1 rfl)
end
section
open Go.ChangeShapes Go.WideShapes Go.ChangeAt Go.RowKit
/-- whatever reads at a type has these cells, and this is so of memory -/
def qJ (P:Program) (t:TypeId) (α:Type) (cells:α→List Value) (R:World→α→Prop):Prop:=
 ∀ {H:Type} (enc:TypeId×Value→H) (w:World) (base:Nat) (sp:Nat→Bool) (held:Bool) (fuel:Nat) (cs:List Value) (x:DataW H×List MemPlace),
  DataW.trod enc P w base sp held fuel t cs=some x→ ∃ s:α,cs=cells s∧R w s
theorem GO {P:Program} {t:TypeId} {k:IntKind} (ht:P.underlying t=some (.int k)):qJ P t Int (fun n=>[.int k n]) (fun _ n=>k.min≤n∧n≤k.max):=fun {H} enc w base sp held fuel cs x h=>by
 obtain ⟨n,rfl,_,hw⟩:=DataW.trod_int ht h
 refine ⟨n,rfl,?_⟩
 simpa [Lit.wf] using hw
theorem JO {P:Program} {t:TypeId} (ht:P.underlying t=some (.int .i64)):qJ P t Int iC (fun _ n=>o4 n):=GO ht
theorem Md {P:Program} {t:TypeId} (ht:P.underlying t=some (.int .u8)):qJ P t Int Gl (fun _ n=>0≤n∧n≤255):=GO ht
theorem HU {P:Program} {t:TypeId} (ht:P.underlying t=some .bool):qJ P t Bool (fun n=>[.bool n]) (fun _ _=>True):=fun {H} enc w base sp held fuel cs x h=>by
 obtain ⟨n,rfl,_⟩:=DataW.trod_bool ht h
 exact ⟨n,rfl,trivial⟩
theorem jc {H:Type} {enc:TypeId×Value→H} {P:Program} {w:World} {base:Nat} {sp:Nat→Bool} {held:Bool} {fuel t:Nat} {cs:List Value} {x:DataW H×List MemPlace} {l:List (Nat×Nat)} (hl:fL P t=some l)
 (h:DataW.trod enc P w base sp held fuel t cs=some x):cs.length=P.cellsOf t∧ ∀ (i ft off:Nat),l[i]? =some (ft,off)→ ∃ n y,DataW.trod enc P w base sp held n ft ((cs.drop off).take (P.cellsOf ft))=some y:=by
 unfold fL at hl
 cases hu:P.underlying t with
 |none=>simp [hu] at hl
 |some d=>
  cases d<;>simp [hu] at hl
  rename_i fs
  obtain ⟨xs,n,_,_,hlen,hsz,hf⟩:=DataW.trod_struct hu h
  refine ⟨hlen,fun i ft off hi=>?_⟩
  have hl2:=hl.2
  subst hl2
  simp only [fq,Option.map_eq_some_iff] at hi
  obtain ⟨f,hfi,hfe⟩:=hi
  simp only [Prod.mk.injEq] at hfe
  obtain ⟨rfl,rfl⟩:=hfe
  have hfi':fs[i]? =some f:=by simpa using hfi
  have hil:i<xs.length:=by rw [hsz]; exact (Array.getElem?_eq_some_iff.1 hfi').1
  exact ⟨n,xs[i],by rw [hf i f hfi',gv hil]⟩
theorem gI {cs a:List Value} {o n m:Nat} (hl:cs.length=m) (hm:o+n=m) (h:(cs.drop o).take n=a):cs.drop o=a:=by
 rwa [List.take_of_length_le (by rw [List.length_drop]; omega)] at h
theorem df {cs a b:List Value} {o n m:Nat} (h:(cs.drop o).take n=a) (hm:o+n=m) (hb:cs.drop m=b):cs.drop o=a++b:=by
 rw [← h,← hb,← hm,← List.drop_drop,List.take_append_drop]
theorem lQ {P:Program} {t e sz:Nat} {α:Type} {cells:α→List Value} {R:World→α→Prop} (ht:P.underlying t=some (.slice e)) (hc:P.cellsOf e=sz) (he:qJ P e α cells R):
 qJ P t bB (fun s=>[.slice s.a s.n s.c]) (fun w s=> ∃ l:List α,s.n=l.length∧(rd s.a l.length sz (l.map cells)).holds w∧(∀ x∈l,R w x)∧l.length≤maxLen∧s.n≤s.c):=fun {H} enc w base sp held fuel cs x h=>by
 rcases Go.Deep.open_slice ht h with ⟨rfl,_⟩|⟨a,len,cap,m,n,D,Pl,rfl,hb,hl,hm,hmm,hx,hi⟩
 ·exact ⟨⟨none,0,0⟩,rfl,[],rfl,⟨rfl,sm,fun h=>by simp at h⟩,sm,Nat.zero_le _,Nat.le_refl _⟩
 ·rw [hc] at hi
  have hlm:len≤m:=by rw [hmm]; split<;>omega
  have hex: ∀ k:Nat,k≤len→ ∃ l:List α,l.length=k∧(∀ x∈l,R w x)∧ ∀ (i:Nat) (x:α),l[i]? =some x→(cells x).length=sz∧ ∀ (j:Nat) v,(cells x)[j]? =some v→w.cell? (a.add (i*sz+j))=some v:=by
   intro k
   induction k with
   |zero=>exact fun _=>⟨[],rfl,sm,sm⟩
   |succ k ih=>
    intro hk
    obtain ⟨l,h1,h2,h3⟩:=ih om
    obtain ⟨cs',hcs,htr⟩:=hi k om
    obtain ⟨_,hcl,hat⟩:=World.cells?_some hcs
    obtain ⟨s,rfl,hR⟩:=he enc w base sp held n cs' _ htr
    refine ⟨l++[s],by simp [h1],fun x hx=>?_,fun i x hx=>?_⟩
    ·rcases List.mem_append.1 hx with hx|hx
     ·exact h2 x hx
     ·simp at hx; subst hx; exact hR
    ·by_cases hil:i<l.length
     ·rw [List.getElem?_append_left hil] at hx; exact h3 i x hx
     ·have hik:i=k:=by
       have:=(List.getElem?_eq_some_iff.1 hx).1
       simp at this; omega
      subst hik
      rw [List.getElem?_append_right om,h1] at hx
      simp at hx; subst hx
      refine ⟨hcl,fun j v hj=>?_⟩
      have hjl:j<sz:=by rw [← hcl]; exact (List.getElem?_eq_some_iff.1 hj).1
      rw [← yf,hat j hjl,hj]
  obtain ⟨l,h1,h2,h3⟩:=hex len (Nat.le_refl _)
  refine ⟨⟨some a,len,cap⟩,rfl,l,h1.symm,⟨sm,fun e he'=>?_,fun _=>⟨a,rfl,fun i e' j v hi' hj=>?_⟩⟩,h2,om,hl⟩
  ·obtain ⟨x,hx,rfl⟩:=List.mem_map.1 he'
   obtain ⟨i,hi'⟩:=List.getElem?_of_mem hx
   exact (h3 i x hi').1
  ·rw [fq] at hi'
   obtain ⟨x,hx,rfl⟩:=Option.map_eq_some_iff.1 hi'
   exact (h3 i x hx).2 j v hj
theorem AZ {H:Type} {enc:TypeId×Value→H} {P:Program} {w:World} {base:Nat} {sp:Nat→Bool} {held:Bool} {r:Reach} {b0:Nat} {t:TypeId} {l:List (Nat×Nat)} {v:Value} {d:DataW H} {p:List MemPlace} {α:Type} {cells:α→List Value} {R:World→α→Prop}
 (hl:fL P t=some l) (ho:qJ P t α cells R) (hv:Value.okWide P w r b0 t v) (h:DataW.Trod enc P w base sp held t v d p): ∃ s,v= .agg (cells s).toArray∧R w s:=by
 unfold fL at hl
 cases hu:P.underlying t with
 |none=>simp [hu] at hl
 |some d=>
  cases d<;>simp [hu] at hl
  rename_i fs
  obtain ⟨cs,rfl,hsz⟩:=okWide_struct hu hv
  obtain ⟨fuel,hf⟩:=h
  obtain ⟨s,hc,hR⟩:=ho enc w base sp held fuel _ _ hf
  refine ⟨s,?_,hR⟩
  simp only [Value.cells] at hc
  rw [← hc]
theorem Cn {H:Type} {enc:TypeId×Value→H} {P:Program} {w:World} {base:Nat} {sp:Nat→Bool} {held:Bool} {r:Reach} {b0:Nat} {t:TypeId} {k:IntKind} {v:Value} {d:DataW H} {p:List MemPlace}
 (ht:P.underlying t=some (.int k)) (hv:Value.okWide P w r b0 t v) (h:DataW.Trod enc P w base sp held t v d p): ∃ n,v= .int k n∧k.min≤n∧n≤k.max:=by
 obtain ⟨n,rfl,_,_,hw⟩:=open_int ht hv h
 refine ⟨n,rfl,?_⟩
 simpa [Lit.wf] using hw
section
variable {H:Type} {enc:TypeId×Value→H} {P:Program}
theorem qh (hl:laidOutB P=true) {W W':World} {sp:Nat→Bool} (hb:Below W.heap.size W W'): ∀ (ts:List TypeId) (vs:List Value) (ds:List (DataW H)) (ps:List MemPlace),(ts.all fun t=>P.readableRec t&&decide (t<P.types.size))=true→
 DataW.TrodAll enc P W 0 (fun _=>true) true ts vs ds ps→(∀ x∈ps,x.block<W.heap.size)→(∀ x∈ps,sp x.block=true)→DataW.TrodAll enc P W' 0 sp true ts vs ds ps
 |[],[],[],ps,_,h,_,_=>h
 |t::ts,v::vs,d::ds,ps,ha,h,hlt,hsp=>by
  obtain ⟨p,q,h1,h2,rfl⟩:=h
  simp only [cg,cS,decide_eq_true_eq] at ha
  refine ⟨p,q,?_,qh hl hb ts vs ds q ha.2 h2 (fun x hx=>hlt x (List.mem_append_right _ hx)) (fun x hx=>hsp x (List.mem_append_right _ hx)),rfl⟩
  exact WideElems.Trod_stays hl ha.1.1 ha.1.2 h1 (fun x hx=>hb.same (hlt x (List.mem_append_left _ hx))) (fun x hx=>hsp x (List.mem_append_left _ hx))
 |[],[],_::_,_,_,h,_,_=>h.elim
 |[],_::_,_,_,_,h,_,_=>h.elim
 |_::_,[],_,_,_,h,_,_=>h.elim
 |_::_,_::_,[],_,_,h,_,_=>h.elim
/-- a law that said true and kept all that was there has answered its row -/
theorem E8 {f:Func} {s:ChangeSpec} {apart fresh handsOn:Bool} {W W':World} {args:Array Value} {ds:List (DataW H)} {p:List MemPlace} {bt:TypeId} (hl:laidOutB P=true)
 (hW:DataW.Whole enc P f.params.toList s.vars apart W args.toList ds [] p) (hA:DataW.TrodAll enc P W 0 (fun _=>true) true f.params.toList args.toList ds p)
 (hv:s.vars=[]) (hs:s.fn H (ds++[])={results:=[.lit (.bool true)],args:=ds}) (hr:(f.params.toList.all fun t=>P.readableRec t&&decide (t<P.types.size))=true)
 (hb:Below W.heap.size W W') (ht:f.resultTypes= #[bt]) (hu:P.underlying bt=some .bool):s.post enc P f apart fresh handsOn false W args (.bool true) W':=by
 have hlt: ∀ x∈p,x.block<W.heap.size:=fun x hx=>hW.lt x hx
 refine ⟨ds,[],p,[],p,[],hW,?_,?_,?_,World.keptBut_mono (fun x hx=>⟨hx,.inr (.inl hx)⟩) (hb.frame (· ∈p)),fun h=>by cases h⟩
 ·rw [hs,ht]; exact trodAll_mk1 (shut_bool hu _)
 ·rw [hs]; exact qh hl hb _ _ _ _ hr hA hlt (fun x hx=>by simpa using hlt x hx)
 ·rw [hs,hv]; rfl
end
end
section
@[ext] structure bL where
 kl:bB
 deriving DecidableEq
def bL.cells (s:bL):List Value:=[vS s.kl.a s.kl.n s.kl.c]
theorem bL.aX (s:bL):s.cells.length=1:=rfl
@[ext] structure cE where
 aH:bL
 lX:Int
 aj:bB
 ab:bB
 cz:Int
 iH:Int
 e8:Int
 deriving DecidableEq
def cE.cells (s:cE):List Value:=bL.cells s.aH++(vI s.lX::(vS s.aj.a s.aj.n s.aj.c::(vS s.ab.a s.ab.n s.ab.c::(vI s.cz::(vI s.iH::([vI s.e8]))))))
theorem cE.aX (s:cE):s.cells.length=7:=rfl
@[ext] structure eT where
 aD:cE
 aF:bB
 cG:bB
 qV:Int
 ay:bB
 deriving DecidableEq
def eT.cells (s:eT):List Value:=cE.cells s.aD++(vS s.aF.a s.aF.n s.aF.c::(vS s.cG.a s.cG.n s.cG.c::(vI s.qV::([vS s.ay.a s.ay.n s.ay.c]))))
theorem eT.aX (s:eT):s.cells.length=11:=rfl
structure eC where
 Race:eT
 times:bB
 MQ:Value
def eC.cells (s:eC):List Value:=eT.cells s.Race++(vS s.times.a s.times.n s.times.c::([s.MQ]))
theorem eC.aX (s:eC):s.cells.length=13:=rfl
@[ext] structure aa where
 Lo:Int
 Hi:Int
 deriving DecidableEq
def aa.cells (s:aa):List Value:=vI s.Lo::([vI s.Hi])
theorem aa.aX (s:aa):s.cells.length=2:=rfl
@[ext] structure eE where
 Start:Int
 fR:Int
 ag:bB
 deriving DecidableEq
def eE.cells (s:eE):List Value:=vI s.Start::(vI s.fR::([vS s.ag.a s.ag.n s.ag.c]))
theorem eE.aX (s:eE):s.cells.length=3:=rfl
@[ext] structure bD where
 Out:Bool
 dM:Bool
 Time:aa
 bP:eE
 deriving DecidableEq
def bD.cells (s:bD):List Value:=vB s.Out::(vB s.dM::(aa.cells s.Time++(eE.cells s.bP)))
theorem bD.aX (s:bD):s.cells.length=7:=rfl
structure lZ where
 is:Value
 time:Value
def lZ.cells (s:lZ):List Value:=s.is::([s.time])
theorem lZ.aX (s:lZ):s.cells.length=2:=rfl
@[ext] structure ao where
 right:Int
 dG:Int
 deriving DecidableEq
def ao.cells (s:ao):List Value:=vI s.right::([vI s.dG])
theorem ao.aX (s:ao):s.cells.length=2:=rfl
@[ext] structure bK where
 aD:cE
 wu:eE
 least:bB
 times:bB
 forward:bB
 back:bB
 deriving DecidableEq
def bK.cells (s:bK):List Value:=cE.cells s.aD++(eE.cells s.wu++(vS s.least.a s.least.n s.least.c::(vS s.times.a s.times.n s.times.c::(vS s.forward.a s.forward.n s.forward.c::([vS s.back.a s.back.n s.back.c])))))
theorem bK.aX (s:bK):s.cells.length=14:=rfl
@[ext] structure ah where
 Id:Int
 j5:aa
 kU:aa
 dR:aa
 iy:Int
 xH:Int
 deriving DecidableEq
def ah.cells (s:ah):List Value:=vI s.Id::(aa.cells s.j5++(aa.cells s.kU++(aa.cells s.dR++(Value.int .u8 s.iy::([vI s.xH])))))
theorem ah.aX (s:ah):s.cells.length=9:=rfl
@[ext] structure cY where
 aH:bL
 deriving DecidableEq
def cY.cells (s:cY):List Value:=bL.cells s.aH
theorem cY.aX (s:cY):s.cells.length=1:=rfl
@[ext] structure cL where
 ar:Int
 gk:aa
 deriving DecidableEq
def cL.cells (s:cL):List Value:=vI s.ar::(aa.cells s.gk)
theorem cL.aX (s:cL):s.cells.length=3:=rfl
@[ext] structure bx where
 lU:cL
 jK:Int
 deriving DecidableEq
def bx.cells (s:bx):List Value:=cL.cells s.lU++([vI s.jK])
theorem bx.aX (s:bx):s.cells.length=4:=rfl
@[ext] structure cy where
 cJ:Int
 aR:bB
 deriving DecidableEq
def cy.cells (s:cy):List Value:=vI s.cJ::([vS s.aR.a s.aR.n s.aR.c])
theorem cy.aX (s:cy):s.cells.length=2:=rfl
@[ext] structure cR where
 At:Int
 d_:aa
 deriving DecidableEq
def cR.cells (s:cR):List Value:=vI s.At::(aa.cells s.d_)
theorem cR.aX (s:cR):s.cells.length=3:=rfl
@[ext] structure aM where
 fO:Int
 Read:Int
 deriving DecidableEq
def aM.cells (s:aM):List Value:=vI s.fO::([vI s.Read])
theorem aM.aX (s:aM):s.cells.length=2:=rfl
structure dq where
 so:Value
def dq.cells (s:dq):List Value:=[s.so]
theorem dq.aX (s:dq):s.cells.length=1:=rfl
@[ext] structure eY where
 least:bB
 times:bB
 some:bB
 deriving DecidableEq
def eY.cells (s:eY):List Value:=vS s.least.a s.least.n s.least.c::(vS s.times.a s.times.n s.times.c::([vS s.some.a s.some.n s.some.c]))
theorem eY.aX (s:eY):s.cells.length=3:=rfl
@[ext] structure vi where
 fW:bB
 ic:bB
 lq:bB
 deriving DecidableEq
def vi.cells (s:vi):List Value:=vS s.fW.a s.fW.n s.fW.c::(vS s.ic.a s.ic.n s.ic.c::([vS s.lq.a s.lq.n s.lq.c]))
theorem vi.aX (s:vi):s.cells.length=3:=rfl
structure al where
 cJ:Int
 aR:List cR
 deriving DecidableEq
def al.cells (m:al) (a:OA×Nat):List Value:=cy.cells ⟨m.cJ,⟨a.1,m.aR.length,a.2⟩⟩
def al.fK (m:al) (a:OA×Nat):List aq:=[rd a.1 m.aR.length 3 (m.aR.map cR.cells)]
def al.owns (m:al) (a:OA×Nat):List aq:=[own a.1 a.2 137 3 (m.aR.map cR.cells)]
structure aV where
 aH:List ah
 lX:Int
 aj:List al
 ab:List bx
 cz:Int
 iH:Int
 e8:Int
 deriving DecidableEq
structure cq where
 Start:Int
 fR:Int
 ag:List aM
 deriving DecidableEq
structure cT where
 fW:List Int
 ic:List Int
 lq:List Int
abbrev j8:=(OA×Nat)×(OA×Nat)×(OA×Nat)
abbrev lu:Nat:=3
def cT.cells (m:cT) (a:j8):List Value:=vi.cells ⟨⟨a.1.1,m.fW.length,a.1.2⟩,⟨a.2.1.1,m.ic.length,a.2.1.2⟩,⟨a.2.2.1,m.lq.length,a.2.2.2⟩⟩
def cT.fK (m:cT) (a:j8):List aq:=[rd a.1.1 m.fW.length 1 (m.fW.map iC),rd a.2.1.1 m.ic.length 1 (m.ic.map iC),rd a.2.2.1 m.lq.length 1 (m.lq.map iC)]
def cT.owns (m:cT) (a:j8):List aq:=[own a.1.1 a.1.2 lu 1 (m.fW.map iC),own a.2.1.1 a.2.1.2 lu 1 (m.ic.map iC),own a.2.2.1 a.2.2.2 lu 1 (m.lq.map iC)]
structure aS where
 Out:Bool
 dM:Bool
 Time:aa
 bP:cq
 deriving DecidableEq
def aS.cells (m:aS) (a:OA×Nat):List Value:=bD.cells ⟨m.Out,m.dM,m.Time,⟨m.bP.Start,m.bP.fR,⟨a.1,m.bP.ag.length,a.2⟩⟩⟩
def aS.fK (m:aS) (a:OA×Nat):List aq:=[rd a.1 m.bP.ag.length 2 (m.bP.ag.map aM.cells)]
abbrev gZ:=(OA×Nat)×List (OA×Nat)
def eO (m:List aS) (a:gZ):List Value:=[.slice a.1.1 m.length a.1.2]
structure dg where
 aD:aV
 aF:List Int
 cG:List Int
 qV:Int
 ay:List (List aS)
 deriving DecidableEq
abbrev GD:Nat:=47
abbrev jx (l:aV) (kA:Option Addr) (kC:Nat) (cA:Option Addr) (cC:Nat) (bA:Option Addr) (bC:Nat):cE:=cE.mk (bL.mk (bB.mk kA l.aH.length kC)) l.lX (bB.mk cA l.aj.length cC) (bB.mk bA l.ab.length bC) l.cz l.iH l.e8
abbrev ke (r:cq) (sgA:Option Addr) (sgC:Nat):eE:=eE.mk r.Start r.fR (bB.mk sgA r.ag.length sgC)
abbrev kx (r:dg) (kA:Option Addr) (kC:Nat) (cA:Option Addr) (cC:Nat) (bA:Option Addr) (bC:Nat) (slA:Option Addr) (slC:Nat) (drA:Option Addr) (drC:Nat) (heA:Option Addr) (heC:Nat):eT:=eT.mk (jx r.aD kA kC cA cC bA bC) (bB.mk slA r.aF.length slC) (bB.mk drA r.cG.length drC) r.qV (bB.mk heA r.ay.length heC)
end
section
open Go.RowKit
def JP {β:Type} (l:List (Int×β)) (x:Int) (y:β):List (Int×β):=if (l.lookup x).isSome then l.map (fun p=>if p.1=x then (x,y) else p) else l++[(x,y)]
def Ip {β:Type} (l:List (Int×β)) (x:Int):List (Int×β):=l.filter fun p=> !decide (p.1=x)
theorem tg {β:Type} {x:Int}: ∀ {l:List (Int×β)},l.lookup x=none↔ ∀ p∈l,p.1≠x
 |[]=>by simp
 |p::l=>by
  obtain ⟨k,v⟩:=p
  by_cases h:x=k
  ·subst h; simp [List.lookup]
  ·have hb:(x==k)=false:=by simpa using h
   simp only [List.lookup,hb,dZ,forall_eq_or_imp]
   rw [tg (l:=l)]
   exact ⟨fun q=>⟨fun e=>h e.symm,q⟩,fun q=>q.2⟩
structure mZ (es:Array MapEntry) (c:Nat) (m:List (Int×Value)):Prop where
 list:es.toList.map (fun e=>(e.key,e.val))=m.map (fun p=>(vI p.1,p.2))
 keys:(m.map (·.1)).Nodup
 Ey: ∀ e∈es.toList,e.born<c
 born:(es.toList.map (·.born)).Nodup
theorem mZ.nil:mZ #[] 0 []:=⟨rfl,List.nodup_nil,sm,List.nodup_nil⟩
theorem mZ.size {es:Array MapEntry} {c:Nat} {m:List (Int×Value)} (h:mZ es c m):es.size=m.length:=by
 have:=congrArg List.length h.list
 simpa using this
theorem DB {P:Program} {w:World} {kt:Nat} {x:Int} (hk:P.underlying kt=some (.int .i64)) (e:Bool):(Instr.checkKey e 10000 kt (.int .i64 x)).run P w= .ok () w:=by
 exact MapKept.run_checkKey hk (show MapKept.IsKey (.int .i64) (.int .i64 x) from rfl) e 9999
section
variable {E:e9} {ops:Array Oper} {Q:dj} {rest:List Oper} {D:List Deferred} {L:List (Nat×Value)} {C:List aq}
variable {dst:Option Tmp} {d:Nat} {ty:TypeId} {ps:String} {af:Array Edge} {g:Option (Nat×Bool)}
theorem mq {w:World} {b:Nat} (o:Obj):dD (only b) w {w with heap:=w.heap.setIfInBounds b o}:=
 ⟨rfl,rfl,rfl,sm,fun k hk hn=>by simp only [only] at hn; exact Array.getElem?_setIfInBounds_ne (fun e=>hn e.symm)⟩
theorem nZ {w:World} {b:Nat} {o o':Obj} (h:w.heap[b]? =some o):({w with heap:=w.heap.setIfInBounds b o'}:World).heap[b]? =some o':=by
 have:=(Array.getElem?_eq_some_iff.1 h).1
 simp [Array.getElem?_setIfInBounds_self_of_lt this]
theorem mZ.push {es:Array MapEntry} {c:Nat} {m:List (Int×Value)} (h:mZ es c m) {x:Int} (hx:m.lookup x=none) (v:Value):mZ (es.push {key:= .int .i64 x,val:=v,born:=c}) (c+1) (m++[(x,v)]):=by
 refine ⟨by simp [h.list],?_,?_,?_⟩
 ·rw [List.map_append,List.nodup_append]
  refine ⟨h.keys,sm,fun a ha b hb=>?_⟩
  simp at hb; subst hb
  obtain ⟨p,hp,rfl⟩:=List.mem_map.1 ha
  exact tg.1 hx p hp
 ·intro e he
  simp only [Array.toList_push,g4,bU] at he
  rcases he with he|rfl
  ·exact Nat.lt_succ_of_lt (h.Ey e he)
  ·exact Nat.lt_succ_self _
 ·simp only [Array.toList_push,List.map_append,List.map_cons,List.map_nil]
  rw [List.nodup_append]
  refine ⟨h.born,sm,fun a ha b hb=>?_⟩
  simp at hb; subst hb
  obtain ⟨p,hp,rfl⟩:=List.mem_map.1 ha
  exact Nat.ne_of_lt (h.Ey p hp)
theorem Jz {m:List (Int×Value)} {j:Nat} {x:Int} {v0 v:Value} (hn:(m.map (·.1)).Nodup) (hj:m[j]? =some (x,v0)):m.map (fun p=>if p.1=x then (x,v) else p)=m.set j (x,v):=by
 refine List.ext_getElem? fun i=>?_
 rw [fq,List.getElem?_set]
 by_cases e:j=i
 ·subst e
  have hl:=(List.getElem?_eq_some_iff.1 hj).1
  rw [hj]; simp [hl]
 ·rw [if_neg e]
  cases hi:m[i]? with
  |none=>rfl
  |some p=>
   simp only [Option.map_some]
   rw [if_neg]
   intro hp
   have h1:(m.map (·.1))[i]? =some x:=by rw [fq,hi]; simp [hp]
   have h2:(m.map (·.1))[j]? =some x:=by rw [fq,hj]; rfl
   have hil:=(List.getElem?_eq_some_iff.1 h1).1
   exact e (((List.getElem?_inj hil hn).1 (h1.trans h2.symm)).symm)
theorem mZ.set {es:Array MapEntry} {c:Nat} {m:List (Int×Value)} (h:mZ es c m) {x:Int} {j:Nat} {v0:Value} (hj:m[j]? =some (x,v0)) (hx:m.lookup x=some v0) (v:Value):
 mZ (es.modify j fun e=>{e with key:= .int .i64 x,val:=v}) c (JP m x v):=by
 have e1:JP m x v=m.set j (x,v):=by unfold JP; rw [hx]; simpa using Jz h.keys hj
 have hl:=(List.getElem?_eq_some_iff.1 hj).1
 have hsz:=h.size
 have hje:j<es.size:=by omega
 have e2:(es.modify j fun e=>{e with key:= .int .i64 x,val:=v}).toList=es.toList.set j {(es[j]) with key:= .int .i64 x,val:=v}:=by
  refine List.ext_getElem? fun i=>?_
  rw [Array.getElem?_toList,Array.getElem?_modify,List.getElem?_set]
  by_cases e:j=i
  ·subst e; simp [hje]
  ·simp [e]
 have e3:(es.toList.set j {(es[j]) with key:= .int .i64 x,val:=v}).map (·.born)=es.toList.map (·.born):=by
  rw [List.map_set]
  refine List.ext_getElem? fun i=>?_
  rw [List.getElem?_set]
  by_cases e:j=i
  ·subst e; simp [hje]
  ·rw [if_neg e]
 refine ⟨?_,?_,?_,?_⟩
 ·rw [e2,e1,List.map_set,List.map_set,h.list]
 ·rw [e1,List.map_set]
  have:(m.map (·.1)).set j x=m.map (·.1):=by
   refine List.ext_getElem? fun i=>?_
   rw [List.getElem?_set]
   by_cases e:j=i
   ·subst e; simp [hl]; simpa using (congrArg Prod.fst ((List.getElem?_eq_some_iff.1 hj).2)).symm
   ·rw [if_neg e]
  simp only [this]
  exact h.keys
 ·intro e he
  rw [e2] at he
  have hb:e.born∈(es.toList.set j {(es[j]) with key:= .int .i64 x,val:=v}).map (·.born):=List.mem_map.2 ⟨e,he,rfl⟩
  rw [e3] at hb
  obtain ⟨e',he',hq⟩:=List.mem_map.1 hb
  rw [← hq]; exact h.Ey e' he'
 ·rw [e2,e3]; exact h.born
theorem mZ.del {es:Array MapEntry} {c:Nat} {m:List (Int×Value)} (h:mZ es c m) {x:Int} {j:Nat} {v0:Value} (hj:m[j]? =some (x,v0)):mZ (es.eraseIdxIfInBounds j) c (Ip m x):=by
 have hl:=(List.getElem?_eq_some_iff.1 hj).1
 have hsz:=h.size
 have hje:j<es.size:=by omega
 have e1:(es.eraseIdxIfInBounds j).toList=es.toList.eraseIdx j:=by simp [Array.eraseIdxIfInBounds,hje]
 have e2:Ip m x=m.eraseIdx j:=by
  have hn:=h.keys
  clear h hsz hje e1
  induction m generalizing j with
  |nil=>simp at hj
  |cons p m ih=>
   obtain ⟨k,v⟩:=p
   simp only [List.map_cons,List.nodup_cons] at hn
   cases j with
   |zero=>
    simp at hj
    obtain ⟨rfl,rfl⟩:=hj
    simp only [Ip,List.eraseIdx_zero,List.tail_cons]
    rw [List.filter_cons_of_neg sm]
    refine List.filter_eq_self.2 fun p hp=>?_
    have:p.1≠k:=fun e=>hn.1 (List.mem_map.2 ⟨p,hp,e⟩)
    simpa using this
   |succ j=>
    simp only [List.getElem?_cons_succ] at hj
    have hne:k≠x:=fun e=>hn.1 (List.mem_map.2 ⟨_,aw hj,e.symm⟩)
    simp only [Ip,List.eraseIdx_cons_succ] at ih ⊢
    rw [List.filter_cons_of_pos (by simpa using hne),ih hj (by simpa using (List.getElem?_eq_some_iff.1 hj).1) hn.2]
 have sub:(es.eraseIdxIfInBounds j).toList.Sublist es.toList:=by rw [e1]; exact List.eraseIdx_sublist _ _
 refine ⟨?_,?_,fun e he=>h.Ey e (sub.subset he),h.born.sublist (sub.map _)⟩
 ·rw [e1,e2,ChangeMaps.map_eraseIdx,ChangeMaps.map_eraseIdx,h.list]
 ·rw [e2]; exact h.keys.sublist ((List.eraseIdx_sublist _ _).map _)
def tV (P:Program) (t:TypeId):Option Value:=(P.info? t).bind (·.zero)
theorem Fb {P:Program} {t:TypeId} {z:Value} (h:tV P t=some z) (w:World):(zeroValue t).run P w= .ok z w:=by
 unfold tV at h
 cases hi:P.info? t with
 |none=>simp [hi] at h
 |some i=>simp only [hi,Option.bind_some] at h; simp [zeroValue,typeInfo,hi,h]
end
theorem aK {C:List aq} {a:OA} {c e sz n:Nat} {es:List (List Value)} (i:Nat) (hC:C[i]? =some (own a c e sz es)) (hn:es.length=n):ji C (rd a n sz es).holds:=hn▸H_ i hC
abbrev iV:Int→Value:=Value.int .i64
end
section
def di (s:aa) (lo hi:Int):Prop:=s.Lo≤s.Hi∧lo≤s.Lo∧s.Hi≤hi
instance (s:aa) (lo hi:Int):Decidable (di s lo hi):=by unfold di; infer_instance
def bo (x:ah):Prop:=(0≤x.Id∧x.Id≤9999)∧di x.j5 1 30000∧di x.kU 0 5000∧(0≤x.xH∧x.xH≤5000)∧
 (x.iy=0∧x.dR.Lo=0∧x.dR.Hi=0∨(x.iy=1∨x.iy=2)∧di x.dR 500 20000)
instance (x:ah):Decidable (bo x):=by unfold bo; infer_instance
def ew:Int→List ah→Bool
 |_,[]=>true
 |last,x::xs=>decide (last<x.Id∧bo x)&&ew x.Id xs
def cx (ts:List ah):Bool:=decide (1≤(ts.length:Int)∧(ts.length:Int)≤12)&&ew (-1) ts
theorem C8 {α:Type} {l:List α} {i:Nat} {x:α} (h:l[i]? =some x):l.drop i=x::l.drop (i+1):=by
 obtain ⟨h1,rfl⟩:=List.getElem?_eq_some_iff.1 h
 exact List.drop_eq_getElem_cons h1
theorem pj {ts:List ah} {i:Nat} {x:ah} (last:Int) (h:ts[i]? =some x):ew last (ts.drop i)=(decide (last<x.Id∧bo x)&&ew x.Id (ts.drop (i+1))):=by
 rw [C8 h]; rfl
def ru {α:Type} (p:α→Bool) (l:List α):Int:=if l.any p then (l.findIdx p:Nat) else-1
theorem ny {α:Type} {p:α→Bool} {l:List α} {i:Nat} {x:α} (h:l[i]? =some x) (hp:p x=true) (h0:(l.take i).any p=false):ru p l=i:=by
 obtain ⟨h1,rfl⟩:=List.getElem?_eq_some_iff.1 h
 have ha:l.any p=true:=List.any_eq_true.2 ⟨_,List.getElem_mem h1,hp⟩
 have hi:l.findIdx p=i:=by
  rw [List.findIdx_eq h1]
  refine ⟨hp,fun j hj=>?_⟩
  have:=List.any_eq_false.1 h0 l[j] (by rw [List.mem_take_iff_getElem]; exact ⟨j,om,rfl⟩)
  simpa using this
 simp [ru,ha,hi]
theorem kW {α:Type} {p:α→Bool} {l:List α} {i:Nat} (hi:l.length≤i) (h0:(l.take i).any p=false):ru p l= -1:=by
 rw [List.take_of_length_le hi] at h0
 simp [ru,h0]
theorem vH {α:Type} {p:α→Bool} {l:List α} {i:Nat} {x:α} (h:l[i]? =some x) (h0:(l.take i).any p=false) (hp:p x=false):(l.take (i+1)).any p=false:=by
 rw [List.take_add_one,h]; simp [h0,hp]
theorem sB {α:Type} {p:α→Bool} {l:List α}:decide (0≤ru p l)=l.any p:=by
 unfold ru; cases l.any p<;>simp
def oT (lo hi:Int) (l:List Int):Bool:= !(l.any fun u=>decide (u<lo∨hi<u))
theorem dx {lo hi a:Int}:vB (oT lo hi [a])=vB (decide (lo≤a∧a≤hi)):=by
 refine congrArg _ ?_
 rw [Bool.eq_iff_iff]; simp [oT]
theorem p6 {lo hi a b:Int}:vB (oT lo hi [a,b])=vB (decide ((lo≤a∧a≤hi)∧lo≤b∧b≤hi)):=by
 refine congrArg _ ?_
 rw [Bool.eq_iff_iff]; simp [oT]
def fw (ts:List ah) (i:Nat):Int:=if i=0 then-1 else ((ts[i-1]?).map (·.Id)).getD 0
theorem zw {ts:List ah} {i:Nat} (h:i=0):fw ts i= -1:=by simp [fw,h]
theorem A9 {ts:List ah} {i:Nat} {y:ah} (h:0<i) (hy:ts[i-1]? =some y):fw ts i=y.Id:=by
 simp [fw,hy]; omega
theorem fH {ts:List ah} {i:Nat} {y:ah} (hy:ts[i]? =some y):fw ts (i+1)=y.Id:=by simp [fw,hy]
theorem ct {ts:List ah} (h: ¬ (1≤(ts.length:Int)∧(ts.length:Int)≤12)):cx ts=false:=by
 simp only [cx,a7 h,Bool.false_and]
theorem cQ {ts:List ah} {i:Nat} {x:ah} (h:ew (-1) ts=ew (fw ts i) (ts.drop i)) (hx:ts[i]? =some x) (hn: ¬ (fw ts i<x.Id∧bo x)):cx ts=false:=by
 rw [cx,h,pj _ hx,a7 hn]; simp
theorem cu {ts:List ah} {i:Nat} (h:ew (-1) ts=ew (fw ts i) (ts.drop i)) (hi:ts.length≤i) (hl:1≤(ts.length:Int)∧(ts.length:Int)≤12):cx ts=true:=by
 rw [cx,h,List.drop_eq_nil_of_le hi,bW hl]; rfl
theorem gE {ts:List ah} {i:Nat} {x:ah} (h:ew (-1) ts=ew (fw ts i) (ts.drop i)) (hx:ts[i]? =some x) (hn:fw ts i<x.Id∧bo x):ew (-1) ts=ew (fw ts (i+1)) (ts.drop (i+1)):=by
 rw [h,pj _ hx,bW hn,fH hx]; rfl
theorem uQ {α:Type} {a b:List α} {i:Nat} {x y:α} (hx:a[i]? =some x) (hy:b[i]? =some y) (h: ¬ x=y): ¬ a=b:=by
 rintro rfl; rw [hx] at hy; exact h (Option.some.inj hy)
theorem uB {α:Type} {a b:List α} {i:Nat} (hl:a.length=b.length) (ht:a.take i=b.take i) (hi:a.length≤i):a=b:=by
 rwa [List.take_of_length_le hi,List.take_of_length_le om] at ht
theorem DE {α:Type} {a b:List α} {i:Nat} {x y:α} (ht:a.take i=b.take i) (hx:a[i]? =some x) (hy:b[i]? =some y) (h:x=y):a.take (i+1)=b.take (i+1):=by
 rw [List.take_add_one,List.take_add_one,ht,hx,hy,h]
theorem qk: ∀ {ts:List ah} {last:Int},ew last ts=true→ ∀ x∈ts,bo x
 |[],_,_,x,hx=>by cases hx
 |y::ts,last,h,x,hx=>by
  simp only [ew,cS,decide_eq_true_eq] at h
  rcases List.mem_cons.1 hx with rfl|hx
  ·exact h.1.2
  ·exact qk h.2 x hx
theorem jN {ts:List ah} (h:cx ts=true): ∀ x∈ts,bo x:=by
 simp only [cx,cS] at h
 exact qk h.2
theorem kf {ts:List ah} (h:cx ts=true):ts.length≤12:=by
 simp only [cx,cS,decide_eq_true_eq] at h
 omega
end
section
open Go.RowKit
def GS (m:Array Nat) (ops:Array Oper) (free T:List Nat):Bool:=
 (free.all (Nat.blt · ops.size))&&(T.all (Nat.blt · ops.size))&&((List.range ops.size).all fun i=>free.contains i||T.contains i)&&(T.all fun i=> !free.contains i)&&
 ((List.range ops.size).all fun i=>match ops[i]? with
  |none=>false
  |some o=>pW o&&o.after.toList.all fun e=> !Region.binds .any e||Nat.blt e.on i)&&
 ((List.range free.length).all fun p=>match (free[p]?).bind fun i=>(ops[i]?).map fun o=>(i,o) with
  |none=>false
  |some (i,o)=>o.dst.isSome&&
   ((List.range free.length).all fun q=>q==p||match (free[q]?).bind fun j=>(ops[j]?).map fun o=>(j,o) with
    |none=>false
    |some (j,r)=>match r.dst with
     |none=>false
     |some d=>o.dst != some d&&(!(o.looksAt ops).contains d||(if q<p then g9 m j i else g9 m i j)))&&
   (T.all fun j=>match ops[j]? with
    |none=>false
    |some r=>r.dst != o.dst&&(match r.dst with |none=>true|some d=> !(o.looksAt ops).contains d||g9 m i j)&&(match o.dst with |none=>true|some d=> !(r.looksAt ops).contains d||g9 m i j)))&&
 ((List.range T.length).all fun p=>(List.range p).all fun q=>match T[p]?,T[q]? with
  |some i,some j=>i != j
  |_,_=>false)
def GR (m:Array Nat) (ops:Array Oper) (free T:List Nat) (fe:List Bool) (tb:List Nat):Bool:=
 GS m ops free T&&(T.all fun j=>tb.contains j||(List.range free.length).all fun p=> !(fe[p]?).getD false||match free[p]? with
  |some i=>g9 m i j
  |_=>false)
def E6 (ops:Array Oper) (free T:List Nat) (fe:List Bool) (tb:List Nat):Bool:=GR (oW ops) ops free T fe tb
def JU (ops:Array Oper) (free T:List Nat):Bool:=GS (oW ops) ops free T
theorem Eu {ops:Array Oper} {free T:List Nat} {fe:List Bool} {tb:List Nat} (h:E6 ops free T fe tb=true):JU ops free T=true∧ ∀ (p i j:Nat),free[p]? =some i→j∈T→(fe[p]?).getD false=true→tb.contains j=true∨g9 (oW ops) i j=true:=by
 simp only [E6,GR,cS] at h
 refine ⟨h.1,fun p i j hp hj hf=>?_⟩
 have h2:=h.2
 rw [fz] at h2
 have h3:=h2 j hj
 rw [Bool.or_eq_true] at h3
 rcases h3 with h3|h3
 ·exact .inl h3
 ·rw [fz] at h3
  have h4:=h3 p (by simpa using (List.getElem?_eq_some_iff.1 hp).1)
  simp only [hp,hf,Bool.not_true,Bool.false_or] at h4
  exact .inr h4
structure Kq (ops:Array Oper) (free T:List Nat):Prop where
 fl: ∀ i∈free,i<ops.size
 tl: ∀ i∈T,i<ops.size
 cover: ∀ i,i<ops.size→i∈free∨i∈T
 Gp: ∀ i∈T,i ∉ free
 plain: ∀ (i:Nat) (o:Oper),ops[i]? =some o→(∀ cs b,o.op≠ .select cs b)∧(∀ c,o.op≠ .defer c)
 zj: ∀ (i:Nat) (o:Oper) (e:Edge),ops[i]? =some o→e∈o.after→Region.binds .any e=true→e.on<i
 apart: ∀ (p q i j:Nat) (o r:Oper) (d:Nat),free[p]? =some i→free[q]? =some j→q≠p→ops[i]? =some o→ops[j]? =some r→r.dst=some d→o.dst≠some d∧(d∈o.looksAt ops→(q<p∧g9 (oW ops) j i=true)∨(p<q∧g9 (oW ops) i j=true))
 ft: ∀ (i j:Nat) (o r:Oper),i∈free→j∈T→ops[i]? =some o→ops[j]? =some r→r.dst≠o.dst∧(∀ d,r.dst=some d→d∈o.looksAt ops→g9 (oW ops) i j=true)∧(∀ d,o.dst=some d→d∈r.looksAt ops→g9 (oW ops) i j=true)
 nodup:T.Nodup
theorem Kq.of {ops:Array Oper} {free T:List Nat} (h:JU ops free T=true):Kq ops free T:=by
 simp only [JU,GS,cS] at h
 obtain ⟨⟨⟨⟨⟨⟨h1,h2⟩,h3⟩,h4⟩,h5⟩,h6⟩,h7⟩:=h
 rw [fz] at h1 h2 h3 h4 h5 h6 h7
 have hfl: ∀ i∈free,i<ops.size:=fun i hi=>by have:=h1 i hi; rwa [Nat.blt_eq] at this
 have htl: ∀ i∈T,i<ops.size:=fun i hi=>by have:=h2 i hi; rwa [Nat.blt_eq] at this
 refine ⟨hfl,htl,fun i hi=>?_,fun i hi=>?_,fun i o ho=>?_,fun i o e ho he hb=>?_,?_,?_,?_⟩
 ·have:=h3 i (by simpa using hi)
  simpa using this
 ·have:=h4 i hi
  simpa using this
 ·have hi:i<ops.size:=(Array.getElem?_eq_some_iff.1 ho).1
  have:=h5 i (by simpa using hi)
  simp only [ho,cS] at this
  have:=this.1
  refine ⟨fun cs b hh=>?_,fun c hh=>?_⟩<;>simp [pW,hh] at this
 ·have hi:i<ops.size:=(Array.getElem?_eq_some_iff.1 ho).1
  have:=h5 i (by simpa using hi)
  simp only [ho,cS] at this
  have:=this.2
  rw [fz] at this
  have:=this e (by simpa using he)
  rw [hb] at this
  simpa using this
 ·intro p q i j o r d hp hq hne ho hr hd
  have:=h6 p (by simpa using (List.getElem?_eq_some_iff.1 hp).1)
  simp only [hp,ho,Option.bind_some,Option.map_some,cS] at this
  have:=this.1.2
  rw [fz] at this
  have:=this q (by simpa using (List.getElem?_eq_some_iff.1 hq).1)
  simp only [hq,hr,hd,Option.bind_some,Option.map_some,Bool.or_eq_true,cS,beq_iff_eq,bne_iff_ne,ne_eq] at this
  rcases this with h|⟨h8,h9⟩
  ·exact absurd h hne
  ·refine ⟨h8,fun hm=>?_⟩
   rcases h9 with h9|h9
   ·simp [hm] at h9
   ·by_cases hlt:q<p
    ·rw [if_pos hlt] at h9; exact .inl ⟨hlt,h9⟩
    ·rw [if_neg hlt] at h9; exact .inr ⟨om,h9⟩
 ·intro i j o r hi hj ho hr
  obtain ⟨p,hp⟩:=List.mem_iff_getElem?.1 hi
  have:=h6 p (by simpa using (List.getElem?_eq_some_iff.1 hp).1)
  simp only [hp,ho,Option.bind_some,Option.map_some,cS] at this
  have:=this.2
  rw [fz] at this
  have:=this j hj
  simp only [hr,cS,bne_iff_ne,ne_eq] at this
  refine ⟨this.1.1,fun d hd hm=>?_,fun d hd hm=>?_⟩
  ·have:=this.1.2
   simp [hd,hm] at this; exact this
  ·have:=this.2
   simp [hd,hm] at this; exact this
 ·rw [List.nodup_iff_pairwise_ne,m6]
  intro q p hq hp hlt
  have:=h7 p (by simpa using hp)
  rw [fz] at this
  have:=this q (by simpa using hlt)
  simp only [gv hp,gv hq,bne_iff_ne,ne_eq] at this
  exact fun e=>this e.symm
/-- the others, in whatever order the edges leave open; the part C' of the state stands throughout, the part C1 where the list tb says -/
def TN (E:e9) (ops:Array Oper) (D:List Deferred) (C' C1:List aq) (F:List (Nat×Value)→List aq→Prop) (tb:List Nat):Nat→List Nat→List (Nat×Value)→List aq→Prop
 |0,_,L,C=>F L C
 |n+1,rem,L,C=> ∀ i∈rem.filter (fun i=>rem.all fun j=> !g9 (oW ops) j i),∀ o,ops[i]? =some o→ ∀ K:Act→World→Prop,(∀ L' C'',(∀ w,St E.S E.w0 C'' w→St E.S E.w0 C' w)→(tb.contains i=true→ ∀ w,St E.S E.w0 C'' w→St E.S E.w0 C1 w)→TN E ops D C' C1 F tb n (rem.filter (· != i)) L' C''→KJ E K D L' C'')→RJ E ops (NQ K) [o] D L C
theorem pG {E:e9} {id:Nat} {ops:Array Oper} {Q:dj} {D:List Deferred} {L:List (Nat×Value)} {C:List aq} (hm:E.P.follows .mixedOrders=true) (free T:List Nat) (fe:List Bool) (tb:List Nat) (C' C1:List aq) (hc:E6 ops free T fe tb=true)
 (hC: ∀ w,St E.S E.w0 C w→St E.S E.w0 C' w) (hC1: ∀ w,St E.S E.w0 C w→St E.S E.w0 C1 w)
 (h:o0 E ops D C' C1 (fun L'=>TN E ops D C' C1 (fun L C=>KJ E (Q .normal) D L C) tb T.length T L' C) fe (eB ops free) L):WJ E (.region id ops true) Q D L C:=by
 obtain ⟨hc,hc4⟩:=Eu hc
 have hc:=Kq.of hc
 intro a0 w0 hf0 hs0
 refine wpIn_region_any hm ?_
 have hs1:St E.S E.w0 C ({w0 with drawn:=w0.drawn+1}:World):=hs0.same (dD.drew no w0)
 obtain ⟨vs,hvl,hF,hall⟩:=o0.out _ _ _ h
 have hfl:=ov hc.fl
 have hgf: ∀ (p i:Nat) (o:Oper),free[p]? =some i→ops[i]? =some o→(eB ops free)[p]? =some o:=fun p i o hp ho=>by rw [mw hc.fl,hp]; exact ho
 have hfg: ∀ (p:Nat) (o:Oper),(eB ops free)[p]? =some o→ ∃ i,free[p]? =some i∧ops[i]? =some o:=fun p o h=>by
  rw [mw hc.fl] at h
  cases hp:free[p]? with
  |none=>simp [hp] at h
  |some i=>exact ⟨i,rfl,by simpa [hp] using h⟩
 have hdlt: ∀ (j:Nat) (o:Oper) (d:Nat),(eB ops free)[j]? =some o→o.dst=some d→d<E.n:=fun j o d ho hd=>by
  obtain ⟨d',v,h1,h2,_⟩:=hall j o ho
  rw [h1] at hd; cases hd; exact h2
 -- all is listed
 have done: ∀ (listed:Array Bool) (a:Act) (w:World) (rem:List Nat) (Lk:List (Nat×Value)) (Ck:List aq) (af:Act),(∀ i,i<ops.size→listed.getD i false=true)→
  (∀ i∈T,(listed.getD i false=true↔i ∉ rem))→(∀ i∈rem,i∈T)→rem.Nodup→a.defers=D→a.tmps.size=E.n→
  TN E ops D C' C1 (fun L C=>KJ E (Q .normal) D L C) tb rem.length rem Lk Ck→Fr E.n D Lk af→St E.S E.w0 Ck w→
  (∀ t,(∀ (p i:Nat) (o:Oper),free[p]? =some i→ops[i]? =some o→o.dst≠some t)→af.tmps[t]? =a.tmps[t]?)→
  (∀ (p i:Nat) (o:Oper) (d:Nat),free[p]? =some i→ops[i]? =some o→o.dst=some d→af.tmps[d]? =vs[p]? ∧(listed.getD i false=true→a.tmps[d]? =vs[p]?))→Q .normal a w:=by
  intro listed a w rem Lk Ck af hal hTk hrT hrn hd hz hT hfr hst hslot hfree
  have hk:rem=[]:=by
   rw [List.eq_nil_iff_forall_not_mem]
   intro i hi
   exact (hTk i (hrT i hi)).1 (hal i (hc.tl i (hrT i hi))) hi
  subst hk
  have hT:KJ E (Q .normal) D Lk Ck:=hT
  refine hT a w ⟨hd,hz,fun t v hv=>?_⟩ hst
  rw [← hfr.at_ t v hv]
  by_cases hw: ∃ (p i:Nat) (o:Oper),free[p]? =some i∧ops[i]? =some o∧o.dst=some t
  ·obtain ⟨p,i,o,hp,ho,hdst⟩:=hw
   obtain ⟨e1,e2⟩:=hfree p i o t hp ho hdst
   rw [e1,e2 (hal i (hc.fl i (aw hp)))]
  ·exact (hslot t (fun p i o hp ho hdst=>hw ⟨p,i,o,hp,ho,hdst⟩)).symm
 have key: ∀ (fuel:Nat) (listed:Array Bool) (a:Act) (w:World) (rem:List Nat) (Lk:List (Nat×Value)) (Ck:List aq) (af:Act),listed.size=ops.size→(z6 ops.size listed).length≤fuel→(∀ j,listed.getD j false=true→te ops (fun k=>listed.getD k false=true) j)→
  (∀ i∈T,(listed.getD i false=true↔i ∉ rem))→(∀ i∈rem,i∈T)→rem.Nodup→a.defers=D→a.tmps.size=E.n→
  TN E ops D C' C1 (fun L C=>KJ E (Q .normal) D L C) tb rem.length rem Lk Ck→Fr E.n D Lk af→St E.S E.w0 Ck w→(∀ w,St E.S E.w0 Ck w→St E.S E.w0 C' w)→(∀ (p i:Nat),free[p]? =some i→(fe[p]?).getD false=true→listed.getD i false=false→ ∀ w,St E.S E.w0 Ck w→St E.S E.w0 C1 w)→
  (∀ t,(∀ (p i:Nat) (o:Oper),free[p]? =some i→ops[i]? =some o→o.dst≠some t)→af.tmps[t]? =a.tmps[t]?)→
  (∀ t,(∀ (i:Nat) (o:Oper),listed.getD i false=true→ops[i]? =some o→o.dst≠some t)→a.tmps[t]? =a0.tmps[t]?)→
  (∀ (p i:Nat) (o:Oper) (d:Nat),free[p]? =some i→ops[i]? =some o→o.dst=some d→af.tmps[d]? =vs[p]? ∧(listed.getD i false=true→a.tmps[d]? =vs[p]?))→
  wpAnyIn (Fw E.r) 0 E.P .any ops Q fuel listed a w:=by
  intro fuel
  induction fuel with
  |zero=>
   intro listed a w rem Lk Ck af hsz hu hcl hTk hrT hrn hd hz hT hfr hst hsub hsub1 hslot hold hfree
   have hall': ∀ i,i<ops.size→listed.getD i false=true:=fun i hi=>by
    cases hg:listed.getD i false with
    |true=>rfl
    |false=>
     have:=List.length_pos_of_mem (mV.2 ⟨hi,hg⟩)
     omega
   refine ⟨?_,done listed a w rem Lk Ck af hall' hTk hrT hrn hd hz hT hfr hst hslot hfree⟩
   rw [List.eq_nil_iff_forall_not_mem]
   intro i hi
   obtain ⟨h1,h2,_⟩:=lO hsz hi
   rw [hall' i h1] at h2; cases h2
  |succ fuel ih=>
   intro listed a w rem Lk Ck af hsz hu hcl hTk hrT hrn hd hz hT hfr hst hsub hsub1 hslot hold hfree
   refine ⟨fun hnil=>?_,fun i hi=>?_⟩
   ·refine done listed a w rem Lk Ck af (fun i hi=>?_) hTk hrT hrn hd hz hT hfr hst hslot hfree
    cases hg:listed.getD i false with
    |true=>rfl
    |false=>
     exfalso
     have hex: ∃ i,i<ops.size∧listed.getD i false=false:=⟨i,hi,hg⟩
     obtain ⟨j,hj,hmin⟩:=exists_least hex
     have hr:j∈Region.ready .any ops listed:=qZ hsz hj.1 hj.2 (fun o e ho he hb=>by
      have h1:=hc.zj j o e ho he hb
      cases hg:listed.getD e.on false with
      |true=>exact hg
      |false=>exact absurd (hmin e.on ⟨om,hg⟩) om)
     rw [hnil] at hr; cases hr
   ·obtain ⟨hi1,hi2,hi3⟩:=lO hsz hi
    obtain ⟨o,ho⟩: ∃ o,ops[i]? =some o:=⟨ops[i],Array.getElem?_eq_getElem hi1⟩
    obtain ⟨hsel,hdef⟩:=hc.plain i o ho
    have hset: ∀ j,(listed.setIfInBounds i true).getD j false=if j=i then true else listed.getD j false:=fun j=>ph om false
    have hun:=xM (n:=ops.size) (i:=i) (listed:=listed) om (mV.2 ⟨hi1,hi2⟩)
    have hcl': ∀ j,(listed.setIfInBounds i true).getD j false=true→te ops (fun k=>(listed.setIfInBounds i true).getD k false=true) j:=by
     intro j hj o' e ho' he hb
     show (listed.setIfInBounds i true).getD e.on false=true
     rw [hset] at hj ⊢
     by_cases e1:e.on=i
     ·simp [e1]
     ·simp only [e1,if_false]
      by_cases e2:j=i
      ·subst e2; exact hi3 o' e ho' he hb
      ·simp only [e2,if_false] at hj; exact hcl j hj o' e ho' he hb
    have hanc: ∀ j,g9 (oW ops) j i=true→listed.getD j false=true:=fun j hj=>iM (S:=fun k=>listed.getD k false=true) hcl hj hi3
    have hnanc: ∀ j,g9 (oW ops) i j=true→listed.getD j false=false:=fun j hj=>by
     cases hg:listed.getD j false with
     |false=>rfl
     |true=>
      have:=iM (S:=fun k=>listed.getD k false=true) hcl hj (hcl j hg)
      rw [this] at hi2; cases hi2
    unfold wpOpIn
    simp only [ho]
    rcases hc.cover i hi1 with hin|hin
    ·-- a free one
     obtain ⟨p,hp⟩:=List.mem_iff_getElem?.1 hin
     obtain ⟨d,v,hod,hdn,hvi,hsd⟩:=hall p o (hgf p i o hp ho)
     have hfrp:=kL (eB ops free) vs p L a0 hdlt hf0
     have hlook: ∀ t∈o.looksAt ops,a.tmps[t]? =(kM (eB ops free) vs p a0).tmps[t]? :=by
      intro t htl
      by_cases hw: ∃ (q j:Nat) (r:Oper),free[q]? =some j∧q≠p∧ops[j]? =some r∧r.dst=some t
      ·obtain ⟨q,j,r,hq,hne,hr,hrd⟩:=hw
       obtain ⟨d',v',e1,e2,e3,_⟩:=hall q r (hgf q j r hq hr)
       rw [hrd] at e1; cases e1
       have hap:=hc.apart p q i j o r t hp hq hne ho hr hrd
       rcases hap.2 htl with ⟨hlt,ha⟩|⟨hlt,ha⟩
       ·rw [(hfree q j r t hq hr hrd).2 (hanc j ha),e3]
        refine (kD (eB ops free) vs p a0 q r t v' hlt (hgf q j r hq hr) hrd (by rw [hf0.size]; exact e2) e3 (fun m u hm hne' hu=>?_)).symm
        obtain ⟨x,hx1,hx2⟩:=hfg m u hu
        exact (hc.apart m q x j u r t hx1 hq (Ne.symm hne') hx2 hr hrd).1
       ·have hnS:=hnanc j ha
        refine (hold t (fun m u hm hu hud=>?_)).trans (fj (eB ops free) vs p a0 t (fun m u hm hu hud=>?_)).symm
        ·rcases hc.cover m (Array.getElem?_eq_some_iff.1 hu).1 with hmf|hmT
         ·obtain ⟨x,hx⟩:=List.mem_iff_getElem?.1 hmf
          by_cases e:x=q
          ·subst e; rw [hq] at hx; cases hx; rw [hm] at hnS; cases hnS
          ·exact (hc.apart x q m j u r t hx hq (Ne.symm e) hu hr hrd).1 hud
         ·exact (hc.ft j m r u (aw hq) hmT hr hu).1 (by rw [hud,hrd])
        ·obtain ⟨x,hx1,hx2⟩:=hfg m u hu
         exact (hc.apart m q x j u r t hx1 hq om hx2 hr hrd).1 hud
      ·refine (hold t (fun m u hm hu hud=>?_)).trans (fj (eB ops free) vs p a0 t (fun m u hm hu hud=>?_)).symm
       ·rcases hc.cover m (Array.getElem?_eq_some_iff.1 hu).1 with hmf|hmT
        ·obtain ⟨x,hx⟩:=List.mem_iff_getElem?.1 hmf
         by_cases e:x=p
         ·subst e; rw [hp] at hx; cases hx; rw [hm] at hi2; cases hi2
         ·exact hw ⟨x,m,u,hx,e,hu,hud⟩
        ·have:=hnanc m ((hc.ft i m o u hin hmT ho hu).2.1 t hud htl)
         rw [hm] at this; cases this
       ·obtain ⟨x,hx1,hx2⟩:=hfg m u hu
        exact hw ⟨m,x,u,hx1,om,hx2,hud⟩
     have hTi: ∀ j∈T,j≠i:=fun j hmj e=>hc.Gp j hmj (e▸hin)
     have hgo: ∀ w',dD no w w'→wpAnyIn (Fw E.r) 0 E.P .any ops Q fuel (listed.setIfInBounds i true) (a.put (some d) v) w':=by
      intro w' hk
      refine ih _ _ w' rem Lk Ck af (by simpa using hsz) om hcl' (fun j hmj=>?_) hrT hrn hd (by simp [Act.put,hz]) hT hfr (hst.same hk) hsub (fun p' i' hp' hf' hl'=>hsub1 p' i' hp' hf' (by rw [hset] at hl'; by_cases e:i'=i; (rw [if_pos e] at hl'; cases hl'); (rwa [if_neg e] at hl'))) (fun t ht=>?_) (fun t ht=>?_) (fun q j r d' hq hr hrd=>?_)
      ·rw [hset,if_neg (hTi j hmj)]; exact hTk j hmj
      ·have hne:d≠t:=fun e=>ht p i o hp ho (by rw [hod,e])
       simp only [Act.put]
       rw [Array.getElem?_setIfInBounds_ne hne]
       exact hslot t ht
      ·have hne:d≠t:=fun e=>ht i o (by rw [hset]; simp) ho (by rw [hod,e])
       simp only [Act.put]
       rw [Array.getElem?_setIfInBounds_ne hne]
       exact hold t (fun m u hm hu=>ht m u (by rw [hset]; split<;>simp [hm]) hu)
      ·refine ⟨(hfree q j r d' hq hr hrd).1,fun hl=>?_⟩
       by_cases e:q=p
       ·subst e
        rw [hp] at hq; cases hq
        rw [ho] at hr; cases hr
        rw [hod] at hrd; cases hrd
        simp only [Act.put]
        rw [Array.getElem?_setIfInBounds_self_of_lt (by rw [hz]; exact hdn),hvi]
       ·have hne:=(hc.apart p q i j o r d' hp hq e ho hr hrd).1
        simp only [Act.put]
        rw [Array.getElem?_setIfInBounds_ne (fun h=>hne (by rw [hod,h]))]
        refine (hfree q j r d' hq hr hrd).2 ?_
        rw [hset] at hl
        by_cases e2:j=i
        ·subst e2
         exact absurd (by rw [ho] at hr; cases hr; rw [hod] at hrd ⊢; exact hrd) hne
        ·simpa [e2] using hl
     refine rn hsd hod hdn hsel hdef hfrp hlook ?_ hgo
     cases hfl:(fe[p]?).getD false with
     |true=>exact hsub1 p i hp hfl hi2 w hst
     |false=>exact hsub w hst
    ·-- one of the others
     have hir:i∈rem:=by
      rcases Classical.em (i∈rem) with h|h
      ·exact h
      ·have:=(hTk i hin).2 h; rw [this] at hi2; cases hi2
     have hmin:i∈rem.filter (fun i=>rem.all fun j=> !g9 (oW ops) j i):=by
      rw [List.mem_filter]
      refine ⟨hir,List.all_eq_true.2 fun j hj=>?_⟩
      cases hab:g9 (oW ops) j i with
      |false=>rfl
      |true=>exact absurd hj ((hTk j (hrT j hj)).1 (hanc j hab))
     obtain ⟨nr,hnr⟩: ∃ nr,rem.length=nr+1:=⟨rem.length-1,by have:=List.length_pos_of_mem hir; omega⟩
     have hnr':(rem.filter (· != i)).length=nr:=by
      have:=hrn.erase_eq_filter i
      rw [← this,List.length_erase_of_mem hir,hnr]; rfl
     rw [hnr] at hT
     have hT:=hT i hmin o ho
     have hlook: ∀ t∈o.looksAt ops,a.tmps[t]? =af.tmps[t]? :=by
      intro t htl
      by_cases hw: ∃ (q j:Nat) (r:Oper),free[q]? =some j∧ops[j]? =some r∧r.dst=some t
      ·obtain ⟨q,j,r,hq,hr,hrd⟩:=hw
       have ha:=(hc.ft j i r o (aw hq) hin hr ho).2.2 t hrd htl
       obtain ⟨e1,e2⟩:=hfree q j r t hq hr hrd
       rw [e1,e2 (hanc j ha)]
      ·exact (hslot t (fun q j r hq hr hrd=>hw ⟨q,j,r,hq,hr,hrd⟩)).symm
     refine BW hsel hdef hlook (hT (fun af' w'=>af'.defers=D∧ ∃ L' C'',(∀ w,St E.S E.w0 C'' w→St E.S E.w0 C' w)∧(tb.contains i=true→ ∀ w,St E.S E.w0 C'' w→St E.S E.w0 C1 w)∧TN E ops D C' C1 (fun L C=>KJ E (Q .normal) D L C) tb nr (rem.filter (· != i)) L' C''∧Fr E.n D L' af'∧St E.S E.w0 C'' w')
      (fun L' C'' h1 h1' h2 af' w' h3 h4=>⟨h3.defers,L',C'',h1,h1',h2,h3,h4⟩) af w hfr hst) (fun b w' hb=>hb.1.trans hfr.defers.symm) ?_
     rintro u w' ⟨_,L',C'',h1,h1',h2,h3,h4⟩
     have hput: ∀ (b:Act) (t:Nat),o.dst≠some t→(b.put o.dst u).tmps[t]? =b.tmps[t]? :=fun b t hne=>by
      cases hod:o.dst with
      |none=>rfl
      |some d=>simp only [Act.put]; rw [Array.getElem?_setIfInBounds_ne (fun e=>hne (by rw [hod,e]))]
     have hputs: ∀ (b:Act),(b.put o.dst u).tmps.size=b.tmps.size:=fun b=>by cases o.dst<;>simp [Act.put]
     refine ih _ _ w' (rem.filter (· != i)) L' C'' (af.put o.dst u) (by simpa using hsz) om hcl' (fun j hq=>?_) (fun j hj=>hrT j (List.mem_filter.1 hj).1) (hrn.filter _) (by cases o.dst<;>exact hd) (by rw [hputs]; exact hz) (by rw [hnr']; exact h2) h3 h4 h1 (fun p' i' hp' hf' hl'=>by
      rcases hc4 p' i' i hp' hin hf' with h5|h5
      ·exact h1' h5
      ·have h6:=hanc i' h5
       rw [hset] at hl'
       by_cases e:i'=i
       ·rw [if_pos e] at hl'; cases hl'
       ·rw [if_neg e,h6] at hl'; cases hl') (fun t ht=>?_) (fun t ht=>?_) (fun q j r d' hq hr hrd=>?_)
     ·rw [hset]
      by_cases e:j=i
      ·subst e; simp
      ·simp only [e,if_false,List.mem_filter,bne_iff_ne,ne_eq,not_false_eq_true,and_true]
       exact hTk j hq
     ·by_cases hod:o.dst=some t
      ·rw [hod]
       simp only [Act.put]
       by_cases hlt:t<E.n
       ·rw [Array.getElem?_setIfInBounds_self_of_lt (by rw [hfr.size]; exact hlt),Array.getElem?_setIfInBounds_self_of_lt (by rw [hz]; exact hlt)]
       ·rw [Array.getElem?_eq_none (by rw [Array.size_setIfInBounds,hfr.size]; exact Nat.le_of_not_lt hlt),Array.getElem?_eq_none (by rw [Array.size_setIfInBounds,hz]; exact Nat.le_of_not_lt hlt)]
      ·rw [hput a t hod,hput af t hod]; exact hslot t ht
     ·rw [hput a t (ht i o (by rw [hset]; simp) ho)]
      exact hold t (fun m' u' hm'' hu'=>ht m' u' (by rw [hset]; split<;>simp [hm'']) hu')
     ·have hne:o.dst≠some d':=fun e=>(hc.ft j i r o (aw hq) hin hr ho).1 (by rw [e,hrd])
      rw [hput a d' hne,hput af d' hne]
      refine ⟨(hfree q j r d' hq hr hrd).1,fun hl=>(hfree q j r d' hq hr hrd).2 ?_⟩
      rw [hset] at hl
      have:j≠i:=fun e=>hc.Gp i hin (e▸aw hq)
      simpa [this] using hl
 refine key ops.size (Array.replicate ops.size false) a0 _ T _ C (kM (eB ops free) vs (eB ops free).length a0) sm ?_ ?_ ?_ (fun _ h=>h) hc.nodup hf0.defers hf0.size (by simpa using hF) (kL _ vs _ L a0 hdlt hf0) hs1 hC (fun _ _ _ _ _=>hC1) ?_ (fun _ _=>rfl) ?_
 ·unfold z6; exact Nat.le_trans (List.length_filter_le _ _) sm
 ·intro j hj
  simp only [Array.getD_eq_getD_getElem?,Array.getElem?_replicate] at hj
  split at hj<;>simp at hj
 ·intro i hi
  simp only [Array.getD_eq_getD_getElem?,Array.getElem?_replicate]
  split<;>simp [hi]
 ·intro t ht
  refine fj _ vs _ a0 t (fun m u _ hu hud=>?_)
  obtain ⟨x,hx1,hx2⟩:=hfg m u hu
  exact ht m x u hx1 hx2 hud
 ·intro p i o d hp ho hod
  obtain ⟨d',v',e1,e2,e3,_⟩:=hall p o (hgf p i o hp ho)
  rw [hod] at e1; cases e1
  refine ⟨?_,fun hl=>?_⟩
  ·rw [e3]
   refine kD _ vs _ a0 p o d v' (by rw [hfl]; exact (List.getElem?_eq_some_iff.1 hp).1) (hgf p i o hp ho) hod (by rw [hf0.size]; exact e2) e3 (fun m u hm hne hu=>?_)
   obtain ⟨x,hx1,hx2⟩:=hfg m u hu
   exact (hc.apart m p x i u o d hx1 hp (Ne.symm hne) hx2 ho hod).1
  ·simp only [Array.getD_eq_getD_getElem?,Array.getElem?_replicate] at hl
   split at hl<;>simp at hl
theorem oP {E:e9} {ops:Array Oper} {D:List Deferred} {C' C1:List aq} {F:List (Nat×Value)→List aq→Prop} {tb rem:List Nat} {L:List (Nat×Value)} {C:List aq} (h:F L C):TN E ops D C' C1 F tb 0 rem L C:=h
def yQ (E:e9) (ops:Array Oper) (D:List Deferred) (C' C1:List aq) (F:List (Nat×Value)→List aq→Prop) (tb:List Nat) (n:Nat) (rem:List Nat) (i:Nat) (L:List (Nat×Value)) (C:List aq):Prop:=
 ∀ o,ops[i]? =some o→ ∀ K:Act→World→Prop,(∀ L' C'',(∀ w,St E.S E.w0 C'' w→St E.S E.w0 C' w)→(tb.contains i=true→ ∀ w,St E.S E.w0 C'' w→St E.S E.w0 C1 w)→TN E ops D C' C1 F tb n rem L' C''→KJ E K D L' C'')→RJ E ops (NQ K) [o] D L C
theorem ox {E:e9} {ops:Array Oper} {D:List Deferred} {C' C1:List aq} {F:List (Nat×Value)→List aq→Prop} {tb rem:List Nat} {n:Nat} {L:List (Nat×Value)} {C:List aq} (ms:List Nat) (hm:rem.filter (fun i=>rem.all fun j=> !g9 (oW ops) j i)=ms)
 (h: ∀ i∈ms,yQ E ops D C' C1 F tb n (rem.filter (· != i)) i L C):TN E ops D C' C1 F tb (n+1) rem L C:=fun i hi=>h i (hm▸hi)
theorem jG {p:Nat→Prop} {i:Nat} {l:List Nat} (h:p i) (t: ∀ j∈l,p j): ∀ j∈i::l,p j:=fun j hj=>by
 rcases List.mem_cons.1 hj with rfl|hj
 ·exact h
 ·exact t j hj
theorem qP {p:Nat→Prop}: ∀ j∈([]:List Nat),p j:=fun j hj=>by cases hj
theorem Ny {E:e9} {ops:Array Oper} {D:List Deferred} {C' C1:List aq} {F:List (Nat×Value)→List aq→Prop} {tb rem rem':List Nat} {n i:Nat} {L:List (Nat×Value)} {C:List aq} {o:Oper} (ho:ops[i]? =some o) (hr:rem=rem') (ht:tb.contains i=false)
 (h: ∀ K:Act→World→Prop,(∀ L' C'',(∀ w,St E.S E.w0 C'' w→St E.S E.w0 C' w)→TN E ops D C' C1 F tb n rem' L' C''→KJ E K D L' C'')→RJ E ops (NQ K) [o] D L C):yQ E ops D C' C1 F tb n rem i L C:=fun o' ho' K hK=>by
 rw [ho] at ho'; cases ho'
 subst hr
 exact h K fun L' C'' h1 h2=>hK L' C'' h1 (fun h=>by rw [ht] at h; cases h) h2
theorem tq {E:e9} {ops:Array Oper} {D:List Deferred} {C' C1:List aq} {F:List (Nat×Value)→List aq→Prop} {tb rem rem':List Nat} {n i:Nat} {L:List (Nat×Value)} {C:List aq} {o:Oper} (ho:ops[i]? =some o) (hr:rem=rem')
 (h: ∀ K:Act→World→Prop,(∀ L' C'',(∀ w,St E.S E.w0 C'' w→St E.S E.w0 C' w)→(∀ w,St E.S E.w0 C'' w→St E.S E.w0 C1 w)→TN E ops D C' C1 F tb n rem' L' C''→KJ E K D L' C'')→RJ E ops (NQ K) [o] D L C):yQ E ops D C' C1 F tb n rem i L C:=fun o' ho' K hK=>by
 rw [ho] at ho'; cases ho'
 subst hr
 exact h K fun L' C'' h1 h1' h2=>hK L' C'' h1 (fun _=>h1') h2
end
section
open Go.RowKit
def I_ (m:Array Nat) (ops:Array Oper) (rem:List Nat):Bool:=
 (List.range rem.length).all fun p=>match (rem[p]?).bind fun i=>(ops[i]?).map fun o=>(i,o) with
  |none=>false
  |some (i,o)=>o.dst.isSome&&pW o&&
   ((List.range rem.length).all fun q=>q==p||match (rem[q]?).bind fun j=>(ops[j]?).map fun o=>(j,o) with
    |none=>false
    |some (j,r)=>i != j&&match r.dst with
     |none=>false
     |some d=>o.dst != some d&&(!(o.looksAt ops).contains d||(if q<p then g9 m j i else g9 m i j)))
def Js (ops:Array Oper) (rem:List Nat):Bool:=I_ (oW ops) ops rem
structure JW (ops:Array Oper) (rem:List Nat):Prop where
 lt: ∀ i∈rem,i<ops.size
 plain: ∀ (p i:Nat) (o:Oper),rem[p]? =some i→ops[i]? =some o→(∀ cs b,o.op≠ .select cs b)∧(∀ c,o.op≠ .defer c)
 apart: ∀ (p q i j:Nat) (o r:Oper) (d:Nat),rem[p]? =some i→rem[q]? =some j→q≠p→ops[i]? =some o→ops[j]? =some r→r.dst=some d→i≠j∧o.dst≠some d∧(d∈o.looksAt ops→(q<p∧g9 (oW ops) j i=true)∨(p<q∧g9 (oW ops) i j=true))
theorem JW.of {ops:Array Oper} {rem:List Nat} (h:Js ops rem=true):JW ops rem:=by
 simp only [Js,I_] at h
 rw [fz] at h
 refine ⟨fun i hi=>?_,fun p i o hp ho=>?_,?_⟩
 ·obtain ⟨p,hp⟩:=List.mem_iff_getElem?.1 hi
  have:=h p (by simpa using (List.getElem?_eq_some_iff.1 hp).1)
  simp only [hp,Option.bind_some] at this
  cases ho:ops[i]? with
  |none=>simp [ho] at this
  |some o=>exact (Array.getElem?_eq_some_iff.1 ho).1
 ·have:=h p (by simpa using (List.getElem?_eq_some_iff.1 hp).1)
  simp only [hp,ho,Option.bind_some,Option.map_some,cS] at this
  have:=this.1.2
  refine ⟨fun cs b hh=>?_,fun c hh=>?_⟩<;>simp [pW,hh] at this
 ·intro p q i j o r d hp hq hne ho hr hd
  have:=h p (by simpa using (List.getElem?_eq_some_iff.1 hp).1)
  simp only [hp,ho,Option.bind_some,Option.map_some,cS] at this
  have:=this.2
  rw [fz] at this
  have:=this q (by simpa using (List.getElem?_eq_some_iff.1 hq).1)
  simp only [hq,hr,hd,Option.bind_some,Option.map_some,Bool.or_eq_true,cS,beq_iff_eq,bne_iff_ne,ne_eq] at this
  rcases this with h|⟨h7,h8,h9⟩
  ·exact absurd h hne
  ·refine ⟨h7,h8,fun hm=>?_⟩
   rcases h9 with h9|h9
   ·simp [hm] at h9
   ·by_cases hlt:q<p
    ·rw [if_pos hlt] at h9; exact .inl ⟨hlt,h9⟩
    ·rw [if_neg hlt] at h9; exact .inr ⟨om,h9⟩
def Nr (ops:Array Oper) (is:List Nat):List Nat:=is.filterMap fun i=>(ops[i]?).bind (·.dst)
def xO (L:List (Nat×Value)) (ds:List Nat):List (Nat×Value):=L.filter fun p=> !ds.any (Nat.beq p.1)
theorem rJ {L:List (Nat×Value)} {ds:List Nat} {t:Nat} {v:Value} (h:(xO L ds).lookup t=some v):L.lookup t=some v∧t ∉ ds:=by
 induction L with
 |nil=>simp [xO] at h
 |cons p L ih=>
  obtain ⟨u,x⟩:=p
  unfold xO at h ih
  rw [List.filter_cons] at h
  by_cases e:t=u
  ·subst e
   split at h
   ·rename_i hu
    simp [List.lookup] at h ⊢
    refine ⟨h,fun hm=>?_⟩
    simp only [Bool.not_eq_true',List.any_eq_false] at hu
    exact hu t hm sm
   ·exfalso
    rename_i hu
    have:=(ih h).2
    simp only [Bool.not_eq_true',Bool.not_eq_false,List.any_eq_true] at hu
    obtain ⟨d,hd,he⟩:=hu
    have:t=d:=Nat.eq_of_beq_eq_true he
    subst this
    exact this hd
  ·have hne:(t==u)=false:=by simpa using e
   split at h
   ·simp only [List.lookup,hne] at h ⊢
    exact ih h
   ·simp only [List.lookup,hne]
    exact ih h
/-- what is left yields alone -/
theorem Jm {E:e9} {ops:Array Oper} {Q:dj} {D:List Deferred} {C' C1 C:List aq} {tb rem:List Nat} {L:List (Nat×Value)} {n:Nat} (ds:List Nat) (hc:Js ops rem=true) (hds:Nr ops rem=ds) (hn:rem.length=n) (L0:List (Nat×Value)) (hL:xO L ds=L0) (htb:(rem.all fun i=> !tb.contains i)=true)
 (hC: ∀ w,St E.S E.w0 C w→St E.S E.w0 C' w) (h:DJ E ops D C (fun L'=>RJ E ops Q [] D L' C) (eB ops rem) L0):TN E ops D C' C1 (fun L C=>KJ E (Q .normal) D L C) tb n rem L C:=by
 have hc:=JW.of hc
 obtain ⟨vs,hvl,hF,hall⟩:=DJ.out _ _ h
 have hpl:=ov hc.lt
 have hg: ∀ (p i:Nat) (o:Oper),rem[p]? =some i→ops[i]? =some o→(eB ops rem)[p]? =some o:=fun p i o hp ho=>by rw [mw hc.lt,hp]; exact ho
 have hfg: ∀ (p:Nat) (o:Oper),(eB ops rem)[p]? =some o→ ∃ i,rem[p]? =some i∧ops[i]? =some o:=fun p o h=>by
  rw [mw hc.lt] at h
  cases hp:rem[p]? with
  |none=>simp [hp] at h
  |some i=>exact ⟨i,rfl,by simpa [hp] using h⟩
 have hdlt: ∀ (j:Nat) (o:Oper) (d:Nat),(eB ops rem)[j]? =some o→o.dst=some d→d<E.n:=fun j o d ho hd=>by
  obtain ⟨d',v,h1,h2,_⟩:=hall j o ho
  rw [h1] at hd; cases hd; exact h2
 have hclear: ∀ (t:Nat) (v:Value),L0.lookup t=some v→L.lookup t=some v∧ ∀ (p i:Nat) (o:Oper),rem[p]? =some i→ops[i]? =some o→o.dst≠some t:=fun t v hv=>by
  rw [← hL] at hv
  refine ⟨(rJ hv).1,fun p i o hp ho hd=>(rJ hv).2 ?_⟩
  rw [← hds]
  exact List.mem_filterMap.2 ⟨i,aw hp,by simp [ho,hd]⟩
 have hnd:rem.Nodup:=by
  rw [List.nodup_iff_pairwise_ne,m6]
  intro q p hq hp hlt
  obtain ⟨o,ho⟩: ∃ o,ops[rem[p]]? =some o:=⟨_,Array.getElem?_eq_getElem (hc.lt _ (List.getElem_mem hp))⟩
  obtain ⟨r,hr⟩: ∃ r,ops[rem[q]]? =some r:=⟨_,Array.getElem?_eq_getElem (hc.lt _ (List.getElem_mem hq))⟩
  obtain ⟨d,v,h1,_⟩:=hall q r (hg q _ r (gv hq) hr)
  exact (fun e=>(hc.apart p q _ _ o r d (gv hp) (gv hq) om ho hr h1).1 e.symm)
 -- the frame that a state of the order has
 have key: ∀ (n:Nat) (rem':List Nat) (L':List (Nat×Value)),rem'.length=n→rem'.Nodup→(∀ i∈rem',i∈rem)→(∀ i j,i∈rem'→j∈rem→j ∉ rem'→g9 (oW ops) i j=false)→
  (∀ t,(∀ (p i:Nat) (o:Oper),rem[p]? =some i→ops[i]? =some o→o.dst≠some t)→L'.lookup t=L.lookup t)→
  (∀ (p i:Nat) (o:Oper) (d:Nat),rem[p]? =some i→ops[i]? =some o→o.dst=some d→i ∉ rem'→L'.lookup d=vs[p]?)→
  TN E ops D C' C1 (fun L C=>KJ E (Q .normal) D L C) tb n rem' L' C:=by
  intro n
  induction n with
  |zero=>
   intro rem' L' hl _ hsub _ hold hdone
   have hnil:rem'=[]:=List.length_eq_zero_iff.1 hl
   subst hnil
   intro a w hf hs
   have hfL:Fr E.n D L0 a:=⟨hf.defers,hf.size,fun t v hv=>hf.at_ t v (by rw [hold t (hclear t v hv).2]; exact (hclear t v hv).1)⟩
   have hfull:=kL (eB ops rem) vs (eB ops rem).length L0 a hdlt hfL
   refine hF a w ⟨hf.defers,hf.size,fun t v hv=>?_⟩ hs
   have h1:=hfull.at_ t v hv
   rw [← h1]
   by_cases ht: ∀ (p i:Nat) (o:Oper),rem[p]? =some i→ops[i]? =some o→o.dst≠some t
   ·exact (fj _ vs _ a t (fun m u _ hu hud=>by obtain ⟨x,hx1,hx2⟩:=hfg m u hu; exact ht m x u hx1 hx2 hud)).symm
   ·have: ∃ (p i:Nat) (o:Oper),rem[p]? =some i∧ops[i]? =some o∧o.dst=some t:=by
     refine Classical.byContradiction fun hh=>ht fun p i o hp ho hd=>hh ⟨p,i,o,hp,ho,hd⟩
    obtain ⟨p,i,o,hp,ho,hd⟩:=this
    obtain ⟨d',v',e1,e2,e3,_⟩:=hall p o (hg p i o hp ho)
    rw [hd] at e1; cases e1
    rw [hf.at_ t v' (by rw [hdone p i o t hp ho hd sm,e3])]
    refine (kD _ vs _ a p o t v' (by rw [hpl]; exact (List.getElem?_eq_some_iff.1 hp).1) (hg p i o hp ho) hd (by rw [hf.size]; exact e2) e3 (fun m u hm hne hu=>?_)).symm
    obtain ⟨x,hx1,hx2⟩:=hfg m u hu
    exact (hc.apart m p x i u o t hx1 hp (Ne.symm hne) hx2 ho hd).2.1
  |succ n ih=>
   intro rem' L' hl hnd' hsub hcl hold hdone i hi o ho K hK a w hf hs
   rw [List.mem_filter,fz] at hi
   obtain ⟨hir,hmin⟩:=hi
   obtain ⟨p,hp⟩:=List.mem_iff_getElem?.1 (hsub i hir)
   obtain ⟨d,v,hod,hdn,hvi,hsd⟩:=hall p o (hg p i o hp ho)
   obtain ⟨hsel,hdef⟩:=hc.plain p i o hp ho
   have hfL:Fr E.n D L0 a:=⟨hf.defers,hf.size,fun t v hv=>hf.at_ t v (by rw [hold t (hclear t v hv).2]; exact (hclear t v hv).1)⟩
   have hfrp:=kL (eB ops rem) vs p L0 a hdlt hfL
   have hlook: ∀ t∈o.looksAt ops,a.tmps[t]? =(kM (eB ops rem) vs p a).tmps[t]? :=by
    intro t htl
    by_cases hw: ∃ (q j:Nat) (r:Oper),rem[q]? =some j∧q≠p∧ops[j]? =some r∧r.dst=some t
    ·obtain ⟨q,j,r,hq,hne,hr,hrd⟩:=hw
     obtain ⟨d',v',e1,e2,e3,_⟩:=hall q r (hg q j r hq hr)
     rw [hrd] at e1; cases e1
     have hap:=hc.apart p q i j o r t hp hq hne ho hr hrd
     rcases hap.2.2 htl with ⟨hlt,ha⟩|⟨hlt,ha⟩
     ·have hj:j ∉ rem':=fun hj=>by have:=hmin j hj; rw [ha] at this; cases this
      rw [hf.at_ t v' (by rw [hdone q j r t hq hr hrd hj,e3])]
      refine (kD (eB ops rem) vs p a q r t v' hlt (hg q j r hq hr) hrd (by rw [hf.size]; exact e2) e3 (fun m u hm hne' hu=>?_)).symm
      obtain ⟨x,hx1,hx2⟩:=hfg m u hu
      exact (hc.apart m q x j u r t hx1 hq (Ne.symm hne') hx2 hr hrd).2.1
     ·refine (fj (eB ops rem) vs p a t (fun m u hm hu hud=>?_)).symm
      obtain ⟨x,hx1,hx2⟩:=hfg m u hu
      exact (hc.apart m q x j u r t hx1 hq om hx2 hr hrd).2.1 hud
    ·refine (fj (eB ops rem) vs p a t (fun m u hm hu hud=>?_)).symm
     obtain ⟨x,hx1,hx2⟩:=hfg m u hu
     exact hw ⟨m,x,u,hx1,om,hx2,hud⟩
   have hset:rem'.filter (· != i)=rem'.erase i:=(hnd'.erase_eq_filter i).symm
   have hnext:TN E ops D C' C1 (fun L C=>KJ E (Q .normal) D L C) tb n (rem'.filter (· != i)) ((d,v)::L') C:=by
    refine ih _ _ (by rw [hset,List.length_erase_of_mem hir,hl]; rfl) (hnd'.filter _) (fun j hj=>hsub j (List.mem_filter.1 hj).1) (fun x y hx hy hny=>?_) (fun t ht=>?_) (fun q j r d' hq hr hrd hj=>?_)
    ·have hx':=(List.mem_filter.1 hx).1
     by_cases e:y=i
     ·subst e
      have:=hmin x hx'
      simpa using this
     ·exact hcl x y hx' hy fun hh=>hny (List.mem_filter.2 ⟨hh,by simpa using e⟩)
    ·have hne:(t==d)=false:=by simpa using fun e=>ht p i o hp ho (by rw [hod,e])
     simp only [List.lookup,hne]
     exact hold t ht
    ·by_cases e:q=p
     ·subst e
      rw [hp] at hq; cases hq
      rw [ho] at hr; cases hr
      rw [hod] at hrd; cases hrd
      simp [List.lookup,hvi]
     ·have h9:=hc.apart p q i j o r d' hp hq e ho hr hrd
      have hne:(d'==d)=false:=by simpa using fun e=>h9.2.1 (by rw [hod,e])
      simp only [List.lookup,hne]
      refine hdone q j r d' hq hr hrd fun hh=>hj (List.mem_filter.2 ⟨hh,by simpa using fun e=>h9.1 e.symm⟩)
   have htbi:tb.contains i=false:=by
    have:=(List.all_eq_true.1 htb) i (hsub i hir)
    simpa using this
   have hgo:=fun w' (hk:dD no w w')=>hK ((d,v)::L') C hC (fun hh=>by rw [htbi] at hh; cases hh) hnext (a.put (some d) v) w' (hf.put hdn v) (hs.same hk)
   have:=rn hsd hod hdn hsel hdef hfrp hlook (w:=w) hs (N:=K) (Q:=NQ K) hgo
   unfold qf
   by_cases hw:Region.wanted o (yielded ops a.tmps)=true
   ·rw [if_pos hw] at this ⊢
    refine l7 this (fun a' w' hh=>hh) (fun _ _ _ hF=>hF)
   ·rw [if_neg hw] at this ⊢
    exact this.2
 refine key n rem L hn hnd (fun _ h=>h) (fun i j _ h1 h2=>absurd h1 h2) (fun _ _=>rfl) (fun p i o d hp ho hd hni=>absurd (aw hp) hni)
end
section
open Go.RowKit
theorem St.imp {S:BS} {w0 w:World} {C:List aq} {A B:aq} (i:Nat) (h:St S w0 C w) (hC:C[i]? =some A) (hh: ∀ w,A.holds w→B.holds w) (hf: ∀ b,B.eX b→A.eX b) (hw: ∀ b,B.wf b→A.wf b):St S w0 (C.set i B) w:=
 h.mv i hC ⟨hh w (h.holds A (aw hC)),dD.refl _ _,fun b hb=> .inl (hw b hb),fun b hb=> .inl (hf b hb)⟩
theorem ED {E:e9} {K:Act→World→Prop} {D:List Deferred} {L:List (Nat×Value)} {C C':List aq} {A B:aq} (i:Nat) (hC:C[i]? =some A) (hh:(∀ w,A.holds w→B.holds w)∧(∀ b,B.eX b→A.eX b)∧ ∀ b,B.wf b→A.wf b) (hC':C.set i B=C') (h:KJ E K D L C'):KJ E K D L C:=fun a w hf hs=>
 h a w hf (hC'▸hs.imp i hC hh.1 hh.2.1 hh.2.2)
structure Ee (P:Program) (f:FuncId) (args:List Value) (Cp:List aq) (A:aq) {α:Type} (V:α→Value) (p:α→Prop) (A':α→aq):Prop where
 go:rW P f=true
 run: ∀ w,A.holds w→(∀ B∈Cp,B.holds w)→(∀ B∈Cp,z8 A B.ro)→Calls P f args.toArray w fun e w'=> ∃ x,e= .returned (V x)∧p x∧Mv A (A' x) w w'
def Kf (w0:World) (A:aq) {α:Type} (V:α→Value) (p:α→Prop) (A':α→aq) (e:Ending) (w':World):Prop:= ∃ x,e= .returned (V x)∧p x∧Mv A (A' x) w0 w'
theorem vM {w0 w:World} {A:aq} {C:List aq} {α:Type} {V:α→Value} {p:α→Prop} {A':α→aq} {v:Value} (x:α) (i:Nat) (hV:v=V x) (hp:p x) (hC:C[i]? =some (A' x)) (hw:(A' x).wr=true) (hs:St ⟨A.wf,fun _=>True⟩ w0 C w):Kf w0 A V p A' (.returned v) w:=
 ⟨x,by rw [hV],hp,hs.holds _ (aw hC),hs.keeps,fun b hb=>(hs.own _ (aw hC) b hb).symm,fun b hb=>by
  rcases hs.own _ (aw hC) b ((A' x).whole hw b hb) with h|h
  ·exact .inr h
  ·exact .inl (A.j3 b h)⟩
theorem o5 {P:Program} {f:FuncId} {fn:Func} {c:Code} {args:List Value} {Cp:List aq} {A:aq} {α:Type} {V:α→Value} {p:α→Prop} {A':α→aq} (hgo:rW P f=true) (hf:P.funcs[f]? =some fn) (hb:fn.body=some c) (hn:Nat.ble args.length fn.ntmps=true)
 (h: ∀ (w0:World) (Q:dj),(∀ D L C,LJ ⟨P,none,fn.ntmps,⟨A.wf,fun _=>True⟩,w0⟩ fn (Kf w0 A V p A') D L C→KJ ⟨P,none,fn.ntmps,⟨A.wf,fun _=>True⟩,w0⟩ (Q .ret) D L C)→
  (∀ D L C,LJ ⟨P,none,fn.ntmps,⟨A.wf,fun _=>True⟩,w0⟩ fn (Kf w0 A V p A') D L C→KJ ⟨P,none,fn.ntmps,⟨A.wf,fun _=>True⟩,w0⟩ (Q .normal) D L C)→
  WJ ⟨P,none,fn.ntmps,⟨A.wf,fun _=>True⟩,w0⟩ c Q [] (JV args) (A::Cp.map aq.ro)):Ee P f args Cp A V p A':=by
 refine ⟨hgo,fun w hA hCp hsep=>?_⟩
 refine Ab hf hb hn (h w) ?_
 have h0:=rz hCp
 refine ⟨dD.refl _ _,fun B hB=>?_,List.Pairwise.cons (fun B hB=>?_) h0.sep,fun B hB b hb=>?_,fun _ _ _ _=> .inr trivial⟩
 ·rcases List.mem_cons.1 hB with rfl|hB
  ·exact hA
  ·exact h0.holds B hB
 ·obtain ⟨B',hB',rfl⟩:=List.mem_map.1 hB
  exact hsep B' hB'
 ·rcases List.mem_cons.1 hB with rfl|hB
  ·exact .inr hb
  ·obtain ⟨B',hB',rfl⟩:=List.mem_map.1 hB
   exact hb.elim
/-- each of Cp is read from something of C that is not its i-th -/
def xN (C:List aq) (i:Nat) (Cp:List aq):Prop:= ∀ B∈Cp,∃ j X,j≠i∧C[j]? =some X∧GY X B
theorem nu {C:List aq} {i:Nat}:xN C i []:=fun B hB=>by cases hB
theorem eo {C Cp:List aq} {i:Nat} {B X:aq} (j:Nat) (hj:Nat.beq j i=false) (hC:C[j]? =some X) (h:GY X B) (t:xN C i Cp):xN C i (B::Cp):=fun B' hB=>by
 rcases List.mem_cons.1 hB with rfl|hB
 ·exact ⟨j,X,fun e=>by subst e; simp at hj,hC,h⟩
 ·exact t B' hB
section
variable {E:e9} {ops:Array Oper} {Q:dj} {rest:List Oper} {D:List Deferred} {L:List (Nat×Value)} {C:List aq}
variable {dst:Option Tmp} {d:Nat} {ty:TypeId} {ps:String} {af:Array Edge} {g:Option (Nat×Bool)}
theorem lF {fop:Operand} {xs:Array Operand} {ts:Array TypeId} {f:FuncId} {fi ca:Array Value} {vs args:List Value} {Cp:List aq} {A:aq} {α:Type} {V:α→Value} {p:α→Prop} {A':α→aq} (i:Nat) (hg:ju ops L g=true) (hf:ev L fop=some (.func (.func f) fi ca))
 (hx:evs L xs.toList=some vs) (ha:fi.toList++vs++ca.toList=args) (c:Ee E.P f args Cp A V p A') (hC:C[i]? =some A) (hCp:xN C i Cp) (hd:Nat.blt d E.n=true) (k: ∀ x,p x→RJ E ops Q rest D ((d,V x)::L) (C.set i (A' x))):
 RJ E ops Q (⟨some d,.call {callee:= .value fop,args:=xs,argTypes:=ts},ty,ps,af,g⟩::rest) D L C:=by
 intro a w hfr hs
 have hd':d<E.n:=by rw [← Nat.blt_eq]; exact hd
 unfold qf
 rw [if_pos (dH hfr hg)]
 refine ⟨fun _ _=>trivial,?_⟩
 rw [Oper.semAt_eq _ _ _ sm,uX hfr c.go hf hx ha]
 have hCm:=aw hC
 refine ⟨fun h=>by simp at h,(o7 E.r (c.run w (hs.holds A hCm) (fun B hB=>?_) (fun B hB b hb hb'=>?_))).mono fun e w' he=>?_⟩
 ·obtain ⟨j,X,_,hX,hc⟩:=hCp B hB
  exact hc.holds w (hs.holds X (aw hX))
 ·obtain ⟨j,X,hne,hX,hc⟩:=hCp B hB
  have hXb:=hc.eX b hb'
  have hj:=(List.getElem?_eq_some_iff.1 hX).1
  have hi:=(List.getElem?_eq_some_iff.1 hC).1
  have e1:=(List.getElem?_eq_some_iff.1 hX).2
  have e2:=(List.getElem?_eq_some_iff.1 hC).2
  refine ⟨?_,fun h=>h⟩
  rcases Nat.lt_or_gt_of_ne hne with hlt|hlt
  ·have:=List.pairwise_iff_getElem.1 hs.sep j i hj hi hlt
   rw [e1,e2] at this
   exact (this b hXb hb).2
  ·have:=List.pairwise_iff_getElem.1 hs.sep i j hi hj hlt
   rw [e1,e2] at this
   exact (this b hb hXb).1
 ·obtain ⟨x,rfl,hp,hm⟩:=he
  exact k x hp _ _ (hfr.put hd' _) (hs.mv i hC hm)
theorem zL {sz o l:Nat} {vs el:List Value} (hl:vs.length=l) (ho:o+l≤sz): ∀ (es:List (List Value)) (k:Nat),(∀ x∈es,x.length=sz)→es[k]? =some el→
 es.flatten.take (k*sz+o)++vs++es.flatten.drop (k*sz+o+l)=(es.set k (el.take o++vs++el.drop (o+l))).flatten
 |[],k,_,h=>by simp at h
 |x::es,0,hx,h=>by
  simp at h; subst h
  have h1:x.length=sz:=hx x sm
  simp only [List.flatten_cons,List.set_cons_zero,Nat.zero_mul,Nat.zero_add]
  rw [List.take_append_of_le_length om,List.drop_append_of_le_length om]
  simp [List.append_assoc]
 |x::es,k+1,hx,h=>by
  have h1:x.length=sz:=hx x sm
  have ih:=zL hl ho es k (fun y hy=>hx y (by simp [hy])) (by simpa using h)
  simp only [List.flatten_cons,List.set_cons_succ]
  rw [← ih]
  have e1:(k+1)*sz+o=x.length+(k*sz+o):=by rw [h1,Nat.succ_mul]; omega
  have e2:(k+1)*sz+o+l=x.length+(k*sz+o+l):=by rw [h1,Nat.succ_mul]; omega
  rw [e1,List.take_length_add_append,show x.length+(k*sz+o)+l=x.length+(k*sz+o+l) by omega,List.drop_length_add_append]
  simp [List.append_assoc]
theorem hZ {t n c e sz k o m:Nat} {a:OA} {x y:Operand} {v:Value} {vs el:List Value} {es es':List (List Value)} {C':List aq} (i:Nat) (hg:ju ops L g=true) (hx:ev L x=some (.pointer (o3 a m))) (hy:ev L y=some v) (ht:(tK E.P t).map (·.2)=some n)
 (hv:v.cells.toList=vs) (hn:vs.length=n) (h1:vs.all Value.oneCell'=true) (hC:C[i]? =some (own a c e sz es)) (hk:es[k]? =some el) (hm:m=k*sz+o) (ho:o+n≤sz) (hes:es.set k (el.take o++vs++el.drop (o+n))=es') (hC':C.set i (own a c e sz es')=C') (kk:RJ E ops Q rest D L C'):
 RJ E ops Q (⟨none,.store t x y,ty,ps,af,g⟩::rest) D L C:=by
 subst hm hes hC'
 intro act w hfr hs
 unfold qf
 rw [if_pos (dH hfr hg)]
 obtain ⟨hl,hlen,hrow⟩:=hs.holds _ (aw hC)
 have hke:=(List.getElem?_eq_some_iff.1 hk).1
 rcases hrow with ⟨h2,h0⟩|⟨gg,cap,cur,hv2,hbase,h3,h4,h5,h6,h7⟩
 ·omega
 ·injection hv2 with hv2 hv3 hv4
  subst hv2 hv4
  have hfl:=ik hl
  have hks:k*sz+sz≤es.length*sz:=by rw [← Nat.succ_mul]; exact Nat.mul_le_mul_right _ hke
  have hcl:es.length*sz≤cur.toList.length:=by simp only [Array.length_toList,h6]; exact Nat.mul_le_mul_right _ h4
  have hol:k*sz+o+n≤cur.toList.length:=by omega
  obtain ⟨w',hr,hb',hkk⟩:=pt (P:=E.P) (t:=e) vs cur.toList (k*sz+o) 0 w (fun v hv=>List.all_eq_true.1 h1 v hv) (by rw [hn]; exact hol) (by rw [h3])
  have hsize:(sizeOf t).run E.P w= .ok n w:=by
   obtain ⟨bn,hbn,rfl⟩:=Option.map_eq_some_iff.1 ht
   obtain ⟨bb,nn⟩:=bn
   cases bb
   ·exact (qB hbn w).2
   ·exact (oG hbn w).2
  have hvs:v.cells.size=n:=by rw [← hn,← hv]; simp
  have hpa:o3 (some (⟨gg,0,none⟩:Addr)) (k*sz+o)=some ⟨gg,k*sz+o,none⟩:=by
   simp only [o3,Option.map_some,jm,Nat.zero_add]
  refine qd sm (w':=w') ?_ ?_
  ·simp [execOp,hfr.ev hx,hfr.ev hy,hpa,Instr.storeAt,Instr.sureAddr,storeVar,hsize,hvs,hv,hr]
  ·refine kk _ _ ⟨hfr.defers,hfr.size,hfr.at_⟩ ?_
   have hel:el.length=sz:=hl el (aw hk)
   have hnew: ∀ y∈es.set k (el.take o++vs++el.drop (o+n)),y.length=sz:=by
    intro y hy'
    rcases List.mem_or_eq_of_mem_set hy' with h|rfl
    ·exact hl y h
    ·simp; omega
   have hcap:cur.toList.length=c*sz:=by simpa using h6
   refine hs.zK (b:=gg) i hC ⟨_,rfl,rfl⟩ rfl hkk (fun y ⟨ad,hy1,hy2⟩=>by cases hy1; exact hy2) ⟨hnew,?_⟩
   rw [List.length_set]
   refine ⟨by rw [ik hnew,List.length_set],.inr ⟨gg,c,_,rfl,Nat.zero_le _,hb',h4,h5,?_,?_⟩⟩
   ·simp only [List.size_toArray,List.length_append,List.length_take,List.length_drop,Nat.add_zero]
    omega
   ·rw [Nat.add_zero,hn]
    have e0:=zL hn ho es k hl hk
    rw [← e0,← h7]
    have q1:k*sz+o≤es.length*sz:=by omega
    show ((cur.toList.take (k*sz+o)++vs)++cur.toList.drop (k*sz+o+n)).take (es.length*sz)=_
    have hA:(cur.toList.take (k*sz+o)++vs).length=k*sz+o+n:=by simp only [List.length_append,List.length_take]; omega
    rw [List.take_append,List.take_of_length_le om,hA,List.take_take,Nat.min_eq_left q1,List.drop_take]
end
end
section
open Go.RowKit
/-- an iterator over a map: what is left; what came last -/
def mi (r b:Nat) (m left:List (Int×Value)) (cur:Option (Int×Value)):aq where
 eX k:=k=r∨k=b
 wf k:=k=r∨k=b
 holds w:=r≠b∧ ∃ (es:Array MapEntry) (c since:Nat) (seen:Array Nat) (st:Nat),w.heap[b]? =some (.map es c)∧mZ es c m∧w.heap[r]? =some (.mapIter (some b) since seen st)∧(∀ e∈es.toList,e.born<since)∧since≤st∧since≤c∧
  (leftOf es seen).toList.map (fun e=>(e.key,e.val))=left.map (fun p=>(vI p.1,p.2))∧
  ∀ p,cur=some p→ ∃ (e:MapEntry) (seen0:Array Nat),e∈es.toList∧seen=seen0.push e.born∧st=c∧e.key= .int .i64 p.1∧e.val=p.2
 wr:=true
 j3 _ h:=h
 whole _ _ h:=h
 lt w h k hk:=by
  obtain ⟨_,es,c,since,seen,st,h1,_,h2,_⟩:=h
  rcases hk with rfl|rfl
  ·exact dW h2
  ·exact dW h1
 lh w w' hk h:=by
  obtain ⟨hne,es,c,since,seen,st,h1,h2,h3,h4⟩:=h
  exact ⟨hne,es,c,since,seen,st,(hk b (.inr rfl)).trans h1,h2,(hk r (.inl rfl)).trans h3,h4⟩
theorem z3 {l:List MapEntry} (h:(l.map (·.born)).Nodup) {x y:MapEntry} (hx:x∈l) (hy:y∈l) (e:x.born=y.born):x=y:=by
 obtain ⟨i,hi⟩:=List.getElem?_of_mem hx
 obtain ⟨j,hj⟩:=List.getElem?_of_mem hy
 have h1:(l.map (·.born))[i]? =some x.born:=by rw [fq,hi]; rfl
 have h2:(l.map (·.born))[j]? =some x.born:=by rw [fq,hj,e]; rfl
 have h3:=(List.getElem?_inj (List.getElem?_eq_some_iff.1 h1).1 h).1 (h1.trans h2.symm)
 subst h3
 exact Option.some.inj (hi.symm.trans hj)
section
variable {E:e9} {ops:Array Oper} {Q:dj} {rest:List Oper} {D:List Deferred} {L:List (Nat×Value)} {C:List aq}
variable {dst:Option Tmp} {d:Nat} {ty:TypeId} {ps:String} {af:Array Edge} {g:Option (Nat×Bool)}
theorem D5 {z:Array Value} {n sz:Nat} (hz:z.size=sz):(madeCells z (n*sz)).toList=(List.replicate n z.toList).flatten:=by
 subst hz
 induction n with
 |zero=>simp [madeCells]
 |succ n ih=>
  rw [List.replicate_succ',List.flatten_append,← ih]
  simp only [List.flatten_cons,List.flatten_nil,List.append_nil]
  refine List.ext_getElem? fun i=>?_
  have hl:(madeCells z (n*z.size)).toList.length=n*z.size:=by simp [madeCells]
  by_cases h1:i<n*z.size
  ·rw [List.getElem?_append_left om]
   have h2:i<(n+1)*z.size:=by rw [Nat.succ_mul]; omega
   simp [madeCells,h1,h2]
  ·rw [List.getElem?_append_right om,hl]
   by_cases h2:i<(n+1)*z.size
   ·have h3:i-n*z.size<z.size:=by rw [Nat.succ_mul] at h2; omega
    have e:i=(i-n*z.size)+n*z.size:=by omega
    have h4:i % z.size=i-n*z.size:=((congrArg (· % z.size) e).trans (Nat.add_mul_mod_self_right _ _ _)).trans (Nat.mod_eq_of_lt h3)
    simp [madeCells,h2,h4,h3]
   ·have h3:z.toList.length≤i-n*z.size:=by rw [Nat.succ_mul] at h2; simp; omega
    rw [List.getElem?_eq_none h3]
    simp [madeCells]; omega
theorem tR {t e sz by_ n:Nat} {z:Value} {xl xc:Operand} {j:Int} {es:List (List Value)} (hg:ju ops L g=true) (hl:ev L xl=some (.int .i64 j)) (hc:ev L xc=some (.int .i64 j)) (ht:tA E.P t=some (e,sz,by_,z)) (hj:j=(n:Int)) (hb:by_*n≤281474976710656) (hm:n≤maxLen)
 (hes:List.replicate n z.cells.toList=es) (hd:Nat.blt d E.n=true) (k: ∀ b,RJ E ops Q rest D ((d,.slice (some ⟨b,0,none⟩) n n)::L) (own (some ⟨b,0,none⟩) n e sz es::C)):
 RJ E ops Q (⟨some d,.makeSlice t xl xc,ty,ps,af,g⟩::rest) D L C:=by
 subst hj hes
 intro a w hfr hs
 have hd':d<E.n:=by rw [← Nat.blt_eq]; exact hd
 unfold qf
 rw [if_pos (dH hfr hg)]
 obtain ⟨inf,hu,hi,hz,h3,h4,h5⟩:=Bt ht
 subst h4
 obtain ⟨w',hr,hown,hk⟩:=run_make_full (P:=E.P) w 0 t e inf z sz hu hi hz h3 .i64 .i64 n hb hm (Nat.zero_le _)
 refine gz (v:= .slice (some ⟨w.heap.size,0,none⟩) n n) (w':=w') sm ?_ ?_
 ·simp [execOp,hfr.ev hl,hfr.ev hc,hr]
 ·refine k _ _ _ (hfr.put hd' _) (hs.grow (N:=[own (some ⟨w.heap.size,0,none⟩) n e sz (List.replicate n z.cells.toList)]) ⟨hk.os,hk.tape,hk.output,hk.size,fun q hq _=>hk.block q hq sm⟩ ⟨fun A hA=>?_,fun A hA b hb=>?_,List.pairwise_singleton _ _⟩)
  ·simp at hA; subst hA
   refine ⟨fun x hx=>by rw [List.eq_of_mem_replicate hx]; simpa using h5,?_⟩
   rw [D5 h5] at hown
   simpa using hown
  ·simp at hA; subst hA
   obtain ⟨ad,h1,h2⟩:=hb
   cases h1; exact Nat.le_of_eq h2.symm
end
end
section
open Go.RowKit
theorem xB {n:Int} (h:0≤n∧n≤18446744073709551615):IntKind.u64.wrap n=n:=by
 have e:IntKind.u64.wrap n=n % 18446744073709551616:=by simp [IntKind.wrap,IntKind.bits,IntKind.signed]
 rw [e]; omega
theorem yL {n:Int} (h:0≤n∧n≤255):IntKind.u8.wrap n=n:=by
 have e:IntKind.u8.wrap n=n % 256:=by simp [IntKind.wrap,IntKind.bits,IntKind.signed]
 rw [e]; omega
section
variable {E:e9} {ops:Array Oper} {Q:dj} {rest:List Oper} {D:List Deferred} {L:List (Nat×Value)} {C:List aq}
variable {d:Nat} {ty:TypeId} {ps:String} {af:Array Edge} {g:Option (Nat×Bool)}
/-- a byte of a string -/
theorem JL {t:TypeId} {x ix:Operand} {s:ByteArray} {q:IntKind} {j:Int} {k:Nat} (hg:ju ops L g=true) (hx:ev L x=some (.string s)) (hi:ev L ix=some (.int q j)) (ht:E.P.underlying t=some .string) (hj:j=(k:Int)) (hk:k<s.size) (hd:Nat.blt d E.n=true)
 (kk: ∀ b:Int,0≤b∧b≤255→RJ E ops Q rest D ((d,.int .u8 b)::L) C):RJ E ops Q (⟨some d,.index t x ix,ty,ps,af,g⟩::rest) D L C:=by
 subst hj
 intro a w hfr hs
 have hd':d<E.n:=by rw [← Nat.blt_eq]; exact hd
 unfold qf
 rw [if_pos (dH hfr hg)]
 have hb:s[k]? =some s[k]:=getElem?_pos s k hk
 refine gz (v:= .int .u8 (s[k].toNat:Int)) (w':=w) sm ?_ ?_
 ·simp [execOp,hfr.ev hx,hfr.ev hi,Instr.index,asIntOf,run_underlying ht,hb]
 ·refine kk _ ⟨om,?_⟩ _ _ (hfr.put hd' _) hs
  have:=s[k].toNat_lt
  omega
end
def Kp (m:List Int) (i:Nat):Prop:= ∀ p r,p<r→r<i→r<m.length→m.getD p 0≤m.getD r 0
/-- sorted up to i, but for the one at j, which is not above those behind it -/
def Jy (m:List Int) (i j:Nat):Prop:=(∀ p r,p<r→r≤i→p≠j→r≠j→m.getD p 0≤m.getD r 0)∧ ∀ r,j<r→r≤i→m.getD j 0≤m.getD r 0
theorem Dm {m:List Int} {i:Nat} (h:Kp m i) (hi:i<m.length):Jy m i i:=⟨fun p r hpr hri hp hr=>h p r hpr om om,fun r h1 h2=>by omega⟩
theorem uq {m:List Int} {j:Nat} {x:Int} (h:m[j]? =some x):m.getD j 0=x:=by simp [List.getD,h]
theorem pM {m:List Int} {j:Nat} {x y:Int} (hx:m[j]? =some x) (hy:m[j-1]? =some y) (hj:0<j) (p:Nat):
 ((m.set j y).set (j-1) x).getD p 0=if p=j-1 then x else if p=j then y else m.getD p 0:=by
 have h1:=(List.getElem?_eq_some_iff.1 hx).1
 have h2:=(List.getElem?_eq_some_iff.1 hy).1
 simp only [List.getD,List.getElem?_set,List.length_set]
 by_cases e1:j-1=p
 ·subst e1; simp [h2]
 ·have e1': ¬ p=j-1:=fun e=>e1 e.symm
  rw [if_neg e1,if_neg e1']
  by_cases e2:j=p
  ·subst e2; simp [h1]
  ·have e2': ¬ p=j:=fun e=>e2 e.symm
   rw [if_neg e2,if_neg e2']
theorem FY {m:List Int} {i j:Nat} {x y:Int} (hx:m[j]? =some x) (hy:m[j-1]? =some y) (hj:0<j) (hji:j≤i) (h:x<y) (hI:Jy m i j):Jy ((m.set j y).set (j-1) x) i (j-1):=by
 have gx:=uq hx
 have gy:=uq hy
 refine ⟨fun p r hpr hri hp hr=>?_,fun r h1 h2=>?_⟩
 ·rw [pM hx hy hj,pM hx hy hj,if_neg hp,if_neg hr]
  by_cases e1:p=j
  ·rw [if_pos e1,if_neg om,← gy]
   exact hI.1 (j-1) r om hri om om
  ·rw [if_neg e1]
   by_cases e2:r=j
   ·rw [if_pos e2,← gy]; exact hI.1 p (j-1) om om e1 om
   ·rw [if_neg e2]; exact hI.1 p r hpr hri e1 e2
 ·rw [pM hx hy hj,pM hx hy hj,if_pos rfl,if_neg om]
  by_cases e:r=j
  ·rw [if_pos e]; omega
  ·rw [if_neg e,← gx]; exact hI.2 r om h2
theorem yw {m:List Int} {i j:Nat} (hj: ¬ 0<j) (hI:Jy m i j):Kp m (i+1):=fun p r hpr hri _=>by
 by_cases e1:p=j
 ·subst e1; exact hI.2 r hpr om
 ·exact hI.1 p r hpr om e1 om
theorem zu {m:List Int} {i j:Nat} {x y:Int} (hx:m[j]? =some x) (hy:m[j-1]? =some y) (hj:0<j) (hji:j≤i) (h: ¬ x<y) (hI:Jy m i j):Kp m (i+1):=fun p r hpr hri hl=>by
 have gx:=uq hx
 have gy:=uq hy
 by_cases e1:p=j
 ·subst e1; exact hI.2 r hpr om
 ·by_cases e2:r=j
  ·subst e2
   rw [gx]
   by_cases e3:p=r-1
   ·subst e3; rw [gy]; omega
   ·have:=hI.1 p (r-1) om om e1 om
    rw [gy] at this; omega
  ·exact hI.1 p r hpr om e1 e2
theorem Ea {m:List Int} {j:Nat} {x y:Int} (hx:m[j]? =some x) (hy:m[j-1]? =some y):((m.set j y).set (j-1) x).Perm m:=by
 obtain ⟨h1,rfl⟩:=List.getElem?_eq_some_iff.1 hx
 obtain ⟨h2,rfl⟩:=List.getElem?_eq_some_iff.1 hy
 exact List.set_set_perm h1 h2
theorem G8 {m:List Int}:Kp m 1:=fun p r h1 h2=>by omega
theorem G9 {m:List Int} {i:Nat} (h:Kp m i) (hi:m.length≤i):m.Pairwise (· ≤ ·):=by
 rw [m6]
 intro p r hp hr hpr
 have:=h p r hpr om hr
 simpa [List.getD,hp,hr] using this
theorem qm {a b:List Int} (h:a.Perm b) (ha:a.Pairwise (· ≤ ·)) (hb:b.Pairwise (· ≤ ·)):a=b:=
 List.Perm.eq_of_pairwise (fun a b _ _ h1 h2=>Int.le_antisymm h1 h2) ha hb h
end
section
section
variable {E:e9} {ops:Array Oper} {D:List Deferred} {L:List (Nat×Value)} {C:List aq} {dst:Option Tmp} {ty:TypeId} {ps:String} {af:Array Edge} {g:Option (Nat×Bool)}
theorem cf {x:Operand} {ad:Addr} (hg:ju ops L g=true) (hx:ev L x=some (.pointer (some ad))):
 SD E ops ⟨dst,.nilCheck x,ty,ps,af,g⟩ D L C (.pointer (some ad)):=
 dJ hg sm fun a w hfr hs=>by simp [execOp,hfr.ev hx]
end
end
end Go.Proofs.YtcoejkiaokbmpaaGreatDoor
