/-
 The statement topMeasured_said, part 1 of 5: Core, Step, Ops, Mem, Call, Fun, Own, Aux, Range, More, Draw, Open, Types, Map, Trk, DrawN, Pure, Fm, It, Sort, Ptr.
 Conditions: none.
-/
import Derived.WalkKit
import Derived.RangeFuncLeaves
import Derived.RangeFuncRecord
import Derived.OrdersIn
import Derived.Deep.LoopGhost
import Derived.Maps.AppendAt
import Derived.RangeFuncNested
import Derived.Scope
import Derived.LoopNIn
import Derived.ProofKit
import Derived.Deep.Slices
import Derived.Below
import Derived.ChangeSame
import Derived.Maps.RangeRun
import Derived.Laws.OwnMore
namespace Go.Proofs.YtkidpbhlgnalaaaGreat
theorem U {α : Sort _} {a : α} : a = a := rfl
theorem sd {P : Prop} (h : P := by first | assumption | omega | (simp; done) | (simp; omega) | (dsimp only; omega)) : P := h
theorem om {P : Prop} (h : P := by first | omega | (dsimp only; omega)) : P := h
theorem sm {P : Prop} (h : P := by simp) : P := h
theorem dc {P : Prop} (h : P := by decide) : P := h
theorem kr {P : Prop} (h : P := by kernel_rfl) : P := h
theorem os {P : Prop} (h : P := by first | omega | (simp; omega) | (dsimp only; omega)) : P := h
theorem sq {P : Prop} (h : P := by first | (simp; done) | (simp; omega)) : P := h
theorem asm {P : Prop} (h : P := by assumption) : P := h
theorem dso {P : Prop} (h : P := by dsimp only; omega) : P := h
set_option maxRecDepth 100000
set_option maxHeartbeats 4000000
set_option linter.unusedVariables false
section
open Go.RowKit
theorem IV {P:Prop} (q:false=true):P:=Bool.noConfusion q
theorem Ju {P:Prop} (q:true=false):P:=Bool.noConfusion q
theorem JZ {P Q:Prop} (h:Q):(false=true→P)∧(false=false→Q):=⟨nofun,fun _=>h⟩
theorem Jv {α:Type} {a b c:α} {P:Prop} (e:a=b) (h: ¬ b=c:=by decide):b=a∧(a=c→P):=⟨e.symm,fun q=>absurd (e.symm.trans q) h⟩
theorem JG {α:Type} {a b c:α} {P:Prop} (e:a=b) (h: ¬ b=c):b=a∧(a=c→P):=⟨e.symm,fun q=>absurd (e.symm.trans q) h⟩
theorem bh {α:Type _} (l:List α) (i:Nat) (h:i<l.length): ∃ y,l[i]? =some y:=⟨_,List.getElem?_eq_getElem h⟩
theorem bp {α β:Type _} {l:List α} {i:Nat} {x:α} (f:α→β) (h:l[i]? =some x):(l.map f)[i]? =some (f x):=by rw [List.getElem?_map,h]; rfl
theorem aM {p G:Prop} {i:Decidable p} (k:p→G):decide p=true→G:=fun h=>k (of_decide_eq_true h)
theorem aL {p G:Prop} {i:Decidable p} (k: ¬ p→G):decide p=false→G:=fun h=>k (of_decide_eq_false h)
theorem aP {p G:Prop} {i:Decidable p} (k: ¬ p→G):(!decide p)=true→G:=fun h=>k (by simpa using h)
theorem aO {p G:Prop} {i:Decidable p} (k:p→G):(!decide p)=false→G:=fun h=>k (by simpa using h)
abbrev vI (n:Int):Value:= .int .i64 n
theorem cB {a b:Bool} (h:a=b):Value.bool a=Value.bool b:=congrArg _ h
theorem cI {a b:Int} (h:a=b):Value.int .i64 a=Value.int .i64 b:=congrArg _ h
abbrev aG:= @List.mem_of_getElem?
abbrev eu:= @List.getElem?_eq_getElem
abbrev aV:= @List.getElem?_eq_some_iff
abbrev aD:= @decide_eq_false
abbrev bY:= @decide_eq_true
abbrev gD:= @List.getElem?_map
abbrev cN:= @List.mem_singleton
abbrev bZ:= @List.mem_cons
abbrev gk:= @List.mem_cons_self
abbrev d_:= @List.pairwise_iff_getElem
abbrev cy:= @List.mem_map
abbrev js:= @List.all_cons
abbrev cT:= @List.all_eq_true
abbrev px:= @List.eq_nil_of_length_eq_zero
abbrev e9:= @List.mem_append
abbrev fA:= @List.mem_cons_of_mem
abbrev cZ:= @Bool.and_eq_true
abbrev eH:= @decide_eq_decide
abbrev vP (b:Nat):Value:= .pointer (some ⟨b,0,none⟩)
abbrev vS (a:Option Addr) (n c:Nat):Value:= .slice a n c
abbrev vB (b:Bool):Value:= .bool b
abbrev vA (l:List Value):Value:= .agg l.toArray
abbrev vT (l:List Value):Value:= .tuple l.toArray
abbrev OA:=Option Addr
abbrev cG:=List (Nat×Value)
abbrev eU:=List Deferred
abbrev Fw (r:Option Nat):Fence:={fn:=fun _=>True,depth:=none,alive:=false,round:=r}
theorem lO {P:Program} {f:FuncId} {args:Array Value} {w:World} {R:Ending→World→Prop} (r:Option Nat) (h:Calls P f args w R):CallsIn (Fw r) 0 P f args w R:=
 (callsIn_wide (n:=0)).2 h
theorem oR {P:Program} {f:FuncId} {args:Array Value} {w:World} {R:Ending→World→Prop} (h:CallsIn (Fw none) 0 P f args w R):Calls P f args w R:=
 (callsIn_wide (n:=0)).1 h
structure Fr (n:Nat) (D:eU) (L:cG) (a:Act):Prop where
 defers:a.defers=D
 size:a.tmps.size=n
 at_: ∀ t v,L.lookup t=some v→a.tmps[t]? =some v
def ev (L:cG):Operand→Option Value
 | .tmp t=>L.lookup t
 | .const v=>some v
 | .global g=>some (.pointer (some ⟨g,0,none⟩))
 | .func f=>some (.func (.func f) #[] #[])
theorem Fr.ev {n:Nat} {D:eU} {L:cG} {a:Act} (h:Fr n D L a) {x:Operand} {v:Value} (hx:ev L x=some v):a.eval x=v:=by
 cases x with
 |tmp t=>have:=h.at_ t v hx; simp [Act.eval,this]
 |const u=>simpa [Go.Proofs.YtkidpbhlgnalaaaGreat.ev,Act.eval] using hx
 |global g=>simpa [Go.Proofs.YtkidpbhlgnalaaaGreat.ev,Act.eval] using hx
 |func f=>simpa [Go.Proofs.YtkidpbhlgnalaaaGreat.ev,Act.eval] using hx
theorem Fr.put {n:Nat} {D:eU} {L:cG} {a:Act} (h:Fr n D L a) {d:Nat} (hd:d<n) (v:Value):Fr n D ((d,v)::L) (a.put (some d) v):=by
 refine ⟨h.defers,by simp [Act.put,h.size],fun t u hu=>?_⟩
 simp only [Act.put]
 by_cases e:t=d
 ·subst e
  simp only [List.lookup,beq_self_eq_true] at hu
  rw [Array.getElem?_setIfInBounds_self_of_lt (by rw [h.size]; exact hd)]; exact hu
 ·have:(t==d)=false:=by simpa using e
  simp only [List.lookup,this] at hu
  rw [Array.getElem?_setIfInBounds_ne (fun x=>e x.symm)]
  exact h.at_ t u hu
/-- fewer slots are known -/
def cL (L L':cG):Prop:= ∀ t v,L'.lookup t=some v→L.lookup t=some v
theorem cL.nil (L:cG):cL L []:=fun _ _ h=>by simp [List.lookup] at h
theorem cL.cons {L L':cG} {t:Nat} {v:Value} (h:L.lookup t=some v) (k:cL L L'):cL L ((t,v)::L'):=fun s u hu=>by
 by_cases e:s=t
 ·subst e; simp only [List.lookup,beq_self_eq_true] at hu; exact h.trans hu
 ·have:(s==t)=false:=by simpa using e
  simp only [List.lookup,this] at hu; exact k s u hu
theorem Fr.sub {n:Nat} {D:eU} {L L':cG} {a:Act} (h:Fr n D L a) (k:cL L L'):Fr n D L' a:=
 ⟨h.defers,h.size,fun t v hv=>h.at_ t v (k t v hv)⟩
structure au where
 dG:Nat→Prop
 /-- what of it may be written -/
 wf:Nat→Prop
 holds:World→Prop
 /-- all of it may be written -/
 wr:Bool
 iL: ∀ b,wf b→dG b
 whole:wr=true→ ∀ b,dG b→wf b
 lt: ∀ w,holds w→ ∀ b,dG b→b<w.heap.size
 kQ: ∀ w w':World,(∀ b,dG b→w'.heap[b]? =w.heap[b]?)→holds w→holds w'
def wW (A B:au):Prop:= ∀ b,A.dG b→B.dG b→ ¬ A.wf b∧ ¬ B.wf b
abbrev NS:=Nat→Prop
def no:NS:=fun _=>False
def only (b:Nat):NS:=fun k=>k=b
/-- what may be written, and what may be read, of the blocks that were there -/
structure BS where
 w:NS
 r:NS
def nz:BS:=⟨no,fun _=>True⟩
theorem wW.symm {A B:au} (h:wW A B):wW B A:=fun b hb ha=>(h b ha hb).symm
/-- all but the blocks of S is as it was; nothing of the streams has turned -/
structure cQ (S:NS) (w w':World):Prop where
 os:w'.os=w.os
 tape:w'.tape=w.tape
 output:w'.output=w.output
 size:w.heap.size≤w'.heap.size
 block: ∀ k,k<w.heap.size→ ¬ S k→w'.heap[k]? =w.heap[k]?
theorem cQ.refl (S:NS) (w:World):cQ S w w:=⟨rfl,rfl,rfl,Nat.le_refl _,fun _ _ _=>rfl⟩
theorem cQ.trans {S:NS} {a b c:World} (h:cQ S a b) (k:cQ S b c):cQ S a c:=
 ⟨k.os.trans h.os,k.tape.trans h.tape,k.output.trans h.output,Nat.le_trans h.size k.size,fun i hi hs=>(k.block i (Nat.lt_of_lt_of_le hi h.size) hs).trans (h.block i hi hs)⟩
theorem cQ.mono {S S':NS} {a b:World} (h:cQ S a b) (hs: ∀ k,S k→S' k):cQ S' a b:=
 ⟨h.os,h.tape,h.output,h.size,fun i hi hn=>h.block i hi (fun hm=>hn (hs i hm))⟩
theorem cQ.below {w w':World} (h:cQ no w w'):Below w.heap.size w w':=⟨h.os,h.tape,h.output,h.size,fun k hk=>h.block k hk (fun h=>h)⟩
theorem cQ.drew (S:NS) (w:World):cQ S w w.drew:=⟨rfl,rfl,rfl,Nat.le_refl _,fun _ _ _=>rfl⟩
theorem cQ.alloc (S:NS) (w:World) (o:Obj):cQ S w (w.alloc o):=⟨rfl,rfl,rfl,sm,fun k hk _=>Below.heap_alloc w o k hk⟩
/-- the state: what holds of memory, each thing by itself -/
structure St (S:BS) (w0:World) (C:List au) (w:World):Prop where
 keeps:cQ S.w w0 w
 holds: ∀ A∈C,A.holds w
 sep:C.Pairwise wW
 own: ∀ A∈C,∀ b,A.wf b→w0.heap.size≤b∨S.w b
 seen: ∀ A∈C,∀ b,A.dG b→w0.heap.size≤b∨S.r b
/-- C' is a part of C, in whatever order, each thing once -/
theorem St.sub {S:BS} {w0 w:World} {C C':List au} (h:St S w0 C w) (hs:C'.Pairwise wW) (hm: ∀ A∈C',A∈C):St S w0 C' w:=
 ⟨h.keeps,fun A hA=>h.holds A (hm A hA),hs,fun A hA=>h.own A (hm A hA),fun A hA=>h.seen A (hm A hA)⟩
theorem St.take {S:BS} {w0 w:World} {C C':List au} (h:St S w0 C w) (hs:C'.Sublist C):St S w0 C' w:=
 h.sub (h.sep.sublist hs) (fun _ hA=>hs.subset hA)
theorem St.perm {S:BS} {w0 w:World} {C C':List au} (h:St S w0 C w) (hs:C.Perm C'):St S w0 C' w:=
 h.sub (hs.pairwise h.sep (fun k=>wW.symm k)) (fun _ hA=>hs.mem_iff.2 hA)
/-- what is new -/
structure Cj (w w':World) (N:List au):Prop where
 holds: ∀ A∈N,A.holds w'
 fresh: ∀ A∈N,∀ b,A.dG b→w.heap.size≤b
 sep:N.Pairwise wW
theorem Cj.nil (w w':World):Cj w w' []:=⟨sm,sm,List.Pairwise.nil⟩
theorem St.grow {S:BS} {w0 w w':World} {C N:List au} (h:St S w0 C w) (k:cQ no w w') (n:Cj w w' N):St S w0 (N++C) w':=by
 refine ⟨h.keeps.trans (k.mono (fun _ h=>h.elim)),fun A hA=>?_,?_,fun A hA b hb=>?_,fun A hA b hb=>?_⟩
 ·rcases e9.1 hA with hA|hA
  ·exact n.holds A hA
  ·exact A.kQ w w' (fun b hb=>k.block b (A.lt w (h.holds A hA) b hb) (fun h=>h)) (h.holds A hA)
 ·rw [List.pairwise_append]
  refine ⟨n.sep,h.sep,fun A hA B hB b ha hb=>?_⟩
  have D:=n.fresh A hA b ha
  have E:=B.lt w (h.holds B hB) b hb
  omega
 ·rcases e9.1 hA with hA|hA
  ·exact .inl (Nat.le_trans h.keeps.size (n.fresh A hA b (A.iL b hb)))
  ·exact h.own A hA b hb
 ·rcases e9.1 hA with hA|hA
  ·exact .inl (Nat.le_trans h.keeps.size (n.fresh A hA b hb))
  ·exact h.seen A hA b hb
theorem St.same {S:BS} {w0 w w':World} {C:List au} (h:St S w0 C w) (k:cQ no w w'):St S w0 C w':=by
 simpa using h.grow k (Cj.nil w w')
structure dW where
 P:Program
 r:Option Nat
 n:Nat
 S:BS
 w0:World
abbrev cq:=Exit→Act→World→Prop
/-- code, from a frame and a state -/
def WJ (E:dW) (c:Code) (Q:cq) (D:eU) (L:cG) (C:List au):Prop:=
 ∀ a w,Fr E.n D L a→St E.S E.w0 C w→c.wpIn (Fw E.r) 0 E.P Q a w
/-- a thing that is asked of what follows -/
def KJ (E:dW) (K:Act→World→Prop) (D:eU) (L:cG) (C:List au):Prop:=
 ∀ a w,Fr E.n D L a→St E.S E.w0 C w→K a w
def nv (r:Option Nat) (P:Program) (ops:Array Oper) (Q:cq):List Oper→Act→World→Prop
 |[],a,w=>Q .normal a w
 |o::rest,a,w=>if Region.wanted o (yielded ops a.tmps) then o.wpIn (Fw r) 0 P a w (nv r P ops Q rest) Q else nv r P ops Q rest (a.put o.dst undef) w
def RJ (E:dW) (ops:Array Oper) (Q:cq) (rest:List Oper) (D:eU) (L:cG) (C:List au):Prop:=
 ∀ a w,Fr E.n D L a→St E.S E.w0 C w→nv E.r E.P ops Q rest a w
theorem ur {F:Fence} {n:Nat} {P:Program} {o:Oper} {a:Act} {N N':Act→World→Prop} {Q Q':cq} (hn: ∀ a w,N a w→N' a w) (hq: ∀ e a w,Q e a w→Q' e a w):
 ∀ {res:Result Next},o.uponIn F n P a N Q res→o.uponIn F n P a N' Q' res:=by
 intro res h
 cases res with
 |halt x w=>cases x<;>simp only [Oper.uponIn] at h ⊢ <;>first|exact hq _ _ _ h|exact h
 |ok x w=>
  cases x with
  |value v=>exact hn _ _ h
  |skip=>exact hn _ _ h
  |defer d=>exact hn _ _ h
  |enter f args=>
   refine ⟨h.1,h.2.mono fun e w'' he=>?_⟩
   cases e with
   |returned v=>exact hn _ _ he
   |panicked ch=>exact hq _ _ _ he
   |outgrown=>obtain ⟨A,C,B⟩:=he; exact ⟨A,C,hq _ _ _ B⟩
  |row x args=>exact ⟨h.1,h.2.mono fun v w'' he=>hn _ _ he⟩
  |round l f tmps asl bd=>
   refine ⟨h.1,h.2.mono fun e w'' he=>?_⟩
   cases e with
   |returned v=>exact hn _ _ he
   |panicked ch=>exact hq _ _ _ he
   |outgrown=>obtain ⟨A,C,B⟩:=he; exact ⟨A,C,hq _ _ _ B⟩
  |_=>simp [Oper.uponIn] at h
theorem jw {F:Fence} {n:Nat} {P:Program} {o:Oper} {a:Act} {w:World} {N N':Act→World→Prop} {Q Q':cq} (h:o.wpIn F n P a w N Q) (hn: ∀ a w,N a w→N' a w) (hq: ∀ e a w,Q e a w→Q' e a w):o.wpIn F n P a w N' Q':=
 ⟨h.1,ur hn hq h.2⟩
theorem vE {r:Option Nat} {P:Program} {ops:Array Oper} {Q:cq} (l:List Oper): ∀ (k:Nat) (a:Act) (w:World),(∀ j,l[j]? =ops[k+j]?)→nv r P ops Q l a w→wpOpsIn (Fw r) 0 P ops Q (List.range' k l.length) a w:=by
 induction l with
 |nil=>intro k a w _ h; simpa [wpOpsIn,nv] using h
 |cons o l ih=>
  intro k a w hl h
  have A:ops[k]? =some o:=by simpa using (hl 0).symm
  have hl': ∀ j,l[j]? =ops[k+1+j]? :=fun j=>by have:=hl (j+1); simpa [Nat.add_assoc,Nat.add_comm 1 j] using this
  simp only [List.length_cons,List.range'_succ,wpOpsIn,A]
  simp only [nv] at h
  split at h
  ·rename_i hw
   rw [if_pos hw]
   exact jw h (fun a w=>ih _ a w hl') (fun _ _ _ h=>h)
  ·rename_i hw
   rw [if_neg hw]
   exact ⟨fun _ _=>trivial,ih _ _ _ hl' h⟩
theorem ao {E:dW} {id:Nat} {ops:Array Oper} {Q:cq} {D:eU} {L:cG} {C:List au} (h:RJ E ops Q ops.toList D L C):WJ E (.region id ops false) Q D L C:=by
 intro a w hf hs
 refine wpIn_region ?_
 have:=vE (r:=E.r) (P:=E.P) (Q:=Q) ops.toList 0 a w sm (h a w hf hs)
 rwa [List.range_eq_range',← Array.length_toList]
theorem aB {E:dW} {ops:Array Oper} {Q:cq} {D:eU} {L:cG} {C:List au} (h:KJ E (Q .normal) D L C):RJ E ops Q [] D L C:=h
theorem al {E:dW} {x y:Code} {Q:cq} {D:eU} {L:cG} {C:List au}
 (h: ∀ K:Act→World→Prop,(∀ D L C,WJ E y Q D L C→KJ E K D L C)→WJ E x (Exit.then K Q) D L C):WJ E (.seq x y) Q D L C:=
 fun a w hf hs=>wpIn_seq (h _ (fun _ _ _ hy a w hf hs=>hy a w hf hs) a w hf hs)
theorem aY {E:dW} {K:Act→World→Prop} {Q:cq} {D:eU} {L:cG} {C:List au} (h:KJ E K D L C):KJ E (Exit.then K Q .normal) D L C:=h
theorem aI {E:dW} {id:Nat} {Q:cq} {D:eU} {L:cG} {C:List au} (h:KJ E (Q .normal) D L C):KJ E (Exit.inBlock id Q .normal) D L C:=h
theorem ai {E:dW} {id:Nat} {K:Act→World→Prop} {Q:cq} {D:eU} {L:cG} {C:List au} (h:KJ E (Q (.exit id)) D L C):KJ E (Exit.then K Q (.exit id)) D L C:=h
theorem aw {E:dW} {id:Nat} {Q:cq} {D:eU} {L:cG} {C:List au} (h:KJ E (Q .normal) D L C):KJ E (Exit.inBlock id Q (.exit id)) D L C:=fun a w hf hs=>by
 simp only [Exit.inBlock,if_true]; exact h a w hf hs
theorem fq {E:dW} {id id':Nat} {Q:cq} {D:eU} {L:cG} {C:List au} (hne:Nat.beq id' id=false) (h:KJ E (Q (.exit id')) D L C):KJ E (Exit.inBlock id Q (.exit id')) D L C:=fun a w hf hs=>by
 have:id'≠id:=fun e=>by subst e; simp at hne
 simp only [Exit.inBlock,this,if_false]; exact h a w hf hs
theorem bS {E:dW} {Q:cq} {D:eU} {L:cG} {C:List au} (h:KJ E (Q .normal) D L C):WJ E .skip Q D L C:=fun a w hf hs=>wpIn_skip (h a w hf hs)
theorem an {E:dW} {Q:cq} {D:eU} {L:cG} {C:List au} (h:KJ E (Q .ret) D L C):WJ E .ret Q D L C:=fun a w hf hs=>wpIn_ret (h a w hf hs)
theorem bo {E:dW} {id:Nat} {Q:cq} {D:eU} {L:cG} {C:List au} (h:KJ E (Q (.exit id)) D L C):WJ E (.exit id) Q D L C:=fun a w hf hs=>wpIn_exit (h a w hf hs)
theorem ar {E:dW} {id:Nat} {c:Code} {Q:cq} {D:eU} {L:cG} {C:List au} (h:WJ E c (Exit.inBlock id Q) D L C):WJ E (.block id c) Q D L C:=fun a w hf hs=>wpIn_block (h a w hf hs)
theorem cd {E:dW} {c:Operand} {x y:Code} {b:Bool} {Q:cq} {D:eU} {L:cG} {C:List au} (hc:ev L c=some (.bool b))
 (h1:b=true→WJ E x Q D L C) (h2:b=false→WJ E y Q D L C):WJ E (.cond c x y) Q D L C:=by
 intro a w hf hs
 refine wpIn_cond_split (hf.ev hc) (fun hb=>h1 hb a w hf hs) (fun hb=>h2 hb a w hf hs)
theorem aC {E:dW} {c:Operand} {x y:Code} {Q:cq} {D:eU} {L:cG} {C:List au} (hc:ev L c=some (.bool true)) (h1:WJ E x Q D L C):WJ E (.cond c x y) Q D L C:=
 cd hc (fun _=>h1) (fun h=>by cases h)
theorem bw {E:dW} {c:Operand} {x y:Code} {Q:cq} {D:eU} {L:cG} {C:List au} (hc:ev L c=some (.bool false)) (h1:WJ E y Q D L C):WJ E (.cond c x y) Q D L C:=
 cd hc (fun h=>by cases h) (fun _=>h1)
theorem j9 {E:dW} {K:Act→World→Prop} {D:eU} {L L':cG} {C C':List au} (hL:cL L L') (hC: ∀ w,St E.S E.w0 C w→St E.S E.w0 C' w) (h:KJ E K D L' C'):KJ E K D L C:=
 fun a w hf hs=>h a w (hf.sub hL) (hC w hs)
/-- A loop: a relation over a ghost of whatever type, a measure on it. -/
theorem Eb {E:dW} {c:Code} {Q:cq} {D:eU} {L:cG} {C:List au} {ι:Type} (Li:ι→cG) (Ci:ι→List au) (μ:ι→Nat) (x0:ι)
 (h0:cL L (Li x0)) (hC: ∀ w,St E.S E.w0 C w→St E.S E.w0 (Ci x0) w)
 (round: ∀ x (J:Act→World→Prop),(∀ y D' L' C',D'=D→μ y<μ x→cL L' (Li y)→(∀ w,St E.S E.w0 C' w→St E.S E.w0 (Ci y) w)→KJ E J D' L' C')→WJ E c (Exit.then J Q) D (Li x) (Ci x)):WJ E (.loop c) Q D L C:=by
 intro a w hf hs
 have H: ∃ x,Fr E.n D (Li x) a∧St E.S E.w0 (Ci x) w:=⟨x0,hf.sub h0,hC w hs⟩
 clear hf hs
 have key: ∀ (m:Nat) (a:Act) (w:World),(∃ x,μ x=m∧Fr E.n D (Li x) a∧St E.S E.w0 (Ci x) w)→(Code.loop c).wpIn (Fw E.r) 0 E.P Q a w:=by
  intro m a w hx
  refine wpIn_loop (fun a w=> ∃ x,Fr E.n D (Li x) a∧St E.S E.w0 (Ci x) w) (fun a w=>leastOf fun k=> ∃ x,μ x=k∧Fr E.n D (Li x) a∧St E.S E.w0 (Ci x) w) (by obtain ⟨x,_,h⟩:=hx; exact ⟨x,h⟩) ?_
  intro a w hx
  have F: ∃ k,∃ x,μ x=k∧Fr E.n D (Li x) a∧St E.S E.w0 (Ci x) w:=by obtain ⟨x,h⟩:=hx; exact ⟨_,x,rfl,h⟩
  obtain ⟨x,K,AA,M⟩:=(leastOf_spec F).1
  refine round x _ ?_ a w AA M
  intro y D' L' C' hD G A B a' w' hf' hs'
  subst hD
  refine ⟨⟨y,hf'.sub A,B _ hs'⟩,?_⟩
  rw [← K]
  exact Nat.lt_of_le_of_lt ((leastOf_spec ⟨_,y,U,hf'.sub A,B _ hs'⟩).2 _ ⟨y,U,hf'.sub A,B _ hs'⟩) G
 obtain ⟨x,h⟩:=H
 exact key _ a w ⟨x,U,h⟩
end
section
open Go.RowKit
/-- An operation that yields v, whatever else holds; the state stays. -/
def SD (E:dW) (ops:Array Oper) (o:Oper) (D:eU) (L:cG) (C:List au) (v:Value):Prop:=
 ∀ a w,Fr E.n D L a→St E.S E.w0 C w→
  (Region.wanted o (yielded ops a.tmps)=true∧o.wpIn (Fw E.r) 0 E.P a w (fun a' w'=>a'=a.put o.dst v∧cQ no w w') (fun _ _ _=>False))∨
  (Region.wanted o (yielded ops a.tmps)=false∧v=undef)
/-- in the text's order -/
theorem FK {E:dW} {ops:Array Oper} {Q:cq} {o:Oper} {rest:List Oper} {D:eU} {L:cG} {C:List au} {v:Value} {d:Nat}
 (h:SD E ops o D L C v) (ho:o.dst=some d) (hd:Nat.blt d E.n=true) (k:RJ E ops Q rest D ((d,v)::L) C):RJ E ops Q (o::rest) D L C:=by
 intro a w hf hs
 have hd':d<E.n:=by rw [← Nat.blt_eq]; exact hd
 unfold nv
 rcases h a w hf hs with ⟨hw,hh⟩|⟨hw,rfl⟩
 ·rw [if_pos hw]
  refine jw hh (fun a' w' ⟨ha,hs'⟩=>?_) (fun _ _ _ hF=>hF.elim)
  subst ha
  rw [ho]
  exact k _ _ (hf.put hd' v) (hs.same hs')
 ·rw [if_neg (by simp [hw]),ho]
  exact k _ _ (hf.put hd' _) hs
/-- the operations in the text's order, each with what it yields -/
def DJ (E:dW) (ops:Array Oper) (D:eU) (C:List au) (F:cG→Prop):List Oper→cG→Prop
 |[],L=>F L
 |o::rest,L=> ∃ d v,o.dst=some d∧d<E.n∧SD E ops o D L C v∧DJ E ops D C F rest ((d,v)::L)
theorem Fx {E:dW} {ops:Array Oper} {F:cG→Prop} {o:Oper} {rest:List Oper} {D:eU} {L:cG} {C:List au} {v:Value} {d:Nat}
 (h:SD E ops o D L C v) (ho:o.dst=some d) (hd:Nat.blt d E.n=true) (k:DJ E ops D C F rest ((d,v)::L)):DJ E ops D C F (o::rest) L:=
 ⟨d,v,ho,by rw [← Nat.blt_eq]; exact hd,h,k⟩
/-- a set of numbers that is closed downwards -/
def oF (ops:Array Oper) (S:Nat→Prop) (j:Nat):Prop:= ∀ o e,ops[j]? =some o→e∈o.after→Region.binds .any e=true→S e.on
/-- who stands before an operation, by the edges: a set of numbers as the bits of one -/
def Hq (o:Oper) (acc:Array Nat):Nat:=o.after.toList.foldl (fun s e=>if Region.binds .any e then s ||| (2^e.on ||| acc.getD e.on 0) else s) 0
def E4:List Oper→Array Nat→Array Nat
 |[],acc=>acc
 |o::os,acc=>E4 os (acc.push (Hq o acc))
def mw (ops:Array Oper):Array Nat:=E4 ops.toList #[]
def fu (m:Array Nat) (j i:Nat):Bool:=(m.getD i 0).testBit j
theorem Ab (acc:Array Nat) (j:Nat): ∀ (es:List Edge) (s:Nat),(es.foldl (fun s e=>if Region.binds .any e then s ||| (2^e.on ||| acc.getD e.on 0) else s) s).testBit j=true→
 s.testBit j=true∨ ∃ e∈es,Region.binds .any e=true∧(e.on=j∨(acc.getD e.on 0).testBit j=true):=by
 intro es
 induction es with
 |nil=>intro s h; exact .inl h
 |cons e es ih=>
  intro s h
  simp only [List.foldl_cons] at h
  rcases ih _ h with A|⟨e',he',hb,hc⟩
  ·by_cases hb:Region.binds .any e=true
   ·rw [if_pos hb] at A
    simp only [Nat.testBit_or,Bool.or_eq_true] at A
    rcases A with A|A|A
    ·exact .inl A
    ·refine .inr ⟨e,sm,hb,.inl ?_⟩
     rw [Nat.testBit_two_pow] at A
     exact of_decide_eq_true A
    ·exact .inr ⟨e,sm,hb,.inr A⟩
   ·rw [if_neg hb] at A; exact .inl A
  ·exact .inr ⟨e',by simp [he'],hb,hc⟩
theorem tM {ops:Array Oper} {S:Nat→Prop} (hS: ∀ j,S j→oF ops S j): ∀ (os:List Oper) (acc:Array Nat),(∀ k,os[k]? =ops[acc.size+k]?)→
 (∀ i j,(acc.getD i 0).testBit j=true→oF ops S i→S j)→ ∀ i j,((E4 os acc).getD i 0).testBit j=true→oF ops S i→S j:=by
 intro os
 induction os with
 |nil=>intro acc _ h; exact h
 |cons o os ih=>
  intro acc hk h
  refine ih _ (fun k=>by have:=hk (k+1); simp only [Array.size_push]; rw [show acc.size+1+k=acc.size+(k+1) from by omega]; simpa using this) ?_
  intro i j hb hd
  have D:ops[acc.size]? =some o:=by simpa using (hk 0).symm
  simp only [Array.getD_eq_getD_getElem?,Array.getElem?_push] at hb
  by_cases e:i=acc.size
  ·subst e
   simp only [if_true,Option.getD_some] at hb
   rcases Ab acc j _ _ hb with A|⟨e,he,B,A⟩
   ·simp at A
   ·have C:S e.on:=hd o e D (by simpa using he) B
    rcases A with A|A
    ·exact A▸C
    ·exact h _ _ A (hS _ C)
  ·rw [if_neg e] at hb
   exact h i j (by rw [Array.getD_eq_getD_getElem?]; exact hb) hd
theorem fI {ops:Array Oper} {S:Nat→Prop} (hS: ∀ j,S j→oF ops S j) {i j:Nat} (h:fu (mw ops) j i=true) (hd:oF ops S i):S j:=
 tM hS ops.toList #[] sm (fun i j hb=>by simp at hb) i j h hd
/-- what is asked of a region's first n operations: each writes a slot of its own; whoever writes a slot that another looks at stands before it or behind it by the edges; the rest waits for all that stands before it -/
def HI (m:Array Nat) (ops:Array Oper) (n:Nat):Bool:=
 Nat.ble n ops.size&&
 ((List.range ops.size).all fun i=>match ops[i]? with
  |none=>false
  |some o=>o.after.toList.all fun e=> !Region.binds .any e||Nat.blt e.on i)&&
 ((List.range n).all fun i=>match ops[i]? with
  |none=>false
  |some o=>o.dst.isSome&& !(match o.op with | .select .. =>true| .defer _=>true|_=>false)&&
   (List.range n).all fun j=>j==i||match ops[j]? with
    |none=>false
    |some p=>match p.dst with
     |none=>false
     |some d=>o.dst != some d&&(!(o.looksAt ops).contains d||(if j<i then fu m j i else fu m i j)))&&
 ((List.range' n (ops.size-n)).all fun i=>(List.range i).all fun j=>fu m j i)
def Ip (ops:Array Oper) (n:Nat):Bool:=HI (mw ops) ops n
structure HR (ops:Array Oper) (n:Nat):Prop where
 le:n≤ops.size
 tP: ∀ i o e,ops[i]? =some o→e∈o.after→Region.binds .any e=true→e.on<i
 plain: ∀ i o,i<n→ops[i]? =some o→(∀ cs b,o.op≠ .select cs b)∧(∀ c,o.op≠ .defer c)
 apart: ∀ i j o p d,i<n→j<n→j≠i→ops[i]? =some o→ops[j]? =some p→p.dst=some d→o.dst≠some d∧(d∈o.looksAt ops→(j<i∧fu (mw ops) j i=true)∨(i<j∧fu (mw ops) i j=true))
 tail: ∀ i j,n≤i→i<ops.size→j<i→fu (mw ops) j i=true
theorem HR.of {ops:Array Oper} {n:Nat} (h:Ip ops n=true):HR ops n:=by
 simp only [Ip,HI,cZ] at h
 obtain ⟨⟨⟨AA,F⟩,C⟩,G⟩:=h
 have D:n≤ops.size:=Nat.le_of_ble_eq_true AA
 rw [cT] at F C G
 refine ⟨D,?_,?_,?_,?_⟩
 ·intro i o e ho he hb
  have hi:i<ops.size:=(Array.getElem?_eq_some_iff.1 ho).1
  have:=F i (by simpa using hi)
  simp only [ho] at this
  rw [cT] at this
  have:=this e (by simpa using he)
  rw [hb] at this
  simpa using this
 ·intro i o hi ho
  have:=C i (by simpa using hi)
  simp only [ho,cZ] at this
  refine ⟨fun cs b hh=>?_,fun c hh=>?_⟩<;>simp [hh] at this
 ·intro i j o p d hi hj E ho hp hd
  have:=C i (by simpa using hi)
  simp only [ho,cZ] at this
  have:=this.2
  rw [cT] at this
  have:=this j (by simpa using hj)
  simp only [hp,hd,Bool.or_eq_true,cZ,beq_iff_eq,bne_iff_ne,ne_eq] at this
  rcases this with h|⟨H,A⟩
  ·exact absurd h E
  ·refine ⟨H,fun hm=>?_⟩
   rcases A with A|A
   ·simp [hm] at A
   ·by_cases B:j<i
    ·rw [if_pos B] at A; exact .inl ⟨B,A⟩
    ·rw [if_neg B] at A; exact .inr ⟨om,A⟩
 ·intro i j H A J
  have:=G i (by rw [List.mem_range'_1]; omega)
  rw [cT] at this
  exact this j (by simpa using J)
/-- the frame, the activation behind the first i operations -/
def sW:List Oper→List Value→Nat→cG→cG
 |o::os,v::vs,i+1,L=>sW os vs i (match o.dst with |some d=>(d,v)::L|none=>L)
 |_,_,_,L=>L
def iI:List Oper→List Value→Nat→Act→Act
 |o::os,v::vs,i+1,a=>iI os vs i (a.put o.dst v)
 |_,_,_,a=>a
theorem DJ.out {E:dW} {ops:Array Oper} {D:eU} {C:List au} {F:cG→Prop}: ∀ (os:List Oper) (L:cG),DJ E ops D C F os L→
 ∃ vs:List Value,vs.length=os.length∧F (sW os vs os.length L)∧ ∀ i o,os[i]? =some o→ ∃ d v,o.dst=some d∧d<E.n∧vs[i]? =some v∧SD E ops o D (sW os vs i L) C v:=by
 intro os
 induction os with
 |nil=>intro L h; exact ⟨[],rfl,h,fun i o ho=>by simp at ho⟩
 |cons o os ih=>
  intro L h
  obtain ⟨d,v,ho,hd,B,hk⟩:=h
  obtain ⟨vs,hl,hF,A⟩:=ih _ hk
  refine ⟨v::vs,by simp [hl],by simpa [sW,ho] using hF,fun i o' ho'=>?_⟩
  cases i with
  |zero=>simp at ho'; subst ho'; exact ⟨d,v,ho,hd,sm,by simpa [sW] using B⟩
  |succ i=>
   obtain ⟨d',v',G,H,AA,J⟩:=A i o' (by simpa using ho')
   exact ⟨d',v',G,H,by simpa using AA,by simpa [sW,ho] using J⟩
theorem iu {n:Nat} {D:eU}: ∀ (os:List Oper) (vs:List Value) (i:Nat) (L:cG) (a:Act),(∀ (j:Nat) (o:Oper) (d:Nat),os[j]? =some o→o.dst=some d→d<n)→Fr n D L a→Fr n D (sW os vs i L) (iI os vs i a):=by
 intro os
 induction os with
 |nil=>intro vs i L a _ h; simpa [sW,iI] using h
 |cons o os ih=>
  intro vs i L a hd h
  cases vs with
  |nil=>simpa [sW,iI] using h
  |cons v vs=>
   cases i with
   |zero=>simpa [sW,iI] using h
   |succ i=>
    simp only [sW,iI]
    refine ih vs i _ _ (fun j o' d ho' hd'=>hd (j+1) o' d (by simpa using ho') hd') ?_
    cases ho:o.dst with
    |none=>exact h
    |some d=>exact h.put (hd 0 o d sm ho) v
theorem dV: ∀ (os:List Oper) (vs:List Value) (i:Nat) (a:Act) (t:Nat),(∀ (j:Nat) (o:Oper),j<i→os[j]? =some o→o.dst≠some t)→(iI os vs i a).tmps[t]? =a.tmps[t]? :=by
 intro os
 induction os with
 |nil=>intro vs i a t _; simp [iI]
 |cons o os ih=>
  intro vs i a t h
  cases vs with
  |nil=>simp [iI]
  |cons v vs=>
   cases i with
   |zero=>simp [iI]
   |succ i=>
    simp only [iI]
    rw [ih vs i _ t (fun j o' hj ho'=>h (j+1) o' om (by simpa using ho'))]
    have A:=h 0 o om sm
    cases ho:o.dst with
    |none=>rfl
    |some d=>simp only [Act.put]; rw [Array.getElem?_setIfInBounds_ne (fun e=>A (by rw [ho,e]))]
theorem iE: ∀ (os:List Oper) (vs:List Value) (i:Nat) (a:Act) (k:Nat) (p:Oper) (d:Nat) (v:Value),k<i→os[k]? =some p→p.dst=some d→d<a.tmps.size→vs[k]? =some v→
 (∀ (j:Nat) (o:Oper),j<i→j≠k→os[j]? =some o→o.dst≠some d)→(iI os vs i a).tmps[d]? =some v:=by
 intro os
 induction os with
 |nil=>intro vs i a k p d v _ hp; simp at hp
 |cons o os ih=>
  intro vs i a k p d v hk hp A hd hv h
  cases vs with
  |nil=>simp at hv
  |cons u vs=>
   cases i with
   |zero=>omega
   |succ i=>
    simp only [iI]
    cases k with
    |zero=>
     simp at hp hv
     subst hp hv
     rw [dV os vs i _ d (fun j o' hj ho'=>h (j+1) o' om om (by simpa using ho')),A]
     simp only [Act.put]
     rw [Array.getElem?_setIfInBounds_self_of_lt hd]
    |succ k=>
     refine ih vs i _ k p d v om (by simpa using hp) A ?_ (by simpa using hv) (fun j o' hj B ho'=>h (j+1) o' om om (by simpa using ho'))
     cases o.dst<;>simp [Act.put,hd]
theorem sI {a a':Act} {t:Nat} (h:a.tmps[t]? =a'.tmps[t]?):a.eval (.tmp t)=a'.eval (.tmp t):=by simp [Act.eval,h]
theorem qM {ops:Array Oper} {o:Oper} {a a':Act} (h: ∀ t∈o.looksAt ops,a.tmps[t]? =a'.tmps[t]?): ∀ x∈o.op.operands,a.eval x=a'.eval x:=by
 intro x hx
 cases x with
 |tmp t=>exact sI (h t (List.mem_append_left _ (List.mem_filterMap.2 ⟨.tmp t,by simpa using hx,rfl⟩)))
 |_=>rfl
theorem nT {ops:Array Oper} {o:Oper} {a a':Act} (h: ∀ t∈o.looksAt ops,a.tmps[t]? =a'.tmps[t]?):Region.wanted o (yielded ops a.tmps)=Region.wanted o (yielded ops a'.tmps):=by
 unfold Region.wanted
 cases hg:o.guard with
 |none=>rfl
 |some gw=>
  obtain ⟨g,want⟩:=gw
  have hy:yielded ops a.tmps g=yielded ops a'.tmps g:=by
   unfold yielded
   cases ht:(ops[g]?).bind (·.dst) with
   |none=>rfl
   |some t=>simp only [Option.bind_some]; rw [h t (List.mem_append_right _ (by simp [hg,ht]))]
  simp only [hy]
/-- what an operation does hangs on the slots that it looks at alone -/
theorem nO {E:dW} {ops:Array Oper} {o:Oper} {D:eU} {L:cG} {C:List au} {v:Value} {d:Nat} (h:SD E ops o D L C v) (ho:o.dst=some d) (hd:d<E.n)
 (hsel: ∀ cs b,o.op≠ .select cs b) (hdef: ∀ c,o.op≠ .defer c) {a a':Act} (hf:Fr E.n D L a') (hl: ∀ t∈o.looksAt ops,a.tmps[t]? =a'.tmps[t]?) {w:World} (hs:St E.S E.w0 C w)
 {N:Act→World→Prop} {Q:cq} (hn: ∀ w',cQ no w w'→N (a.put (some d) v) w'):
 if Region.wanted o (yielded ops a.tmps) then o.wpIn (Fw E.r) 0 E.P a w N Q else (∀ f,o.about E.P w a.eval=some f→(Fw E.r).fn f)∧N (a.put o.dst undef) w:=by
 rw [nT hl]
 rcases h a' w hf hs with ⟨hw,hh⟩|⟨hw,rfl⟩
 ·rw [if_pos hw]
  refine ⟨fun _ _=>trivial,?_⟩
  have A:=hh.2
  rw [Oper.semAt_eq _ _ _ hdef] at A ⊢
  rw [execOp_congr (ρ:=a.eval) (ρ':=a'.eval) o hsel (qM hl)]
  have F: ∀ u,a'.put o.dst u=a'.put o.dst v→u=v:=by
   intro u hu
   rw [ho] at hu
   have:=congrArg (fun b:Act=>b.tmps[d]?) hu
   simp only [Act.put] at this
   rw [Array.getElem?_setIfInBounds_self_of_lt (by rw [hf.size]; exact hd),Array.getElem?_setIfInBounds_self_of_lt (by rw [hf.size]; exact hd)] at this
   injection this
  have B: ∀ u w',(a'.put o.dst u=a'.put o.dst v∧cQ no w w')→N (a.put o.dst u) w':=by
   rintro u w' ⟨hu,hs'⟩
   rw [F u hu,ho]
   exact hn w' hs'
  generalize (execOp a'.eval o).run E.P w=res at A
  cases res with
  |halt x w'=>cases x<;>simp [Oper.uponIn] at A
  |ok x w'=>
   cases x with
   |value u=>exact B u w' A
   |skip=>exact B _ w' A
   |defer dd=>
    have G:({a' with defers:=dd::a'.defers}:Act).put o.dst undef=a'.put o.dst v:=A.1
    rw [ho] at G
    have:=congrArg (fun b:Act=>b.defers.length) G
    simp [Act.put] at this
   |enter f args=>
    refine ⟨A.1,A.2.mono fun e w'' he=>?_⟩
    cases e with
    |returned u=>exact B u w'' he
    |panicked ch=>exact he.elim
    |outgrown=>obtain ⟨_,_,hF⟩:=he; exact hF.elim
   |row x args=>exact ⟨A.1,A.2.mono fun u w'' he=>B u w'' he⟩
   |round l f tmps asl bd=>
    refine ⟨A.1,A.2.mono fun e w'' he=>?_⟩
    cases e with
    |returned u=>exact B u w'' he
    |panicked ch=>exact he.elim
    |outgrown=>obtain ⟨_,_,hF⟩:=he; exact hF.elim
   |_=>simp [Oper.uponIn] at A
 ·rw [if_neg (by simp [hw])]
  refine ⟨fun _ _=>trivial,?_⟩
  rw [ho]
  exact hn w (cQ.refl _ _)
theorem BW {E:dW} {ops:Array Oper} {o:Oper} {D:eU} {L:cG} {C:List au} {v:Value} {d:Nat} (h:SD E ops o D L C v) (ho:o.dst=some d) (hd:d<E.n)
 (hsel: ∀ cs b,o.op≠ .select cs b) (hdef: ∀ c,o.op≠ .defer c) {a a':Act} (hf:Fr E.n D L a') (hl: ∀ t∈o.looksAt ops,a.tmps[t]? =a'.tmps[t]?) {w:World} (hs:St E.S E.w0 C w)
 {N:Act→World→Prop} {Q:cq} (hn: ∀ w',St E.S E.w0 C w'→N (a.put (some d) v) w'):
 if Region.wanted o (yielded ops a.tmps) then o.wpIn (Fw E.r) 0 E.P a w N Q else (∀ f,o.about E.P w a.eval=some f→(Fw E.r).fn f)∧N (a.put o.dst undef) w:=
 nO h ho hd hsel hdef hf hl hs (fun w' hk=>hn w' (hs.same hk))
def uE (n:Nat) (listed:Array Bool):List Nat:=(List.range n).filter fun i=> !listed.getD i false
theorem jY {n:Nat} {listed:Array Bool} {i:Nat}:i∈uE n listed↔i<n∧listed.getD i false=false:=by simp [uE]
theorem lN {listed:Array Bool} {i j:Nat} (hi:i<listed.size) (d:Bool):(listed.setIfInBounds i true).getD j d=if j=i then true else listed.getD j d:=by
 simp only [Array.getD_eq_getD_getElem?]
 by_cases e:j=i
 ·subst e; rw [Array.getElem?_setIfInBounds_self_of_lt hi]; simp
 ·rw [Array.getElem?_setIfInBounds_ne (fun h=>e h.symm)]; simp [e]
theorem Br {n:Nat} {listed:Array Bool} {i:Nat} (hi:i<listed.size):uE n (listed.setIfInBounds i true)=(uE n listed).filter (fun j=>j != i):=by
 unfold uE
 rw [List.filter_filter]
 refine List.filter_congr fun j _=>?_
 rw [lN hi]
 by_cases e:j=i<;>simp [e]
theorem sP {n:Nat} {listed:Array Bool} {i:Nat} (hi:i<listed.size) (hm:i∈uE n listed):(uE n (listed.setIfInBounds i true)).length<(uE n listed).length:=by
 rw [Br hi]
 exact List.length_filter_lt_length_iff_exists.2 ⟨i,hm,sm⟩
section
variable {ops:Array Oper} {listed:Array Bool}
theorem n8 {i:Nat} (hs:listed.size=ops.size) (hi:i<ops.size) (hu:listed.getD i false=false) (hd:oF ops (fun k=>listed.getD k false=true) i):i∈Region.ready .any ops listed:=by
 rw [mem_ready]
 obtain ⟨o,ho⟩: ∃ o,ops[i]? =some o:=⟨ops[i],Array.getElem?_eq_getElem hi⟩
 refine ⟨?_,o,ho,?_⟩
 ·rw [Array.getD_eq_getD_getElem?] at hu ⊢
  rw [Array.getElem?_eq_getElem om] at hu ⊢
  exact hu
 ·intro e he hb
  exact hd o e ho he hb
theorem iX {i:Nat} (hs:listed.size=ops.size) (h:i∈Region.ready .any ops listed):i<ops.size∧listed.getD i false=false∧oF ops (fun k=>listed.getD k false=true) i:=by
 obtain ⟨hu,o,ho,A⟩:=mem_ready.1 h
 have hi:i<ops.size:=(Array.getElem?_eq_some_iff.1 ho).1
 refine ⟨hi,?_,fun o' e ho' he hb=>?_⟩
 ·rw [Array.getD_eq_getD_getElem?] at hu ⊢
  rw [Array.getElem?_eq_getElem om] at hu ⊢
  exact hu
 ·rw [ho] at ho'; cases ho'
  exact A e he hb
end
section
variable {r:Option Nat} {P:Program} {ops:Array Oper} {Q:cq} {n:Nat}
theorem uv (hc:HR ops n): ∀ (fuel:Nat) (listed:Array Bool) (a:Act) (w:World) (m:Nat),listed.size=ops.size→n≤m→(∀ i,i<ops.size→(listed.getD i false=true↔i<m))→(uE ops.size listed).length≤fuel→
 nv r P ops Q (ops.toList.drop m) a w→wpAnyIn (Fw r) 0 P .any ops Q fuel listed a w:=by
 intro fuel
 induction fuel with
 |zero=>
  intro listed a w m C AA hm hf h
  have F: ∀ i,i<ops.size→listed.getD i false=true:=fun i hi=>by
   cases hg:listed.getD i false with
   |true=>rfl
   |false=>
    have:i∈uE ops.size listed:=jY.2 ⟨hi,hg⟩
    have:=List.length_pos_of_mem this
    omega
  have T:ops.size≤m:=by
   rcases Nat.lt_or_ge m ops.size with A|H
   ·have:=(hm m A).1 (F m A); omega
   ·exact H
  refine ⟨?_,?_⟩
  ·rw [List.eq_nil_iff_forall_not_mem]
   intro i hi
   obtain ⟨L,AB,_⟩:=iX C hi
   rw [F i L] at AB; cases AB
  ·rw [List.drop_eq_nil_of_le (by simpa using T)] at h
   exact h
 |succ fuel ih=>
  intro listed a w m C AA hm hf h
  have M: ∀ j,j<ops.size→listed.getD j false=true→oF ops (fun k=>listed.getD k false=true) j:=fun j hj hl o e ho he hb=>by
   have L:=hc.tP j o e ho he hb
   have AB:=(hm j hj).1 hl
   exact (hm e.on om).2 om
  rcases Nat.lt_or_ge m ops.size with A|H
  ·obtain ⟨o,ho⟩: ∃ o,ops[m]? =some o:=⟨ops[m],Array.getElem?_eq_getElem A⟩
   have R:m∈Region.ready .any ops listed:=n8 C A (by
    cases hg:listed.getD m false with
    |false=>rfl
    |true=>have:=(hm m A).1 hg; omega) (fun o' e ho' he hb=>(hm e.on (by have:=hc.tP m o' e ho' he hb; omega)).2 (hc.tP m o' e ho' he hb))
   refine ⟨fun K=>absurd R (by rw [K]; simp),fun i hi=>?_⟩
   obtain ⟨D,B,N⟩:=iX C hi
   have O:i=m:=by
    have L:m≤i:=by
     rcases Nat.lt_or_ge i m with hlt'|hge'
     ·have:=(hm i D).2 hlt'; rw [this] at B; cases B
     ·exact hge'
    rcases Nat.lt_or_ge m i with AB|AB
    ·have J:=hc.tail i m om D AB
     have hS:listed.getD m false=true:=fI (S:=fun k=>listed.getD k false=true) (fun j hj=>by
      rcases Nat.lt_or_ge j ops.size with hj'|hj'
      ·exact M j hj' hj
      ·intro o' e ho'; rw [Array.getElem?_eq_none hj'] at ho'; cases ho') J N
     have:=(hm m A).1 hS; omega
    ·omega
   subst O
   have G:ops.toList.drop i=o::ops.toList.drop (i+1):=by
    rw [List.drop_eq_getElem_cons (by simpa using A)]
    congr 1
    have:=(Array.getElem?_eq_some_iff.1 ho).2
    simpa using this
   rw [G] at h
   simp only [nv] at h
   unfold wpOpIn
   simp only [ho]
   have E: ∀ a' w',nv r P ops Q (ops.toList.drop (i+1)) a' w'→wpAnyIn (Fw r) 0 P .any ops Q fuel (listed.setIfInBounds i true) a' w':=fun a' w' h'=>by
    refine ih _ a' w' (i+1) (by simpa using C) om (fun k hk=>?_) ?_ h'
    ·rw [lN om]
     by_cases e:k=i
     ·subst e; simp
     ·simp only [e,if_false]; rw [hm k hk]; omega
    ·have:=sP (n:=ops.size) om (jY.2 ⟨D,B⟩)
     omega
   split at h
   ·rename_i hw
    rw [if_pos hw]
    exact jw h E (fun _ _ _ h=>h)
   ·rename_i hw
    rw [if_neg hw]
    exact ⟨fun _ _=>trivial,E _ _ h⟩
  ·refine ⟨fun _=>?_,fun i hi=>?_⟩
   ·rw [List.drop_eq_nil_of_le (by simpa using H)] at h; exact h
   ·obtain ⟨D,B,_⟩:=iX C hi
    have:=(hm i D).2 om
    rw [this] at B; cases B
end
/-- A REGION WHOSE ORDER IS OPEN: its first n operations yield, each by itself, what they yield in the text's order; what stands behind waits for them. -/
theorem dF {E:dW} {id:Nat} {ops:Array Oper} {Q:cq} {D:eU} {L:cG} {C:List au} (hm:E.P.follows .mixedOrders=true) (n:Nat) (hc:Ip ops n=true)
 (h:DJ E ops D C (fun L'=>RJ E ops Q (ops.toList.drop n) D L' C) (ops.toList.take n) L):WJ E (.region id ops true) Q D L C:=by
 have hc:=HR.of hc
 intro O w0 J A5
 refine wpIn_region_any hm ?_
 have A6:St E.S E.w0 C ({w0 with drawn:=w0.drawn+1}:World):=A5.same (cQ.drew no w0)
 obtain ⟨vs,B9,hF,AB⟩:=h.out
 have Bs:(ops.toList.take n).length=n:=by rw [List.length_take]; have:=hc.le; simp; omega
 have B: ∀ i o,(ops.toList.take n)[i]? =some o↔(i<n∧ops[i]? =some o):=fun i o=>by
  rw [List.getElem?_take]
  by_cases hi:i<n<;>simp [hi]
 have Y: ∀ (j:Nat) (o:Oper) (d:Nat),(ops.toList.take n)[j]? =some o→o.dst=some d→d<E.n:=fun j o d ho hd=>by
  obtain ⟨d',v,G,h2,_⟩:=AB j o ho
  rw [G] at hd; cases hd; exact h2
 -- the state of a partial order
 have key: ∀ (fuel:Nat) (listed:Array Bool) (a:Act) (w:World),listed.size=ops.size→(uE ops.size listed).length≤fuel→(∀ j,listed.getD j false=true→oF ops (fun k=>listed.getD k false=true) j)→
  (∀ j,n≤j→listed.getD j false=false)→a.defers=D→a.tmps.size=E.n→St E.S E.w0 C w→
  (∀ t,(∀ j o,j<n→ops[j]? =some o→listed.getD j false=true→o.dst≠some t)→a.tmps[t]? =O.tmps[t]?)→
  (∀ j o d,j<n→ops[j]? =some o→listed.getD j false=true→o.dst=some d→a.tmps[d]? =vs[j]?)→
  wpAnyIn (Fw E.r) 0 E.P .any ops Q fuel listed a w:=by
  intro fuel
  induction fuel with
  |zero=>
   intro listed a w T hu R N hd hz hs AA f
   have hall': ∀ i,i<ops.size→listed.getD i false=true:=fun i hi=>by
    cases hg:listed.getD i false with
    |true=>rfl
    |false=>
     have:=List.length_pos_of_mem (jY.2 ⟨hi,hg⟩)
     omega
   have hn:n=ops.size:=by
    rcases Nat.lt_or_ge n ops.size with g|A4
    ·have G:=hall' n g; have h2:=N n (Nat.le_refl _); rw [G] at h2; cases h2
    ·exact Nat.le_antisymm hc.le A4
   have W:Fr E.n D (sW (ops.toList.take n) vs (ops.toList.take n).length L) a:=by
    have G:=iu (ops.toList.take n) vs (ops.toList.take n).length L O Y J
    refine ⟨hd,hz,fun t v hv=>?_⟩
    rw [← G.at_ t v hv]
    by_cases hw: ∃ j o,j<n∧ops[j]? =some o∧o.dst=some t
    ·obtain ⟨j,o,hj,ho,A⟩:=hw
     obtain ⟨d',v',V,m,s,_⟩:=AB j o ((B j o).2 ⟨hj,ho⟩)
     rw [A] at V; cases V
     rw [f j o t hj ho (hall' j om) A,s]
     refine (iE (ops.toList.take n) vs _ O j o t v' om ((B j o).2 ⟨hj,ho⟩) A (by rw [J.size]; exact m) s (fun k p hk c hp=>?_)).symm
     obtain ⟨hk',hp'⟩:=(B k p).1 hp
     exact (hc.apart k j p o t hk' hj (Ne.symm c) hp' ho A).1
    ·rw [AA t (fun j o hj ho _ A=>hw ⟨j,o,hj,ho,A⟩)]
     refine (dV (ops.toList.take n) vs _ O t (fun j o _ ho A=>?_)).symm
     obtain ⟨hj,ho'⟩:=(B j o).1 ho
     exact hw ⟨j,o,hj,ho',A⟩
   refine uv hc 0 listed a w n T (Nat.le_refl _) (fun i hi=>⟨fun _=>by omega,fun _=>hall' i hi⟩) hu (hF a w W hs)
  |succ fuel ih=>
   intro listed a w T hu R N hd hz hs AA f
   by_cases H: ∀ i,i<n→listed.getD i false=true
   ·have W:Fr E.n D (sW (ops.toList.take n) vs (ops.toList.take n).length L) a:=by
     have G:=iu (ops.toList.take n) vs (ops.toList.take n).length L O Y J
     refine ⟨hd,hz,fun t v hv=>?_⟩
     rw [← G.at_ t v hv]
     by_cases hw: ∃ j o,j<n∧ops[j]? =some o∧o.dst=some t
     ·obtain ⟨j,o,hj,ho,A⟩:=hw
      obtain ⟨d',v',V,m,s,_⟩:=AB j o ((B j o).2 ⟨hj,ho⟩)
      rw [A] at V; cases V
      rw [f j o t hj ho (H j hj) A,s]
      refine (iE (ops.toList.take n) vs _ O j o t v' om ((B j o).2 ⟨hj,ho⟩) A (by rw [J.size]; exact m) s (fun k p hk c hp=>?_)).symm
      obtain ⟨hk',hp'⟩:=(B k p).1 hp
      exact (hc.apart k j p o t hk' hj (Ne.symm c) hp' ho A).1
     ·rw [AA t (fun j o hj ho _ A=>hw ⟨j,o,hj,ho,A⟩)]
      refine (dV (ops.toList.take n) vs _ O t (fun j o _ ho A=>?_)).symm
      obtain ⟨hj,ho'⟩:=(B j o).1 ho
      exact hw ⟨j,o,hj,ho',A⟩
    refine uv hc (fuel+1) listed a w n T (Nat.le_refl _) (fun i hi=>⟨fun hl=>?_,fun hl=>H i hl⟩) hu (hF a w W hs)
    rcases Nat.lt_or_ge i n with G|G
    ·exact G
    ·rw [N i G] at hl; cases hl
   ·refine ⟨fun Ak=>?_,fun i hi=>?_⟩
    ·exfalso
     -- the least that is not listed is ready
     have A2: ∃ i,i<n∧listed.getD i false=false:=by
      rcases Classical.em (∃ i,i<n∧listed.getD i false=false) with G|G
      ·exact G
      ·exact absurd (fun i hi=>by
        cases hg:listed.getD i false with
        |true=>rfl
        |false=>exact absurd ⟨i,hi,hg⟩ G) H
     obtain ⟨i,hi,AO⟩:=exists_least A2
     have hr:i∈Region.ready .any ops listed:=n8 T (by have:=hc.le; omega) hi.2 (fun o e ho he hb=>by
      have G:=hc.tP i o e ho he hb
      cases hg:listed.getD e.on false with
      |true=>exact hg
      |false=>exact absurd (AO e.on ⟨om,hg⟩) om)
     rw [Ak] at hr; cases hr
    ·obtain ⟨u,Z,x⟩:=iX T hi
     have b:i<n:=by
      rcases Nat.lt_or_ge i n with G|G
      ·exact G
      ·exfalso
       refine H fun j hj=>?_
       exact fI (S:=fun k=>listed.getD k false=true) R (hc.tail i j G u om) x
     obtain ⟨o,ho⟩: ∃ o,ops[i]? =some o:=⟨ops[i],Array.getElem?_eq_getElem u⟩
     obtain ⟨d,v,l,AH,Bf,A7⟩:=AB i o ((B i o).2 ⟨b,ho⟩)
     obtain ⟨Ay,AC⟩:=hc.plain i o b ho
     have A3:=iu (ops.toList.take n) vs i L O Y J
     have z: ∀ t∈o.looksAt ops,a.tmps[t]? =(iI (ops.toList.take n) vs i O).tmps[t]? :=by
      intro t A9
      by_cases hw: ∃ j p,j<n∧j≠i∧ops[j]? =some p∧p.dst=some t
      ·obtain ⟨j,p,hj,c,hp,F⟩:=hw
       obtain ⟨d',v',V,m,s,_⟩:=AB j p ((B j p).2 ⟨hj,hp⟩)
       rw [F] at V; cases V
       have A1:=hc.apart i j o p t b hj c ho hp F
       rcases A1.2 A9 with ⟨g,X⟩|⟨g,X⟩
       ·have hS:listed.getD j false=true:=fI (S:=fun k=>listed.getD k false=true) R X x
        rw [f j p t hj hp hS F,s]
        refine (iE (ops.toList.take n) vs i O j p t v' g ((B j p).2 ⟨hj,hp⟩) F (by rw [J.size]; exact m) s (fun k q hk hne' hq=>?_)).symm
        obtain ⟨hk',hq'⟩:=(B k q).1 hq
        exact (hc.apart k j q p t hk' hj (Ne.symm hne') hq' hp F).1
       ·have AR:listed.getD j false=false:=by
         cases hg:listed.getD j false with
         |false=>rfl
         |true=>
          have:=fI (S:=fun k=>listed.getD k false=true) R X (R j hg)
          rw [this] at Z; cases Z
        refine (AA t (fun k q hk hq y M=>?_)).trans (dV (ops.toList.take n) vs i O t (fun k q hk hq M=>?_)).symm
        ·by_cases e:k=j
         ·subst e; rw [y] at AR; cases AR
         ·exact (hc.apart k j q p t hk hj (Ne.symm e) hq hp F).1 M
        ·obtain ⟨hk',hq'⟩:=(B k q).1 hq
         exact (hc.apart k j q p t hk' hj om hq' hp F).1 M
      ·refine (AA t (fun k q hk hq y M=>?_)).trans (dV (ops.toList.take n) vs i O t (fun k q hk hq M=>?_)).symm
       ·by_cases e:k=i
        ·subst e; rw [y] at Z; cases Z
        ·exact hw ⟨k,q,hk,e,hq,M⟩
       ·obtain ⟨hk',hq'⟩:=(B k q).1 hq
        exact hw ⟨k,q,hk',om,hq',M⟩
     unfold wpOpIn
     simp only [ho]
     refine BW A7 l AH Ay AC A3 z hs (fun w' hs'=>?_)
     have K: ∀ j,(listed.setIfInBounds i true).getD j false=if j=i then true else listed.getD j false:=fun j=>lN om false
     refine ih _ _ w' (by simpa using T) (by have:=sP (n:=ops.size) (i:=i) (listed:=listed) om (jY.2 ⟨u,Z⟩); omega) ?_ ?_ hd (by simp [Act.put,hz]) hs' ?_ ?_
     ·intro j hj o' e ho' he hb
      rw [K] at hj ⊢
      by_cases V:e.on=i
      ·simp [V]
      ·simp only [V,if_false]
       by_cases m:j=i
       ·subst m; exact x o' e ho' he hb
       ·simp only [m,if_false] at hj; exact R j hj o' e ho' he hb
     ·intro j hj
      rw [K,if_neg om]
      exact N j hj
     ·intro t ht
      have A8:d≠t:=fun e=>by subst e; exact ht i o b ho (by rw [K]; simp) l
      simp only [Act.put]
      rw [Array.getElem?_setIfInBounds_ne A8]
      refine AA t (fun j p hj hp hl=>ht j p hj hp (by rw [K]; split<;>simp [hl]))
     ·intro j p d' hj hp hl F
      rw [K] at hl
      simp only [Act.put]
      by_cases e:j=i
      ·subst e
       rw [ho] at hp; cases hp
       rw [l] at F; cases F
       rw [Array.getElem?_setIfInBounds_self_of_lt (by rw [hz]; exact AH),Bf]
      ·simp only [e,if_false] at hl
       have:=(hc.apart i j o p d' b hj e ho hp F).1
       rw [Array.getElem?_setIfInBounds_ne (fun h=>this (by rw [l,h]))]
       exact f j p d' hj hp hl F
 refine key ops.size (Array.replicate ops.size false) O _ sm ?_ ?_ ?_ J.defers J.size A6 (fun _ _=>rfl) ?_
 ·unfold uE; exact Nat.le_trans (List.length_filter_le _ _) sm
 ·intro j hj
  simp only [Array.getD_eq_getD_getElem?,Array.getElem?_replicate] at hj
  split at hj<;>simp at hj
 ·intro j _
  simp only [Array.getD_eq_getD_getElem?,Array.getElem?_replicate]
  split<;>rfl
 ·intro j o d _ _ hl
  simp only [Array.getD_eq_getD_getElem?,Array.getElem?_replicate] at hl
  split at hl<;>simp at hl
theorem cj {E:dW} {ops:Array Oper} {Q:cq} {rest:List Oper} {D:eU} {L:cG} {C:List au} (h:RJ E ops Q rest D L C):DJ E ops D C (fun L'=>RJ E ops Q rest D L' C) [] L:=h
theorem SD.sub {E:dW} {ops:Array Oper} {o:Oper} {D:eU} {L L':cG} {C:List au} {v:Value} (hs:cL L L') (h:SD E ops o D L' C v):SD E ops o D L C v:=fun a w hf A=>h a w (hf.sub hs) A
theorem cL.head {L L':cG} (hs:cL L L') (d:Nat) (v:Value):cL ((d,v)::L) ((d,v)::L'):=fun t u hu=>by
 by_cases e:t=d
 ·subst e; simpa [List.lookup] using hu
 ·have he:(t==d)=false:=by simpa using e
  simp only [List.lookup,he] at hu ⊢; exact hs t u hu
theorem DJ.sub {E:dW} {ops:Array Oper} {Q:cq} {rest:List Oper} {D:eU} {C:List au}: ∀ {os:List Oper} {L L':cG},cL L L'→DJ E ops D C (fun L'=>RJ E ops Q rest D L' C) os L'→DJ E ops D C (fun L'=>RJ E ops Q rest D L' C) os L:=by
 intro os
 induction os with
 |nil=>intro L L' hs h a w hf B; exact h a w (hf.sub hs) B
 |cons o os ih=>
  intro L L' hs h
  obtain ⟨d,v,ho,hd,A,hk⟩:=h
  exact ⟨d,v,ho,hd,A.sub hs,ih (hs.head d v) hk⟩
theorem dY {E:dW} {ops:Array Oper} {Q:cq} {rest:List Oper} {D:eU} {C:List au} {os:List Oper} {L:cG} {t:Nat} {b:Bool} (h:L.lookup t=some (.bool b))
 (h1:b=true→DJ E ops D C (fun L'=>RJ E ops Q rest D L' C) os ((t,.bool true)::L)) (h2:b=false→DJ E ops D C (fun L'=>RJ E ops Q rest D L' C) os ((t,.bool false)::L)):DJ E ops D C (fun L'=>RJ E ops Q rest D L' C) os L:=by
 have A: ∀ v:Bool,b=v→cL L ((t,.bool v)::L):=fun v hv=>cL.cons (hv▸h) (fun _ _ h=>h)
 cases b
 ·exact DJ.sub (A _ U) (h2 U)
 ·exact DJ.sub (A _ U) (h1 U)
end
section
open Go.RowKit
def gW (ops:Array Oper) (L:cG) (g:Option (Nat×Bool)):Bool:=
 match g with
 |none=>true
 |some (j,b)=>match (ops[j]?).bind (·.dst) with
  |some t=>match L.lookup t with
   |some (.bool b')=>b'==b
   |_=>false
  |none=>false
def uC (ops:Array Oper) (L:cG) (g:Option (Nat×Bool)):Bool:=
 match g with
 |none=>false
 |some (j,b)=>match (ops[j]?).bind (·.dst) with
  |some t=>match L.lookup t with
   |some (.bool b')=>b' != b
   |some (.tuple _)=>true
   |_=>false
  |none=>false
theorem dw {ops:Array Oper} {L:cG} {o:Oper} {n:Nat} {D:eU} {a:Act} (hf:Fr n D L a) (h:gW ops L o.guard=true):Region.wanted o (yielded ops a.tmps)=true:=by
 unfold Region.wanted
 cases hg:o.guard with
 |none=>rfl
 |some jb=>
  obtain ⟨j,b⟩:=jb
  rw [hg] at h
  simp only [gW] at h
  simp only [yielded]
  cases ht:(ops[j]?).bind (·.dst) with
  |none=>simp [ht] at h
  |some t=>
   simp only [ht] at h
   cases hl:L.lookup t with
   |none=>simp [hl] at h
   |some v=>
    simp only [hl] at h
    cases v<;>simp at h
    subst h
    simp [hf.at_ t _ hl]
theorem uf {ops:Array Oper} {L:cG} {o:Oper} {n:Nat} {D:eU} {a:Act} (hf:Fr n D L a) (h:uC ops L o.guard=true):Region.wanted o (yielded ops a.tmps)=false:=by
 unfold Region.wanted
 cases hg:o.guard with
 |none=>simp [hg,uC] at h
 |some jb=>
  obtain ⟨j,b⟩:=jb
  rw [hg] at h
  simp only [uC] at h
  simp only [yielded]
  cases ht:(ops[j]?).bind (·.dst) with
  |none=>simp [ht] at h
  |some t=>
   simp only [ht] at h
   cases hl:L.lookup t with
   |none=>simp [hl] at h
   |some v=>
    simp only [hl] at h
    cases v<;>simp at h
    ·rename_i b'
     simp [hf.at_ t _ hl]
     cases b<;>cases b'<;>simp_all
    ·simp [hf.at_ t _ hl]
section
variable {E:dW} {ops:Array Oper} {D:List Deferred} {L:List (Nat×Value)} {C:List au}
/-- passed over -/
theorem za {o:Oper} (hg:uC ops L o.guard=true):SD E ops o D L C undef:=fun a w hf hs=> .inr ⟨uf hf hg,rfl⟩
theorem fp {r:Option Nat} {P:Program} {o:Oper} {a:Act} {w w':World} {N:Act→World→Prop} {Q:cq} {v:Value} (hd: ∀ c,o.op≠ .defer c) (h:(execOp a.eval o).run P w= .ok (.value v) w') (hn:N (a.put o.dst v) w'):o.wpIn (Fw r) 0 P a w N Q:=
 ⟨fun _ _=>trivial,by rw [Oper.semAt_eq _ _ _ hd,h]; exact hn⟩
theorem pH {r:Option Nat} {P:Program} {o:Oper} {a:Act} {w w':World} {N:Act→World→Prop} {Q:cq} (hd: ∀ c,o.op≠ .defer c) (h:(execOp a.eval o).run P w= .ok .skip w') (hn:N (a.put o.dst undef) w'):o.wpIn (Fw r) 0 P a w N Q:=
 ⟨fun _ _=>trivial,by rw [Oper.semAt_eq _ _ _ hd,h]; exact hn⟩
theorem dh {o:Oper} {v:Value} (hg:gW ops L o.guard=true) (hd: ∀ c,o.op≠ .defer c) (h: ∀ a w,Fr E.n D L a→St E.S E.w0 C w→(execOp a.eval o).run E.P w= .ok (.value v) w):SD E ops o D L C v:=
 fun a w hf hs=> .inl ⟨dw hf hg,fp hd (h a w hf hs) ⟨rfl,cQ.refl _ _⟩⟩
variable {dst:Option Tmp} {ty:TypeId} {ps:String} {af:Array Edge} {g:Option (Nat×Bool)}
theorem wE {x:Operand} {v:Value} (hg:gW ops L g=true) (hx:ev L x=some v):SD E ops ⟨dst,.move x,ty,ps,af,g⟩ D L C v:=
 dh hg sm fun a w hf _=>by simp [execOp,hf.ev hx]
theorem rp {x:Operand} {v:Value} (hg:gW ops L g=true) (hx:ev L x=some v):SD E ops ⟨dst,.assign x,ty,ps,af,g⟩ D L C v:=
 dh hg sm fun a w hf _=>by simp [execOp,hf.ev hx]
def ew (P:Program) (op:BinOp) (t:TypeId) (x y:Operand) (u v r:Value):Prop:= ∀ w,(do eqGuard op t x y u v; binOp op t u v:Sem Value).run P w= .ok r w
theorem bJ {op:BinOp} {xt yt:TypeId} {x y:Operand} {u v r:Value} (hg:gW ops L g=true) (hx:ev L x=some u) (hy:ev L y=some v) (h:ew E.P op xt x y u v r):SD E ops ⟨dst,.binOp op xt x y yt,ty,ps,af,g⟩ D L C r:=
 dh hg sm fun a w hf _=>by
  have:=h w
  simp only [execOp,hf.ev hx,hf.ev hy]
  simp only [Sem.run_bind,Sem.run_pure] at this ⊢
  rw [this]; rfl
theorem Ei {xt:TypeId} {x:Operand} {b:Bool} (hg:gW ops L g=true) (hx:ev L x=some (.bool b)):SD E ops ⟨dst,.unOp .not xt x,ty,ps,af,g⟩ D L C (.bool !b):=
 dh hg sm fun a w hf _=>by simp [execOp,hf.ev hx,Op.unary]
abbrev lQ (n:Int):Prop:= -9223372036854775808≤n∧n≤9223372036854775807
theorem gM {n:Int} (h:lQ n):IntKind.i64.wrap n=n:=by
 obtain ⟨A,B⟩:=h
 rw [IntKind.wrap_i64]
 omega
theorem Em {xt:TypeId} {x:Operand} {n:Int} (hg:gW ops L g=true) (hx:ev L x=some (.int .i64 n)) (hb:lQ (-n)):SD E ops ⟨dst,.unOp .neg xt x,ty,ps,af,g⟩ D L C (.int .i64 (-n)):=
 dh hg sm fun a w hf _=>by
  have:(0:Int)-n= -n:=by omega
  simp [execOp,hf.ev hx,Op.unary,Op.intArith,this,gM hb]
theorem rJ {c x y:Operand} {v:Value} (hg:gW ops L g=true) (hc:ev L c=some (.bool true)) (hx:ev L x=some v):SD E ops ⟨dst,.pick c x y,ty,ps,af,g⟩ D L C v:=
 dh hg sm fun a w hf _=>by simp [execOp,hf.ev hc,hf.ev hx,asBool]
theorem rM {c x y:Operand} {v:Value} (hg:gW ops L g=true) (hc:ev L c=some (.bool false)) (hy:ev L y=some v):SD E ops ⟨dst,.pick c x y,ty,ps,af,g⟩ D L C v:=
 dh hg sm fun a w hf _=>by simp [execOp,hf.ev hc,hf.ev hy,asBool]
theorem fP {st dt:TypeId} {x:Operand} {k k':IntKind} {n m:Int} (hg:gW ops L g=true) (hx:ev L x=some (.int k' n)) (hs:E.P.underlying st=some (.int k')) (hd:E.P.underlying dt=some (.int k)) (hw:k.wrap n=m):SD E ops ⟨dst,.convert st dt x,ty,ps,af,g⟩ D L C (.int k m):=
 dh hg sm fun a w hf _=>by
  simp [execOp,hf.ev hx,convert,run_underlying hs,run_underlying hd,Conv.intToInt,hw]
def evs (L:cG):List Operand→Option (List Value)
 |[]=>some []
 |x::xs=>match ev L x,evs L xs with
  |some v,some vs=>some (v::vs)
  |_,_=>none
theorem Fr.evs {n:Nat} {a:Act} (h:Fr n D L a): ∀ {xs:List Operand} {vs:List Value},Go.Proofs.YtkidpbhlgnalaaaGreat.evs L xs=some vs→xs.map a.eval=vs:=by
 intro xs
 induction xs with
 |nil=>intro vs hv; simpa [Go.Proofs.YtkidpbhlgnalaaaGreat.evs] using hv
 |cons x xs ih=>
  intro vs hv
  simp only [Go.Proofs.YtkidpbhlgnalaaaGreat.evs] at hv
  cases hx:Go.Proofs.YtkidpbhlgnalaaaGreat.ev L x with
  |none=>simp [hx] at hv
  |some u=>
   cases hxs:Go.Proofs.YtkidpbhlgnalaaaGreat.evs L xs with
   |none=>simp [hx,hxs] at hv
   |some us=>simp [hx,hxs] at hv; subst hv; simp [h.ev hx,ih hxs]
theorem sB {a b:Int}:(a==b)=decide (a=b):=by by_cases h:a=b<;>simp [h]
section
variable {P:Program} {t:TypeId} {x y:Operand} {a b:Int} {k:IntKind}
theorem iZ (h:lQ (a+b)):ew P .add t x y (.int .i64 a) (.int .i64 b) (.int .i64 (a+b)):=fun w=>by simp [eqGuard_add,binOp_add,Op.intArith,gM h]
theorem pK (h:lQ (a-b)):ew P .sub t x y (.int .i64 a) (.int .i64 b) (.int .i64 (a-b)):=fun w=>by simp [eqGuard_sub,binOp_sub,Op.intArith,gM h]
theorem iF (h:lQ (a*b)):ew P .mul t x y (.int .i64 a) (.int .i64 b) (.int .i64 (a*b)):=fun w=>by simp [eqGuard_mul,binOp_mul,Op.intArith,gM h]
theorem oP (h0:0≤a) (h1:0<b) (h:a≤9223372036854775807):ew P .quo t x y (.int .i64 a) (.int .i64 b) (.int .i64 (a/b)):=fun w=>by
 have hb:b≠0:=by omega
 have A:0≤a/b:=Int.ediv_nonneg h0 om
 have B:a/b≤a:=Int.ediv_le_self b h0
 simp [eqGuard_quo,binOp_quo,Op.intDiv,hb,Int.tdiv_eq_ediv_of_nonneg h0,gM (show lQ (a/b) from ⟨om,om⟩)]
theorem D4 (h1:b≠0) (h:lQ (a.tdiv b)):ew P .quo t x y (.int .i64 a) (.int .i64 b) (.int .i64 (a.tdiv b)):=fun w=>by
 simp [eqGuard_quo,binOp_quo,Op.intDiv,h1,gM h]
theorem zb (h0:0≤a) (h1:0<b):ew P .rem t x y (.int k a) (.int k b) (.int k (a % b)):=fun w=>by
 have hb:b≠0:=by omega
 simp [eqGuard_rem,binOp_rem,Op.intDiv,hb,Int.tmod_eq_emod_of_nonneg h0]
theorem ig:ew P .lss t x y (.int k a) (.int k b) (.bool (decide (a<b))):=fun w=>by simp [eqGuard_lss,binOp_lss]
theorem nU:ew P .leq t x y (.int k a) (.int k b) (.bool (decide (a≤b))):=fun w=>by simp [eqGuard_leq,binOp_leq]
theorem vQ:ew P .gtr t x y (.int k a) (.int k b) (.bool (decide (b<a))):=fun w=>by simp [eqGuard_gtr,binOp_gtr]
theorem pV:ew P .geq t x y (.int k a) (.int k b) (.bool (decide (b≤a))):=fun w=>by simp [eqGuard_geq,binOp_geq]
theorem j5:ew P .eql t x y (.int k a) (.int k b) (.bool (decide (a=b))):=fun w=>by simp [eqGuard_at_int,binOp_eql]; exact sB
theorem fW:ew P .neq t x y (.int k a) (.int k b) (.bool (!decide (a=b))):=fun w=>by simp [eqGuard_at_int,binOp_neq,bne]; exact sB
theorem EN {p q:Bool} (ht:P.underlying t=some .bool):ew P .eql t x y (.bool p) (.bool q) (.bool (p==q)):=fun w=>by
 have h: ∀ d:Nat,(Op.equalIn (d+1) t (.bool p) (.bool q)).run P w= .ok (p==q) w:=fun d=>by simp [Op.equalIn,run_underlying ht]
 simp only [eqGuard_at_bool,binOp]
 simp [Op.equal,Op.maxDepth,h 9999]
end
theorem z9 {x:Operand} {t e:TypeId} {A:OA} {n c:Nat} (hg:gW ops L g=true) (hx:ev L x=some (.slice A n c)) (ht:E.P.underlying t=some (.slice e)):
 SD E ops ⟨dst,.call {callee:= .builtin .len,args:= #[x],argTypes:= #[t]},ty,ps,af,g⟩ D L C (.int .i64 n):=
 dh hg sm fun a w hf _=>by
  simp [execOp,resolve,invoke,builtin,Builtin.len_,hf.ev hx,run_underlying ht,goInt]
theorem D1 {x y:Operand} {ts:Array TypeId} {a b:Int} {k:IntKind} (hg:gW ops L g=true) (hx:ev L x=some (.int k a)) (hy:ev L y=some (.int k b)):
 SD E ops ⟨dst,.call {callee:= .builtin .min,args:= #[x,y],argTypes:=ts},ty,ps,af,g⟩ D L C (.int k (min a b)):=
 dh hg sm fun c w hf _=>by
  have:(if b<a then b else a)=min a b:=by omega
  simp [execOp,resolve,invoke,builtin,Builtin.min_,Builtin.min2,hf.ev hx,hf.ev hy,this]
theorem Fh {x y:Operand} {ts:Array TypeId} {a b:Int} {k:IntKind} (hg:gW ops L g=true) (hx:ev L x=some (.int k a)) (hy:ev L y=some (.int k b)):
 SD E ops ⟨dst,.call {callee:= .builtin .max,args:= #[x,y],argTypes:=ts},ty,ps,af,g⟩ D L C (.int k (max a b)):=
 dh hg sm fun c w hf _=>by
  have:(if a<b then b else a)=max a b:=by omega
  simp [execOp,resolve,invoke,builtin,Builtin.max_,Builtin.max2,hf.ev hx,hf.ev hy,this]
end
end
section
open Go.RowKit
def au.ro (A:au):au:={A with wf:=fun _=>False,wr:=false,iL:=fun _ h=>h.elim,whole:=fun h=>by cases h}
theorem ee {w:World} {g:Nat} {o:Obj} (h:w.heap[g]? =some o):g<w.heap.size:=(Array.getElem?_eq_some_iff.1 h).1
/-- a block of one's own, known whole -/
def bm (g:Nat) (t:TypeId) (cs:List Value):au where
 dG b:=b=g
 wf b:=b=g
 holds w:=w.heap[g]? =some (.cells cs.toArray t (0,0))
 wr:=true
 iL _ h:=h
 whole _ _ h:=h
 lt w h b hb:=hb▸ee h
 kQ w w' hk h:=(hk g rfl).trans h
/-- an object that is no row of cells -/
def iH (g:Nat) (o:Obj):au where
 dG b:=b=g
 wf b:=b=g
 holds w:=w.heap[g]? =some o
 wr:=true
 iL _ h:=h
 whole _ _ h:=h
 lt w h b hb:=hb▸ee h
 kQ w w' hk h:=(hk g rfl).trans h
/-- what stands at a place -/
def gN (A:OA) (k:Nat):OA:=A.map (·.add k)
theorem lv (a:Addr) (i j:Nat):(a.add i).add j=a.add (i+j):=by
 unfold Addr.add
 by_cases hi:i=0<;>by_cases hj:j=0<;>simp [hi,hj,Nat.add_assoc]
theorem ox (a:Addr) (n:Nat):(a.add n).block=a.block:=by unfold Addr.add; split<;>rfl
theorem ga (g o k:Nat):(⟨g,o,none⟩:Addr).add k=⟨g,o+k,none⟩:=by unfold Addr.add; split<;>simp_all
/-- a slice that reads as a list of elements, each its cells -/
def rd (A:OA) (n sz:Nat) (es:List (List Value)):au where
 dG b:=0<n*sz∧ ∃ ad,A=some ad∧b=ad.block
 holds w:=es.length=n∧(∀ e∈es,e.length=sz)∧(0<n*sz→ ∃ ad,A=some ad∧ ∀ i e j v,es[i]? =some e→e[j]? =some v→w.cell? (ad.add (i*sz+j))=some v)
 wf _:=False
 wr:=false
 iL _ h:=h.elim
 whole h:=by cases h
 lt w h b hb:=by
  obtain ⟨h1,h2,h3⟩:=h
  obtain ⟨hn,ad,hA,rfl⟩:=hb
  obtain ⟨ad',hA',hc⟩:=h3 hn
  rw [hA] at hA'; cases hA'
  have hn0:0<n:=Nat.pos_of_mul_pos_right hn
  have hs0:0<sz:=Nat.pos_of_mul_pos_left hn
  have he:es[0]? =some (es[0]'om):=eu om
  have hl:(es[0]'om).length=sz:=h2 _ (List.getElem_mem _)
  have hv:=hc 0 _ 0 _ he (eu om)
  have:=World.block_lt_of_cell? w _ hv
  rwa [ox] at this
 kQ w w' hk h:=by
  refine ⟨h.1,h.2.1,fun hn=>?_⟩
  obtain ⟨ad,hA,hc⟩:=h.2.2 hn
  refine ⟨ad,hA,fun i e j v hi hj=>?_⟩
  rw [World.cell?_of_block (w:=w) (by rw [ox]; exact hk _ ⟨hn,ad,hA,rfl⟩)]
  exact hc i e j v hi hj
def iK (C:List au) (p:World→Prop):Prop:= ∀ w,(∀ A∈C,A.holds w)→p w
theorem ay {C:List au} {A:au} (i:Nat) (h:C[i]? =some A):iK C A.holds:=fun w hw=>hw A (aG h)
def gU (C Cp:List au):Prop:= ∀ w,(∀ A∈C,A.holds w)→ ∀ A∈Cp,A.holds w
theorem av {C:List au}:gU C []:=fun w _ A hA=>by cases hA
theorem aK {C Cp:List au} {A:au} (h:iK C A.holds) (t:gU C Cp):gU C (A::Cp):=fun w hw B hB=>by
 rcases bZ.1 hB with rfl|hB
 ·exact h w hw
 ·exact t w hw B hB
theorem eM {C Cp:List au} {A B:au} (i:Nat) (h:C[i]? =some B) (e:B.holds=A.holds) (t:gU C Cp):gU C (A::Cp):=aK (e▸ay i h) t
theorem St.has {S:BS} {w0 w:World} {C:List au} {p:World→Prop} (h:St S w0 C w) (k:iK C p):p w:=k w h.holds
/-- a block that holds the elements of a list, one behind the other, from its head on -/
theorem rT {w:World} {g:Nat} {t:TypeId} {cs:List Value} {n sz:Nat} {es:List (List Value)} (h:(bm g t cs).holds w) (h1:es.length=n) (h2: ∀ e∈es,e.length=sz) (h3:es.flatten <+: cs):(rd (some ⟨g,0,none⟩) n sz es).holds w:=by
 refine ⟨h1,h2,fun _=>⟨_,U,fun i e j v hi hj=>?_⟩⟩
 have A: ∀ (es:List (List Value)) (i:Nat),(∀ e∈es,e.length=sz)→es[i]? =some e→es.flatten[i*sz+j]? =some v:=by
  intro es
  induction es with
  |nil=>intro i _ hi; simp at hi
  |cons x xs ih=>
   intro i hl hi
   have hx:=hl x sm
   have B:j<e.length:=(aV.1 hj).1
   cases i with
   |zero=>
    simp at hi; subst hi
    simp only [List.flatten_cons,Nat.zero_mul,Nat.zero_add]
    rw [List.getElem?_append_left B]; exact hj
   |succ i=>
    simp only [List.flatten_cons]
    rw [List.getElem?_append_right (by rw [hx,Nat.succ_mul]; omega)]
    have:(i+1)*sz+j-x.length=i*sz+j:=by rw [hx,Nat.succ_mul]; omega
    rw [this]
    exact ih i (fun e he=>hl e (by simp [he])) (by simpa using hi)
 have hv:=A es i h2 hi
 obtain ⟨rest,hr⟩:=h3
 rw [ga,cell_of_row w g _ cs.toArray t (0,0) h]
 simp only [List.getElem?_toArray,Nat.zero_add]
 rw [← hr,List.getElem?_append_left (aV.1 hv).1]
 exact hv
theorem aH {C:List au} {g t:Nat} {cs:List Value} {n sz:Nat} {es:List (List Value)} (i:Nat) (hC:C[i]? =some (bm g t cs)) (h1:es.length=n) (h2: ∀ e∈es,e.length=sz) (h3:es.flatten=cs):iK C (rd (some ⟨g,0,none⟩) n sz es).holds:=fun w hw=>
 rT (ay i hC w hw) h1 h2 ⟨[],by simp [h3]⟩
theorem qk {C:List au} (A:OA) (sz:Nat):iK C (rd A 0 sz []).holds:=fun w _=>⟨rfl,sm,fun h=>by simp at h⟩
/-- the cells of a zero value; the places of the parts: where, how many cells -/
def tB (P:Program) (t:TypeId):Option (List Value×List (Nat×Nat)):=
 match P.info? t,P.underlying t with
 |some it,some (.array n e)=>
  match it.zero,P.info? e with
  |some z,some ie=>some (z.cells.toList,(List.range n).map fun i=>(i*ie.size,ie.size))
  |_,_=>none
 |some it,some (.struct fields)=>
  match it.zero,fields.toList.mapM (fun f=>(P.info? f.type).map fun i=>(f.offset,i.size)) with
  |some z,some places=>some (z.cells.toList,places)
  |_,_=>none
 |_,_=>none
def HH (z:List Value) (pl:List (Nat×Nat)):cG→Option (List Value)
 |[]=>some z
 |(i,v)::rest=>match pl[i]? with
  |none=>none
  |some (off,sz)=>if v.cells.toList.length=sz∧off+sz≤z.length then HH (z.take off++v.cells.toList++z.drop (off+sz)) pl rest else none
def o9 (P:Program) (s f:Nat):Option Nat:=
 match P.underlying s with
 |some (.struct fs)=>match fs[f]? with
  |some fl=>match P.info? fl.type with
   |some i=>if i.size=0 then none else some fl.offset
   |none=>none
  |none=>none
 |_=>none
/-- is it a struct or an array; how many cells -/
def tK (P:Program) (t:TypeId):Option (Bool×Nat):=
 match P.underlying t,P.info? t with
 |some (.struct _),some i=>some (true,i.size)
 |some (.array _ _),some i=>some (true,i.size)
 |some _,some i=>some (false,i.size)
 |_,_=>none
def tZ (P:Program) (t:TypeId):Option (List Value):=((P.info? t).bind (·.zero)).map (·.cells.toList)
def tE (P:Program) (t:TypeId):Option (TypeId×Nat):=
 match P.underlying t with
 |some (.slice e)=>match P.info? e with
  |some i=>some (e,i.size)
  |none=>none
 |_=>none
def ke (P:Program) (f:FuncId):Bool:=
 match P.funcs[f]? with
 |some fn=> !(fn.name=="runtime.NumGoroutine")&&fn.body.isSome
 |none=>false
theorem ld {P:Program} {t:TypeId} {n:Nat} (h:tK P t=some (true,n)) (w:World):(isAgg t).run P w= .ok true w∧(sizeOf t).run P w= .ok n w:=by
 unfold tK at h
 cases hu:P.underlying t with
 |none=>simp [hu] at h
 |some d=>
  cases hi:P.info? t with
  |none=>cases d<;>simp [hu,hi] at h
  |some i=>
   cases d<;>simp [hu,hi] at h<;>(subst h; constructor<;>simp [isAgg,sizeOf,typeInfo,run_underlying hu,hi])
theorem pT {P:Program} {t:TypeId} {n:Nat} (h:tK P t=some (false,n)) (w:World):(isAgg t).run P w= .ok false w∧(sizeOf t).run P w= .ok n w:=by
 unfold tK at h
 cases hu:P.underlying t with
 |none=>simp [hu] at h
 |some d=>
  cases hi:P.info? t with
  |none=>cases d<;>simp [hu,hi] at h
  |some i=>
   cases d<;>simp [hu,hi] at h<;>(subst h; constructor<;>simp [isAgg,sizeOf,typeInfo,run_underlying hu,hi])
theorem lZ {P:Program} {s f k:Nat} (h:o9 P s f=some k) (a:Addr) (w:World):(Instr.fieldAt s (.pointer (some a)) f).run P w= .ok (.pointer (some (a.add k))) w:=by
 unfold o9 at h
 cases hu:P.underlying s with
 |none=>simp [hu] at h
 |some d=>
  cases d<;>simp [hu] at h
  rename_i fs
  cases hf:fs[f]? with
  |none=>simp [hf] at h
  |some fl=>
   simp only [hf] at h
   cases hi:P.info? fl.type with
   |none=>simp [hi] at h
   |some i=>
    simp only [hi] at h
    by_cases hz:i.size=0
    ·simp [hz] at h
    ·simp only [hz,if_false,Option.some.injEq] at h
     subst h
     simp [Instr.fieldAt,run_underlying hu,hf,Instr.sureAddr,fieldPlace,sizeOf,typeInfo,hi,hz]
section
variable {E:dW} {ops:Array Oper} {D:List Deferred} {L:List (Nat×Value)} {C:List au}
variable {dst:Option Tmp} {ty:TypeId} {ps:String} {af:Array Edge} {g:Option (Nat×Bool)}
theorem DC {x:Operand} {b o o' s f k:Nat} (hg:gW ops L g=true) (hx:ev L x=some (.pointer (some ⟨b,o,none⟩))) (hf:o9 E.P s f=some k) (ho:o+k=o'):
 SD E ops ⟨dst,.fieldAddr s x f,ty,ps,af,g⟩ D L C (.pointer (some ⟨b,o',none⟩)):=
 dh hg sm fun a w A _=>by
  simp [execOp,A.ev hx,lZ hf,ga,ho]
theorem Ah {x:Operand} {A:OA} {n sz:Nat} {es:List (List Value)} {k0 s f k k':Nat} (hg:gW ops L g=true) (hx:ev L x=some (.pointer (gN A k0))) (hR:iK C (rd A n sz es).holds) (hn:0<n*sz)
 (hf:o9 E.P s f=some k) (ho:k0+k=k'):SD E ops ⟨dst,.fieldAddr s x f,ty,ps,af,g⟩ D L C (.pointer (gN A k')):=
 dh hg sm fun a w B hs=>by
  obtain ⟨ad,hA,_⟩:=(hs.has hR).2.2 hn
  subst hA
  simp [execOp,B.ev hx,gN,lZ hf,lv,ho]
theorem lT {P:Program} {t e sz:Nat} (h:tE P t=some (e,sz)) {a:Addr} {n c:Nat} {k:Nat} (hk:k<n) (w:World):
 (Instr.indexAt t (.slice (some a) n c) (.int .i64 (k:Int))).run P w= .ok (.pointer (some (a.add (k*sz)))) w:=by
 unfold tE at h
 cases hu:P.underlying t with
 |none=>simp [hu] at h
 |some d=>
  cases d<;>simp [hu] at h
  rename_i e'
  cases hi:P.info? e' with
  |none=>simp [hi] at h
  |some i=>
   simp only [hi,Option.some.injEq,Prod.mk.injEq] at h
   obtain ⟨rfl,rfl⟩:=h
   have A:(0:Int)≤(k:Int)∧(k:Int)<(n:Int):=by omega
   simp [Instr.indexAt,asIntOf,run_underlying hu,A,sizeOf,typeInfo,hi,hk]
theorem Ht {x ix:Operand} {A:OA} {n c sz e t k:Nat} {es:List (List Value)} {j:Int} (hg:gW ops L g=true) (hx:ev L x=some (.slice A n c)) (hi:ev L ix=some (.int .i64 j)) (hR:iK C (rd A n sz es).holds)
 (ht:tE E.P t=some (e,sz)) (hz:0<sz) (hj:j=(k:Int)) (hk:k<n):SD E ops ⟨dst,.indexAddr t x ix,ty,ps,af,g⟩ D L C (.pointer (gN A (k*sz))):=
 dh hg sm fun a w B hs=>by
  obtain ⟨ad,hA,_⟩:=(hs.has hR).2.2 (Nat.mul_pos om hz)
  subst hA hj
  simp [execOp,B.ev hx,B.ev hi,gN,lT ht hk]
theorem By {x ix:Operand} {b o n c sz e t k o':Nat} {j:Int} (hg:gW ops L g=true) (hx:ev L x=some (.slice (some ⟨b,o,none⟩) n c)) (hi:ev L ix=some (.int .i64 j))
 (ht:tE E.P t=some (e,sz)) (hj:j=(k:Int)) (hk:k<n) (ho:o+k*sz=o'):SD E ops ⟨dst,.indexAddr t x ix,ty,ps,af,g⟩ D L C (.pointer (some ⟨b,o',none⟩)):=
 dh hg sm fun a w A hs=>by
  subst hj
  simp [execOp,A.ev hx,A.ev hi,lT ht hk,ga,ho]
/-- what stands in memory from an address on -/
def At (C:List au) (A:OA) (vs:List Value):Prop:=iK C fun w=> ∃ ad,A=some ad∧ ∀ j v,vs[j]? =some v→w.cell? (ad.add j)=some v
theorem mg {b o t:Nat} {cs vs:List Value} (i:Nat) (hC:C[i]? =some (bm b t cs)) (hv:(cs.drop o).take vs.length=vs):At C (some ⟨b,o,none⟩) vs:=fun w hw=>by
 have h:=ay i hC w hw
 refine ⟨_,U,fun j v hj=>?_⟩
 rw [ga,cell_of_row w b _ cs.toArray t (0,0) h]
 rw [← hv,List.getElem?_take] at hj
 split at hj
 ·rw [List.getElem?_drop] at hj; simpa using hj
 ·cases hj
theorem n_ {b o t:Nat} {cs vs:List Value} (i:Nat) (hC:C[i]? =some (bm b t cs).ro) (hv:(cs.drop o).take vs.length=vs):At C (some ⟨b,o,none⟩) vs:=fun w hw=>by
 have h:(bm b t cs).holds w:=ay i hC w hw
 refine ⟨_,U,fun j v hj=>?_⟩
 rw [ga,cell_of_row w b _ cs.toArray t (0,0) h]
 rw [← hv,List.getElem?_take] at hj
 split at hj
 ·rw [List.getElem?_drop] at hj; simpa using hj
 ·cases hj
theorem CZ {A:OA} {n sz k o m:Nat} {es:List (List Value)} {e vs:List Value} (hR:iK C (rd A n sz es).holds) (he:es[k]? =some e) (hm:m=k*sz+o) (hz:0<sz) (hv:(e.drop o).take vs.length=vs):At C (gN A m) vs:=fun w hw=>by
 obtain ⟨B,E,D⟩:=hR w hw
 have hk:k<n:=by rw [← B]; exact (aV.1 he).1
 obtain ⟨ad,hA,hc⟩:=D (Nat.mul_pos om hz)
 subst hA hm
 refine ⟨_,U,fun j v hj=>?_⟩
 rw [lv,Nat.add_assoc]
 refine hc k e (o+j) v he ?_
 rw [← hv,List.getElem?_take] at hj
 split at hj
 ·rw [List.getElem?_drop] at hj; exact hj
 ·cases hj
theorem ow {x:Operand} {A:OA} {t n:Nat} {v:Value} (hg:gW ops L g=true) (hx:ev L x=some (.pointer A)) (ht:tK E.P t=some (false,n)) (hc:At C A [v]):SD E ops ⟨dst,.load t x,ty,ps,af,g⟩ D L C v:=
 dh hg sm fun a w hf hs=>by
  obtain ⟨ad,hA,B⟩:=hs.has hc
  subst hA
  have F:w.cell? ad=some v:=by simpa [Addr.add] using B 0 v rfl
  simp [execOp,hf.ev hx,Instr.loadAt,Instr.sureAddr,loadVar,(pT ht w).1,F]
theorem oL {x:Operand} {A:OA} {t n:Nat} {vs:List Value} (hg:gW ops L g=true) (hx:ev L x=some (.pointer A)) (ht:tK E.P t=some (true,n)) (hc:At C A vs) (hn:vs.length=n):SD E ops ⟨dst,.load t x,ty,ps,af,g⟩ D L C (.agg vs.toArray):=
 dh hg sm fun a w hf hs=>by
  obtain ⟨ad,hA,B⟩:=hs.has hc
  subst hA
  have hl:(loadCells ad n).run E.P w= .ok vs.toArray w:=by rw [← hn]; exact run_loadCells_list w ad vs B
  simp [execOp,hf.ev hx,Instr.loadAt,Instr.sureAddr,loadVar,(ld ht w).1,(ld ht w).2,hl]
end
def GI (C:List au):List Nat→List (Option (World→Prop))
 |[]=>[]
 |i::is=>C[i]?.map au.holds::GI C is
def HE:List au→List (Option (World→Prop))
 |[]=>[]
 |A::l=>some A.holds::HE l
theorem aX {C:List au}: ∀ (is:List Nat) {Cp:List au} (h:GI C is=HE Cp:=by rfl),gU C Cp
 |[],[],_=>av
 |[],_::_,h=>by cases h
 |i::is,[],h=>by cases h
 |i::is,A::Cp,h=>by
  obtain ⟨D,E⟩:=List.cons.inj (show C[i]?.map au.holds::GI C is=some A.holds::HE Cp from h)
  obtain ⟨B,hB,hh⟩:=Option.map_eq_some_iff.1 D
  exact eM i hB hh (aX is E)
theorem pW {C:List au}: ∀ (is:List Nat) {Cp:List au} (q:gU C (Cp.drop is.length)) (h:GI C is=HE (Cp.take is.length):=by rfl),gU C Cp
 |[],_,q,_=>q
 |i::is,[],q,h=>by cases h
 |i::is,A::Cp,q,h=>by
  obtain ⟨D,E⟩:=List.cons.inj (show C[i]?.map au.holds::GI C is=some A.holds::HE (Cp.take is.length) from h)
  obtain ⟨B,hB,hh⟩:=Option.map_eq_some_iff.1 D
  exact eM i hB hh (pW is q E)
end
section
open Go.RowKit
/-- what the call hands back is known -/
structure cz (P:Program) (f:FuncId) (args:List Value) (Cp:List au) (v:Value):Prop where
 go:ke P f=true
 run: ∀ w,(∀ A∈Cp,A.holds w)→Calls P f args.toArray w fun e w'=>e= .returned v∧cQ no w w'
/-- what the call hands back is known up to something; what is new in memory -/
structure lx (P:Program) (f:FuncId) (args:List Value) (Cp:List au) {α:Type} (V:α→Value) (p:α→Prop) (N:α→List au):Prop where
 go:ke P f=true
 run: ∀ w,(∀ A∈Cp,A.holds w)→Calls P f args.toArray w fun e w'=> ∃ x,e= .returned (V x)∧p x∧cQ no w w'∧Cj w w' (N x)
theorem lh {P:Program} {f:FuncId} (h:ke P f=true) (args:Array Value) (w:World):(callFunc f args).run P w= .ok (.enter f args) w:=by
 unfold ke at h
 cases hf:P.funcs[f]? with
 |none=>simp [hf] at h
 |some fn=>
  simp only [hf,cZ,Bool.not_eq_true',Option.isSome_iff_ne_none] at h
  have A:=h.1
  have B:fn.body.isNone=false:=by cases hb:fn.body<;>simp_all
  simp only [beq_eq_false_iff_ne,ne_eq] at A
  simp [callFunc,program,Sem.run,hf,A]
  exact fun hb=>absurd hb h.2
section
variable {E:dW} {ops:Array Oper} {Q:cq} {rest:List Oper} {D:List Deferred} {L:List (Nat×Value)} {C:List au}
variable {dst:Option Tmp} {d:Nat} {ty:TypeId} {ps:String} {af:Array Edge} {g:Option (Nat×Bool)}
theorem pU {a:Act} {fop:Operand} {xs:Array Operand} {ts:Array TypeId} {f:FuncId} {fi ca:Array Value} {vs args:List Value} {n:Nat} (hfr:Fr n D L a) (hgo:ke E.P f=true) (hf:ev L fop=some (.func (.func f) fi ca))
 (hx:evs L xs.toList=some vs) (ha:fi.toList++vs++ca.toList=args) (w:World):
 (execOp a.eval ⟨dst,.call {callee:= .value fop,args:=xs,argTypes:=ts},ty,ps,af,g⟩).run E.P w= .ok (.enter f args.toArray) w:=by
 have A:xs.map a.eval=vs.toArray:=by
  have:=hfr.evs hx
  apply Array.ext'
  simp [this]
 have B:fi++vs.toArray++ca=args.toArray:=by rw [← ha]; simp
 simp [execOp,resolve,hfr.ev hf,Deferred.ofValue,invoke,A,B,lh hgo]
theorem wh {fop:Operand} {xs:Array Operand} {ts:Array TypeId} {f:FuncId} {fi ca:Array Value} {vs args:List Value} {Cp:List au} {v:Value} (hg:gW ops L g=true) (hf:ev L fop=some (.func (.func f) fi ca))
 (hx:evs L xs.toList=some vs) (ha:fi.toList++vs++ca.toList=args) (c:cz E.P f args Cp v) (hC:gU C Cp):SD E ops ⟨dst,.call {callee:= .value fop,args:=xs,argTypes:=ts},ty,ps,af,g⟩ D L C v:=by
 intro a w A hs
 refine .inl ⟨dw A hg,fun _ _=>trivial,?_⟩
 rw [Oper.semAt_eq _ _ _ sm,pU A c.go hf hx ha]
 refine ⟨fun h=>by simp at h,(lO E.r (c.run w (hC w hs.holds))).mono fun e w' he=>?_⟩
 obtain ⟨rfl,hk⟩:=he
 exact ⟨U,hk⟩
theorem Ea {fop:Operand} {xs:Array Operand} {ts:Array TypeId} {f:FuncId} {fi ca:Array Value} {vs args:List Value} {Cp:List au} {α:Type} {V:α→Value} {p:α→Prop} {N:α→List au} (hg:gW ops L g=true) (hf:ev L fop=some (.func (.func f) fi ca))
 (hx:evs L xs.toList=some vs) (ha:fi.toList++vs++ca.toList=args) (c:lx E.P f args Cp V p N) (hC:gU C Cp) (hd:Nat.blt d E.n=true) (k: ∀ x,p x→RJ E ops Q rest D ((d,V x)::L) (N x++C)):
 RJ E ops Q (⟨some d,.call {callee:= .value fop,args:=xs,argTypes:=ts},ty,ps,af,g⟩::rest) D L C:=by
 intro a w A hs
 have hd':d<E.n:=by rw [← Nat.blt_eq]; exact hd
 unfold nv
 rw [if_pos (dw A hg)]
 refine ⟨fun _ _=>trivial,?_⟩
 rw [Oper.semAt_eq _ _ _ sm,pU A c.go hf hx ha]
 refine ⟨fun h=>by simp at h,(lO E.r (c.run w (hC w hs.holds))).mono fun e w' he=>?_⟩
 obtain ⟨x,rfl,hp,hk,hn⟩:=he
 exact k x hp _ _ (A.put hd' _) (hs.grow hk hn)
/-- a fact on the slots alone: parted -/
theorem bx {t:Nat} {b:Bool} (h:L.lookup t=some (.bool b)) (h1:b=true→RJ E ops Q rest D ((t,.bool true)::L) C) (h2:b=false→RJ E ops Q rest D ((t,.bool false)::L) C):RJ E ops Q rest D L C:=by
 have A: ∀ v:Bool,b=v→cL L ((t,.bool v)::L):=fun v hv=>cL.cons (hv▸h) (fun _ _ h=>h)
 cases b
 ·exact fun a w hf hs=>h2 U a w (hf.sub (A _ U)) hs
 ·exact fun a w hf hs=>h1 U a w (hf.sub (A _ U)) hs
theorem Dq {L':cG} {C':List au} (hL:cL L L') (hC: ∀ w,St E.S E.w0 C w→St E.S E.w0 C' w) (h:RJ E ops Q rest D L' C'):RJ E ops Q rest D L C:=fun a w hf hs=>h a w (hf.sub hL) (hC w hs)
theorem BH {w:World} {t:TypeId} {cs:List Value}:Cj w (w.alloc (.cells cs.toArray t)) [bm w.heap.size t cs]:=
 ⟨fun A hA=>by simp at hA; subst hA; exact heap_alloc_new w _,fun A hA b hb=>by simp at hA; subst hA; exact Nat.le_of_eq (Eq.symm hb),List.pairwise_singleton _ _⟩
theorem wq {o:Oper} {t:TypeId} {cs:List Value} {V:Nat→Value} (hg:gW ops L o.guard=true) (ho:o.dst=some d) (hnd: ∀ c,o.op≠ .defer c) (hd:Nat.blt d E.n=true)
 (hr: ∀ a w,Fr E.n D L a→St E.S E.w0 C w→(execOp a.eval o).run E.P w= .ok (.value (V w.heap.size)) (w.alloc (.cells cs.toArray t)))
 (k: ∀ b,RJ E ops Q rest D ((d,V b)::L) (bm b t cs::C)):RJ E ops Q (o::rest) D L C:=by
 intro a w A hs
 have hd':d<E.n:=by rw [← Nat.blt_eq]; exact hd
 unfold nv
 rw [if_pos (dw A hg)]
 refine fp hnd (hr a w A hs) ?_
 rw [ho]
 exact k _ _ _ (A.put hd' _) (hs.grow (cQ.alloc no w _) BH)
theorem wc {t:TypeId} {cs:List Value} (hg:gW ops L g=true) (hz:tZ E.P t=some cs) (hd:Nat.blt d E.n=true) (k: ∀ b,RJ E ops Q rest D ((d,.pointer (some ⟨b,0,none⟩))::L) (bm b t cs::C)):
 RJ E ops Q (⟨some d,.alloc t,ty,ps,af,g⟩::rest) D L C:=by
 refine wq (V:=fun b=> .pointer (some ⟨b,0,none⟩)) (t:=t) (cs:=cs) (by exact hg) U sm hd (fun a w A _=>?_) k
 unfold tZ at hz
 cases hi:E.P.info? t with
 |none=>simp [hi] at hz
 |some i=>
  cases hzz:i.zero with
  |none=>simp [hi,hzz] at hz
  |some z=>
   simp only [hi,hzz,Option.bind_some,Option.map_some,Option.some.injEq] at hz
   subst hz
   simp [execOp,Instr.alloc,zeroValue,typeInfo,hi,hzz,newVar,newRow]
theorem Dh {t:TypeId} {x:Operand} {v:Value} {cs:List Value} (hg:gW ops L g=true) (hx:ev L x=some v) (hv:v.cells.toList=cs) (hd:Nat.blt d E.n=true) (k: ∀ b,RJ E ops Q rest D ((d,.pointer (some ⟨b,0,none⟩))::L) (bm b t cs::C)):
 RJ E ops Q (⟨some d,.box t x,ty,ps,af,g⟩::rest) D L C:=by
 refine wq (V:=fun b=> .pointer (some ⟨b,0,none⟩)) (t:=t) (cs:=cs) (by exact hg) U sm hd (fun a w A _=>?_) k
 subst hv
 simp [execOp,Instr.box,A.ev hx,newVar,newRow]
theorem CY {t e sz:Nat} (hg:gW ops L g=true) (ht:tE E.P t=some (e,sz)) (hd:Nat.blt d E.n=true) (k: ∀ b,RJ E ops Q rest D ((d,.slice (some ⟨b,0,none⟩) 0 0)::L) (bm b e []::C)):
 RJ E ops Q (⟨some d,.buildSlice t 0 #[],ty,ps,af,g⟩::rest) D L C:=by
 refine wq (V:=fun b=> .slice (some ⟨b,0,none⟩) 0 0) (t:=e) (cs:=[]) (by exact hg) U sm hd (fun a w B _=>?_) k
 unfold tE at ht
 cases hu:E.P.underlying t with
 |none=>simp [hu] at ht
 |some dd=>
  cases dd<;>simp [hu] at ht
  rename_i e'
  cases hi:E.P.info? e' with
  |none=>simp [hi] at ht
  |some i=>
   simp only [hi,Option.some.injEq,Prod.mk.injEq] at ht
   obtain ⟨rfl,rfl⟩:=ht
   have A:Array.range 0= #[]:=rfl
   simp [execOp,Instr.buildSlice,run_underlying hu,sizeOf,typeInfo,hi,Instr.fill,newRow,A]
theorem tQ (off:Nat): ∀ (xs:List Value) (k:Nat) (cs:Array Value),off+k+xs.length≤cs.size→
 ((xs.zipIdx k).foldl (fun (cs:Array Value) (p:Value×Nat)=>cs.setIfInBounds (off+p.2) p.1) cs).toList=cs.toList.take (off+k)++xs++cs.toList.drop (off+k+xs.length):=by
 intro xs
 induction xs with
 |nil=>intro k cs h; simp
 |cons x xs ih=>
  intro k cs h
  simp only [List.length_cons] at h
  simp only [List.zipIdx_cons,List.foldl_cons]
  rw [ih (k+1) _ (by simp; omega)]
  have A:(cs.setIfInBounds (off+k) x).toList=cs.toList.set (off+k) x:=by simp
  rw [A]
  have hk:off+k<cs.toList.length:=by simp; omega
  rw [show off+(k+1)=off+k+1 from by omega,List.take_add_one,List.take_set_of_le (Nat.le_refl _),List.getElem?_set_self hk,List.drop_set_of_lt om]
  simp [Nat.add_assoc,Nat.add_comm,Nat.add_left_comm]
/-- the cells of so many elements -/
theorem Af {sz:Nat}: ∀ (vs:List Value) (k:Nat) (cs:Array Value),(∀ v∈vs,v.cells.size=sz)→cs.size=(k+vs.length)*sz→
 ∃ r,Instr.fill (fun i=>some (i*sz,sz)) cs ((vs.zipIdx k).map fun p=>(p.2,p.1))=some r∧r.toList=cs.toList.take (k*sz)++(vs.map (·.cells.toList)).flatten:=by
 intro vs
 induction vs with
 |nil=>intro k cs _ hs; exact ⟨cs,rfl,by simp at hs; rw [← hs,List.take_of_length_le sm]; simp⟩
 |cons v vs ih=>
  intro k cs hv hs
  have A:=hv v sm
  have C:k*sz+sz≤cs.size:=by
   rw [hs,← Nat.succ_mul]
   exact Nat.mul_le_mul_right _ sm
  have hf:=tQ (k*sz) v.cells.toList 0 cs (by simp [A]; exact C)
  obtain ⟨r,D,E⟩:=ih (k+1) (v.cells.toList.zipIdx.foldl (fun (cs:Array Value) (p:Value×Nat)=>cs.setIfInBounds (k*sz+p.2) p.1) cs) (fun u hu=>hv u (by simp [hu])) (by
   have hl:=congrArg List.length hf
   simp only [Array.length_toList] at hl
   rw [hl]
   simp [A] at hs ⊢
   rw [show k+1+vs.length=k+(vs.length+1) from by omega,← hs]
   omega)
  refine ⟨r,?_,?_⟩
  ·simp only [List.zipIdx_cons,List.map_cons,Instr.fill]
   rw [if_neg (by simp [A]; omega)]
   rw [← D]
   congr 1
   rw [← Array.foldl_toList]
   simp [Array.toList_zipIdx]
  ·rw [E,hf]
   simp only [Nat.add_zero,List.map_cons,List.flatten_cons]
   rw [show (k+1)*sz=k*sz+sz from Nat.succ_mul k sz]
   have B:(cs.toList.take (k*sz)++v.cells.toList).length=k*sz+sz:=by simp [A]; omega
   rw [List.take_append_of_le_length (by rw [B]; omega),List.take_of_length_le (by rw [B]; omega)]
   simp
theorem bX {t e sz n:Nat} {xs:List Operand} {vs:List Value} {cs zs:List Value} (hg:gW ops L g=true) (ht:tE E.P t=some (e,sz)) (hz:tZ E.P e=some zs) (hx:evs L xs=some vs) (hn:xs.length=n) (hp:Nat.blt 0 (n*sz)=true) (hb:Nat.ble (n*sz) 16777216=true) (hv: ∀ v∈vs,v.cells.size=sz)
 (hc:(vs.map (·.cells.toList)).flatten=cs) (hd:Nat.blt d E.n=true) (k: ∀ b,RJ E ops Q rest D ((d,.slice (some ⟨b,0,none⟩) n n)::L) (bm b e cs::C)):
 RJ E ops Q (⟨some d,.buildSlice t n ((xs.zipIdx.map fun p=>(p.2,p.1)).toArray),ty,ps,af,g⟩::rest) D L C:=by
 refine wq (V:=fun b=> .slice (some ⟨b,0,none⟩) n n) (t:=e) (cs:=cs) (by exact hg) U sm hd (fun a w B _=>?_) k
 have F:vs.length=n:=by
  have:=B.evs hx
  rw [← this,List.length_map,hn]
 unfold tE at ht
 cases hu:E.P.underlying t with
 |none=>simp [hu] at ht
 |some dd=>
  cases dd<;>simp [hu] at ht
  rename_i e'
  cases hi:E.P.info? e' with
  |none=>simp [hi] at ht
  |some i=>
   simp only [hi,Option.some.injEq,Prod.mk.injEq] at ht
   obtain ⟨rfl,rfl⟩:=ht
   cases hzz:i.zero with
   |none=>simp [tZ,hi,hzz] at hz
   |some z=>
    have hA:((xs.zipIdx.map fun p=>(p.2,p.1)).toArray.map fun ((i,x):Nat×Operand)=>(i,a.eval x))=((vs.zipIdx 0).map fun p=>(p.2,p.1)).toArray:=by
     rw [← B.evs hx]
     apply Array.ext'
     simp [List.zipIdx_map]
    obtain ⟨r,G,H⟩:=Af (sz:=i.size) vs 0 ((Array.range (n*i.size)).map fun j=>(if n*i.size=0 then #[] else z.cells)[j % (if n*i.size=0 then (#[]:Array Value) else z.cells).size]!) hv (by simp [F])
    simp only [Nat.zero_mul,List.take_zero,List.nil_append,hc] at H
    have AA:r=cs.toArray:=by rw [← H]
    subst AA
    have hb': ¬ (n*i.size>2^24):=by have:=Nat.le_of_ble_eq_true hb; omega
    have A: ¬ n*i.size=0:=by rw [Nat.blt_eq] at hp; omega
    simp only [A,if_false] at G
    simp only [execOp,hA,Instr.buildSlice,Sem.run_bind,run_underlying hu,Result.andThen_ok,sizeOf,typeInfo,run_program,hi,Sem.run_pure,A,if_false,hb',zeroValue,hzz,G]
    simp [newRow]
theorem uq {place:Nat→Option (Nat×Nat)} {pl:List (Nat×Nat)} (hp: ∀ i x,pl[i]? =some x→place i=some x): ∀ (parts:cG) (z:Array Value) (cs:List Value),HH z.toList pl parts=some cs→ ∃ r,Instr.fill place z parts=some r∧r.toList=cs:=by
 intro parts
 induction parts with
 |nil=>intro z cs h; exact ⟨z,rfl,by simpa [HH] using h⟩
 |cons p rest ih=>
  obtain ⟨i,v⟩:=p
  intro z cs h
  simp only [HH] at h
  cases hi:pl[i]? with
  |none=>simp [hi] at h
  |some x=>
   obtain ⟨off,sz⟩:=x
   simp only [hi] at h
   split at h
   ·rename_i hc
    have hs:v.cells.size=sz:=by simpa using hc.1
    have hz:off+sz≤z.size:=by simpa using hc.2
    have hf:=tQ off v.cells.toList 0 z (by simp [hs]; exact hz)
    simp only [Nat.add_zero,Array.length_toList,hs] at hf
    rw [← hf] at h
    obtain ⟨r,A,B⟩:=ih _ cs h
    refine ⟨r,?_,B⟩
    simp only [Instr.fill,hp i _ hi]
    rw [if_neg (by simp [hs]; omega),← A]
    congr 1
    rw [← Array.foldl_toList]
    simp [Array.toList_zipIdx]
   ·cases h
theorem aT {P:Program} {t:TypeId} {z:List Value} {pl:List (Nat×Nat)} {parts:cG} {cs:List Value} (h:tB P t=some (z,pl)) (hb:HH z pl parts=some cs):(P.built t parts).map (·.toList)=some cs:=by
 unfold tB at h
 unfold Program.built
 cases hit:P.info? t with
 |none=>simp [hit] at h
 |some it=>
  cases hu:P.underlying t with
  |none=>simp [hit,hu] at h
  |some d=>
   cases hz:it.zero with
   |none=>cases d<;>simp [hit,hu,hz] at h
   |some zv=>
    cases d<;>try (simp [hit,hu] at h; done)
    case array n e=>
     cases hie:P.info? e with
     |none=>simp [hit,hu,hz,hie] at h
     |some ie=>
      simp only [hit,hu,hz,hie,Option.some.injEq,Prod.mk.injEq] at h
      obtain ⟨C,D⟩:=h
      subst C D
      obtain ⟨r,A,B⟩:=uq (place:=fun i=>some (i*ie.size,ie.size)) (fun i x hi=>by
       rw [gD] at hi
       cases hg:(List.range n)[i]? with
       |none=>simp [hg] at hi
       |some j=>
        have hj:j=i:=by
         have:=(aV.1 hg).2
         simpa using this.symm
        subst hj
        simpa [hg] using hi) parts zv.cells cs hb
      simp only [hz,hie,A,Option.map_some,B]
    case struct fields=>
     cases hp:fields.toList.mapM (fun f=>(P.info? f.type).map fun i=>(f.offset,i.size)) with
     |none=>simp [hit,hu,hz,hp] at h
     |some places=>
      simp only [hit,hu,hz,hp,Option.some.injEq,Prod.mk.injEq] at h
      obtain ⟨C,D⟩:=h
      subst C D
      obtain ⟨r,A,B⟩:=uq (place:=(places.toArray[·]?)) (fun i x hi=>by simpa using hi) parts zv.cells cs hb
      simp only [hz,hp,A,Option.map_some,B]
theorem aS {t:TypeId} {xs:List (Nat×Operand)} {vs:List Value} {cs:List Value} (hg:gW ops L g=true) (hx:evs L (xs.map (·.2))=some vs) (hb:(E.P.built t ((xs.map (·.1)).zip vs)).map (·.toList)=some cs):
 SD E ops ⟨dst,.build t xs.toArray,ty,ps,af,g⟩ D L C (.agg cs.toArray):=
 dh hg sm fun a w hf _=>by
  have hA:(xs.toArray.map fun ((i,x):Nat×Operand)=>(i,a.eval x))=((xs.map (·.1)).zip vs).toArray:=by
   rw [← hf.evs hx]
   apply Array.ext'
   simp [List.zip_map',List.map_map]
  obtain ⟨cells,hc,A⟩:=Option.map_eq_some_iff.1 hb
  have hcells:cells=cs.toArray:=by rw [← A]
  subst hcells
  have B:=run_build (P:=E.P) w t (((xs.map (·.1)).zip vs).toArray) cs.toArray (by simpa using hc)
  simp only [execOp,hA,Sem.run_bind,B,Result.andThen_ok,Sem.run_pure]
theorem qy {x:Operand} {vs:List Value} {i:Nat} {v:Value} (hg:gW ops L g=true) (hx:ev L x=some (.tuple vs.toArray)) (hv:vs[i]? =some v):SD E ops ⟨dst,.extract x i,ty,ps,af,g⟩ D L C v:=
 dh hg sm fun a w hf _=>by simp [execOp,hf.ev hx,Instr.extract,hv]
theorem Cy {fn:Fn} {xs ys:Array Operand} {us vs:List Value} (hg:gW ops L g=true) (hx:evs L xs.toList=some us) (hy:evs L ys.toList=some vs):SD E ops ⟨dst,.makeFunc fn xs ys,ty,ps,af,g⟩ D L C (.func fn us.toArray vs.toArray):=
 dh hg sm fun a w hf _=>by
  have A:xs.map a.eval=us.toArray:=Array.ext' (by simp [hf.evs hx])
  have B:ys.map a.eval=vs.toArray:=Array.ext' (by simp [hf.evs hy])
  simp [execOp,Instr.makeFunc,A,B]
theorem lR {P:Program} {b t:Nat}: ∀ (vs:List Value) (cs:List Value) (o i:Nat) (w:World),(∀ v∈vs,v.oneCell'=true)→o+i+vs.length≤cs.length→w.heap[b]? =some (.cells cs.toArray t (0,0))→
 ∃ w',(storeCells ⟨b,o,none⟩ vs i).run P w= .ok () w'∧w'.heap[b]? =some (.cells (cs.take (o+i)++vs++cs.drop (o+i+vs.length)).toArray t (0,0))∧cQ (only b) w w':=by
 intro vs
 induction vs with
 |nil=>intro cs o i w _ _ h; exact ⟨w,by simp [storeCells],by simpa using h,cQ.refl _ _⟩
 |cons v vs ih=>
  intro cs o i w hv hl h
  simp only [List.length_cons] at hl
  have J:=ee h
  have A:w.cell? ((⟨b,o,none⟩:Addr).add i)=some (cs[o+i]'om):=by
   rw [ga,cell_of_row w b _ cs.toArray t (0,0) h]
   simp
  have D:w.frozen? ((⟨b,o,none⟩:Addr).add i)=false:=by rw [ga]; simp [World.frozen?,h]
  have C:(w.setCell ((⟨b,o,none⟩:Addr).add i) v).heap[b]? =some (.cells (cs.set (o+i) v).toArray t (0,0)):=by
   rw [ga]
   simp [World.setCell,Array.getElem?_modify,h]
  have B:cQ (only b) w (w.setCell ((⟨b,o,none⟩:Addr).add i) v):=⟨rfl,rfl,rfl,by simp [World.setCell],fun k hk hn=>Below.heap_setCell _ _ _ _ (by rw [ox]; exact hn)⟩
  obtain ⟨w',G,H,AA⟩:=ih (cs.set (o+i) v) o (i+1) _ (fun u hu=>hv u (by simp [hu])) (by simp; omega) C
  refine ⟨w',?_,?_,B.trans AA⟩
  ·have F:=hv v sm
   have E:(store ((⟨b,o,none⟩:Addr).add i) v).run P w= .ok () (w.setCell ((⟨b,o,none⟩:Addr).add i) v):=by
    rw [run_store P w _ v _ (by simpa [Value.oneCell'] using F)]
    simp [A,D]
   simp only [storeCells,Sem.run_bind,E,Result.andThen_ok,G]
  ·rw [H]
   congr 3
   rw [show o+(i+1)=o+i+1 from by omega,List.take_add_one,List.take_set_of_le (Nat.le_refl _),List.getElem?_set_self om,List.drop_set_of_lt om]
   simp [Nat.add_assoc,Nat.add_comm,Nat.add_left_comm]
theorem St.vb {S:BS} {w0 w w':World} {b:Nat} {A A':au} (i:Nat) (h:St S w0 C w) (hC:C[i]? =some A) (hA:A.dG b) (hw:A.wr=true) (hk:cQ (only b) w w') (hA': ∀ x,A'.dG x→x=b) (hb:A'.holds w'):St S w0 (C.set i A') w':=by
 have hi:i<C.length:=(aV.1 hC).1
 have G:C[i]=A:=(aV.1 hC).2
 have AA:=A.whole hw b hA
 have H:=h.own A (aG hC) b AA
 have K:=h.seen A (aG hC) b hA
 have F: ∀ j (hj:j<C.length),j≠i→ ∀ x,(C[j]).dG x→x≠b:=by
  intro j hj E x hx he
  subst he
  rcases Nat.lt_or_gt_of_ne E with J|J
  ·have:=d_.1 h.sep j i hj hi J
   rw [G] at this
   exact (this x hx hA).2 AA
  ·have:=d_.1 h.sep i j hi hj J
   rw [G] at this
   exact (this x hA hx).1 AA
 refine ⟨?_,?_,?_,?_,?_⟩
 ·refine ⟨hk.os.trans h.keeps.os,hk.tape.trans h.keeps.tape,hk.output.trans h.keeps.output,Nat.le_trans h.keeps.size hk.size,fun k L hn=>?_⟩
  have E: ¬ only b k:=by
   rintro rfl
   rcases H with O|O
   ·omega
   ·exact hn O
  exact (hk.block k (Nat.lt_of_lt_of_le L h.keeps.size) E).trans (h.keeps.block k L hn)
 ·intro B hB
  obtain ⟨j,hj,D⟩:=List.mem_iff_getElem.1 hB
  rw [List.getElem_set] at D
  split at D
  ·subst D; exact hb
  ·rename_i E
   subst D
   have hj':j<C.length:=by simpa using hj
   have hm:C[j]∈C:=List.getElem_mem hj'
   refine (C[j]).kQ w w' (fun x hx=>hk.block x ((C[j]).lt w (h.holds _ hm) x hx) ?_) (h.holds _ hm)
   exact F j hj' (Ne.symm E) x hx
 ·rw [d_]
  intro p q hp hq N
  have hp':p<C.length:=by simpa using hp
  have hq':q<C.length:=by simpa using hq
  have hs:=d_.1 h.sep p q hp' hq' N
  rw [List.getElem_set,List.getElem_set]
  split
  ·rename_i M; subst M
   rw [if_neg om]
   intro x hx hx'
   exact absurd (hA' x hx) (F q hq' om x hx')
  ·split
   ·rename_i M; subst M
    intro x hx hx'
    exact absurd (hA' x hx') (F p hp' om x hx)
   ·exact hs
 ·intro B hB x hx
  obtain ⟨j,hj,D⟩:=List.mem_iff_getElem.1 hB
  rw [List.getElem_set] at D
  split at D
  ·subst D
   have:=hA' x (A'.iL x hx)
   subst this; exact H
  ·subst D
   exact h.own _ (List.getElem_mem _) x hx
 ·intro B hB x hx
  obtain ⟨j,hj,D⟩:=List.mem_iff_getElem.1 hB
  rw [List.getElem_set] at D
  split at D
  ·subst D
   have:=hA' x hx
   subst this; exact K
  ·subst D
   exact h.seen _ (List.getElem_mem _) x hx
theorem St.store {S:BS} {w0 w w':World} {b t:Nat} {cs cs':List Value} (i:Nat) (h:St S w0 C w) (hC:C[i]? =some (bm b t cs)) (hk:cQ (only b) w w') (hb:w'.heap[b]? =some (.cells cs'.toArray t (0,0))):St S w0 (C.set i (bm b t cs')) w':=
 h.vb i hC rfl rfl hk (fun _ h=>h) hb
theorem sj {t n b o tt:Nat} {x y:Operand} {v:Value} {vs cs cs':List Value} {C':List au} (i:Nat) (hg:gW ops L g=true) (hx:ev L x=some (.pointer (some ⟨b,o,none⟩))) (hy:ev L y=some v) (ht:(tK E.P t).map (·.2)=some n) (hv:v.cells.toList=vs) (hn:vs.length=n)
 (h1:vs.all Value.oneCell'=true) (hC:C[i]? =some (bm b tt cs)) (hl:Nat.ble (o+n) cs.length=true) (hcs:cs.take o++vs++cs.drop (o+n)=cs') (hC':C.set i (bm b tt cs')=C') (k:RJ E ops Q rest D L C'):
 RJ E ops Q (⟨none,.store t x y,ty,ps,af,g⟩::rest) D L C:=by
 intro a w A hs
 unfold nv
 rw [if_pos (dw A hg)]
 have hl':=Nat.le_of_ble_eq_true hl
 obtain ⟨w',hr,hb',hk⟩:=lR (P:=E.P) vs cs o 0 w (fun v hv=>cT.1 h1 v hv) (by rw [hn]; exact hl') (hs.holds _ (aG hC))
 have B:(sizeOf t).run E.P w= .ok n w:=by
  obtain ⟨bn,F,rfl⟩:=Option.map_eq_some_iff.1 ht
  obtain ⟨bb,nn⟩:=bn
  cases bb
  ·exact (pT F w).2
  ·exact (ld F w).2
 have G:v.cells.size=n:=by rw [← hn,← hv]; simp
 refine pH sm (w':=w') ?_ ?_
 ·simp [execOp,A.ev hx,A.ev hy,Instr.storeAt,Instr.sureAddr,storeVar,B,G,hv,hr]
 ·refine k _ _ ⟨A.defers,A.size,A.at_⟩ ?_
  rw [← hC']
  refine hs.store i hC hk ?_
  rw [hb']
  simp only [Nat.add_zero,hn,hcs]
end
end
section
open Go.RowKit
def mM (C:List au) (is:List Nat):List au:=is.filterMap (C[·]?)
theorem BA {C:List au} {is:List Nat} {A:au} (h:A∈mM C is):A∈C:=by
 obtain ⟨i,_,hi⟩:=List.mem_filterMap.1 h
 exact aG hi
theorem CK {C:List au} (hC:C.Pairwise wW): ∀ {is:List Nat},is.Nodup→(mM C is).Pairwise wW:=by
 intro is
 induction is with
 |nil=>intro _; exact List.Pairwise.nil
 |cons i is ih=>
  intro hn
  rw [List.nodup_cons] at hn
  unfold mM
  cases hi:C[i]? with
  |none=>simp only [List.filterMap_cons,hi]; exact ih hn.2
  |some A=>
   simp only [List.filterMap_cons,hi]
   refine List.Pairwise.cons (fun B hB=>?_) (ih hn.2)
   obtain ⟨j,hj,H⟩:=List.mem_filterMap.1 hB
   have AA:i≠j:=fun e=>hn.1 (e▸hj)
   obtain ⟨D,E⟩:=aV.1 hi
   obtain ⟨F,G⟩:=aV.1 H
   rcases Nat.lt_or_gt_of_ne AA with h|h
   ·have:=d_.1 hC i j D F h
    rwa [E,G] at this
   ·have:=d_.1 hC j i F D h
    rw [E,G] at this
    exact wW.symm this
theorem zQ {is:List Nat} (h:decide is.Nodup=true):is.Nodup:=of_decide_eq_true h
theorem St.mM {S:BS} {w0 w:World} {C C':List au} (is:List Nat) (hn:decide is.Nodup=true) (hC:Go.Proofs.YtkidpbhlgnalaaaGreat.mM C is=C') (h:St S w0 C w):St S w0 C' w:=by
 subst hC
 exact h.sub (CK h.sep (zQ hn)) (fun A hA=>BA hA)
def gV (r:Nat):Deferred:={target:= .collected r,args:= #[]}
/-- what is asked where a function is left -/
def LJ (E:dW) (fn:Func) (R:Ending→World→Prop) (D:eU) (L:cG) (C:List au):Prop:=
 ∀ a w,Fr E.n D L a→St E.S E.w0 C w→LeavesInM (Fw none) 0 E.P fn a.tmps R D .returning w
def ya (P:Program) (L:cG) (C:List au):List ResultVar→List Value→Prop
 |[],[]=>True
 | .tmp t::rs,v::vs=>L.lookup t=some v∧ya P L C rs vs
 | .cell a t::rs,v::vs=>(∃ A,L.lookup a=some (.pointer A)∧((∃ n us,tK P t=some (true,n)∧At C A us∧us.length=n∧v= .agg us.toArray)∨(∃ n,tK P t=some (false,n)∧At C A [v])))∧ya P L C rs vs
 |_,_=>False
def Fm (vs:List Value):Value:=match vs with |[v]=>v|_=> .tuple vs.toArray
theorem pS {P:Program} {t n:Nat} {A:OA} {v:Value} {w:World} (ht:tK P t=some (false,n)) (h: ∃ ad,A=some ad∧ ∀ j u,[v][j]? =some u→w.cell? (ad.add j)=some u):(do loadVar t (← asAddr (.pointer A)):Sem Value).run P w= .ok v w:=by
 obtain ⟨ad,rfl,hc⟩:=h
 have B:w.cell? ad=some v:=by simpa [Addr.add] using hc 0 v rfl
 simp [asAddr,loadVar,(pT ht w).1,B]
theorem qp {P:Program} {t n:Nat} {A:OA} {us:List Value} {w:World} (ht:tK P t=some (true,n)) (hn:us.length=n) (h: ∃ ad,A=some ad∧ ∀ j u,us[j]? =some u→w.cell? (ad.add j)=some u):(do loadVar t (← asAddr (.pointer A)):Sem Value).run P w= .ok (.agg us.toArray) w:=by
 obtain ⟨ad,rfl,hc⟩:=h
 have hl:(loadCells ad n).run P w= .ok us.toArray w:=by rw [← hn]; exact run_loadCells_list w ad us hc
 simp [asAddr,loadVar,(ld ht w).1,(ld ht w).2,hl]
theorem Bd {P:Program} {L:cG} {C:List au} {tmps:Array Value} {w:World} (hL: ∀ t v,L.lookup t=some v→tmps[t]? =some v) (hw: ∀ A∈C,A.holds w): ∀ (rs:List ResultVar) (vs:List Value),ya P L C rs vs→
 (rs.mapM (fun
  | .tmp t=>pure (tmps.getD t undef)
  | .cell a t=>do loadVar t (← asAddr (tmps.getD a undef)):ResultVar→Sem Value)).run P w= .ok vs w:=by
 intro rs
 induction rs with
 |nil=>intro vs h; cases vs with |nil=>simp |cons v vs=>exact h.elim
 |cons r rs ih=>
  intro vs h
  cases vs with
  |nil=>cases r<;>exact h.elim
  |cons v vs=>
   cases r with
   |tmp t=>
    obtain ⟨D,E⟩:=h
    have hg:tmps.getD t undef=v:=by simp [hL t v D]
    simp only [List.mapM_cons,Sem.run_bind,hg,Sem.run_pure,Result.andThen_ok,ih vs E]
   |cell a t=>
    obtain ⟨⟨A,D,F⟩,E⟩:=h
    have hg:tmps.getD a undef= .pointer A:=by simp [hL a _ D]
    have hl:(do loadVar t (← asAddr (.pointer A)):Sem Value).run P w= .ok v w:=by
     rcases F with ⟨n,us,ht,B,hn,rfl⟩|⟨n,ht,B⟩
     ·exact qp ht hn (B w hw)
     ·exact pS ht (B w hw)
    rw [← hg] at hl
    simp only [List.mapM_cons]
    rw [Sem.run_bind,hl]
    simp only [Result.andThen_ok,Sem.run_bind,ih vs E,Sem.run_pure]
theorem tS {P:Program} {fn:Func} {L:cG} {C:List au} {tmps:Array Value} {w:World} {vs:List Value} (hL: ∀ t v,L.lookup t=some v→tmps[t]? =some v) (hw: ∀ A∈C,A.holds w) (h:ya P L C fn.results.toList vs):(results fn tmps).run P w= .ok (Fm vs) w:=by
 have B:=Bd hL hw _ _ h
 unfold results
 rw [Array.mapM_eq_mapM_toList]
 generalize (fn.results.toList.mapM _:Sem (List Value))=m at B ⊢
 match vs with
 |[]=>simp [Fm,B]
 |[v]=>simp [Fm,B]
 |u::v::vs=>simp [Fm,B]
theorem fH {E:dW} {fn:Func} {R:Ending→World→Prop} {L:cG} {C:List au} {vs:List Value} (h:ya E.P L C fn.results.toList vs) (hR: ∀ w,St E.S E.w0 C w→R (.returned (Fm vs)) w):LJ E fn R [] L C:=
 fun a w hf hs=>⟨_,tS hf.at_ hs.holds h,hR w hs⟩
theorem fN {w:World} {b:Nat} (o:Obj):cQ (only b) w (w.putObj b o):=⟨rfl,rfl,rfl,by simp [World.putObj],fun k _ hn=>World.putObj_heap_other hn⟩
theorem oA {E:dW} {fn:Func} {R:Ending→World→Prop} {D:eU} {L:cG} {C C':List au} {r:Nat} (i:Nat) (hC:C[i]? =some (iH r (.deferred (some [])))) (hC':C.set i (iH r (.deferred none))=C') (h:LJ E fn R D L C'):LJ E fn R (gV r::D) L C:=by
 intro a w hf hs
 have hb:w.heap[r]? =some (.deferred (some [])):=hs.holds _ (aG hC)
 refine ⟨sm,.inl ⟨r,_,U,run_takeDeferred hb,?_⟩⟩
 refine h {a with defers:=D} _ ⟨rfl,hf.size,hf.at_⟩ ?_
 rw [← hC']
 exact hs.vb i hC U U (fN _) (fun _ h=>h) (World.putObj_heap_same (ee hb))
/-- the contract's end, out of the state -/
def Am (w0:World) {α:Type} (V:α→Value) (p:α→Prop) (N:α→List au) (e:Ending) (w':World):Prop:= ∃ x,e= .returned (V x)∧p x∧cQ no w0 w'∧Cj w0 w' (N x)
theorem BO {w0 w:World} {C:List au} {α:Type} {V:α→Value} {p:α→Prop} {N:α→List au} {v:Value} (x:α) (is:List Nat) (hV:v=V x) (hp:p x) (hn:decide is.Nodup=true) (hN:mM C is=N x) (hw:(N x).all (·.wr)=true) (hs:St nz w0 C w):Am w0 V p N (.returned v) w:=by
 refine ⟨x,by rw [hV],hp,hs.keeps,?_⟩
 have B:=St.mM is hn hN hs
 refine ⟨B.holds,fun A hA b hb=>?_,B.sep⟩
 rcases B.own A hA b (A.whole (cT.1 hw A hA) b hb) with h|h
 ·exact h
 ·exact h.elim
def uy (w0:World) (v:Value) (e:Ending) (w':World):Prop:=e= .returned v∧cQ no w0 w'
theorem xM {w0 w:World} {C:List au} {u v:Value} (h:u=v) (hs:St nz w0 C w):uy w0 v (.returned u) w:=⟨by rw [h],hs.keeps⟩
def Fk (args:List Value):cG:=(args.zipIdx 0).map fun p=>(p.2,p.1)
theorem pZ: ∀ (args:List Value) (k t:Nat) (v:Value),((args.zipIdx k).map fun p=>(p.2,p.1)).lookup t=some v→k≤t∧args[t-k]? =some v:=by
 intro args
 induction args with
 |nil=>intro k t v h; simp at h
 |cons x xs ih=>
  intro k t v h
  simp only [List.zipIdx_cons,List.map_cons,List.lookup] at h
  by_cases e:t=k
  ·subst e; simp at h; subst h; simp
  ·have:(t==k)=false:=by simpa using e
   rw [this] at h
   obtain ⟨B,A⟩:=ih (k+1) t v h
   refine ⟨om,?_⟩
   rw [show t-k=(t-(k+1))+1 from by omega]
   simpa using A
theorem nX {Cp:List au} {w:World} (h: ∀ A∈Cp,A.holds w):St nz w (Cp.map au.ro) w:=by
 refine ⟨cQ.refl _ _,fun A hA=>?_,?_,fun A hA b hb=>?_,fun A hA b hb=> .inr trivial⟩
 ·obtain ⟨B,hB,rfl⟩:=cy.1 hA; exact h B hB
 ·refine List.pairwise_of_forall_mem_list fun A hA B hB b _ _=>?_
  obtain ⟨A',_,rfl⟩:=cy.1 hA
  obtain ⟨B',_,rfl⟩:=cy.1 hB
  exact ⟨fun h=>h,fun h=>h⟩
 ·obtain ⟨B,_,rfl⟩:=cy.1 hA; exact hb.elim
theorem Dv {P:Program} {f:FuncId} {fn:Func} {c:Code} {args:List Value} {Cp:List au} {R:World→Ending→World→Prop} (hf:P.funcs[f]? =some fn) (hb:fn.body=some c) (hn:Nat.ble args.length fn.ntmps=true)
 (h: ∀ (w0:World) (Q:cq),(∀ D L C,LJ ⟨P,none,fn.ntmps,nz,w0⟩ fn (R w0) D L C→KJ ⟨P,none,fn.ntmps,nz,w0⟩ (Q .ret) D L C)→(∀ D L C,LJ ⟨P,none,fn.ntmps,nz,w0⟩ fn (R w0) D L C→KJ ⟨P,none,fn.ntmps,nz,w0⟩ (Q .normal) D L C)→
  WJ ⟨P,none,fn.ntmps,nz,w0⟩ c Q [] (Fk args) (Cp.map au.ro)) (w:World) (hw: ∀ A∈Cp,A.holds w):Calls P f args.toArray w (R w):=by
 refine oR (callsIn_of_wp_marks hf hb trivial ?_ U)
 have E:=Nat.le_of_ble_eq_true hn
 refine h w (bodyPostM (Fw none) 0 P fn (R w)) ?_ ?_ _ w ⟨U,by simp; omega,fun t v hv=>?_⟩ (nX hw)
 ·intro D L C hl a w' hf' hs'
  have:=hl a w' hf' hs'
  show LeavesInM (Fw none) 0 P fn a.tmps (R w) a.defers .returning w'
  rw [hf'.defers]; exact this
 ·intro D L C hl a w' hf' hs'
  have:=hl a w' hf' hs'
  show LeavesInM (Fw none) 0 P fn a.tmps (R w) a.defers .returning w'
  rw [hf'.defers]; exact this
 ·obtain ⟨_,B⟩:=pZ args 0 t v hv
  have ht:t<args.length:=by
   have:=(aV.1 B).1; omega
  simp only [Nat.sub_zero] at B
  rw [Array.getElem?_append_left (by simpa using ht)]
  simpa using B
theorem bf {P:Program} {f:FuncId} {fn:Func} {c:Code} {args:List Value} {Cp:List au} {v:Value} (hgo:ke P f=true) (hf:P.funcs[f]? =some fn) (hb:fn.body=some c) (hn:Nat.ble args.length fn.ntmps=true)
 (h: ∀ (w0:World) (Q:cq),(∀ D L C,LJ ⟨P,none,fn.ntmps,nz,w0⟩ fn (uy w0 v) D L C→KJ ⟨P,none,fn.ntmps,nz,w0⟩ (Q .ret) D L C)→(∀ D L C,LJ ⟨P,none,fn.ntmps,nz,w0⟩ fn (uy w0 v) D L C→KJ ⟨P,none,fn.ntmps,nz,w0⟩ (Q .normal) D L C)→
  WJ ⟨P,none,fn.ntmps,nz,w0⟩ c Q [] (Fk args) (Cp.map au.ro)):cz P f args Cp v:=⟨hgo,fun w hw=>Dv (R:=fun w0=>uy w0 v) hf hb hn h w hw⟩
theorem dT {P:Program} {f:FuncId} {fn:Func} {c:Code} {args:List Value} {Cp:List au} {α:Type} {V:α→Value} {p:α→Prop} {N:α→List au} (hgo:ke P f=true) (hf:P.funcs[f]? =some fn) (hb:fn.body=some c) (hn:Nat.ble args.length fn.ntmps=true)
 (h: ∀ (w0:World) (Q:cq),(∀ D L C,LJ ⟨P,none,fn.ntmps,nz,w0⟩ fn (Am w0 V p N) D L C→KJ ⟨P,none,fn.ntmps,nz,w0⟩ (Q .ret) D L C)→(∀ D L C,LJ ⟨P,none,fn.ntmps,nz,w0⟩ fn (Am w0 V p N) D L C→KJ ⟨P,none,fn.ntmps,nz,w0⟩ (Q .normal) D L C)→
  WJ ⟨P,none,fn.ntmps,nz,w0⟩ c Q [] (Fk args) (Cp.map au.ro)):lx P f args Cp V p N:=⟨hgo,fun w hw=>Dv (R:=fun w0=>Am w0 V p N) hf hb hn h w hw⟩
end
section
open Go.RowKit
/-- a slice of one's own, that may be appended to -/
def own (a:OA) (c:Nat) (e sz:Nat) (es:List (List Value)):au where
 dG b:= ∃ ad,a=some ad∧b=ad.block
 wf b:= ∃ ad,a=some ad∧b=ad.block
 holds w:=(∀ x∈es,x.length=sz)∧w.ownsRow 0 e sz (.slice a es.length c) es.length es.flatten
 wr:=true
 iL _ h:=h
 whole _ _ h:=h
 lt w h b hb:=by
  obtain ⟨ad,rfl,rfl⟩:=hb
  exact (h.2.lt ad.block rfl).2
 kQ w w' hk h:=by
  refine ⟨h.1,h.2.1,?_⟩
  rcases h.2.2 with h1|⟨g,cap,cur,hv,h2,h3,h4⟩
  ·exact .inl h1
  ·refine .inr ⟨g,cap,cur,hv,h2,?_,h4⟩
   injection hv with hv
   subst hv
   rw [hk g ⟨_,rfl,rfl⟩]; exact h3
theorem sJ {w:World} {a:OA} {c e sz:Nat} {es:List (List Value)} (h:(own a c e sz es).holds w):(rd a es.length sz es).holds w:=by
 obtain ⟨hl,A,C⟩:=h
 rcases C with ⟨F,B⟩|⟨g,cap,cur,hv,_,D,G,H,AA,E⟩
 ·exact ⟨U,hl,fun hn=>by simp [B] at hn⟩
 ·injection hv with hv
  subst hv
  refine rT (cs:=cur.toList) (t:=e) ?_ U hl ⟨cur.toList.drop (es.length*sz),?_⟩
  ·show w.heap[g]? =_
   rw [D]
  ·rw [← E]; exact List.take_append_drop _ _
theorem wD {C:List au} {a:OA} {c e sz:Nat} {es:List (List Value)} (i:Nat) (hC:C[i]? =some (own a c e sz es)):iK C (rd a es.length sz es).holds:=fun w hw=>sJ (ay i hC w hw)
theorem nW (w:World) (e sz:Nat):(own none 0 e sz []).holds w:=⟨sm,sm,.inl ⟨rfl,rfl⟩⟩
theorem St.nW {S:BS} {w0 w:World} {C:List au} (h:St S w0 C w) (e sz:Nat):St S w0 (Go.Proofs.YtkidpbhlgnalaaaGreat.own none 0 e sz []::C) w:=by
 refine ⟨h.keeps,fun A hA=>?_,List.Pairwise.cons (fun B _ b hb=>?_) h.sep,fun A hA b hb=>?_,fun A hA b hb=>?_⟩
 ·rcases bZ.1 hA with rfl|hA
  ·exact Go.Proofs.YtkidpbhlgnalaaaGreat.nW w e sz
  ·exact h.holds A hA
 ·obtain ⟨ad,D,_⟩:=hb; cases D
 ·rcases bZ.1 hA with rfl|hA
  ·obtain ⟨ad,D,_⟩:=hb; cases D
  ·exact h.own A hA b hb
 ·rcases bZ.1 hA with rfl|hA
  ·obtain ⟨ad,D,_⟩:=hb; cases D
  ·exact h.seen A hA b hb
theorem mG {E:dW} {ops:Array Oper} {Q:cq} {rest:List Oper} {D:eU} {L:cG} {C:List au} (e sz:Nat) (k:RJ E ops Q rest D L (own none 0 e sz []::C)):RJ E ops Q rest D L C:=fun a w hf hs=>k a w hf (hs.nW e sz)
theorem f_ {E:dW} {c:Code} {Q:cq} {D:eU} {L:cG} {C:List au} (e sz:Nat) (k:WJ E c Q D L (own none 0 e sz []::C)):WJ E c Q D L C:=fun a w hf hs=>k a w hf (hs.nW e sz)
theorem wj {w:World} {g e:Nat} {cs:List Value} {sz:Nat} {es:List (List Value)} (h:(bm g e cs).holds w) (h2: ∀ x∈es,x.length=sz) (h3:es.flatten=cs) (hm:es.length≤maxLen):(own (some ⟨g,0,none⟩) es.length e sz es).holds w:=by
 have hl:es.flatten.length=es.length*sz:=by
  clear h3 hm
  induction es with
  |nil=>simp
  |cons x xs ih=>
   simp only [List.flatten_cons,List.length_append,List.length_cons]
   rw [ih (fun y hy=>h2 y (by simp [hy])),h2 x sm,Nat.succ_mul,Nat.add_comm]
 refine ⟨h2,hl,.inr ⟨g,es.length,cs.toArray,U,Nat.zero_le _,h,Nat.le_refl _,hm,by simp [← h3,hl],?_⟩⟩
 show List.take (es.length*sz) cs=es.flatten
 rw [← h3,← hl]
 exact List.take_length
theorem fD {E:dW} {ops:Array Oper} {Q:cq} {rest:List Oper} {D:eU} {L:cG} {C C':List au} {g e:Nat} {cs:List Value} {sz:Nat} {es:List (List Value)} (i:Nat) (hC:C[i]? =some (bm g e cs)) (h2: ∀ x∈es,x.length=sz) (h3:es.flatten=cs) (hm:es.length≤maxLen)
 (hC':C.set i (own (some ⟨g,0,none⟩) es.length e sz es)=C') (k:RJ E ops Q rest D L C'):RJ E ops Q rest D L C:=fun a w hf hs=>by
 refine k a w hf ?_
 rw [← hC']
 refine hs.vb i hC U U (cQ.refl _ _) (fun x hx=>?_) (wj (hs.holds _ (aG hC)) h2 h3 hm)
 obtain ⟨ad,A,h2⟩:=hx
 cases A; exact h2
/-- one assertion's block has turned, or has gone to a new one -/
theorem St.move {S:BS} {w0 w w':World} {C:List au} {A A':au} {row:Option Nat} (i:Nat) (h:St S w0 C w) (hC:C[i]? =some A) (hA: ∀ b,row=some b→A.dG b) (hw:A.wr=true) (hk:w.grownBy w' row) (hA': ∀ x,A'.dG x→row=some x∨w.heap.size≤x) (hb:A'.holds w'):St S w0 (C.set i A') w':=by
 have hi:i<C.length:=(aV.1 hC).1
 have H:C[i]=A:=(aV.1 hC).2
 have F:A∈C:=aG hC
 have J: ∀ j (hj:j<C.length),j≠i→ ∀ x,(C[j]).dG x→ ¬ A.dG x:=by
  intro j hj G x hx he
  rcases Nat.lt_or_gt_of_ne G with K|K
  ·have:=d_.1 h.sep j i hj hi K
   rw [H] at this
   exact (this x hx he).2 (A.whole hw x he)
  ·have:=d_.1 h.sep i j hi hj K
   rw [H] at this
   exact (this x he hx).1 (A.whole hw x he)
 have AA: ∀ j (hj:j<C.length),j≠i→ ∀ x,(C[j]).dG x→ ¬ A'.dG x:=by
  intro j hj G x hx he
  rcases hA' x he with E|E
  ·exact J j hj G x hx (hA x E)
  ·have:=(C[j]).lt w (h.holds _ (List.getElem_mem hj)) x hx
   omega
 refine ⟨?_,?_,?_,?_,?_⟩
 ·refine ⟨hk.os.trans h.keeps.os,hk.tape.trans h.keeps.tape,hk.output.trans h.keeps.output,Nat.le_trans h.keeps.size hk.size,fun k L hn=>?_⟩
  refine (hk.block k (Nat.lt_of_lt_of_le L h.keeps.size) (fun e=>?_)).trans (h.keeps.block k L hn)
  rcases h.own A F k (A.whole hw k (hA k e.symm)) with E|E
  ·omega
  ·exact hn E
 ·intro B hB
  obtain ⟨j,hj,D⟩:=List.mem_iff_getElem.1 hB
  rw [List.getElem_set] at D
  split at D
  ·subst D; exact hb
  ·rename_i G
   subst D
   have hj':j<C.length:=by simpa using hj
   have hm:C[j]∈C:=List.getElem_mem hj'
   refine (C[j]).kQ w w' (fun x hx=>hk.block x ((C[j]).lt w (h.holds _ hm) x hx) (fun e=>?_)) (h.holds _ hm)
   exact J j hj' (Ne.symm G) x hx (hA x e.symm)
 ·rw [d_]
  intro p q hp hq N
  have hp':p<C.length:=by simpa using hp
  have hq':q<C.length:=by simpa using hq
  have hs:=d_.1 h.sep p q hp' hq' N
  rw [List.getElem_set,List.getElem_set]
  split
  ·rename_i M; subst M
   rw [if_neg om]
   exact fun x hx hx'=>absurd hx (AA q hq' om x hx')
  ·split
   ·rename_i M; subst M
    exact fun x hx hx'=>absurd hx' (AA p hp' om x hx)
   ·exact hs
 ·intro B hB x hx
  obtain ⟨j,hj,D⟩:=List.mem_iff_getElem.1 hB
  rw [List.getElem_set] at D
  split at D
  ·subst D
   rcases hA' x (A'.iL x hx) with E|E
   ·exact h.own A F x (A.whole hw x (hA x E))
   ·exact .inl (Nat.le_trans h.keeps.size E)
  ·subst D
   exact h.own _ (List.getElem_mem _) x hx
 ·intro B hB x hx
  obtain ⟨j,hj,D⟩:=List.mem_iff_getElem.1 hB
  rw [List.getElem_set] at D
  split at D
  ·subst D
   rcases hA' x hx with E|E
   ·exact h.seen A F x (hA x E)
   ·exact .inl (Nat.le_trans h.keeps.size E)
  ·subst D
   exact h.seen _ (List.getElem_mem _) x hx
def tA (P:Program) (t:TypeId):Option (TypeId×Nat×Nat×Value):=
 match P.underlying t with
 |some (.slice e)=>match P.info? e with
  |some i=>match i.zero with
   |some z=>if z.cells.size=i.size then some (e,i.size,i.bytes,z) else none
   |none=>none
  |none=>none
 |_=>none
theorem sf {P:Program} {t e sz by_:Nat} {z:Value} (h:tA P t=some (e,sz,by_,z)): ∃ i,P.underlying t=some (.slice e)∧P.info? e=some i∧i.zero=some z∧i.size=sz∧i.bytes=by_∧z.cells.size=sz:=by
 unfold tA at h
 cases hu:P.underlying t with
 |none=>simp [hu] at h
 |some d=>
  cases d<;>simp [hu] at h
  rename_i e'
  cases hi:P.info? e' with
  |none=>simp [hi] at h
  |some i=>
   cases hz:i.zero with
   |none=>simp [hi,hz] at h
   |some z'=>
    simp only [hi,hz] at h
    split at h
    ·simp only [Option.some.injEq,Prod.mk.injEq] at h
     obtain ⟨rfl,rfl,rfl,rfl⟩:=h
     exact ⟨i,U,hi,hz,U,U,asm⟩
    ·cases h
theorem mi {P:Program} (w:World) (t ty e:TypeId) (i:TypeInfo) (size:Nat) (ht:P.underlying t=some (.slice e)) (hi:P.info? e=some i)
 (v:Value) (n:Nat) (xs:List Value) (hown:w.ownsRow 0 e size v n xs) (c:Nat):(Builtin.append_ #[t,t] ty #[v,.slice none 0 c]).run P w= .ok v w:=by
 rcases hown.2 with ⟨rfl,rfl⟩|⟨g,cap,cur,rfl,_,_,A,_⟩
 ·simp [Builtin.append_,run_underlying ht,sizeOf,typeInfo,hi,Builtin.lenOf,Builtin.firstCells]
 ·simp [Builtin.append_,run_underlying ht,sizeOf,typeInfo,hi,Builtin.lenOf,Builtin.firstCells,A,storeCells]
theorem sK {w:World} {ad:Addr} {sz:Nat}: ∀ (es:List (List Value)) (k:Nat),(∀ e∈es,e.length=sz)→(∀ i e j v,es[i]? =some e→e[j]? =some v→w.cell? (ad.add ((k+i)*sz+j))=some v)→ ∀ j v,es.flatten[j]? =some v→w.cell? (ad.add (k*sz+j))=some v:=by
 intro es
 induction es with
 |nil=>intro k _ _ j v hj; simp at hj
 |cons x xs ih=>
  intro k hl h j v hj
  have hx:=hl x sm
  simp only [List.flatten_cons] at hj
  rcases Nat.lt_or_ge j x.length with B|A
  ·rw [List.getElem?_append_left B] at hj
   exact h 0 x j v sm hj
  ·rw [List.getElem?_append_right A] at hj
   have:=ih (k+1) (fun e he=>hl e (by simp [he])) (fun i e j v hi hj=>by
    have:=h (i+1) e j v (by simpa using hi) hj
    rwa [show k+1+i=k+(i+1) from by omega]) (j-x.length) v hj
   rw [Nat.succ_mul] at this
   rwa [show k*sz+sz+(j-x.length)=k*sz+j from by omega] at this
section
variable {E:dW} {ops:Array Oper} {Q:cq} {rest:List Oper} {D:List Deferred} {L:List (Nat×Value)} {C:List au}
variable {d:Nat} {ty:TypeId} {ps:String} {af:Array Edge} {g:Option (Nat×Bool)}
theorem cY {sz:Nat}: ∀ {es:List (List Value)},(∀ x∈es,x.length=sz)→es.flatten.length=es.length*sz:=by
 intro es
 induction es with
 |nil=>intro _; simp
 |cons x xs ih=>
  intro h
  simp only [List.flatten_cons,List.length_append,List.length_cons]
  rw [ih (fun y hy=>h y (by simp [hy])),h x sm,Nat.succ_mul,Nat.add_comm]
theorem eN {s x:Operand} {t e sz by_ n m m' c c':Nat} {z:Value} {a A:OA} {es es' es2:List (List Value)} (i:Nat) (hg:gW ops L g=true) (hs:ev L s=some (.slice a n c)) (hx:ev L x=some (.slice A m c')) (ht:tA E.P t=some (e,sz,by_,z)) (hsz:Nat.blt 0 sz=true)
 (hC:C[i]? =some (own a c e sz es)) (hn:n=es.length) (hR:iK C (rd A m sz es').holds) (h1: ∀ v∈es'.flatten,v.oneCell'=true) (hb:(n+m)*by_≤140737488355328) (hb2:n+m≤maxLen) (hes:es++es'=es2) (hm':es2.length=m') (hd:Nat.blt d E.n=true)
 (k: ∀ (a':OA) (c2:Nat),RJ E ops Q rest D ((d,.slice a' m' c2)::L) (C.set i (own a' c2 e sz es2))):
 RJ E ops Q (⟨some d,.call {callee:= .builtin .append,args:= #[s,x],argTypes:= #[t,t]},ty,ps,af,g⟩::rest) D L C:=by
 intro act w G J
 have hd':d<E.n:=by rw [← Nat.blt_eq]; exact hd
 have hsz':0<sz:=by rw [← Nat.blt_eq]; exact hsz
 obtain ⟨inf,hu,hi,hz,V,W,X⟩:=sf ht
 unfold nv
 rw [if_pos (dw G hg)]
 subst hn hes hm'
 obtain ⟨S,B⟩:(own a c e sz es).holds w:=J.holds _ (aG hC)
 obtain ⟨F,AB,AA⟩:=J.has hR
 have T: ∀ x∈es++es',x.length=sz:=fun x hx=>by
  rcases e9.1 hx with h|h
  ·exact S x h
  ·exact AB x h
 have main: ∃ v' w',(Builtin.append_ #[t,t] ty #[.slice a es.length c,.slice A m c']).run E.P w= .ok v' w'∧w'.ownsRow 0 e sz v' (es.length+m) (es.flatten++es'.flatten)∧w.grownBy w' (vS a es.length c).ownBlock∧(v'.ownBlock=(vS a es.length c).ownBlock∨v'.ownBlock=some w.heap.size):=by
  by_cases R:m=0
  ·subst R
   have he:es'=[]:=px F
   subst he
   cases A with
   |none=>exact ⟨_,w,mi w t ty e inf sz hu hi _ _ _ B c',by simpa using B,World.grownBy.refl w _,.inl rfl⟩
   |some ad=>
    obtain ⟨v',w',M,K,N,_,O⟩:=run_append_own_at (P:=E.P) w 0 t ty e inf z sz by_ hu hi hz V W X hsz' _ _ _ B ad 0 c' [] sm sm sm hb2 hb (Nat.zero_le _)
    exact ⟨v',w',M,by simpa using K,N,O⟩
  ·obtain ⟨ad,hA,hc⟩:=AA (Nat.mul_pos om hsz')
   subst hA
   obtain ⟨v',w',M,K,N,_,O⟩:=run_append_own_at (P:=E.P) w 0 t ty e inf z sz by_ hu hi hz V W X hsz' _ _ _ B ad m c' es'.flatten (by rw [cY AB,F])
    (fun j v hj=>by have:=sK (w:=w) (ad:=ad) es' 0 AB (fun i e j v hi hj=>by simpa using hc i e j v hi hj) j v hj; simpa using this) h1 hb2 hb (Nat.zero_le _)
   exact ⟨v',w',M,K,N,O⟩
 obtain ⟨v',w',M,K,N,O⟩:=main
 have H: ∃ a' c2,v'= .slice a' (es++es').length c2:=by
  rcases K.2 with ⟨rfl,R⟩|⟨gg,cap,cur,rfl,_⟩
  ·exact ⟨none,0,by rw [List.length_append,F,R]⟩
  ·exact ⟨_,cap,by rw [List.length_append,F]⟩
 obtain ⟨a',c2,rfl⟩:=H
 refine fp sm (w':=w') (v:= .slice a' (es++es').length c2) ?_ ?_
 ·simp [execOp,resolve,invoke,builtin,G.ev hs,G.ev hx,M]
 ·refine k a' c2 _ _ (G.put hd' _) ?_
  refine J.move i hC (row:=(vS a es.length c).ownBlock) (fun b hb=>?_) U N (fun y hy=>?_) ?_
  ·cases a with
   |none=>simp [Value.ownBlock] at hb
   |some ad=>exact ⟨ad,rfl,by simpa [Value.ownBlock] using hb.symm⟩
  ·obtain ⟨ad,rfl,rfl⟩:=hy
   rcases O with h|h
   ·left; rw [← h]; rfl
   ·right; simp [Value.ownBlock] at h; omega
  ·refine ⟨T,?_⟩
   rw [List.flatten_append]
   rw [show (es++es').length=es.length+m from by rw [List.length_append,F]] at K ⊢
   exact K
end
end
section
structure aJ where
 a:OA
 n:Nat
 c:Nat
 deriving DecidableEq
def iC (x:Int):List Value:=[.int .i64 x]
@[simp] theorem bq (x:Int):(iC x).length=1:=rfl
def Er (x:Int):List Value:=[.int .u32 x]
@[simp] theorem Bg (x:Int):(Er x).length=1:=rfl
def zd (x:Int):List Value:=[.int .u8 x]
@[simp] theorem Cr (x:Int):(zd x).length=1:=rfl
theorem eo {n:Int} (h:0≤n∧n≤255):IntKind.i64.wrap n=n:=gM ⟨om,om⟩
theorem ss {n:Int} (h:0≤n∧n≤65535):IntKind.i64.wrap n=n:=gM ⟨om,om⟩
theorem jQ {a b A B:Int} (h1:0≤a) (h2:a≤A) (h3:0≤b) (h4:b≤B):0≤a*b∧a*b≤A*B:=
 ⟨Int.mul_nonneg h1 h3,Int.mul_le_mul h2 h4 h3 (Int.le_trans h1 h2)⟩
theorem Gl {a b A:Int} (h1:0≤a) (h2:a≤A) (h3:0<b):0≤a/b∧a/b≤A:=
 ⟨Int.ediv_nonneg h1 om,Int.le_trans (Int.ediv_le_self b h1) h2⟩
theorem kK {α:Type} {f:α→List Value} (h: ∀ s,(f s).all Value.oneCell'=true) (l:List α): ∀ v∈(l.map f).flatten,v.oneCell'=true:=fun v hv=>by
 obtain ⟨x,hx,A⟩:=List.mem_flatten.1 hv
 obtain ⟨s,_,rfl⟩:=cy.1 hx
 exact cT.1 (h s) v A
theorem lk (l:List Int): ∀ v∈(l.map iC).flatten,v.oneCell'=true:=kK (fun _=>rfl) l
theorem rG {P:Program} {t:TypeId} (x y:Operand) {xs ys:List Value} {b:Bool} (hm:P.eqGuardType P.depth t=false) (h: ∀ w,(Op.equalIn 10000 t (.agg xs.toArray) (.agg ys.toArray)).run P w= .ok b w):ew P .eql t x y (.agg xs.toArray) (.agg ys.toArray) (.bool b):=fun w=>by
 rw [Sem.run_bind,run_eqGuard_agg w _ _ _ _ _ _ hm]
 simp only [Result.andThen_ok]
 rw [run_eql_struct,h w]; rfl
theorem xq {P:Program} {t:TypeId} (x y:Operand) {xs ys:List Value} {b:Bool} (hm:P.eqGuardType P.depth t=false) (h: ∀ w,(Op.equalIn 10000 t (.agg xs.toArray) (.agg ys.toArray)).run P w= .ok b w):ew P .neq t x y (.agg xs.toArray) (.agg ys.toArray) (.bool (!b)):=fun w=>by
 rw [Sem.run_bind,run_eqGuard_agg w _ _ _ _ _ _ hm]
 simp only [Result.andThen_ok]
 rw [run_neq_struct,h w]; rfl
theorem pR {P:Program} {t n off:Nat} {xs vs:List Value} (ht:tK P t=some (true,n)) (hv:(xs.drop off).take n=vs) (w:World):(part t xs.toArray off).run P w= .ok (.agg vs.toArray) w:=by
 simp [part,(ld ht w).1,(ld ht w).2]
 exact hv
theorem kz {P:Program} {t n off:Nat} {xs:List Value} {v:Value} (ht:tK P t=some (false,n)) (hv:xs[off]? =some v) (w:World):(part t xs.toArray off).run P w= .ok v w:=by
 simp [part,(pT ht w).1,hv]
/-- a struct's fields: of what type, where; none is blank -/
def fL (P:Program) (t:TypeId):Option (List (Nat×Nat)):=
 match P.underlying t with
 |some (.struct fs)=>if fs.toList.all (fun f=>f.name != "_")&& !P.stoodInHeld t&& !P.eqGuardType P.depth t then some (fs.toList.map fun f=>(f.type,f.offset)) else none
 |_=>none
def Bj (d:Nat) (xs ys:Array Value):List (Nat×Nat)→Sem Bool
 |[]=>pure true
 |(t,o)::fs=>do
  let a ← part t xs o
  let b ← part t ys o
  let r ← Op.equalIn d t a b
  if (!r)=true then pure false else Bj d xs ys fs
theorem Ee {P:Program} {d:Nat} {xs ys:Array Value}: ∀ (fs:List Field) (w:World),fs.all (fun f=>f.name != "_")=true→(Op.eqFields d xs ys fs).run P w=(Bj d xs ys (fs.map fun f=>(f.type,f.offset))).run P w:=by
 intro fs
 induction fs with
 |nil=>intro w _; simp [Op.eqFields,Bj]
 |cons f fs ih=>
  intro w h
  simp only [js,cZ,bne_iff_ne,ne_eq] at h
  simp only [Op.eqFields,Bj,List.map_cons,ne_eq,h.1,not_false_eq_true,if_true,Sem.run_bind]
  generalize (part f.type xs f.offset).run P w=r1
  cases r1 with
  |halt x w1=>rfl
  |ok a w1=>
   simp only [Result.andThen_ok]
   generalize (part f.type ys f.offset).run P w1=r2
   cases r2 with
   |halt x w2=>rfl
   |ok b w2=>
    simp only [Result.andThen_ok]
    generalize (Op.equalIn d f.type a b).run P w2=r3
    cases r3 with
    |halt x w3=>rfl
    |ok r w3=>cases r<;>simp [ih _ h.2]
/-- one field more -/
theorem nF {P:Program} {d t o:Nat} {xs ys:Array Value} {fs:List (Nat×Nat)} {a b:Value} {p q:Bool} (w:World) (ha:(part t xs o).run P w= .ok a w) (hb:(part t ys o).run P w= .ok b w)
 (he:(Op.equalIn d t a b).run P w= .ok p w) (hr:(Bj d xs ys fs).run P w= .ok q w):(Bj d xs ys ((t,o)::fs)).run P w= .ok (p&&q) w:=by
 simp only [Bj,Sem.run_bind,ha,hb,he,Result.andThen_ok]
 cases p<;>simp [hr]
theorem vM {P:Program} {d:Nat} {xs ys:Array Value} (w:World):(Bj d xs ys []).run P w= .ok true w:=by simp [Bj]
theorem sk {P:Program} {t:TypeId} {k:IntKind} (d:Nat) {a b:Int} (h:P.underlying t=some (.int k)) (w:World):(Op.equalIn (d+1) t (.int k a) (.int k b)).run P w= .ok (decide (a=b)) w:=by
 rw [run_equalIn_int w d t k k a b h,sB]
theorem p8 {P:Program} {t:TypeId} {l:List (Nat×Nat)} (d:Nat) {xs ys:List Value} {b:Bool} (hl:fL P t=some l) (w:World) (h:(Bj d xs.toArray ys.toArray l).run P w= .ok b w):(Op.equalIn (d+1) t (.agg xs.toArray) (.agg ys.toArray)).run P w= .ok b w:=by
 unfold fL at hl
 cases hu:P.underlying t with
 |none=>simp [hu] at hl
 |some dd=>
  cases dd<;>simp only [hu] at hl<;>try (cases hl; done)
  rename_i fs
  split at hl
  ·rename_i hc
   simp only [cZ,Bool.not_eq_true'] at hc
   cases hl
   have hf:P.fieldsOf t=fs:=by simp [Program.fieldsOf,hu]
   rw [run_equalIn_struct w d t _ _ (by rw [hf]; exact hu) hc.1.2,hf,Ee _ _ hc.1.1]
   exact h
  ·cases hl
theorem qh {P:Program} {t:TypeId} {l:List (Nat×Nat)} (hl:fL P t=some l):P.eqGuardType P.depth t=false:=by
 unfold fL at hl
 cases hu:P.underlying t with
 |none=>simp [hu] at hl
 |some dd=>
  cases dd<;>simp only [hu] at hl<;>try (cases hl; done)
  split at hl
  ·rename_i hc
   simp only [cZ,Bool.not_eq_true'] at hc
   exact hc.2
  ·cases hl
end
section
open Go.RowKit
def eB (C:List au):au where
 dG b:= ∃ A∈C,A.dG b
 wf b:= ∃ A∈C,A.wf b
 holds w:=(∀ A∈C,A.holds w)∧C.Pairwise wW
 wr:=C.all (·.wr)
 iL b:=by rintro ⟨A,hA,h⟩; exact ⟨A,hA,A.iL b h⟩
 whole h b:=by rintro ⟨A,hA,hb⟩; exact ⟨A,hA,A.whole (cT.1 h A hA) b hb⟩
 lt w h b:=by rintro ⟨A,hA,hb⟩; exact A.lt w (h.1 A hA) b hb
 kQ w w' hk h:=⟨fun A hA=>A.kQ w w' (fun b hb=>hk b ⟨A,hA,hb⟩) (h.1 A hA),h.2⟩
theorem St.xc {S:BS} {w0 w:World} {C1 C2:List au} (h:St S w0 (C1++C2) w):St S w0 (Go.Proofs.YtkidpbhlgnalaaaGreat.eB C1::C2) w:=by
 obtain ⟨D,E,C⟩:=List.pairwise_append.1 h.sep
 refine ⟨h.keeps,fun A hA=>?_,List.Pairwise.cons (fun B hB b=>?_) E,fun A hA b hb=>?_,fun A hA b hb=>?_⟩
 ·rcases bZ.1 hA with rfl|hA
  ·exact ⟨fun A hA=>h.holds A (List.mem_append_left _ hA),D⟩
  ·exact h.holds A (List.mem_append_right _ hA)
 ·rintro ⟨A,hA,hb⟩ hb'
  have hs:=C A hA B hB b hb hb'
  refine ⟨?_,hs.2⟩
  rintro ⟨A',hA',hw⟩
  exact (C A' hA' B hB b (A'.iL b hw) hb').1 hw
 ·rcases bZ.1 hA with rfl|hA
  ·obtain ⟨A',hA',hb'⟩:=hb
   exact h.own A' (List.mem_append_left _ hA') b hb'
  ·exact h.own A (List.mem_append_right _ hA) b hb
 ·rcases bZ.1 hA with rfl|hA
  ·obtain ⟨A',hA',hb'⟩:=hb
   exact h.seen A' (List.mem_append_left _ hA') b hb'
  ·exact h.seen A (List.mem_append_right _ hA) b hb
theorem St.qo {S:BS} {w0 w:World} {C1 C2:List au} (h:St S w0 (Go.Proofs.YtkidpbhlgnalaaaGreat.eB C1::C2) w):St S w0 (C1++C2) w:=by
 obtain ⟨C,D⟩:=List.pairwise_cons.1 h.sep
 have hb:=h.holds _ (gk ..)
 refine ⟨h.keeps,fun A hA=>?_,List.pairwise_append.2 ⟨hb.2,D,fun A hA B hB b ha hb'=>?_⟩,fun A hA b hb'=>?_,fun A hA b hb'=>?_⟩
 ·rcases e9.1 hA with hA|hA
  ·exact hb.1 A hA
  ·exact h.holds A (fA _ hA)
 ·have hs:=C B hB b ⟨A,hA,ha⟩ hb'
  exact ⟨fun hw=>hs.1 ⟨A,hA,hw⟩,hs.2⟩
 ·rcases e9.1 hA with hA|hA
  ·exact h.own _ (gk ..) b ⟨A,hA,hb'⟩
  ·exact h.own A (fA _ hA) b hb'
 ·rcases e9.1 hA with hA|hA
  ·exact h.seen _ (gk ..) b ⟨A,hA,hb'⟩
  ·exact h.seen A (fA _ hA) b hb'
/-- from one world to another: A's blocks may have turned, or have gone to new ones: B holds -/
structure Mv (A B:au) (w w':World):Prop where
 holds:B.holds w'
 keeps:cQ A.wf w w'
 wf: ∀ b,B.wf b→A.wf b∨w.heap.size≤b
 dG: ∀ b,B.dG b→A.dG b∨w.heap.size≤b
theorem St.mv {S:BS} {w0 w w':World} {C:List au} {A B:au} (i:Nat) (h:St S w0 C w) (hC:C[i]? =some A) (m:Mv A B w w'):St S w0 (C.set i B) w':=by
 have hi:i<C.length:=(aV.1 hC).1
 have AA:C[i]=A:=(aV.1 hC).2
 have F:A∈C:=aG hC
 have K: ∀ j (hj:j<C.length),j≠i→ ∀ x,(C[j]).dG x→A.dG x→ ¬ (C[j]).wf x∧ ¬ A.wf x:=by
  intro j hj G x hx he
  rcases Nat.lt_or_gt_of_ne G with H|H
  ·have:=d_.1 h.sep j i hj hi H
   rw [AA] at this
   exact this x hx he
  ·have:=d_.1 h.sep i j hi hj H
   rw [AA] at this
   exact (this x he hx).symm
 have J: ∀ j (hj:j<C.length),j≠i→ ∀ x,(C[j]).dG x→B.dG x→ ¬ (C[j]).wf x∧ ¬ B.wf x:=by
  intro j hj G x hx he
  have H:=(C[j]).lt w (h.holds _ (List.getElem_mem hj)) x hx
  rcases m.dG x he with E|E
  ·obtain ⟨P,Q⟩:=K j hj G x hx E
   refine ⟨P,fun hw=>?_⟩
   rcases m.wf x hw with O|O
   ·exact Q O
   ·omega
  ·omega
 refine ⟨?_,?_,?_,?_,?_⟩
 ·refine ⟨m.keeps.os.trans h.keeps.os,m.keeps.tape.trans h.keeps.tape,m.keeps.output.trans h.keeps.output,Nat.le_trans h.keeps.size m.keeps.size,fun k L hn=>?_⟩
  refine (m.keeps.block k (Nat.lt_of_lt_of_le L h.keeps.size) (fun e=>?_)).trans (h.keeps.block k L hn)
  rcases h.own A F k e with E|E
  ·omega
  ·exact hn E
 ·intro X hX
  obtain ⟨j,hj,D⟩:=List.mem_iff_getElem.1 hX
  rw [List.getElem_set] at D
  split at D
  ·subst D; exact m.holds
  ·rename_i G
   subst D
   have hj':j<C.length:=by simpa using hj
   have hm:C[j]∈C:=List.getElem_mem hj'
   refine (C[j]).kQ w w' (fun x hx=>m.keeps.block x ((C[j]).lt w (h.holds _ hm) x hx) (fun e=>?_)) (h.holds _ hm)
   exact (K j hj' (Ne.symm G) x hx (A.iL x e)).2 e
 ·rw [d_]
  intro p q hp hq N
  have hp':p<C.length:=by simpa using hp
  have hq':q<C.length:=by simpa using hq
  have hs:=d_.1 h.sep p q hp' hq' N
  rw [List.getElem_set,List.getElem_set]
  split
  ·rename_i M; subst M
   rw [if_neg om]
   exact fun x hx hx'=>(J q hq' om x hx' hx).symm
  ·split
   ·rename_i M; subst M
    exact fun x hx hx'=>J p hp' om x hx hx'
   ·exact hs
 ·intro X hX x hx
  obtain ⟨j,hj,D⟩:=List.mem_iff_getElem.1 hX
  rw [List.getElem_set] at D
  split at D
  ·subst D
   rcases m.wf x hx with E|E
   ·exact h.own A F x E
   ·exact .inl (Nat.le_trans h.keeps.size E)
  ·subst D
   exact h.own _ (List.getElem_mem _) x hx
 ·intro X hX x hx
  obtain ⟨j,hj,D⟩:=List.mem_iff_getElem.1 hX
  rw [List.getElem_set] at D
  split at D
  ·subst D
   rcases m.dG x hx with E|E
   ·exact h.seen A F x E
   ·exact .inl (Nat.le_trans h.keeps.size E)
  ·subst D
   exact h.seen _ (List.getElem_mem _) x hx
/-- a state that was entered with an assertion's blocks alone, left with others -/
theorem Mv.of {A:au} {w w':World} {C:List au} (h:St ⟨A.wf,A.dG⟩ w C w'):Mv A (eB C) w w':=by
 refine ⟨⟨h.holds,h.sep⟩,h.keeps,?_,?_⟩
 ·rintro b ⟨B,hB,hb⟩; exact (h.own B hB b hb).symm
 ·rintro b ⟨B,hB,hb⟩; exact (h.seen B hB b hb).symm
theorem St.wR {w:World} {C:List au} (h:(eB C).holds w):St ⟨(eB C).wf,(eB C).dG⟩ w C w:=
 ⟨cQ.refl _ _,h.1,h.2,fun A hA b hb=> .inr ⟨A,hA,hb⟩,fun A hA b hb=> .inr ⟨A,hA,hb⟩⟩
/-- what is read by one is what another holds -/
structure DV (B A:au):Prop where
 holds: ∀ w,B.holds w→A.holds w
 dG: ∀ b,A.dG b→B.dG b
theorem cm (A:au):DV A A:=⟨fun _ h=>h,fun _ h=>h⟩
theorem fg {A B:au} (h:DV B A):DV B.ro A:=⟨h.holds,h.dG⟩
def Yl (w0:World) (P:Program) (l:Nat) (xs:List (List Value)) (J:Nat→au→Prop) (Z:au→Prop):Prop:=
 ∀ k x A w,xs[k]? =some x→J k A→w0.heap.size≤w.heap.size→A.holds w→YieldAt (Fw none) 0 P l x.toArray w fun e w'=>
  (e= .returned (.bool true)∧ ∃ B,J (k+1) B∧Mv A B w w')∨(e= .returned (.bool false)∧ ∃ B,Z B∧Mv A B w w')
def AI (J:Nat→au→Prop) (Z:au→Prop) (n:Nat) (A0:au) (w0:World) (e:Ending) (w':World):Prop:=
 ∃ v,e= .returned v∧((∃ B,J n B∧Mv A0 B w0 w')∨ ∃ B,Z B∧Mv A0 B w0 w')
structure x6 (P:Program) (f:FuncId) (fi ca:List Value) (Cp:List au) (xs:List (List Value)):Prop where
 go:ke P f=true
 run: ∀ (l:Nat) (J:Nat→au→Prop) (Z:au→Prop) (A0:au) (w:World),Yl w P l xs J Z→J 0 A0→A0.holds w→(∀ A∈Cp,A.holds w)→(∀ A∈Cp,wW A0 A.ro)→
  Calls P f (fi++Value.func (.yield l) #[] #[]::ca).toArray w (AI J Z xs.length A0 w)
def Fo (A0:au) (w0:World) (B:au):Prop:= ∀ b,B.dG b→A0.dG b∨w0.heap.size≤b
theorem BL {J:Nat→au→Prop} {Z:au→Prop} {n:Nat} {A0 B:au} {w0 w:World} {C:List au} {v:Value} (i:Nat) (hC:C[i]? =some B) (hJ:J n B) (hF:Fo A0 w0 B) (hs:St ⟨A0.wf,fun _=>True⟩ w0 C w):AI J Z n A0 w0 (.returned v) w:=
 ⟨v,rfl,.inl ⟨B,hJ,hs.holds B (aG hC),hs.keeps,fun b hb=>(hs.own B (aG hC) b hb).symm,hF⟩⟩
theorem rh {J:Nat→au→Prop} {Z:au→Prop} {n:Nat} {A0 B:au} {w0 w:World} {C:List au} {v:Value} (i:Nat) (hC:C[i]? =some B) (hJ:Z B) (hF:Fo A0 w0 B) (hs:St ⟨A0.wf,fun _=>True⟩ w0 C w):AI J Z n A0 w0 (.returned v) w:=
 ⟨v,rfl,.inr ⟨B,hJ,hs.holds B (aG hC),hs.keeps,fun b hb=>(hs.own B (aG hC) b hb).symm,hF⟩⟩
theorem vl {P:Program} {f:FuncId} {fn:Func} {c:Code} {args:List Value} {Cp:List au} {S:BS} {R:Ending→World→Prop} {w:World} (hf:P.funcs[f]? =some fn) (hb:fn.body=some c) (hn:Nat.ble args.length fn.ntmps=true)
 (h: ∀ (Q:cq),(∀ D L C,LJ ⟨P,none,fn.ntmps,S,w⟩ fn R D L C→KJ ⟨P,none,fn.ntmps,S,w⟩ (Q .ret) D L C)→(∀ D L C,LJ ⟨P,none,fn.ntmps,S,w⟩ fn R D L C→KJ ⟨P,none,fn.ntmps,S,w⟩ (Q .normal) D L C)→
  WJ ⟨P,none,fn.ntmps,S,w⟩ c Q [] (Fk args) Cp) (hw:St S w Cp w):Calls P f args.toArray w R:=by
 refine oR (callsIn_of_wp_marks hf hb trivial ?_ U)
 have B:=Nat.le_of_ble_eq_true hn
 refine h (bodyPostM (Fw none) 0 P fn R) ?_ ?_ _ w ⟨U,by simp; omega,fun t v hv=>?_⟩ hw
 ·intro D L C hl a w' hf' hs'
  have:=hl a w' hf' hs'
  show LeavesInM (Fw none) 0 P fn a.tmps R a.defers .returning w'
  rw [hf'.defers]; exact this
 ·intro D L C hl a w' hf' hs'
  have:=hl a w' hf' hs'
  show LeavesInM (Fw none) 0 P fn a.tmps R a.defers .returning w'
  rw [hf'.defers]; exact this
 ·obtain ⟨_,A⟩:=pZ args 0 t v hv
  have ht:t<args.length:=by
   have:=(aV.1 A).1; omega
  simp only [Nat.sub_zero] at A
  rw [Array.getElem?_append_left (by simpa using ht)]
  simpa using A
theorem pg {P:Program} {f:FuncId} {fn:Func} {c:Code} {fi ca:List Value} {Cp:List au} {xs:List (List Value)} (hgo:ke P f=true) (hf:P.funcs[f]? =some fn) (hb:fn.body=some c) (hn:Nat.ble (fi.length+ca.length+1) fn.ntmps=true)
 (h: ∀ (l:Nat) (J:Nat→au→Prop) (Z:au→Prop) (A0:au) (w0:World) (Q:cq),Yl w0 P l xs J Z→J 0 A0→Fo A0 w0 A0→
  (∀ D L C,LJ ⟨P,none,fn.ntmps,⟨A0.wf,fun _=>True⟩,w0⟩ fn (AI J Z xs.length A0 w0) D L C→KJ ⟨P,none,fn.ntmps,⟨A0.wf,fun _=>True⟩,w0⟩ (Q .ret) D L C)→
  (∀ D L C,LJ ⟨P,none,fn.ntmps,⟨A0.wf,fun _=>True⟩,w0⟩ fn (AI J Z xs.length A0 w0) D L C→KJ ⟨P,none,fn.ntmps,⟨A0.wf,fun _=>True⟩,w0⟩ (Q .normal) D L C)→
  WJ ⟨P,none,fn.ntmps,⟨A0.wf,fun _=>True⟩,w0⟩ c Q [] (Fk (fi++Value.func (.yield l) #[] #[]::ca)) (A0::Cp.map au.ro)):x6 P f fi ca Cp xs:=by
 refine ⟨hgo,fun l J Z A0 w hY hJ hA F E=>?_⟩
 refine vl hf hb (by simpa [Nat.add_assoc] using hn) (h l J Z A0 w · hY hJ (fun b hb=> .inl hb)) ?_
 have G:=nX F
 refine ⟨cQ.refl _ _,fun A hA'=>?_,List.Pairwise.cons (fun B hB=>?_) G.sep,fun A hA' b hb=>?_,fun _ _ _ _=> .inr trivial⟩
 ·rcases bZ.1 hA' with rfl|hA'
  ·exact hA
  ·exact G.holds A hA'
 ·obtain ⟨B',hB',rfl⟩:=cy.1 hB
  exact E B' hB'
 ·rcases bZ.1 hA' with rfl|hA'
  ·exact .inr hb
  ·obtain ⟨B',hB',rfl⟩:=cy.1 hA'
   exact hb.elim
section
variable {E:dW} {ops:Array Oper} {Q:cq} {rest:List Oper} {D:List Deferred} {L:List (Nat×Value)} {C:List au}
variable {d:Nat} {ty:TypeId} {ps:String} {af:Array Edge} {g:Option (Nat×Bool)}
/-- a call of yield -/
theorem mD {fop:Operand} {xs:Array Operand} {ts:Array TypeId} {l k:Nat} {vs:List Value} {ls:List (List Value)} {J:Nat→au→Prop} {Z:au→Prop} {A0 A:au} (i:Nat) (hY:Yl E.w0 E.P l ls J Z) (hJ:J k A) (hF:Fo A0 E.w0 A) (hg:gW ops L g=true) (hf:ev L fop=some (.func (.yield l) #[] #[]))
 (hx:evs L xs.toList=some vs) (hk:ls[k]? =some vs) (hC:C[i]? =some A) (hd:Nat.blt d E.n=true)
 (k1: ∀ B,J (k+1) B→Fo A0 E.w0 B→RJ E ops Q rest D ((d,.bool true)::L) (C.set i B))
 (k2: ∀ B,Z B→Fo A0 E.w0 B→RJ E ops Q rest D ((d,.bool false)::L) (C.set i B)):
 RJ E ops Q (⟨some d,.call {callee:= .value fop,args:=xs,argTypes:=ts},ty,ps,af,g⟩::rest) D L C:=by
 intro a w F hs
 have hd':d<E.n:=by rw [← Nat.blt_eq]; exact hd
 unfold nv
 rw [if_pos (dw F hg)]
 have K:xs.map a.eval=vs.toArray:=by
  have:=F.evs hx
  apply Array.ext'
  simp [this]
 obtain ⟨fn,tmps,assign,body,hy,hr⟩:=hY k vs A w hk hJ hs.keeps.size (hs.holds A (aG hC))
 have H:(execOp a.eval ⟨some d,.call {callee:= .value fop,args:=xs,argTypes:=ts},ty,ps,af,g⟩).run E.P w= .ok (.round l fn tmps assign body) w:=by
  simp [execOp,resolve,F.ev hf,Deferred.ofValue,invoke,K,hy]
 refine ⟨fun _ _=>trivial,?_⟩
 rw [Oper.semAt_eq _ _ _ sm,H]
 refine ⟨fun h=>by simp at h,?_⟩
 have G: ∀ (B:au) (w':World),Mv A B w w'→Fo A0 E.w0 B:=fun B w' m b hb=>by
  rcases m.dG b hb with AA|AA
  ·exact hF b AA
  ·exact .inr (Nat.le_trans hs.keeps.size AA)
 have hr':RoundIn (Fw E.r) 0 E.P l fn tmps assign body w _:=hr
 refine hr'.mono fun e w' he=>?_
 rcases he with ⟨rfl,B,hB,m⟩|⟨rfl,B,hB,m⟩
 ·exact k1 B hB (G B w' m) _ _ (F.put hd' _) (hs.mv i hC m)
 ·exact k2 B hB (G B w' m) _ _ (F.put hd' _) (hs.mv i hC m)
end
def uu (ps:List Tmp) (x:List Value) (L:cG):cG:=(ps.zip x).foldl (fun L p=>(p.1,p.2)::L) L
theorem zy {n:Nat}: ∀ (ps:List Tmp) (x:List Value) (L:cG) (tmps:Array Value),(∀ t∈ps,t<n)→Fr n [] L {tmps:=tmps,defers:=[]}→
 Fr n [] (uu ps x L) {tmps:=(ps.zip x).foldl (fun tmps (p:Tmp×Value)=>tmps.setIfInBounds p.1 p.2) tmps,defers:=[]}:=by
 intro ps
 induction ps with
 |nil=>intro x L tmps _ h; simpa [uu] using h
 |cons t ps ih=>
  intro x L tmps A h
  cases x with
  |nil=>simpa [uu] using h
  |cons v x=>
   have:=h.put (A t sm) v
   simpa [uu] using ih x _ _ (fun t' ht=>A t' (by simp [ht])) this
theorem nY {E:dW} {Q:cq} {D:eU} {L L0:cG} {C F:List au} {g:Operand} {ps:Array Tmp} {assign body:Code} {f:FuncId} {fi ca:List Value} {Cp:List au} {xs:List (List Value)} {ι κ:Type}
 (inv:Nat→ι→Prop) (Ci:Nat→ι→List au) (invx:Code→κ→Prop) (Cx:Code→κ→List au) (isJ isF:List Nat) (y0:ι)
 (hr:E.r=none) (hg:ev L g=some (.func (.func f) fi.toArray ca.toArray)) (hs:x6 E.P f fi ca Cp xs)
 (hnd:decide (isJ++isF).Nodup=true) (hJ:mM C isJ=Ci 0 y0) (hF:mM C isF=F) (h0:inv 0 y0) (hCp: ∀ A∈Cp,∃ B∈F,DV B A)
 (hps: ∀ x∈xs,x.length=ps.size) (hpn:ps.toList.all (fun t=>Nat.blt t E.n)=true) (hL:cL L L0)
 (round: ∀ (k:Nat) (x:List Value) (y:ι) (l:Nat) (ra rb:Loop) (S:BS) (w0:World) (K:Act→World→Prop) (Qr:cq),xs[k]? =some x→inv k y→
  (∀ L' C',WJ ⟨E.P,some l,E.n,S,w0⟩ body Qr [] L' (iH l (.loop rb)::C')→KJ ⟨E.P,some l,E.n,S,w0⟩ K [] L' (iH l (.loop ra)::C'))→
  (∀ y' L' C',inv (k+1) y'→(∀ w,St S w0 C' w→St S w0 (iH l (.loop rb)::Ci (k+1) y') w)→KJ ⟨E.P,some l,E.n,S,w0⟩ (Qr .normal) [] L' C')→
  (∀ id z L' C',invx (.exit id) z→(∀ w,St S w0 C' w→St S w0 (iH l (.loop rb)::Cx (.exit id) z) w)→KJ ⟨E.P,some l,E.n,S,w0⟩ (Qr (.exit id)) [] L' C')→
  (∀ z L' C',invx .ret z→(∀ w,St S w0 C' w→St S w0 (iH l (.loop rb)::Cx .ret z) w)→KJ ⟨E.P,some l,E.n,S,w0⟩ (Qr .ret) [] L' C')→
  WJ ⟨E.P,some l,E.n,S,w0⟩ assign (Exit.then K (fun _ _ _=>False)) [] (uu ps.toList x L0) (iH l (.loop ra)::Ci k y))
 (fin: ∀ r y,inv xs.length y→KJ E (Q .normal) (gV r::D) L0 (iH r (.deferred (some []))::(F++Ci xs.length y)))
 (finx: ∀ r id z,invx (.exit id) z→KJ E (Q (.exit id)) (gV r::D) L0 (iH r (.deferred (some []))::(F++Cx (.exit id) z)))
 (finr: ∀ r z,invx .ret z→KJ E (Q .ret) (gV r::D) L0 (iH r (.deferred (some []))::(F++Cx .ret z))):WJ E (.rangeFunc g ps assign body) Q D L C:=by
 intro a w hf Ak
 refine wpIn_rangeFunc fun fn _=>?_
 show ∃ l gV w₁ d w₁' f args w₂,(Instr.enterLoop fn a.tmps ps assign body E.r).run E.P w= .ok (l,gV) w₁∧_
 rw [hr]
 obtain ⟨rec,G⟩: ∃ rec:LoopState→Option Code→Loop,rec=fun st pe=>{state:=st,pending:=pe,fn,tmps:=a.tmps,params:=ps,assign,body,defers:=w.heap.size}:=⟨_,rfl⟩
 obtain ⟨W1,X⟩: ∃ W1,(w.alloc (.deferred (some []))).alloc (.loop (rec .ready none))=W1:=⟨_,rfl⟩
 have AH:a.eval g= .func (.func f) fi.toArray ca.toArray:=hf.ev hg
 have p:(Instr.enterLoop fn a.tmps ps assign body none).run E.P w= .ok (w.heap.size+1,[gV w.heap.size]) W1:=by
  rw [← X,G]; exact run_enterLoop_outer _ _ _ _ _
 -- the state with the record and the block
 have q:St E.S E.w0 ((iH (w.heap.size+1) (.loop (rec .ready none))::Ci 0 y0)++(iH w.heap.size (.deferred (some []))::F)) W1:=by
  have V:St E.S E.w0 (Ci 0 y0++F) w:=St.mM (isJ++isF) hnd (by have V:=hJ; have j:=hF; unfold Go.Proofs.YtkidpbhlgnalaaaGreat.mM at V j ⊢; rw [List.filterMap_append,V,j]) Ak
  have hn:Cj w W1 [iH (w.heap.size+1) (.loop (rec .ready none)),iH w.heap.size (.deferred (some []))]:=by
   refine ⟨fun A hA=>?_,fun A hA b hb=>?_,?_⟩
   ·rcases bZ.1 hA with rfl|hA
    ·show W1.heap[w.heap.size+1]? =_
     rw [← X]; have:=World.alloc_heap_new (w.alloc (.deferred (some []))) (.loop (rec .ready none)); rwa [World.size_alloc] at this
    ·simp only [cN] at hA; subst hA
     show W1.heap[w.heap.size]? =_
     rw [← X]; exact (Below.heap_alloc _ _ _ sm).trans (World.alloc_heap_new w _)
   ·rcases bZ.1 hA with rfl|hA
    ·have:b=w.heap.size+1:=hb
     omega
    ·simp only [cN] at hA; subst hA
     have:b=w.heap.size:=hb
     omega
   ·refine List.Pairwise.cons (fun B hB b V j=>?_) (List.pairwise_singleton _ _)
    simp only [cN] at hB; subst hB
    have AA:b=w.heap.size+1:=V
    have O:b=w.heap.size:=j
    omega
  have hk:cQ no w W1:=by rw [← X]; exact (cQ.alloc no w _).trans (cQ.alloc no _ _)
  have j:=V.grow hk hn
  refine j.perm ?_
  simp only [List.cons_append,List.nil_append]
  exact List.Perm.cons _ (List.perm_middle.symm)
 have Y:=q.xc
 obtain ⟨H,A0⟩:=List.pairwise_cons.1 Y.sep
 have AC:=Y.holds _ (gk ..)
 let J:Nat→au→Prop:=fun k A=> ∃ y,inv k y∧A=eB (iH (w.heap.size+1) (.loop (rec .ready none))::Ci k y)
 let Z:au→Prop:=fun A=> ∃ c z,(c= .ret∨ ∃ id,c= .exit id)∧invx c z∧A=eB (iH (w.heap.size+1) (.loop (rec .done (some c)))::Cx c z)
 refine ⟨w.heap.size+1,[gV w.heap.size],W1,{target:= .fn (.func f) ca.toArray,args:=fi.toArray++ #[.func (.yield (w.heap.size+1)) #[] #[]]},W1,f,
  (fi++Value.func (.yield (w.heap.size+1)) #[] #[]::ca).toArray,W1,p,?_,fun _ _=>trivial,?_,fun h=>by simp at h,?_⟩
 ·simp only [resolve,AH]
  simp [Deferred.ofValue,Act.eval]
 ·have:fi.toArray++ #[Value.func (.yield (w.heap.size+1)) #[] #[]]++ca.toArray=(fi++Value.func (.yield (w.heap.size+1)) #[] #[]::ca).toArray:=by simp
  simp [invoke,lh hs.go]
 ·refine (lO E.r (hs.run (w.heap.size+1) J Z _ W1 ?_ ⟨y0,h0,U⟩ AC ?_ ?_)).mono ?_
  ·-- a round
   rintro k x A W hx ⟨y,hy,rfl⟩ _ hA
   have hl:W.heap[w.heap.size+1]? =some (.loop (rec .ready none)):=hA.1 _ (gk ..)
   have s:=run_yield (P:=E.P) (args:=x.toArray) hl (by rw [G]; simpa using hps x (aG hx))
   rw [G] at s
   refine ⟨fn,_,assign,body,s,roundIn_of_wpIn trivial ?_⟩
   let A:au:=eB (iH (w.heap.size+1) (.loop (rec .ready none))::Ci k y)
   have AO:Fr E.n [] (uu ps.toList x L0) {tmps:=(ps.zip x.toArray).foldl (fun tmps (t,a)=>tmps.setIfInBounds t a) a.tmps,defers:=[]}:=by
    have V:=zy ps.toList x L0 a.tmps (fun t ht=>by have:=cT.1 hpn t ht; rwa [Nat.blt_eq] at this) ⟨rfl,hf.size,fun t v hv=>hf.at_ t v (hL t v hv)⟩
    rw [← Array.foldl_toList]
    simpa using V
   have o: ∀ (c:Option Code) (b:Bool),({rec .busy none with state:=if b then .ready else .done,pending:=c}:Loop)=rec (if b then .ready else .done) c:=fun c b=>by rw [G]
   have R: ∀ (c:Option Code) (N:World) (C':List au) (S:BS),St S W (iH (w.heap.size+1) (.loop (rec .busy none))::C') N→
    ∃ M,(Instr.endRound (w.heap.size+1) c).run E.P N= .ok (.bool c.isNone) M∧St S W (iH (w.heap.size+1) (.loop (rec (if c.isNone then .ready else .done) c))::C') M:=fun c N C' S H=>by
    have AB:N.heap[w.heap.size+1]? =some (.loop (rec .busy none)):=H.holds _ (gk ..)
    refine ⟨_,run_endRound c AB,?_⟩
    have:=H.vb (b:=w.heap.size+1) (A':=iH (w.heap.size+1) (.loop (rec (if c.isNone then .ready else .done) c))) 0 rfl rfl rfl (fN _) (fun _ h=>h) (World.putObj_heap_same (ee AB))
    rw [o]
    exact this
   refine round k x y (w.heap.size+1) (rec .ready none) (rec .busy none) ⟨A.wf,A.dG⟩ W _ (roundPost E.P (w.heap.size+1) (fun e w'=>(e= .returned (.bool true)∧ ∃ B,J (k+1) B∧Mv A B W w')∨(e= .returned (.bool false)∧ ∃ B,Z B∧Mv A B W w'))) hx hy ?_ ?_ ?_ ?_ _ _ AO (St.wR hA)
   ·intro L' C' hW u N i H
    have AB:N.heap[w.heap.size+1]? =some (.loop (rec .ready none)):=H.holds _ (gk ..)
    refine ⟨_,run_beginRound AB (by rw [G]),hW _ _ i ?_⟩
    have:=H.vb (b:=w.heap.size+1) (A':=iH (w.heap.size+1) (.loop (rec .busy none))) 0 rfl rfl rfl (fN _) (fun _ h=>h) (World.putObj_heap_same (ee AB))
    have e:({rec .ready none with state:= .busy}:Loop)=rec .busy none:=by rw [G]
    rw [e]; exact this
   ·intro y' L' C' hy' hC' u N i H
    obtain ⟨M,AA,O⟩:=R none N _ _ (hC' _ H)
    exact ⟨_,M,AA,.inl ⟨U,_,⟨y',hy',U⟩,Mv.of O⟩⟩
   ·intro id z L' C' hz hC' u N i H
    obtain ⟨M,AA,O⟩:=R (some (.exit id)) N _ _ (hC' _ H)
    exact ⟨_,M,AA,.inr ⟨U,_,⟨_,z,.inr ⟨id,U⟩,hz,U⟩,Mv.of O⟩⟩
   ·intro z L' C' hz hC' u N i H
    obtain ⟨M,AA,O⟩:=R (some .ret) N _ _ (hC' _ H)
    exact ⟨_,M,AA,.inr ⟨U,_,⟨_,z,.inl U,hz,U⟩,Mv.of O⟩⟩
  ·intro A hA
   obtain ⟨B,hB,hc⟩:=hCp A hA
   exact hc.holds _ (Y.holds B (fA _ (fA _ hB)))
  ·intro A hA b hb hb'
   obtain ⟨B,hB,hc⟩:=hCp A hA
   exact ⟨(H B (fA _ hB) b hb (hc.dG b hb')).1,fun h=>h⟩
  ·rintro e w' ⟨v,rfl,hh⟩
   have T:Fr E.n (gV w.heap.size::D) L0 {a with defers:=[gV w.heap.size]++a.defers}:=⟨by simp [hf.defers],hf.size,fun t v hv=>hf.at_ t v (hL t v hv)⟩
   have hleave: ∀ (st:LoopState) (c:Option Code) (C':List au),st≠ .busy→Mv (eB (iH (w.heap.size+1) (.loop (rec .ready none))::Ci 0 y0)) (eB (iH (w.heap.size+1) (.loop (rec st c))::C')) W1 w'→
    ∃ M,(Instr.endLoop (w.heap.size+1)).run E.P w'= .ok c M∧St E.S E.w0 (iH w.heap.size (.deferred (some []))::(F++C')) M:=fun st c C' AR m=>by
    have V:=(Y.mv 0 rfl m).qo
    have h1':St E.S E.w0 ((iH (w.heap.size+1) (.loop (rec st c))::C')++(iH w.heap.size (.deferred (some []))::F)) w':=V
    have AB:w'.heap[w.heap.size+1]? =some (.loop (rec st c)):=h1'.holds (iH (w.heap.size+1) (.loop (rec st c))) sm
    refine ⟨_,by have:=run_endLoop (P:=E.P) AB (by rw [G]; exact AR); rw [this,G],?_⟩
    have j:=h1'.vb (b:=w.heap.size+1) (A':=iH (w.heap.size+1) (.loop {rec st c with state:= .exhausted})) 0 rfl rfl rfl (fN _) (fun _ h=>h) (World.putObj_heap_same (ee AB))
    have h3:St E.S E.w0 (C'++(iH w.heap.size (.deferred (some []))::F)) _:=j.take (List.sublist_cons_self _ _)
    rw [G] at h3
    refine h3.perm ?_
    exact (List.perm_append_comm).trans sm
   rcases hh with ⟨B,⟨y,hy,rfl⟩,m⟩|⟨B,⟨c,z,hc,hz,rfl⟩,m⟩
   ·obtain ⟨M,AA,O⟩:=hleave .ready none _ sm m
    exact ⟨none,M,AA,fin w.heap.size y hy _ _ T O⟩
   ·obtain ⟨M,AA,O⟩:=hleave .done (some c) _ sm m
    refine ⟨some c,M,AA,?_⟩
    rcases hc with rfl|⟨id,rfl⟩
    ·exact wpIn_ret (finr w.heap.size z hz _ _ T O)
    ·exact wpIn_exit (finx w.heap.size id z hz _ _ T O)
end
section
open Go.RowKit
theorem sD {E:dW} {c:Code} {Q:cq} {D:eU} {L:cG} {C:List au} (hr:E.r=none) (h:WJ E c (Exit.noGoto Q) D L C):WJ E (.scope c) Q D L C:=by
 intro a w hf hs
 obtain ⟨P,r,n,S,A⟩:=E
 subst hr
 exact (wpIn_wide (n:=0)).2 (wp_scope_straight ((wpIn_wide (n:=0)).1 (h a w hf hs)))
theorem sb {E:dW} {l:Nat} {Q:cq} {D:eU} {L:cG} {C:List au} (h:KJ E (Q .normal) D L C):WJ E (.label l) Q D L C:=fun a w hf hs=>wpIn_label (h a w hf hs)
theorem cz.eq {P:Program} {f:FuncId} {args:List Value} {Cp:List au} {u v:Value} (h:cz P f args Cp v) (e:v=u):cz P f args Cp u:=e▸h
/-- a function value that is called: what it hands back -/
def sR (P:Program) (fv:Value) (args:List Value) (Cp:List au) (v:Value):Prop:=
 ∃ f fi ca,fv= .func (.func f) fi ca∧cz P f (fi.toList++args++ca.toList) Cp v
theorem hZ {P:Program} {f:FuncId} {fi ca args:List Value} {Cp:List au} {v:Value} (h:cz P f (fi++args++ca) Cp v):sR P (.func (.func f) fi.toArray ca.toArray) args Cp v:=⟨f,_,_,rfl,by simpa using h⟩
section
variable {E:dW} {ops:Array Oper} {Q:cq} {rest:List Oper} {D:List Deferred} {L:List (Nat×Value)} {C:List au}
variable {dst:Option Tmp} {d:Nat} {ty:TypeId} {ps:String} {af:Array Edge} {g:Option (Nat×Bool)}
theorem kb {fop:Operand} {xs:Array Operand} {ts:Array TypeId} {fv:Value} {vs:List Value} {Cp:List au} {v:Value} (hg:gW ops L g=true) (hf:ev L fop=some fv)
 (hx:evs L xs.toList=some vs) (c:sR E.P fv vs Cp v) (hC:gU C Cp):SD E ops ⟨dst,.call {callee:= .value fop,args:=xs,argTypes:=ts},ty,ps,af,g⟩ D L C v:=by
 obtain ⟨f,fi,ca,rfl,h⟩:=c
 exact wh hg hf hx U h hC
end
theorem St.dup {S:BS} {w0 w:World} {C:List au} {A:au} (i:Nat) (h:St S w0 C w) (hC:C[i]? =some A) (hw: ∀ b,¬ A.wf b):St S w0 (A::C) w:=by
 have hm:=aG hC
 refine ⟨h.keeps,fun B hB=>?_,List.Pairwise.cons (fun B hB b ha hb=>⟨hw b,fun E=>?_⟩) h.sep,fun B hB=>?_,fun B hB=>?_⟩
 ·rcases bZ.1 hB with rfl|hB
  ·exact h.holds B hm
  ·exact h.holds B hB
 ·obtain ⟨j,hj,rfl⟩:=List.mem_iff_getElem.1 hB
  obtain ⟨hi,rfl⟩:=aV.1 hC
  rcases Nat.lt_trichotomy i j with D|F|D
  ·exact (d_.1 h.sep i j hi hj D b ha hb).2 E
  ·subst F; exact hw b E
  ·exact (d_.1 h.sep j i hj hi D b hb ha).1 E
 ·rcases bZ.1 hB with rfl|hB
  ·exact h.own B hm
  ·exact h.own B hB
 ·rcases bZ.1 hB with rfl|hB
  ·exact h.seen B hm
  ·exact h.seen B hB
theorem jS {E:dW} {c:Code} {Q:cq} {D:eU} {L:cG} {C:List au} {A:au} (i:Nat) (hC:C[i]? =some A) (hw: ∀ b,¬ A.wf b) (h:WJ E c Q D L (A::C)):WJ E c Q D L C:=fun a w hf hs=>h a w hf (hs.dup i hC hw)
theorem xP {E:dW} {c:Code} {Q:cq} {D:eU} {L:cG} {C C':List au} {g e:Nat} {cs:List Value} {sz:Nat} {es:List (List Value)} (i:Nat) (hC:C[i]? =some (bm g e cs)) (h2: ∀ x∈es,x.length=sz) (h3:es.flatten=cs) (hm:es.length≤maxLen)
 (hC':C.set i (own (some ⟨g,0,none⟩) es.length e sz es)=C') (k:WJ E c Q D L C'):WJ E c Q D L C:=fun a w hf hs=>by
 refine k a w hf ?_
 rw [← hC']
 refine hs.vb i hC U U (cQ.refl _ _) (fun x hx=>?_) (wj (hs.holds _ (aG hC)) h2 h3 hm)
 obtain ⟨ad,A,h2⟩:=hx
 cases A; exact h2
theorem pG {α:Type} {f:α→List Value} {n:Nat} (h: ∀ a,(f a).length=n) (l:List α): ∀ x∈l.map f,x.length=n:=fun x hx=>by
 obtain ⟨a,_,rfl⟩:=cy.1 hx; exact h a
def Ij (E:dW) (c:Code) (Q:cq) (m:Nat) (D:eU) (L:cG) (C:List au):Prop:=
 ∀ a w,Fr E.n D L a→St E.S E.w0 C w→Code.roundsIn (Fw E.r) 0 E.P c Q m a w
theorem gE {E:dW} {c:Code} {Q:cq} {D:eU} {L:cG} {C:List au} (m:Nat) (h:Ij E c Q m D L C):WJ E (.loop c) Q D L C:=fun a w hf hs=>wpIn_loop_rounds m (h a w hf hs)
theorem ey {E:dW} {c:Code} {Q:cq} {m:Nat} {D:eU} {L:cG} {C:List au}
 (h: ∀ K:Act→World→Prop,(∀ D L C,Ij E c Q m D L C→KJ E K D L C)→WJ E c (Exit.then K Q) D L C):Ij E c Q (m+1) D L C:=
 fun a w hf hs=>h (Code.roundsIn (Fw E.r) 0 E.P c Q m) (fun _ _ _ hy a w hf hs=>hy a w hf hs) a w hf hs
theorem Fl {E:dW} {x y:Code} {Q:cq} {D:eU} {L:cG} {C:List au} {ι:Type} (L':ι→cG) (C':ι→List au)
 (hy: ∀ z,WJ E y Q D (L' z) (C' z)) (h: ∀ K:Act→World→Prop,(∀ z,KJ E K D (L' z) (C' z))→WJ E x (Exit.then K Q) D L C):WJ E (.seq x y) Q D L C:=
 al fun K hK=>h K fun z=>hK _ _ _ (hy z)
theorem jO {L L':cG} {t:Nat} {b c:Bool} (h1:L.lookup t=some (.bool b)) (h2:c=b) (k:cL L L'):cL L ((t,.bool c)::L'):=cL.cons (h2▸h1) k
theorem aR {L L':cG} {t:Nat} {u v:Value} (h1:L.lookup t=some u) (h2:v=u) (k:cL L L'):cL L ((t,v)::L'):=cL.cons (h2▸h1) k
def ky (C:List au):au where
 dG b:= ∃ A∈C,A.dG b
 wf _:=False
 holds w:= ∀ A∈C,A.holds w
 wr:=false
 iL _ h:=h.elim
 whole h:=by cases h
 lt w h b:=by rintro ⟨A,hA,hb⟩; exact A.lt w (h A hA) b hb
 kQ w w' hk h:=fun A hA=>A.kQ w w' (fun b hb=>hk b ⟨A,hA,hb⟩) (h A hA)
theorem gu {P:Program} {f:FuncId} {args:List Value} {Cp C:List au} {v:Value} (h:cz P f args Cp v) (hC:gU C Cp):cz P f args [ky C] v:=⟨h.go,fun w hw=>h.run w (hC w (hw _ (cN.2 rfl)))⟩
theorem gJ {C Cp:List au} (h:gU C Cp):iK C (ky Cp).holds:=fun w hw=>h w hw
def tX (P:Program) (t:TypeId):Option (Nat×TypeId):=
 match P.underlying t with
 |some (.array n e)=>some (n,e)
 |_=>none
theorem DI {P:Program} {t n e:Nat} (h:tX P t=some (n,e)):P.underlying t=some (.array n e):=by
 unfold tX at h
 cases hu:P.underlying t with
 |none=>simp [hu] at h
 |some d=>cases d<;>simp [hu] at h<;>(obtain ⟨rfl,rfl⟩:=h; rfl)
section
variable {E:dW} {ops:Array Oper} {Q:cq} {rest:List Oper} {D:List Deferred} {L:List (Nat×Value)} {C:List au}
variable {dst:Option Tmp} {d:Nat} {ty:TypeId} {ps:String} {af:Array Edge} {g:Option (Nat×Bool)}
theorem iY {x ix:Operand} {t e len sz:Nat} {cs vs:List Value} {j:Int} (m:Nat) (hg:gW ops L g=true) (hx:ev L x=some (.agg cs.toArray)) (hi:ev L ix=some (.int .i64 j)) (ht:tX E.P t=some (len,e)) (hk:tK E.P e=some (true,sz)) (hj:j=(m:Int)) (hm:m<len) (hv:(cs.drop (m*sz)).take sz=vs):
 SD E ops ⟨dst,.index t x ix,ty,ps,af,g⟩ D L C (.agg vs.toArray):=
 dh hg sm fun a w A _=>by
  have B:(0:Int)≤(m:Int)∧(m:Int)<(len:Int):=by omega
  subst hj
  simp [execOp,A.ev hx,A.ev hi,Instr.index,asIntOf,run_underlying (DI ht),B,hm,(ld hk w).2,pR hk hv w]
end
end
section
open Go.RowKit
def dv (ops:Array Oper) (is:List Nat):List Oper:=is.filterMap (ops[·]?)
theorem jy {ops:Array Oper}: ∀ {is:List Nat},(∀ i∈is,i<ops.size)→ ∀ p:Nat,(dv ops is)[p]? =(is[p]?).bind (ops[·]?):=by
 intro is
 induction is with
 |nil=>intro _ p; simp [dv]
 |cons i is ih=>
  intro h p
  have hi:=h i sm
  have A:dv ops (i::is)=ops[i]::dv ops is:=by simp [dv,hi]
  rw [A]
  cases p with
  |zero=>simp [hi]
  |succ p=>simpa using ih (fun j hj=>h j (by simp [hj])) p
theorem k9 {ops:Array Oper} {is:List Nat} (h: ∀ i∈is,i<ops.size):(dv ops is).length=is.length:=by
 induction is with
 |nil=>rfl
 |cons i is ih=>
  have hi:=h i sm
  have A:dv ops (i::is)=ops[i]::dv ops is:=by simp [dv,hi]
  rw [A]; simp [ih (fun j hj=>h j (by simp [hj]))]
def mA (o:Oper):Bool:=match o.op with | .select .. =>false| .defer _=>false|_=>true
def A_ (m:Array Nat) (ops:Array Oper) (free T:List Nat):Bool:=
 (free.all (Nat.blt · ops.size))&&(T.all (Nat.blt · ops.size))&&((List.range ops.size).all fun i=>free.contains i||T.contains i)&&(T.all fun i=> !free.contains i)&&
 ((List.range ops.size).all fun i=>match ops[i]? with
  |none=>false
  |some o=>mA o&&o.after.toList.all fun e=> !Region.binds .any e||Nat.blt e.on i)&&
 ((List.range free.length).all fun p=>match (free[p]?).bind fun i=>(ops[i]?).map fun o=>(i,o) with
  |none=>false
  |some (i,o)=>o.dst.isSome&&
   ((List.range free.length).all fun q=>q==p||match (free[q]?).bind fun j=>(ops[j]?).map fun o=>(j,o) with
    |none=>false
    |some (j,r)=>match r.dst with
     |none=>false
     |some d=>o.dst != some d&&(!(o.looksAt ops).contains d||(if q<p then fu m j i else fu m i j)))&&
   (T.all fun j=>match ops[j]? with
    |none=>false
    |some r=>r.dst != o.dst&&(match r.dst with |none=>true|some d=> !(o.looksAt ops).contains d||fu m i j)&&(match o.dst with |none=>true|some d=> !(r.looksAt ops).contains d||fu m i j)))&&
 ((List.range T.length).all fun p=>(List.range p).all fun q=>match T[p]?,T[q]? with
  |some i,some j=>i != j&&fu m j i
  |_,_=>false)
def Dl (m:Array Nat) (ops:Array Oper) (free T:List Nat) (fe tb:List Bool):Bool:=
 A_ m ops free T&&((List.range T.length).all fun q=>(tb[q]?).getD false||(List.range free.length).all fun p=> !(fe[p]?).getD false||match free[p]?,T[q]? with
  |some i,some j=>fu m i j
  |_,_=>false)
def CG (ops:Array Oper) (free T:List Nat) (fe tb:List Bool):Bool:=Dl (mw ops) ops free T fe tb
def Fb (ops:Array Oper) (free T:List Nat):Bool:=A_ (mw ops) ops free T
theorem AY {ops:Array Oper} {free T:List Nat} {fe tb:List Bool} (h:CG ops free T fe tb=true):Fb ops free T=true∧ ∀ (p q i j:Nat),free[p]? =some i→T[q]? =some j→(fe[p]?).getD false=true→(tb[q]?).getD false=true∨fu (mw ops) i j=true:=by
 simp only [CG,Dl,cZ] at h
 refine ⟨h.1,fun p q i j hp hq hf=>?_⟩
 have B:=h.2
 rw [cT] at B
 have A:=B q (by simpa using (aV.1 hq).1)
 rw [Bool.or_eq_true] at A
 rcases A with A|A
 ·exact .inl A
 ·rw [cT] at A
  have C:=A p (by simpa using (aV.1 hp).1)
  simp only [hp,hq,hf,Bool.not_true,Bool.false_or] at C
  exact .inr C
structure EW (ops:Array Oper) (free T:List Nat):Prop where
 fl: ∀ i∈free,i<ops.size
 tl: ∀ i∈T,i<ops.size
 cover: ∀ i,i<ops.size→i∈free∨i∈T
 Ak: ∀ i∈T,i ∉ free
 plain: ∀ (i:Nat) (o:Oper),ops[i]? =some o→(∀ cs b,o.op≠ .select cs b)∧(∀ c,o.op≠ .defer c)
 tP: ∀ (i:Nat) (o:Oper) (e:Edge),ops[i]? =some o→e∈o.after→Region.binds .any e=true→e.on<i
 apart: ∀ (p q i j:Nat) (o r:Oper) (d:Nat),free[p]? =some i→free[q]? =some j→q≠p→ops[i]? =some o→ops[j]? =some r→r.dst=some d→o.dst≠some d∧(d∈o.looksAt ops→(q<p∧fu (mw ops) j i=true)∨(p<q∧fu (mw ops) i j=true))
 ft: ∀ (i j:Nat) (o r:Oper),i∈free→j∈T→ops[i]? =some o→ops[j]? =some r→r.dst≠o.dst∧(∀ d,r.dst=some d→d∈o.looksAt ops→fu (mw ops) i j=true)∧(∀ d,o.dst=some d→d∈r.looksAt ops→fu (mw ops) i j=true)
 chain: ∀ p q i j:Nat,T[p]? =some i→T[q]? =some j→q<p→i≠j∧fu (mw ops) j i=true
theorem EW.of {ops:Array Oper} {free T:List Nat} (h:Fb ops free T=true):EW ops free T:=by
 simp only [Fb,A_,cZ] at h
 obtain ⟨⟨⟨⟨⟨⟨H,AA⟩,J⟩,K⟩,C⟩,D⟩,L⟩:=h
 rw [cT] at H AA J K C D L
 have E: ∀ i∈free,i<ops.size:=fun i hi=>by have:=H i hi; rwa [Nat.blt_eq] at this
 have G: ∀ i∈T,i<ops.size:=fun i hi=>by have:=AA i hi; rwa [Nat.blt_eq] at this
 refine ⟨E,G,fun i hi=>?_,fun i hi=>?_,fun i o ho=>?_,fun i o e ho he hb=>?_,?_,?_,?_⟩
 ·have:=J i (by simpa using hi)
  simpa using this
 ·have:=K i hi
  simpa using this
 ·have hi:i<ops.size:=(Array.getElem?_eq_some_iff.1 ho).1
  have:=C i (by simpa using hi)
  simp only [ho,cZ] at this
  have:=this.1
  refine ⟨fun cs b hh=>?_,fun c hh=>?_⟩<;>simp [mA,hh] at this
 ·have hi:i<ops.size:=(Array.getElem?_eq_some_iff.1 ho).1
  have:=C i (by simpa using hi)
  simp only [ho,cZ] at this
  have:=this.2
  rw [cT] at this
  have:=this e (by simpa using he)
  rw [hb] at this
  simpa using this
 ·intro p q i j o r d hp hq F ho hr hd
  have:=D p (by simpa using (aV.1 hp).1)
  simp only [hp,ho,Option.bind_some,Option.map_some,cZ] at this
  have:=this.1.2
  rw [cT] at this
  have:=this q (by simpa using (aV.1 hq).1)
  simp only [hq,hr,hd,Option.bind_some,Option.map_some,Bool.or_eq_true,cZ,beq_iff_eq,bne_iff_ne,ne_eq] at this
  rcases this with h|⟨M,B⟩
  ·exact absurd h F
  ·refine ⟨M,fun hm=>?_⟩
   rcases B with B|B
   ·simp [hm] at B
   ·by_cases A:q<p
    ·rw [if_pos A] at B; exact .inl ⟨A,B⟩
    ·rw [if_neg A] at B; exact .inr ⟨om,B⟩
 ·intro i j o r hi hj ho hr
  obtain ⟨p,hp⟩:=List.mem_iff_getElem?.1 hi
  have:=D p (by simpa using (aV.1 hp).1)
  simp only [hp,ho,Option.bind_some,Option.map_some,cZ] at this
  have:=this.2
  rw [cT] at this
  have:=this j hj
  simp only [hr,cZ,bne_iff_ne,ne_eq] at this
  refine ⟨this.1.1,fun d hd hm=>?_,fun d hd hm=>?_⟩
  ·have:=this.1.2
   simp [hd,hm] at this; exact this
  ·have:=this.2
   simp [hd,hm] at this; exact this
 ·intro p q i j hp hq A
  have:=L p (by simpa using (aV.1 hp).1)
  rw [cT] at this
  have:=this q (by simpa using A)
  simp only [hp,hq,cZ,bne_iff_ne,ne_eq] at this
  exact this
def NQ (K:Act→World→Prop):cq
 | .normal=>K
 |_=>fun _ _=>False
/-- the others, one behind the other; the part C' of the state stands throughout, the part C1 as long as the flags say -/
def TJ (E:dW) (ops:Array Oper) (D:eU) (C' C1:List au) (F:cG→List au→Prop):List Bool→List Oper→cG→List au→Prop
 |_,[],L,C=>F L C
 |bs,o::T,L,C=> ∀ K:Act→World→Prop,(∀ L' C'',(∀ w,St E.S E.w0 C'' w→St E.S E.w0 C' w)→(bs.headD false=true→ ∀ w,St E.S E.w0 C'' w→St E.S E.w0 C1 w)→TJ E ops D C' C1 F bs.tail T L' C''→KJ E K D L' C'')→RJ E ops (NQ K) [o] D L C
/-- the free ones: an early one (its flag) may read C1 -/
def lF (E:dW) (ops:Array Oper) (D:eU) (C' C1:List au) (F:cG→Prop):List Bool→List Oper→cG→Prop
 |_,[],L=>F L
 |bs,o::rest,L=> ∃ d v,o.dst=some d∧d<E.n∧SD E ops o D L (bif bs.headD false then C1 else C') v∧lF E ops D C' C1 F bs.tail rest ((d,v)::L)
theorem lF.out {E:dW} {ops:Array Oper} {D:eU} {C' C1:List au} {F:cG→Prop}: ∀ (bs:List Bool) (os:List Oper) (L:cG),lF E ops D C' C1 F bs os L→
 ∃ vs:List Value,vs.length=os.length∧F (sW os vs os.length L)∧ ∀ i o,os[i]? =some o→ ∃ d v,o.dst=some d∧d<E.n∧vs[i]? =some v∧SD E ops o D (sW os vs i L) (bif (bs[i]?).getD false then C1 else C') v:=by
 intro bs os
 induction os generalizing bs with
 |nil=>intro L h; exact ⟨[],rfl,by cases bs<;>exact h,fun i o ho=>by simp at ho⟩
 |cons o os ih=>
  intro L h
  have h': ∃ d v,o.dst=some d∧d<E.n∧SD E ops o D L (bif bs.headD false then C1 else C') v∧lF E ops D C' C1 F bs.tail os ((d,v)::L):=by cases bs<;>exact h
  obtain ⟨d,v,ho,hd,B,hk⟩:=h'
  obtain ⟨vs,hl,hF,A⟩:=ih _ _ hk
  refine ⟨v::vs,by simp [hl],by simpa [sW,ho] using hF,fun i o' ho'=>?_⟩
  cases i with
  |zero=>
   simp at ho'; subst ho'
   refine ⟨d,v,ho,hd,sm,?_⟩
   have e:(bs[0]?).getD false=bs.headD false:=by cases bs<;>rfl
   rw [e]; simpa [sW] using B
  |succ i=>
   obtain ⟨d',v',C,G,H,AA⟩:=A i o' (by simpa using ho')
   refine ⟨d',v',C,G,by simpa using H,?_⟩
   have e:(bs[i+1]?)=bs.tail[i]? :=by cases bs<;>simp
   rw [e]; simpa [sW,ho] using AA
theorem wG {E:dW} {ops:Array Oper} {o:Oper} (hsel: ∀ cs b,o.op≠ .select cs b) (hdef: ∀ c,o.op≠ .defer c) {a a':Act} (hl: ∀ t∈o.looksAt ops,a.tmps[t]? =a'.tmps[t]?) {w:World}
 {K N:Act→World→Prop} {Q:cq} (h:nv E.r E.P ops (NQ K) [o] a' w) (hK: ∀ b w',K b w'→b.defers=a'.defers) (hn: ∀ u w',K (a'.put o.dst u) w'→N (a.put o.dst u) w'):
 if Region.wanted o (yielded ops a.tmps) then o.wpIn (Fw E.r) 0 E.P a w N Q else (∀ f,o.about E.P w a.eval=some f→(Fw E.r).fn f)∧N (a.put o.dst undef) w:=by
 rw [nT hl]
 unfold nv at h
 by_cases hw:Region.wanted o (yielded ops a'.tmps)=true
 ·rw [if_pos hw] at h ⊢
  refine ⟨fun _ _=>trivial,?_⟩
  have A:=h.2
  rw [Oper.semAt_eq _ _ _ hdef] at A ⊢
  rw [execOp_congr (ρ:=a.eval) (ρ':=a'.eval) o hsel (qM hl)]
  generalize (execOp a'.eval o).run E.P w=res at A
  cases res with
  |halt x w'=>cases x<;>simp [Oper.uponIn,NQ] at A
  |ok x w'=>
   cases x with
   |value u=>exact hn u w' A
   |skip=>exact hn _ w' A
   |defer dd=>
    have B:=hK _ _ A
    have:=congrArg List.length B
    simp [Act.put] at this
    cases ho:o.dst<;>simp [ho] at this
   |enter f args=>
    refine ⟨A.1,A.2.mono fun e w'' he=>?_⟩
    cases e with
    |returned u=>exact hn u w'' he
    |panicked ch=>exact he.elim
    |outgrown=>obtain ⟨_,_,hF⟩:=he; exact hF.elim
   |row x args=>exact ⟨A.1,A.2.mono fun u w'' he=>hn u w'' he⟩
   |round l f tmps asl bd=>
    refine ⟨A.1,A.2.mono fun e w'' he=>?_⟩
    cases e with
    |returned u=>exact hn u w'' he
    |panicked ch=>exact he.elim
    |outgrown=>obtain ⟨_,_,hF⟩:=he; exact hF.elim
   |_=>simp [Oper.uponIn] at A
 ·rw [if_neg hw] at h ⊢
  exact ⟨fun _ _=>trivial,hn _ w h⟩
theorem Cq {E:dW} {id:Nat} {ops:Array Oper} {Q:cq} {D:eU} {L:cG} {C:List au} (hm:E.P.follows .mixedOrders=true) (free T:List Nat) (fe tb:List Bool) (C' C1:List au) (hc:CG ops free T fe tb=true)
 (hC: ∀ w,St E.S E.w0 C w→St E.S E.w0 C' w) (hC1: ∀ w,St E.S E.w0 C w→St E.S E.w0 C1 w)
 (h:lF E ops D C' C1 (fun L'=>TJ E ops D C' C1 (fun L C=>KJ E (Q .normal) D L C) tb (dv ops T) L' C) fe (dv ops free) L):WJ E (.region id ops true) Q D L C:=by
 obtain ⟨hc,Fn⟩:=AY hc
 have hc:=EW.of hc
 intro a0 w0 y Gd
 refine wpIn_region_any hm ?_
 have Go:St E.S E.w0 C ({w0 with drawn:=w0.drawn+1}:World):=Gd.same (cQ.drew no w0)
 obtain ⟨vs,HO,hF,g⟩:=lF.out _ _ _ h
 have Bs:=k9 hc.fl
 have A1: ∀ (p i:Nat) (o:Oper),free[p]? =some i→ops[i]? =some o→(dv ops free)[p]? =some o:=fun p i o hp ho=>by rw [jy hc.fl,hp]; exact ho
 have A0: ∀ (p:Nat) (o:Oper),(dv ops free)[p]? =some o→ ∃ i,free[p]? =some i∧ops[i]? =some o:=fun p o h=>by
  rw [jy hc.fl] at h
  cases hp:free[p]? with
  |none=>simp [hp] at h
  |some i=>exact ⟨i,rfl,by simpa [hp] using h⟩
 have A9: ∀ (j:Nat) (o:Oper) (d:Nat),(dv ops free)[j]? =some o→o.dst=some d→d<E.n:=fun j o d ho hd=>by
  obtain ⟨d',v,h1,h2,_⟩:=g j o ho
  rw [h1] at hd; cases hd; exact h2
 -- all is listed
 have done: ∀ (listed:Array Bool) (a:Act) (w:World) (k:Nat) (Lk:cG) (Ck:List au) (af:Act),(∀ i,i<ops.size→listed.getD i false=true)→
  (∀ m i,T[m]? =some i→(listed.getD i false=true↔m<k))→a.defers=D→a.tmps.size=E.n→
  TJ E ops D C' C1 (fun L C=>KJ E (Q .normal) D L C) (tb.drop k) (dv ops (T.drop k)) Lk Ck→Fr E.n D Lk af→St E.S E.w0 Ck w→
  (∀ t,(∀ (p i:Nat) (o:Oper),free[p]? =some i→ops[i]? =some o→o.dst≠some t)→af.tmps[t]? =a.tmps[t]?)→
  (∀ (p i:Nat) (o:Oper) (d:Nat),free[p]? =some i→ops[i]? =some o→o.dst=some d→af.tmps[d]? =vs[p]? ∧(listed.getD i false=true→a.tmps[d]? =vs[p]?))→Q .normal a w:=by
  intro listed a w k Lk Ck af C2 O hd hz hT N R G B
  have hk:T.drop k=[]:=by
   rw [List.drop_eq_nil_iff]
   rcases Nat.lt_or_ge k T.length with J|GD
   ·have hi:=(O k _ (eu J)).1 (C2 _ (hc.tl _ (List.getElem_mem J)))
    omega
   ·exact GD
  rw [hk] at hT
  have hT:KJ E (Q .normal) D Lk Ck:=by cases hb:tb.drop k<;>(rw [hb] at hT; exact hT)
  refine hT a w ⟨hd,hz,fun t v hv=>?_⟩ R
  rw [← N.at_ t v hv]
  by_cases hw: ∃ (p i:Nat) (o:Oper),free[p]? =some i∧ops[i]? =some o∧o.dst=some t
  ·obtain ⟨p,i,o,hp,ho,Ay⟩:=hw
   obtain ⟨e1,s⟩:=B p i o t hp ho Ay
   rw [e1,s (C2 i (hc.fl i (aG hp)))]
  ·exact (G t (fun p i o hp ho Ay=>hw ⟨p,i,o,hp,ho,Ay⟩)).symm
 have key: ∀ (fuel:Nat) (listed:Array Bool) (a:Act) (w:World) (k:Nat) (Lk:cG) (Ck:List au) (af:Act),listed.size=ops.size→(uE ops.size listed).length≤fuel→(∀ j,listed.getD j false=true→oF ops (fun k=>listed.getD k false=true) j)→
  (∀ m i,T[m]? =some i→(listed.getD i false=true↔m<k))→a.defers=D→a.tmps.size=E.n→
  TJ E ops D C' C1 (fun L C=>KJ E (Q .normal) D L C) (tb.drop k) (dv ops (T.drop k)) Lk Ck→Fr E.n D Lk af→St E.S E.w0 Ck w→(∀ w,St E.S E.w0 Ck w→St E.S E.w0 C' w)→(∀ (p i:Nat),free[p]? =some i→(fe[p]?).getD false=true→listed.getD i false=false→ ∀ w,St E.S E.w0 Ck w→St E.S E.w0 C1 w)→
  (∀ t,(∀ (p i:Nat) (o:Oper),free[p]? =some i→ops[i]? =some o→o.dst≠some t)→af.tmps[t]? =a.tmps[t]?)→
  (∀ t,(∀ (i:Nat) (o:Oper),listed.getD i false=true→ops[i]? =some o→o.dst≠some t)→a.tmps[t]? =a0.tmps[t]?)→
  (∀ (p i:Nat) (o:Oper) (d:Nat),free[p]? =some i→ops[i]? =some o→o.dst=some d→af.tmps[d]? =vs[p]? ∧(listed.getD i false=true→a.tmps[d]? =vs[p]?))→
  wpAnyIn (Fw E.r) 0 E.P .any ops Q fuel listed a w:=by
  intro fuel
  induction fuel with
  |zero=>
   intro listed a w k Lk Ck af z hu AR O hd hz hT N R A3 f G Y B
   have hall': ∀ i,i<ops.size→listed.getD i false=true:=fun i hi=>by
    cases hg:listed.getD i false with
    |true=>rfl
    |false=>
     have:=List.length_pos_of_mem (jY.2 ⟨hi,hg⟩)
     omega
   refine ⟨?_,done listed a w k Lk Ck af hall' O hd hz hT N R G B⟩
   rw [List.eq_nil_iff_forall_not_mem]
   intro i hi
   obtain ⟨h1,h2,_⟩:=iX z hi
   rw [hall' i h1] at h2; cases h2
  |succ fuel ih=>
   intro listed a w k Lk Ck af z hu AR O hd hz hT N R A3 f G Y B
   refine ⟨fun ER=>?_,fun i hi=>?_⟩
   ·refine done listed a w k Lk Ck af (fun i hi=>?_) O hd hz hT N R G B
    cases hg:listed.getD i false with
    |true=>rfl
    |false=>
     exfalso
     have Fs: ∃ i,i<ops.size∧listed.getD i false=false:=⟨i,hi,hg⟩
     obtain ⟨j,hj,EI⟩:=exists_least Fs
     have hr:j∈Region.ready .any ops listed:=n8 z hj.1 hj.2 (fun o e ho he hb=>by
      have h1:=hc.tP j o e ho he hb
      cases hg:listed.getD e.on false with
      |true=>exact hg
      |false=>exact absurd (EI e.on ⟨om,hg⟩) om)
     rw [ER] at hr; cases hr
   ·obtain ⟨B9,W,Di⟩:=iX z hi
    obtain ⟨o,ho⟩: ∃ o,ops[i]? =some o:=⟨ops[i],Array.getElem?_eq_getElem B9⟩
    obtain ⟨Bf,A8⟩:=hc.plain i o ho
    have F: ∀ j,(listed.setIfInBounds i true).getD j false=if j=i then true else listed.getD j false:=fun j=>lN om false
    have HL:=sP (n:=ops.size) (i:=i) (listed:=listed) om (jY.2 ⟨B9,W⟩)
    have hcl': ∀ j,(listed.setIfInBounds i true).getD j false=true→oF ops (fun k=>(listed.setIfInBounds i true).getD k false=true) j:=by
     intro j hj o' e ho' he hb
     show (listed.setIfInBounds i true).getD e.on false=true
     rw [F] at hj ⊢
     by_cases e1:e.on=i
     ·simp [e1]
     ·simp only [e1,if_false]
      by_cases s:j=i
      ·subst s; exact Di o' e ho' he hb
      ·simp only [s,if_false] at hj; exact AR j hj o' e ho' he hb
    have l: ∀ j,fu (mw ops) j i=true→listed.getD j false=true:=fun j hj=>fI (S:=fun k=>listed.getD k false=true) AR hj Di
    have A2: ∀ j,fu (mw ops) i j=true→listed.getD j false=false:=fun j hj=>by
     cases hg:listed.getD j false with
     |false=>rfl
     |true=>
      have:=fI (S:=fun k=>listed.getD k false=true) AR hj (AR j hg)
      rw [this] at W; cases W
    unfold wpOpIn
    simp only [ho]
    rcases hc.cover i B9 with X|X
    ·-- a free one
     obtain ⟨p,hp⟩:=List.mem_iff_getElem?.1 X
     obtain ⟨d,v,H,DA,HA,Gw⟩:=g p o (A1 p i o hp ho)
     have DN:=iu (dv ops free) vs p L a0 A9 y
     have c: ∀ t∈o.looksAt ops,a.tmps[t]? =(iI (dv ops free) vs p a0).tmps[t]? :=by
      intro t A6
      by_cases hw: ∃ (q j:Nat) (r:Oper),free[q]? =some j∧q≠p∧ops[j]? =some r∧r.dst=some t
      ·obtain ⟨q,j,r,hq,AB,hr,A⟩:=hw
       obtain ⟨d',v',e1,s,e3,_⟩:=g q r (A1 q j r hq hr)
       rw [A] at e1; cases e1
       have FN:=hc.apart p q i j o r t hp hq AB ho hr A
       rcases FN.2 A6 with ⟨J,ha⟩|⟨J,ha⟩
       ·rw [(B q j r t hq hr A).2 (l j ha),e3]
        refine (iE (dv ops free) vs p a0 q r t v' J (A1 q j r hq hr) A (by rw [y.size]; exact s) e3 (fun m u hm hne' hu=>?_)).symm
        obtain ⟨x,AA,V⟩:=A0 m u hu
        exact (hc.apart m q x j u r t AA hq (Ne.symm hne') V hr A).1
       ·have EQ:=A2 j ha
        refine (Y t (fun m u hm hu M=>?_)).trans (dV (dv ops free) vs p a0 t (fun m u hm hu M=>?_)).symm
        ·rcases hc.cover m (Array.getElem?_eq_some_iff.1 hu).1 with Cp|Ci
         ·obtain ⟨x,hx⟩:=List.mem_iff_getElem?.1 Cp
          by_cases e:x=q
          ·subst e; rw [hq] at hx; cases hx; rw [hm] at EQ; cases EQ
          ·exact (hc.apart x q m j u r t hx hq (Ne.symm e) hu hr A).1 M
         ·exact (hc.ft j m r u (aG hq) Ci hr hu).1 (by rw [M,A])
        ·obtain ⟨x,AA,V⟩:=A0 m u hu
         exact (hc.apart m q x j u r t AA hq om V hr A).1 M
      ·refine (Y t (fun m u hm hu M=>?_)).trans (dV (dv ops free) vs p a0 t (fun m u hm hu M=>?_)).symm
       ·rcases hc.cover m (Array.getElem?_eq_some_iff.1 hu).1 with Cp|Ci
        ·obtain ⟨x,hx⟩:=List.mem_iff_getElem?.1 Cp
         by_cases e:x=p
         ·subst e; rw [hp] at hx; cases hx; rw [hm] at W; cases W
         ·exact hw ⟨x,m,u,hx,e,hu,M⟩
        ·have:=A2 m ((hc.ft i m o u X Ci ho hu).2.1 t M A6)
         rw [hm] at this; cases this
       ·obtain ⟨x,AA,V⟩:=A0 m u hu
        exact hw ⟨m,x,u,AA,om,V,M⟩
     have E5: ∀ m j,T[m]? =some j→j≠i:=fun m j A5 e=>hc.Ak j (aG A5) (e▸X)
     have GE: ∀ w',cQ no w w'→wpAnyIn (Fw E.r) 0 E.P .any ops Q fuel (listed.setIfInBounds i true) (a.put (some d) v) w':=by
      intro w' hk
      refine ih _ _ w' k Lk Ck af (by simpa using z) om hcl' (fun m j A5=>?_) hd (by simp [Act.put,hz]) hT N (R.same hk) A3 (fun p' i' hp' hf' hl'=>f p' i' hp' hf' (by rw [F] at hl'; by_cases e:i'=i; (rw [if_pos e] at hl'; cases hl'); (rwa [if_neg e] at hl'))) (fun t ht=>?_) (fun t ht=>?_) (fun q j r d' hq hr A=>?_)
      ·rw [F,if_neg (E5 m j A5)]; exact O m j A5
      ·have AB:d≠t:=fun e=>ht p i o hp ho (by rw [H,e])
       simp only [Act.put]
       rw [Array.getElem?_setIfInBounds_ne AB]
       exact G t ht
      ·have AB:d≠t:=fun e=>ht i o (by rw [F]; simp) ho (by rw [H,e])
       simp only [Act.put]
       rw [Array.getElem?_setIfInBounds_ne AB]
       exact Y t (fun m u hm hu=>ht m u (by rw [F]; split<;>simp [hm]) hu)
      ·refine ⟨(B q j r d' hq hr A).1,fun hl=>?_⟩
       by_cases e:q=p
       ·subst e
        rw [hp] at hq; cases hq
        rw [ho] at hr; cases hr
        rw [H] at A; cases A
        simp only [Act.put]
        rw [Array.getElem?_setIfInBounds_self_of_lt (by rw [hz]; exact DA),HA]
       ·have AB:=(hc.apart p q i j o r d' hp hq e ho hr A).1
        simp only [Act.put]
        rw [Array.getElem?_setIfInBounds_ne (fun h=>AB (by rw [H,h]))]
        refine (B q j r d' hq hr A).2 ?_
        rw [F] at hl
        by_cases s:j=i
        ·subst s
         exact absurd (by rw [ho] at hr; cases hr; rw [H] at A ⊢; exact A) AB
        ·simpa [s] using hl
     refine nO Gw H DA Bf A8 DN c ?_ GE
     cases Bs:(fe[p]?).getD false with
     |true=>exact f p i hp Bs W w R
     |false=>exact A3 w R
    ·-- one of the others
     obtain ⟨m,hm'⟩:=List.mem_iff_getElem?.1 X
     have GT:m=k:=by
      have h1: ¬ m<k:=fun h=>by have:=(O m i hm').2 h; rw [this] at W; cases W
      rcases Nat.lt_or_ge k m with h2|h2
      ·have Do:k<T.length:=by have:=(aV.1 hm').1; omega
       have:=l _ (hc.chain m k i _ hm' (eu Do) h2).2
       have:=(O k _ (eu Do)).1 this
       omega
      ·omega
     subst GT
     have Bl:dv ops (T.drop m)=o::dv ops (T.drop (m+1)):=by
      have J:=(aV.1 hm').1
      have hx:T[m]=i:=(aV.1 hm').2
      rw [List.drop_eq_getElem_cons J,hx]
      simp [dv,ho]
     rw [Bl] at hT
     have FS:(tb.drop m).headD false=(tb[m]?).getD false:=by rw [List.headD_eq_head?_getD,List.head?_drop]
     have Fd:(tb.drop m).tail=tb.drop (m+1):=by simp
     have hT: ∀ K:Act→World→Prop,(∀ L' C'',(∀ w,St E.S E.w0 C'' w→St E.S E.w0 C' w)→((tb.drop m).headD false=true→ ∀ w,St E.S E.w0 C'' w→St E.S E.w0 C1 w)→TJ E ops D C' C1 (fun L C=>KJ E (Q .normal) D L C) (tb.drop m).tail (dv ops (T.drop (m+1))) L' C''→KJ E K D L' C'')→RJ E ops (NQ K) [o] D Lk Ck:=by
      cases hb:tb.drop m<;>(rw [hb] at hT; exact hT)
     rw [FS,Fd] at hT
     have c: ∀ t∈o.looksAt ops,a.tmps[t]? =af.tmps[t]? :=by
      intro t A6
      by_cases hw: ∃ (q j:Nat) (r:Oper),free[q]? =some j∧ops[j]? =some r∧r.dst=some t
      ·obtain ⟨q,j,r,hq,hr,A⟩:=hw
       have ha:=(hc.ft j i r o (aG hq) X hr ho).2.2 t A A6
       obtain ⟨e1,s⟩:=B q j r t hq hr A
       rw [e1,s (l j ha)]
      ·exact (G t (fun q j r hq hr A=>hw ⟨q,j,r,hq,hr,A⟩)).symm
     refine wG Bf A8 c (hT (fun af' w'=>af'.defers=D∧ ∃ L' C'',(∀ w,St E.S E.w0 C'' w→St E.S E.w0 C' w)∧((tb[m]?).getD false=true→ ∀ w,St E.S E.w0 C'' w→St E.S E.w0 C1 w)∧TJ E ops D C' C1 (fun L C=>KJ E (Q .normal) D L C) (tb.drop (m+1)) (dv ops (T.drop (m+1))) L' C''∧Fr E.n D L' af'∧St E.S E.w0 C'' w')
      (fun L' C'' h1 h1' h2 af' w' h3 h4=>⟨h3.defers,L',C'',h1,h1',h2,h3,h4⟩) af w N R) (fun b w' hb=>hb.1.trans N.defers.symm) ?_
     rintro u w' ⟨_,L',C'',h1,h1',h2,h3,h4⟩
     have Z: ∀ (b:Act) (t:Nat),o.dst≠some t→(b.put o.dst u).tmps[t]? =b.tmps[t]? :=fun b t AB=>by
      cases H:o.dst with
      |none=>rfl
      |some d=>simp only [Act.put]; rw [Array.getElem?_setIfInBounds_ne (fun e=>AB (by rw [H,e]))]
     have Cx: ∀ (b:Act),(b.put o.dst u).tmps.size=b.tmps.size:=fun b=>by cases o.dst<;>simp [Act.put]
     refine ih _ _ w' (m+1) L' C'' (af.put o.dst u) (by simpa using z) om hcl' (fun q j hq=>?_) (by cases o.dst<;>exact hd) (by rw [Cx]; exact hz) h2 h3 h4 h1 (fun p' i' hp' hf' hl'=>by
      rcases Fn p' m i' i hp' hm' hf' with h5|h5
      ·exact h1' h5
      ·have h6:=l i' h5
       rw [F] at hl'
       by_cases e:i'=i
       ·rw [if_pos e] at hl'; cases hl'
       ·rw [if_neg e,h6] at hl'; cases hl') (fun t ht=>?_) (fun t ht=>?_) (fun q j r d' hq hr A=>?_)
     ·rw [F]
      by_cases e:j=i
      ·subst e
       simp only [if_true,true_iff]
       rcases Nat.lt_trichotomy q m with h5|h5|h5
       ·omega
       ·omega
       ·exact absurd U (hc.chain q m j j hq hm' h5).1
      ·simp only [e,if_false]
       rw [O q j hq]
       constructor
       ·omega
       ·intro h5
        rcases Nat.lt_or_ge q m with h6|h6
        ·exact h6
        ·have:q=m:=by omega
         subst this; rw [hm'] at hq; cases hq; exact absurd rfl e
     ·by_cases H:o.dst=some t
      ·rw [H]
       simp only [Act.put]
       by_cases J:t<E.n
       ·rw [Array.getElem?_setIfInBounds_self_of_lt (by rw [N.size]; exact J),Array.getElem?_setIfInBounds_self_of_lt (by rw [hz]; exact J)]
       ·rw [Array.getElem?_eq_none (by rw [Array.size_setIfInBounds,N.size]; exact Nat.le_of_not_lt J),Array.getElem?_eq_none (by rw [Array.size_setIfInBounds,hz]; exact Nat.le_of_not_lt J)]
      ·rw [Z a t H,Z af t H]; exact G t ht
     ·rw [Z a t (ht i o (by rw [F]; simp) ho)]
      exact Y t (fun m' u' hm'' hu'=>ht m' u' (by rw [F]; split<;>simp [hm'']) hu')
     ·have AB:o.dst≠some d':=fun e=>(hc.ft j i r o (aG hq) X hr ho).1 (by rw [e,A])
      rw [Z a d' AB,Z af d' AB]
      refine ⟨(B q j r d' hq hr A).1,fun hl=>(B q j r d' hq hr A).2 ?_⟩
      rw [F] at hl
      have:j≠i:=fun e=>hc.Ak i X (e▸aG hq)
      simpa [this] using hl
 refine key ops.size (Array.replicate ops.size false) a0 _ 0 _ C (iI (dv ops free) vs (dv ops free).length a0) sm ?_ ?_ ?_ y.defers y.size (by simpa using hF) (iu _ vs _ L a0 A9 y) Go hC (fun _ _ _ _ _=>hC1) ?_ (fun _ _=>rfl) ?_
 ·unfold uE; exact Nat.le_trans (List.length_filter_le _ _) sm
 ·intro j hj
  simp only [Array.getD_eq_getD_getElem?,Array.getElem?_replicate] at hj
  split at hj<;>simp at hj
 ·intro m i _
  simp only [Array.getD_eq_getD_getElem?,Array.getElem?_replicate]
  split<;>simp
 ·intro t ht
  refine dV _ vs _ a0 t (fun m u _ hu M=>?_)
  obtain ⟨x,AA,V⟩:=A0 m u hu
  exact ht m x u AA V M
 ·intro p i o d hp ho H
  obtain ⟨d',v',e1,s,e3,_⟩:=g p o (A1 p i o hp ho)
  rw [H] at e1; cases e1
  refine ⟨?_,fun hl=>?_⟩
  ·rw [e3]
   refine iE _ vs _ a0 p o d v' (by rw [Bs]; exact (aV.1 hp).1) (A1 p i o hp ho) H (by rw [y.size]; exact s) e3 (fun m u hm AB hu=>?_)
   obtain ⟨x,AA,V⟩:=A0 m u hu
   exact (hc.apart m p x i u o d AA hp (Ne.symm AB) V ho H).1
  ·simp only [Array.getD_eq_getD_getElem?,Array.getElem?_replicate] at hl
   split at hl<;>simp at hl
theorem eJ {E:dW} {ops:Array Oper} {D:eU} {C' C1:List au} {F:cG→Prop} {bs:List Bool} {l:List Oper} {L:cG} (hl:l=[]) (h:F L):lF E ops D C' C1 F bs l L:=by subst hl; cases bs<;>exact h
theorem Hh {E:dW} {ops:Array Oper} {D:eU} {C' C1:List au} {F:cG→Prop} {bs:List Bool} {o:Oper} {l rest:List Oper} {L:cG} {v:Value} {d:Nat} (h:SD E ops o D L C' v) (hl:l=o::rest) (ho:o.dst=some d) (hd:Nat.blt d E.n=true) (k:lF E ops D C' C1 F bs rest ((d,v)::L)):
 lF E ops D C' C1 F (false::bs) l L:=by subst hl; exact ⟨d,v,ho,by rw [← Nat.blt_eq]; exact hd,h,k⟩
theorem G3 {E:dW} {ops:Array Oper} {D:eU} {C' C1:List au} {F:cG→Prop} {bs:List Bool} {o:Oper} {l rest:List Oper} {L:cG} {v:Value} {d:Nat} (h:SD E ops o D L C1 v) (hl:l=o::rest) (ho:o.dst=some d) (hd:Nat.blt d E.n=true) (k:lF E ops D C' C1 F bs rest ((d,v)::L)):
 lF E ops D C' C1 F (true::bs) l L:=by subst hl; exact ⟨d,v,ho,by rw [← Nat.blt_eq]; exact hd,h,k⟩
theorem fx {E:dW} {ops:Array Oper} {D:eU} {C' C1:List au} {F:cG→List au→Prop} {bs:List Bool} {l:List Oper} {L:cG} {C:List au} (hl:l=[]) (h:F L C):TJ E ops D C' C1 F bs l L C:=by subst hl; cases bs<;>exact h
theorem bU {E:dW} {ops:Array Oper} {D:eU} {C' C1:List au} {F:cG→List au→Prop} {bs:List Bool} {l T:List Oper} {o:Oper} {L:cG} {C:List au} (hl:l=o::T)
 (h: ∀ K:Act→World→Prop,(∀ L' C'',(∀ w,St E.S E.w0 C'' w→St E.S E.w0 C' w)→TJ E ops D C' C1 F bs T L' C''→KJ E K D L' C'')→RJ E ops (NQ K) [o] D L C):TJ E ops D C' C1 F (false::bs) l L C:=by
 subst hl; exact fun K hK=>h K fun L' C'' A B=>hK L' C'' A (fun h=>by cases h) B
theorem BD {E:dW} {ops:Array Oper} {D:eU} {C' C1:List au} {F:cG→List au→Prop} {bs:List Bool} {l T:List Oper} {o:Oper} {L:cG} {C:List au} (hl:l=o::T)
 (h: ∀ K:Act→World→Prop,(∀ L' C'',(∀ w,St E.S E.w0 C'' w→St E.S E.w0 C' w)→(∀ w,St E.S E.w0 C'' w→St E.S E.w0 C1 w)→TJ E ops D C' C1 F bs T L' C''→KJ E K D L' C'')→RJ E ops (NQ K) [o] D L C):TJ E ops D C' C1 F (true::bs) l L C:=by
 subst hl; exact fun K hK=>h K fun L' C'' A G B=>hK L' C'' A (fun _=>G) B
theorem TJ.sub {E:dW} {ops:Array Oper} {Q:cq} {D:eU} {C' C1 C:List au}: ∀ {bs:List Bool} {T:List Oper} {L L':cG},cL L L'→TJ E ops D C' C1 (fun L C=>KJ E (Q .normal) D L C) bs T L' C→TJ E ops D C' C1 (fun L C=>KJ E (Q .normal) D L C) bs T L C:=by
 intro bs T
 cases T with
 |nil=>intro L L' hs h; cases bs<;>exact j9 hs (fun _ h=>h) h
 |cons o T=>intro L L' hs h; cases bs<;>exact fun K hK=>Dq hs (fun _ h=>h) (h K hK)
theorem lF.mono {E:dW} {ops:Array Oper} {D:eU} {C' C1:List au} {F:cG→Prop} (hF: ∀ L L',cL L L'→F L'→F L): ∀ {bs:List Bool} {os:List Oper} {L L':cG},cL L L'→lF E ops D C' C1 F bs os L'→lF E ops D C' C1 F bs os L:=by
 intro bs os
 induction os generalizing bs with
 |nil=>intro L L' hs h; cases bs<;>exact hF _ _ hs h
 |cons o os ih=>
  intro L L' hs h
  have h': ∃ d v,o.dst=some d∧d<E.n∧SD E ops o D L' (bif bs.headD false then C1 else C') v∧lF E ops D C' C1 F bs.tail os ((d,v)::L'):=by cases bs<;>exact h
  obtain ⟨d,v,ho,hd,A,hk⟩:=h'
  have B: ∃ d v,o.dst=some d∧d<E.n∧SD E ops o D L (bif bs.headD false then C1 else C') v∧lF E ops D C' C1 F bs.tail os ((d,v)::L):=⟨d,v,ho,hd,A.sub hs,ih (hs.head d v) hk⟩
  cases bs<;>exact B
theorem Bw {E:dW} {ops:Array Oper} {Q:cq} {D:eU} {C' C1 C:List au} {bs ts:List Bool} {T os:List Oper} {L:cG} {t:Nat} {b:Bool} (h:L.lookup t=some (.bool b))
 (h1:b=true→lF E ops D C' C1 (fun L'=>TJ E ops D C' C1 (fun L C=>KJ E (Q .normal) D L C) ts T L' C) bs os ((t,.bool true)::L)) (h2:b=false→lF E ops D C' C1 (fun L'=>TJ E ops D C' C1 (fun L C=>KJ E (Q .normal) D L C) ts T L' C) bs os ((t,.bool false)::L)):
 lF E ops D C' C1 (fun L'=>TJ E ops D C' C1 (fun L C=>KJ E (Q .normal) D L C) ts T L' C) bs os L:=by
 have A: ∀ v:Bool,b=v→cL L ((t,.bool v)::L):=fun v hv=>cL.cons (hv▸h) (fun _ _ h=>h)
 cases b
 ·exact lF.mono (fun _ _=>TJ.sub) (A _ U) (h2 U)
 ·exact lF.mono (fun _ _=>TJ.sub) (A _ U) (h1 U)
end
section
open Go.ChangeShapes Go.WideShapes Go.ChangeAt Go.RowKit
/-- whatever reads at a type has these cells, and this is so of memory -/
def mT (P:Program) (t:TypeId) (α:Type) (cells:α→List Value) (R:World→α→Prop):Prop:=
 ∀ {H:Type} (enc:TypeId×Value→H) (w:World) (base:Nat) (sp:Nat→Bool) (held:Bool) (fuel:Nat) (cs:List Value) (x:DataW H×List MemPlace),
  DataW.trod enc P w base sp held fuel t cs=some x→ ∃ s:α,cs=cells s∧R w s
theorem z6 {P:Program} {t:TypeId} {k:IntKind} (ht:P.underlying t=some (.int k)):mT P t Int (fun n=>[.int k n]) (fun _ n=>k.min≤n∧n≤k.max):=fun {H} enc w base sp A fuel cs x h=>by
 obtain ⟨n,rfl,_,hw⟩:=DataW.trod_int ht h
 refine ⟨n,U,?_⟩
 simpa [Lit.wf] using hw
theorem En {P:Program} {t:TypeId} (ht:P.underlying t=some (.int .i64)):mT P t Int iC (fun _ n=>lQ n):=z6 ht
theorem FC {P:Program} {t:TypeId} (ht:P.underlying t=some (.int .u8)):mT P t Int zd (fun _ n=>0≤n∧n≤255):=z6 ht
theorem BV {P:Program} {t:TypeId} (ht:P.underlying t=some .bool):mT P t Bool (fun n=>[.bool n]) (fun _ _=>True):=fun {H} enc w base sp A fuel cs x h=>by
 obtain ⟨n,rfl,_⟩:=DataW.trod_bool ht h
 exact ⟨n,U,trivial⟩
theorem fU {H:Type} {enc:TypeId×Value→H} {P:Program} {w:World} {base:Nat} {sp:Nat→Bool} {held:Bool} {fuel t:Nat} {cs:List Value} {x:DataW H×List MemPlace} {l:List (Nat×Nat)} (hl:fL P t=some l)
 (h:DataW.trod enc P w base sp held fuel t cs=some x):cs.length=P.cellsOf t∧ ∀ (i ft off:Nat),l[i]? =some (ft,off)→ ∃ n y,DataW.trod enc P w base sp held n ft ((cs.drop off).take (P.cellsOf ft))=some y:=by
 unfold fL at hl
 cases hu:P.underlying t with
 |none=>simp [hu] at hl
 |some d=>
  cases d<;>simp [hu] at hl
  rename_i fs
  obtain ⟨xs,n,_,_,B,F,hf⟩:=DataW.trod_struct hu h
  refine ⟨B,fun i ft off hi=>?_⟩
  have E:=hl.2
  subst E
  simp only [gD,Option.map_eq_some_iff] at hi
  obtain ⟨f,C,A⟩:=hi
  simp only [Prod.mk.injEq] at A
  obtain ⟨rfl,rfl⟩:=A
  have hfi':fs[i]? =some f:=by simpa using C
  have D:i<xs.length:=by rw [F]; exact (Array.getElem?_eq_some_iff.1 hfi').1
  exact ⟨n,xs[i],by rw [hf i f hfi',eu D]⟩
theorem eK {cs a:List Value} {o n m:Nat} (hl:cs.length=m) (hm:o+n=m) (h:(cs.drop o).take n=a):cs.drop o=a:=by
 rwa [List.take_of_length_le (by rw [List.length_drop]; omega)] at h
theorem bN {cs a b:List Value} {o n m:Nat} (h:(cs.drop o).take n=a) (hm:o+n=m) (hb:cs.drop m=b):cs.drop o=a++b:=by
 rw [← h,← hb,← hm,← List.drop_drop,List.take_append_drop]
theorem ja {P:Program} {t e sz:Nat} {α:Type} {cells:α→List Value} {R:World→α→Prop} (ht:P.underlying t=some (.slice e)) (hc:P.cellsOf e=sz) (he:mT P e α cells R):
 mT P t aJ (fun s=>[.slice s.a s.n s.c]) (fun w s=> ∃ l:List α,s.n=l.length∧(rd s.a l.length sz (l.map cells)).holds w∧(∀ x∈l,R w x)∧l.length≤maxLen∧s.n≤s.c):=fun {H} enc w base sp B fuel cs x h=>by
 rcases Go.Deep.open_slice ht h with ⟨rfl,_⟩|⟨a,len,cap,m,n,D,Pl,rfl,hb,hl,hm,N,hx,hi⟩
 ·exact ⟨⟨none,0,0⟩,U,[],U,⟨U,sm,fun h=>by simp at h⟩,sm,Nat.zero_le _,Nat.le_refl _⟩
 ·rw [hc] at hi
  have Q:len≤m:=by rw [N]; split<;>omega
  have J: ∀ k:Nat,k≤len→ ∃ l:List α,l.length=k∧(∀ x∈l,R w x)∧ ∀ (i:Nat) (x:α),l[i]? =some x→(cells x).length=sz∧ ∀ (j:Nat) v,(cells x)[j]? =some v→w.cell? (a.add (i*sz+j))=some v:=by
   intro k
   induction k with
   |zero=>exact fun _=>⟨[],rfl,sm,sm⟩
   |succ k ih=>
    intro hk
    obtain ⟨l,C,F,E⟩:=ih om
    obtain ⟨cs',AA,O⟩:=hi k om
    obtain ⟨_,A,G⟩:=World.cells?_some AA
    obtain ⟨s,rfl,hR⟩:=he enc w base sp B n cs' _ O
    refine ⟨l++[s],by simp [C],fun x hx=>?_,fun i x hx=>?_⟩
    ·rcases e9.1 hx with hx|hx
     ·exact F x hx
     ·simp at hx; subst hx; exact hR
    ·by_cases L:i<l.length
     ·rw [List.getElem?_append_left L] at hx; exact E i x hx
     ·have K:i=k:=by
       have:=(aV.1 hx).1
       simp at this; omega
      subst K
      rw [List.getElem?_append_right om,C] at hx
      simp at hx; subst hx
      refine ⟨A,fun j v hj=>?_⟩
      have M:j<sz:=by rw [← A]; exact (aV.1 hj).1
      rw [← lv,G j M,hj]
  obtain ⟨l,C,F,E⟩:=J len (Nat.le_refl _)
  refine ⟨⟨some a,len,cap⟩,U,l,C.symm,⟨sm,fun e he'=>?_,fun _=>⟨a,U,fun i e' j v hi' hj=>?_⟩⟩,F,om,hl⟩
  ·obtain ⟨x,hx,rfl⟩:=cy.1 he'
   obtain ⟨i,hi'⟩:=List.getElem?_of_mem hx
   exact (E i x hi').1
  ·rw [gD] at hi'
   obtain ⟨x,hx,rfl⟩:=Option.map_eq_some_iff.1 hi'
   exact (E i x hx).2 j v hj
theorem mW {H:Type} {enc:TypeId×Value→H} {P:Program} {w:World} {base:Nat} {sp:Nat→Bool} {held:Bool} {r:Reach} {b0:Nat} {t:TypeId} {l:List (Nat×Nat)} {v:Value} {d:DataW H} {p:List MemPlace} {α:Type} {cells:α→List Value} {R:World→α→Prop}
 (hl:fL P t=some l) (ho:mT P t α cells R) (hv:Value.okWide P w r b0 t v) (h:DataW.Trod enc P w base sp held t v d p): ∃ s,v= .agg (cells s).toArray∧R w s:=by
 unfold fL at hl
 cases hu:P.underlying t with
 |none=>simp [hu] at hl
 |some d=>
  cases d<;>simp [hu] at hl
  rename_i fs
  obtain ⟨cs,rfl,A⟩:=okWide_struct hu hv
  obtain ⟨fuel,hf⟩:=h
  obtain ⟨s,hc,hR⟩:=ho enc w base sp held fuel _ _ hf
  refine ⟨s,?_,hR⟩
  simp only [Value.cells] at hc
  rw [← hc]
theorem Ce {H:Type} {enc:TypeId×Value→H} {P:Program} {w:World} {base:Nat} {sp:Nat→Bool} {held:Bool} {r:Reach} {b0:Nat} {t:TypeId} {k:IntKind} {v:Value} {d:DataW H} {p:List MemPlace}
 (ht:P.underlying t=some (.int k)) (hv:Value.okWide P w r b0 t v) (h:DataW.Trod enc P w base sp held t v d p): ∃ n,v= .int k n∧k.min≤n∧n≤k.max:=by
 obtain ⟨n,rfl,_,_,hw⟩:=open_int ht hv h
 refine ⟨n,U,?_⟩
 simpa [Lit.wf] using hw
theorem rL {H:Type} {enc:TypeId×Value→H} {P:Program} {w:World} {base:Nat} {sp:Nat→Bool} {held:Bool} {r:Reach} {b0:Nat} {t e:TypeId} {v:Value} {d:DataW H} {p:List MemPlace} {R:World→aJ→Prop}
 (ho:mT P t aJ (fun s=>[.slice s.a s.n s.c]) R) (ht:P.underlying t=some (.slice e)) (hv:Value.okWide P w r b0 t v) (h:DataW.Trod enc P w base sp held t v d p): ∃ s:aJ,v= .slice s.a s.n s.c∧R w s:=by
 obtain ⟨a,n,c,rfl⟩:=okWide_slice ht hv
 obtain ⟨fuel,hf⟩:=h
 obtain ⟨s,hc,hR⟩:=ho enc w base sp held fuel _ _ hf
 simp only [Value.cells] at hc
 have:vS a n c= .slice s.a s.n s.c:=by simpa using hc
 exact ⟨s,this,hR⟩
section
variable {H:Type} {enc:TypeId×Value→H} {P:Program}
theorem mO (hl:laidOutB P=true) {W W':World} {sp:Nat→Bool} (hb:Below W.heap.size W W'): ∀ (ts:List TypeId) (vs:List Value) (ds:List (DataW H)) (ps:List MemPlace),(ts.all fun t=>P.readableRec t&&decide (t<P.types.size))=true→
 DataW.TrodAll enc P W 0 (fun _=>true) true ts vs ds ps→(∀ x∈ps,x.block<W.heap.size)→(∀ x∈ps,sp x.block=true)→DataW.TrodAll enc P W' 0 sp true ts vs ds ps
 |[],[],[],ps,_,h,_,_=>h
 |t::ts,v::vs,d::ds,ps,ha,h,hlt,hsp=>by
  obtain ⟨p,q,A,B,rfl⟩:=h
  simp only [js,cZ,decide_eq_true_eq] at ha
  refine ⟨p,q,?_,mO hl hb ts vs ds q ha.2 B (fun x hx=>hlt x (List.mem_append_right _ hx)) (fun x hx=>hsp x (List.mem_append_right _ hx)),U⟩
  exact WideElems.Trod_stays hl ha.1.1 ha.1.2 A (fun x hx=>hb.same (hlt x (List.mem_append_left _ hx))) (fun x hx=>hsp x (List.mem_append_left _ hx))
 |[],[],_::_,_,_,h,_,_=>h.elim
 |[],_::_,_,_,_,h,_,_=>h.elim
 |_::_,[],_,_,_,h,_,_=>h.elim
 |_::_,_::_,[],_,_,h,_,_=>h.elim
/-- a law that said true and kept all that was there has answered its row -/
theorem yY {f:Func} {s:ChangeSpec} {apart fresh handsOn:Bool} {W W':World} {args:Array Value} {ds:List (DataW H)} {p:List MemPlace} {bt:TypeId} (hl:laidOutB P=true)
 (hW:DataW.Whole enc P f.params.toList s.vars apart W args.toList ds [] p) (hA:DataW.TrodAll enc P W 0 (fun _=>true) true f.params.toList args.toList ds p)
 (hv:s.vars=[]) (hs:s.fn H (ds++[])={results:=[.lit (.bool true)],args:=ds}) (hr:(f.params.toList.all fun t=>P.readableRec t&&decide (t<P.types.size))=true)
 (hb:Below W.heap.size W W') (ht:f.resultTypes= #[bt]) (hu:P.underlying bt=some .bool):s.post enc P f apart fresh handsOn false W args (.bool true) W':=by
 have A: ∀ x∈p,x.block<W.heap.size:=fun x hx=>hW.lt x hx
 refine ⟨ds,[],p,[],p,[],hW,?_,?_,?_,World.keptBut_mono (fun x hx=>⟨hx,.inr (.inl hx)⟩) (hb.frame (· ∈p)),fun h=>by cases h⟩
 ·rw [hs,ht]; exact trodAll_mk1 (shut_bool hu _)
 ·rw [hs]; exact mO hl hb _ _ _ _ hr hA A (fun x hx=>by simpa using A x hx)
 ·rw [hs,hv]; rfl
end
end
section
@[ext] structure ag where
 ic:aJ
 deriving DecidableEq
def ag.cells (s:ag):List Value:=[vS s.ic.a s.ic.n s.ic.c]
theorem ag.aq (s:ag):s.cells.length=1:=rfl
@[ext] structure I where
 Lo:Int
 Hi:Int
 deriving DecidableEq
def I.cells (s:I):List Value:=vI s.Lo::([vI s.Hi])
theorem I.aq (s:I):s.cells.length=2:=rfl
@[ext] structure ae where
 ax:Int
 hG:I
 deriving DecidableEq
def ae.cells (s:ae):List Value:=vI s.ax::(I.cells s.hG)
theorem ae.aq (s:ae):s.cells.length=3:=rfl
@[ext] structure aW where
 ak:ag
 aA:aJ
 bk:aJ
 bM:ae
 bP:Int
 deriving DecidableEq
def aW.cells (s:aW):List Value:=ag.cells s.ak++(vS s.aA.a s.aA.n s.aA.c::(vS s.bk.a s.bk.n s.bk.c::(ae.cells s.bM++([vI s.bP]))))
theorem aW.aq (s:aW):s.cells.length=7:=rfl
@[ext] structure dL where
 Guard:aW
 times:aJ
 deriving DecidableEq
def dL.cells (s:dL):List Value:=aW.cells s.Guard++([vS s.times.a s.times.n s.times.c])
theorem dL.aq (s:dL):s.cells.length=8:=rfl
structure fJ where
 Gd:Value
def fJ.cells (s:fJ):List Value:=[s.Gd]
theorem fJ.aq (s:fJ):s.cells.length=1:=rfl
@[ext] structure bL where
 Class:Int
 Start:I
 sU:I
 lG:I
 Weight:I
 ly:I
 deriving DecidableEq
def bL.cells (s:bL):List Value:=Value.int .u8 s.Class::(I.cells s.Start++(I.cells s.sU++(I.cells s.lG++(I.cells s.Weight++(I.cells s.ly)))))
theorem bL.aq (s:bL):s.cells.length=11:=rfl
@[ext] structure dI where
 Ib:bL
 tY:ag
 best:Bool
 deriving DecidableEq
def dI.cells (s:dI):List Value:=bL.cells s.Ib++(ag.cells s.tY++([vB s.best]))
theorem dI.aq (s:dI):s.cells.length=13:=rfl
@[ext] structure ab where
 Id:Int
 di:I
 dA:I
 cg:I
 ct:Int
 kF:Int
 deriving DecidableEq
def ab.cells (s:ab):List Value:=vI s.Id::(I.cells s.di++(I.cells s.dA++(I.cells s.cg++(Value.int .u8 s.ct::([vI s.kF])))))
theorem ab.aq (s:ab):s.cells.length=9:=rfl
@[ext] structure bj where
 Kind:Int
 cc:Int
 To:Int
 cM:I
 deriving DecidableEq
def bj.cells (s:bj):List Value:=Value.int .u8 s.Kind::(vI s.cc::(vI s.To::(I.cells s.cM)))
theorem bj.aq (s:bj):s.cells.length=5:=rfl
@[ext] structure aj where
 Id:Int
 Kind:Int
 de:ae
 j7:Int
 nd:Int
 deriving DecidableEq
def aj.cells (s:aj):List Value:=vI s.Id::(Value.int .u8 s.Kind::(ae.cells s.de++(vI s.j7::([vI s.nd]))))
theorem aj.aq (s:aj):s.cells.length=7:=rfl
@[ext] structure cH where
 ax:Int
 Kind:Int
 g_:Int
 deriving DecidableEq
def cH.cells (s:cH):List Value:=vI s.ax::(Value.int .u8 s.Kind::([vI s.g_]))
theorem cH.aq (s:cH):s.cells.length=3:=rfl
@[ext] structure fy where
 ak:ag
 nx:Int
 dy:aJ
 ck:aJ
 kU:Int
 nE:Int
 lj:Int
 deriving DecidableEq
def fy.cells (s:fy):List Value:=ag.cells s.ak++(vI s.nx::(vS s.dy.a s.dy.n s.dy.c::(vS s.ck.a s.ck.n s.ck.c::(vI s.kU::(vI s.nE::([vI s.lj]))))))
theorem fy.aq (s:fy):s.cells.length=7:=rfl
@[ext] structure dU where
 de:ae
 pI:Int
 deriving DecidableEq
def dU.cells (s:dU):List Value:=ae.cells s.de++([vI s.pI])
theorem dU.aq (s:dU):s.cells.length=4:=rfl
@[ext] structure e_ where
 gp:Int
 bO:aJ
 deriving DecidableEq
def e_.cells (s:e_):List Value:=vI s.gp::([vS s.bO.a s.bO.n s.bO.c])
theorem e_.aq (s:e_):s.cells.length=2:=rfl
@[ext] structure dN where
 At:Int
 fX:I
 deriving DecidableEq
def dN.cells (s:dN):List Value:=vI s.At::(I.cells s.fX)
theorem dN.aq (s:dN):s.cells.length=3:=rfl
@[ext] structure bV where
 ak:ag
 cr:aJ
 bu:aJ
 dC:I
 cS:I
 eZ:Int
 ep:Int
 gb:Int
 deriving DecidableEq
def bV.cells (s:bV):List Value:=ag.cells s.ak++(vS s.cr.a s.cr.n s.cr.c::(vS s.bu.a s.bu.n s.bu.c::(I.cells s.dC++(I.cells s.cS++(vI s.eZ::(vI s.ep::([vI s.gb])))))))
theorem bV.aq (s:bV):s.cells.length=10:=rfl
@[ext] structure bG where
 lH:I
 v_:Int
 deriving DecidableEq
def bG.cells (s:bG):List Value:=I.cells s.lH++([vI s.v_])
theorem bG.aq (s:bG):s.cells.length=3:=rfl
@[ext] structure aZ where
 kx:I
 o7:Int
 o2:Int
 l7:Bool
 deriving DecidableEq
def aZ.cells (s:aZ):List Value:=I.cells s.kx++(vI s.o7::(vI s.o2::([vB s.l7])))
theorem aZ.aq (s:aZ):s.cells.length=5:=rfl
@[ext] structure kG where
 uZ:aJ
 deriving DecidableEq
def kG.cells (s:kG):List Value:=[vS s.uZ.a s.uZ.n s.uZ.c]
theorem kG.aq (s:kG):s.cells.length=1:=rfl
@[ext] structure gX where
 AR:aJ
 FN:Int
 gb:Int
 E5:Int
 sw:aJ
 si:aJ
 DN:Int
 Ho:Bool
 deriving DecidableEq
def gX.cells (s:gX):List Value:=vS s.AR.a s.AR.n s.AR.c::(vI s.FN::(vI s.gb::(vI s.E5::(vS s.sw.a s.sw.n s.sw.c::(vS s.si.a s.si.n s.si.c::(vI s.DN::([vB s.Ho])))))))
theorem gX.aq (s:gX):s.cells.length=8:=rfl
@[ext] structure vO where
 HA:Int
 Shown:Int
 deriving DecidableEq
def vO.cells (s:vO):List Value:=vI s.HA::([vI s.Shown])
theorem vO.aq (s:vO):s.cells.length=2:=rfl
@[ext] structure eX where
 Id:Int
 Step:Int
 Iq:I
 hG:I
 uW:aJ
 deriving DecidableEq
def eX.cells (s:eX):List Value:=vI s.Id::(vI s.Step::(I.cells s.Iq++(I.cells s.hG++([vS s.uW.a s.uW.n s.uW.c]))))
theorem eX.aq (s:eX):s.cells.length=7:=rfl
structure jo where
 JJ:kG
 ER:Value
def jo.cells (s:jo):List Value:=kG.cells s.JJ++([s.ER])
theorem jo.aq (s:jo):s.cells.length=2:=rfl
@[ext] structure iM where
 Gw:bV
 deriving DecidableEq
def iM.cells (s:iM):List Value:=bV.cells s.Gw
theorem iM.aq (s:iM):s.cells.length=10:=rfl
@[ext] structure cO where
 ak:ag
 deriving DecidableEq
def cO.cells (s:cO):List Value:=ag.cells s.ak
theorem cO.aq (s:cO):s.cells.length=1:=rfl
structure il where
 Gd:Value
def il.cells (s:il):List Value:=[s.Gd]
theorem il.aq (s:il):s.cells.length=1:=rfl
structure fF where
 Gd:Value
def fF.cells (s:fF):List Value:=[s.Gd]
theorem fF.aq (s:fF):s.cells.length=1:=rfl
structure eE where
 so:Value
def eE.cells (s:eE):List Value:=[s.so]
theorem eE.aq (s:eE):s.cells.length=1:=rfl
structure Bz where
 JQ:Int
 Read:Int
 deriving DecidableEq
structure bK where
 gp:Int
 bO:List dN
 deriving DecidableEq
def bK.cells (m:bK) (a:OA×Nat):List Value:=e_.cells ⟨m.gp,⟨a.1,m.bO.length,a.2⟩⟩
def bK.Bf (m:bK) (a:OA×Nat):List au:=[rd a.1 m.bO.length 3 (m.bO.map dN.cells)]
def bK.owns (m:bK) (a:OA×Nat):List au:=[own a.1 a.2 113 3 (m.bO.map dN.cells)]
structure dk where
 ak:List ab
 nx:Int
 dy:List bK
 ck:List dU
 kU:Int
 nE:Int
 lj:Int
 deriving DecidableEq
structure JE where
 Start:Int
 JY:Int
 HO:List Bz
 deriving DecidableEq
abbrev yE (l:dk) (kA:Option Addr) (kC:Nat) (cA:Option Addr) (cC:Nat) (bA:Option Addr) (bC:Nat):fy:=fy.mk (ag.mk (aJ.mk kA l.ak.length kC)) l.nx (aJ.mk cA l.dy.length cC) (aJ.mk bA l.ck.length bC) l.kU l.nE l.lj
end
section
open Go.RowKit
structure Dk (es:Array MapEntry) (c:Nat) (m:List (Int×Value)):Prop where
 list:es.toList.map (fun e=>(e.key,e.val))=m.map (fun p=>(vI p.1,p.2))
 keys:(m.map (·.1)).Nodup
 Fs: ∀ e∈es.toList,e.born<c
 born:(es.toList.map (·.born)).Nodup
theorem Dk.nil:Dk #[] 0 []:=⟨rfl,List.nodup_nil,sm,List.nodup_nil⟩
theorem xL {P:Program} {w:World} {kt:Nat} {x:Int} (hk:P.underlying kt=some (.int .i64)) (e:Bool):(Instr.checkKey e 10000 kt (.int .i64 x)).run P w= .ok () w:=by
 exact MapKept.run_checkKey hk (show MapKept.IsKey (.int .i64) (.int .i64 x) from U) e 9999
section
variable {E:dW} {ops:Array Oper} {Q:cq} {rest:List Oper} {D:List Deferred} {L:List (Nat×Value)} {C:List au}
variable {dst:Option Tmp} {d:Nat} {ty:TypeId} {ps:String} {af:Array Edge} {g:Option (Nat×Bool)}
theorem mq {w:World} {b:Nat} (o:Obj):cQ (only b) w {w with heap:=w.heap.setIfInBounds b o}:=
 ⟨rfl,rfl,rfl,sm,fun k hk hn=>by simp only [only] at hn; exact Array.getElem?_setIfInBounds_ne (fun e=>hn e.symm)⟩
theorem ob {w:World} {b:Nat} {o o':Obj} (h:w.heap[b]? =some o):({w with heap:=w.heap.setIfInBounds b o'}:World).heap[b]? =some o':=by
 have:=(Array.getElem?_eq_some_iff.1 h).1
 simp [Array.getElem?_setIfInBounds_self_of_lt this]
def tV (P:Program) (t:TypeId):Option Value:=(P.info? t).bind (·.zero)
theorem Fi {P:Program} {t:TypeId} {z:Value} (h:tV P t=some z) (w:World):(zeroValue t).run P w= .ok z w:=by
 unfold tV at h
 cases hi:P.info? t with
 |none=>simp [hi] at h
 |some i=>simp only [hi,Option.bind_some] at h; simp [zeroValue,typeInfo,hi,h]
end
theorem cz.JR {P:Program} {f:FuncId} {args:List Value} {Cp:List au} {α:Type} {V:α→Value} {p:α→Prop} {N:α→List au} (x:α) (h:cz P f args Cp (V x)) (hp:p x) (hN: ∀ w,∀ A∈N x,A.holds w∧ ∀ b,¬ A.dG b):lx P f args Cp V p N:=
 ⟨h.go,fun w hw=>(h.run w hw).mono fun e w' ⟨he,hk⟩=>⟨x,he,hp,hk,fun A hA=>(hN w' A hA).1,fun A hA b hb=>absurd hb ((hN w' A hA).2 b),d_.2 fun i j hi hj B b hb=>absurd hb ((hN w' _ (List.getElem_mem hi)).2 b)⟩⟩
theorem AJ {e sz:Nat} (w:World): ∀ A∈[own none 0 e sz []],A.holds w∧ ∀ b,¬ A.dG b:=fun A hA=>by
 simp at hA; subst hA
 exact ⟨nW _ _ _,fun b ⟨ad,B,_⟩=>by cases B⟩
theorem aQ {C:List au} {a:OA} {c e sz n:Nat} {es:List (List Value)} (i:Nat) (hC:C[i]? =some (own a c e sz es)) (hn:es.length=n):iK C (rd a n sz es).holds:=hn▸wD i hC
abbrev iV:Int→Value:=Value.int .i64
end
section
def aF (s:I) (lo hi:Int):Prop:=s.Lo≤s.Hi∧lo≤s.Lo∧s.Hi≤hi
instance (s:I) (lo hi:Int):Decidable (aF s lo hi):=by unfold aF; infer_instance
def a_ (x:ab):Prop:=(0≤x.Id∧x.Id≤9999)∧aF x.di 1 30000∧aF x.dA 0 5000∧(0≤x.kF∧x.kF≤5000)∧
 (x.ct=0∧x.cg.Lo=0∧x.cg.Hi=0∨(x.ct=1∨x.ct=2)∧aF x.cg 500 20000)
instance (x:ab):Decidable (a_ x):=by unfold a_; infer_instance
def cW:Int→List ab→Bool
 |_,[]=>true
 |last,x::xs=>decide (last<x.Id∧a_ x)&&cW x.Id xs
def a9 (ts:List ab):Bool:=decide (1≤(ts.length:Int)∧(ts.length:Int)≤12)&&cW (-1) ts
theorem yl {α:Type} {l:List α} {i:Nat} {x:α} (h:l[i]? =some x):l.drop i=x::l.drop (i+1):=by
 obtain ⟨A,rfl⟩:=aV.1 h
 exact List.drop_eq_getElem_cons A
theorem ma {ts:List ab} {i:Nat} {x:ab} (last:Int) (h:ts[i]? =some x):cW last (ts.drop i)=(decide (last<x.Id∧a_ x)&&cW x.Id (ts.drop (i+1))):=by
 rw [yl h]; rfl
def eD {α:Type} (p:α→Bool) (l:List α):Int:=if l.any p then (l.findIdx p:Nat) else-1
theorem jH {α:Type} {p:α→Bool} {l:List α} {i:Nat} {x:α} (h:l[i]? =some x) (hp:p x=true) (h0:(l.take i).any p=false):eD p l=i:=by
 obtain ⟨A,rfl⟩:=aV.1 h
 have ha:l.any p=true:=List.any_eq_true.2 ⟨_,List.getElem_mem A,hp⟩
 have hi:l.findIdx p=i:=by
  rw [List.findIdx_eq A]
  refine ⟨hp,fun j hj=>?_⟩
  have:=List.any_eq_false.1 h0 l[j] (by rw [List.mem_take_iff_getElem]; exact ⟨j,om,rfl⟩)
  simpa using this
 simp [eD,ha,hi]
theorem hH {α:Type} {p:α→Bool} {l:List α} {i:Nat} (hi:l.length≤i) (h0:(l.take i).any p=false):eD p l= -1:=by
 rw [List.take_of_length_le hi] at h0
 simp [eD,h0]
theorem lY {α:Type} {p:α→Bool} {l:List α} {i:Nat} {x:α} (h:l[i]? =some x) (h0:(l.take i).any p=false) (hp:p x=false):(l.take (i+1)).any p=false:=by
 rw [List.take_add_one,h]; simp [h0,hp]
theorem kB {α:Type} {p:α→Bool} {l:List α}:decide (0≤eD p l)=l.any p:=by
 unfold eD; cases l.any p<;>simp
def jZ (lo hi:Int) (l:List Int):Bool:= !(l.any fun u=>decide (u<lo∨hi<u))
theorem bR {lo hi a:Int}:vB (jZ lo hi [a])=vB (decide (lo≤a∧a≤hi)):=by
 refine congrArg _ ?_
 rw [Bool.eq_iff_iff]; simp [jZ]
theorem kq {lo hi a b:Int}:vB (jZ lo hi [a,b])=vB (decide ((lo≤a∧a≤hi)∧lo≤b∧b≤hi)):=by
 refine congrArg _ ?_
 rw [Bool.eq_iff_iff]; simp [jZ]
def rZ (lo hi:Int) (l:List I):Bool:=l.all fun s=>decide (s.Lo≤s.Hi∧lo≤s.Lo∧s.Hi≤hi)
theorem iW {lo hi:Int} {a:I}:vB (rZ lo hi [a])=vB (decide (a.Lo≤a.Hi∧lo≤a.Lo∧a.Hi≤hi)):=by simp [rZ]
theorem zp {α:Type} {p:α→Bool} {l:List α} {i:Nat} {x:α} (h:l[i]? =some x) (h0:(l.take i).all p=true) (hp:p x=true):(l.take (i+1)).all p=true:=by
 rw [List.take_add_one,h]; simp [h0,hp]
theorem zn {α:Type} {p:α→Bool} {l:List α} {i:Nat} {x:α} (h:l[i]? =some x) (hp:p x=false):l.all p=false:=by
 rw [List.all_eq_false]; exact ⟨x,aG h,by simp [hp]⟩
theorem wA {α:Type} {p:α→Bool} {l:List α} {i:Nat} (hi:l.length≤i) (h0:(l.take i).all p=true):l.all p=true:=by
 rwa [List.take_of_length_le hi] at h0
def eh (ts:List ab) (i:Nat):Int:=if i=0 then-1 else ((ts[i-1]?).map (·.Id)).getD 0
theorem tr {ts:List ab} {i:Nat} (h:i=0):eh ts i= -1:=by simp [eh,h]
theorem uT {ts:List ab} {i:Nat} {y:ab} (h:0<i) (hy:ts[i-1]? =some y):eh ts i=y.Id:=by
 simp [eh,hy]; omega
theorem eg {ts:List ab} {i:Nat} {y:ab} (hy:ts[i]? =some y):eh ts (i+1)=y.Id:=by simp [eh,hy]
theorem j3 {ts:List ab} (h: ¬ (1≤(ts.length:Int)∧(ts.length:Int)≤12)):a9 ts=false:=by
 simp only [a9,aD h,Bool.false_and]
theorem cP {ts:List ab} {i:Nat} {x:ab} (h:cW (-1) ts=cW (eh ts i) (ts.drop i)) (hx:ts[i]? =some x) (hn: ¬ (eh ts i<x.Id∧a_ x)):a9 ts=false:=by
 rw [a9,h,ma _ hx,aD hn]; simp
theorem oY {ts:List ab} {i:Nat} (h:cW (-1) ts=cW (eh ts i) (ts.drop i)) (hi:ts.length≤i) (hl:1≤(ts.length:Int)∧(ts.length:Int)≤12):a9 ts=true:=by
 rw [a9,h,List.drop_eq_nil_of_le hi,bY hl]; rfl
theorem eG {ts:List ab} {i:Nat} {x:ab} (h:cW (-1) ts=cW (eh ts i) (ts.drop i)) (hx:ts[i]? =some x) (hn:eh ts i<x.Id∧a_ x):cW (-1) ts=cW (eh ts (i+1)) (ts.drop (i+1)):=by
 rw [h,ma _ hx,bY hn,eg hx]; rfl
theorem qv {α:Type} {a b:List α} {i:Nat} {x y:α} (hx:a[i]? =some x) (hy:b[i]? =some y) (h: ¬ x=y): ¬ a=b:=by
 rintro rfl; rw [hx] at hy; exact h (Option.some.inj hy)
theorem qH {α:Type} {a b:List α} {i:Nat} (hl:a.length=b.length) (ht:a.take i=b.take i) (hi:a.length≤i):a=b:=by
 rwa [List.take_of_length_le hi,List.take_of_length_le om] at ht
theorem wX {α:Type} {a b:List α} {i:Nat} {x y:α} (ht:a.take i=b.take i) (hx:a[i]? =some x) (hy:b[i]? =some y) (h:x=y):a.take (i+1)=b.take (i+1):=by
 rw [List.take_add_one,List.take_add_one,ht,hx,hy,h]
theorem mN: ∀ {ts:List ab} {last:Int},cW last ts=true→ ∀ x∈ts,a_ x
 |[],_,_,x,hx=>by cases hx
 |y::ts,last,h,x,hx=>by
  simp only [cW,cZ,decide_eq_true_eq] at h
  rcases bZ.1 hx with rfl|hx
  ·exact h.1.2
  ·exact mN h.2 x hx
theorem bT {ts:List ab} (h:a9 ts=true): ∀ x∈ts,a_ x:=by
 simp only [a9,cZ] at h
 exact mN h.2
theorem cw {ts:List ab} (h:a9 ts=true):ts.length≤12:=by
 simp only [a9,cZ,decide_eq_true_eq] at h
 omega
theorem l4 {ts:List ab} (h:a9 ts=true):1≤ts.length:=by
 simp only [a9,cZ,decide_eq_true_eq] at h
 omega
end
section
open Go.RowKit
def Be (m:Array Nat) (ops:Array Oper) (free T:List Nat):Bool:=
 (free.all (Nat.blt · ops.size))&&(T.all (Nat.blt · ops.size))&&((List.range ops.size).all fun i=>free.contains i||T.contains i)&&(T.all fun i=> !free.contains i)&&
 ((List.range ops.size).all fun i=>match ops[i]? with
  |none=>false
  |some o=>mA o&&o.after.toList.all fun e=> !Region.binds .any e||Nat.blt e.on i)&&
 ((List.range free.length).all fun p=>match (free[p]?).bind fun i=>(ops[i]?).map fun o=>(i,o) with
  |none=>false
  |some (i,o)=>o.dst.isSome&&
   ((List.range free.length).all fun q=>q==p||match (free[q]?).bind fun j=>(ops[j]?).map fun o=>(j,o) with
    |none=>false
    |some (j,r)=>match r.dst with
     |none=>false
     |some d=>o.dst != some d&&(!(o.looksAt ops).contains d||(if q<p then fu m j i else fu m i j)))&&
   (T.all fun j=>match ops[j]? with
    |none=>false
    |some r=>r.dst != o.dst&&(match r.dst with |none=>true|some d=> !(o.looksAt ops).contains d||fu m i j)&&(match o.dst with |none=>true|some d=> !(r.looksAt ops).contains d||fu m i j)))&&
 ((List.range T.length).all fun p=>(List.range p).all fun q=>match T[p]?,T[q]? with
  |some i,some j=>i != j
  |_,_=>false)
def Bb (m:Array Nat) (ops:Array Oper) (free T:List Nat) (fe:List Bool) (tb:List Nat):Bool:=
 Be m ops free T&&(T.all fun j=>tb.contains j||(List.range free.length).all fun p=> !(fe[p]?).getD false||match free[p]? with
  |some i=>fu m i j
  |_=>false)
def vN (ops:Array Oper) (free T:List Nat) (fe:List Bool) (tb:List Nat):Bool:=Bb (mw ops) ops free T fe tb
def Ef (ops:Array Oper) (free T:List Nat):Bool:=Be (mw ops) ops free T
theorem AT {ops:Array Oper} {free T:List Nat} {fe:List Bool} {tb:List Nat} (h:vN ops free T fe tb=true):Ef ops free T=true∧ ∀ (p i j:Nat),free[p]? =some i→j∈T→(fe[p]?).getD false=true→tb.contains j=true∨fu (mw ops) i j=true:=by
 simp only [vN,Bb,cZ] at h
 refine ⟨h.1,fun p i j hp hj hf=>?_⟩
 have B:=h.2
 rw [cT] at B
 have A:=B j hj
 rw [Bool.or_eq_true] at A
 rcases A with A|A
 ·exact .inl A
 ·rw [cT] at A
  have C:=A p (by simpa using (aV.1 hp).1)
  simp only [hp,hf,Bool.not_true,Bool.false_or] at C
  exact .inr C
structure EG (ops:Array Oper) (free T:List Nat):Prop where
 fl: ∀ i∈free,i<ops.size
 tl: ∀ i∈T,i<ops.size
 cover: ∀ i,i<ops.size→i∈free∨i∈T
 Ak: ∀ i∈T,i ∉ free
 plain: ∀ (i:Nat) (o:Oper),ops[i]? =some o→(∀ cs b,o.op≠ .select cs b)∧(∀ c,o.op≠ .defer c)
 tP: ∀ (i:Nat) (o:Oper) (e:Edge),ops[i]? =some o→e∈o.after→Region.binds .any e=true→e.on<i
 apart: ∀ (p q i j:Nat) (o r:Oper) (d:Nat),free[p]? =some i→free[q]? =some j→q≠p→ops[i]? =some o→ops[j]? =some r→r.dst=some d→o.dst≠some d∧(d∈o.looksAt ops→(q<p∧fu (mw ops) j i=true)∨(p<q∧fu (mw ops) i j=true))
 ft: ∀ (i j:Nat) (o r:Oper),i∈free→j∈T→ops[i]? =some o→ops[j]? =some r→r.dst≠o.dst∧(∀ d,r.dst=some d→d∈o.looksAt ops→fu (mw ops) i j=true)∧(∀ d,o.dst=some d→d∈r.looksAt ops→fu (mw ops) i j=true)
 nodup:T.Nodup
theorem EG.of {ops:Array Oper} {free T:List Nat} (h:Ef ops free T=true):EG ops free T:=by
 simp only [Ef,Be,cZ] at h
 obtain ⟨⟨⟨⟨⟨⟨H,AA⟩,J⟩,K⟩,C⟩,D⟩,L⟩:=h
 rw [cT] at H AA J K C D L
 have E: ∀ i∈free,i<ops.size:=fun i hi=>by have:=H i hi; rwa [Nat.blt_eq] at this
 have G: ∀ i∈T,i<ops.size:=fun i hi=>by have:=AA i hi; rwa [Nat.blt_eq] at this
 refine ⟨E,G,fun i hi=>?_,fun i hi=>?_,fun i o ho=>?_,fun i o e ho he hb=>?_,?_,?_,?_⟩
 ·have:=J i (by simpa using hi)
  simpa using this
 ·have:=K i hi
  simpa using this
 ·have hi:i<ops.size:=(Array.getElem?_eq_some_iff.1 ho).1
  have:=C i (by simpa using hi)
  simp only [ho,cZ] at this
  have:=this.1
  refine ⟨fun cs b hh=>?_,fun c hh=>?_⟩<;>simp [mA,hh] at this
 ·have hi:i<ops.size:=(Array.getElem?_eq_some_iff.1 ho).1
  have:=C i (by simpa using hi)
  simp only [ho,cZ] at this
  have:=this.2
  rw [cT] at this
  have:=this e (by simpa using he)
  rw [hb] at this
  simpa using this
 ·intro p q i j o r d hp hq F ho hr hd
  have:=D p (by simpa using (aV.1 hp).1)
  simp only [hp,ho,Option.bind_some,Option.map_some,cZ] at this
  have:=this.1.2
  rw [cT] at this
  have:=this q (by simpa using (aV.1 hq).1)
  simp only [hq,hr,hd,Option.bind_some,Option.map_some,Bool.or_eq_true,cZ,beq_iff_eq,bne_iff_ne,ne_eq] at this
  rcases this with h|⟨M,B⟩
  ·exact absurd h F
  ·refine ⟨M,fun hm=>?_⟩
   rcases B with B|B
   ·simp [hm] at B
   ·by_cases A:q<p
    ·rw [if_pos A] at B; exact .inl ⟨A,B⟩
    ·rw [if_neg A] at B; exact .inr ⟨om,B⟩
 ·intro i j o r hi hj ho hr
  obtain ⟨p,hp⟩:=List.mem_iff_getElem?.1 hi
  have:=D p (by simpa using (aV.1 hp).1)
  simp only [hp,ho,Option.bind_some,Option.map_some,cZ] at this
  have:=this.2
  rw [cT] at this
  have:=this j hj
  simp only [hr,cZ,bne_iff_ne,ne_eq] at this
  refine ⟨this.1.1,fun d hd hm=>?_,fun d hd hm=>?_⟩
  ·have:=this.1.2
   simp [hd,hm] at this; exact this
  ·have:=this.2
   simp [hd,hm] at this; exact this
 ·rw [List.nodup_iff_pairwise_ne,d_]
  intro q p hq hp A
  have:=L p (by simpa using hp)
  rw [cT] at this
  have:=this q (by simpa using A)
  simp only [eu hp,eu hq,bne_iff_ne,ne_eq] at this
  exact fun e=>this e.symm
/-- the others, in whatever order the edges leave open; the part C' of the state stands throughout, the part C1 where the list tb says -/
def TN (E:dW) (ops:Array Oper) (D:eU) (C' C1:List au) (F:cG→List au→Prop) (tb:List Nat):Nat→List Nat→cG→List au→Prop
 |0,_,L,C=>F L C
 |n+1,rem,L,C=> ∀ i∈rem.filter (fun i=>rem.all fun j=> !fu (mw ops) j i),∀ o,ops[i]? =some o→ ∀ K:Act→World→Prop,(∀ L' C'',(∀ w,St E.S E.w0 C'' w→St E.S E.w0 C' w)→(tb.contains i=true→ ∀ w,St E.S E.w0 C'' w→St E.S E.w0 C1 w)→TN E ops D C' C1 F tb n (rem.filter (· != i)) L' C''→KJ E K D L' C'')→RJ E ops (NQ K) [o] D L C
theorem mH {E:dW} {id:Nat} {ops:Array Oper} {Q:cq} {D:eU} {L:cG} {C:List au} (hm:E.P.follows .mixedOrders=true) (free T:List Nat) (fe:List Bool) (tb:List Nat) (C' C1:List au) (hc:vN ops free T fe tb=true)
 (hC: ∀ w,St E.S E.w0 C w→St E.S E.w0 C' w) (hC1: ∀ w,St E.S E.w0 C w→St E.S E.w0 C1 w)
 (h:lF E ops D C' C1 (fun L'=>TN E ops D C' C1 (fun L C=>KJ E (Q .normal) D L C) tb T.length T L' C) fe (dv ops free) L):WJ E (.region id ops true) Q D L C:=by
 obtain ⟨hc,FS⟩:=AT hc
 have hc:=EG.of hc
 intro a0 w0 z Fs
 refine wpIn_region_any hm ?_
 have GD:St E.S E.w0 C ({w0 with drawn:=w0.drawn+1}:World):=Fs.same (cQ.drew no w0)
 obtain ⟨vs,Gw,hF,l⟩:=lF.out _ _ _ h
 have Bs:=k9 hc.fl
 have A1: ∀ (p i:Nat) (o:Oper),free[p]? =some i→ops[i]? =some o→(dv ops free)[p]? =some o:=fun p i o hp ho=>by rw [jy hc.fl,hp]; exact ho
 have A0: ∀ (p:Nat) (o:Oper),(dv ops free)[p]? =some o→ ∃ i,free[p]? =some i∧ops[i]? =some o:=fun p o h=>by
  rw [jy hc.fl] at h
  cases hp:free[p]? with
  |none=>simp [hp] at h
  |some i=>exact ⟨i,rfl,by simpa [hp] using h⟩
 have Bf: ∀ (j:Nat) (o:Oper) (d:Nat),(dv ops free)[j]? =some o→o.dst=some d→d<E.n:=fun j o d ho hd=>by
  obtain ⟨d',v,h1,h2,_⟩:=l j o ho
  rw [h1] at hd; cases hd; exact h2
 -- all is listed
 have done: ∀ (listed:Array Bool) (a:Act) (w:World) (rem:List Nat) (Lk:cG) (Ck:List au) (af:Act),(∀ i,i<ops.size→listed.getD i false=true)→
  (∀ i∈T,(listed.getD i false=true↔i ∉ rem))→(∀ i∈rem,i∈T)→rem.Nodup→a.defers=D→a.tmps.size=E.n→
  TN E ops D C' C1 (fun L C=>KJ E (Q .normal) D L C) tb rem.length rem Lk Ck→Fr E.n D Lk af→St E.S E.w0 Ck w→
  (∀ t,(∀ (p i:Nat) (o:Oper),free[p]? =some i→ops[i]? =some o→o.dst≠some t)→af.tmps[t]? =a.tmps[t]?)→
  (∀ (p i:Nat) (o:Oper) (d:Nat),free[p]? =some i→ops[i]? =some o→o.dst=some d→af.tmps[d]? =vs[p]? ∧(listed.getD i false=true→a.tmps[d]? =vs[p]?))→Q .normal a w:=by
  intro listed a w rem Lk Ck af DA M O f hd hz hT K R G B
  have hk:rem=[]:=by
   rw [List.eq_nil_iff_forall_not_mem]
   intro i hi
   exact (M i (O i hi)).1 (DA i (hc.tl i (O i hi))) hi
  subst hk
  have hT:KJ E (Q .normal) D Lk Ck:=hT
  refine hT a w ⟨hd,hz,fun t v hv=>?_⟩ R
  rw [← K.at_ t v hv]
  by_cases hw: ∃ (p i:Nat) (o:Oper),free[p]? =some i∧ops[i]? =some o∧o.dst=some t
  ·obtain ⟨p,i,o,hp,ho,Ay⟩:=hw
   obtain ⟨e1,y⟩:=B p i o t hp ho Ay
   rw [e1,y (DA i (hc.fl i (aG hp)))]
  ·exact (G t (fun p i o hp ho Ay=>hw ⟨p,i,o,hp,ho,Ay⟩)).symm
 have key: ∀ (fuel:Nat) (listed:Array Bool) (a:Act) (w:World) (rem:List Nat) (Lk:cG) (Ck:List au) (af:Act),listed.size=ops.size→(uE ops.size listed).length≤fuel→(∀ j,listed.getD j false=true→oF ops (fun k=>listed.getD k false=true) j)→
  (∀ i∈T,(listed.getD i false=true↔i ∉ rem))→(∀ i∈rem,i∈T)→rem.Nodup→a.defers=D→a.tmps.size=E.n→
  TN E ops D C' C1 (fun L C=>KJ E (Q .normal) D L C) tb rem.length rem Lk Ck→Fr E.n D Lk af→St E.S E.w0 Ck w→(∀ w,St E.S E.w0 Ck w→St E.S E.w0 C' w)→(∀ (p i:Nat),free[p]? =some i→(fe[p]?).getD false=true→listed.getD i false=false→ ∀ w,St E.S E.w0 Ck w→St E.S E.w0 C1 w)→
  (∀ t,(∀ (p i:Nat) (o:Oper),free[p]? =some i→ops[i]? =some o→o.dst≠some t)→af.tmps[t]? =a.tmps[t]?)→
  (∀ t,(∀ (i:Nat) (o:Oper),listed.getD i false=true→ops[i]? =some o→o.dst≠some t)→a.tmps[t]? =a0.tmps[t]?)→
  (∀ (p i:Nat) (o:Oper) (d:Nat),free[p]? =some i→ops[i]? =some o→o.dst=some d→af.tmps[d]? =vs[p]? ∧(listed.getD i false=true→a.tmps[d]? =vs[p]?))→
  wpAnyIn (Fw E.r) 0 E.P .any ops Q fuel listed a w:=by
  intro fuel
  induction fuel with
  |zero=>
   intro listed a w rem Lk Ck af AC hu AR M O f hd hz hT K R A4 g G X B
   have hall': ∀ i,i<ops.size→listed.getD i false=true:=fun i hi=>by
    cases hg:listed.getD i false with
    |true=>rfl
    |false=>
     have:=List.length_pos_of_mem (jY.2 ⟨hi,hg⟩)
     omega
   refine ⟨?_,done listed a w rem Lk Ck af hall' M O f hd hz hT K R G B⟩
   rw [List.eq_nil_iff_forall_not_mem]
   intro i hi
   obtain ⟨h1,h2,_⟩:=iX AC hi
   rw [hall' i h1] at h2; cases h2
  |succ fuel ih=>
   intro listed a w rem Lk Ck af AC hu AR M O f hd hz hT K R A4 g G X B
   refine ⟨fun EQ=>?_,fun i hi=>?_⟩
   ·refine done listed a w rem Lk Ck af (fun i hi=>?_) M O f hd hz hT K R G B
    cases hg:listed.getD i false with
    |true=>rfl
    |false=>
     exfalso
     have Fd: ∃ i,i<ops.size∧listed.getD i false=false:=⟨i,hi,hg⟩
     obtain ⟨j,hj,A2⟩:=exists_least Fd
     have hr:j∈Region.ready .any ops listed:=n8 AC hj.1 hj.2 (fun o e ho he hb=>by
      have h1:=hc.tP j o e ho he hb
      cases hg:listed.getD e.on false with
      |true=>exact hg
      |false=>exact absurd (A2 e.on ⟨om,hg⟩) om)
     rw [EQ] at hr; cases hr
   ·obtain ⟨B9,W,Do⟩:=iX AC hi
    obtain ⟨o,ho⟩: ∃ o,ops[i]? =some o:=⟨ops[i],Array.getElem?_eq_getElem B9⟩
    obtain ⟨Bl,A9⟩:=hc.plain i o ho
    have F: ∀ j,(listed.setIfInBounds i true).getD j false=if j=i then true else listed.getD j false:=fun j=>lN om false
    have Go:=sP (n:=ops.size) (i:=i) (listed:=listed) om (jY.2 ⟨B9,W⟩)
    have hcl': ∀ j,(listed.setIfInBounds i true).getD j false=true→oF ops (fun k=>(listed.setIfInBounds i true).getD k false=true) j:=by
     intro j hj o' e ho' he hb
     show (listed.setIfInBounds i true).getD e.on false=true
     rw [F] at hj ⊢
     by_cases e1:e.on=i
     ·simp [e1]
     ·simp only [e1,if_false]
      by_cases y:j=i
      ·subst y; exact Do o' e ho' he hb
      ·simp only [y,if_false] at hj; exact AR j hj o' e ho' he hb
    have s: ∀ j,fu (mw ops) j i=true→listed.getD j false=true:=fun j hj=>fI (S:=fun k=>listed.getD k false=true) AR hj Do
    have A3: ∀ j,fu (mw ops) i j=true→listed.getD j false=false:=fun j hj=>by
     cases hg:listed.getD j false with
     |false=>rfl
     |true=>
      have:=fI (S:=fun k=>listed.getD k false=true) AR hj (AR j hg)
      rw [this] at W; cases W
    unfold wpOpIn
    simp only [ho]
    rcases hc.cover i B9 with N|N
    ·-- a free one
     obtain ⟨p,hp⟩:=List.mem_iff_getElem?.1 N
     obtain ⟨d,v,H,DN,GT,GE⟩:=l p o (A1 p i o hp ho)
     have Di:=iu (dv ops free) vs p L a0 Bf z
     have Z: ∀ t∈o.looksAt ops,a.tmps[t]? =(iI (dv ops free) vs p a0).tmps[t]? :=by
      intro t A6
      by_cases hw: ∃ (q j:Nat) (r:Oper),free[q]? =some j∧q≠p∧ops[j]? =some r∧r.dst=some t
      ·obtain ⟨q,j,r,hq,AB,hr,A⟩:=hw
       obtain ⟨d',v',e1,y,e3,_⟩:=l q r (A1 q j r hq hr)
       rw [A] at e1; cases e1
       have FN:=hc.apart p q i j o r t hp hq AB ho hr A
       rcases FN.2 A6 with ⟨c,ha⟩|⟨c,ha⟩
       ·rw [(B q j r t hq hr A).2 (s j ha),e3]
        refine (iE (dv ops free) vs p a0 q r t v' c (A1 q j r hq hr) A (by rw [z.size]; exact y) e3 (fun m u hm hne' hu=>?_)).symm
        obtain ⟨x,AA,V⟩:=A0 m u hu
        exact (hc.apart m q x j u r t AA hq (Ne.symm hne') V hr A).1
       ·have EI:=A3 j ha
        refine (X t (fun m u hm hu J=>?_)).trans (dV (dv ops free) vs p a0 t (fun m u hm hu J=>?_)).symm
        ·rcases hc.cover m (Array.getElem?_eq_some_iff.1 hu).1 with Cx|Cp
         ·obtain ⟨x,hx⟩:=List.mem_iff_getElem?.1 Cx
          by_cases e:x=q
          ·subst e; rw [hq] at hx; cases hx; rw [hm] at EI; cases EI
          ·exact (hc.apart x q m j u r t hx hq (Ne.symm e) hu hr A).1 J
         ·exact (hc.ft j m r u (aG hq) Cp hr hu).1 (by rw [J,A])
        ·obtain ⟨x,AA,V⟩:=A0 m u hu
         exact (hc.apart m q x j u r t AA hq om V hr A).1 J
      ·refine (X t (fun m u hm hu J=>?_)).trans (dV (dv ops free) vs p a0 t (fun m u hm hu J=>?_)).symm
       ·rcases hc.cover m (Array.getElem?_eq_some_iff.1 hu).1 with Cx|Cp
        ·obtain ⟨x,hx⟩:=List.mem_iff_getElem?.1 Cx
         by_cases e:x=p
         ·subst e; rw [hp] at hx; cases hx; rw [hm] at W; cases W
         ·exact hw ⟨x,m,u,hx,e,hu,J⟩
        ·have:=A3 m ((hc.ft i m o u N Cp ho hu).2.1 t J A6)
         rw [hm] at this; cases this
       ·obtain ⟨x,AA,V⟩:=A0 m u hu
        exact hw ⟨m,x,u,AA,om,V,J⟩
     have E5: ∀ j∈T,j≠i:=fun j A5 e=>hc.Ak j A5 (e▸N)
     have Fn: ∀ w',cQ no w w'→wpAnyIn (Fw E.r) 0 E.P .any ops Q fuel (listed.setIfInBounds i true) (a.put (some d) v) w':=by
      intro w' hk
      refine ih _ _ w' rem Lk Ck af (by simpa using AC) om hcl' (fun j A5=>?_) O f hd (by simp [Act.put,hz]) hT K (R.same hk) A4 (fun p' i' hp' hf' hl'=>g p' i' hp' hf' (by rw [F] at hl'; by_cases e:i'=i; (rw [if_pos e] at hl'; cases hl'); (rwa [if_neg e] at hl'))) (fun t ht=>?_) (fun t ht=>?_) (fun q j r d' hq hr A=>?_)
      ·rw [F,if_neg (E5 j A5)]; exact M j A5
      ·have AB:d≠t:=fun e=>ht p i o hp ho (by rw [H,e])
       simp only [Act.put]
       rw [Array.getElem?_setIfInBounds_ne AB]
       exact G t ht
      ·have AB:d≠t:=fun e=>ht i o (by rw [F]; simp) ho (by rw [H,e])
       simp only [Act.put]
       rw [Array.getElem?_setIfInBounds_ne AB]
       exact X t (fun m u hm hu=>ht m u (by rw [F]; split<;>simp [hm]) hu)
      ·refine ⟨(B q j r d' hq hr A).1,fun hl=>?_⟩
       by_cases e:q=p
       ·subst e
        rw [hp] at hq; cases hq
        rw [ho] at hr; cases hr
        rw [H] at A; cases A
        simp only [Act.put]
        rw [Array.getElem?_setIfInBounds_self_of_lt (by rw [hz]; exact DN),GT]
       ·have AB:=(hc.apart p q i j o r d' hp hq e ho hr A).1
        simp only [Act.put]
        rw [Array.getElem?_setIfInBounds_ne (fun h=>AB (by rw [H,h]))]
        refine (B q j r d' hq hr A).2 ?_
        rw [F] at hl
        by_cases y:j=i
        ·subst y
         exact absurd (by rw [ho] at hr; cases hr; rw [H] at A ⊢; exact A) AB
        ·simpa [y] using hl
     refine nO GE H DN Bl A9 Di Z ?_ Fn
     cases Bs:(fe[p]?).getD false with
     |true=>exact g p i hp Bs W w R
     |false=>exact A4 w R
    ·-- one of the others
     have Ci:i∈rem:=by
      rcases Classical.em (i∈rem) with h|h
      ·exact h
      ·have:=(M i N).2 h; rw [this] at W; cases W
     have A2:i∈rem.filter (fun i=>rem.all fun j=> !fu (mw ops) j i):=by
      rw [List.mem_filter]
      refine ⟨Ci,cT.2 fun j hj=>?_⟩
      cases hab:fu (mw ops) j i with
      |false=>rfl
      |true=>exact absurd hj ((M j (O j hj)).1 (s j hab))
     obtain ⟨nr,ER⟩: ∃ nr,rem.length=nr+1:=⟨rem.length-1,by have:=List.length_pos_of_mem Ci; omega⟩
     have hnr':(rem.filter (· != i)).length=nr:=by
      have:=f.erase_eq_filter i
      rw [← this,List.length_erase_of_mem Ci,ER]; rfl
     rw [ER] at hT
     have hT:=hT i A2 o ho
     have Z: ∀ t∈o.looksAt ops,a.tmps[t]? =af.tmps[t]? :=by
      intro t A6
      by_cases hw: ∃ (q j:Nat) (r:Oper),free[q]? =some j∧ops[j]? =some r∧r.dst=some t
      ·obtain ⟨q,j,r,hq,hr,A⟩:=hw
       have ha:=(hc.ft j i r o (aG hq) N hr ho).2.2 t A A6
       obtain ⟨e1,y⟩:=B q j r t hq hr A
       rw [e1,y (s j ha)]
      ·exact (G t (fun q j r hq hr A=>hw ⟨q,j,r,hq,hr,A⟩)).symm
     refine wG Bl A9 Z (hT (fun af' w'=>af'.defers=D∧ ∃ L' C'',(∀ w,St E.S E.w0 C'' w→St E.S E.w0 C' w)∧(tb.contains i=true→ ∀ w,St E.S E.w0 C'' w→St E.S E.w0 C1 w)∧TN E ops D C' C1 (fun L C=>KJ E (Q .normal) D L C) tb nr (rem.filter (· != i)) L' C''∧Fr E.n D L' af'∧St E.S E.w0 C'' w')
      (fun L' C'' h1 h1' h2 af' w' h3 h4=>⟨h3.defers,L',C'',h1,h1',h2,h3,h4⟩) af w K R) (fun b w' hb=>hb.1.trans K.defers.symm) ?_
     rintro u w' ⟨_,L',C'',h1,h1',h2,h3,h4⟩
     have Y: ∀ (b:Act) (t:Nat),o.dst≠some t→(b.put o.dst u).tmps[t]? =b.tmps[t]? :=fun b t AB=>by
      cases H:o.dst with
      |none=>rfl
      |some d=>simp only [Act.put]; rw [Array.getElem?_setIfInBounds_ne (fun e=>AB (by rw [H,e]))]
     have C0: ∀ (b:Act),(b.put o.dst u).tmps.size=b.tmps.size:=fun b=>by cases o.dst<;>simp [Act.put]
     refine ih _ _ w' (rem.filter (· != i)) L' C'' (af.put o.dst u) (by simpa using AC) om hcl' (fun j hq=>?_) (fun j hj=>O j (List.mem_filter.1 hj).1) (f.filter _) (by cases o.dst<;>exact hd) (by rw [C0]; exact hz) (by rw [hnr']; exact h2) h3 h4 h1 (fun p' i' hp' hf' hl'=>by
      rcases FS p' i' i hp' N hf' with h5|h5
      ·exact h1' h5
      ·have h6:=s i' h5
       rw [F] at hl'
       by_cases e:i'=i
       ·rw [if_pos e] at hl'; cases hl'
       ·rw [if_neg e,h6] at hl'; cases hl') (fun t ht=>?_) (fun t ht=>?_) (fun q j r d' hq hr A=>?_)
     ·rw [F]
      by_cases e:j=i
      ·subst e; simp
      ·simp only [e,if_false,List.mem_filter,bne_iff_ne,ne_eq,not_false_eq_true,and_true]
       exact M j hq
     ·by_cases H:o.dst=some t
      ·rw [H]
       simp only [Act.put]
       by_cases c:t<E.n
       ·rw [Array.getElem?_setIfInBounds_self_of_lt (by rw [K.size]; exact c),Array.getElem?_setIfInBounds_self_of_lt (by rw [hz]; exact c)]
       ·rw [Array.getElem?_eq_none (by rw [Array.size_setIfInBounds,K.size]; exact Nat.le_of_not_lt c),Array.getElem?_eq_none (by rw [Array.size_setIfInBounds,hz]; exact Nat.le_of_not_lt c)]
      ·rw [Y a t H,Y af t H]; exact G t ht
     ·rw [Y a t (ht i o (by rw [F]; simp) ho)]
      exact X t (fun m' u' hm'' hu'=>ht m' u' (by rw [F]; split<;>simp [hm'']) hu')
     ·have AB:o.dst≠some d':=fun e=>(hc.ft j i r o (aG hq) N hr ho).1 (by rw [e,A])
      rw [Y a d' AB,Y af d' AB]
      refine ⟨(B q j r d' hq hr A).1,fun hl=>(B q j r d' hq hr A).2 ?_⟩
      rw [F] at hl
      have:j≠i:=fun e=>hc.Ak i N (e▸aG hq)
      simpa [this] using hl
 refine key ops.size (Array.replicate ops.size false) a0 _ T _ C (iI (dv ops free) vs (dv ops free).length a0) sm ?_ ?_ ?_ (fun _ h=>h) hc.nodup z.defers z.size (by simpa using hF) (iu _ vs _ L a0 Bf z) GD hC (fun _ _ _ _ _=>hC1) ?_ (fun _ _=>rfl) ?_
 ·unfold uE; exact Nat.le_trans (List.length_filter_le _ _) sm
 ·intro j hj
  simp only [Array.getD_eq_getD_getElem?,Array.getElem?_replicate] at hj
  split at hj<;>simp at hj
 ·intro i hi
  simp only [Array.getD_eq_getD_getElem?,Array.getElem?_replicate]
  split<;>simp [hi]
 ·intro t ht
  refine dV _ vs _ a0 t (fun m u _ hu J=>?_)
  obtain ⟨x,AA,V⟩:=A0 m u hu
  exact ht m x u AA V J
 ·intro p i o d hp ho H
  obtain ⟨d',v',e1,y,e3,_⟩:=l p o (A1 p i o hp ho)
  rw [H] at e1; cases e1
  refine ⟨?_,fun hl=>?_⟩
  ·rw [e3]
   refine iE _ vs _ a0 p o d v' (by rw [Bs]; exact (aV.1 hp).1) (A1 p i o hp ho) H (by rw [z.size]; exact y) e3 (fun m u hm AB hu=>?_)
   obtain ⟨x,AA,V⟩:=A0 m u hu
   exact (hc.apart m p x i u o d AA hp (Ne.symm AB) V ho H).1
  ·simp only [Array.getD_eq_getD_getElem?,Array.getElem?_replicate] at hl
   split at hl<;>simp at hl
theorem mQ {E:dW} {ops:Array Oper} {D:eU} {C' C1:List au} {F:cG→List au→Prop} {tb rem:List Nat} {L:cG} {C:List au} (h:F L C):TN E ops D C' C1 F tb 0 rem L C:=h
def ua (E:dW) (ops:Array Oper) (D:eU) (C' C1:List au) (F:cG→List au→Prop) (tb:List Nat) (n:Nat) (rem:List Nat) (i:Nat) (L:cG) (C:List au):Prop:=
 ∀ o,ops[i]? =some o→ ∀ K:Act→World→Prop,(∀ L' C'',(∀ w,St E.S E.w0 C'' w→St E.S E.w0 C' w)→(tb.contains i=true→ ∀ w,St E.S E.w0 C'' w→St E.S E.w0 C1 w)→TN E ops D C' C1 F tb n rem L' C''→KJ E K D L' C'')→RJ E ops (NQ K) [o] D L C
theorem dz {E:dW} {ops:Array Oper} {D:eU} {C' C1:List au} {F:cG→List au→Prop} {tb rem:List Nat} {n:Nat} {L:cG} {C:List au} (ms:List Nat) (hm:rem.filter (fun i=>rem.all fun j=> !fu (mw ops) j i)=ms)
 (h: ∀ i∈ms,ua E ops D C' C1 F tb n (rem.filter (· != i)) i L C):TN E ops D C' C1 F tb (n+1) rem L C:=fun i hi=>h i (hm▸hi)
theorem bD {p:Nat→Prop} {i:Nat} {l:List Nat} (h:p i) (t: ∀ j∈l,p j): ∀ j∈i::l,p j:=fun j hj=>by
 rcases bZ.1 hj with rfl|hj
 ·exact h
 ·exact t j hj
theorem en {p:Nat→Prop}: ∀ j∈([]:List Nat),p j:=fun j hj=>by cases hj
theorem c_ {E:dW} {ops:Array Oper} {D:eU} {C' C1:List au} {F:cG→List au→Prop} {tb rem rem':List Nat} {n i:Nat} {L:cG} {C:List au} {o:Oper} (ho:ops[i]? =some o) (hr:rem=rem') (ht:tb.contains i=false)
 (h: ∀ K:Act→World→Prop,(∀ L' C'',(∀ w,St E.S E.w0 C'' w→St E.S E.w0 C' w)→TN E ops D C' C1 F tb n rem' L' C''→KJ E K D L' C'')→RJ E ops (NQ K) [o] D L C):ua E ops D C' C1 F tb n rem i L C:=fun o' ho' K hK=>by
 rw [ho] at ho'; cases ho'
 subst hr
 exact h K fun L' C'' A B=>hK L' C'' A (fun h=>by rw [ht] at h; cases h) B
theorem oU {E:dW} {ops:Array Oper} {D:eU} {C' C1:List au} {F:cG→List au→Prop} {tb rem rem':List Nat} {n i:Nat} {L:cG} {C:List au} {o:Oper} (ho:ops[i]? =some o) (hr:rem=rem')
 (h: ∀ K:Act→World→Prop,(∀ L' C'',(∀ w,St E.S E.w0 C'' w→St E.S E.w0 C' w)→(∀ w,St E.S E.w0 C'' w→St E.S E.w0 C1 w)→TN E ops D C' C1 F tb n rem' L' C''→KJ E K D L' C'')→RJ E ops (NQ K) [o] D L C):ua E ops D C' C1 F tb n rem i L C:=fun o' ho' K hK=>by
 rw [ho] at ho'; cases ho'
 subst hr
 exact h K fun L' C'' A h1' B=>hK L' C'' A (fun _=>h1') B
end
section
open Go.RowKit
def DE (m:Array Nat) (ops:Array Oper) (rem:List Nat):Bool:=
 (List.range rem.length).all fun p=>match (rem[p]?).bind fun i=>(ops[i]?).map fun o=>(i,o) with
  |none=>false
  |some (i,o)=>o.dst.isSome&&mA o&&
   ((List.range rem.length).all fun q=>q==p||match (rem[q]?).bind fun j=>(ops[j]?).map fun o=>(j,o) with
    |none=>false
    |some (j,r)=>i != j&&match r.dst with
     |none=>false
     |some d=>o.dst != some d&&(!(o.looksAt ops).contains d||(if q<p then fu m j i else fu m i j)))
def DR (ops:Array Oper) (rem:List Nat):Bool:=DE (mw ops) ops rem
structure EA (ops:Array Oper) (rem:List Nat):Prop where
 lt: ∀ i∈rem,i<ops.size
 plain: ∀ (p i:Nat) (o:Oper),rem[p]? =some i→ops[i]? =some o→(∀ cs b,o.op≠ .select cs b)∧(∀ c,o.op≠ .defer c)
 apart: ∀ (p q i j:Nat) (o r:Oper) (d:Nat),rem[p]? =some i→rem[q]? =some j→q≠p→ops[i]? =some o→ops[j]? =some r→r.dst=some d→i≠j∧o.dst≠some d∧(d∈o.looksAt ops→(q<p∧fu (mw ops) j i=true)∨(p<q∧fu (mw ops) i j=true))
theorem EA.of {ops:Array Oper} {rem:List Nat} (h:DR ops rem=true):EA ops rem:=by
 simp only [DR,DE] at h
 rw [cT] at h
 refine ⟨fun i hi=>?_,fun p i o hp ho=>?_,?_⟩
 ·obtain ⟨p,hp⟩:=List.mem_iff_getElem?.1 hi
  have:=h p (by simpa using (aV.1 hp).1)
  simp only [hp,Option.bind_some] at this
  cases ho:ops[i]? with
  |none=>simp [ho] at this
  |some o=>exact (Array.getElem?_eq_some_iff.1 ho).1
 ·have:=h p (by simpa using (aV.1 hp).1)
  simp only [hp,ho,Option.bind_some,Option.map_some,cZ] at this
  have:=this.1.2
  refine ⟨fun cs b hh=>?_,fun c hh=>?_⟩<;>simp [mA,hh] at this
 ·intro p q i j o r d hp hq C ho hr hd
  have:=h p (by simpa using (aV.1 hp).1)
  simp only [hp,ho,Option.bind_some,Option.map_some,cZ] at this
  have:=this.2
  rw [cT] at this
  have:=this q (by simpa using (aV.1 hq).1)
  simp only [hq,hr,hd,Option.bind_some,Option.map_some,Bool.or_eq_true,cZ,beq_iff_eq,bne_iff_ne,ne_eq] at this
  rcases this with h|⟨D,E,A⟩
  ·exact absurd h C
  ·refine ⟨D,E,fun hm=>?_⟩
   rcases A with A|A
   ·simp [hm] at A
   ·by_cases B:q<p
    ·rw [if_pos B] at A; exact .inl ⟨B,A⟩
    ·rw [if_neg B] at A; exact .inr ⟨om,A⟩
def II (ops:Array Oper) (is:List Nat):List Nat:=is.filterMap fun i=>(ops[i]?).bind (·.dst)
def sv (L:cG) (ds:List Nat):cG:=L.filter fun p=> !ds.any (Nat.beq p.1)
theorem nZ {L:cG} {ds:List Nat} {t:Nat} {v:Value} (h:(sv L ds).lookup t=some v):L.lookup t=some v∧t ∉ ds:=by
 induction L with
 |nil=>simp [sv] at h
 |cons p L ih=>
  obtain ⟨u,x⟩:=p
  unfold sv at h ih
  rw [List.filter_cons] at h
  by_cases e:t=u
  ·subst e
   split at h
   ·rename_i hu
    simp [List.lookup] at h ⊢
    refine ⟨h,fun hm=>?_⟩
    simp only [Bool.not_eq_true',List.any_eq_false] at hu
    exact hu t hm sm
   ·exfalso
    rename_i hu
    have:=(ih h).2
    simp only [Bool.not_eq_true',Bool.not_eq_false,List.any_eq_true] at hu
    obtain ⟨d,hd,he⟩:=hu
    have:t=d:=Nat.eq_of_beq_eq_true he
    subst this
    exact this hd
  ·have A:(t==u)=false:=by simpa using e
   split at h
   ·simp only [List.lookup,A] at h ⊢
    exact ih h
   ·simp only [List.lookup,A]
    exact ih h
/-- what is left yields alone -/
theorem Ac {E:dW} {ops:Array Oper} {Q:cq} {D:eU} {C' C1 C:List au} {tb rem:List Nat} {L:cG} {n:Nat} (ds:List Nat) (hc:DR ops rem=true) (hds:II ops rem=ds) (hn:rem.length=n) (L0:cG) (hL:sv L ds=L0) (htb:(rem.all fun i=> !tb.contains i)=true)
 (hC: ∀ w,St E.S E.w0 C w→St E.S E.w0 C' w) (h:DJ E ops D C (fun L'=>RJ E ops Q [] D L' C) (dv ops rem) L0):TN E ops D C' C1 (fun L C=>KJ E (Q .normal) D L C) tb n rem L C:=by
 have hc:=EA.of hc
 obtain ⟨vs,Bf,hF,H⟩:=DJ.out _ _ h
 have A5:=k9 hc.lt
 have hg: ∀ (p i:Nat) (o:Oper),rem[p]? =some i→ops[i]? =some o→(dv ops rem)[p]? =some o:=fun p i o hp ho=>by rw [jy hc.lt,hp]; exact ho
 have O: ∀ (p:Nat) (o:Oper),(dv ops rem)[p]? =some o→ ∃ i,rem[p]? =some i∧ops[i]? =some o:=fun p o h=>by
  rw [jy hc.lt] at h
  cases hp:rem[p]? with
  |none=>simp [hp] at h
  |some i=>exact ⟨i,rfl,by simpa [hp] using h⟩
 have T: ∀ (j:Nat) (o:Oper) (d:Nat),(dv ops rem)[j]? =some o→o.dst=some d→d<E.n:=fun j o d ho hd=>by
  obtain ⟨d',v,V,h2,_⟩:=H j o ho
  rw [V] at hd; cases hd; exact h2
 have hclear: ∀ (t:Nat) (v:Value),L0.lookup t=some v→L.lookup t=some v∧ ∀ (p i:Nat) (o:Oper),rem[p]? =some i→ops[i]? =some o→o.dst≠some t:=fun t v hv=>by
  rw [← hL] at hv
  refine ⟨(nZ hv).1,fun p i o hp ho hd=>(nZ hv).2 ?_⟩
  rw [← hds]
  exact List.mem_filterMap.2 ⟨i,aG hp,by simp [ho,hd]⟩
 have A2:rem.Nodup:=by
  rw [List.nodup_iff_pairwise_ne,d_]
  intro q p hq hp b
  obtain ⟨o,ho⟩: ∃ o,ops[rem[p]]? =some o:=⟨_,Array.getElem?_eq_getElem (hc.lt _ (List.getElem_mem hp))⟩
  obtain ⟨r,hr⟩: ∃ r,ops[rem[q]]? =some r:=⟨_,Array.getElem?_eq_getElem (hc.lt _ (List.getElem_mem hq))⟩
  obtain ⟨d,v,V,_⟩:=H q r (hg q _ r (eu hq) hr)
  exact (fun e=>(hc.apart p q _ _ o r d (eu hp) (eu hq) om ho hr V).1 e.symm)
 -- the frame that a state of the order has
 have key: ∀ (n:Nat) (rem':List Nat) (L':cG),rem'.length=n→rem'.Nodup→(∀ i∈rem',i∈rem)→(∀ i j,i∈rem'→j∈rem→j ∉ rem'→fu (mw ops) i j=false)→
  (∀ t,(∀ (p i:Nat) (o:Oper),rem[p]? =some i→ops[i]? =some o→o.dst≠some t)→L'.lookup t=L.lookup t)→
  (∀ (p i:Nat) (o:Oper) (d:Nat),rem[p]? =some i→ops[i]? =some o→o.dst=some d→i ∉ rem'→L'.lookup d=vs[p]?)→
  TN E ops D C' C1 (fun L C=>KJ E (Q .normal) D L C) tb n rem' L' C:=by
  intro n
  induction n with
  |zero=>
   intro rem' L' hl _ M _ J B
   have z:rem'=[]:=List.length_eq_zero_iff.1 hl
   subst z
   intro a w hf hs
   have W:Fr E.n D L0 a:=⟨hf.defers,hf.size,fun t v hv=>hf.at_ t v (by rw [J t (hclear t v hv).2]; exact (hclear t v hv).1)⟩
   have X:=iu (dv ops rem) vs (dv ops rem).length L0 a T W
   refine hF a w ⟨hf.defers,hf.size,fun t v hv=>?_⟩ hs
   have V:=X.at_ t v hv
   rw [← V]
   by_cases ht: ∀ (p i:Nat) (o:Oper),rem[p]? =some i→ops[i]? =some o→o.dst≠some t
   ·exact (dV _ vs _ a t (fun m u _ hu P=>by obtain ⟨x,F,G⟩:=O m u hu; exact ht m x u F G P)).symm
   ·have: ∃ (p i:Nat) (o:Oper),rem[p]? =some i∧ops[i]? =some o∧o.dst=some t:=by
     refine Classical.byContradiction fun hh=>ht fun p i o hp ho hd=>hh ⟨p,i,o,hp,ho,hd⟩
    obtain ⟨p,i,o,hp,ho,hd⟩:=this
    obtain ⟨d',v',f,e2,g,_⟩:=H p o (hg p i o hp ho)
    rw [hd] at f; cases f
    rw [hf.at_ t v' (by rw [B p i o t hp ho hd sm,g])]
    refine (iE _ vs _ a p o t v' (by rw [A5]; exact (aV.1 hp).1) (hg p i o hp ho) hd (by rw [hf.size]; exact e2) g (fun m u hm AB hu=>?_)).symm
    obtain ⟨x,F,G⟩:=O m u hu
    exact (hc.apart m p x i u o t F hp (Ne.symm AB) G ho hd).2.1
  |succ n ih=>
   intro rem' L' hl hnd' M A0 J B i hi o ho K hK a w hf hs
   rw [List.mem_filter,cT] at hi
   obtain ⟨Y,AA⟩:=hi
   obtain ⟨p,hp⟩:=List.mem_iff_getElem?.1 (M i Y)
   obtain ⟨d,v,R,l,A8,A6⟩:=H p o (hg p i o hp ho)
   obtain ⟨AC,k⟩:=hc.plain p i o hp ho
   have W:Fr E.n D L0 a:=⟨hf.defers,hf.size,fun t v hv=>hf.at_ t v (by rw [J t (hclear t v hv).2]; exact (hclear t v hv).1)⟩
   have s:=iu (dv ops rem) vs p L0 a T W
   have Z: ∀ t∈o.looksAt ops,a.tmps[t]? =(iI (dv ops rem) vs p a).tmps[t]? :=by
    intro t A7
    by_cases hw: ∃ (q j:Nat) (r:Oper),rem[q]? =some j∧q≠p∧ops[j]? =some r∧r.dst=some t
    ·obtain ⟨q,j,r,hq,AB,hr,A⟩:=hw
     obtain ⟨d',v',f,e2,g,_⟩:=H q r (hg q j r hq hr)
     rw [A] at f; cases f
     have Ay:=hc.apart p q i j o r t hp hq AB ho hr A
     rcases Ay.2.2 A7 with ⟨b,ha⟩|⟨b,ha⟩
     ·have hj:j ∉ rem':=fun hj=>by have:=AA j hj; rw [ha] at this; cases this
      rw [hf.at_ t v' (by rw [B q j r t hq hr A hj,g])]
      refine (iE (dv ops rem) vs p a q r t v' b (hg q j r hq hr) A (by rw [hf.size]; exact e2) g (fun m u hm hne' hu=>?_)).symm
      obtain ⟨x,F,G⟩:=O m u hu
      exact (hc.apart m q x j u r t F hq (Ne.symm hne') G hr A).2.1
     ·refine (dV (dv ops rem) vs p a t (fun m u hm hu P=>?_)).symm
      obtain ⟨x,F,G⟩:=O m u hu
      exact (hc.apart m q x j u r t F hq om G hr A).2.1 P
    ·refine (dV (dv ops rem) vs p a t (fun m u hm hu P=>?_)).symm
     obtain ⟨x,F,G⟩:=O m u hu
     exact hw ⟨m,x,u,F,om,G,P⟩
   have AH:rem'.filter (· != i)=rem'.erase i:=(hnd'.erase_eq_filter i).symm
   have c:TN E ops D C' C1 (fun L C=>KJ E (Q .normal) D L C) tb n (rem'.filter (· != i)) ((d,v)::L') C:=by
    refine ih _ _ (by rw [AH,List.length_erase_of_mem Y,hl]; rfl) (hnd'.filter _) (fun j hj=>M j (List.mem_filter.1 hj).1) (fun x y hx hy A4=>?_) (fun t ht=>?_) (fun q j r d' hq hr A hj=>?_)
    ·have hx':=(List.mem_filter.1 hx).1
     by_cases e:y=i
     ·subst e
      have:=AA x hx'
      simpa using this
     ·exact A0 x y hx' hy fun hh=>A4 (List.mem_filter.2 ⟨hh,by simpa using e⟩)
    ·have AB:(t==d)=false:=by simpa using fun e=>ht p i o hp ho (by rw [R,e])
     simp only [List.lookup,AB]
     exact J t ht
    ·by_cases e:q=p
     ·subst e
      rw [hp] at hq; cases hq
      rw [ho] at hr; cases hr
      rw [R] at A; cases A
      simp [List.lookup,A8]
     ·have h9:=hc.apart p q i j o r d' hp hq e ho hr A
      have AB:(d'==d)=false:=by simpa using fun e=>h9.2.1 (by rw [R,e])
      simp only [List.lookup,AB]
      refine B q j r d' hq hr A fun hh=>hj (List.mem_filter.2 ⟨hh,by simpa using fun e=>h9.1 e.symm⟩)
   have AO:tb.contains i=false:=by
    have:=(cT.1 htb) i (M i Y)
    simpa using this
   have A1:=fun w' (hk:cQ no w w')=>hK ((d,v)::L') C hC (fun hh=>by rw [AO] at hh; cases hh) c (a.put (some d) v) w' (hf.put l v) (hs.same hk)
   have:=nO A6 R l AC k s Z (w:=w) hs (N:=K) (Q:=NQ K) A1
   unfold nv
   by_cases hw:Region.wanted o (yielded ops a.tmps)=true
   ·rw [if_pos hw] at this ⊢
    refine jw this (fun a' w' hh=>hh) (fun _ _ _ hF=>hF)
   ·rw [if_neg hw] at this ⊢
    exact this.2
 refine key n rem L hn A2 (fun _ h=>h) (fun i j _ V h2=>absurd V h2) (fun _ _=>rfl) (fun p i o d hp ho hd A3=>absurd (aG hp) A3)
end
section
open Go.RowKit
theorem St.imp {S:BS} {w0 w:World} {C:List au} {A B:au} (i:Nat) (h:St S w0 C w) (hC:C[i]? =some A) (hh: ∀ w,A.holds w→B.holds w) (hf: ∀ b,B.dG b→A.dG b) (hw: ∀ b,B.wf b→A.wf b):St S w0 (C.set i B) w:=
 h.mv i hC ⟨hh w (h.holds A (aG hC)),cQ.refl _ _,fun b hb=> .inl (hw b hb),fun b hb=> .inl (hf b hb)⟩
theorem Dg {E:dW} {K:Act→World→Prop} {D:eU} {L:cG} {C C':List au} {A B:au} (i:Nat) (hC:C[i]? =some A) (hh:(∀ w,A.holds w→B.holds w)∧(∀ b,B.dG b→A.dG b)∧ ∀ b,B.wf b→A.wf b) (hC':C.set i B=C') (h:KJ E K D L C'):KJ E K D L C:=fun a w hf hs=>
 h a w hf (hC'▸hs.imp i hC hh.1 hh.2.1 hh.2.2)
structure Bi (P:Program) (f:FuncId) (args:List Value) (Cp:List au) (A:au) {α:Type} (V:α→Value) (p:α→Prop) (A':α→au):Prop where
 go:ke P f=true
 run: ∀ w,A.holds w→(∀ B∈Cp,B.holds w)→(∀ B∈Cp,wW A B.ro)→Calls P f args.toArray w fun e w'=> ∃ x,e= .returned (V x)∧p x∧Mv A (A' x) w w'
def Cc (w0:World) (A:au) {α:Type} (V:α→Value) (p:α→Prop) (A':α→au) (e:Ending) (w':World):Prop:= ∃ x,e= .returned (V x)∧p x∧Mv A (A' x) w0 w'
theorem Gr {w0 w:World} {A:au} {C:List au} {α:Type} {V:α→Value} {p:α→Prop} {A':α→au} {v:Value} (x:α) (i:Nat) (hV:v=V x) (hp:p x) (hC:C[i]? =some (A' x)) (hw:(A' x).wr=true) (hs:St ⟨A.wf,fun _=>True⟩ w0 C w):Cc w0 A V p A' (.returned v) w:=
 ⟨x,by rw [hV],hp,hs.holds _ (aG hC),hs.keeps,fun b hb=>(hs.own _ (aG hC) b hb).symm,fun b hb=>by
  rcases hs.own _ (aG hC) b ((A' x).whole hw b hb) with h|h
  ·exact .inr h
  ·exact .inl (A.iL b h)⟩
theorem oD {P:Program} {f:FuncId} {fn:Func} {c:Code} {args:List Value} {Cp:List au} {A:au} {α:Type} {V:α→Value} {p:α→Prop} {A':α→au} (hgo:ke P f=true) (hf:P.funcs[f]? =some fn) (hb:fn.body=some c) (hn:Nat.ble args.length fn.ntmps=true)
 (h: ∀ (w0:World) (Q:cq),(∀ D L C,LJ ⟨P,none,fn.ntmps,⟨A.wf,fun _=>True⟩,w0⟩ fn (Cc w0 A V p A') D L C→KJ ⟨P,none,fn.ntmps,⟨A.wf,fun _=>True⟩,w0⟩ (Q .ret) D L C)→
  (∀ D L C,LJ ⟨P,none,fn.ntmps,⟨A.wf,fun _=>True⟩,w0⟩ fn (Cc w0 A V p A') D L C→KJ ⟨P,none,fn.ntmps,⟨A.wf,fun _=>True⟩,w0⟩ (Q .normal) D L C)→
  WJ ⟨P,none,fn.ntmps,⟨A.wf,fun _=>True⟩,w0⟩ c Q [] (Fk args) (A::Cp.map au.ro)):Bi P f args Cp A V p A':=by
 refine ⟨hgo,fun w hA F E=>?_⟩
 refine vl hf hb hn (h w) ?_
 have G:=nX F
 refine ⟨cQ.refl _ _,fun B hB=>?_,List.Pairwise.cons (fun B hB=>?_) G.sep,fun B hB b hb=>?_,fun _ _ _ _=> .inr trivial⟩
 ·rcases bZ.1 hB with rfl|hB
  ·exact hA
  ·exact G.holds B hB
 ·obtain ⟨B',hB',rfl⟩:=cy.1 hB
  exact E B' hB'
 ·rcases bZ.1 hB with rfl|hB
  ·exact .inr hb
  ·obtain ⟨B',hB',rfl⟩:=cy.1 hB
   exact hb.elim
/-- each of Cp is read from something of C that is not its i-th -/
def sg (C:List au) (i:Nat) (Cp:List au):Prop:= ∀ B∈Cp,∃ j X,j≠i∧C[j]? =some X∧DV X B
theorem m8 {C:List au} {i:Nat}:sg C i []:=fun B hB=>by cases hB
theorem iU {C Cp:List au} {i:Nat} {B X:au} (j:Nat) (hj:Nat.beq j i=false) (hC:C[j]? =some X) (h:DV X B) (t:sg C i Cp):sg C i (B::Cp):=fun B' hB=>by
 rcases bZ.1 hB with rfl|hB
 ·exact ⟨j,X,fun e=>by subst e; simp at hj,hC,h⟩
 ·exact t B' hB
section
variable {E:dW} {ops:Array Oper} {Q:cq} {rest:List Oper} {D:List Deferred} {L:List (Nat×Value)} {C:List au}
variable {dst:Option Tmp} {d:Nat} {ty:TypeId} {ps:String} {af:Array Edge} {g:Option (Nat×Bool)}
theorem kS {fop:Operand} {xs:Array Operand} {ts:Array TypeId} {f:FuncId} {fi ca:Array Value} {vs args:List Value} {Cp:List au} {A:au} {α:Type} {V:α→Value} {p:α→Prop} {A':α→au} (i:Nat) (hg:gW ops L g=true) (hf:ev L fop=some (.func (.func f) fi ca))
 (hx:evs L xs.toList=some vs) (ha:fi.toList++vs++ca.toList=args) (c:Bi E.P f args Cp A V p A') (hC:C[i]? =some A) (hCp:sg C i Cp) (hd:Nat.blt d E.n=true) (k: ∀ x,p x→RJ E ops Q rest D ((d,V x)::L) (C.set i (A' x))):
 RJ E ops Q (⟨some d,.call {callee:= .value fop,args:=xs,argTypes:=ts},ty,ps,af,g⟩::rest) D L C:=by
 intro a w F hs
 have hd':d<E.n:=by rw [← Nat.blt_eq]; exact hd
 unfold nv
 rw [if_pos (dw F hg)]
 refine ⟨fun _ _=>trivial,?_⟩
 rw [Oper.semAt_eq _ _ _ sm,pU F c.go hf hx ha]
 have AA:=aG hC
 refine ⟨fun h=>by simp at h,(lO E.r (c.run w (hs.holds A AA) (fun B hB=>?_) (fun B hB b hb hb'=>?_))).mono fun e w' he=>?_⟩
 ·obtain ⟨j,X,_,hX,hc⟩:=hCp B hB
  exact hc.holds w (hs.holds X (aG hX))
 ·obtain ⟨j,X,J,hX,hc⟩:=hCp B hB
  have H:=hc.dG b hb'
  have hj:=(aV.1 hX).1
  have hi:=(aV.1 hC).1
  have K:=(aV.1 hX).2
  have M:=(aV.1 hC).2
  refine ⟨?_,fun h=>h⟩
  rcases Nat.lt_or_gt_of_ne J with G|G
  ·have:=d_.1 hs.sep j i hj hi G
   rw [K,M] at this
   exact (this b H hb).2
  ·have:=d_.1 hs.sep i j hi hj G
   rw [K,M] at this
   exact (this b hb H).1
 ·obtain ⟨x,rfl,hp,hm⟩:=he
  exact k x hp _ _ (F.put hd' _) (hs.mv i hC hm)
theorem tu {sz o l:Nat} {vs el:List Value} (hl:vs.length=l) (ho:o+l≤sz): ∀ (es:List (List Value)) (k:Nat),(∀ x∈es,x.length=sz)→es[k]? =some el→
 es.flatten.take (k*sz+o)++vs++es.flatten.drop (k*sz+o+l)=(es.set k (el.take o++vs++el.drop (o+l))).flatten
 |[],k,_,h=>by simp at h
 |x::es,0,hx,h=>by
  simp at h; subst h
  have A:x.length=sz:=hx x sm
  simp only [List.flatten_cons,List.set_cons_zero,Nat.zero_mul,Nat.zero_add]
  rw [List.take_append_of_le_length om,List.drop_append_of_le_length om]
  simp [List.append_assoc]
 |x::es,k+1,hx,h=>by
  have A:x.length=sz:=hx x sm
  have ih:=tu hl ho es k (fun y hy=>hx y (by simp [hy])) (by simpa using h)
  simp only [List.flatten_cons,List.set_cons_succ]
  rw [← ih]
  have B:(k+1)*sz+o=x.length+(k*sz+o):=by rw [A,Nat.succ_mul]; omega
  have C:(k+1)*sz+o+l=x.length+(k*sz+o+l):=by rw [A,Nat.succ_mul]; omega
  rw [B,List.take_length_add_append,show x.length+(k*sz+o)+l=x.length+(k*sz+o+l) by omega,List.drop_length_add_append]
  simp [List.append_assoc]
theorem dB {t n c e sz k o m:Nat} {a:OA} {x y:Operand} {v:Value} {vs el:List Value} {es es':List (List Value)} {C':List au} (i:Nat) (hg:gW ops L g=true) (hx:ev L x=some (.pointer (gN a m))) (hy:ev L y=some v) (ht:(tK E.P t).map (·.2)=some n)
 (hv:v.cells.toList=vs) (hn:vs.length=n) (h1:vs.all Value.oneCell'=true) (hC:C[i]? =some (own a c e sz es)) (hk:es[k]? =some el) (hm:m=k*sz+o) (ho:o+n≤sz) (hes:es.set k (el.take o++vs++el.drop (o+n))=es') (hC':C.set i (own a c e sz es')=C') (kk:RJ E ops Q rest D L C'):
 RJ E ops Q (⟨none,.store t x y,ty,ps,af,g⟩::rest) D L C:=by
 subst hm hes hC'
 intro act w A hs
 unfold nv
 rw [if_pos (dw A hg)]
 obtain ⟨hl,Y,AB⟩:=hs.holds _ (aG hC)
 have K:=(aV.1 hk).1
 rcases AB with ⟨h2,z⟩|⟨gg,cap,cur,G,J,d,V,f,W,j⟩
 ·omega
 ·injection G with G s R
  subst G R
  have q:=cY hl
  have r:k*sz+sz≤es.length*sz:=by rw [← Nat.succ_mul]; exact Nat.mul_le_mul_right _ K
  have l:es.length*sz≤cur.toList.length:=by simp only [Array.length_toList,W]; exact Nat.mul_le_mul_right _ V
  have N:k*sz+o+n≤cur.toList.length:=by omega
  obtain ⟨w',hr,hb',M⟩:=lR (P:=E.P) (t:=e) vs cur.toList (k*sz+o) 0 w (fun v hv=>cT.1 h1 v hv) (by rw [hn]; exact N) (by rw [d])
  have F:(sizeOf t).run E.P w= .ok n w:=by
   obtain ⟨bn,H,rfl⟩:=Option.map_eq_some_iff.1 ht
   obtain ⟨bb,nn⟩:=bn
   cases bb
   ·exact (pT H w).2
   ·exact (ld H w).2
  have S:v.cells.size=n:=by rw [← hn,← hv]; simp
  have O:gN (some (⟨gg,0,none⟩:Addr)) (k*sz+o)=some ⟨gg,k*sz+o,none⟩:=by
   simp only [gN,Option.map_some,ga,Nat.zero_add]
  refine pH sm (w':=w') ?_ ?_
  ·simp [execOp,A.ev hx,A.ev hy,O,Instr.storeAt,Instr.sureAddr,storeVar,F,S,hv,hr]
  ·refine kk _ _ ⟨A.defers,A.size,A.at_⟩ ?_
   have p:el.length=sz:=hl el (aG hk)
   have B: ∀ y∈es.set k (el.take o++vs++el.drop (o+n)),y.length=sz:=by
    intro y hy'
    rcases List.mem_or_eq_of_mem_set hy' with h|rfl
    ·exact hl y h
    ·simp; omega
   have X:cur.toList.length=c*sz:=by simpa using W
   refine hs.vb (b:=gg) i hC ⟨_,rfl,rfl⟩ rfl M (fun y ⟨ad,T,AA⟩=>by cases T; exact AA) ⟨B,?_⟩
   rw [List.length_set]
   refine ⟨by rw [cY B,List.length_set],.inr ⟨gg,c,_,U,Nat.zero_le _,hb',V,f,?_,?_⟩⟩
   ·simp only [List.size_toArray,List.length_append,List.length_take,List.length_drop,Nat.add_zero]
    omega
   ·rw [Nat.add_zero,hn]
    have Z:=tu hn ho es k hl hk
    rw [← Z,← j]
    have u:k*sz+o≤es.length*sz:=by omega
    show ((cur.toList.take (k*sz+o)++vs)++cur.toList.drop (k*sz+o+n)).take (es.length*sz)=_
    have hA:(cur.toList.take (k*sz+o)++vs).length=k*sz+o+n:=by simp only [List.length_append,List.length_take]; omega
    rw [List.take_append,List.take_of_length_le om,hA,List.take_take,Nat.min_eq_left u,List.drop_take]
end
end
section
open Go.RowKit
theorem Bc {l:List MapEntry} (h:(l.map (·.born)).Nodup) {x y:MapEntry} (hx:x∈l) (hy:y∈l) (e:x.born=y.born):x=y:=by
 obtain ⟨i,hi⟩:=List.getElem?_of_mem hx
 obtain ⟨j,hj⟩:=List.getElem?_of_mem hy
 have A:(l.map (·.born))[i]? =some x.born:=by rw [gD,hi]; rfl
 have B:(l.map (·.born))[j]? =some x.born:=by rw [gD,hj,e]; rfl
 have C:=(List.getElem?_inj (aV.1 A).1 h).1 (A.trans B.symm)
 subst C
 exact Option.some.inj (hi.symm.trans hj)
section
variable {E:dW} {ops:Array Oper} {Q:cq} {rest:List Oper} {D:List Deferred} {L:List (Nat×Value)} {C:List au}
variable {dst:Option Tmp} {d:Nat} {ty:TypeId} {ps:String} {af:Array Edge} {g:Option (Nat×Bool)}
end
end
section
open Go.RowKit
theorem sn {n:Int} (h:0≤n∧n≤18446744073709551615):IntKind.u64.wrap n=n:=by
 have e:IntKind.u64.wrap n=n % 18446744073709551616:=by simp [IntKind.wrap,IntKind.bits,IntKind.signed]
 rw [e]; omega
theorem s_ {n:Int} (h:0≤n∧n≤255):IntKind.u8.wrap n=n:=by
 have e:IntKind.u8.wrap n=n % 256:=by simp [IntKind.wrap,IntKind.bits,IntKind.signed]
 rw [e]; omega
section
variable {E:dW} {ops:Array Oper} {Q:cq} {rest:List Oper} {D:List Deferred} {L:List (Nat×Value)} {C:List au}
variable {d:Nat} {ty:TypeId} {ps:String} {af:Array Edge} {g:Option (Nat×Bool)}
/-- a byte of a string -/
theorem D8 {t:TypeId} {x ix:Operand} {s:ByteArray} {q:IntKind} {j:Int} {k:Nat} (hg:gW ops L g=true) (hx:ev L x=some (.string s)) (hi:ev L ix=some (.int q j)) (ht:E.P.underlying t=some .string) (hj:j=(k:Int)) (hk:k<s.size) (hd:Nat.blt d E.n=true)
 (kk: ∀ b:Int,0≤b∧b≤255→RJ E ops Q rest D ((d,.int .u8 b)::L) C):RJ E ops Q (⟨some d,.index t x ix,ty,ps,af,g⟩::rest) D L C:=by
 subst hj
 intro a w A hs
 have hd':d<E.n:=by rw [← Nat.blt_eq]; exact hd
 unfold nv
 rw [if_pos (dw A hg)]
 have hb:s[k]? =some s[k]:=getElem?_pos s k hk
 refine fp (v:= .int .u8 (s[k].toNat:Int)) (w':=w) sm ?_ ?_
 ·simp [execOp,A.ev hx,A.ev hi,Instr.index,asIntOf,run_underlying ht,hb]
 ·refine kk _ ⟨om,?_⟩ _ _ (A.put hd' _) hs
  have:=s[k].toNat_lt
  omega
end
def Ek (m:List Int) (i:Nat):Prop:= ∀ p r,p<r→r<i→r<m.length→m.getD p 0≤m.getD r 0
/-- sorted up to i, but for the one at j, which is not above those behind it -/
def ED (m:List Int) (i j:Nat):Prop:=(∀ p r,p<r→r≤i→p≠j→r≠j→m.getD p 0≤m.getD r 0)∧ ∀ r,j<r→r≤i→m.getD j 0≤m.getD r 0
theorem xT {m:List Int} {i:Nat} (h:Ek m i) (hi:i<m.length):ED m i i:=⟨fun p r A B hp hr=>h p r A om om,fun r C D=>by omega⟩
theorem pf {m:List Int} {j:Nat} {x:Int} (h:m[j]? =some x):m.getD j 0=x:=by simp [List.getD,h]
theorem mx {m:List Int} {j:Nat} {x y:Int} (hx:m[j]? =some x) (hy:m[j-1]? =some y) (hj:0<j) (p:Nat):
 ((m.set j y).set (j-1) x).getD p 0=if p=j-1 then x else if p=j then y else m.getD p 0:=by
 have C:=(aV.1 hx).1
 have D:=(aV.1 hy).1
 simp only [List.getD,List.getElem?_set,List.length_set]
 by_cases A:j-1=p
 ·subst A; simp [D]
 ·have e1': ¬ p=j-1:=fun e=>A e.symm
  rw [if_neg A,if_neg e1']
  by_cases B:j=p
  ·subst B; simp [C]
  ·have e2': ¬ p=j:=fun e=>B e.symm
   rw [if_neg B,if_neg e2']
theorem zI {m:List Int} {i j:Nat} {x y:Int} (hx:m[j]? =some x) (hy:m[j-1]? =some y) (hj:0<j) (hji:j≤i) (h:x<y) (hI:ED m i j):ED ((m.set j y).set (j-1) x) i (j-1):=by
 have gx:=pf hx
 have gy:=pf hy
 refine ⟨fun p r D A hp hr=>?_,fun r F E=>?_⟩
 ·rw [mx hx hy hj,mx hx hy hj,if_neg hp,if_neg hr]
  by_cases B:p=j
  ·rw [if_pos B,if_neg om,← gy]
   exact hI.1 (j-1) r om A om om
  ·rw [if_neg B]
   by_cases C:r=j
   ·rw [if_pos C,← gy]; exact hI.1 p (j-1) om om B om
   ·rw [if_neg C]; exact hI.1 p r D A B C
 ·rw [mx hx hy hj,mx hx hy hj,if_pos rfl,if_neg om]
  by_cases e:r=j
  ·rw [if_pos e]; omega
  ·rw [if_neg e,← gx]; exact hI.2 r om E
theorem zP {m:List Int} {i j:Nat} (hj: ¬ 0<j) (hI:ED m i j):Ek m (i+1):=fun p r A C _=>by
 by_cases B:p=j
 ·subst B; exact hI.2 r A om
 ·exact hI.1 p r A om B om
theorem y8 {m:List Int} {i j:Nat} {x y:Int} (hx:m[j]? =some x) (hy:m[j-1]? =some y) (hj:0<j) (hji:j≤i) (h: ¬ x<y) (hI:ED m i j):Ek m (i+1):=fun p r A E hl=>by
 have gx:=pf hx
 have gy:=pf hy
 by_cases B:p=j
 ·subst B; exact hI.2 r A om
 ·by_cases C:r=j
  ·subst C
   rw [gx]
   by_cases D:p=r-1
   ·subst D; rw [gy]; omega
   ·have:=hI.1 p (r-1) om om B om
    rw [gy] at this; omega
  ·exact hI.1 p r A om B C
theorem yx {m:List Int} {j:Nat} {x y:Int} (hx:m[j]? =some x) (hy:m[j-1]? =some y):((m.set j y).set (j-1) x).Perm m:=by
 obtain ⟨A,rfl⟩:=aV.1 hx
 obtain ⟨B,rfl⟩:=aV.1 hy
 exact List.set_set_perm A B
theorem BX {m:List Int}:Ek m 1:=fun p r A B=>by omega
theorem CU {m:List Int} {i:Nat} (h:Ek m i) (hi:m.length≤i):m.Pairwise (· ≤ ·):=by
 rw [d_]
 intro p r hp hr A
 have:=h p r A om hr
 simpa [List.getD,hp,hr] using this
end
section
theorem lq {E:dW} {code:Code} {Q:cq} {D:eU} {L:cG} {C:List au} {a:OA} {c t sz:Nat} {es:List (List Value)} (i:Nat) (hi:C[i]? =some (own a c t sz es)) (hn:0<es.length*sz)
 (h: ∀ ad,a=some ad→WJ E code Q D L C):WJ E code Q D L C:=fun act w hf hs=>by
 obtain ⟨ad,hA,_⟩:=(hs.has (wD i hi)).2.2 hn
 exact h ad hA act w hf hs
section
variable {E:dW} {ops:Array Oper} {D:List Deferred} {L:List (Nat×Value)} {C:List au} {dst:Option Tmp} {ty:TypeId} {ps:String} {af:Array Edge} {g:Option (Nat×Bool)}
theorem AM {x:Operand} {A:OA} {ad:Addr} {k0 s f k k':Nat} (hg:gW ops L g=true) (hx:ev L x=some (.pointer (gN A k0))) (hA:A=some ad)
 (hf:o9 E.P s f=some k) (ho:k0+k=k'):SD E ops ⟨dst,.fieldAddr s x f,ty,ps,af,g⟩ D L C (.pointer (gN A k')):=
 dh hg sm fun a w B hs=>by
  subst hA
  simp [execOp,B.ev hx,gN,lZ hf,lv,ho]
theorem jB {x:Operand} {A:OA} {ad:Addr} {k0:Nat} (hg:gW ops L g=true) (hx:ev L x=some (.pointer (gN A k0))) (hA:A=some ad):
 SD E ops ⟨dst,.nilCheck x,ty,ps,af,g⟩ D L C (.pointer (gN A k0)):=
 dh hg sm fun a w B hs=>by
  subst hA
  simp [execOp,B.ev hx,gN]
theorem cu {x:Operand} {ad:Addr} (hg:gW ops L g=true) (hx:ev L x=some (.pointer (some ad))):
 SD E ops ⟨dst,.nilCheck x,ty,ps,af,g⟩ D L C (.pointer (some ad)):=
 dh hg sm fun a w A hs=>by simp [execOp,A.ev hx]
end
end
end Go.Proofs.YtkidpbhlgnalaaaGreat
