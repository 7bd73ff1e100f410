/-
 The statement postNarrow_said, part 1 of 4: Core, Step, Ops, Mem, Call, Fun, Own, Aux, Range, More, Draw, Open, Types, Map, Trk, DrawN, Pure, Fm, It, Sort, Ptr, Short, Grow, Global.
 Conditions: none.
-/
import Derived.WalkKit
import Derived.RangeFuncLeaves
import Derived.RangeFuncRecord
import Derived.OrdersIn
import Derived.Deep.LoopGhost
import Derived.Maps.AppendAt
import Derived.RangeFuncNested
import Derived.Scope
import Derived.LoopNIn
import Derived.ProofKit
import Derived.Deep.Slices
import Derived.Below
import Derived.ChangeSame
import Derived.Maps.RangeRun
import Derived.Laws.OwnMore
namespace Go.Proofs.YtpfjokbjambohaaGreat
theorem U {α : Sort _} {a : α} : a = a := rfl
theorem sd {P : Prop} (h : P := by first | assumption | omega | (simp; done) | (simp; omega) | (dsimp only; omega)) : P := h
theorem I {P : Prop} (h : P := by first | omega | (dsimp only; omega)) : P := h
theorem sm {P : Prop} (h : P := by simp) : P := h
theorem dc {P : Prop} (h : P := by decide) : P := h
theorem kr {P : Prop} (h : P := by kernel_rfl) : P := h
theorem os {P : Prop} (h : P := by first | omega | (simp; omega) | (dsimp only; omega)) : P := h
theorem sq {P : Prop} (h : P := by first | (simp; done) | (simp; omega)) : P := h
theorem asm {P : Prop} (h : P := by assumption) : P := h
theorem dso {P : Prop} (h : P := by dsimp only; omega) : P := h
set_option maxRecDepth 100000
set_option maxHeartbeats 4000000
set_option linter.unusedVariables false
section
open Go.RowKit
theorem AX {P:Prop} (q:false=true):P:=Bool.noConfusion q
theorem Bg {P:Prop} (q:true=false):P:=Bool.noConfusion q
theorem Bt {P Q:Prop} (h:Q):(false=true→P)∧(false=false→Q):=⟨nofun,fun _=>h⟩
theorem Be {α:Type} {a b c:α} {P:Prop} (e:a=b) (h: ¬ b=c:=by decide):b=a∧(a=c→P):=⟨e.symm,fun q=>absurd (e.symm.trans q) h⟩
theorem Bc {α:Type} {a b c:α} {P:Prop} (e:a=b) (h: ¬ b=c):b=a∧(a=c→P):=⟨e.symm,fun q=>absurd (e.symm.trans q) h⟩
theorem bh {α:Type _} (l:List α) (i:Nat) (h:i<l.length): ∃ y,l[i]? =some y:=⟨_,List.getElem?_eq_getElem h⟩
theorem bG {α β:Type _} {l:List α} {i:Nat} {x:α} (f:α→β) (h:l[i]? =some x):(l.map f)[i]? =some (f x):=by rw [List.getElem?_map,h]; rfl
theorem aS {p G:Prop} {i:Decidable p} (k:p→G):decide p=true→G:=fun h=>k (of_decide_eq_true h)
theorem aR {p G:Prop} {i:Decidable p} (k: ¬ p→G):decide p=false→G:=fun h=>k (of_decide_eq_false h)
theorem aX {p G:Prop} {i:Decidable p} (k: ¬ p→G):(!decide p)=true→G:=fun h=>k (by simpa using h)
theorem aW {p G:Prop} {i:Decidable p} (k:p→G):(!decide p)=false→G:=fun h=>k (by simpa using h)
abbrev vI (n:Int):Value:= .int .i64 n
theorem cB {a b:Bool} (h:a=b):Value.bool a=Value.bool b:=congrArg _ h
theorem cI {a b:Int} (h:a=b):Value.int .i64 a=Value.int .i64 b:=congrArg _ h
abbrev aI:= @List.mem_of_getElem?
abbrev dr:= @List.getElem?_eq_getElem
abbrev aJ:= @List.getElem?_eq_some_iff
abbrev aQ:= @decide_eq_false
abbrev dm:= @decide_eq_true
abbrev eT:= @List.getElem?_map
abbrev cu:= @List.mem_singleton
abbrev bE:= @List.mem_cons
abbrev ez:= @List.mem_cons_self
abbrev da:= @List.pairwise_iff_getElem
abbrev bP:= @List.mem_map
abbrev iq:= @List.all_cons
abbrev bY:= @List.all_eq_true
abbrev e9:= @List.eq_nil_of_length_eq_zero
abbrev dV:= @List.mem_append
abbrev eh:= @List.mem_cons_of_mem
abbrev bU:= @Bool.and_eq_true
abbrev dQ:= @decide_eq_decide
abbrev vP (b:Nat):Value:= .pointer (some ⟨b,0,none⟩)
abbrev vS (a:Option Addr) (n c:Nat):Value:= .slice a n c
abbrev vB (b:Bool):Value:= .bool b
abbrev vA (l:List Value):Value:= .agg l.toArray
abbrev vT (l:List Value):Value:= .tuple l.toArray
abbrev OA:=Option Addr
abbrev bT:=List (Nat×Value)
abbrev dH:=List Deferred
abbrev Fw (r:Option Nat):Fence:={fn:=fun _=>True,depth:=none,alive:=false,round:=r}
theorem iS {P:Program} {f:FuncId} {args:Array Value} {w:World} {R:Ending→World→Prop} (r:Option Nat) (h:Calls P f args w R):CallsIn (Fw r) 0 P f args w R:=
 (callsIn_wide (n:=0)).2 h
theorem lF {P:Program} {f:FuncId} {args:Array Value} {w:World} {R:Ending→World→Prop} (h:CallsIn (Fw none) 0 P f args w R):Calls P f args w R:=
 (callsIn_wide (n:=0)).1 h
structure Fr (n:Nat) (D:dH) (L:bT) (a:Act):Prop where
 defers:a.defers=D
 size:a.tmps.size=n
 at_: ∀ t v,L.lookup t=some v→a.tmps[t]? =some v
def ev (L:bT):Operand→Option Value
 | .tmp t=>L.lookup t
 | .const v=>some v
 | .global g=>some (.pointer (some ⟨g,0,none⟩))
 | .func f=>some (.func (.func f) #[] #[])
theorem Fr.ev {n:Nat} {D:dH} {L:bT} {a:Act} (h:Fr n D L a) {x:Operand} {v:Value} (hx:ev L x=some v):a.eval x=v:=by
 cases x with
 |tmp t=>have:=h.at_ t v hx; simp [Act.eval,this]
 |const u=>simpa [Go.Proofs.YtpfjokbjambohaaGreat.ev,Act.eval] using hx
 |global g=>simpa [Go.Proofs.YtpfjokbjambohaaGreat.ev,Act.eval] using hx
 |func f=>simpa [Go.Proofs.YtpfjokbjambohaaGreat.ev,Act.eval] using hx
theorem Fr.put {n:Nat} {D:dH} {L:bT} {a:Act} (h:Fr n D L a) {d:Nat} (hd:d<n) (v:Value):Fr n D ((d,v)::L) (a.put (some d) v):=by
 refine ⟨h.defers,by simp [Act.put,h.size],fun t u hu=>?_⟩
 simp only [Act.put]
 by_cases e:t=d
 ·subst e
  simp only [List.lookup,beq_self_eq_true] at hu
  rw [Array.getElem?_setIfInBounds_self_of_lt (by rw [h.size]; exact hd)]; exact hu
 ·have:(t==d)=false:=by simpa using e
  simp only [List.lookup,this] at hu
  rw [Array.getElem?_setIfInBounds_ne (fun x=>e x.symm)]
  exact h.at_ t u hu
/-- fewer slots are known -/
def cE (L L':bT):Prop:= ∀ t v,L'.lookup t=some v→L.lookup t=some v
theorem cE.nil (L:bT):cE L []:=fun _ _ h=>by simp [List.lookup] at h
theorem cE.cons {L L':bT} {t:Nat} {v:Value} (h:L.lookup t=some v) (k:cE L L'):cE L ((t,v)::L'):=fun s u hu=>by
 by_cases e:s=t
 ·subst e; simp only [List.lookup,beq_self_eq_true] at hu; exact h.trans hu
 ·have:(s==t)=false:=by simpa using e
  simp only [List.lookup,this] at hu; exact k s u hu
theorem Fr.sub {n:Nat} {D:dH} {L L':bT} {a:Act} (h:Fr n D L a) (k:cE L L'):Fr n D L' a:=
 ⟨h.defers,h.size,fun t v hv=>h.at_ t v (k t v hv)⟩
structure ah where
 cH:Nat→Prop
 /-- what of it may be written -/
 wf:Nat→Prop
 holds:World→Prop
 /-- all of it may be written -/
 wr:Bool
 fE: ∀ b,wf b→cH b
 whole:wr=true→ ∀ b,cH b→wf b
 lt: ∀ w,holds w→ ∀ b,cH b→b<w.heap.size
 h_: ∀ w w':World,(∀ b,cH b→w'.heap[b]? =w.heap[b]?)→holds w→holds w'
def rO (A B:ah):Prop:= ∀ b,A.cH b→B.cH b→ ¬ A.wf b∧ ¬ B.wf b
abbrev NS:=Nat→Prop
def no:NS:=fun _=>False
def only (b:Nat):NS:=fun k=>k=b
/-- what may be written, and what may be read, of the blocks that were there -/
structure BS where
 w:NS
 r:NS
def j4:BS:=⟨no,fun _=>True⟩
theorem rO.symm {A B:ah} (h:rO A B):rO B A:=fun b hb ha=>(h b ha hb).symm
/-- all but the blocks of S is as it was; nothing of the streams has turned -/
structure bX (S:NS) (w w':World):Prop where
 os:w'.os=w.os
 tape:w'.tape=w.tape
 output:w'.output=w.output
 size:w.heap.size≤w'.heap.size
 block: ∀ k,k<w.heap.size→ ¬ S k→w'.heap[k]? =w.heap[k]?
theorem bX.refl (S:NS) (w:World):bX S w w:=⟨rfl,rfl,rfl,Nat.le_refl _,fun _ _ _=>rfl⟩
theorem bX.trans {S:NS} {a b c:World} (h:bX S a b) (k:bX S b c):bX S a c:=
 ⟨k.os.trans h.os,k.tape.trans h.tape,k.output.trans h.output,Nat.le_trans h.size k.size,fun i hi hs=>(k.block i (Nat.lt_of_lt_of_le hi h.size) hs).trans (h.block i hi hs)⟩
theorem bX.mono {S S':NS} {a b:World} (h:bX S a b) (hs: ∀ k,S k→S' k):bX S' a b:=
 ⟨h.os,h.tape,h.output,h.size,fun i hi hn=>h.block i hi (fun hm=>hn (hs i hm))⟩
theorem bX.below {w w':World} (h:bX no w w'):Below w.heap.size w w':=⟨h.os,h.tape,h.output,h.size,fun k hk=>h.block k hk (fun h=>h)⟩
theorem bX.drew (S:NS) (w:World):bX S w w.drew:=⟨rfl,rfl,rfl,Nat.le_refl _,fun _ _ _=>rfl⟩
theorem bX.alloc (S:NS) (w:World) (o:Obj):bX S w (w.alloc o):=⟨rfl,rfl,rfl,sm,fun k hk _=>Below.heap_alloc w o k hk⟩
/-- the state: what holds of memory, each thing by itself -/
structure St (S:BS) (w0:World) (C:List ah) (w:World):Prop where
 keeps:bX S.w w0 w
 holds: ∀ A∈C,A.holds w
 sep:C.Pairwise rO
 own: ∀ A∈C,∀ b,A.wf b→w0.heap.size≤b∨S.w b
 seen: ∀ A∈C,∀ b,A.cH b→w0.heap.size≤b∨S.r b
/-- C' is a part of C, in whatever order, each thing once -/
theorem St.sub {S:BS} {w0 w:World} {C C':List ah} (h:St S w0 C w) (hs:C'.Pairwise rO) (hm: ∀ A∈C',A∈C):St S w0 C' w:=
 ⟨h.keeps,fun A hA=>h.holds A (hm A hA),hs,fun A hA=>h.own A (hm A hA),fun A hA=>h.seen A (hm A hA)⟩
theorem St.take {S:BS} {w0 w:World} {C C':List ah} (h:St S w0 C w) (hs:C'.Sublist C):St S w0 C' w:=
 h.sub (h.sep.sublist hs) (fun _ hA=>hs.subset hA)
theorem St.perm {S:BS} {w0 w:World} {C C':List ah} (h:St S w0 C w) (hs:C.Perm C'):St S w0 C' w:=
 h.sub (hs.pairwise h.sep (fun k=>rO.symm k)) (fun _ hA=>hs.mem_iff.2 hA)
/-- what is new -/
structure v3 (w w':World) (N:List ah):Prop where
 holds: ∀ A∈N,A.holds w'
 fresh: ∀ A∈N,∀ b,A.cH b→w.heap.size≤b
 sep:N.Pairwise rO
theorem v3.nil (w w':World):v3 w w' []:=⟨sm,sm,List.Pairwise.nil⟩
theorem St.grow {S:BS} {w0 w w':World} {C N:List ah} (h:St S w0 C w) (k:bX no w w') (n:v3 w w' N):St S w0 (N++C) w':=by
 refine ⟨h.keeps.trans (k.mono (fun _ h=>h.elim)),fun A hA=>?_,?_,fun A hA b hb=>?_,fun A hA b hb=>?_⟩
 ·rcases dV.1 hA with hA|hA
  ·exact n.holds A hA
  ·exact A.h_ w w' (fun b hb=>k.block b (A.lt w (h.holds A hA) b hb) (fun h=>h)) (h.holds A hA)
 ·rw [List.pairwise_append]
  refine ⟨n.sep,h.sep,fun A hA B hB b ha hb=>?_⟩
  have D:=n.fresh A hA b ha
  have E:=B.lt w (h.holds B hB) b hb
  omega
 ·rcases dV.1 hA with hA|hA
  ·exact .inl (Nat.le_trans h.keeps.size (n.fresh A hA b (A.fE b hb)))
  ·exact h.own A hA b hb
 ·rcases dV.1 hA with hA|hA
  ·exact .inl (Nat.le_trans h.keeps.size (n.fresh A hA b hb))
  ·exact h.seen A hA b hb
theorem St.same {S:BS} {w0 w w':World} {C:List ah} (h:St S w0 C w) (k:bX no w w'):St S w0 C w':=by
 simpa using h.grow k (v3.nil w w')
structure c_ where
 P:Program
 r:Option Nat
 n:Nat
 S:BS
 w0:World
abbrev bJ:=Exit→Act→World→Prop
/-- code, from a frame and a state -/
def WJ (E:c_) (c:Code) (Q:bJ) (D:dH) (L:bT) (C:List ah):Prop:=
 ∀ a w,Fr E.n D L a→St E.S E.w0 C w→c.wpIn (Fw E.r) 0 E.P Q a w
/-- a thing that is asked of what follows -/
def KJ (E:c_) (K:Act→World→Prop) (D:dH) (L:bT) (C:List ah):Prop:=
 ∀ a w,Fr E.n D L a→St E.S E.w0 C w→K a w
def kK (r:Option Nat) (P:Program) (ops:Array Oper) (Q:bJ):List Oper→Act→World→Prop
 |[],a,w=>Q .normal a w
 |o::rest,a,w=>if Region.wanted o (yielded ops a.tmps) then o.wpIn (Fw r) 0 P a w (kK r P ops Q rest) Q else kK r P ops Q rest (a.put o.dst undef) w
def RJ (E:c_) (ops:Array Oper) (Q:bJ) (rest:List Oper) (D:dH) (L:bT) (C:List ah):Prop:=
 ∀ a w,Fr E.n D L a→St E.S E.w0 C w→kK E.r E.P ops Q rest a w
theorem o7 {F:Fence} {n:Nat} {P:Program} {o:Oper} {a:Act} {N N':Act→World→Prop} {Q Q':bJ} (hn: ∀ a w,N a w→N' a w) (hq: ∀ e a w,Q e a w→Q' e a w):
 ∀ {res:Result Next},o.uponIn F n P a N Q res→o.uponIn F n P a N' Q' res:=by
 intro res h
 cases res with
 |halt x w=>cases x<;>simp only [Oper.uponIn] at h ⊢ <;>first|exact hq _ _ _ h|exact h
 |ok x w=>
  cases x with
  |value v=>exact hn _ _ h
  |skip=>exact hn _ _ h
  |defer d=>exact hn _ _ h
  |enter f args=>
   refine ⟨h.1,h.2.mono fun e w'' he=>?_⟩
   cases e with
   |returned v=>exact hn _ _ he
   |panicked ch=>exact hq _ _ _ he
   |outgrown=>obtain ⟨A,C,B⟩:=he; exact ⟨A,C,hq _ _ _ B⟩
  |row x args=>exact ⟨h.1,h.2.mono fun v w'' he=>hn _ _ he⟩
  |round l f tmps asl bd=>
   refine ⟨h.1,h.2.mono fun e w'' he=>?_⟩
   cases e with
   |returned v=>exact hn _ _ he
   |panicked ch=>exact hq _ _ _ he
   |outgrown=>obtain ⟨A,C,B⟩:=he; exact ⟨A,C,hq _ _ _ B⟩
  |_=>simp [Oper.uponIn] at h
theorem gk {F:Fence} {n:Nat} {P:Program} {o:Oper} {a:Act} {w:World} {N N':Act→World→Prop} {Q Q':bJ} (h:o.wpIn F n P a w N Q) (hn: ∀ a w,N a w→N' a w) (hq: ∀ e a w,Q e a w→Q' e a w):o.wpIn F n P a w N' Q':=
 ⟨h.1,o7 hn hq h.2⟩
theorem qg {r:Option Nat} {P:Program} {ops:Array Oper} {Q:bJ} (l:List Oper): ∀ (k:Nat) (a:Act) (w:World),(∀ j,l[j]? =ops[k+j]?)→kK r P ops Q l a w→wpOpsIn (Fw r) 0 P ops Q (List.range' k l.length) a w:=by
 induction l with
 |nil=>intro k a w _ h; simpa [wpOpsIn,kK] using h
 |cons o l ih=>
  intro k a w hl h
  have A:ops[k]? =some o:=by simpa using (hl 0).symm
  have hl': ∀ j,l[j]? =ops[k+1+j]? :=fun j=>by have:=hl (j+1); simpa [Nat.add_assoc,Nat.add_comm 1 j] using this
  simp only [List.length_cons,List.range'_succ,wpOpsIn,A]
  simp only [kK] at h
  split at h
  ·rename_i hw
   rw [if_pos hw]
   exact gk h (fun a w=>ih _ a w hl') (fun _ _ _ h=>h)
  ·rename_i hw
   rw [if_neg hw]
   exact ⟨fun _ _=>trivial,ih _ _ _ hl' h⟩
theorem aj {E:c_} {id:Nat} {ops:Array Oper} {Q:bJ} {D:dH} {L:bT} {C:List ah} (h:RJ E ops Q ops.toList D L C):WJ E (.region id ops false) Q D L C:=by
 intro a w hf hs
 refine wpIn_region ?_
 have:=qg (r:=E.r) (P:=E.P) (Q:=Q) ops.toList 0 a w sm (h a w hf hs)
 rwa [List.range_eq_range',← Array.length_toList]
theorem aB {E:c_} {ops:Array Oper} {Q:bJ} {D:dH} {L:bT} {C:List ah} (h:KJ E (Q .normal) D L C):RJ E ops Q [] D L C:=h
theorem ai {E:c_} {x y:Code} {Q:bJ} {D:dH} {L:bT} {C:List ah}
 (h: ∀ K:Act→World→Prop,(∀ D L C,WJ E y Q D L C→KJ E K D L C)→WJ E x (Exit.then K Q) D L C):WJ E (.seq x y) Q D L C:=
 fun a w hf hs=>wpIn_seq (h _ (fun _ _ _ hy a w hf hs=>hy a w hf hs) a w hf hs)
theorem aU {E:c_} {K:Act→World→Prop} {Q:bJ} {D:dH} {L:bT} {C:List ah} (h:KJ E K D L C):KJ E (Exit.then K Q .normal) D L C:=h
theorem aF {E:c_} {id:Nat} {Q:bJ} {D:dH} {L:bT} {C:List ah} (h:KJ E (Q .normal) D L C):KJ E (Exit.inBlock id Q .normal) D L C:=h
theorem ab {E:c_} {id:Nat} {K:Act→World→Prop} {Q:bJ} {D:dH} {L:bT} {C:List ah} (h:KJ E (Q (.exit id)) D L C):KJ E (Exit.then K Q (.exit id)) D L C:=h
theorem ax {E:c_} {id:Nat} {Q:bJ} {D:dH} {L:bT} {C:List ah} (h:KJ E (Q .normal) D L C):KJ E (Exit.inBlock id Q (.exit id)) D L C:=fun a w hf hs=>by
 simp only [Exit.inBlock,if_true]; exact h a w hf hs
theorem eH {E:c_} {id id':Nat} {Q:bJ} {D:dH} {L:bT} {C:List ah} (hne:Nat.beq id' id=false) (h:KJ E (Q (.exit id')) D L C):KJ E (Exit.inBlock id Q (.exit id')) D L C:=fun a w hf hs=>by
 have:id'≠id:=fun e=>by subst e; simp at hne
 simp only [Exit.inBlock,this,if_false]; exact h a w hf hs
theorem cg {E:c_} {Q:bJ} {D:dH} {L:bT} {C:List ah} (h:KJ E (Q .normal) D L C):WJ E .skip Q D L C:=fun a w hf hs=>wpIn_skip (h a w hf hs)
theorem an {E:c_} {Q:bJ} {D:dH} {L:bT} {C:List ah} (h:KJ E (Q .ret) D L C):WJ E .ret Q D L C:=fun a w hf hs=>wpIn_ret (h a w hf hs)
theorem bk {E:c_} {id:Nat} {Q:bJ} {D:dH} {L:bT} {C:List ah} (h:KJ E (Q (.exit id)) D L C):WJ E (.exit id) Q D L C:=fun a w hf hs=>wpIn_exit (h a w hf hs)
theorem ay {E:c_} {id:Nat} {c:Code} {Q:bJ} {D:dH} {L:bT} {C:List ah} (h:WJ E c (Exit.inBlock id Q) D L C):WJ E (.block id c) Q D L C:=fun a w hf hs=>wpIn_block (h a w hf hs)
theorem cG {E:c_} {c:Operand} {x y:Code} {b:Bool} {Q:bJ} {D:dH} {L:bT} {C:List ah} (hc:ev L c=some (.bool b))
 (h1:b=true→WJ E x Q D L C) (h2:b=false→WJ E y Q D L C):WJ E (.cond c x y) Q D L C:=by
 intro a w hf hs
 refine wpIn_cond_split (hf.ev hc) (fun hb=>h1 hb a w hf hs) (fun hb=>h2 hb a w hf hs)
theorem aT {E:c_} {c:Operand} {x y:Code} {Q:bJ} {D:dH} {L:bT} {C:List ah} (hc:ev L c=some (.bool true)) (h1:WJ E x Q D L C):WJ E (.cond c x y) Q D L C:=
 cG hc (fun _=>h1) (fun h=>by cases h)
theorem bp {E:c_} {c:Operand} {x y:Code} {Q:bJ} {D:dH} {L:bT} {C:List ah} (hc:ev L c=some (.bool false)) (h1:WJ E y Q D L C):WJ E (.cond c x y) Q D L C:=
 cG hc (fun h=>by cases h) (fun _=>h1)
theorem lu {E:c_} {K:Act→World→Prop} {D:dH} {L L':bT} {C C':List ah} (hL:cE L L') (hC: ∀ w,St E.S E.w0 C w→St E.S E.w0 C' w) (h:KJ E K D L' C'):KJ E K D L C:=
 fun a w hf hs=>h a w (hf.sub hL) (hC w hs)
/-- A loop: a relation over a ghost of whatever type, a measure on it. -/
theorem xQ {E:c_} {c:Code} {Q:bJ} {D:dH} {L:bT} {C:List ah} {ι:Type} (Li:ι→bT) (Ci:ι→List ah) (μ:ι→Nat) (x0:ι)
 (h0:cE L (Li x0)) (hC: ∀ w,St E.S E.w0 C w→St E.S E.w0 (Ci x0) w)
 (round: ∀ x (J:Act→World→Prop),(∀ y D' L' C',D'=D→μ y<μ x→cE L' (Li y)→(∀ w,St E.S E.w0 C' w→St E.S E.w0 (Ci y) w)→KJ E J D' L' C')→WJ E c (Exit.then J Q) D (Li x) (Ci x)):WJ E (.loop c) Q D L C:=by
 intro a w hf hs
 have H: ∃ x,Fr E.n D (Li x) a∧St E.S E.w0 (Ci x) w:=⟨x0,hf.sub h0,hC w hs⟩
 clear hf hs
 have key: ∀ (m:Nat) (a:Act) (w:World),(∃ x,μ x=m∧Fr E.n D (Li x) a∧St E.S E.w0 (Ci x) w)→(Code.loop c).wpIn (Fw E.r) 0 E.P Q a w:=by
  intro m a w hx
  refine wpIn_loop (fun a w=> ∃ x,Fr E.n D (Li x) a∧St E.S E.w0 (Ci x) w) (fun a w=>leastOf fun k=> ∃ x,μ x=k∧Fr E.n D (Li x) a∧St E.S E.w0 (Ci x) w) (by obtain ⟨x,_,h⟩:=hx; exact ⟨x,h⟩) ?_
  intro a w hx
  have F: ∃ k,∃ x,μ x=k∧Fr E.n D (Li x) a∧St E.S E.w0 (Ci x) w:=by obtain ⟨x,h⟩:=hx; exact ⟨_,x,rfl,h⟩
  obtain ⟨x,K,AA,M⟩:=(leastOf_spec F).1
  refine round x _ ?_ a w AA M
  intro y D' L' C' hD G A B a' w' hf' hs'
  subst hD
  refine ⟨⟨y,hf'.sub A,B _ hs'⟩,?_⟩
  rw [← K]
  exact Nat.lt_of_le_of_lt ((leastOf_spec ⟨_,y,U,hf'.sub A,B _ hs'⟩).2 _ ⟨y,U,hf'.sub A,B _ hs'⟩) G
 obtain ⟨x,h⟩:=H
 exact key _ a w ⟨x,U,h⟩
end
section
open Go.RowKit
/-- An operation that yields v, whatever else holds; the state stays. -/
def SD (E:c_) (ops:Array Oper) (o:Oper) (D:dH) (L:bT) (C:List ah) (v:Value):Prop:=
 ∀ a w,Fr E.n D L a→St E.S E.w0 C w→
  (Region.wanted o (yielded ops a.tmps)=true∧o.wpIn (Fw E.r) 0 E.P a w (fun a' w'=>a'=a.put o.dst v∧bX no w w') (fun _ _ _=>False))∨
  (Region.wanted o (yielded ops a.tmps)=false∧v=undef)
/-- in the text's order -/
theorem yC {E:c_} {ops:Array Oper} {Q:bJ} {o:Oper} {rest:List Oper} {D:dH} {L:bT} {C:List ah} {v:Value} {d:Nat}
 (h:SD E ops o D L C v) (ho:o.dst=some d) (hd:Nat.blt d E.n=true) (k:RJ E ops Q rest D ((d,v)::L) C):RJ E ops Q (o::rest) D L C:=by
 intro a w hf hs
 have hd':d<E.n:=by rw [← Nat.blt_eq]; exact hd
 unfold kK
 rcases h a w hf hs with ⟨hw,hh⟩|⟨hw,rfl⟩
 ·rw [if_pos hw]
  refine gk hh (fun a' w' ⟨ha,hs'⟩=>?_) (fun _ _ _ hF=>hF.elim)
  subst ha
  rw [ho]
  exact k _ _ (hf.put hd' v) (hs.same hs')
 ·rw [if_neg (by simp [hw]),ho]
  exact k _ _ (hf.put hd' _) hs
/-- the operations in the text's order, each with what it yields -/
def DJ (E:c_) (ops:Array Oper) (D:dH) (C:List ah) (F:bT→Prop):List Oper→bT→Prop
 |[],L=>F L
 |o::rest,L=> ∃ d v,o.dst=some d∧d<E.n∧SD E ops o D L C v∧DJ E ops D C F rest ((d,v)::L)
theorem zu {E:c_} {ops:Array Oper} {F:bT→Prop} {o:Oper} {rest:List Oper} {D:dH} {L:bT} {C:List ah} {v:Value} {d:Nat}
 (h:SD E ops o D L C v) (ho:o.dst=some d) (hd:Nat.blt d E.n=true) (k:DJ E ops D C F rest ((d,v)::L)):DJ E ops D C F (o::rest) L:=
 ⟨d,v,ho,by rw [← Nat.blt_eq]; exact hd,h,k⟩
/-- a set of numbers that is closed downwards -/
def kT (ops:Array Oper) (S:Nat→Prop) (j:Nat):Prop:= ∀ o e,ops[j]? =some o→e∈o.after→Region.binds .any e=true→S e.on
/-- who stands before an operation, by the edges: a set of numbers as the bits of one -/
def yU (o:Oper) (acc:Array Nat):Nat:=o.after.toList.foldl (fun s e=>if Region.binds .any e then s ||| (2^e.on ||| acc.getD e.on 0) else s) 0
def xb:List Oper→Array Nat→Array Nat
 |[],acc=>acc
 |o::os,acc=>xb os (acc.push (yU o acc))
def jE (ops:Array Oper):Array Nat:=xb ops.toList #[]
def dR (m:Array Nat) (j i:Nat):Bool:=(m.getD i 0).testBit j
theorem s7 (acc:Array Nat) (j:Nat): ∀ (es:List Edge) (s:Nat),(es.foldl (fun s e=>if Region.binds .any e then s ||| (2^e.on ||| acc.getD e.on 0) else s) s).testBit j=true→
 s.testBit j=true∨ ∃ e∈es,Region.binds .any e=true∧(e.on=j∨(acc.getD e.on 0).testBit j=true):=by
 intro es
 induction es with
 |nil=>intro s h; exact .inl h
 |cons e es ih=>
  intro s h
  simp only [List.foldl_cons] at h
  rcases ih _ h with A|⟨e',he',hb,hc⟩
  ·by_cases hb:Region.binds .any e=true
   ·rw [if_pos hb] at A
    simp only [Nat.testBit_or,Bool.or_eq_true] at A
    rcases A with A|A|A
    ·exact .inl A
    ·refine .inr ⟨e,sm,hb,.inl ?_⟩
     rw [Nat.testBit_two_pow] at A
     exact of_decide_eq_true A
    ·exact .inr ⟨e,sm,hb,.inr A⟩
   ·rw [if_neg hb] at A; exact .inl A
  ·exact .inr ⟨e',by simp [he'],hb,hc⟩
theorem o8 {ops:Array Oper} {S:Nat→Prop} (hS: ∀ j,S j→kT ops S j): ∀ (os:List Oper) (acc:Array Nat),(∀ k,os[k]? =ops[acc.size+k]?)→
 (∀ i j,(acc.getD i 0).testBit j=true→kT ops S i→S j)→ ∀ i j,((xb os acc).getD i 0).testBit j=true→kT ops S i→S j:=by
 intro os
 induction os with
 |nil=>intro acc _ h; exact h
 |cons o os ih=>
  intro acc hk h
  refine ih _ (fun k=>by have:=hk (k+1); simp only [Array.size_push]; rw [show acc.size+1+k=acc.size+(k+1) from by omega]; simpa using this) ?_
  intro i j hb hd
  have D:ops[acc.size]? =some o:=by simpa using (hk 0).symm
  simp only [Array.getD_eq_getD_getElem?,Array.getElem?_push] at hb
  by_cases e:i=acc.size
  ·subst e
   simp only [if_true,Option.getD_some] at hb
   rcases s7 acc j _ _ hb with A|⟨e,he,B,A⟩
   ·simp at A
   ·have C:S e.on:=hd o e D (by simpa using he) B
    rcases A with A|A
    ·exact A▸C
    ·exact h _ _ A (hS _ C)
  ·rw [if_neg e] at hb
   exact h i j (by rw [Array.getD_eq_getD_getElem?]; exact hb) hd
theorem ee {ops:Array Oper} {S:Nat→Prop} (hS: ∀ j,S j→kT ops S j) {i j:Nat} (h:dR (jE ops) j i=true) (hd:kT ops S i):S j:=
 o8 hS ops.toList #[] sm (fun i j hb=>by simp at hb) i j h hd
/-- what is asked of a region's first n operations: each writes a slot of its own; whoever writes a slot that another looks at stands before it or behind it by the edges; the rest waits for all that stands before it -/
def zy (m:Array Nat) (ops:Array Oper) (n:Nat):Bool:=
 Nat.ble n ops.size&&
 ((List.range ops.size).all fun i=>match ops[i]? with
  |none=>false
  |some o=>o.after.toList.all fun e=> !Region.binds .any e||Nat.blt e.on i)&&
 ((List.range n).all fun i=>match ops[i]? with
  |none=>false
  |some o=>o.dst.isSome&& !(match o.op with | .select .. =>true| .defer _=>true|_=>false)&&
   (List.range n).all fun j=>j==i||match ops[j]? with
    |none=>false
    |some p=>match p.dst with
     |none=>false
     |some d=>o.dst != some d&&(!(o.looksAt ops).contains d||(if j<i then dR m j i else dR m i j)))&&
 ((List.range' n (ops.size-n)).all fun i=>(List.range i).all fun j=>dR m j i)
def AU (ops:Array Oper) (n:Nat):Bool:=zy (jE ops) ops n
structure zD (ops:Array Oper) (n:Nat):Prop where
 le:n≤ops.size
 oz: ∀ i o e,ops[i]? =some o→e∈o.after→Region.binds .any e=true→e.on<i
 plain: ∀ i o,i<n→ops[i]? =some o→(∀ cs b,o.op≠ .select cs b)∧(∀ c,o.op≠ .defer c)
 apart: ∀ i j o p d,i<n→j<n→j≠i→ops[i]? =some o→ops[j]? =some p→p.dst=some d→o.dst≠some d∧(d∈o.looksAt ops→(j<i∧dR (jE ops) j i=true)∨(i<j∧dR (jE ops) i j=true))
 tail: ∀ i j,n≤i→i<ops.size→j<i→dR (jE ops) j i=true
theorem zD.of {ops:Array Oper} {n:Nat} (h:AU ops n=true):zD ops n:=by
 simp only [AU,zy,bU] at h
 obtain ⟨⟨⟨AA,F⟩,C⟩,G⟩:=h
 have D:n≤ops.size:=Nat.le_of_ble_eq_true AA
 rw [bY] at F C G
 refine ⟨D,?_,?_,?_,?_⟩
 ·intro i o e ho he hb
  have hi:i<ops.size:=(Array.getElem?_eq_some_iff.1 ho).1
  have:=F i (by simpa using hi)
  simp only [ho] at this
  rw [bY] at this
  have:=this e (by simpa using he)
  rw [hb] at this
  simpa using this
 ·intro i o hi ho
  have:=C i (by simpa using hi)
  simp only [ho,bU] at this
  refine ⟨fun cs b hh=>?_,fun c hh=>?_⟩<;>simp [hh] at this
 ·intro i j o p d hi hj E ho hp hd
  have:=C i (by simpa using hi)
  simp only [ho,bU] at this
  have:=this.2
  rw [bY] at this
  have:=this j (by simpa using hj)
  simp only [hp,hd,Bool.or_eq_true,bU,beq_iff_eq,bne_iff_ne,ne_eq] at this
  rcases this with h|⟨H,A⟩
  ·exact absurd h E
  ·refine ⟨H,fun hm=>?_⟩
   rcases A with A|A
   ·simp [hm] at A
   ·by_cases B:j<i
    ·rw [if_pos B] at A; exact .inl ⟨B,A⟩
    ·rw [if_neg B] at A; exact .inr ⟨I,A⟩
 ·intro i j H A J
  have:=G i (by rw [List.mem_range'_1]; omega)
  rw [bY] at this
  exact this j (by simpa using J)
/-- the frame, the activation behind the first i operations -/
def oj:List Oper→List Value→Nat→bT→bT
 |o::os,v::vs,i+1,L=>oj os vs i (match o.dst with |some d=>(d,v)::L|none=>L)
 |_,_,_,L=>L
def fD:List Oper→List Value→Nat→Act→Act
 |o::os,v::vs,i+1,a=>fD os vs i (a.put o.dst v)
 |_,_,_,a=>a
theorem DJ.out {E:c_} {ops:Array Oper} {D:dH} {C:List ah} {F:bT→Prop}: ∀ (os:List Oper) (L:bT),DJ E ops D C F os L→
 ∃ vs:List Value,vs.length=os.length∧F (oj os vs os.length L)∧ ∀ i o,os[i]? =some o→ ∃ d v,o.dst=some d∧d<E.n∧vs[i]? =some v∧SD E ops o D (oj os vs i L) C v:=by
 intro os
 induction os with
 |nil=>intro L h; exact ⟨[],rfl,h,fun i o ho=>by simp at ho⟩
 |cons o os ih=>
  intro L h
  obtain ⟨d,v,ho,hd,B,hk⟩:=h
  obtain ⟨vs,hl,hF,A⟩:=ih _ hk
  refine ⟨v::vs,by simp [hl],by simpa [oj,ho] using hF,fun i o' ho'=>?_⟩
  cases i with
  |zero=>simp at ho'; subst ho'; exact ⟨d,v,ho,hd,sm,by simpa [oj] using B⟩
  |succ i=>
   obtain ⟨d',v',G,H,AA,J⟩:=A i o' (by simpa using ho')
   exact ⟨d',v',G,H,by simpa using AA,by simpa [oj,ho] using J⟩
theorem fA {n:Nat} {D:dH}: ∀ (os:List Oper) (vs:List Value) (i:Nat) (L:bT) (a:Act),(∀ (j:Nat) (o:Oper) (d:Nat),os[j]? =some o→o.dst=some d→d<n)→Fr n D L a→Fr n D (oj os vs i L) (fD os vs i a):=by
 intro os
 induction os with
 |nil=>intro vs i L a _ h; simpa [oj,fD] using h
 |cons o os ih=>
  intro vs i L a hd h
  cases vs with
  |nil=>simpa [oj,fD] using h
  |cons v vs=>
   cases i with
   |zero=>simpa [oj,fD] using h
   |succ i=>
    simp only [oj,fD]
    refine ih vs i _ _ (fun j o' d ho' hd'=>hd (j+1) o' d (by simpa using ho') hd') ?_
    cases ho:o.dst with
    |none=>exact h
    |some d=>exact h.put (hd 0 o d sm ho) v
theorem cN: ∀ (os:List Oper) (vs:List Value) (i:Nat) (a:Act) (t:Nat),(∀ (j:Nat) (o:Oper),j<i→os[j]? =some o→o.dst≠some t)→(fD os vs i a).tmps[t]? =a.tmps[t]? :=by
 intro os
 induction os with
 |nil=>intro vs i a t _; simp [fD]
 |cons o os ih=>
  intro vs i a t h
  cases vs with
  |nil=>simp [fD]
  |cons v vs=>
   cases i with
   |zero=>simp [fD]
   |succ i=>
    simp only [fD]
    rw [ih vs i _ t (fun j o' hj ho'=>h (j+1) o' I (by simpa using ho'))]
    have A:=h 0 o I sm
    cases ho:o.dst with
    |none=>rfl
    |some d=>simp only [Act.put]; rw [Array.getElem?_setIfInBounds_ne (fun e=>A (by rw [ho,e]))]
theorem fy: ∀ (os:List Oper) (vs:List Value) (i:Nat) (a:Act) (k:Nat) (p:Oper) (d:Nat) (v:Value),k<i→os[k]? =some p→p.dst=some d→d<a.tmps.size→vs[k]? =some v→
 (∀ (j:Nat) (o:Oper),j<i→j≠k→os[j]? =some o→o.dst≠some d)→(fD os vs i a).tmps[d]? =some v:=by
 intro os
 induction os with
 |nil=>intro vs i a k p d v _ hp; simp at hp
 |cons o os ih=>
  intro vs i a k p d v hk hp A hd hv h
  cases vs with
  |nil=>simp at hv
  |cons u vs=>
   cases i with
   |zero=>omega
   |succ i=>
    simp only [fD]
    cases k with
    |zero=>
     simp at hp hv
     subst hp hv
     rw [cN os vs i _ d (fun j o' hj ho'=>h (j+1) o' I I (by simpa using ho')),A]
     simp only [Act.put]
     rw [Array.getElem?_setIfInBounds_self_of_lt hd]
    |succ k=>
     refine ih vs i _ k p d v I (by simpa using hp) A ?_ (by simpa using hv) (fun j o' hj B ho'=>h (j+1) o' I I (by simpa using ho'))
     cases o.dst<;>simp [Act.put,hd]
theorem nV {a a':Act} {t:Nat} (h:a.tmps[t]? =a'.tmps[t]?):a.eval (.tmp t)=a'.eval (.tmp t):=by simp [Act.eval,h]
theorem mX {ops:Array Oper} {o:Oper} {a a':Act} (h: ∀ t∈o.looksAt ops,a.tmps[t]? =a'.tmps[t]?): ∀ x∈o.op.operands,a.eval x=a'.eval x:=by
 intro x hx
 cases x with
 |tmp t=>exact nV (h t (List.mem_append_left _ (List.mem_filterMap.2 ⟨.tmp t,by simpa using hx,rfl⟩)))
 |_=>rfl
theorem kD {ops:Array Oper} {o:Oper} {a a':Act} (h: ∀ t∈o.looksAt ops,a.tmps[t]? =a'.tmps[t]?):Region.wanted o (yielded ops a.tmps)=Region.wanted o (yielded ops a'.tmps):=by
 unfold Region.wanted
 cases hg:o.guard with
 |none=>rfl
 |some gw=>
  obtain ⟨g,want⟩:=gw
  have hy:yielded ops a.tmps g=yielded ops a'.tmps g:=by
   unfold yielded
   cases ht:(ops[g]?).bind (·.dst) with
   |none=>rfl
   |some t=>simp only [Option.bind_some]; rw [h t (List.mem_append_right _ (by simp [hg,ht]))]
  simp only [hy]
/-- what an operation does hangs on the slots that it looks at alone -/
theorem km {E:c_} {ops:Array Oper} {o:Oper} {D:dH} {L:bT} {C:List ah} {v:Value} {d:Nat} (h:SD E ops o D L C v) (ho:o.dst=some d) (hd:d<E.n)
 (hsel: ∀ cs b,o.op≠ .select cs b) (hdef: ∀ c,o.op≠ .defer c) {a a':Act} (hf:Fr E.n D L a') (hl: ∀ t∈o.looksAt ops,a.tmps[t]? =a'.tmps[t]?) {w:World} (hs:St E.S E.w0 C w)
 {N:Act→World→Prop} {Q:bJ} (hn: ∀ w',bX no w w'→N (a.put (some d) v) w'):
 if Region.wanted o (yielded ops a.tmps) then o.wpIn (Fw E.r) 0 E.P a w N Q else (∀ f,o.about E.P w a.eval=some f→(Fw E.r).fn f)∧N (a.put o.dst undef) w:=by
 rw [kD hl]
 rcases h a' w hf hs with ⟨hw,hh⟩|⟨hw,rfl⟩
 ·rw [if_pos hw]
  refine ⟨fun _ _=>trivial,?_⟩
  have A:=hh.2
  rw [Oper.semAt_eq _ _ _ hdef] at A ⊢
  rw [execOp_congr (ρ:=a.eval) (ρ':=a'.eval) o hsel (mX hl)]
  have F: ∀ u,a'.put o.dst u=a'.put o.dst v→u=v:=by
   intro u hu
   rw [ho] at hu
   have:=congrArg (fun b:Act=>b.tmps[d]?) hu
   simp only [Act.put] at this
   rw [Array.getElem?_setIfInBounds_self_of_lt (by rw [hf.size]; exact hd),Array.getElem?_setIfInBounds_self_of_lt (by rw [hf.size]; exact hd)] at this
   injection this
  have B: ∀ u w',(a'.put o.dst u=a'.put o.dst v∧bX no w w')→N (a.put o.dst u) w':=by
   rintro u w' ⟨hu,hs'⟩
   rw [F u hu,ho]
   exact hn w' hs'
  generalize (execOp a'.eval o).run E.P w=res at A
  cases res with
  |halt x w'=>cases x<;>simp [Oper.uponIn] at A
  |ok x w'=>
   cases x with
   |value u=>exact B u w' A
   |skip=>exact B _ w' A
   |defer dd=>
    have G:({a' with defers:=dd::a'.defers}:Act).put o.dst undef=a'.put o.dst v:=A.1
    rw [ho] at G
    have:=congrArg (fun b:Act=>b.defers.length) G
    simp [Act.put] at this
   |enter f args=>
    refine ⟨A.1,A.2.mono fun e w'' he=>?_⟩
    cases e with
    |returned u=>exact B u w'' he
    |panicked ch=>exact he.elim
    |outgrown=>obtain ⟨_,_,hF⟩:=he; exact hF.elim
   |row x args=>exact ⟨A.1,A.2.mono fun u w'' he=>B u w'' he⟩
   |round l f tmps asl bd=>
    refine ⟨A.1,A.2.mono fun e w'' he=>?_⟩
    cases e with
    |returned u=>exact B u w'' he
    |panicked ch=>exact he.elim
    |outgrown=>obtain ⟨_,_,hF⟩:=he; exact hF.elim
   |_=>simp [Oper.uponIn] at A
 ·rw [if_neg (by simp [hw])]
  refine ⟨fun _ _=>trivial,?_⟩
  rw [ho]
  exact hn w (bX.refl _ _)
theorem uY {E:c_} {ops:Array Oper} {o:Oper} {D:dH} {L:bT} {C:List ah} {v:Value} {d:Nat} (h:SD E ops o D L C v) (ho:o.dst=some d) (hd:d<E.n)
 (hsel: ∀ cs b,o.op≠ .select cs b) (hdef: ∀ c,o.op≠ .defer c) {a a':Act} (hf:Fr E.n D L a') (hl: ∀ t∈o.looksAt ops,a.tmps[t]? =a'.tmps[t]?) {w:World} (hs:St E.S E.w0 C w)
 {N:Act→World→Prop} {Q:bJ} (hn: ∀ w',St E.S E.w0 C w'→N (a.put (some d) v) w'):
 if Region.wanted o (yielded ops a.tmps) then o.wpIn (Fw E.r) 0 E.P a w N Q else (∀ f,o.about E.P w a.eval=some f→(Fw E.r).fn f)∧N (a.put o.dst undef) w:=
 km h ho hd hsel hdef hf hl hs (fun w' hk=>hn w' (hs.same hk))
def pH (n:Nat) (listed:Array Bool):List Nat:=(List.range n).filter fun i=> !listed.getD i false
theorem gJ {n:Nat} {listed:Array Bool} {i:Nat}:i∈pH n listed↔i<n∧listed.getD i false=false:=by simp [pH]
theorem iZ {listed:Array Bool} {i j:Nat} (hi:i<listed.size) (d:Bool):(listed.setIfInBounds i true).getD j d=if j=i then true else listed.getD j d:=by
 simp only [Array.getD_eq_getD_getElem?]
 by_cases e:j=i
 ·subst e; rw [Array.getElem?_setIfInBounds_self_of_lt hi]; simp
 ·rw [Array.getElem?_setIfInBounds_ne (fun h=>e h.symm)]; simp [e]
theorem vL {n:Nat} {listed:Array Bool} {i:Nat} (hi:i<listed.size):pH n (listed.setIfInBounds i true)=(pH n listed).filter (fun j=>j != i):=by
 unfold pH
 rw [List.filter_filter]
 refine List.filter_congr fun j _=>?_
 rw [iZ hi]
 by_cases e:j=i<;>simp [e]
theorem od {n:Nat} {listed:Array Bool} {i:Nat} (hi:i<listed.size) (hm:i∈pH n listed):(pH n (listed.setIfInBounds i true)).length<(pH n listed).length:=by
 rw [vL hi]
 exact List.length_filter_lt_length_iff_exists.2 ⟨i,hm,sm⟩
section
variable {ops:Array Oper} {listed:Array Bool}
theorem kd {i:Nat} (hs:listed.size=ops.size) (hi:i<ops.size) (hu:listed.getD i false=false) (hd:kT ops (fun k=>listed.getD k false=true) i):i∈Region.ready .any ops listed:=by
 rw [mem_ready]
 obtain ⟨o,ho⟩: ∃ o,ops[i]? =some o:=⟨ops[i],Array.getElem?_eq_getElem hi⟩
 refine ⟨?_,o,ho,?_⟩
 ·rw [Array.getD_eq_getD_getElem?] at hu ⊢
  rw [Array.getElem?_eq_getElem I] at hu ⊢
  exact hu
 ·intro e he hb
  exact hd o e ho he hb
theorem fT {i:Nat} (hs:listed.size=ops.size) (h:i∈Region.ready .any ops listed):i<ops.size∧listed.getD i false=false∧kT ops (fun k=>listed.getD k false=true) i:=by
 obtain ⟨hu,o,ho,A⟩:=mem_ready.1 h
 have hi:i<ops.size:=(Array.getElem?_eq_some_iff.1 ho).1
 refine ⟨hi,?_,fun o' e ho' he hb=>?_⟩
 ·rw [Array.getD_eq_getD_getElem?] at hu ⊢
  rw [Array.getElem?_eq_getElem I] at hu ⊢
  exact hu
 ·rw [ho] at ho'; cases ho'
  exact A e he hb
end
section
variable {r:Option Nat} {P:Program} {ops:Array Oper} {Q:bJ} {n:Nat}
theorem pd (hc:zD ops n): ∀ (fuel:Nat) (listed:Array Bool) (a:Act) (w:World) (m:Nat),listed.size=ops.size→n≤m→(∀ i,i<ops.size→(listed.getD i false=true↔i<m))→(pH ops.size listed).length≤fuel→
 kK r P ops Q (ops.toList.drop m) a w→wpAnyIn (Fw r) 0 P .any ops Q fuel listed a w:=by
 intro fuel
 induction fuel with
 |zero=>
  intro listed a w m C AA hm hf h
  have F: ∀ i,i<ops.size→listed.getD i false=true:=fun i hi=>by
   cases hg:listed.getD i false with
   |true=>rfl
   |false=>
    have:i∈pH ops.size listed:=gJ.2 ⟨hi,hg⟩
    have:=List.length_pos_of_mem this
    omega
  have T:ops.size≤m:=by
   rcases Nat.lt_or_ge m ops.size with A|H
   ·have:=(hm m A).1 (F m A); omega
   ·exact H
  refine ⟨?_,?_⟩
  ·rw [List.eq_nil_iff_forall_not_mem]
   intro i hi
   obtain ⟨L,AB,_⟩:=fT C hi
   rw [F i L] at AB; cases AB
  ·rw [List.drop_eq_nil_of_le (by simpa using T)] at h
   exact h
 |succ fuel ih=>
  intro listed a w m C AA hm hf h
  have M: ∀ j,j<ops.size→listed.getD j false=true→kT ops (fun k=>listed.getD k false=true) j:=fun j hj hl o e ho he hb=>by
   have L:=hc.oz j o e ho he hb
   have AB:=(hm j hj).1 hl
   exact (hm e.on I).2 I
  rcases Nat.lt_or_ge m ops.size with A|H
  ·obtain ⟨o,ho⟩: ∃ o,ops[m]? =some o:=⟨ops[m],Array.getElem?_eq_getElem A⟩
   have R:m∈Region.ready .any ops listed:=kd C A (by
    cases hg:listed.getD m false with
    |false=>rfl
    |true=>have:=(hm m A).1 hg; omega) (fun o' e ho' he hb=>(hm e.on (by have:=hc.oz m o' e ho' he hb; omega)).2 (hc.oz m o' e ho' he hb))
   refine ⟨fun K=>absurd R (by rw [K]; simp),fun i hi=>?_⟩
   obtain ⟨D,B,N⟩:=fT C hi
   have O:i=m:=by
    have L:m≤i:=by
     rcases Nat.lt_or_ge i m with hlt'|hge'
     ·have:=(hm i D).2 hlt'; rw [this] at B; cases B
     ·exact hge'
    rcases Nat.lt_or_ge m i with AB|AB
    ·have J:=hc.tail i m I D AB
     have hS:listed.getD m false=true:=ee (S:=fun k=>listed.getD k false=true) (fun j hj=>by
      rcases Nat.lt_or_ge j ops.size with hj'|hj'
      ·exact M j hj' hj
      ·intro o' e ho'; rw [Array.getElem?_eq_none hj'] at ho'; cases ho') J N
     have:=(hm m A).1 hS; omega
    ·omega
   subst O
   have G:ops.toList.drop i=o::ops.toList.drop (i+1):=by
    rw [List.drop_eq_getElem_cons (by simpa using A)]
    congr 1
    have:=(Array.getElem?_eq_some_iff.1 ho).2
    simpa using this
   rw [G] at h
   simp only [kK] at h
   unfold wpOpIn
   simp only [ho]
   have E: ∀ a' w',kK r P ops Q (ops.toList.drop (i+1)) a' w'→wpAnyIn (Fw r) 0 P .any ops Q fuel (listed.setIfInBounds i true) a' w':=fun a' w' h'=>by
    refine ih _ a' w' (i+1) (by simpa using C) I (fun k hk=>?_) ?_ h'
    ·rw [iZ I]
     by_cases e:k=i
     ·subst e; simp
     ·simp only [e,if_false]; rw [hm k hk]; omega
    ·have:=od (n:=ops.size) I (gJ.2 ⟨D,B⟩)
     omega
   split at h
   ·rename_i hw
    rw [if_pos hw]
    exact gk h E (fun _ _ _ h=>h)
   ·rename_i hw
    rw [if_neg hw]
    exact ⟨fun _ _=>trivial,E _ _ h⟩
  ·refine ⟨fun _=>?_,fun i hi=>?_⟩
   ·rw [List.drop_eq_nil_of_le (by simpa using H)] at h; exact h
   ·obtain ⟨D,B,_⟩:=fT C hi
    have:=(hm i D).2 I
    rw [this] at B; cases B
end
/-- A REGION WHOSE ORDER IS OPEN: its first n operations yield, each by itself, what they yield in the text's order; what stands behind waits for them. -/
theorem eA {E:c_} {id:Nat} {ops:Array Oper} {Q:bJ} {D:dH} {L:bT} {C:List ah} (hm:E.P.follows .mixedOrders=true) (n:Nat) (hc:AU ops n=true)
 (h:DJ E ops D C (fun L'=>RJ E ops Q (ops.toList.drop n) D L' C) (ops.toList.take n) L):WJ E (.region id ops true) Q D L C:=by
 have hc:=zD.of hc
 intro O w0 J BB
 refine wpIn_region_any hm ?_
 have BC:St E.S E.w0 C ({w0 with drawn:=w0.drawn+1}:World):=BB.same (bX.drew no w0)
 obtain ⟨vs,BK,hF,AB⟩:=h.out
 have BJ:(ops.toList.take n).length=n:=by rw [List.length_take]; have:=hc.le; simp; omega
 have B: ∀ i o,(ops.toList.take n)[i]? =some o↔(i<n∧ops[i]? =some o):=fun i o=>by
  rw [List.getElem?_take]
  by_cases hi:i<n<;>simp [hi]
 have Y: ∀ (j:Nat) (o:Oper) (d:Nat),(ops.toList.take n)[j]? =some o→o.dst=some d→d<E.n:=fun j o d ho hd=>by
  obtain ⟨d',v,G,h2,_⟩:=AB j o ho
  rw [G] at hd; cases hd; exact h2
 -- the state of a partial order
 have key: ∀ (fuel:Nat) (listed:Array Bool) (a:Act) (w:World),listed.size=ops.size→(pH ops.size listed).length≤fuel→(∀ j,listed.getD j false=true→kT ops (fun k=>listed.getD k false=true) j)→
  (∀ j,n≤j→listed.getD j false=false)→a.defers=D→a.tmps.size=E.n→St E.S E.w0 C w→
  (∀ t,(∀ j o,j<n→ops[j]? =some o→listed.getD j false=true→o.dst≠some t)→a.tmps[t]? =O.tmps[t]?)→
  (∀ j o d,j<n→ops[j]? =some o→listed.getD j false=true→o.dst=some d→a.tmps[d]? =vs[j]?)→
  wpAnyIn (Fw E.r) 0 E.P .any ops Q fuel listed a w:=by
  intro fuel
  induction fuel with
  |zero=>
   intro listed a w T hu R N hd hz hs AA f
   have hall': ∀ i,i<ops.size→listed.getD i false=true:=fun i hi=>by
    cases hg:listed.getD i false with
    |true=>rfl
    |false=>
     have:=List.length_pos_of_mem (gJ.2 ⟨hi,hg⟩)
     omega
   have hn:n=ops.size:=by
    rcases Nat.lt_or_ge n ops.size with g|A8
    ·have G:=hall' n g; have h2:=N n (Nat.le_refl _); rw [G] at h2; cases h2
    ·exact Nat.le_antisymm hc.le A8
   have W:Fr E.n D (oj (ops.toList.take n) vs (ops.toList.take n).length L) a:=by
    have G:=fA (ops.toList.take n) vs (ops.toList.take n).length L O Y J
    refine ⟨hd,hz,fun t v hv=>?_⟩
    rw [← G.at_ t v hv]
    by_cases hw: ∃ j o,j<n∧ops[j]? =some o∧o.dst=some t
    ·obtain ⟨j,o,hj,ho,A⟩:=hw
     obtain ⟨d',v',V,m,s,_⟩:=AB j o ((B j o).2 ⟨hj,ho⟩)
     rw [A] at V; cases V
     rw [f j o t hj ho (hall' j I) A,s]
     refine (fy (ops.toList.take n) vs _ O j o t v' I ((B j o).2 ⟨hj,ho⟩) A (by rw [J.size]; exact m) s (fun k p hk c hp=>?_)).symm
     obtain ⟨hk',hp'⟩:=(B k p).1 hp
     exact (hc.apart k j p o t hk' hj (Ne.symm c) hp' ho A).1
    ·rw [AA t (fun j o hj ho _ A=>hw ⟨j,o,hj,ho,A⟩)]
     refine (cN (ops.toList.take n) vs _ O t (fun j o _ ho A=>?_)).symm
     obtain ⟨hj,ho'⟩:=(B j o).1 ho
     exact hw ⟨j,o,hj,ho',A⟩
   refine pd hc 0 listed a w n T (Nat.le_refl _) (fun i hi=>⟨fun _=>by omega,fun _=>hall' i hi⟩) hu (hF a w W hs)
  |succ fuel ih=>
   intro listed a w T hu R N hd hz hs AA f
   by_cases H: ∀ i,i<n→listed.getD i false=true
   ·have W:Fr E.n D (oj (ops.toList.take n) vs (ops.toList.take n).length L) a:=by
     have G:=fA (ops.toList.take n) vs (ops.toList.take n).length L O Y J
     refine ⟨hd,hz,fun t v hv=>?_⟩
     rw [← G.at_ t v hv]
     by_cases hw: ∃ j o,j<n∧ops[j]? =some o∧o.dst=some t
     ·obtain ⟨j,o,hj,ho,A⟩:=hw
      obtain ⟨d',v',V,m,s,_⟩:=AB j o ((B j o).2 ⟨hj,ho⟩)
      rw [A] at V; cases V
      rw [f j o t hj ho (H j hj) A,s]
      refine (fy (ops.toList.take n) vs _ O j o t v' I ((B j o).2 ⟨hj,ho⟩) A (by rw [J.size]; exact m) s (fun k p hk c hp=>?_)).symm
      obtain ⟨hk',hp'⟩:=(B k p).1 hp
      exact (hc.apart k j p o t hk' hj (Ne.symm c) hp' ho A).1
     ·rw [AA t (fun j o hj ho _ A=>hw ⟨j,o,hj,ho,A⟩)]
      refine (cN (ops.toList.take n) vs _ O t (fun j o _ ho A=>?_)).symm
      obtain ⟨hj,ho'⟩:=(B j o).1 ho
      exact hw ⟨j,o,hj,ho',A⟩
    refine pd hc (fuel+1) listed a w n T (Nat.le_refl _) (fun i hi=>⟨fun hl=>?_,fun hl=>H i hl⟩) hu (hF a w W hs)
    rcases Nat.lt_or_ge i n with G|G
    ·exact G
    ·rw [N i G] at hl; cases hl
   ·refine ⟨fun A2=>?_,fun i hi=>?_⟩
    ·exfalso
     -- the least that is not listed is ready
     have A6: ∃ i,i<n∧listed.getD i false=false:=by
      rcases Classical.em (∃ i,i<n∧listed.getD i false=false) with G|G
      ·exact G
      ·exact absurd (fun i hi=>by
        cases hg:listed.getD i false with
        |true=>rfl
        |false=>exact absurd ⟨i,hi,hg⟩ G) H
     obtain ⟨i,hi,A0⟩:=exists_least A6
     have hr:i∈Region.ready .any ops listed:=kd T (by have:=hc.le; omega) hi.2 (fun o e ho he hb=>by
      have G:=hc.oz i o e ho he hb
      cases hg:listed.getD e.on false with
      |true=>exact hg
      |false=>exact absurd (A0 e.on ⟨I,hg⟩) I)
     rw [A2] at hr; cases hr
    ·obtain ⟨u,Z,x⟩:=fT T hi
     have b:i<n:=by
      rcases Nat.lt_or_ge i n with G|G
      ·exact G
      ·exfalso
       refine H fun j hj=>?_
       exact ee (S:=fun k=>listed.getD k false=true) R (hc.tail i j G u I) x
     obtain ⟨o,ho⟩: ∃ o,ops[i]? =some o:=⟨ops[i],Array.getElem?_eq_getElem u⟩
     obtain ⟨d,v,l,AQ,BG,BD⟩:=AB i o ((B i o).2 ⟨b,ho⟩)
     obtain ⟨A3,AC⟩:=hc.plain i o b ho
     have A7:=fA (ops.toList.take n) vs i L O Y J
     have z: ∀ t∈o.looksAt ops,a.tmps[t]? =(fD (ops.toList.take n) vs i O).tmps[t]? :=by
      intro t BF
      by_cases hw: ∃ j p,j<n∧j≠i∧ops[j]? =some p∧p.dst=some t
      ·obtain ⟨j,p,hj,c,hp,F⟩:=hw
       obtain ⟨d',v',V,m,s,_⟩:=AB j p ((B j p).2 ⟨hj,hp⟩)
       rw [F] at V; cases V
       have A5:=hc.apart i j o p t b hj c ho hp F
       rcases A5.2 BF with ⟨g,X⟩|⟨g,X⟩
       ·have hS:listed.getD j false=true:=ee (S:=fun k=>listed.getD k false=true) R X x
        rw [f j p t hj hp hS F,s]
        refine (fy (ops.toList.take n) vs i O j p t v' g ((B j p).2 ⟨hj,hp⟩) F (by rw [J.size]; exact m) s (fun k q hk hne' hq=>?_)).symm
        obtain ⟨hk',hq'⟩:=(B k q).1 hq
        exact (hc.apart k j q p t hk' hj (Ne.symm hne') hq' hp F).1
       ·have A1:listed.getD j false=false:=by
         cases hg:listed.getD j false with
         |false=>rfl
         |true=>
          have:=ee (S:=fun k=>listed.getD k false=true) R X (R j hg)
          rw [this] at Z; cases Z
        refine (AA t (fun k q hk hq y M=>?_)).trans (cN (ops.toList.take n) vs i O t (fun k q hk hq M=>?_)).symm
        ·by_cases e:k=j
         ·subst e; rw [y] at A1; cases A1
         ·exact (hc.apart k j q p t hk hj (Ne.symm e) hq hp F).1 M
        ·obtain ⟨hk',hq'⟩:=(B k q).1 hq
         exact (hc.apart k j q p t hk' hj I hq' hp F).1 M
      ·refine (AA t (fun k q hk hq y M=>?_)).trans (cN (ops.toList.take n) vs i O t (fun k q hk hq M=>?_)).symm
       ·by_cases e:k=i
        ·subst e; rw [y] at Z; cases Z
        ·exact hw ⟨k,q,hk,e,hq,M⟩
       ·obtain ⟨hk',hq'⟩:=(B k q).1 hq
        exact hw ⟨k,q,hk',I,hq',M⟩
     unfold wpOpIn
     simp only [ho]
     refine uY BD l AQ A3 AC A7 z hs (fun w' hs'=>?_)
     have K: ∀ j,(listed.setIfInBounds i true).getD j false=if j=i then true else listed.getD j false:=fun j=>iZ I false
     refine ih _ _ w' (by simpa using T) (by have:=od (n:=ops.size) (i:=i) (listed:=listed) I (gJ.2 ⟨u,Z⟩); omega) ?_ ?_ hd (by simp [Act.put,hz]) hs' ?_ ?_
     ·intro j hj o' e ho' he hb
      rw [K] at hj ⊢
      by_cases V:e.on=i
      ·simp [V]
      ·simp only [V,if_false]
       by_cases m:j=i
       ·subst m; exact x o' e ho' he hb
       ·simp only [m,if_false] at hj; exact R j hj o' e ho' he hb
     ·intro j hj
      rw [K,if_neg I]
      exact N j hj
     ·intro t ht
      have BE:d≠t:=fun e=>by subst e; exact ht i o b ho (by rw [K]; simp) l
      simp only [Act.put]
      rw [Array.getElem?_setIfInBounds_ne BE]
      refine AA t (fun j p hj hp hl=>ht j p hj hp (by rw [K]; split<;>simp [hl]))
     ·intro j p d' hj hp hl F
      rw [K] at hl
      simp only [Act.put]
      by_cases e:j=i
      ·subst e
       rw [ho] at hp; cases hp
       rw [l] at F; cases F
       rw [Array.getElem?_setIfInBounds_self_of_lt (by rw [hz]; exact AQ),BG]
      ·simp only [e,if_false] at hl
       have:=(hc.apart i j o p d' b hj e ho hp F).1
       rw [Array.getElem?_setIfInBounds_ne (fun h=>this (by rw [l,h]))]
       exact f j p d' hj hp hl F
 refine key ops.size (Array.replicate ops.size false) O _ sm ?_ ?_ ?_ J.defers J.size BC (fun _ _=>rfl) ?_
 ·unfold pH; exact Nat.le_trans (List.length_filter_le _ _) sm
 ·intro j hj
  simp only [Array.getD_eq_getD_getElem?,Array.getElem?_replicate] at hj
  split at hj<;>simp at hj
 ·intro j _
  simp only [Array.getD_eq_getD_getElem?,Array.getElem?_replicate]
  split<;>rfl
 ·intro j o d _ _ hl
  simp only [Array.getD_eq_getD_getElem?,Array.getElem?_replicate] at hl
  split at hl<;>simp at hl
theorem cR {E:c_} {ops:Array Oper} {Q:bJ} {rest:List Oper} {D:dH} {L:bT} {C:List ah} (h:RJ E ops Q rest D L C):DJ E ops D C (fun L'=>RJ E ops Q rest D L' C) [] L:=h
theorem SD.sub {E:c_} {ops:Array Oper} {o:Oper} {D:dH} {L L':bT} {C:List ah} {v:Value} (hs:cE L L') (h:SD E ops o D L' C v):SD E ops o D L C v:=fun a w hf A=>h a w (hf.sub hs) A
theorem cE.head {L L':bT} (hs:cE L L') (d:Nat) (v:Value):cE ((d,v)::L) ((d,v)::L'):=fun t u hu=>by
 by_cases e:t=d
 ·subst e; simpa [List.lookup] using hu
 ·have he:(t==d)=false:=by simpa using e
  simp only [List.lookup,he] at hu ⊢; exact hs t u hu
theorem DJ.sub {E:c_} {ops:Array Oper} {Q:bJ} {rest:List Oper} {D:dH} {C:List ah}: ∀ {os:List Oper} {L L':bT},cE L L'→DJ E ops D C (fun L'=>RJ E ops Q rest D L' C) os L'→DJ E ops D C (fun L'=>RJ E ops Q rest D L' C) os L:=by
 intro os
 induction os with
 |nil=>intro L L' hs h a w hf B; exact h a w (hf.sub hs) B
 |cons o os ih=>
  intro L L' hs h
  obtain ⟨d,v,ho,hd,A,hk⟩:=h
  exact ⟨d,v,ho,hd,A.sub hs,ih (hs.head d v) hk⟩
theorem dU {E:c_} {ops:Array Oper} {Q:bJ} {rest:List Oper} {D:dH} {C:List ah} {os:List Oper} {L:bT} {t:Nat} {b:Bool} (h:L.lookup t=some (.bool b))
 (h1:b=true→DJ E ops D C (fun L'=>RJ E ops Q rest D L' C) os ((t,.bool true)::L)) (h2:b=false→DJ E ops D C (fun L'=>RJ E ops Q rest D L' C) os ((t,.bool false)::L)):DJ E ops D C (fun L'=>RJ E ops Q rest D L' C) os L:=by
 have A: ∀ v:Bool,b=v→cE L ((t,.bool v)::L):=fun v hv=>cE.cons (hv▸h) (fun _ _ h=>h)
 cases b
 ·exact DJ.sub (A _ U) (h2 U)
 ·exact DJ.sub (A _ U) (h1 U)
end
section
open Go.RowKit
def e6 (ops:Array Oper) (L:bT) (g:Option (Nat×Bool)):Bool:=
 match g with
 |none=>true
 |some (j,b)=>match (ops[j]?).bind (·.dst) with
  |some t=>match L.lookup t with
   |some (.bool b')=>b'==b
   |_=>false
  |none=>false
def pG (ops:Array Oper) (L:bT) (g:Option (Nat×Bool)):Bool:=
 match g with
 |none=>false
 |some (j,b)=>match (ops[j]?).bind (·.dst) with
  |some t=>match L.lookup t with
   |some (.bool b')=>b' != b
   |some (.tuple _)=>true
   |_=>false
  |none=>false
theorem cx {ops:Array Oper} {L:bT} {o:Oper} {n:Nat} {D:dH} {a:Act} (hf:Fr n D L a) (h:e6 ops L o.guard=true):Region.wanted o (yielded ops a.tmps)=true:=by
 unfold Region.wanted
 cases hg:o.guard with
 |none=>rfl
 |some jb=>
  obtain ⟨j,b⟩:=jb
  rw [hg] at h
  simp only [e6] at h
  simp only [yielded]
  cases ht:(ops[j]?).bind (·.dst) with
  |none=>simp [ht] at h
  |some t=>
   simp only [ht] at h
   cases hl:L.lookup t with
   |none=>simp [hl] at h
   |some v=>
    simp only [hl] at h
    cases v<;>simp at h
    subst h
    simp [hf.at_ t _ hl]
theorem oF {ops:Array Oper} {L:bT} {o:Oper} {n:Nat} {D:dH} {a:Act} (hf:Fr n D L a) (h:pG ops L o.guard=true):Region.wanted o (yielded ops a.tmps)=false:=by
 unfold Region.wanted
 cases hg:o.guard with
 |none=>simp [hg,pG] at h
 |some jb=>
  obtain ⟨j,b⟩:=jb
  rw [hg] at h
  simp only [pG] at h
  simp only [yielded]
  cases ht:(ops[j]?).bind (·.dst) with
  |none=>simp [ht] at h
  |some t=>
   simp only [ht] at h
   cases hl:L.lookup t with
   |none=>simp [hl] at h
   |some v=>
    simp only [hl] at h
    cases v<;>simp at h
    ·rename_i b'
     simp [hf.at_ t _ hl]
     cases b<;>cases b'<;>simp_all
    ·simp [hf.at_ t _ hl]
section
variable {E:c_} {ops:Array Oper} {D:List Deferred} {L:List (Nat×Value)} {C:List ah}
/-- passed over -/
theorem s_ {o:Oper} (hg:pG ops L o.guard=true):SD E ops o D L C undef:=fun a w hf hs=> .inr ⟨oF hf hg,rfl⟩
theorem eb {r:Option Nat} {P:Program} {o:Oper} {a:Act} {w w':World} {N:Act→World→Prop} {Q:bJ} {v:Value} (hd: ∀ c,o.op≠ .defer c) (h:(execOp a.eval o).run P w= .ok (.value v) w') (hn:N (a.put o.dst v) w'):o.wpIn (Fw r) 0 P a w N Q:=
 ⟨fun _ _=>trivial,by rw [Oper.semAt_eq _ _ _ hd,h]; exact hn⟩
theorem l0 {r:Option Nat} {P:Program} {o:Oper} {a:Act} {w w':World} {N:Act→World→Prop} {Q:bJ} (hd: ∀ c,o.op≠ .defer c) (h:(execOp a.eval o).run P w= .ok .skip w') (hn:N (a.put o.dst undef) w'):o.wpIn (Fw r) 0 P a w N Q:=
 ⟨fun _ _=>trivial,by rw [Oper.semAt_eq _ _ _ hd,h]; exact hn⟩
theorem cn {o:Oper} {v:Value} (hg:e6 ops L o.guard=true) (hd: ∀ c,o.op≠ .defer c) (h: ∀ a w,Fr E.n D L a→St E.S E.w0 C w→(execOp a.eval o).run E.P w= .ok (.value v) w):SD E ops o D L C v:=
 fun a w hf hs=> .inl ⟨cx hf hg,eb hd (h a w hf hs) ⟨rfl,bX.refl _ _⟩⟩
variable {dst:Option Tmp} {ty:TypeId} {ps:String} {af:Array Edge} {g:Option (Nat×Bool)}
theorem qN {x:Operand} {v:Value} (hg:e6 ops L g=true) (hx:ev L x=some v):SD E ops ⟨dst,.move x,ty,ps,af,g⟩ D L C v:=
 cn hg sm fun a w hf _=>by simp [execOp,hf.ev hx]
theorem nt {x:Operand} {v:Value} (hg:e6 ops L g=true) (hx:ev L x=some v):SD E ops ⟨dst,.assign x,ty,ps,af,g⟩ D L C v:=
 cn hg sm fun a w hf _=>by simp [execOp,hf.ev hx]
def dW (P:Program) (op:BinOp) (t:TypeId) (x y:Operand) (u v r:Value):Prop:= ∀ w,(do eqGuard op t x y u v; binOp op t u v:Sem Value).run P w= .ok r w
theorem cj {op:BinOp} {xt yt:TypeId} {x y:Operand} {u v r:Value} (hg:e6 ops L g=true) (hx:ev L x=some u) (hy:ev L y=some v) (h:dW E.P op xt x y u v r):SD E ops ⟨dst,.binOp op xt x y yt,ty,ps,af,g⟩ D L C r:=
 cn hg sm fun a w hf _=>by
  have:=h w
  simp only [execOp,hf.ev hx,hf.ev hy]
  simp only [Sem.run_bind,Sem.run_pure] at this ⊢
  rw [this]; rfl
theorem xU {xt:TypeId} {x:Operand} {b:Bool} (hg:e6 ops L g=true) (hx:ev L x=some (.bool b)):SD E ops ⟨dst,.unOp .not xt x,ty,ps,af,g⟩ D L C (.bool !b):=
 cn hg sm fun a w hf _=>by simp [execOp,hf.ev hx,Op.unary]
abbrev n8 (n:Int):Prop:= -9223372036854775808≤n∧n≤9223372036854775807
theorem gh {n:Int} (h:n8 n):IntKind.i64.wrap n=n:=by
 obtain ⟨A,B⟩:=h
 rw [IntKind.wrap_i64]
 omega
theorem x4 {xt:TypeId} {x:Operand} {n:Int} (hg:e6 ops L g=true) (hx:ev L x=some (.int .i64 n)) (hb:n8 (-n)):SD E ops ⟨dst,.unOp .neg xt x,ty,ps,af,g⟩ D L C (.int .i64 (-n)):=
 cn hg sm fun a w hf _=>by
  have:(0:Int)-n= -n:=by omega
  simp [execOp,hf.ev hx,Op.unary,Op.intArith,this,gh hb]
theorem nu {c x y:Operand} {v:Value} (hg:e6 ops L g=true) (hc:ev L c=some (.bool true)) (hx:ev L x=some v):SD E ops ⟨dst,.pick c x y,ty,ps,af,g⟩ D L C v:=
 cn hg sm fun a w hf _=>by simp [execOp,hf.ev hc,hf.ev hx,asBool]
theorem nq {c x y:Operand} {v:Value} (hg:e6 ops L g=true) (hc:ev L c=some (.bool false)) (hy:ev L y=some v):SD E ops ⟨dst,.pick c x y,ty,ps,af,g⟩ D L C v:=
 cn hg sm fun a w hf _=>by simp [execOp,hf.ev hc,hf.ev hy,asBool]
theorem eK {st dt:TypeId} {x:Operand} {k k':IntKind} {n m:Int} (hg:e6 ops L g=true) (hx:ev L x=some (.int k' n)) (hs:E.P.underlying st=some (.int k')) (hd:E.P.underlying dt=some (.int k)) (hw:k.wrap n=m):SD E ops ⟨dst,.convert st dt x,ty,ps,af,g⟩ D L C (.int k m):=
 cn hg sm fun a w hf _=>by
  simp [execOp,hf.ev hx,convert,run_underlying hs,run_underlying hd,Conv.intToInt,hw]
def evs (L:bT):List Operand→Option (List Value)
 |[]=>some []
 |x::xs=>match ev L x,evs L xs with
  |some v,some vs=>some (v::vs)
  |_,_=>none
theorem Fr.evs {n:Nat} {a:Act} (h:Fr n D L a): ∀ {xs:List Operand} {vs:List Value},Go.Proofs.YtpfjokbjambohaaGreat.evs L xs=some vs→xs.map a.eval=vs:=by
 intro xs
 induction xs with
 |nil=>intro vs hv; simpa [Go.Proofs.YtpfjokbjambohaaGreat.evs] using hv
 |cons x xs ih=>
  intro vs hv
  simp only [Go.Proofs.YtpfjokbjambohaaGreat.evs] at hv
  cases hx:Go.Proofs.YtpfjokbjambohaaGreat.ev L x with
  |none=>simp [hx] at hv
  |some u=>
   cases hxs:Go.Proofs.YtpfjokbjambohaaGreat.evs L xs with
   |none=>simp [hx,hxs] at hv
   |some us=>simp [hx,hxs] at hv; subst hv; simp [h.ev hx,ih hxs]
theorem nN {a b:Int}:(a==b)=decide (a=b):=by by_cases h:a=b<;>simp [h]
section
variable {P:Program} {t:TypeId} {x y:Operand} {a b:Int} {k:IntKind}
theorem jI (h:n8 (a+b)):dW P .add t x y (.int .i64 a) (.int .i64 b) (.int .i64 (a+b)):=fun w=>by simp [eqGuard_add,binOp_add,Op.intArith,gh h]
theorem q7 (h:n8 (a-b)):dW P .sub t x y (.int .i64 a) (.int .i64 b) (.int .i64 (a-b)):=fun w=>by simp [eqGuard_sub,binOp_sub,Op.intArith,gh h]
theorem ym (h:n8 (a*b)):dW P .mul t x y (.int .i64 a) (.int .i64 b) (.int .i64 (a*b)):=fun w=>by simp [eqGuard_mul,binOp_mul,Op.intArith,gh h]
theorem wI (h0:0≤a) (h1:0<b) (h:a≤9223372036854775807):dW P .quo t x y (.int .i64 a) (.int .i64 b) (.int .i64 (a/b)):=fun w=>by
 have hb:b≠0:=by omega
 have A:0≤a/b:=Int.ediv_nonneg h0 I
 have B:a/b≤a:=Int.ediv_le_self b h0
 simp [eqGuard_quo,binOp_quo,Op.intDiv,hb,Int.tdiv_eq_ediv_of_nonneg h0,gh (show n8 (a/b) from ⟨I,I⟩)]
theorem zo (h0:0≤a) (h1:0<b):dW P .rem t x y (.int k a) (.int k b) (.int k (a % b)):=fun w=>by
 have hb:b≠0:=by omega
 simp [eqGuard_rem,binOp_rem,Op.intDiv,hb,Int.tmod_eq_emod_of_nonneg h0]
theorem ry:dW P .lss t x y (.int k a) (.int k b) (.bool (decide (a<b))):=fun w=>by simp [eqGuard_lss,binOp_lss]
theorem nj:dW P .leq t x y (.int k a) (.int k b) (.bool (decide (a≤b))):=fun w=>by simp [eqGuard_leq,binOp_leq]
theorem wD:dW P .gtr t x y (.int k a) (.int k b) (.bool (decide (b<a))):=fun w=>by simp [eqGuard_gtr,binOp_gtr]
theorem re:dW P .geq t x y (.int k a) (.int k b) (.bool (decide (b≤a))):=fun w=>by simp [eqGuard_geq,binOp_geq]
theorem kf:dW P .eql t x y (.int k a) (.int k b) (.bool (decide (a=b))):=fun w=>by simp [eqGuard_at_int,binOp_eql]; exact nN
theorem eY:dW P .neq t x y (.int k a) (.int k b) (.bool (!decide (a=b))):=fun w=>by simp [eqGuard_at_int,binOp_neq,bne]; exact nN
end
theorem tI {x:Operand} {t e:TypeId} {A:OA} {n c:Nat} (hg:e6 ops L g=true) (hx:ev L x=some (.slice A n c)) (ht:E.P.underlying t=some (.slice e)):
 SD E ops ⟨dst,.call {callee:= .builtin .len,args:= #[x],argTypes:= #[t]},ty,ps,af,g⟩ D L C (.int .i64 n):=
 cn hg sm fun a w hf _=>by
  simp [execOp,resolve,invoke,builtin,Builtin.len_,hf.ev hx,run_underlying ht,goInt]
theorem x8 {x y:Operand} {ts:Array TypeId} {a b:Int} {k:IntKind} (hg:e6 ops L g=true) (hx:ev L x=some (.int k a)) (hy:ev L y=some (.int k b)):
 SD E ops ⟨dst,.call {callee:= .builtin .min,args:= #[x,y],argTypes:=ts},ty,ps,af,g⟩ D L C (.int k (min a b)):=
 cn hg sm fun c w hf _=>by
  have:(if b<a then b else a)=min a b:=by omega
  simp [execOp,resolve,invoke,builtin,Builtin.min_,Builtin.min2,hf.ev hx,hf.ev hy,this]
theorem xK {x y:Operand} {ts:Array TypeId} {a b:Int} {k:IntKind} (hg:e6 ops L g=true) (hx:ev L x=some (.int k a)) (hy:ev L y=some (.int k b)):
 SD E ops ⟨dst,.call {callee:= .builtin .max,args:= #[x,y],argTypes:=ts},ty,ps,af,g⟩ D L C (.int k (max a b)):=
 cn hg sm fun c w hf _=>by
  have:(if a<b then b else a)=max a b:=by omega
  simp [execOp,resolve,invoke,builtin,Builtin.max_,Builtin.max2,hf.ev hx,hf.ev hy,this]
end
end
section
open Go.RowKit
def ah.ro (A:ah):ah:={A with wf:=fun _=>False,wr:=false,fE:=fun _ h=>h.elim,whole:=fun h=>by cases h}
theorem cU {w:World} {g:Nat} {o:Obj} (h:w.heap[g]? =some o):g<w.heap.size:=(Array.getElem?_eq_some_iff.1 h).1
/-- a block of one's own, known whole -/
def cv (g:Nat) (t:TypeId) (cs:List Value):ah where
 cH b:=b=g
 wf b:=b=g
 holds w:=w.heap[g]? =some (.cells cs.toArray t (0,0))
 wr:=true
 fE _ h:=h
 whole _ _ h:=h
 lt w h b hb:=hb▸cU h
 h_ w w' hk h:=(hk g rfl).trans h
/-- an object that is no row of cells -/
def fC (g:Nat) (o:Obj):ah where
 cH b:=b=g
 wf b:=b=g
 holds w:=w.heap[g]? =some o
 wr:=true
 fE _ h:=h
 whole _ _ h:=h
 lt w h b hb:=hb▸cU h
 h_ w w' hk h:=(hk g rfl).trans h
/-- what stands at a place -/
def eR (A:OA) (k:Nat):OA:=A.map (·.add k)
theorem iJ (a:Addr) (i j:Nat):(a.add i).add j=a.add (i+j):=by
 unfold Addr.add
 by_cases hi:i=0<;>by_cases hj:j=0<;>simp [hi,hj,Nat.add_assoc]
theorem kR (a:Addr) (n:Nat):(a.add n).block=a.block:=by unfold Addr.add; split<;>rfl
theorem eL (g o k:Nat):(⟨g,o,none⟩:Addr).add k=⟨g,o+k,none⟩:=by unfold Addr.add; split<;>simp_all
/-- a slice that reads as a list of elements, each its cells -/
def rd (A:OA) (n sz:Nat) (es:List (List Value)):ah where
 cH b:=0<n*sz∧ ∃ ad,A=some ad∧b=ad.block
 holds w:=es.length=n∧(∀ e∈es,e.length=sz)∧(0<n*sz→ ∃ ad,A=some ad∧ ∀ i e j v,es[i]? =some e→e[j]? =some v→w.cell? (ad.add (i*sz+j))=some v)
 wf _:=False
 wr:=false
 fE _ h:=h.elim
 whole h:=by cases h
 lt w h b hb:=by
  obtain ⟨h1,h2,h3⟩:=h
  obtain ⟨hn,ad,hA,rfl⟩:=hb
  obtain ⟨ad',hA',hc⟩:=h3 hn
  rw [hA] at hA'; cases hA'
  have hn0:0<n:=Nat.pos_of_mul_pos_right hn
  have hs0:0<sz:=Nat.pos_of_mul_pos_left hn
  have he:es[0]? =some (es[0]'I):=dr I
  have hl:(es[0]'I).length=sz:=h2 _ (List.getElem_mem _)
  have hv:=hc 0 _ 0 _ he (dr I)
  have:=World.block_lt_of_cell? w _ hv
  rwa [kR] at this
 h_ w w' hk h:=by
  refine ⟨h.1,h.2.1,fun hn=>?_⟩
  obtain ⟨ad,hA,hc⟩:=h.2.2 hn
  refine ⟨ad,hA,fun i e j v hi hj=>?_⟩
  rw [World.cell?_of_block (w:=w) (by rw [kR]; exact hk _ ⟨hn,ad,hA,rfl⟩)]
  exact hc i e j v hi hj
def j3 (C:List ah) (p:World→Prop):Prop:= ∀ w,(∀ A∈C,A.holds w)→p w
theorem aO {C:List ah} {A:ah} (i:Nat) (h:C[i]? =some A):j3 C A.holds:=fun w hw=>hw A (aI h)
def eP (C Cp:List ah):Prop:= ∀ w,(∀ A∈C,A.holds w)→ ∀ A∈Cp,A.holds w
theorem aw {C:List ah}:eP C []:=fun w _ A hA=>by cases hA
theorem av {C Cp:List ah} {A:ah} (h:j3 C A.holds) (t:eP C Cp):eP C (A::Cp):=fun w hw B hB=>by
 rcases bE.1 hB with rfl|hB
 ·exact h w hw
 ·exact t w hw B hB
theorem eB {C Cp:List ah} {A B:ah} (i:Nat) (h:C[i]? =some B) (e:B.holds=A.holds) (t:eP C Cp):eP C (A::Cp):=av (e▸aO i h) t
theorem St.has {S:BS} {w0 w:World} {C:List ah} {p:World→Prop} (h:St S w0 C w) (k:j3 C p):p w:=k w h.holds
/-- a block that holds the elements of a list, one behind the other, from its head on -/
theorem m6 {w:World} {g:Nat} {t:TypeId} {cs:List Value} {n sz:Nat} {es:List (List Value)} (h:(cv g t cs).holds w) (h1:es.length=n) (h2: ∀ e∈es,e.length=sz) (h3:es.flatten <+: cs):(rd (some ⟨g,0,none⟩) n sz es).holds w:=by
 refine ⟨h1,h2,fun _=>⟨_,U,fun i e j v hi hj=>?_⟩⟩
 have A: ∀ (es:List (List Value)) (i:Nat),(∀ e∈es,e.length=sz)→es[i]? =some e→es.flatten[i*sz+j]? =some v:=by
  intro es
  induction es with
  |nil=>intro i _ hi; simp at hi
  |cons x xs ih=>
   intro i hl hi
   have hx:=hl x sm
   have B:j<e.length:=(aJ.1 hj).1
   cases i with
   |zero=>
    simp at hi; subst hi
    simp only [List.flatten_cons,Nat.zero_mul,Nat.zero_add]
    rw [List.getElem?_append_left B]; exact hj
   |succ i=>
    simp only [List.flatten_cons]
    rw [List.getElem?_append_right (by rw [hx,Nat.succ_mul]; omega)]
    have:(i+1)*sz+j-x.length=i*sz+j:=by rw [hx,Nat.succ_mul]; omega
    rw [this]
    exact ih i (fun e he=>hl e (by simp [he])) (by simpa using hi)
 have hv:=A es i h2 hi
 obtain ⟨rest,hr⟩:=h3
 rw [eL,cell_of_row w g _ cs.toArray t (0,0) h]
 simp only [List.getElem?_toArray,Nat.zero_add]
 rw [← hr,List.getElem?_append_left (aJ.1 hv).1]
 exact hv
theorem aK {C:List ah} {g t:Nat} {cs:List Value} {n sz:Nat} {es:List (List Value)} (i:Nat) (hC:C[i]? =some (cv g t cs)) (h1:es.length=n) (h2: ∀ e∈es,e.length=sz) (h3:es.flatten=cs):j3 C (rd (some ⟨g,0,none⟩) n sz es).holds:=fun w hw=>
 m6 (aO i hC w hw) h1 h2 ⟨[],by simp [h3]⟩
theorem iI {C:List ah} (A:OA) (sz:Nat):j3 C (rd A 0 sz []).holds:=fun w _=>⟨rfl,sm,fun h=>by simp at h⟩
/-- the cells of a zero value; the places of the parts: where, how many cells -/
def tB (P:Program) (t:TypeId):Option (List Value×List (Nat×Nat)):=
 match P.info? t,P.underlying t with
 |some it,some (.array n e)=>
  match it.zero,P.info? e with
  |some z,some ie=>some (z.cells.toList,(List.range n).map fun i=>(i*ie.size,ie.size))
  |_,_=>none
 |some it,some (.struct fields)=>
  match it.zero,fields.toList.mapM (fun f=>(P.info? f.type).map fun i=>(f.offset,i.size)) with
  |some z,some places=>some (z.cells.toList,places)
  |_,_=>none
 |_,_=>none
def zx (z:List Value) (pl:List (Nat×Nat)):bT→Option (List Value)
 |[]=>some z
 |(i,v)::rest=>match pl[i]? with
  |none=>none
  |some (off,sz)=>if v.cells.toList.length=sz∧off+sz≤z.length then zx (z.take off++v.cells.toList++z.drop (off+sz)) pl rest else none
def lO (P:Program) (s f:Nat):Option Nat:=
 match P.underlying s with
 |some (.struct fs)=>match fs[f]? with
  |some fl=>match P.info? fl.type with
   |some i=>if i.size=0 then none else some fl.offset
   |none=>none
  |none=>none
 |_=>none
/-- is it a struct or an array; how many cells -/
def tK (P:Program) (t:TypeId):Option (Bool×Nat):=
 match P.underlying t,P.info? t with
 |some (.struct _),some i=>some (true,i.size)
 |some (.array _ _),some i=>some (true,i.size)
 |some _,some i=>some (false,i.size)
 |_,_=>none
def tZ (P:Program) (t:TypeId):Option (List Value):=((P.info? t).bind (·.zero)).map (·.cells.toList)
def tE (P:Program) (t:TypeId):Option (TypeId×Nat):=
 match P.underlying t with
 |some (.slice e)=>match P.info? e with
  |some i=>some (e,i.size)
  |none=>none
 |_=>none
def jA (P:Program) (f:FuncId):Bool:=
 match P.funcs[f]? with
 |some fn=> !(fn.name=="runtime.NumGoroutine")&&fn.body.isSome
 |none=>false
theorem ig {P:Program} {t:TypeId} {n:Nat} (h:tK P t=some (true,n)) (w:World):(isAgg t).run P w= .ok true w∧(sizeOf t).run P w= .ok n w:=by
 unfold tK at h
 cases hu:P.underlying t with
 |none=>simp [hu] at h
 |some d=>
  cases hi:P.info? t with
  |none=>cases d<;>simp [hu,hi] at h
  |some i=>
   cases d<;>simp [hu,hi] at h<;>(subst h; constructor<;>simp [isAgg,sizeOf,typeInfo,run_underlying hu,hi])
theorem me {P:Program} {t:TypeId} {n:Nat} (h:tK P t=some (false,n)) (w:World):(isAgg t).run P w= .ok false w∧(sizeOf t).run P w= .ok n w:=by
 unfold tK at h
 cases hu:P.underlying t with
 |none=>simp [hu] at h
 |some d=>
  cases hi:P.info? t with
  |none=>cases d<;>simp [hu,hi] at h
  |some i=>
   cases d<;>simp [hu,hi] at h<;>(subst h; constructor<;>simp [isAgg,sizeOf,typeInfo,run_underlying hu,hi])
theorem iY {P:Program} {s f k:Nat} (h:lO P s f=some k) (a:Addr) (w:World):(Instr.fieldAt s (.pointer (some a)) f).run P w= .ok (.pointer (some (a.add k))) w:=by
 unfold lO at h
 cases hu:P.underlying s with
 |none=>simp [hu] at h
 |some d=>
  cases d<;>simp [hu] at h
  rename_i fs
  cases hf:fs[f]? with
  |none=>simp [hf] at h
  |some fl=>
   simp only [hf] at h
   cases hi:P.info? fl.type with
   |none=>simp [hi] at h
   |some i=>
    simp only [hi] at h
    by_cases hz:i.size=0
    ·simp [hz] at h
    ·simp only [hz,if_false,Option.some.injEq] at h
     subst h
     simp [Instr.fieldAt,run_underlying hu,hf,Instr.sureAddr,fieldPlace,sizeOf,typeInfo,hi,hz]
section
variable {E:c_} {ops:Array Oper} {D:List Deferred} {L:List (Nat×Value)} {C:List ah}
variable {dst:Option Tmp} {ty:TypeId} {ps:String} {af:Array Edge} {g:Option (Nat×Bool)}
theorem wu {x:Operand} {b o o' s f k:Nat} (hg:e6 ops L g=true) (hx:ev L x=some (.pointer (some ⟨b,o,none⟩))) (hf:lO E.P s f=some k) (ho:o+k=o'):
 SD E ops ⟨dst,.fieldAddr s x f,ty,ps,af,g⟩ D L C (.pointer (some ⟨b,o',none⟩)):=
 cn hg sm fun a w A _=>by
  simp [execOp,A.ev hx,iY hf,eL,ho]
theorem uA {x:Operand} {A:OA} {n sz:Nat} {es:List (List Value)} {k0 s f k k':Nat} (hg:e6 ops L g=true) (hx:ev L x=some (.pointer (eR A k0))) (hR:j3 C (rd A n sz es).holds) (hn:0<n*sz)
 (hf:lO E.P s f=some k) (ho:k0+k=k'):SD E ops ⟨dst,.fieldAddr s x f,ty,ps,af,g⟩ D L C (.pointer (eR A k')):=
 cn hg sm fun a w B hs=>by
  obtain ⟨ad,hA,_⟩:=(hs.has hR).2.2 hn
  subst hA
  simp [execOp,B.ev hx,eR,iY hf,iJ,ho]
theorem lj {P:Program} {t e sz:Nat} (h:tE P t=some (e,sz)) {a:Addr} {n c:Nat} {k:Nat} (hk:k<n) (w:World):
 (Instr.indexAt t (.slice (some a) n c) (.int .i64 (k:Int))).run P w= .ok (.pointer (some (a.add (k*sz)))) w:=by
 unfold tE at h
 cases hu:P.underlying t with
 |none=>simp [hu] at h
 |some d=>
  cases d<;>simp [hu] at h
  rename_i e'
  cases hi:P.info? e' with
  |none=>simp [hi] at h
  |some i=>
   simp only [hi,Option.some.injEq,Prod.mk.injEq] at h
   obtain ⟨rfl,rfl⟩:=h
   have A:(0:Int)≤(k:Int)∧(k:Int)<(n:Int):=by omega
   simp [Instr.indexAt,asIntOf,run_underlying hu,A,sizeOf,typeInfo,hi,hk]
theorem yF {x ix:Operand} {A:OA} {n c sz e t k:Nat} {es:List (List Value)} {j:Int} (hg:e6 ops L g=true) (hx:ev L x=some (.slice A n c)) (hi:ev L ix=some (.int .i64 j)) (hR:j3 C (rd A n sz es).holds)
 (ht:tE E.P t=some (e,sz)) (hz:0<sz) (hj:j=(k:Int)) (hk:k<n):SD E ops ⟨dst,.indexAddr t x ix,ty,ps,af,g⟩ D L C (.pointer (eR A (k*sz))):=
 cn hg sm fun a w B hs=>by
  obtain ⟨ad,hA,_⟩:=(hs.has hR).2.2 (Nat.mul_pos I hz)
  subst hA hj
  simp [execOp,B.ev hx,B.ev hi,eR,lj ht hk]
/-- what stands in memory from an address on -/
def At (C:List ah) (A:OA) (vs:List Value):Prop:=j3 C fun w=> ∃ ad,A=some ad∧ ∀ j v,vs[j]? =some v→w.cell? (ad.add j)=some v
theorem kO {b o t:Nat} {cs vs:List Value} (i:Nat) (hC:C[i]? =some (cv b t cs)) (hv:(cs.drop o).take vs.length=vs):At C (some ⟨b,o,none⟩) vs:=fun w hw=>by
 have h:=aO i hC w hw
 refine ⟨_,U,fun j v hj=>?_⟩
 rw [eL,cell_of_row w b _ cs.toArray t (0,0) h]
 rw [← hv,List.getElem?_take] at hj
 split at hj
 ·rw [List.getElem?_drop] at hj; simpa using hj
 ·cases hj
theorem kp {b o t:Nat} {cs vs:List Value} (i:Nat) (hC:C[i]? =some (cv b t cs).ro) (hv:(cs.drop o).take vs.length=vs):At C (some ⟨b,o,none⟩) vs:=fun w hw=>by
 have h:(cv b t cs).holds w:=aO i hC w hw
 refine ⟨_,U,fun j v hj=>?_⟩
 rw [eL,cell_of_row w b _ cs.toArray t (0,0) h]
 rw [← hv,List.getElem?_take] at hj
 split at hj
 ·rw [List.getElem?_drop] at hj; simpa using hj
 ·cases hj
theorem wg {A:OA} {n sz k o m:Nat} {es:List (List Value)} {e vs:List Value} (hR:j3 C (rd A n sz es).holds) (he:es[k]? =some e) (hm:m=k*sz+o) (hz:0<sz) (hv:(e.drop o).take vs.length=vs):At C (eR A m) vs:=fun w hw=>by
 obtain ⟨B,E,D⟩:=hR w hw
 have hk:k<n:=by rw [← B]; exact (aJ.1 he).1
 obtain ⟨ad,hA,hc⟩:=D (Nat.mul_pos I hz)
 subst hA hm
 refine ⟨_,U,fun j v hj=>?_⟩
 rw [iJ,Nat.add_assoc]
 refine hc k e (o+j) v he ?_
 rw [← hv,List.getElem?_take] at hj
 split at hj
 ·rw [List.getElem?_drop] at hj; exact hj
 ·cases hj
theorem mC {x:Operand} {A:OA} {t n:Nat} {v:Value} (hg:e6 ops L g=true) (hx:ev L x=some (.pointer A)) (ht:tK E.P t=some (false,n)) (hc:At C A [v]):SD E ops ⟨dst,.load t x,ty,ps,af,g⟩ D L C v:=
 cn hg sm fun a w hf hs=>by
  obtain ⟨ad,hA,B⟩:=hs.has hc
  subst hA
  have F:w.cell? ad=some v:=by simpa [Addr.add] using B 0 v rfl
  simp [execOp,hf.ev hx,Instr.loadAt,Instr.sureAddr,loadVar,(me ht w).1,F]
theorem k8 {x:Operand} {A:OA} {t n:Nat} {vs:List Value} (hg:e6 ops L g=true) (hx:ev L x=some (.pointer A)) (ht:tK E.P t=some (true,n)) (hc:At C A vs) (hn:vs.length=n):SD E ops ⟨dst,.load t x,ty,ps,af,g⟩ D L C (.agg vs.toArray):=
 cn hg sm fun a w hf hs=>by
  obtain ⟨ad,hA,B⟩:=hs.has hc
  subst hA
  have hl:(loadCells ad n).run E.P w= .ok vs.toArray w:=by rw [← hn]; exact run_loadCells_list w ad vs B
  simp [execOp,hf.ev hx,Instr.loadAt,Instr.sureAddr,loadVar,(ig ht w).1,(ig ht w).2,hl]
end
def yL (C:List ah):List Nat→List (Option (World→Prop))
 |[]=>[]
 |i::is=>C[i]?.map ah.holds::yL C is
def yI:List ah→List (Option (World→Prop))
 |[]=>[]
 |A::l=>some A.holds::yI l
theorem bg {C:List ah}: ∀ (is:List Nat) {Cp:List ah} (h:yL C is=yI Cp:=by rfl),eP C Cp
 |[],[],_=>aw
 |[],_::_,h=>by cases h
 |i::is,[],h=>by cases h
 |i::is,A::Cp,h=>by
  obtain ⟨D,E⟩:=List.cons.inj (show C[i]?.map ah.holds::yL C is=some A.holds::yI Cp from h)
  obtain ⟨B,hB,hh⟩:=Option.map_eq_some_iff.1 D
  exact eB i hB hh (bg is E)
theorem fG {C:List ah}: ∀ (is:List Nat) {Cp:List ah} (q:eP C (Cp.drop is.length)) (h:yL C is=yI (Cp.take is.length):=by rfl),eP C Cp
 |[],_,q,_=>q
 |i::is,[],q,h=>by cases h
 |i::is,A::Cp,q,h=>by
  obtain ⟨D,E⟩:=List.cons.inj (show C[i]?.map ah.holds::yL C is=some A.holds::yI (Cp.take is.length) from h)
  obtain ⟨B,hB,hh⟩:=Option.map_eq_some_iff.1 D
  exact eB i hB hh (fG is q E)
end
section
open Go.RowKit
/-- what the call hands back is known -/
structure dx (P:Program) (f:FuncId) (args:List Value) (Cp:List ah) (v:Value):Prop where
 go:jA P f=true
 run: ∀ w,(∀ A∈Cp,A.holds w)→Calls P f args.toArray w fun e w'=>e= .returned v∧bX no w w'
/-- what the call hands back is known up to something; what is new in memory -/
structure jH (P:Program) (f:FuncId) (args:List Value) (Cp:List ah) {α:Type} (V:α→Value) (p:α→Prop) (N:α→List ah):Prop where
 go:jA P f=true
 run: ∀ w,(∀ A∈Cp,A.holds w)→Calls P f args.toArray w fun e w'=> ∃ x,e= .returned (V x)∧p x∧bX no w w'∧v3 w w' (N x)
theorem iv {P:Program} {f:FuncId} (h:jA P f=true) (args:Array Value) (w:World):(callFunc f args).run P w= .ok (.enter f args) w:=by
 unfold jA at h
 cases hf:P.funcs[f]? with
 |none=>simp [hf] at h
 |some fn=>
  simp only [hf,bU,Bool.not_eq_true',Option.isSome_iff_ne_none] at h
  have A:=h.1
  have B:fn.body.isNone=false:=by cases hb:fn.body<;>simp_all
  simp only [beq_eq_false_iff_ne,ne_eq] at A
  simp [callFunc,program,Sem.run,hf,A]
  exact fun hb=>absurd hb h.2
section
variable {E:c_} {ops:Array Oper} {Q:bJ} {rest:List Oper} {D:List Deferred} {L:List (Nat×Value)} {C:List ah}
variable {dst:Option Tmp} {d:Nat} {ty:TypeId} {ps:String} {af:Array Edge} {g:Option (Nat×Bool)}
theorem l1 {a:Act} {fop:Operand} {xs:Array Operand} {ts:Array TypeId} {f:FuncId} {fi ca:Array Value} {vs args:List Value} {n:Nat} (hfr:Fr n D L a) (hgo:jA E.P f=true) (hf:ev L fop=some (.func (.func f) fi ca))
 (hx:evs L xs.toList=some vs) (ha:fi.toList++vs++ca.toList=args) (w:World):
 (execOp a.eval ⟨dst,.call {callee:= .value fop,args:=xs,argTypes:=ts},ty,ps,af,g⟩).run E.P w= .ok (.enter f args.toArray) w:=by
 have A:xs.map a.eval=vs.toArray:=by
  have:=hfr.evs hx
  apply Array.ext'
  simp [this]
 have B:fi++vs.toArray++ca=args.toArray:=by rw [← ha]; simp
 simp [execOp,resolve,hfr.ev hf,Deferred.ofValue,invoke,A,B,iv hgo]
theorem rJ {fop:Operand} {xs:Array Operand} {ts:Array TypeId} {f:FuncId} {fi ca:Array Value} {vs args:List Value} {Cp:List ah} {v:Value} (hg:e6 ops L g=true) (hf:ev L fop=some (.func (.func f) fi ca))
 (hx:evs L xs.toList=some vs) (ha:fi.toList++vs++ca.toList=args) (c:dx E.P f args Cp v) (hC:eP C Cp):SD E ops ⟨dst,.call {callee:= .value fop,args:=xs,argTypes:=ts},ty,ps,af,g⟩ D L C v:=by
 intro a w A hs
 refine .inl ⟨cx A hg,fun _ _=>trivial,?_⟩
 rw [Oper.semAt_eq _ _ _ sm,l1 A c.go hf hx ha]
 refine ⟨fun h=>by simp at h,(iS E.r (c.run w (hC w hs.holds))).mono fun e w' he=>?_⟩
 obtain ⟨rfl,hk⟩:=he
 exact ⟨U,hk⟩
theorem wR {fop:Operand} {xs:Array Operand} {ts:Array TypeId} {f:FuncId} {fi ca:Array Value} {vs args:List Value} {Cp:List ah} {α:Type} {V:α→Value} {p:α→Prop} {N:α→List ah} (hg:e6 ops L g=true) (hf:ev L fop=some (.func (.func f) fi ca))
 (hx:evs L xs.toList=some vs) (ha:fi.toList++vs++ca.toList=args) (c:jH E.P f args Cp V p N) (hC:eP C Cp) (hd:Nat.blt d E.n=true) (k: ∀ x,p x→RJ E ops Q rest D ((d,V x)::L) (N x++C)):
 RJ E ops Q (⟨some d,.call {callee:= .value fop,args:=xs,argTypes:=ts},ty,ps,af,g⟩::rest) D L C:=by
 intro a w A hs
 have hd':d<E.n:=by rw [← Nat.blt_eq]; exact hd
 unfold kK
 rw [if_pos (cx A hg)]
 refine ⟨fun _ _=>trivial,?_⟩
 rw [Oper.semAt_eq _ _ _ sm,l1 A c.go hf hx ha]
 refine ⟨fun h=>by simp at h,(iS E.r (c.run w (hC w hs.holds))).mono fun e w' he=>?_⟩
 obtain ⟨x,rfl,hp,hk,hn⟩:=he
 exact k x hp _ _ (A.put hd' _) (hs.grow hk hn)
/-- a fact on the slots alone: parted -/
theorem ct {t:Nat} {b:Bool} (h:L.lookup t=some (.bool b)) (h1:b=true→RJ E ops Q rest D ((t,.bool true)::L) C) (h2:b=false→RJ E ops Q rest D ((t,.bool false)::L) C):RJ E ops Q rest D L C:=by
 have A: ∀ v:Bool,b=v→cE L ((t,.bool v)::L):=fun v hv=>cE.cons (hv▸h) (fun _ _ h=>h)
 cases b
 ·exact fun a w hf hs=>h2 U a w (hf.sub (A _ U)) hs
 ·exact fun a w hf hs=>h1 U a w (hf.sub (A _ U)) hs
theorem wz {L':bT} {C':List ah} (hL:cE L L') (hC: ∀ w,St E.S E.w0 C w→St E.S E.w0 C' w) (h:RJ E ops Q rest D L' C'):RJ E ops Q rest D L C:=fun a w hf hs=>h a w (hf.sub hL) (hC w hs)
theorem vR {w:World} {t:TypeId} {cs:List Value}:v3 w (w.alloc (.cells cs.toArray t)) [cv w.heap.size t cs]:=
 ⟨fun A hA=>by simp at hA; subst hA; exact heap_alloc_new w _,fun A hA b hb=>by simp at hA; subst hA; exact Nat.le_of_eq (Eq.symm hb),List.pairwise_singleton _ _⟩
theorem q6 {o:Oper} {t:TypeId} {cs:List Value} {V:Nat→Value} (hg:e6 ops L o.guard=true) (ho:o.dst=some d) (hnd: ∀ c,o.op≠ .defer c) (hd:Nat.blt d E.n=true)
 (hr: ∀ a w,Fr E.n D L a→St E.S E.w0 C w→(execOp a.eval o).run E.P w= .ok (.value (V w.heap.size)) (w.alloc (.cells cs.toArray t)))
 (k: ∀ b,RJ E ops Q rest D ((d,V b)::L) (cv b t cs::C)):RJ E ops Q (o::rest) D L C:=by
 intro a w A hs
 have hd':d<E.n:=by rw [← Nat.blt_eq]; exact hd
 unfold kK
 rw [if_pos (cx A hg)]
 refine eb hnd (hr a w A hs) ?_
 rw [ho]
 exact k _ _ _ (A.put hd' _) (hs.grow (bX.alloc no w _) vR)
theorem rh {t:TypeId} {cs:List Value} (hg:e6 ops L g=true) (hz:tZ E.P t=some cs) (hd:Nat.blt d E.n=true) (k: ∀ b,RJ E ops Q rest D ((d,.pointer (some ⟨b,0,none⟩))::L) (cv b t cs::C)):
 RJ E ops Q (⟨some d,.alloc t,ty,ps,af,g⟩::rest) D L C:=by
 refine q6 (V:=fun b=> .pointer (some ⟨b,0,none⟩)) (t:=t) (cs:=cs) (by exact hg) U sm hd (fun a w A _=>?_) k
 unfold tZ at hz
 cases hi:E.P.info? t with
 |none=>simp [hi] at hz
 |some i=>
  cases hzz:i.zero with
  |none=>simp [hi,hzz] at hz
  |some z=>
   simp only [hi,hzz,Option.bind_some,Option.map_some,Option.some.injEq] at hz
   subst hz
   simp [execOp,Instr.alloc,zeroValue,typeInfo,hi,hzz,newVar,newRow]
theorem wC {t:TypeId} {x:Operand} {v:Value} {cs:List Value} (hg:e6 ops L g=true) (hx:ev L x=some v) (hv:v.cells.toList=cs) (hd:Nat.blt d E.n=true) (k: ∀ b,RJ E ops Q rest D ((d,.pointer (some ⟨b,0,none⟩))::L) (cv b t cs::C)):
 RJ E ops Q (⟨some d,.box t x,ty,ps,af,g⟩::rest) D L C:=by
 refine q6 (V:=fun b=> .pointer (some ⟨b,0,none⟩)) (t:=t) (cs:=cs) (by exact hg) U sm hd (fun a w A _=>?_) k
 subst hv
 simp [execOp,Instr.box,A.ev hx,newVar,newRow]
theorem ou {t e sz:Nat} (hg:e6 ops L g=true) (ht:tE E.P t=some (e,sz)) (hd:Nat.blt d E.n=true) (k: ∀ b,RJ E ops Q rest D ((d,.slice (some ⟨b,0,none⟩) 0 0)::L) (cv b e []::C)):
 RJ E ops Q (⟨some d,.buildSlice t 0 #[],ty,ps,af,g⟩::rest) D L C:=by
 refine q6 (V:=fun b=> .slice (some ⟨b,0,none⟩) 0 0) (t:=e) (cs:=[]) (by exact hg) U sm hd (fun a w B _=>?_) k
 unfold tE at ht
 cases hu:E.P.underlying t with
 |none=>simp [hu] at ht
 |some dd=>
  cases dd<;>simp [hu] at ht
  rename_i e'
  cases hi:E.P.info? e' with
  |none=>simp [hi] at ht
  |some i=>
   simp only [hi,Option.some.injEq,Prod.mk.injEq] at ht
   obtain ⟨rfl,rfl⟩:=ht
   have A:Array.range 0= #[]:=rfl
   simp [execOp,Instr.buildSlice,run_underlying hu,sizeOf,typeInfo,hi,Instr.fill,newRow,A]
theorem o0 (off:Nat): ∀ (xs:List Value) (k:Nat) (cs:Array Value),off+k+xs.length≤cs.size→
 ((xs.zipIdx k).foldl (fun (cs:Array Value) (p:Value×Nat)=>cs.setIfInBounds (off+p.2) p.1) cs).toList=cs.toList.take (off+k)++xs++cs.toList.drop (off+k+xs.length):=by
 intro xs
 induction xs with
 |nil=>intro k cs h; simp
 |cons x xs ih=>
  intro k cs h
  simp only [List.length_cons] at h
  simp only [List.zipIdx_cons,List.foldl_cons]
  rw [ih (k+1) _ (by simp; omega)]
  have A:(cs.setIfInBounds (off+k) x).toList=cs.toList.set (off+k) x:=by simp
  rw [A]
  have hk:off+k<cs.toList.length:=by simp; omega
  rw [show off+(k+1)=off+k+1 from by omega,List.take_add_one,List.take_set_of_le (Nat.le_refl _),List.getElem?_set_self hk,List.drop_set_of_lt I]
  simp [Nat.add_assoc,Nat.add_comm,Nat.add_left_comm]
/-- the cells of so many elements -/
theorem sZ {sz:Nat}: ∀ (vs:List Value) (k:Nat) (cs:Array Value),(∀ v∈vs,v.cells.size=sz)→cs.size=(k+vs.length)*sz→
 ∃ r,Instr.fill (fun i=>some (i*sz,sz)) cs ((vs.zipIdx k).map fun p=>(p.2,p.1))=some r∧r.toList=cs.toList.take (k*sz)++(vs.map (·.cells.toList)).flatten:=by
 intro vs
 induction vs with
 |nil=>intro k cs _ hs; exact ⟨cs,rfl,by simp at hs; rw [← hs,List.take_of_length_le sm]; simp⟩
 |cons v vs ih=>
  intro k cs hv hs
  have A:=hv v sm
  have C:k*sz+sz≤cs.size:=by
   rw [hs,← Nat.succ_mul]
   exact Nat.mul_le_mul_right _ sm
  have hf:=o0 (k*sz) v.cells.toList 0 cs (by simp [A]; exact C)
  obtain ⟨r,D,E⟩:=ih (k+1) (v.cells.toList.zipIdx.foldl (fun (cs:Array Value) (p:Value×Nat)=>cs.setIfInBounds (k*sz+p.2) p.1) cs) (fun u hu=>hv u (by simp [hu])) (by
   have hl:=congrArg List.length hf
   simp only [Array.length_toList] at hl
   rw [hl]
   simp [A] at hs ⊢
   rw [show k+1+vs.length=k+(vs.length+1) from by omega,← hs]
   omega)
  refine ⟨r,?_,?_⟩
  ·simp only [List.zipIdx_cons,List.map_cons,Instr.fill]
   rw [if_neg (by simp [A]; omega)]
   rw [← D]
   congr 1
   rw [← Array.foldl_toList]
   simp [Array.toList_zipIdx]
  ·rw [E,hf]
   simp only [Nat.add_zero,List.map_cons,List.flatten_cons]
   rw [show (k+1)*sz=k*sz+sz from Nat.succ_mul k sz]
   have B:(cs.toList.take (k*sz)++v.cells.toList).length=k*sz+sz:=by simp [A]; omega
   rw [List.take_append_of_le_length (by rw [B]; omega),List.take_of_length_le (by rw [B]; omega)]
   simp
theorem df {t e sz n:Nat} {xs:List Operand} {vs:List Value} {cs zs:List Value} (hg:e6 ops L g=true) (ht:tE E.P t=some (e,sz)) (hz:tZ E.P e=some zs) (hx:evs L xs=some vs) (hn:xs.length=n) (hp:Nat.blt 0 (n*sz)=true) (hb:Nat.ble (n*sz) 16777216=true) (hv: ∀ v∈vs,v.cells.size=sz)
 (hc:(vs.map (·.cells.toList)).flatten=cs) (hd:Nat.blt d E.n=true) (k: ∀ b,RJ E ops Q rest D ((d,.slice (some ⟨b,0,none⟩) n n)::L) (cv b e cs::C)):
 RJ E ops Q (⟨some d,.buildSlice t n ((xs.zipIdx.map fun p=>(p.2,p.1)).toArray),ty,ps,af,g⟩::rest) D L C:=by
 refine q6 (V:=fun b=> .slice (some ⟨b,0,none⟩) n n) (t:=e) (cs:=cs) (by exact hg) U sm hd (fun a w B _=>?_) k
 have F:vs.length=n:=by
  have:=B.evs hx
  rw [← this,List.length_map,hn]
 unfold tE at ht
 cases hu:E.P.underlying t with
 |none=>simp [hu] at ht
 |some dd=>
  cases dd<;>simp [hu] at ht
  rename_i e'
  cases hi:E.P.info? e' with
  |none=>simp [hi] at ht
  |some i=>
   simp only [hi,Option.some.injEq,Prod.mk.injEq] at ht
   obtain ⟨rfl,rfl⟩:=ht
   cases hzz:i.zero with
   |none=>simp [tZ,hi,hzz] at hz
   |some z=>
    have hA:((xs.zipIdx.map fun p=>(p.2,p.1)).toArray.map fun ((i,x):Nat×Operand)=>(i,a.eval x))=((vs.zipIdx 0).map fun p=>(p.2,p.1)).toArray:=by
     rw [← B.evs hx]
     apply Array.ext'
     simp [List.zipIdx_map]
    obtain ⟨r,G,H⟩:=sZ (sz:=i.size) vs 0 ((Array.range (n*i.size)).map fun j=>(if n*i.size=0 then #[] else z.cells)[j % (if n*i.size=0 then (#[]:Array Value) else z.cells).size]!) hv (by simp [F])
    simp only [Nat.zero_mul,List.take_zero,List.nil_append,hc] at H
    have AA:r=cs.toArray:=by rw [← H]
    subst AA
    have hb': ¬ (n*i.size>2^24):=by have:=Nat.le_of_ble_eq_true hb; omega
    have A: ¬ n*i.size=0:=by rw [Nat.blt_eq] at hp; omega
    simp only [A,if_false] at G
    simp only [execOp,hA,Instr.buildSlice,Sem.run_bind,run_underlying hu,Result.andThen_ok,sizeOf,typeInfo,run_program,hi,Sem.run_pure,A,if_false,hb',zeroValue,hzz,G]
    simp [newRow]
theorem o6 {place:Nat→Option (Nat×Nat)} {pl:List (Nat×Nat)} (hp: ∀ i x,pl[i]? =some x→place i=some x): ∀ (parts:bT) (z:Array Value) (cs:List Value),zx z.toList pl parts=some cs→ ∃ r,Instr.fill place z parts=some r∧r.toList=cs:=by
 intro parts
 induction parts with
 |nil=>intro z cs h; exact ⟨z,rfl,by simpa [zx] using h⟩
 |cons p rest ih=>
  obtain ⟨i,v⟩:=p
  intro z cs h
  simp only [zx] at h
  cases hi:pl[i]? with
  |none=>simp [hi] at h
  |some x=>
   obtain ⟨off,sz⟩:=x
   simp only [hi] at h
   split at h
   ·rename_i hc
    have hs:v.cells.size=sz:=by simpa using hc.1
    have hz:off+sz≤z.size:=by simpa using hc.2
    have hf:=o0 off v.cells.toList 0 z (by simp [hs]; exact hz)
    simp only [Nat.add_zero,Array.length_toList,hs] at hf
    rw [← hf] at h
    obtain ⟨r,A,B⟩:=ih _ cs h
    refine ⟨r,?_,B⟩
    simp only [Instr.fill,hp i _ hi]
    rw [if_neg (by simp [hs]; omega),← A]
    congr 1
    rw [← Array.foldl_toList]
    simp [Array.toList_zipIdx]
   ·cases h
theorem bm {P:Program} {t:TypeId} {z:List Value} {pl:List (Nat×Nat)} {parts:bT} {cs:List Value} (h:tB P t=some (z,pl)) (hb:zx z pl parts=some cs):(P.built t parts).map (·.toList)=some cs:=by
 unfold tB at h
 unfold Program.built
 cases hit:P.info? t with
 |none=>simp [hit] at h
 |some it=>
  cases hu:P.underlying t with
  |none=>simp [hit,hu] at h
  |some d=>
   cases hz:it.zero with
   |none=>cases d<;>simp [hit,hu,hz] at h
   |some zv=>
    cases d<;>try (simp [hit,hu] at h; done)
    case array n e=>
     cases hie:P.info? e with
     |none=>simp [hit,hu,hz,hie] at h
     |some ie=>
      simp only [hit,hu,hz,hie,Option.some.injEq,Prod.mk.injEq] at h
      obtain ⟨C,D⟩:=h
      subst C D
      obtain ⟨r,A,B⟩:=o6 (place:=fun i=>some (i*ie.size,ie.size)) (fun i x hi=>by
       rw [eT] at hi
       cases hg:(List.range n)[i]? with
       |none=>simp [hg] at hi
       |some j=>
        have hj:j=i:=by
         have:=(aJ.1 hg).2
         simpa using this.symm
        subst hj
        simpa [hg] using hi) parts zv.cells cs hb
      simp only [hz,hie,A,Option.map_some,B]
    case struct fields=>
     cases hp:fields.toList.mapM (fun f=>(P.info? f.type).map fun i=>(f.offset,i.size)) with
     |none=>simp [hit,hu,hz,hp] at h
     |some places=>
      simp only [hit,hu,hz,hp,Option.some.injEq,Prod.mk.injEq] at h
      obtain ⟨C,D⟩:=h
      subst C D
      obtain ⟨r,A,B⟩:=o6 (place:=(places.toArray[·]?)) (fun i x hi=>by simpa using hi) parts zv.cells cs hb
      simp only [hz,hp,A,Option.map_some,B]
theorem bl {t:TypeId} {xs:List (Nat×Operand)} {vs:List Value} {cs:List Value} (hg:e6 ops L g=true) (hx:evs L (xs.map (·.2))=some vs) (hb:(E.P.built t ((xs.map (·.1)).zip vs)).map (·.toList)=some cs):
 SD E ops ⟨dst,.build t xs.toArray,ty,ps,af,g⟩ D L C (.agg cs.toArray):=
 cn hg sm fun a w hf _=>by
  have hA:(xs.toArray.map fun ((i,x):Nat×Operand)=>(i,a.eval x))=((xs.map (·.1)).zip vs).toArray:=by
   rw [← hf.evs hx]
   apply Array.ext'
   simp [List.zip_map',List.map_map]
  obtain ⟨cells,hc,A⟩:=Option.map_eq_some_iff.1 hb
  have hcells:cells=cs.toArray:=by rw [← A]
  subst hcells
  have B:=run_build (P:=E.P) w t (((xs.map (·.1)).zip vs).toArray) cs.toArray (by simpa using hc)
  simp only [execOp,hA,Sem.run_bind,B,Result.andThen_ok,Sem.run_pure]
theorem mG {x:Operand} {vs:List Value} {i:Nat} {v:Value} (hg:e6 ops L g=true) (hx:ev L x=some (.tuple vs.toArray)) (hv:vs[i]? =some v):SD E ops ⟨dst,.extract x i,ty,ps,af,g⟩ D L C v:=
 cn hg sm fun a w hf _=>by simp [execOp,hf.ev hx,Instr.extract,hv]
theorem uW {fn:Fn} {xs ys:Array Operand} {us vs:List Value} (hg:e6 ops L g=true) (hx:evs L xs.toList=some us) (hy:evs L ys.toList=some vs):SD E ops ⟨dst,.makeFunc fn xs ys,ty,ps,af,g⟩ D L C (.func fn us.toArray vs.toArray):=
 cn hg sm fun a w hf _=>by
  have A:xs.map a.eval=us.toArray:=Array.ext' (by simp [hf.evs hx])
  have B:ys.map a.eval=vs.toArray:=Array.ext' (by simp [hf.evs hy])
  simp [execOp,Instr.makeFunc,A,B]
theorem iT {P:Program} {b t:Nat}: ∀ (vs:List Value) (cs:List Value) (o i:Nat) (w:World),(∀ v∈vs,v.oneCell'=true)→o+i+vs.length≤cs.length→w.heap[b]? =some (.cells cs.toArray t (0,0))→
 ∃ w',(storeCells ⟨b,o,none⟩ vs i).run P w= .ok () w'∧w'.heap[b]? =some (.cells (cs.take (o+i)++vs++cs.drop (o+i+vs.length)).toArray t (0,0))∧bX (only b) w w':=by
 intro vs
 induction vs with
 |nil=>intro cs o i w _ _ h; exact ⟨w,by simp [storeCells],by simpa using h,bX.refl _ _⟩
 |cons v vs ih=>
  intro cs o i w hv hl h
  simp only [List.length_cons] at hl
  have J:=cU h
  have A:w.cell? ((⟨b,o,none⟩:Addr).add i)=some (cs[o+i]'I):=by
   rw [eL,cell_of_row w b _ cs.toArray t (0,0) h]
   simp
  have D:w.frozen? ((⟨b,o,none⟩:Addr).add i)=false:=by rw [eL]; simp [World.frozen?,h]
  have C:(w.setCell ((⟨b,o,none⟩:Addr).add i) v).heap[b]? =some (.cells (cs.set (o+i) v).toArray t (0,0)):=by
   rw [eL]
   simp [World.setCell,Array.getElem?_modify,h]
  have B:bX (only b) w (w.setCell ((⟨b,o,none⟩:Addr).add i) v):=⟨rfl,rfl,rfl,by simp [World.setCell],fun k hk hn=>Below.heap_setCell _ _ _ _ (by rw [kR]; exact hn)⟩
  obtain ⟨w',G,H,AA⟩:=ih (cs.set (o+i) v) o (i+1) _ (fun u hu=>hv u (by simp [hu])) (by simp; omega) C
  refine ⟨w',?_,?_,B.trans AA⟩
  ·have F:=hv v sm
   have E:(store ((⟨b,o,none⟩:Addr).add i) v).run P w= .ok () (w.setCell ((⟨b,o,none⟩:Addr).add i) v):=by
    rw [run_store P w _ v _ (by simpa [Value.oneCell'] using F)]
    simp [A,D]
   simp only [storeCells,Sem.run_bind,E,Result.andThen_ok,G]
  ·rw [H]
   congr 3
   rw [show o+(i+1)=o+i+1 from by omega,List.take_add_one,List.take_set_of_le (Nat.le_refl _),List.getElem?_set_self I,List.drop_set_of_lt I]
   simp [Nat.add_assoc,Nat.add_comm,Nat.add_left_comm]
theorem St.qm {S:BS} {w0 w w':World} {b:Nat} {A A':ah} (i:Nat) (h:St S w0 C w) (hC:C[i]? =some A) (hA:A.cH b) (hw:A.wr=true) (hk:bX (only b) w w') (hA': ∀ x,A'.cH x→x=b) (hb:A'.holds w'):St S w0 (C.set i A') w':=by
 have hi:i<C.length:=(aJ.1 hC).1
 have G:C[i]=A:=(aJ.1 hC).2
 have AA:=A.whole hw b hA
 have H:=h.own A (aI hC) b AA
 have K:=h.seen A (aI hC) b hA
 have F: ∀ j (hj:j<C.length),j≠i→ ∀ x,(C[j]).cH x→x≠b:=by
  intro j hj E x hx he
  subst he
  rcases Nat.lt_or_gt_of_ne E with J|J
  ·have:=da.1 h.sep j i hj hi J
   rw [G] at this
   exact (this x hx hA).2 AA
  ·have:=da.1 h.sep i j hi hj J
   rw [G] at this
   exact (this x hA hx).1 AA
 refine ⟨?_,?_,?_,?_,?_⟩
 ·refine ⟨hk.os.trans h.keeps.os,hk.tape.trans h.keeps.tape,hk.output.trans h.keeps.output,Nat.le_trans h.keeps.size hk.size,fun k L hn=>?_⟩
  have E: ¬ only b k:=by
   rintro rfl
   rcases H with O|O
   ·omega
   ·exact hn O
  exact (hk.block k (Nat.lt_of_lt_of_le L h.keeps.size) E).trans (h.keeps.block k L hn)
 ·intro B hB
  obtain ⟨j,hj,D⟩:=List.mem_iff_getElem.1 hB
  rw [List.getElem_set] at D
  split at D
  ·subst D; exact hb
  ·rename_i E
   subst D
   have hj':j<C.length:=by simpa using hj
   have hm:C[j]∈C:=List.getElem_mem hj'
   refine (C[j]).h_ w w' (fun x hx=>hk.block x ((C[j]).lt w (h.holds _ hm) x hx) ?_) (h.holds _ hm)
   exact F j hj' (Ne.symm E) x hx
 ·rw [da]
  intro p q hp hq N
  have hp':p<C.length:=by simpa using hp
  have hq':q<C.length:=by simpa using hq
  have hs:=da.1 h.sep p q hp' hq' N
  rw [List.getElem_set,List.getElem_set]
  split
  ·rename_i M; subst M
   rw [if_neg I]
   intro x hx hx'
   exact absurd (hA' x hx) (F q hq' I x hx')
  ·split
   ·rename_i M; subst M
    intro x hx hx'
    exact absurd (hA' x hx') (F p hp' I x hx)
   ·exact hs
 ·intro B hB x hx
  obtain ⟨j,hj,D⟩:=List.mem_iff_getElem.1 hB
  rw [List.getElem_set] at D
  split at D
  ·subst D
   have:=hA' x (A'.fE x hx)
   subst this; exact H
  ·subst D
   exact h.own _ (List.getElem_mem _) x hx
 ·intro B hB x hx
  obtain ⟨j,hj,D⟩:=List.mem_iff_getElem.1 hB
  rw [List.getElem_set] at D
  split at D
  ·subst D
   have:=hA' x hx
   subst this; exact K
  ·subst D
   exact h.seen _ (List.getElem_mem _) x hx
theorem St.store {S:BS} {w0 w w':World} {b t:Nat} {cs cs':List Value} (i:Nat) (h:St S w0 C w) (hC:C[i]? =some (cv b t cs)) (hk:bX (only b) w w') (hb:w'.heap[b]? =some (.cells cs'.toArray t (0,0))):St S w0 (C.set i (cv b t cs')) w':=
 h.qm i hC rfl rfl hk (fun _ h=>h) hb
theorem nQ {t n b o tt:Nat} {x y:Operand} {v:Value} {vs cs cs':List Value} {C':List ah} (i:Nat) (hg:e6 ops L g=true) (hx:ev L x=some (.pointer (some ⟨b,o,none⟩))) (hy:ev L y=some v) (ht:(tK E.P t).map (·.2)=some n) (hv:v.cells.toList=vs) (hn:vs.length=n)
 (h1:vs.all Value.oneCell'=true) (hC:C[i]? =some (cv b tt cs)) (hl:Nat.ble (o+n) cs.length=true) (hcs:cs.take o++vs++cs.drop (o+n)=cs') (hC':C.set i (cv b tt cs')=C') (k:RJ E ops Q rest D L C'):
 RJ E ops Q (⟨none,.store t x y,ty,ps,af,g⟩::rest) D L C:=by
 intro a w A hs
 unfold kK
 rw [if_pos (cx A hg)]
 have hl':=Nat.le_of_ble_eq_true hl
 obtain ⟨w',hr,hb',hk⟩:=iT (P:=E.P) vs cs o 0 w (fun v hv=>bY.1 h1 v hv) (by rw [hn]; exact hl') (hs.holds _ (aI hC))
 have B:(sizeOf t).run E.P w= .ok n w:=by
  obtain ⟨bn,F,rfl⟩:=Option.map_eq_some_iff.1 ht
  obtain ⟨bb,nn⟩:=bn
  cases bb
  ·exact (me F w).2
  ·exact (ig F w).2
 have G:v.cells.size=n:=by rw [← hn,← hv]; simp
 refine l0 sm (w':=w') ?_ ?_
 ·simp [execOp,A.ev hx,A.ev hy,Instr.storeAt,Instr.sureAddr,storeVar,B,G,hv,hr]
 ·refine k _ _ ⟨A.defers,A.size,A.at_⟩ ?_
  rw [← hC']
  refine hs.store i hC hk ?_
  rw [hb']
  simp only [Nat.add_zero,hn,hcs]
end
end
section
open Go.RowKit
def kl (C:List ah) (is:List Nat):List ah:=is.filterMap (C[·]?)
theorem ve {C:List ah} {is:List Nat} {A:ah} (h:A∈kl C is):A∈C:=by
 obtain ⟨i,_,hi⟩:=List.mem_filterMap.1 h
 exact aI hi
theorem vV {C:List ah} (hC:C.Pairwise rO): ∀ {is:List Nat},is.Nodup→(kl C is).Pairwise rO:=by
 intro is
 induction is with
 |nil=>intro _; exact List.Pairwise.nil
 |cons i is ih=>
  intro hn
  rw [List.nodup_cons] at hn
  unfold kl
  cases hi:C[i]? with
  |none=>simp only [List.filterMap_cons,hi]; exact ih hn.2
  |some A=>
   simp only [List.filterMap_cons,hi]
   refine List.Pairwise.cons (fun B hB=>?_) (ih hn.2)
   obtain ⟨j,hj,H⟩:=List.mem_filterMap.1 hB
   have AA:i≠j:=fun e=>hn.1 (e▸hj)
   obtain ⟨D,E⟩:=aJ.1 hi
   obtain ⟨F,G⟩:=aJ.1 H
   rcases Nat.lt_or_gt_of_ne AA with h|h
   ·have:=da.1 hC i j D F h
    rwa [E,G] at this
   ·have:=da.1 hC j i F D h
    rw [E,G] at this
    exact rO.symm this
theorem uL {is:List Nat} (h:decide is.Nodup=true):is.Nodup:=of_decide_eq_true h
theorem St.kl {S:BS} {w0 w:World} {C C':List ah} (is:List Nat) (hn:decide is.Nodup=true) (hC:Go.Proofs.YtpfjokbjambohaaGreat.kl C is=C') (h:St S w0 C w):St S w0 C' w:=by
 subst hC
 exact h.sub (vV h.sep (uL hn)) (fun A hA=>ve hA)
def gd (r:Nat):Deferred:={target:= .collected r,args:= #[]}
/-- what is asked where a function is left -/
def LJ (E:c_) (fn:Func) (R:Ending→World→Prop) (D:dH) (L:bT) (C:List ah):Prop:=
 ∀ a w,Fr E.n D L a→St E.S E.w0 C w→LeavesInM (Fw none) 0 E.P fn a.tmps R D .returning w
def sr (P:Program) (L:bT) (C:List ah):List ResultVar→List Value→Prop
 |[],[]=>True
 | .tmp t::rs,v::vs=>L.lookup t=some v∧sr P L C rs vs
 | .cell a t::rs,v::vs=>(∃ A,L.lookup a=some (.pointer A)∧((∃ n us,tK P t=some (true,n)∧At C A us∧us.length=n∧v= .agg us.toArray)∨(∃ n,tK P t=some (false,n)∧At C A [v])))∧sr P L C rs vs
 |_,_=>False
def x9 (vs:List Value):Value:=match vs with |[v]=>v|_=> .tuple vs.toArray
theorem mU {P:Program} {t n:Nat} {A:OA} {v:Value} {w:World} (ht:tK P t=some (false,n)) (h: ∃ ad,A=some ad∧ ∀ j u,[v][j]? =some u→w.cell? (ad.add j)=some u):(do loadVar t (← asAddr (.pointer A)):Sem Value).run P w= .ok v w:=by
 obtain ⟨ad,rfl,hc⟩:=h
 have B:w.cell? ad=some v:=by simpa [Addr.add] using hc 0 v rfl
 simp [asAddr,loadVar,(me ht w).1,B]
theorem mT {P:Program} {t n:Nat} {A:OA} {us:List Value} {w:World} (ht:tK P t=some (true,n)) (hn:us.length=n) (h: ∃ ad,A=some ad∧ ∀ j u,us[j]? =some u→w.cell? (ad.add j)=some u):(do loadVar t (← asAddr (.pointer A)):Sem Value).run P w= .ok (.agg us.toArray) w:=by
 obtain ⟨ad,rfl,hc⟩:=h
 have hl:(loadCells ad n).run P w= .ok us.toArray w:=by rw [← hn]; exact run_loadCells_list w ad us hc
 simp [asAddr,loadVar,(ig ht w).1,(ig ht w).2,hl]
theorem uN {P:Program} {L:bT} {C:List ah} {tmps:Array Value} {w:World} (hL: ∀ t v,L.lookup t=some v→tmps[t]? =some v) (hw: ∀ A∈C,A.holds w): ∀ (rs:List ResultVar) (vs:List Value),sr P L C rs vs→
 (rs.mapM (fun
  | .tmp t=>pure (tmps.getD t undef)
  | .cell a t=>do loadVar t (← asAddr (tmps.getD a undef)):ResultVar→Sem Value)).run P w= .ok vs w:=by
 intro rs
 induction rs with
 |nil=>intro vs h; cases vs with |nil=>simp |cons v vs=>exact h.elim
 |cons r rs ih=>
  intro vs h
  cases vs with
  |nil=>cases r<;>exact h.elim
  |cons v vs=>
   cases r with
   |tmp t=>
    obtain ⟨D,E⟩:=h
    have hg:tmps.getD t undef=v:=by simp [hL t v D]
    simp only [List.mapM_cons,Sem.run_bind,hg,Sem.run_pure,Result.andThen_ok,ih vs E]
   |cell a t=>
    obtain ⟨⟨A,D,F⟩,E⟩:=h
    have hg:tmps.getD a undef= .pointer A:=by simp [hL a _ D]
    have hl:(do loadVar t (← asAddr (.pointer A)):Sem Value).run P w= .ok v w:=by
     rcases F with ⟨n,us,ht,B,hn,rfl⟩|⟨n,ht,B⟩
     ·exact mT ht hn (B w hw)
     ·exact mU ht (B w hw)
    rw [← hg] at hl
    simp only [List.mapM_cons]
    rw [Sem.run_bind,hl]
    simp only [Result.andThen_ok,Sem.run_bind,ih vs E,Sem.run_pure]
theorem ox {P:Program} {fn:Func} {L:bT} {C:List ah} {tmps:Array Value} {w:World} {vs:List Value} (hL: ∀ t v,L.lookup t=some v→tmps[t]? =some v) (hw: ∀ A∈C,A.holds w) (h:sr P L C fn.results.toList vs):(results fn tmps).run P w= .ok (x9 vs) w:=by
 have B:=uN hL hw _ _ h
 unfold results
 rw [Array.mapM_eq_mapM_toList]
 generalize (fn.results.toList.mapM _:Sem (List Value))=m at B ⊢
 match vs with
 |[]=>simp [x9,B]
 |[v]=>simp [x9,B]
 |u::v::vs=>simp [x9,B]
theorem fW {E:c_} {fn:Func} {R:Ending→World→Prop} {L:bT} {C:List ah} {vs:List Value} (h:sr E.P L C fn.results.toList vs) (hR: ∀ w,St E.S E.w0 C w→R (.returned (x9 vs)) w):LJ E fn R [] L C:=
 fun a w hf hs=>⟨_,ox hf.at_ hs.holds h,hR w hs⟩
theorem ek {w:World} {b:Nat} (o:Obj):bX (only b) w (w.putObj b o):=⟨rfl,rfl,rfl,by simp [World.putObj],fun k _ hn=>World.putObj_heap_other hn⟩
theorem qj {E:c_} {fn:Func} {R:Ending→World→Prop} {D:dH} {L:bT} {C C':List ah} {r:Nat} (i:Nat) (hC:C[i]? =some (fC r (.deferred (some [])))) (hC':C.set i (fC r (.deferred none))=C') (h:LJ E fn R D L C'):LJ E fn R (gd r::D) L C:=by
 intro a w hf hs
 have hb:w.heap[r]? =some (.deferred (some [])):=hs.holds _ (aI hC)
 refine ⟨sm,.inl ⟨r,_,U,run_takeDeferred hb,?_⟩⟩
 refine h {a with defers:=D} _ ⟨rfl,hf.size,hf.at_⟩ ?_
 rw [← hC']
 exact hs.qm i hC U U (ek _) (fun _ h=>h) (World.putObj_heap_same (cU hb))
/-- the contract's end, out of the state -/
def tg (w0:World) {α:Type} (V:α→Value) (p:α→Prop) (N:α→List ah) (e:Ending) (w':World):Prop:= ∃ x,e= .returned (V x)∧p x∧bX no w0 w'∧v3 w0 w' (N x)
theorem yx {w0 w:World} {C:List ah} {α:Type} {V:α→Value} {p:α→Prop} {N:α→List ah} {v:Value} (x:α) (is:List Nat) (hV:v=V x) (hp:p x) (hn:decide is.Nodup=true) (hN:kl C is=N x) (hw:(N x).all (·.wr)=true) (hs:St j4 w0 C w):tg w0 V p N (.returned v) w:=by
 refine ⟨x,by rw [hV],hp,hs.keeps,?_⟩
 have B:=St.kl is hn hN hs
 refine ⟨B.holds,fun A hA b hb=>?_,B.sep⟩
 rcases B.own A hA b (A.whole (bY.1 hw A hA) b hb) with h|h
 ·exact h
 ·exact h.elim
def oA (w0:World) (v:Value) (e:Ending) (w':World):Prop:=e= .returned v∧bX no w0 w'
theorem ua {w0 w:World} {C:List ah} {u v:Value} (h:u=v) (hs:St j4 w0 C w):oA w0 v (.returned u) w:=⟨by rw [h],hs.keeps⟩
def xz (args:List Value):bT:=(args.zipIdx 0).map fun p=>(p.2,p.1)
theorem mS: ∀ (args:List Value) (k t:Nat) (v:Value),((args.zipIdx k).map fun p=>(p.2,p.1)).lookup t=some v→k≤t∧args[t-k]? =some v:=by
 intro args
 induction args with
 |nil=>intro k t v h; simp at h
 |cons x xs ih=>
  intro k t v h
  simp only [List.zipIdx_cons,List.map_cons,List.lookup] at h
  by_cases e:t=k
  ·subst e; simp at h; subst h; simp
  ·have:(t==k)=false:=by simpa using e
   rw [this] at h
   obtain ⟨B,A⟩:=ih (k+1) t v h
   refine ⟨I,?_⟩
   rw [show t-k=(t-(k+1))+1 from by omega]
   simpa using A
theorem j_ {Cp:List ah} {w:World} (h: ∀ A∈Cp,A.holds w):St j4 w (Cp.map ah.ro) w:=by
 refine ⟨bX.refl _ _,fun A hA=>?_,?_,fun A hA b hb=>?_,fun A hA b hb=> .inr trivial⟩
 ·obtain ⟨B,hB,rfl⟩:=bP.1 hA; exact h B hB
 ·refine List.pairwise_of_forall_mem_list fun A hA B hB b _ _=>?_
  obtain ⟨A',_,rfl⟩:=bP.1 hA
  obtain ⟨B',_,rfl⟩:=bP.1 hB
  exact ⟨fun h=>h,fun h=>h⟩
 ·obtain ⟨B,_,rfl⟩:=bP.1 hA; exact hb.elim
theorem wm {P:Program} {f:FuncId} {fn:Func} {c:Code} {args:List Value} {Cp:List ah} {R:World→Ending→World→Prop} (hf:P.funcs[f]? =some fn) (hb:fn.body=some c) (hn:Nat.ble args.length fn.ntmps=true)
 (h: ∀ (w0:World) (Q:bJ),(∀ D L C,LJ ⟨P,none,fn.ntmps,j4,w0⟩ fn (R w0) D L C→KJ ⟨P,none,fn.ntmps,j4,w0⟩ (Q .ret) D L C)→(∀ D L C,LJ ⟨P,none,fn.ntmps,j4,w0⟩ fn (R w0) D L C→KJ ⟨P,none,fn.ntmps,j4,w0⟩ (Q .normal) D L C)→
  WJ ⟨P,none,fn.ntmps,j4,w0⟩ c Q [] (xz args) (Cp.map ah.ro)) (w:World) (hw: ∀ A∈Cp,A.holds w):Calls P f args.toArray w (R w):=by
 refine lF (callsIn_of_wp_marks hf hb trivial ?_ U)
 have E:=Nat.le_of_ble_eq_true hn
 refine h w (bodyPostM (Fw none) 0 P fn (R w)) ?_ ?_ _ w ⟨U,by simp; omega,fun t v hv=>?_⟩ (j_ hw)
 ·intro D L C hl a w' hf' hs'
  have:=hl a w' hf' hs'
  show LeavesInM (Fw none) 0 P fn a.tmps (R w) a.defers .returning w'
  rw [hf'.defers]; exact this
 ·intro D L C hl a w' hf' hs'
  have:=hl a w' hf' hs'
  show LeavesInM (Fw none) 0 P fn a.tmps (R w) a.defers .returning w'
  rw [hf'.defers]; exact this
 ·obtain ⟨_,B⟩:=mS args 0 t v hv
  have ht:t<args.length:=by
   have:=(aJ.1 B).1; omega
  simp only [Nat.sub_zero] at B
  rw [Array.getElem?_append_left (by simpa using ht)]
  simpa using B
theorem bD {P:Program} {f:FuncId} {fn:Func} {c:Code} {args:List Value} {Cp:List ah} {v:Value} (hgo:jA P f=true) (hf:P.funcs[f]? =some fn) (hb:fn.body=some c) (hn:Nat.ble args.length fn.ntmps=true)
 (h: ∀ (w0:World) (Q:bJ),(∀ D L C,LJ ⟨P,none,fn.ntmps,j4,w0⟩ fn (oA w0 v) D L C→KJ ⟨P,none,fn.ntmps,j4,w0⟩ (Q .ret) D L C)→(∀ D L C,LJ ⟨P,none,fn.ntmps,j4,w0⟩ fn (oA w0 v) D L C→KJ ⟨P,none,fn.ntmps,j4,w0⟩ (Q .normal) D L C)→
  WJ ⟨P,none,fn.ntmps,j4,w0⟩ c Q [] (xz args) (Cp.map ah.ro)):dx P f args Cp v:=⟨hgo,fun w hw=>wm (R:=fun w0=>oA w0 v) hf hb hn h w hw⟩
theorem dh {P:Program} {f:FuncId} {fn:Func} {c:Code} {args:List Value} {Cp:List ah} {α:Type} {V:α→Value} {p:α→Prop} {N:α→List ah} (hgo:jA P f=true) (hf:P.funcs[f]? =some fn) (hb:fn.body=some c) (hn:Nat.ble args.length fn.ntmps=true)
 (h: ∀ (w0:World) (Q:bJ),(∀ D L C,LJ ⟨P,none,fn.ntmps,j4,w0⟩ fn (tg w0 V p N) D L C→KJ ⟨P,none,fn.ntmps,j4,w0⟩ (Q .ret) D L C)→(∀ D L C,LJ ⟨P,none,fn.ntmps,j4,w0⟩ fn (tg w0 V p N) D L C→KJ ⟨P,none,fn.ntmps,j4,w0⟩ (Q .normal) D L C)→
  WJ ⟨P,none,fn.ntmps,j4,w0⟩ c Q [] (xz args) (Cp.map ah.ro)):jH P f args Cp V p N:=⟨hgo,fun w hw=>wm (R:=fun w0=>tg w0 V p N) hf hb hn h w hw⟩
end
section
open Go.RowKit
/-- a slice of one's own, that may be appended to -/
def own (a:OA) (c:Nat) (e sz:Nat) (es:List (List Value)):ah where
 cH b:= ∃ ad,a=some ad∧b=ad.block
 wf b:= ∃ ad,a=some ad∧b=ad.block
 holds w:=(∀ x∈es,x.length=sz)∧w.ownsRow 0 e sz (.slice a es.length c) es.length es.flatten
 wr:=true
 fE _ h:=h
 whole _ _ h:=h
 lt w h b hb:=by
  obtain ⟨ad,rfl,rfl⟩:=hb
  exact (h.2.lt ad.block rfl).2
 h_ w w' hk h:=by
  refine ⟨h.1,h.2.1,?_⟩
  rcases h.2.2 with h1|⟨g,cap,cur,hv,h2,h3,h4⟩
  ·exact .inl h1
  ·refine .inr ⟨g,cap,cur,hv,h2,?_,h4⟩
   injection hv with hv
   subst hv
   rw [hk g ⟨_,rfl,rfl⟩]; exact h3
theorem qK {w:World} {a:OA} {c e sz:Nat} {es:List (List Value)} (h:(own a c e sz es).holds w):(rd a es.length sz es).holds w:=by
 obtain ⟨hl,A,C⟩:=h
 rcases C with ⟨F,B⟩|⟨g,cap,cur,hv,_,D,G,H,AA,E⟩
 ·exact ⟨U,hl,fun hn=>by simp [B] at hn⟩
 ·injection hv with hv
  subst hv
  refine m6 (cs:=cur.toList) (t:=e) ?_ U hl ⟨cur.toList.drop (es.length*sz),?_⟩
  ·show w.heap[g]? =_
   rw [D]
  ·rw [← E]; exact List.take_append_drop _ _
theorem qP {C:List ah} {a:OA} {c e sz:Nat} {es:List (List Value)} (i:Nat) (hC:C[i]? =some (own a c e sz es)):j3 C (rd a es.length sz es).holds:=fun w hw=>qK (aO i hC w hw)
theorem lQ (w:World) (e sz:Nat):(own none 0 e sz []).holds w:=⟨sm,sm,.inl ⟨rfl,rfl⟩⟩
theorem St.lQ {S:BS} {w0 w:World} {C:List ah} (h:St S w0 C w) (e sz:Nat):St S w0 (Go.Proofs.YtpfjokbjambohaaGreat.own none 0 e sz []::C) w:=by
 refine ⟨h.keeps,fun A hA=>?_,List.Pairwise.cons (fun B _ b hb=>?_) h.sep,fun A hA b hb=>?_,fun A hA b hb=>?_⟩
 ·rcases bE.1 hA with rfl|hA
  ·exact Go.Proofs.YtpfjokbjambohaaGreat.lQ w e sz
  ·exact h.holds A hA
 ·obtain ⟨ad,D,_⟩:=hb; cases D
 ·rcases bE.1 hA with rfl|hA
  ·obtain ⟨ad,D,_⟩:=hb; cases D
  ·exact h.own A hA b hb
 ·rcases bE.1 hA with rfl|hA
  ·obtain ⟨ad,D,_⟩:=hb; cases D
  ·exact h.seen A hA b hb
theorem ea {E:c_} {ops:Array Oper} {Q:bJ} {rest:List Oper} {D:dH} {L:bT} {C:List ah} (e sz:Nat) (k:RJ E ops Q rest D L (own none 0 e sz []::C)):RJ E ops Q rest D L C:=fun a w hf hs=>k a w hf (hs.lQ e sz)
theorem ep {E:c_} {c:Code} {Q:bJ} {D:dH} {L:bT} {C:List ah} (e sz:Nat) (k:WJ E c Q D L (own none 0 e sz []::C)):WJ E c Q D L C:=fun a w hf hs=>k a w hf (hs.lQ e sz)
theorem rN {w:World} {g e:Nat} {cs:List Value} {sz:Nat} {es:List (List Value)} (h:(cv g e cs).holds w) (h2: ∀ x∈es,x.length=sz) (h3:es.flatten=cs) (hm:es.length≤maxLen):(own (some ⟨g,0,none⟩) es.length e sz es).holds w:=by
 have hl:es.flatten.length=es.length*sz:=by
  clear h3 hm
  induction es with
  |nil=>simp
  |cons x xs ih=>
   simp only [List.flatten_cons,List.length_append,List.length_cons]
   rw [ih (fun y hy=>h2 y (by simp [hy])),h2 x sm,Nat.succ_mul,Nat.add_comm]
 refine ⟨h2,hl,.inr ⟨g,es.length,cs.toArray,U,Nat.zero_le _,h,Nat.le_refl _,hm,by simp [← h3,hl],?_⟩⟩
 show List.take (es.length*sz) cs=es.flatten
 rw [← h3,← hl]
 exact List.take_length
theorem eI {E:c_} {ops:Array Oper} {Q:bJ} {rest:List Oper} {D:dH} {L:bT} {C C':List ah} {g e:Nat} {cs:List Value} {sz:Nat} {es:List (List Value)} (i:Nat) (hC:C[i]? =some (cv g e cs)) (h2: ∀ x∈es,x.length=sz) (h3:es.flatten=cs) (hm:es.length≤maxLen)
 (hC':C.set i (own (some ⟨g,0,none⟩) es.length e sz es)=C') (k:RJ E ops Q rest D L C'):RJ E ops Q rest D L C:=fun a w hf hs=>by
 refine k a w hf ?_
 rw [← hC']
 refine hs.qm i hC U U (bX.refl _ _) (fun x hx=>?_) (rN (hs.holds _ (aI hC)) h2 h3 hm)
 obtain ⟨ad,A,h2⟩:=hx
 cases A; exact h2
/-- one assertion's block has turned, or has gone to a new one -/
theorem St.move {S:BS} {w0 w w':World} {C:List ah} {A A':ah} {row:Option Nat} (i:Nat) (h:St S w0 C w) (hC:C[i]? =some A) (hA: ∀ b,row=some b→A.cH b) (hw:A.wr=true) (hk:w.grownBy w' row) (hA': ∀ x,A'.cH x→row=some x∨w.heap.size≤x) (hb:A'.holds w'):St S w0 (C.set i A') w':=by
 have hi:i<C.length:=(aJ.1 hC).1
 have H:C[i]=A:=(aJ.1 hC).2
 have F:A∈C:=aI hC
 have J: ∀ j (hj:j<C.length),j≠i→ ∀ x,(C[j]).cH x→ ¬ A.cH x:=by
  intro j hj G x hx he
  rcases Nat.lt_or_gt_of_ne G with K|K
  ·have:=da.1 h.sep j i hj hi K
   rw [H] at this
   exact (this x hx he).2 (A.whole hw x he)
  ·have:=da.1 h.sep i j hi hj K
   rw [H] at this
   exact (this x he hx).1 (A.whole hw x he)
 have AA: ∀ j (hj:j<C.length),j≠i→ ∀ x,(C[j]).cH x→ ¬ A'.cH x:=by
  intro j hj G x hx he
  rcases hA' x he with E|E
  ·exact J j hj G x hx (hA x E)
  ·have:=(C[j]).lt w (h.holds _ (List.getElem_mem hj)) x hx
   omega
 refine ⟨?_,?_,?_,?_,?_⟩
 ·refine ⟨hk.os.trans h.keeps.os,hk.tape.trans h.keeps.tape,hk.output.trans h.keeps.output,Nat.le_trans h.keeps.size hk.size,fun k L hn=>?_⟩
  refine (hk.block k (Nat.lt_of_lt_of_le L h.keeps.size) (fun e=>?_)).trans (h.keeps.block k L hn)
  rcases h.own A F k (A.whole hw k (hA k e.symm)) with E|E
  ·omega
  ·exact hn E
 ·intro B hB
  obtain ⟨j,hj,D⟩:=List.mem_iff_getElem.1 hB
  rw [List.getElem_set] at D
  split at D
  ·subst D; exact hb
  ·rename_i G
   subst D
   have hj':j<C.length:=by simpa using hj
   have hm:C[j]∈C:=List.getElem_mem hj'
   refine (C[j]).h_ w w' (fun x hx=>hk.block x ((C[j]).lt w (h.holds _ hm) x hx) (fun e=>?_)) (h.holds _ hm)
   exact J j hj' (Ne.symm G) x hx (hA x e.symm)
 ·rw [da]
  intro p q hp hq N
  have hp':p<C.length:=by simpa using hp
  have hq':q<C.length:=by simpa using hq
  have hs:=da.1 h.sep p q hp' hq' N
  rw [List.getElem_set,List.getElem_set]
  split
  ·rename_i M; subst M
   rw [if_neg I]
   exact fun x hx hx'=>absurd hx (AA q hq' I x hx')
  ·split
   ·rename_i M; subst M
    exact fun x hx hx'=>absurd hx' (AA p hp' I x hx)
   ·exact hs
 ·intro B hB x hx
  obtain ⟨j,hj,D⟩:=List.mem_iff_getElem.1 hB
  rw [List.getElem_set] at D
  split at D
  ·subst D
   rcases hA' x (A'.fE x hx) with E|E
   ·exact h.own A F x (A.whole hw x (hA x E))
   ·exact .inl (Nat.le_trans h.keeps.size E)
  ·subst D
   exact h.own _ (List.getElem_mem _) x hx
 ·intro B hB x hx
  obtain ⟨j,hj,D⟩:=List.mem_iff_getElem.1 hB
  rw [List.getElem_set] at D
  split at D
  ·subst D
   rcases hA' x hx with E|E
   ·exact h.seen A F x (hA x E)
   ·exact .inl (Nat.le_trans h.keeps.size E)
  ·subst D
   exact h.seen _ (List.getElem_mem _) x hx
def tA (P:Program) (t:TypeId):Option (TypeId×Nat×Nat×Value):=
 match P.underlying t with
 |some (.slice e)=>match P.info? e with
  |some i=>match i.zero with
   |some z=>if z.cells.size=i.size then some (e,i.size,i.bytes,z) else none
   |none=>none
  |none=>none
 |_=>none
theorem qn {P:Program} {t e sz by_:Nat} {z:Value} (h:tA P t=some (e,sz,by_,z)): ∃ i,P.underlying t=some (.slice e)∧P.info? e=some i∧i.zero=some z∧i.size=sz∧i.bytes=by_∧z.cells.size=sz:=by
 unfold tA at h
 cases hu:P.underlying t with
 |none=>simp [hu] at h
 |some d=>
  cases d<;>simp [hu] at h
  rename_i e'
  cases hi:P.info? e' with
  |none=>simp [hi] at h
  |some i=>
   cases hz:i.zero with
   |none=>simp [hi,hz] at h
   |some z'=>
    simp only [hi,hz] at h
    split at h
    ·simp only [Option.some.injEq,Prod.mk.injEq] at h
     obtain ⟨rfl,rfl,rfl,rfl⟩:=h
     exact ⟨i,U,hi,hz,U,U,asm⟩
    ·cases h
theorem jm {P:Program} (w:World) (t ty e:TypeId) (i:TypeInfo) (size:Nat) (ht:P.underlying t=some (.slice e)) (hi:P.info? e=some i)
 (v:Value) (n:Nat) (xs:List Value) (hown:w.ownsRow 0 e size v n xs) (c:Nat):(Builtin.append_ #[t,t] ty #[v,.slice none 0 c]).run P w= .ok v w:=by
 rcases hown.2 with ⟨rfl,rfl⟩|⟨g,cap,cur,rfl,_,_,A,_⟩
 ·simp [Builtin.append_,run_underlying ht,sizeOf,typeInfo,hi,Builtin.lenOf,Builtin.firstCells]
 ·simp [Builtin.append_,run_underlying ht,sizeOf,typeInfo,hi,Builtin.lenOf,Builtin.firstCells,A,storeCells]
theorem n_ {w:World} {ad:Addr} {sz:Nat}: ∀ (es:List (List Value)) (k:Nat),(∀ e∈es,e.length=sz)→(∀ i e j v,es[i]? =some e→e[j]? =some v→w.cell? (ad.add ((k+i)*sz+j))=some v)→ ∀ j v,es.flatten[j]? =some v→w.cell? (ad.add (k*sz+j))=some v:=by
 intro es
 induction es with
 |nil=>intro k _ _ j v hj; simp at hj
 |cons x xs ih=>
  intro k hl h j v hj
  have hx:=hl x sm
  simp only [List.flatten_cons] at hj
  rcases Nat.lt_or_ge j x.length with B|A
  ·rw [List.getElem?_append_left B] at hj
   exact h 0 x j v sm hj
  ·rw [List.getElem?_append_right A] at hj
   have:=ih (k+1) (fun e he=>hl e (by simp [he])) (fun i e j v hi hj=>by
    have:=h (i+1) e j v (by simpa using hi) hj
    rwa [show k+1+i=k+(i+1) from by omega]) (j-x.length) v hj
   rw [Nat.succ_mul] at this
   rwa [show k*sz+sz+(j-x.length)=k*sz+j from by omega] at this
section
variable {E:c_} {ops:Array Oper} {Q:bJ} {rest:List Oper} {D:List Deferred} {L:List (Nat×Value)} {C:List ah}
variable {d:Nat} {ty:TypeId} {ps:String} {af:Array Edge} {g:Option (Nat×Bool)}
theorem bW {sz:Nat}: ∀ {es:List (List Value)},(∀ x∈es,x.length=sz)→es.flatten.length=es.length*sz:=by
 intro es
 induction es with
 |nil=>intro _; simp
 |cons x xs ih=>
  intro h
  simp only [List.flatten_cons,List.length_append,List.length_cons]
  rw [ih (fun y hy=>h y (by simp [hy])),h x sm,Nat.succ_mul,Nat.add_comm]
theorem dG {s x:Operand} {t e sz by_ n m m' c c':Nat} {z:Value} {a A:OA} {es es' es2:List (List Value)} (i:Nat) (hg:e6 ops L g=true) (hs:ev L s=some (.slice a n c)) (hx:ev L x=some (.slice A m c')) (ht:tA E.P t=some (e,sz,by_,z)) (hsz:Nat.blt 0 sz=true)
 (hC:C[i]? =some (own a c e sz es)) (hn:n=es.length) (hR:j3 C (rd A m sz es').holds) (h1: ∀ v∈es'.flatten,v.oneCell'=true) (hb:(n+m)*by_≤140737488355328) (hb2:n+m≤maxLen) (hes:es++es'=es2) (hm':es2.length=m') (hd:Nat.blt d E.n=true)
 (k: ∀ (a':OA) (c2:Nat),RJ E ops Q rest D ((d,.slice a' m' c2)::L) (C.set i (own a' c2 e sz es2))):
 RJ E ops Q (⟨some d,.call {callee:= .builtin .append,args:= #[s,x],argTypes:= #[t,t]},ty,ps,af,g⟩::rest) D L C:=by
 intro act w G J
 have hd':d<E.n:=by rw [← Nat.blt_eq]; exact hd
 have hsz':0<sz:=by rw [← Nat.blt_eq]; exact hsz
 obtain ⟨inf,hu,hi,hz,V,W,X⟩:=qn ht
 unfold kK
 rw [if_pos (cx G hg)]
 subst hn hes hm'
 obtain ⟨S,B⟩:(own a c e sz es).holds w:=J.holds _ (aI hC)
 obtain ⟨F,AB,AA⟩:=J.has hR
 have T: ∀ x∈es++es',x.length=sz:=fun x hx=>by
  rcases dV.1 hx with h|h
  ·exact S x h
  ·exact AB x h
 have main: ∃ v' w',(Builtin.append_ #[t,t] ty #[.slice a es.length c,.slice A m c']).run E.P w= .ok v' w'∧w'.ownsRow 0 e sz v' (es.length+m) (es.flatten++es'.flatten)∧w.grownBy w' (vS a es.length c).ownBlock∧(v'.ownBlock=(vS a es.length c).ownBlock∨v'.ownBlock=some w.heap.size):=by
  by_cases R:m=0
  ·subst R
   have he:es'=[]:=e9 F
   subst he
   cases A with
   |none=>exact ⟨_,w,jm w t ty e inf sz hu hi _ _ _ B c',by simpa using B,World.grownBy.refl w _,.inl rfl⟩
   |some ad=>
    obtain ⟨v',w',M,K,N,_,O⟩:=run_append_own_at (P:=E.P) w 0 t ty e inf z sz by_ hu hi hz V W X hsz' _ _ _ B ad 0 c' [] sm sm sm hb2 hb (Nat.zero_le _)
    exact ⟨v',w',M,by simpa using K,N,O⟩
  ·obtain ⟨ad,hA,hc⟩:=AA (Nat.mul_pos I hsz')
   subst hA
   obtain ⟨v',w',M,K,N,_,O⟩:=run_append_own_at (P:=E.P) w 0 t ty e inf z sz by_ hu hi hz V W X hsz' _ _ _ B ad m c' es'.flatten (by rw [bW AB,F])
    (fun j v hj=>by have:=n_ (w:=w) (ad:=ad) es' 0 AB (fun i e j v hi hj=>by simpa using hc i e j v hi hj) j v hj; simpa using this) h1 hb2 hb (Nat.zero_le _)
   exact ⟨v',w',M,K,N,O⟩
 obtain ⟨v',w',M,K,N,O⟩:=main
 have H: ∃ a' c2,v'= .slice a' (es++es').length c2:=by
  rcases K.2 with ⟨rfl,R⟩|⟨gg,cap,cur,rfl,_⟩
  ·exact ⟨none,0,by rw [List.length_append,F,R]⟩
  ·exact ⟨_,cap,by rw [List.length_append,F]⟩
 obtain ⟨a',c2,rfl⟩:=H
 refine eb sm (w':=w') (v:= .slice a' (es++es').length c2) ?_ ?_
 ·simp [execOp,resolve,invoke,builtin,G.ev hs,G.ev hx,M]
 ·refine k a' c2 _ _ (G.put hd' _) ?_
  refine J.move i hC (row:=(vS a es.length c).ownBlock) (fun b hb=>?_) U N (fun y hy=>?_) ?_
  ·cases a with
   |none=>simp [Value.ownBlock] at hb
   |some ad=>exact ⟨ad,rfl,by simpa [Value.ownBlock] using hb.symm⟩
  ·obtain ⟨ad,rfl,rfl⟩:=hy
   rcases O with h|h
   ·left; rw [← h]; rfl
   ·right; simp [Value.ownBlock] at h; omega
  ·refine ⟨T,?_⟩
   rw [List.flatten_append]
   rw [show (es++es').length=es.length+m from by rw [List.length_append,F]] at K ⊢
   exact K
end
end
section
structure bB where
 a:OA
 n:Nat
 c:Nat
 deriving DecidableEq
def iC (x:Int):List Value:=[.int .i64 x]
@[simp] theorem ba (x:Int):(iC x).length=1:=rfl
def xh (x:Int):List Value:=[.int .u32 x]
@[simp] theorem uT (x:Int):(xh x).length=1:=rfl
def tS (x:Int):List Value:=[.int .u8 x]
@[simp] theorem vW (x:Int):(tS x).length=1:=rfl
theorem dq {n:Int} (h:0≤n∧n≤255):IntKind.i64.wrap n=n:=gh ⟨I,I⟩
theorem hO {α:Type} {f:α→List Value} (h: ∀ s,(f s).all Value.oneCell'=true) (l:List α): ∀ v∈(l.map f).flatten,v.oneCell'=true:=fun v hv=>by
 obtain ⟨x,hx,A⟩:=List.mem_flatten.1 hv
 obtain ⟨s,_,rfl⟩:=bP.1 hx
 exact bY.1 (h s) v A
theorem gX (l:List Int): ∀ v∈(l.map iC).flatten,v.oneCell'=true:=hO (fun _=>rfl) l
theorem nm {P:Program} {t:TypeId} (x y:Operand) {xs ys:List Value} {b:Bool} (hm:P.eqGuardType P.depth t=false) (h: ∀ w,(Op.equalIn 10000 t (.agg xs.toArray) (.agg ys.toArray)).run P w= .ok b w):dW P .eql t x y (.agg xs.toArray) (.agg ys.toArray) (.bool b):=fun w=>by
 rw [Sem.run_bind,run_eqGuard_agg w _ _ _ _ _ _ hm]
 simp only [Result.andThen_ok]
 rw [run_eql_struct,h w]; rfl
theorem mi {P:Program} {t n off:Nat} {xs vs:List Value} (ht:tK P t=some (true,n)) (hv:(xs.drop off).take n=vs) (w:World):(part t xs.toArray off).run P w= .ok (.agg vs.toArray) w:=by
 simp [part,(ig ht w).1,(ig ht w).2]
 exact hv
theorem g8 {P:Program} {t n off:Nat} {xs:List Value} {v:Value} (ht:tK P t=some (false,n)) (hv:xs[off]? =some v) (w:World):(part t xs.toArray off).run P w= .ok v w:=by
 simp [part,(me ht w).1,hv]
/-- a struct's fields: of what type, where; none is blank -/
def fL (P:Program) (t:TypeId):Option (List (Nat×Nat)):=
 match P.underlying t with
 |some (.struct fs)=>if fs.toList.all (fun f=>f.name != "_")&& !P.stoodInHeld t&& !P.eqGuardType P.depth t then some (fs.toList.map fun f=>(f.type,f.offset)) else none
 |_=>none
def uV (d:Nat) (xs ys:Array Value):List (Nat×Nat)→Sem Bool
 |[]=>pure true
 |(t,o)::fs=>do
  let a ← part t xs o
  let b ← part t ys o
  let r ← Op.equalIn d t a b
  if (!r)=true then pure false else uV d xs ys fs
theorem xj {P:Program} {d:Nat} {xs ys:Array Value}: ∀ (fs:List Field) (w:World),fs.all (fun f=>f.name != "_")=true→(Op.eqFields d xs ys fs).run P w=(uV d xs ys (fs.map fun f=>(f.type,f.offset))).run P w:=by
 intro fs
 induction fs with
 |nil=>intro w _; simp [Op.eqFields,uV]
 |cons f fs ih=>
  intro w h
  simp only [iq,bU,bne_iff_ne,ne_eq] at h
  simp only [Op.eqFields,uV,List.map_cons,ne_eq,h.1,not_false_eq_true,if_true,Sem.run_bind]
  generalize (part f.type xs f.offset).run P w=r1
  cases r1 with
  |halt x w1=>rfl
  |ok a w1=>
   simp only [Result.andThen_ok]
   generalize (part f.type ys f.offset).run P w1=r2
   cases r2 with
   |halt x w2=>rfl
   |ok b w2=>
    simp only [Result.andThen_ok]
    generalize (Op.equalIn d f.type a b).run P w2=r3
    cases r3 with
    |halt x w3=>rfl
    |ok r w3=>cases r<;>simp [ih _ h.2]
/-- one field more -/
theorem ks {P:Program} {d t o:Nat} {xs ys:Array Value} {fs:List (Nat×Nat)} {a b:Value} {p q:Bool} (w:World) (ha:(part t xs o).run P w= .ok a w) (hb:(part t ys o).run P w= .ok b w)
 (he:(Op.equalIn d t a b).run P w= .ok p w) (hr:(uV d xs ys fs).run P w= .ok q w):(uV d xs ys ((t,o)::fs)).run P w= .ok (p&&q) w:=by
 simp only [uV,Sem.run_bind,ha,hb,he,Result.andThen_ok]
 cases p<;>simp [hr]
theorem qW {P:Program} {d:Nat} {xs ys:Array Value} (w:World):(uV d xs ys []).run P w= .ok true w:=by simp [uV]
theorem og {P:Program} {t:TypeId} {k:IntKind} (d:Nat) {a b:Int} (h:P.underlying t=some (.int k)) (w:World):(Op.equalIn (d+1) t (.int k a) (.int k b)).run P w= .ok (decide (a=b)) w:=by
 rw [run_equalIn_int w d t k k a b h,nN]
theorem mN {P:Program} {t:TypeId} {l:List (Nat×Nat)} (d:Nat) {xs ys:List Value} {b:Bool} (hl:fL P t=some l) (w:World) (h:(uV d xs.toArray ys.toArray l).run P w= .ok b w):(Op.equalIn (d+1) t (.agg xs.toArray) (.agg ys.toArray)).run P w= .ok b w:=by
 unfold fL at hl
 cases hu:P.underlying t with
 |none=>simp [hu] at hl
 |some dd=>
  cases dd<;>simp only [hu] at hl<;>try (cases hl; done)
  rename_i fs
  split at hl
  ·rename_i hc
   simp only [bU,Bool.not_eq_true'] at hc
   cases hl
   have hf:P.fieldsOf t=fs:=by simp [Program.fieldsOf,hu]
   rw [run_equalIn_struct w d t _ _ (by rw [hf]; exact hu) hc.1.2,hf,xj _ _ hc.1.1]
   exact h
  ·cases hl
theorem ow {P:Program} {t:TypeId} {l:List (Nat×Nat)} (hl:fL P t=some l):P.eqGuardType P.depth t=false:=by
 unfold fL at hl
 cases hu:P.underlying t with
 |none=>simp [hu] at hl
 |some dd=>
  cases dd<;>simp only [hu] at hl<;>try (cases hl; done)
  split at hl
  ·rename_i hc
   simp only [bU,Bool.not_eq_true'] at hc
   exact hc.2
  ·cases hl
end
section
open Go.RowKit
def ei (C:List ah):ah where
 cH b:= ∃ A∈C,A.cH b
 wf b:= ∃ A∈C,A.wf b
 holds w:=(∀ A∈C,A.holds w)∧C.Pairwise rO
 wr:=C.all (·.wr)
 fE b:=by rintro ⟨A,hA,h⟩; exact ⟨A,hA,A.fE b h⟩
 whole h b:=by rintro ⟨A,hA,hb⟩; exact ⟨A,hA,A.whole (bY.1 h A hA) b hb⟩
 lt w h b:=by rintro ⟨A,hA,hb⟩; exact A.lt w (h.1 A hA) b hb
 h_ w w' hk h:=⟨fun A hA=>A.h_ w w' (fun b hb=>hk b ⟨A,hA,hb⟩) (h.1 A hA),h.2⟩
theorem St.sB {S:BS} {w0 w:World} {C1 C2:List ah} (h:St S w0 (C1++C2) w):St S w0 (Go.Proofs.YtpfjokbjambohaaGreat.ei C1::C2) w:=by
 obtain ⟨D,E,C⟩:=List.pairwise_append.1 h.sep
 refine ⟨h.keeps,fun A hA=>?_,List.Pairwise.cons (fun B hB b=>?_) E,fun A hA b hb=>?_,fun A hA b hb=>?_⟩
 ·rcases bE.1 hA with rfl|hA
  ·exact ⟨fun A hA=>h.holds A (List.mem_append_left _ hA),D⟩
  ·exact h.holds A (List.mem_append_right _ hA)
 ·rintro ⟨A,hA,hb⟩ hb'
  have hs:=C A hA B hB b hb hb'
  refine ⟨?_,hs.2⟩
  rintro ⟨A',hA',hw⟩
  exact (C A' hA' B hB b (A'.fE b hw) hb').1 hw
 ·rcases bE.1 hA with rfl|hA
  ·obtain ⟨A',hA',hb'⟩:=hb
   exact h.own A' (List.mem_append_left _ hA') b hb'
  ·exact h.own A (List.mem_append_right _ hA) b hb
 ·rcases bE.1 hA with rfl|hA
  ·obtain ⟨A',hA',hb'⟩:=hb
   exact h.seen A' (List.mem_append_left _ hA') b hb'
  ·exact h.seen A (List.mem_append_right _ hA) b hb
theorem St.l2 {S:BS} {w0 w:World} {C1 C2:List ah} (h:St S w0 (Go.Proofs.YtpfjokbjambohaaGreat.ei C1::C2) w):St S w0 (C1++C2) w:=by
 obtain ⟨C,D⟩:=List.pairwise_cons.1 h.sep
 have hb:=h.holds _ (ez ..)
 refine ⟨h.keeps,fun A hA=>?_,List.pairwise_append.2 ⟨hb.2,D,fun A hA B hB b ha hb'=>?_⟩,fun A hA b hb'=>?_,fun A hA b hb'=>?_⟩
 ·rcases dV.1 hA with hA|hA
  ·exact hb.1 A hA
  ·exact h.holds A (eh _ hA)
 ·have hs:=C B hB b ⟨A,hA,ha⟩ hb'
  exact ⟨fun hw=>hs.1 ⟨A,hA,hw⟩,hs.2⟩
 ·rcases dV.1 hA with hA|hA
  ·exact h.own _ (ez ..) b ⟨A,hA,hb'⟩
  ·exact h.own A (eh _ hA) b hb'
 ·rcases dV.1 hA with hA|hA
  ·exact h.seen _ (ez ..) b ⟨A,hA,hb'⟩
  ·exact h.seen A (eh _ hA) b hb'
/-- from one world to another: A's blocks may have turned, or have gone to new ones: B holds -/
structure Mv (A B:ah) (w w':World):Prop where
 holds:B.holds w'
 keeps:bX A.wf w w'
 wf: ∀ b,B.wf b→A.wf b∨w.heap.size≤b
 cH: ∀ b,B.cH b→A.cH b∨w.heap.size≤b
theorem St.mv {S:BS} {w0 w w':World} {C:List ah} {A B:ah} (i:Nat) (h:St S w0 C w) (hC:C[i]? =some A) (m:Mv A B w w'):St S w0 (C.set i B) w':=by
 have hi:i<C.length:=(aJ.1 hC).1
 have AA:C[i]=A:=(aJ.1 hC).2
 have F:A∈C:=aI hC
 have K: ∀ j (hj:j<C.length),j≠i→ ∀ x,(C[j]).cH x→A.cH x→ ¬ (C[j]).wf x∧ ¬ A.wf x:=by
  intro j hj G x hx he
  rcases Nat.lt_or_gt_of_ne G with H|H
  ·have:=da.1 h.sep j i hj hi H
   rw [AA] at this
   exact this x hx he
  ·have:=da.1 h.sep i j hi hj H
   rw [AA] at this
   exact (this x he hx).symm
 have J: ∀ j (hj:j<C.length),j≠i→ ∀ x,(C[j]).cH x→B.cH x→ ¬ (C[j]).wf x∧ ¬ B.wf x:=by
  intro j hj G x hx he
  have H:=(C[j]).lt w (h.holds _ (List.getElem_mem hj)) x hx
  rcases m.cH x he with E|E
  ·obtain ⟨P,Q⟩:=K j hj G x hx E
   refine ⟨P,fun hw=>?_⟩
   rcases m.wf x hw with O|O
   ·exact Q O
   ·omega
  ·omega
 refine ⟨?_,?_,?_,?_,?_⟩
 ·refine ⟨m.keeps.os.trans h.keeps.os,m.keeps.tape.trans h.keeps.tape,m.keeps.output.trans h.keeps.output,Nat.le_trans h.keeps.size m.keeps.size,fun k L hn=>?_⟩
  refine (m.keeps.block k (Nat.lt_of_lt_of_le L h.keeps.size) (fun e=>?_)).trans (h.keeps.block k L hn)
  rcases h.own A F k e with E|E
  ·omega
  ·exact hn E
 ·intro X hX
  obtain ⟨j,hj,D⟩:=List.mem_iff_getElem.1 hX
  rw [List.getElem_set] at D
  split at D
  ·subst D; exact m.holds
  ·rename_i G
   subst D
   have hj':j<C.length:=by simpa using hj
   have hm:C[j]∈C:=List.getElem_mem hj'
   refine (C[j]).h_ w w' (fun x hx=>m.keeps.block x ((C[j]).lt w (h.holds _ hm) x hx) (fun e=>?_)) (h.holds _ hm)
   exact (K j hj' (Ne.symm G) x hx (A.fE x e)).2 e
 ·rw [da]
  intro p q hp hq N
  have hp':p<C.length:=by simpa using hp
  have hq':q<C.length:=by simpa using hq
  have hs:=da.1 h.sep p q hp' hq' N
  rw [List.getElem_set,List.getElem_set]
  split
  ·rename_i M; subst M
   rw [if_neg I]
   exact fun x hx hx'=>(J q hq' I x hx' hx).symm
  ·split
   ·rename_i M; subst M
    exact fun x hx hx'=>J p hp' I x hx hx'
   ·exact hs
 ·intro X hX x hx
  obtain ⟨j,hj,D⟩:=List.mem_iff_getElem.1 hX
  rw [List.getElem_set] at D
  split at D
  ·subst D
   rcases m.wf x hx with E|E
   ·exact h.own A F x E
   ·exact .inl (Nat.le_trans h.keeps.size E)
  ·subst D
   exact h.own _ (List.getElem_mem _) x hx
 ·intro X hX x hx
  obtain ⟨j,hj,D⟩:=List.mem_iff_getElem.1 hX
  rw [List.getElem_set] at D
  split at D
  ·subst D
   rcases m.cH x hx with E|E
   ·exact h.seen A F x E
   ·exact .inl (Nat.le_trans h.keeps.size E)
  ·subst D
   exact h.seen _ (List.getElem_mem _) x hx
/-- a state that was entered with an assertion's blocks alone, left with others -/
theorem Mv.of {A:ah} {w w':World} {C:List ah} (h:St ⟨A.wf,A.cH⟩ w C w'):Mv A (ei C) w w':=by
 refine ⟨⟨h.holds,h.sep⟩,h.keeps,?_,?_⟩
 ·rintro b ⟨B,hB,hb⟩; exact (h.own B hB b hb).symm
 ·rintro b ⟨B,hB,hb⟩; exact (h.seen B hB b hb).symm
theorem St.rD {w:World} {C:List ah} (h:(ei C).holds w):St ⟨(ei C).wf,(ei C).cH⟩ w C w:=
 ⟨bX.refl _ _,h.1,h.2,fun A hA b hb=> .inr ⟨A,hA,hb⟩,fun A hA b hb=> .inr ⟨A,hA,hb⟩⟩
/-- what is read by one is what another holds -/
structure xp (B A:ah):Prop where
 holds: ∀ w,B.holds w→A.holds w
 cH: ∀ b,A.cH b→B.cH b
theorem cD (A:ah):xp A A:=⟨fun _ h=>h,fun _ h=>h⟩
theorem ff {A B:ah} (h:xp B A):xp B.ro A:=⟨h.holds,h.cH⟩
def Yl (w0:World) (P:Program) (l:Nat) (xs:List (List Value)) (J:Nat→ah→Prop) (Z:ah→Prop):Prop:=
 ∀ k x A w,xs[k]? =some x→J k A→w0.heap.size≤w.heap.size→A.holds w→YieldAt (Fw none) 0 P l x.toArray w fun e w'=>
  (e= .returned (.bool true)∧ ∃ B,J (k+1) B∧Mv A B w w')∨(e= .returned (.bool false)∧ ∃ B,Z B∧Mv A B w w')
def uc (J:Nat→ah→Prop) (Z:ah→Prop) (n:Nat) (A0:ah) (w0:World) (e:Ending) (w':World):Prop:=
 ∃ v,e= .returned v∧((∃ B,J n B∧Mv A0 B w0 w')∨ ∃ B,Z B∧Mv A0 B w0 w')
structure vc (P:Program) (f:FuncId) (fi ca:List Value) (Cp:List ah) (xs:List (List Value)):Prop where
 go:jA P f=true
 run: ∀ (l:Nat) (J:Nat→ah→Prop) (Z:ah→Prop) (A0:ah) (w:World),Yl w P l xs J Z→J 0 A0→A0.holds w→(∀ A∈Cp,A.holds w)→(∀ A∈Cp,rO A0 A.ro)→
  Calls P f (fi++Value.func (.yield l) #[] #[]::ca).toArray w (uc J Z xs.length A0 w)
def Fo (A0:ah) (w0:World) (B:ah):Prop:= ∀ b,B.cH b→A0.cH b∨w0.heap.size≤b
theorem yu {J:Nat→ah→Prop} {Z:ah→Prop} {n:Nat} {A0 B:ah} {w0 w:World} {C:List ah} {v:Value} (i:Nat) (hC:C[i]? =some B) (hJ:J n B) (hF:Fo A0 w0 B) (hs:St ⟨A0.wf,fun _=>True⟩ w0 C w):uc J Z n A0 w0 (.returned v) w:=
 ⟨v,rfl,.inl ⟨B,hJ,hs.holds B (aI hC),hs.keeps,fun b hb=>(hs.own B (aI hC) b hb).symm,hF⟩⟩
theorem wE {J:Nat→ah→Prop} {Z:ah→Prop} {n:Nat} {A0 B:ah} {w0 w:World} {C:List ah} {v:Value} (i:Nat) (hC:C[i]? =some B) (hJ:Z B) (hF:Fo A0 w0 B) (hs:St ⟨A0.wf,fun _=>True⟩ w0 C w):uc J Z n A0 w0 (.returned v) w:=
 ⟨v,rfl,.inr ⟨B,hJ,hs.holds B (aI hC),hs.keeps,fun b hb=>(hs.own B (aI hC) b hb).symm,hF⟩⟩
theorem pL {P:Program} {f:FuncId} {fn:Func} {c:Code} {args:List Value} {Cp:List ah} {S:BS} {R:Ending→World→Prop} {w:World} (hf:P.funcs[f]? =some fn) (hb:fn.body=some c) (hn:Nat.ble args.length fn.ntmps=true)
 (h: ∀ (Q:bJ),(∀ D L C,LJ ⟨P,none,fn.ntmps,S,w⟩ fn R D L C→KJ ⟨P,none,fn.ntmps,S,w⟩ (Q .ret) D L C)→(∀ D L C,LJ ⟨P,none,fn.ntmps,S,w⟩ fn R D L C→KJ ⟨P,none,fn.ntmps,S,w⟩ (Q .normal) D L C)→
  WJ ⟨P,none,fn.ntmps,S,w⟩ c Q [] (xz args) Cp) (hw:St S w Cp w):Calls P f args.toArray w R:=by
 refine lF (callsIn_of_wp_marks hf hb trivial ?_ U)
 have B:=Nat.le_of_ble_eq_true hn
 refine h (bodyPostM (Fw none) 0 P fn R) ?_ ?_ _ w ⟨U,by simp; omega,fun t v hv=>?_⟩ hw
 ·intro D L C hl a w' hf' hs'
  have:=hl a w' hf' hs'
  show LeavesInM (Fw none) 0 P fn a.tmps R a.defers .returning w'
  rw [hf'.defers]; exact this
 ·intro D L C hl a w' hf' hs'
  have:=hl a w' hf' hs'
  show LeavesInM (Fw none) 0 P fn a.tmps R a.defers .returning w'
  rw [hf'.defers]; exact this
 ·obtain ⟨_,A⟩:=mS args 0 t v hv
  have ht:t<args.length:=by
   have:=(aJ.1 A).1; omega
  simp only [Nat.sub_zero] at A
  rw [Array.getElem?_append_left (by simpa using ht)]
  simpa using A
theorem rv {P:Program} {f:FuncId} {fn:Func} {c:Code} {fi ca:List Value} {Cp:List ah} {xs:List (List Value)} (hgo:jA P f=true) (hf:P.funcs[f]? =some fn) (hb:fn.body=some c) (hn:Nat.ble (fi.length+ca.length+1) fn.ntmps=true)
 (h: ∀ (l:Nat) (J:Nat→ah→Prop) (Z:ah→Prop) (A0:ah) (w0:World) (Q:bJ),Yl w0 P l xs J Z→J 0 A0→Fo A0 w0 A0→
  (∀ D L C,LJ ⟨P,none,fn.ntmps,⟨A0.wf,fun _=>True⟩,w0⟩ fn (uc J Z xs.length A0 w0) D L C→KJ ⟨P,none,fn.ntmps,⟨A0.wf,fun _=>True⟩,w0⟩ (Q .ret) D L C)→
  (∀ D L C,LJ ⟨P,none,fn.ntmps,⟨A0.wf,fun _=>True⟩,w0⟩ fn (uc J Z xs.length A0 w0) D L C→KJ ⟨P,none,fn.ntmps,⟨A0.wf,fun _=>True⟩,w0⟩ (Q .normal) D L C)→
  WJ ⟨P,none,fn.ntmps,⟨A0.wf,fun _=>True⟩,w0⟩ c Q [] (xz (fi++Value.func (.yield l) #[] #[]::ca)) (A0::Cp.map ah.ro)):vc P f fi ca Cp xs:=by
 refine ⟨hgo,fun l J Z A0 w hY hJ hA F E=>?_⟩
 refine pL hf hb (by simpa [Nat.add_assoc] using hn) (h l J Z A0 w · hY hJ (fun b hb=> .inl hb)) ?_
 have G:=j_ F
 refine ⟨bX.refl _ _,fun A hA'=>?_,List.Pairwise.cons (fun B hB=>?_) G.sep,fun A hA' b hb=>?_,fun _ _ _ _=> .inr trivial⟩
 ·rcases bE.1 hA' with rfl|hA'
  ·exact hA
  ·exact G.holds A hA'
 ·obtain ⟨B',hB',rfl⟩:=bP.1 hB
  exact E B' hB'
 ·rcases bE.1 hA' with rfl|hA'
  ·exact .inr hb
  ·obtain ⟨B',hB',rfl⟩:=bP.1 hA'
   exact hb.elim
section
variable {E:c_} {ops:Array Oper} {Q:bJ} {rest:List Oper} {D:List Deferred} {L:List (Nat×Value)} {C:List ah}
variable {d:Nat} {ty:TypeId} {ps:String} {af:Array Edge} {g:Option (Nat×Bool)}
/-- a call of yield -/
theorem rI {fop:Operand} {xs:Array Operand} {ts:Array TypeId} {l k:Nat} {vs:List Value} {ls:List (List Value)} {J:Nat→ah→Prop} {Z:ah→Prop} {A0 A:ah} (i:Nat) (hY:Yl E.w0 E.P l ls J Z) (hJ:J k A) (hF:Fo A0 E.w0 A) (hg:e6 ops L g=true) (hf:ev L fop=some (.func (.yield l) #[] #[]))
 (hx:evs L xs.toList=some vs) (hk:ls[k]? =some vs) (hC:C[i]? =some A) (hd:Nat.blt d E.n=true)
 (k1: ∀ B,J (k+1) B→Fo A0 E.w0 B→RJ E ops Q rest D ((d,.bool true)::L) (C.set i B))
 (k2: ∀ B,Z B→Fo A0 E.w0 B→RJ E ops Q rest D ((d,.bool false)::L) (C.set i B)):
 RJ E ops Q (⟨some d,.call {callee:= .value fop,args:=xs,argTypes:=ts},ty,ps,af,g⟩::rest) D L C:=by
 intro a w F hs
 have hd':d<E.n:=by rw [← Nat.blt_eq]; exact hd
 unfold kK
 rw [if_pos (cx F hg)]
 have K:xs.map a.eval=vs.toArray:=by
  have:=F.evs hx
  apply Array.ext'
  simp [this]
 obtain ⟨fn,tmps,assign,body,hy,hr⟩:=hY k vs A w hk hJ hs.keeps.size (hs.holds A (aI hC))
 have H:(execOp a.eval ⟨some d,.call {callee:= .value fop,args:=xs,argTypes:=ts},ty,ps,af,g⟩).run E.P w= .ok (.round l fn tmps assign body) w:=by
  simp [execOp,resolve,F.ev hf,Deferred.ofValue,invoke,K,hy]
 refine ⟨fun _ _=>trivial,?_⟩
 rw [Oper.semAt_eq _ _ _ sm,H]
 refine ⟨fun h=>by simp at h,?_⟩
 have G: ∀ (B:ah) (w':World),Mv A B w w'→Fo A0 E.w0 B:=fun B w' m b hb=>by
  rcases m.cH b hb with AA|AA
  ·exact hF b AA
  ·exact .inr (Nat.le_trans hs.keeps.size AA)
 have hr':RoundIn (Fw E.r) 0 E.P l fn tmps assign body w _:=hr
 refine hr'.mono fun e w' he=>?_
 rcases he with ⟨rfl,B,hB,m⟩|⟨rfl,B,hB,m⟩
 ·exact k1 B hB (G B w' m) _ _ (F.put hd' _) (hs.mv i hC m)
 ·exact k2 B hB (G B w' m) _ _ (F.put hd' _) (hs.mv i hC m)
end
def oL (ps:List Tmp) (x:List Value) (L:bT):bT:=(ps.zip x).foldl (fun L p=>(p.1,p.2)::L) L
theorem tp {n:Nat}: ∀ (ps:List Tmp) (x:List Value) (L:bT) (tmps:Array Value),(∀ t∈ps,t<n)→Fr n [] L {tmps:=tmps,defers:=[]}→
 Fr n [] (oL ps x L) {tmps:=(ps.zip x).foldl (fun tmps (p:Tmp×Value)=>tmps.setIfInBounds p.1 p.2) tmps,defers:=[]}:=by
 intro ps
 induction ps with
 |nil=>intro x L tmps _ h; simpa [oL] using h
 |cons t ps ih=>
  intro x L tmps A h
  cases x with
  |nil=>simpa [oL] using h
  |cons v x=>
   have:=h.put (A t sm) v
   simpa [oL] using ih x _ _ (fun t' ht=>A t' (by simp [ht])) this
theorem rB {E:c_} {Q:bJ} {D:dH} {L L0:bT} {C F:List ah} {g:Operand} {ps:Array Tmp} {assign body:Code} {f:FuncId} {fi ca:List Value} {Cp:List ah} {xs:List (List Value)} {ι κ:Type}
 (inv:Nat→ι→Prop) (Ci:Nat→ι→List ah) (invx:Code→κ→Prop) (Cx:Code→κ→List ah) (isJ isF:List Nat) (y0:ι)
 (hr:E.r=none) (hg:ev L g=some (.func (.func f) fi.toArray ca.toArray)) (hs:vc E.P f fi ca Cp xs)
 (hnd:decide (isJ++isF).Nodup=true) (hJ:kl C isJ=Ci 0 y0) (hF:kl C isF=F) (h0:inv 0 y0) (hCp: ∀ A∈Cp,∃ B∈F,xp B A)
 (hps: ∀ x∈xs,x.length=ps.size) (hpn:ps.toList.all (fun t=>Nat.blt t E.n)=true) (hL:cE L L0)
 (round: ∀ (k:Nat) (x:List Value) (y:ι) (l:Nat) (ra rb:Loop) (S:BS) (w0:World) (K:Act→World→Prop) (Qr:bJ),xs[k]? =some x→inv k y→
  (∀ L' C',WJ ⟨E.P,some l,E.n,S,w0⟩ body Qr [] L' (fC l (.loop rb)::C')→KJ ⟨E.P,some l,E.n,S,w0⟩ K [] L' (fC l (.loop ra)::C'))→
  (∀ y' L' C',inv (k+1) y'→(∀ w,St S w0 C' w→St S w0 (fC l (.loop rb)::Ci (k+1) y') w)→KJ ⟨E.P,some l,E.n,S,w0⟩ (Qr .normal) [] L' C')→
  (∀ id z L' C',invx (.exit id) z→(∀ w,St S w0 C' w→St S w0 (fC l (.loop rb)::Cx (.exit id) z) w)→KJ ⟨E.P,some l,E.n,S,w0⟩ (Qr (.exit id)) [] L' C')→
  (∀ z L' C',invx .ret z→(∀ w,St S w0 C' w→St S w0 (fC l (.loop rb)::Cx .ret z) w)→KJ ⟨E.P,some l,E.n,S,w0⟩ (Qr .ret) [] L' C')→
  WJ ⟨E.P,some l,E.n,S,w0⟩ assign (Exit.then K (fun _ _ _=>False)) [] (oL ps.toList x L0) (fC l (.loop ra)::Ci k y))
 (fin: ∀ r y,inv xs.length y→KJ E (Q .normal) (gd r::D) L0 (fC r (.deferred (some []))::(F++Ci xs.length y)))
 (finx: ∀ r id z,invx (.exit id) z→KJ E (Q (.exit id)) (gd r::D) L0 (fC r (.deferred (some []))::(F++Cx (.exit id) z)))
 (finr: ∀ r z,invx .ret z→KJ E (Q .ret) (gd r::D) L0 (fC r (.deferred (some []))::(F++Cx .ret z))):WJ E (.rangeFunc g ps assign body) Q D L C:=by
 intro a w hf A2
 refine wpIn_rangeFunc fun fn _=>?_
 show ∃ l gd w₁ d w₁' f args w₂,(Instr.enterLoop fn a.tmps ps assign body E.r).run E.P w= .ok (l,gd) w₁∧_
 rw [hr]
 obtain ⟨rec,G⟩: ∃ rec:LoopState→Option Code→Loop,rec=fun st pe=>{state:=st,pending:=pe,fn,tmps:=a.tmps,params:=ps,assign,body,defers:=w.heap.size}:=⟨_,rfl⟩
 obtain ⟨W1,X⟩: ∃ W1,(w.alloc (.deferred (some []))).alloc (.loop (rec .ready none))=W1:=⟨_,rfl⟩
 have AQ:a.eval g= .func (.func f) fi.toArray ca.toArray:=hf.ev hg
 have p:(Instr.enterLoop fn a.tmps ps assign body none).run E.P w= .ok (w.heap.size+1,[gd w.heap.size]) W1:=by
  rw [← X,G]; exact run_enterLoop_outer _ _ _ _ _
 -- the state with the record and the block
 have q:St E.S E.w0 ((fC (w.heap.size+1) (.loop (rec .ready none))::Ci 0 y0)++(fC w.heap.size (.deferred (some []))::F)) W1:=by
  have V:St E.S E.w0 (Ci 0 y0++F) w:=St.kl (isJ++isF) hnd (by have V:=hJ; have j:=hF; unfold Go.Proofs.YtpfjokbjambohaaGreat.kl at V j ⊢; rw [List.filterMap_append,V,j]) A2
  have hn:v3 w W1 [fC (w.heap.size+1) (.loop (rec .ready none)),fC w.heap.size (.deferred (some []))]:=by
   refine ⟨fun A hA=>?_,fun A hA b hb=>?_,?_⟩
   ·rcases bE.1 hA with rfl|hA
    ·show W1.heap[w.heap.size+1]? =_
     rw [← X]; have:=World.alloc_heap_new (w.alloc (.deferred (some []))) (.loop (rec .ready none)); rwa [World.size_alloc] at this
    ·simp only [cu] at hA; subst hA
     show W1.heap[w.heap.size]? =_
     rw [← X]; exact (Below.heap_alloc _ _ _ sm).trans (World.alloc_heap_new w _)
   ·rcases bE.1 hA with rfl|hA
    ·have:b=w.heap.size+1:=hb
     omega
    ·simp only [cu] at hA; subst hA
     have:b=w.heap.size:=hb
     omega
   ·refine List.Pairwise.cons (fun B hB b V j=>?_) (List.pairwise_singleton _ _)
    simp only [cu] at hB; subst hB
    have AA:b=w.heap.size+1:=V
    have O:b=w.heap.size:=j
    omega
  have hk:bX no w W1:=by rw [← X]; exact (bX.alloc no w _).trans (bX.alloc no _ _)
  have j:=V.grow hk hn
  refine j.perm ?_
  simp only [List.cons_append,List.nil_append]
  exact List.Perm.cons _ (List.perm_middle.symm)
 have Y:=q.sB
 obtain ⟨H,A4⟩:=List.pairwise_cons.1 Y.sep
 have AC:=Y.holds _ (ez ..)
 let J:Nat→ah→Prop:=fun k A=> ∃ y,inv k y∧A=ei (fC (w.heap.size+1) (.loop (rec .ready none))::Ci k y)
 let Z:ah→Prop:=fun A=> ∃ c z,(c= .ret∨ ∃ id,c= .exit id)∧invx c z∧A=ei (fC (w.heap.size+1) (.loop (rec .done (some c)))::Cx c z)
 refine ⟨w.heap.size+1,[gd w.heap.size],W1,{target:= .fn (.func f) ca.toArray,args:=fi.toArray++ #[.func (.yield (w.heap.size+1)) #[] #[]]},W1,f,
  (fi++Value.func (.yield (w.heap.size+1)) #[] #[]::ca).toArray,W1,p,?_,fun _ _=>trivial,?_,fun h=>by simp at h,?_⟩
 ·simp only [resolve,AQ]
  simp [Deferred.ofValue,Act.eval]
 ·have:fi.toArray++ #[Value.func (.yield (w.heap.size+1)) #[] #[]]++ca.toArray=(fi++Value.func (.yield (w.heap.size+1)) #[] #[]::ca).toArray:=by simp
  simp [invoke,iv hs.go]
 ·refine (iS E.r (hs.run (w.heap.size+1) J Z _ W1 ?_ ⟨y0,h0,U⟩ AC ?_ ?_)).mono ?_
  ·-- a round
   rintro k x A W hx ⟨y,hy,rfl⟩ _ hA
   have hl:W.heap[w.heap.size+1]? =some (.loop (rec .ready none)):=hA.1 _ (ez ..)
   have s:=run_yield (P:=E.P) (args:=x.toArray) hl (by rw [G]; simpa using hps x (aI hx))
   rw [G] at s
   refine ⟨fn,_,assign,body,s,roundIn_of_wpIn trivial ?_⟩
   let A:ah:=ei (fC (w.heap.size+1) (.loop (rec .ready none))::Ci k y)
   have A0:Fr E.n [] (oL ps.toList x L0) {tmps:=(ps.zip x.toArray).foldl (fun tmps (t,a)=>tmps.setIfInBounds t a) a.tmps,defers:=[]}:=by
    have V:=tp ps.toList x L0 a.tmps (fun t ht=>by have:=bY.1 hpn t ht; rwa [Nat.blt_eq] at this) ⟨rfl,hf.size,fun t v hv=>hf.at_ t v (hL t v hv)⟩
    rw [← Array.foldl_toList]
    simpa using V
   have o: ∀ (c:Option Code) (b:Bool),({rec .busy none with state:=if b then .ready else .done,pending:=c}:Loop)=rec (if b then .ready else .done) c:=fun c b=>by rw [G]
   have R: ∀ (c:Option Code) (N:World) (C':List ah) (S:BS),St S W (fC (w.heap.size+1) (.loop (rec .busy none))::C') N→
    ∃ M,(Instr.endRound (w.heap.size+1) c).run E.P N= .ok (.bool c.isNone) M∧St S W (fC (w.heap.size+1) (.loop (rec (if c.isNone then .ready else .done) c))::C') M:=fun c N C' S H=>by
    have AB:N.heap[w.heap.size+1]? =some (.loop (rec .busy none)):=H.holds _ (ez ..)
    refine ⟨_,run_endRound c AB,?_⟩
    have:=H.qm (b:=w.heap.size+1) (A':=fC (w.heap.size+1) (.loop (rec (if c.isNone then .ready else .done) c))) 0 rfl rfl rfl (ek _) (fun _ h=>h) (World.putObj_heap_same (cU AB))
    rw [o]
    exact this
   refine round k x y (w.heap.size+1) (rec .ready none) (rec .busy none) ⟨A.wf,A.cH⟩ W _ (roundPost E.P (w.heap.size+1) (fun e w'=>(e= .returned (.bool true)∧ ∃ B,J (k+1) B∧Mv A B W w')∨(e= .returned (.bool false)∧ ∃ B,Z B∧Mv A B W w'))) hx hy ?_ ?_ ?_ ?_ _ _ A0 (St.rD hA)
   ·intro L' C' hW u N i H
    have AB:N.heap[w.heap.size+1]? =some (.loop (rec .ready none)):=H.holds _ (ez ..)
    refine ⟨_,run_beginRound AB (by rw [G]),hW _ _ i ?_⟩
    have:=H.qm (b:=w.heap.size+1) (A':=fC (w.heap.size+1) (.loop (rec .busy none))) 0 rfl rfl rfl (ek _) (fun _ h=>h) (World.putObj_heap_same (cU AB))
    have e:({rec .ready none with state:= .busy}:Loop)=rec .busy none:=by rw [G]
    rw [e]; exact this
   ·intro y' L' C' hy' hC' u N i H
    obtain ⟨M,AA,O⟩:=R none N _ _ (hC' _ H)
    exact ⟨_,M,AA,.inl ⟨U,_,⟨y',hy',U⟩,Mv.of O⟩⟩
   ·intro id z L' C' hz hC' u N i H
    obtain ⟨M,AA,O⟩:=R (some (.exit id)) N _ _ (hC' _ H)
    exact ⟨_,M,AA,.inr ⟨U,_,⟨_,z,.inr ⟨id,U⟩,hz,U⟩,Mv.of O⟩⟩
   ·intro z L' C' hz hC' u N i H
    obtain ⟨M,AA,O⟩:=R (some .ret) N _ _ (hC' _ H)
    exact ⟨_,M,AA,.inr ⟨U,_,⟨_,z,.inl U,hz,U⟩,Mv.of O⟩⟩
  ·intro A hA
   obtain ⟨B,hB,hc⟩:=hCp A hA
   exact hc.holds _ (Y.holds B (eh _ (eh _ hB)))
  ·intro A hA b hb hb'
   obtain ⟨B,hB,hc⟩:=hCp A hA
   exact ⟨(H B (eh _ hB) b hb (hc.cH b hb')).1,fun h=>h⟩
  ·rintro e w' ⟨v,rfl,hh⟩
   have T:Fr E.n (gd w.heap.size::D) L0 {a with defers:=[gd w.heap.size]++a.defers}:=⟨by simp [hf.defers],hf.size,fun t v hv=>hf.at_ t v (hL t v hv)⟩
   have hleave: ∀ (st:LoopState) (c:Option Code) (C':List ah),st≠ .busy→Mv (ei (fC (w.heap.size+1) (.loop (rec .ready none))::Ci 0 y0)) (ei (fC (w.heap.size+1) (.loop (rec st c))::C')) W1 w'→
    ∃ M,(Instr.endLoop (w.heap.size+1)).run E.P w'= .ok c M∧St E.S E.w0 (fC w.heap.size (.deferred (some []))::(F++C')) M:=fun st c C' A1 m=>by
    have V:=(Y.mv 0 rfl m).l2
    have h1':St E.S E.w0 ((fC (w.heap.size+1) (.loop (rec st c))::C')++(fC w.heap.size (.deferred (some []))::F)) w':=V
    have AB:w'.heap[w.heap.size+1]? =some (.loop (rec st c)):=h1'.holds (fC (w.heap.size+1) (.loop (rec st c))) sm
    refine ⟨_,by have:=run_endLoop (P:=E.P) AB (by rw [G]; exact A1); rw [this,G],?_⟩
    have j:=h1'.qm (b:=w.heap.size+1) (A':=fC (w.heap.size+1) (.loop {rec st c with state:= .exhausted})) 0 rfl rfl rfl (ek _) (fun _ h=>h) (World.putObj_heap_same (cU AB))
    have h3:St E.S E.w0 (C'++(fC w.heap.size (.deferred (some []))::F)) _:=j.take (List.sublist_cons_self _ _)
    rw [G] at h3
    refine h3.perm ?_
    exact (List.perm_append_comm).trans sm
   rcases hh with ⟨B,⟨y,hy,rfl⟩,m⟩|⟨B,⟨c,z,hc,hz,rfl⟩,m⟩
   ·obtain ⟨M,AA,O⟩:=hleave .ready none _ sm m
    exact ⟨none,M,AA,fin w.heap.size y hy _ _ T O⟩
   ·obtain ⟨M,AA,O⟩:=hleave .done (some c) _ sm m
    refine ⟨some c,M,AA,?_⟩
    rcases hc with rfl|⟨id,rfl⟩
    ·exact wpIn_ret (finr w.heap.size z hz _ _ T O)
    ·exact wpIn_exit (finx w.heap.size id z hz _ _ T O)
end
section
open Go.RowKit
theorem rL {E:c_} {c:Code} {Q:bJ} {D:dH} {L:bT} {C:List ah} (hr:E.r=none) (h:WJ E c (Exit.noGoto Q) D L C):WJ E (.scope c) Q D L C:=by
 intro a w hf hs
 obtain ⟨P,r,n,S,A⟩:=E
 subst hr
 exact (wpIn_wide (n:=0)).2 (wp_scope_straight ((wpIn_wide (n:=0)).1 (h a w hf hs)))
theorem rC {E:c_} {l:Nat} {Q:bJ} {D:dH} {L:bT} {C:List ah} (h:KJ E (Q .normal) D L C):WJ E (.label l) Q D L C:=fun a w hf hs=>wpIn_label (h a w hf hs)
theorem dx.eq {P:Program} {f:FuncId} {args:List Value} {Cp:List ah} {u v:Value} (h:dx P f args Cp v) (e:v=u):dx P f args Cp u:=e▸h
/-- a function value that is called: what it hands back -/
def uU (P:Program) (fv:Value) (args:List Value) (Cp:List ah) (v:Value):Prop:=
 ∃ f fi ca,fv= .func (.func f) fi ca∧dx P f (fi.toList++args++ca.toList) Cp v
theorem jY {P:Program} {f:FuncId} {fi ca args:List Value} {Cp:List ah} {v:Value} (h:dx P f (fi++args++ca) Cp v):uU P (.func (.func f) fi.toArray ca.toArray) args Cp v:=⟨f,_,_,rfl,by simpa using h⟩
section
variable {E:c_} {ops:Array Oper} {Q:bJ} {rest:List Oper} {D:List Deferred} {L:List (Nat×Value)} {C:List ah}
variable {dst:Option Tmp} {d:Nat} {ty:TypeId} {ps:String} {af:Array Edge} {g:Option (Nat×Bool)}
theorem jd {fop:Operand} {xs:Array Operand} {ts:Array TypeId} {fv:Value} {vs:List Value} {Cp:List ah} {v:Value} (hg:e6 ops L g=true) (hf:ev L fop=some fv)
 (hx:evs L xs.toList=some vs) (c:uU E.P fv vs Cp v) (hC:eP C Cp):SD E ops ⟨dst,.call {callee:= .value fop,args:=xs,argTypes:=ts},ty,ps,af,g⟩ D L C v:=by
 obtain ⟨f,fi,ca,rfl,h⟩:=c
 exact rJ hg hf hx U h hC
end
theorem St.dup {S:BS} {w0 w:World} {C:List ah} {A:ah} (i:Nat) (h:St S w0 C w) (hC:C[i]? =some A) (hw: ∀ b,¬ A.wf b):St S w0 (A::C) w:=by
 have hm:=aI hC
 refine ⟨h.keeps,fun B hB=>?_,List.Pairwise.cons (fun B hB b ha hb=>⟨hw b,fun E=>?_⟩) h.sep,fun B hB=>?_,fun B hB=>?_⟩
 ·rcases bE.1 hB with rfl|hB
  ·exact h.holds B hm
  ·exact h.holds B hB
 ·obtain ⟨j,hj,rfl⟩:=List.mem_iff_getElem.1 hB
  obtain ⟨hi,rfl⟩:=aJ.1 hC
  rcases Nat.lt_trichotomy i j with D|F|D
  ·exact (da.1 h.sep i j hi hj D b ha hb).2 E
  ·subst F; exact hw b E
  ·exact (da.1 h.sep j i hj hi D b hb ha).1 E
 ·rcases bE.1 hB with rfl|hB
  ·exact h.own B hm
  ·exact h.own B hB
 ·rcases bE.1 hB with rfl|hB
  ·exact h.seen B hm
  ·exact h.seen B hB
theorem l5 {E:c_} {c:Code} {Q:bJ} {D:dH} {L:bT} {C:List ah} {A:ah} (i:Nat) (hC:C[i]? =some A) (hw: ∀ b,¬ A.wf b) (h:WJ E c Q D L (A::C)):WJ E c Q D L C:=fun a w hf hs=>h a w hf (hs.dup i hC hw)
theorem sH {E:c_} {c:Code} {Q:bJ} {D:dH} {L:bT} {C C':List ah} {g e:Nat} {cs:List Value} {sz:Nat} {es:List (List Value)} (i:Nat) (hC:C[i]? =some (cv g e cs)) (h2: ∀ x∈es,x.length=sz) (h3:es.flatten=cs) (hm:es.length≤maxLen)
 (hC':C.set i (own (some ⟨g,0,none⟩) es.length e sz es)=C') (k:WJ E c Q D L C'):WJ E c Q D L C:=fun a w hf hs=>by
 refine k a w hf ?_
 rw [← hC']
 refine hs.qm i hC U U (bX.refl _ _) (fun x hx=>?_) (rN (hs.holds _ (aI hC)) h2 h3 hm)
 obtain ⟨ad,A,h2⟩:=hx
 cases A; exact h2
theorem lX {α:Type} {f:α→List Value} {n:Nat} (h: ∀ a,(f a).length=n) (l:List α): ∀ x∈l.map f,x.length=n:=fun x hx=>by
 obtain ⟨a,_,rfl⟩:=bP.1 hx; exact h a
def AW (E:c_) (c:Code) (Q:bJ) (m:Nat) (D:dH) (L:bT) (C:List ah):Prop:=
 ∀ a w,Fr E.n D L a→St E.S E.w0 C w→Code.roundsIn (Fw E.r) 0 E.P c Q m a w
theorem mA {E:c_} {c:Code} {Q:bJ} {D:dH} {L:bT} {C:List ah} (m:Nat) (h:AW E c Q m D L C):WJ E (.loop c) Q D L C:=fun a w hf hs=>wpIn_loop_rounds m (h a w hf hs)
theorem iA {E:c_} {c:Code} {Q:bJ} {m:Nat} {D:dH} {L:bT} {C:List ah}
 (h: ∀ K:Act→World→Prop,(∀ D L C,AW E c Q m D L C→KJ E K D L C)→WJ E c (Exit.then K Q) D L C):AW E c Q (m+1) D L C:=
 fun a w hf hs=>h (Code.roundsIn (Fw E.r) 0 E.P c Q m) (fun _ _ _ hy a w hf hs=>hy a w hf hs) a w hf hs
theorem w5 {E:c_} {x y:Code} {Q:bJ} {D:dH} {L:bT} {C:List ah} {ι:Type} (L':ι→bT) (C':ι→List ah)
 (hy: ∀ z,WJ E y Q D (L' z) (C' z)) (h: ∀ K:Act→World→Prop,(∀ z,KJ E K D (L' z) (C' z))→WJ E x (Exit.then K Q) D L C):WJ E (.seq x y) Q D L C:=
 ai fun K hK=>h K fun z=>hK _ _ _ (hy z)
theorem j7 {L L':bT} {t:Nat} {b c:Bool} (h1:L.lookup t=some (.bool b)) (h2:c=b) (k:cE L L'):cE L ((t,.bool c)::L'):=cE.cons (h2▸h1) k
theorem aN {L L':bT} {t:Nat} {u v:Value} (h1:L.lookup t=some u) (h2:v=u) (k:cE L L'):cE L ((t,v)::L'):=cE.cons (h2▸h1) k
def m7 (C:List ah):ah where
 cH b:= ∃ A∈C,A.cH b
 wf _:=False
 holds w:= ∀ A∈C,A.holds w
 wr:=false
 fE _ h:=h.elim
 whole h:=by cases h
 lt w h b:=by rintro ⟨A,hA,hb⟩; exact A.lt w (h A hA) b hb
 h_ w w' hk h:=fun A hA=>A.h_ w w' (fun b hb=>hk b ⟨A,hA,hb⟩) (h A hA)
theorem iy {P:Program} {f:FuncId} {args:List Value} {Cp C:List ah} {v:Value} (h:dx P f args Cp v) (hC:eP C Cp):dx P f args [m7 C] v:=⟨h.go,fun w hw=>h.run w (hC w (hw _ (cu.2 rfl)))⟩
theorem jw {C Cp:List ah} (h:eP C Cp):j3 C (m7 Cp).holds:=fun w hw=>h w hw
def tX (P:Program) (t:TypeId):Option (Nat×TypeId):=
 match P.underlying t with
 |some (.array n e)=>some (n,e)
 |_=>none
theorem xy {P:Program} {t n e:Nat} (h:tX P t=some (n,e)):P.underlying t=some (.array n e):=by
 unfold tX at h
 cases hu:P.underlying t with
 |none=>simp [hu] at h
 |some d=>cases d<;>simp [hu] at h<;>(obtain ⟨rfl,rfl⟩:=h; rfl)
section
variable {E:c_} {ops:Array Oper} {Q:bJ} {rest:List Oper} {D:List Deferred} {L:List (Nat×Value)} {C:List ah}
variable {dst:Option Tmp} {d:Nat} {ty:TypeId} {ps:String} {af:Array Edge} {g:Option (Nat×Bool)}
theorem oC {x ix:Operand} {t e len sz:Nat} {cs vs:List Value} {j:Int} (m:Nat) (hg:e6 ops L g=true) (hx:ev L x=some (.agg cs.toArray)) (hi:ev L ix=some (.int .i64 j)) (ht:tX E.P t=some (len,e)) (hk:tK E.P e=some (true,sz)) (hj:j=(m:Int)) (hm:m<len) (hv:(cs.drop (m*sz)).take sz=vs):
 SD E ops ⟨dst,.index t x ix,ty,ps,af,g⟩ D L C (.agg vs.toArray):=
 cn hg sm fun a w A _=>by
  have B:(0:Int)≤(m:Int)∧(m:Int)<(len:Int):=by omega
  subst hj
  simp [execOp,A.ev hx,A.ev hi,Instr.index,asIntOf,run_underlying (xy ht),B,hm,(ig hk w).2,mi hk hv w]
end
end
section
open Go.RowKit
def cr (ops:Array Oper) (is:List Nat):List Oper:=is.filterMap (ops[·]?)
theorem gn {ops:Array Oper}: ∀ {is:List Nat},(∀ i∈is,i<ops.size)→ ∀ p:Nat,(cr ops is)[p]? =(is[p]?).bind (ops[·]?):=by
 intro is
 induction is with
 |nil=>intro _ p; simp [cr]
 |cons i is ih=>
  intro h p
  have hi:=h i sm
  have A:cr ops (i::is)=ops[i]::cr ops is:=by simp [cr,hi]
  rw [A]
  cases p with
  |zero=>simp [hi]
  |succ p=>simpa using ih (fun j hj=>h j (by simp [hj])) p
theorem ib {ops:Array Oper} {is:List Nat} (h: ∀ i∈is,i<ops.size):(cr ops is).length=is.length:=by
 induction is with
 |nil=>rfl
 |cons i is ih=>
  have hi:=h i sm
  have A:cr ops (i::is)=ops[i]::cr ops is:=by simp [cr,hi]
  rw [A]; simp [ih (fun j hj=>h j (by simp [hj]))]
def jy (o:Oper):Bool:=match o.op with | .select .. =>false| .defer _=>false|_=>true
def uQ (m:Array Nat) (ops:Array Oper) (free T:List Nat):Bool:=
 (free.all (Nat.blt · ops.size))&&(T.all (Nat.blt · ops.size))&&((List.range ops.size).all fun i=>free.contains i||T.contains i)&&(T.all fun i=> !free.contains i)&&
 ((List.range ops.size).all fun i=>match ops[i]? with
  |none=>false
  |some o=>jy o&&o.after.toList.all fun e=> !Region.binds .any e||Nat.blt e.on i)&&
 ((List.range free.length).all fun p=>match (free[p]?).bind fun i=>(ops[i]?).map fun o=>(i,o) with
  |none=>false
  |some (i,o)=>o.dst.isSome&&
   ((List.range free.length).all fun q=>q==p||match (free[q]?).bind fun j=>(ops[j]?).map fun o=>(j,o) with
    |none=>false
    |some (j,r)=>match r.dst with
     |none=>false
     |some d=>o.dst != some d&&(!(o.looksAt ops).contains d||(if q<p then dR m j i else dR m i j)))&&
   (T.all fun j=>match ops[j]? with
    |none=>false
    |some r=>r.dst != o.dst&&(match r.dst with |none=>true|some d=> !(o.looksAt ops).contains d||dR m i j)&&(match o.dst with |none=>true|some d=> !(r.looksAt ops).contains d||dR m i j)))&&
 ((List.range T.length).all fun p=>(List.range p).all fun q=>match T[p]?,T[q]? with
  |some i,some j=>i != j&&dR m j i
  |_,_=>false)
def wv (m:Array Nat) (ops:Array Oper) (free T:List Nat) (fe tb:List Bool):Bool:=
 uQ m ops free T&&((List.range T.length).all fun q=>(tb[q]?).getD false||(List.range free.length).all fun p=> !(fe[p]?).getD false||match free[p]?,T[q]? with
  |some i,some j=>dR m i j
  |_,_=>false)
def vg (ops:Array Oper) (free T:List Nat) (fe tb:List Bool):Bool:=wv (jE ops) ops free T fe tb
def xg (ops:Array Oper) (free T:List Nat):Bool:=uQ (jE ops) ops free T
theorem ub {ops:Array Oper} {free T:List Nat} {fe tb:List Bool} (h:vg ops free T fe tb=true):xg ops free T=true∧ ∀ (p q i j:Nat),free[p]? =some i→T[q]? =some j→(fe[p]?).getD false=true→(tb[q]?).getD false=true∨dR (jE ops) i j=true:=by
 simp only [vg,wv,bU] at h
 refine ⟨h.1,fun p q i j hp hq hf=>?_⟩
 have B:=h.2
 rw [bY] at B
 have A:=B q (by simpa using (aJ.1 hq).1)
 rw [Bool.or_eq_true] at A
 rcases A with A|A
 ·exact .inl A
 ·rw [bY] at A
  have C:=A p (by simpa using (aJ.1 hp).1)
  simp only [hp,hq,hf,Bool.not_true,Bool.false_or] at C
  exact .inr C
structure wM (ops:Array Oper) (free T:List Nat):Prop where
 fl: ∀ i∈free,i<ops.size
 tl: ∀ i∈T,i<ops.size
 cover: ∀ i,i<ops.size→i∈free∨i∈T
 tM: ∀ i∈T,i ∉ free
 plain: ∀ (i:Nat) (o:Oper),ops[i]? =some o→(∀ cs b,o.op≠ .select cs b)∧(∀ c,o.op≠ .defer c)
 oz: ∀ (i:Nat) (o:Oper) (e:Edge),ops[i]? =some o→e∈o.after→Region.binds .any e=true→e.on<i
 apart: ∀ (p q i j:Nat) (o r:Oper) (d:Nat),free[p]? =some i→free[q]? =some j→q≠p→ops[i]? =some o→ops[j]? =some r→r.dst=some d→o.dst≠some d∧(d∈o.looksAt ops→(q<p∧dR (jE ops) j i=true)∨(p<q∧dR (jE ops) i j=true))
 ft: ∀ (i j:Nat) (o r:Oper),i∈free→j∈T→ops[i]? =some o→ops[j]? =some r→r.dst≠o.dst∧(∀ d,r.dst=some d→d∈o.looksAt ops→dR (jE ops) i j=true)∧(∀ d,o.dst=some d→d∈r.looksAt ops→dR (jE ops) i j=true)
 chain: ∀ p q i j:Nat,T[p]? =some i→T[q]? =some j→q<p→i≠j∧dR (jE ops) j i=true
theorem wM.of {ops:Array Oper} {free T:List Nat} (h:xg ops free T=true):wM ops free T:=by
 simp only [xg,uQ,bU] at h
 obtain ⟨⟨⟨⟨⟨⟨H,AA⟩,J⟩,K⟩,C⟩,D⟩,L⟩:=h
 rw [bY] at H AA J K C D L
 have E: ∀ i∈free,i<ops.size:=fun i hi=>by have:=H i hi; rwa [Nat.blt_eq] at this
 have G: ∀ i∈T,i<ops.size:=fun i hi=>by have:=AA i hi; rwa [Nat.blt_eq] at this
 refine ⟨E,G,fun i hi=>?_,fun i hi=>?_,fun i o ho=>?_,fun i o e ho he hb=>?_,?_,?_,?_⟩
 ·have:=J i (by simpa using hi)
  simpa using this
 ·have:=K i hi
  simpa using this
 ·have hi:i<ops.size:=(Array.getElem?_eq_some_iff.1 ho).1
  have:=C i (by simpa using hi)
  simp only [ho,bU] at this
  have:=this.1
  refine ⟨fun cs b hh=>?_,fun c hh=>?_⟩<;>simp [jy,hh] at this
 ·have hi:i<ops.size:=(Array.getElem?_eq_some_iff.1 ho).1
  have:=C i (by simpa using hi)
  simp only [ho,bU] at this
  have:=this.2
  rw [bY] at this
  have:=this e (by simpa using he)
  rw [hb] at this
  simpa using this
 ·intro p q i j o r d hp hq F ho hr hd
  have:=D p (by simpa using (aJ.1 hp).1)
  simp only [hp,ho,Option.bind_some,Option.map_some,bU] at this
  have:=this.1.2
  rw [bY] at this
  have:=this q (by simpa using (aJ.1 hq).1)
  simp only [hq,hr,hd,Option.bind_some,Option.map_some,Bool.or_eq_true,bU,beq_iff_eq,bne_iff_ne,ne_eq] at this
  rcases this with h|⟨M,B⟩
  ·exact absurd h F
  ·refine ⟨M,fun hm=>?_⟩
   rcases B with B|B
   ·simp [hm] at B
   ·by_cases A:q<p
    ·rw [if_pos A] at B; exact .inl ⟨A,B⟩
    ·rw [if_neg A] at B; exact .inr ⟨I,B⟩
 ·intro i j o r hi hj ho hr
  obtain ⟨p,hp⟩:=List.mem_iff_getElem?.1 hi
  have:=D p (by simpa using (aJ.1 hp).1)
  simp only [hp,ho,Option.bind_some,Option.map_some,bU] at this
  have:=this.2
  rw [bY] at this
  have:=this j hj
  simp only [hr,bU,bne_iff_ne,ne_eq] at this
  refine ⟨this.1.1,fun d hd hm=>?_,fun d hd hm=>?_⟩
  ·have:=this.1.2
   simp [hd,hm] at this; exact this
  ·have:=this.2
   simp [hd,hm] at this; exact this
 ·intro p q i j hp hq A
  have:=L p (by simpa using (aJ.1 hp).1)
  rw [bY] at this
  have:=this q (by simpa using A)
  simp only [hp,hq,bU,bne_iff_ne,ne_eq] at this
  exact this
def NQ (K:Act→World→Prop):bJ
 | .normal=>K
 |_=>fun _ _=>False
/-- the others, one behind the other; the part C' of the state stands throughout, the part C1 as long as the flags say -/
def TJ (E:c_) (ops:Array Oper) (D:dH) (C' C1:List ah) (F:bT→List ah→Prop):List Bool→List Oper→bT→List ah→Prop
 |_,[],L,C=>F L C
 |bs,o::T,L,C=> ∀ K:Act→World→Prop,(∀ L' C'',(∀ w,St E.S E.w0 C'' w→St E.S E.w0 C' w)→(bs.headD false=true→ ∀ w,St E.S E.w0 C'' w→St E.S E.w0 C1 w)→TJ E ops D C' C1 F bs.tail T L' C''→KJ E K D L' C'')→RJ E ops (NQ K) [o] D L C
/-- the free ones: an early one (its flag) may read C1 -/
def iP (E:c_) (ops:Array Oper) (D:dH) (C' C1:List ah) (F:bT→Prop):List Bool→List Oper→bT→Prop
 |_,[],L=>F L
 |bs,o::rest,L=> ∃ d v,o.dst=some d∧d<E.n∧SD E ops o D L (bif bs.headD false then C1 else C') v∧iP E ops D C' C1 F bs.tail rest ((d,v)::L)
theorem iP.out {E:c_} {ops:Array Oper} {D:dH} {C' C1:List ah} {F:bT→Prop}: ∀ (bs:List Bool) (os:List Oper) (L:bT),iP E ops D C' C1 F bs os L→
 ∃ vs:List Value,vs.length=os.length∧F (oj os vs os.length L)∧ ∀ i o,os[i]? =some o→ ∃ d v,o.dst=some d∧d<E.n∧vs[i]? =some v∧SD E ops o D (oj os vs i L) (bif (bs[i]?).getD false then C1 else C') v:=by
 intro bs os
 induction os generalizing bs with
 |nil=>intro L h; exact ⟨[],rfl,by cases bs<;>exact h,fun i o ho=>by simp at ho⟩
 |cons o os ih=>
  intro L h
  have h': ∃ d v,o.dst=some d∧d<E.n∧SD E ops o D L (bif bs.headD false then C1 else C') v∧iP E ops D C' C1 F bs.tail os ((d,v)::L):=by cases bs<;>exact h
  obtain ⟨d,v,ho,hd,B,hk⟩:=h'
  obtain ⟨vs,hl,hF,A⟩:=ih _ _ hk
  refine ⟨v::vs,by simp [hl],by simpa [oj,ho] using hF,fun i o' ho'=>?_⟩
  cases i with
  |zero=>
   simp at ho'; subst ho'
   refine ⟨d,v,ho,hd,sm,?_⟩
   have e:(bs[0]?).getD false=bs.headD false:=by cases bs<;>rfl
   rw [e]; simpa [oj] using B
  |succ i=>
   obtain ⟨d',v',C,G,H,AA⟩:=A i o' (by simpa using ho')
   refine ⟨d',v',C,G,by simpa using H,?_⟩
   have e:(bs[i+1]?)=bs.tail[i]? :=by cases bs<;>simp
   rw [e]; simpa [oj,ho] using AA
theorem ri {E:c_} {ops:Array Oper} {o:Oper} (hsel: ∀ cs b,o.op≠ .select cs b) (hdef: ∀ c,o.op≠ .defer c) {a a':Act} (hl: ∀ t∈o.looksAt ops,a.tmps[t]? =a'.tmps[t]?) {w:World}
 {K N:Act→World→Prop} {Q:bJ} (h:kK E.r E.P ops (NQ K) [o] a' w) (hK: ∀ b w',K b w'→b.defers=a'.defers) (hn: ∀ u w',K (a'.put o.dst u) w'→N (a.put o.dst u) w'):
 if Region.wanted o (yielded ops a.tmps) then o.wpIn (Fw E.r) 0 E.P a w N Q else (∀ f,o.about E.P w a.eval=some f→(Fw E.r).fn f)∧N (a.put o.dst undef) w:=by
 rw [kD hl]
 unfold kK at h
 by_cases hw:Region.wanted o (yielded ops a'.tmps)=true
 ·rw [if_pos hw] at h ⊢
  refine ⟨fun _ _=>trivial,?_⟩
  have A:=h.2
  rw [Oper.semAt_eq _ _ _ hdef] at A ⊢
  rw [execOp_congr (ρ:=a.eval) (ρ':=a'.eval) o hsel (mX hl)]
  generalize (execOp a'.eval o).run E.P w=res at A
  cases res with
  |halt x w'=>cases x<;>simp [Oper.uponIn,NQ] at A
  |ok x w'=>
   cases x with
   |value u=>exact hn u w' A
   |skip=>exact hn _ w' A
   |defer dd=>
    have B:=hK _ _ A
    have:=congrArg List.length B
    simp [Act.put] at this
    cases ho:o.dst<;>simp [ho] at this
   |enter f args=>
    refine ⟨A.1,A.2.mono fun e w'' he=>?_⟩
    cases e with
    |returned u=>exact hn u w'' he
    |panicked ch=>exact he.elim
    |outgrown=>obtain ⟨_,_,hF⟩:=he; exact hF.elim
   |row x args=>exact ⟨A.1,A.2.mono fun u w'' he=>hn u w'' he⟩
   |round l f tmps asl bd=>
    refine ⟨A.1,A.2.mono fun e w'' he=>?_⟩
    cases e with
    |returned u=>exact hn u w'' he
    |panicked ch=>exact he.elim
    |outgrown=>obtain ⟨_,_,hF⟩:=he; exact hF.elim
   |_=>simp [Oper.uponIn] at A
 ·rw [if_neg hw] at h ⊢
  exact ⟨fun _ _=>trivial,hn _ w h⟩
theorem vU {E:c_} {id:Nat} {ops:Array Oper} {Q:bJ} {D:dH} {L:bT} {C:List ah} (hm:E.P.follows .mixedOrders=true) (free T:List Nat) (fe tb:List Bool) (C' C1:List ah) (hc:vg ops free T fe tb=true)
 (hC: ∀ w,St E.S E.w0 C w→St E.S E.w0 C' w) (hC1: ∀ w,St E.S E.w0 C w→St E.S E.w0 C1 w)
 (h:iP E ops D C' C1 (fun L'=>TJ E ops D C' C1 (fun L C=>KJ E (Q .normal) D L C) tb (cr ops T) L' C) fe (cr ops free) L):WJ E (.region id ops true) Q D L C:=by
 obtain ⟨hc,By⟩:=ub hc
 have hc:=wM.of hc
 intro a0 w0 y B3
 refine wpIn_region_any hm ?_
 have B4:St E.S E.w0 C ({w0 with drawn:=w0.drawn+1}:World):=B3.same (bX.drew no w0)
 obtain ⟨vs,B8,hF,g⟩:=iP.out _ _ _ h
 have BH:=ib hc.fl
 have A4: ∀ (p i:Nat) (o:Oper),free[p]? =some i→ops[i]? =some o→(cr ops free)[p]? =some o:=fun p i o hp ho=>by rw [gn hc.fl,hp]; exact ho
 have A3: ∀ (p:Nat) (o:Oper),(cr ops free)[p]? =some o→ ∃ i,free[p]? =some i∧ops[i]? =some o:=fun p o h=>by
  rw [gn hc.fl] at h
  cases hp:free[p]? with
  |none=>simp [hp] at h
  |some i=>exact ⟨i,rfl,by simpa [hp] using h⟩
 have BE: ∀ (j:Nat) (o:Oper) (d:Nat),(cr ops free)[j]? =some o→o.dst=some d→d<E.n:=fun j o d ho hd=>by
  obtain ⟨d',v,h1,h2,_⟩:=g j o ho
  rw [h1] at hd; cases hd; exact h2
 -- all is listed
 have done: ∀ (listed:Array Bool) (a:Act) (w:World) (k:Nat) (Lk:bT) (Ck:List ah) (af:Act),(∀ i,i<ops.size→listed.getD i false=true)→
  (∀ m i,T[m]? =some i→(listed.getD i false=true↔m<k))→a.defers=D→a.tmps.size=E.n→
  TJ E ops D C' C1 (fun L C=>KJ E (Q .normal) D L C) (tb.drop k) (cr ops (T.drop k)) Lk Ck→Fr E.n D Lk af→St E.S E.w0 Ck w→
  (∀ t,(∀ (p i:Nat) (o:Oper),free[p]? =some i→ops[i]? =some o→o.dst≠some t)→af.tmps[t]? =a.tmps[t]?)→
  (∀ (p i:Nat) (o:Oper) (d:Nat),free[p]? =some i→ops[i]? =some o→o.dst=some d→af.tmps[d]? =vs[p]? ∧(listed.getD i false=true→a.tmps[d]? =vs[p]?))→Q .normal a w:=by
  intro listed a w k Lk Ck af BP O hd hz hT N R G B
  have hk:T.drop k=[]:=by
   rw [List.drop_eq_nil_iff]
   rcases Nat.lt_or_ge k T.length with J|B0
   ·have hi:=(O k _ (dr J)).1 (BP _ (hc.tl _ (List.getElem_mem J)))
    omega
   ·exact B0
  rw [hk] at hT
  have hT:KJ E (Q .normal) D Lk Ck:=by cases hb:tb.drop k<;>(rw [hb] at hT; exact hT)
  refine hT a w ⟨hd,hz,fun t v hv=>?_⟩ R
  rw [← N.at_ t v hv]
  by_cases hw: ∃ (p i:Nat) (o:Oper),free[p]? =some i∧ops[i]? =some o∧o.dst=some t
  ·obtain ⟨p,i,o,hp,ho,A2⟩:=hw
   obtain ⟨e1,s⟩:=B p i o t hp ho A2
   rw [e1,s (BP i (hc.fl i (aI hp)))]
  ·exact (G t (fun p i o hp ho A2=>hw ⟨p,i,o,hp,ho,A2⟩)).symm
 have key: ∀ (fuel:Nat) (listed:Array Bool) (a:Act) (w:World) (k:Nat) (Lk:bT) (Ck:List ah) (af:Act),listed.size=ops.size→(pH ops.size listed).length≤fuel→(∀ j,listed.getD j false=true→kT ops (fun k=>listed.getD k false=true) j)→
  (∀ m i,T[m]? =some i→(listed.getD i false=true↔m<k))→a.defers=D→a.tmps.size=E.n→
  TJ E ops D C' C1 (fun L C=>KJ E (Q .normal) D L C) (tb.drop k) (cr ops (T.drop k)) Lk Ck→Fr E.n D Lk af→St E.S E.w0 Ck w→(∀ w,St E.S E.w0 Ck w→St E.S E.w0 C' w)→(∀ (p i:Nat),free[p]? =some i→(fe[p]?).getD false=true→listed.getD i false=false→ ∀ w,St E.S E.w0 Ck w→St E.S E.w0 C1 w)→
  (∀ t,(∀ (p i:Nat) (o:Oper),free[p]? =some i→ops[i]? =some o→o.dst≠some t)→af.tmps[t]? =a.tmps[t]?)→
  (∀ t,(∀ (i:Nat) (o:Oper),listed.getD i false=true→ops[i]? =some o→o.dst≠some t)→a.tmps[t]? =a0.tmps[t]?)→
  (∀ (p i:Nat) (o:Oper) (d:Nat),free[p]? =some i→ops[i]? =some o→o.dst=some d→af.tmps[d]? =vs[p]? ∧(listed.getD i false=true→a.tmps[d]? =vs[p]?))→
  wpAnyIn (Fw E.r) 0 E.P .any ops Q fuel listed a w:=by
  intro fuel
  induction fuel with
  |zero=>
   intro listed a w k Lk Ck af z hu A1 O hd hz hT N R A6 f G Y B
   have hall': ∀ i,i<ops.size→listed.getD i false=true:=fun i hi=>by
    cases hg:listed.getD i false with
    |true=>rfl
    |false=>
     have:=List.length_pos_of_mem (gJ.2 ⟨hi,hg⟩)
     omega
   refine ⟨?_,done listed a w k Lk Ck af hall' O hd hz hT N R G B⟩
   rw [List.eq_nil_iff_forall_not_mem]
   intro i hi
   obtain ⟨h1,h2,_⟩:=fT z hi
   rw [hall' i h1] at h2; cases h2
  |succ fuel ih=>
   intro listed a w k Lk Ck af z hu A1 O hd hz hT N R A6 f G Y B
   refine ⟨fun BX=>?_,fun i hi=>?_⟩
   ·refine done listed a w k Lk Ck af (fun i hi=>?_) O hd hz hT N R G B
    cases hg:listed.getD i false with
    |true=>rfl
    |false=>
     exfalso
     have Bz: ∃ i,i<ops.size∧listed.getD i false=false:=⟨i,hi,hg⟩
     obtain ⟨j,hj,BV⟩:=exists_least Bz
     have hr:j∈Region.ready .any ops listed:=kd z hj.1 hj.2 (fun o e ho he hb=>by
      have h1:=hc.oz j o e ho he hb
      cases hg:listed.getD e.on false with
      |true=>exact hg
      |false=>exact absurd (BV e.on ⟨I,hg⟩) I)
     rw [BX] at hr; cases hr
   ·obtain ⟨BJ,W,BT⟩:=fT z hi
    obtain ⟨o,ho⟩: ∃ o,ops[i]? =some o:=⟨ops[i],Array.getElem?_eq_getElem BJ⟩
    obtain ⟨BF,BD⟩:=hc.plain i o ho
    have F: ∀ j,(listed.setIfInBounds i true).getD j false=if j=i then true else listed.getD j false:=fun j=>iZ I false
    have B7:=od (n:=ops.size) (i:=i) (listed:=listed) I (gJ.2 ⟨BJ,W⟩)
    have hcl': ∀ j,(listed.setIfInBounds i true).getD j false=true→kT ops (fun k=>(listed.setIfInBounds i true).getD k false=true) j:=by
     intro j hj o' e ho' he hb
     show (listed.setIfInBounds i true).getD e.on false=true
     rw [F] at hj ⊢
     by_cases e1:e.on=i
     ·simp [e1]
     ·simp only [e1,if_false]
      by_cases s:j=i
      ·subst s; exact BT o' e ho' he hb
      ·simp only [s,if_false] at hj; exact A1 j hj o' e ho' he hb
    have l: ∀ j,dR (jE ops) j i=true→listed.getD j false=true:=fun j hj=>ee (S:=fun k=>listed.getD k false=true) A1 hj BT
    have A5: ∀ j,dR (jE ops) i j=true→listed.getD j false=false:=fun j hj=>by
     cases hg:listed.getD j false with
     |false=>rfl
     |true=>
      have:=ee (S:=fun k=>listed.getD k false=true) A1 hj (A1 j hg)
      rw [this] at W; cases W
    unfold wpOpIn
    simp only [ho]
    rcases hc.cover i BJ with X|X
    ·-- a free one
     obtain ⟨p,hp⟩:=List.mem_iff_getElem?.1 X
     obtain ⟨d,v,H,BQ,B6,B5⟩:=g p o (A4 p i o hp ho)
     have BR:=fA (cr ops free) vs p L a0 BE y
     have c: ∀ t∈o.looksAt ops,a.tmps[t]? =(fD (cr ops free) vs p a0).tmps[t]? :=by
      intro t BB
      by_cases hw: ∃ (q j:Nat) (r:Oper),free[q]? =some j∧q≠p∧ops[j]? =some r∧r.dst=some t
      ·obtain ⟨q,j,r,hq,AB,hr,A⟩:=hw
       obtain ⟨d',v',e1,s,e3,_⟩:=g q r (A4 q j r hq hr)
       rw [A] at e1; cases e1
       have Bv:=hc.apart p q i j o r t hp hq AB ho hr A
       rcases Bv.2 BB with ⟨J,ha⟩|⟨J,ha⟩
       ·rw [(B q j r t hq hr A).2 (l j ha),e3]
        refine (fy (cr ops free) vs p a0 q r t v' J (A4 q j r hq hr) A (by rw [y.size]; exact s) e3 (fun m u hm hne' hu=>?_)).symm
        obtain ⟨x,AA,V⟩:=A3 m u hu
        exact (hc.apart m q x j u r t AA hq (Ne.symm hne') V hr A).1
       ·have BW:=A5 j ha
        refine (Y t (fun m u hm hu M=>?_)).trans (cN (cr ops free) vs p a0 t (fun m u hm hu M=>?_)).symm
        ·rcases hc.cover m (Array.getElem?_eq_some_iff.1 hu).1 with BL|BK
         ·obtain ⟨x,hx⟩:=List.mem_iff_getElem?.1 BL
          by_cases e:x=q
          ·subst e; rw [hq] at hx; cases hx; rw [hm] at BW; cases BW
          ·exact (hc.apart x q m j u r t hx hq (Ne.symm e) hu hr A).1 M
         ·exact (hc.ft j m r u (aI hq) BK hr hu).1 (by rw [M,A])
        ·obtain ⟨x,AA,V⟩:=A3 m u hu
         exact (hc.apart m q x j u r t AA hq I V hr A).1 M
      ·refine (Y t (fun m u hm hu M=>?_)).trans (cN (cr ops free) vs p a0 t (fun m u hm hu M=>?_)).symm
       ·rcases hc.cover m (Array.getElem?_eq_some_iff.1 hu).1 with BL|BK
        ·obtain ⟨x,hx⟩:=List.mem_iff_getElem?.1 BL
         by_cases e:x=p
         ·subst e; rw [hp] at hx; cases hx; rw [hm] at W; cases W
         ·exact hw ⟨x,m,u,hx,e,hu,M⟩
        ·have:=A5 m ((hc.ft i m o u X BK ho hu).2.1 t M BB)
         rw [hm] at this; cases this
       ·obtain ⟨x,AA,V⟩:=A3 m u hu
        exact hw ⟨m,x,u,AA,I,V,M⟩
     have Bu: ∀ m j,T[m]? =some j→j≠i:=fun m j A8 e=>hc.tM j (aI A8) (e▸X)
     have B1: ∀ w',bX no w w'→wpAnyIn (Fw E.r) 0 E.P .any ops Q fuel (listed.setIfInBounds i true) (a.put (some d) v) w':=by
      intro w' hk
      refine ih _ _ w' k Lk Ck af (by simpa using z) I hcl' (fun m j A8=>?_) hd (by simp [Act.put,hz]) hT N (R.same hk) A6 (fun p' i' hp' hf' hl'=>f p' i' hp' hf' (by rw [F] at hl'; by_cases e:i'=i; (rw [if_pos e] at hl'; cases hl'); (rwa [if_neg e] at hl'))) (fun t ht=>?_) (fun t ht=>?_) (fun q j r d' hq hr A=>?_)
      ·rw [F,if_neg (Bu m j A8)]; exact O m j A8
      ·have AB:d≠t:=fun e=>ht p i o hp ho (by rw [H,e])
       simp only [Act.put]
       rw [Array.getElem?_setIfInBounds_ne AB]
       exact G t ht
      ·have AB:d≠t:=fun e=>ht i o (by rw [F]; simp) ho (by rw [H,e])
       simp only [Act.put]
       rw [Array.getElem?_setIfInBounds_ne AB]
       exact Y t (fun m u hm hu=>ht m u (by rw [F]; split<;>simp [hm]) hu)
      ·refine ⟨(B q j r d' hq hr A).1,fun hl=>?_⟩
       by_cases e:q=p
       ·subst e
        rw [hp] at hq; cases hq
        rw [ho] at hr; cases hr
        rw [H] at A; cases A
        simp only [Act.put]
        rw [Array.getElem?_setIfInBounds_self_of_lt (by rw [hz]; exact BQ),B6]
       ·have AB:=(hc.apart p q i j o r d' hp hq e ho hr A).1
        simp only [Act.put]
        rw [Array.getElem?_setIfInBounds_ne (fun h=>AB (by rw [H,h]))]
        refine (B q j r d' hq hr A).2 ?_
        rw [F] at hl
        by_cases s:j=i
        ·subst s
         exact absurd (by rw [ho] at hr; cases hr; rw [H] at A ⊢; exact A) AB
        ·simpa [s] using hl
     refine km B5 H BQ BF BD BR c ?_ B1
     cases BH:(fe[p]?).getD false with
     |true=>exact f p i hp BH W w R
     |false=>exact A6 w R
    ·-- one of the others
     obtain ⟨m,hm'⟩:=List.mem_iff_getElem?.1 X
     have B2:m=k:=by
      have h1: ¬ m<k:=fun h=>by have:=(O m i hm').2 h; rw [this] at W; cases W
      rcases Nat.lt_or_ge k m with h2|h2
      ·have BU:k<T.length:=by have:=(aJ.1 hm').1; omega
       have:=l _ (hc.chain m k i _ hm' (dr BU) h2).2
       have:=(O k _ (dr BU)).1 this
       omega
      ·omega
     subst B2
     have BG:cr ops (T.drop m)=o::cr ops (T.drop (m+1)):=by
      have J:=(aJ.1 hm').1
      have hx:T[m]=i:=(aJ.1 hm').2
      rw [List.drop_eq_getElem_cons J,hx]
      simp [cr,ho]
     rw [BG] at hT
     have Bw:(tb.drop m).headD false=(tb[m]?).getD false:=by rw [List.headD_eq_head?_getD,List.head?_drop]
     have Bx:(tb.drop m).tail=tb.drop (m+1):=by simp
     have hT: ∀ K:Act→World→Prop,(∀ L' C'',(∀ w,St E.S E.w0 C'' w→St E.S E.w0 C' w)→((tb.drop m).headD false=true→ ∀ w,St E.S E.w0 C'' w→St E.S E.w0 C1 w)→TJ E ops D C' C1 (fun L C=>KJ E (Q .normal) D L C) (tb.drop m).tail (cr ops (T.drop (m+1))) L' C''→KJ E K D L' C'')→RJ E ops (NQ K) [o] D Lk Ck:=by
      cases hb:tb.drop m<;>(rw [hb] at hT; exact hT)
     rw [Bw,Bx] at hT
     have c: ∀ t∈o.looksAt ops,a.tmps[t]? =af.tmps[t]? :=by
      intro t BB
      by_cases hw: ∃ (q j:Nat) (r:Oper),free[q]? =some j∧ops[j]? =some r∧r.dst=some t
      ·obtain ⟨q,j,r,hq,hr,A⟩:=hw
       have ha:=(hc.ft j i r o (aI hq) X hr ho).2.2 t A BB
       obtain ⟨e1,s⟩:=B q j r t hq hr A
       rw [e1,s (l j ha)]
      ·exact (G t (fun q j r hq hr A=>hw ⟨q,j,r,hq,hr,A⟩)).symm
     refine ri BF BD c (hT (fun af' w'=>af'.defers=D∧ ∃ L' C'',(∀ w,St E.S E.w0 C'' w→St E.S E.w0 C' w)∧((tb[m]?).getD false=true→ ∀ w,St E.S E.w0 C'' w→St E.S E.w0 C1 w)∧TJ E ops D C' C1 (fun L C=>KJ E (Q .normal) D L C) (tb.drop (m+1)) (cr ops (T.drop (m+1))) L' C''∧Fr E.n D L' af'∧St E.S E.w0 C'' w')
      (fun L' C'' h1 h1' h2 af' w' h3 h4=>⟨h3.defers,L',C'',h1,h1',h2,h3,h4⟩) af w N R) (fun b w' hb=>hb.1.trans N.defers.symm) ?_
     rintro u w' ⟨_,L',C'',h1,h1',h2,h3,h4⟩
     have Z: ∀ (b:Act) (t:Nat),o.dst≠some t→(b.put o.dst u).tmps[t]? =b.tmps[t]? :=fun b t AB=>by
      cases H:o.dst with
      |none=>rfl
      |some d=>simp only [Act.put]; rw [Array.getElem?_setIfInBounds_ne (fun e=>AB (by rw [H,e]))]
     have BN: ∀ (b:Act),(b.put o.dst u).tmps.size=b.tmps.size:=fun b=>by cases o.dst<;>simp [Act.put]
     refine ih _ _ w' (m+1) L' C'' (af.put o.dst u) (by simpa using z) I hcl' (fun q j hq=>?_) (by cases o.dst<;>exact hd) (by rw [BN]; exact hz) h2 h3 h4 h1 (fun p' i' hp' hf' hl'=>by
      rcases By p' m i' i hp' hm' hf' with h5|h5
      ·exact h1' h5
      ·have h6:=l i' h5
       rw [F] at hl'
       by_cases e:i'=i
       ·rw [if_pos e] at hl'; cases hl'
       ·rw [if_neg e,h6] at hl'; cases hl') (fun t ht=>?_) (fun t ht=>?_) (fun q j r d' hq hr A=>?_)
     ·rw [F]
      by_cases e:j=i
      ·subst e
       simp only [if_true,true_iff]
       rcases Nat.lt_trichotomy q m with h5|h5|h5
       ·omega
       ·omega
       ·exact absurd U (hc.chain q m j j hq hm' h5).1
      ·simp only [e,if_false]
       rw [O q j hq]
       constructor
       ·omega
       ·intro h5
        rcases Nat.lt_or_ge q m with h6|h6
        ·exact h6
        ·have:q=m:=by omega
         subst this; rw [hm'] at hq; cases hq; exact absurd rfl e
     ·by_cases H:o.dst=some t
      ·rw [H]
       simp only [Act.put]
       by_cases J:t<E.n
       ·rw [Array.getElem?_setIfInBounds_self_of_lt (by rw [N.size]; exact J),Array.getElem?_setIfInBounds_self_of_lt (by rw [hz]; exact J)]
       ·rw [Array.getElem?_eq_none (by rw [Array.size_setIfInBounds,N.size]; exact Nat.le_of_not_lt J),Array.getElem?_eq_none (by rw [Array.size_setIfInBounds,hz]; exact Nat.le_of_not_lt J)]
      ·rw [Z a t H,Z af t H]; exact G t ht
     ·rw [Z a t (ht i o (by rw [F]; simp) ho)]
      exact Y t (fun m' u' hm'' hu'=>ht m' u' (by rw [F]; split<;>simp [hm'']) hu')
     ·have AB:o.dst≠some d':=fun e=>(hc.ft j i r o (aI hq) X hr ho).1 (by rw [e,A])
      rw [Z a d' AB,Z af d' AB]
      refine ⟨(B q j r d' hq hr A).1,fun hl=>(B q j r d' hq hr A).2 ?_⟩
      rw [F] at hl
      have:j≠i:=fun e=>hc.tM i X (e▸aI hq)
      simpa [this] using hl
 refine key ops.size (Array.replicate ops.size false) a0 _ 0 _ C (fD (cr ops free) vs (cr ops free).length a0) sm ?_ ?_ ?_ y.defers y.size (by simpa using hF) (fA _ vs _ L a0 BE y) B4 hC (fun _ _ _ _ _=>hC1) ?_ (fun _ _=>rfl) ?_
 ·unfold pH; exact Nat.le_trans (List.length_filter_le _ _) sm
 ·intro j hj
  simp only [Array.getD_eq_getD_getElem?,Array.getElem?_replicate] at hj
  split at hj<;>simp at hj
 ·intro m i _
  simp only [Array.getD_eq_getD_getElem?,Array.getElem?_replicate]
  split<;>simp
 ·intro t ht
  refine cN _ vs _ a0 t (fun m u _ hu M=>?_)
  obtain ⟨x,AA,V⟩:=A3 m u hu
  exact ht m x u AA V M
 ·intro p i o d hp ho H
  obtain ⟨d',v',e1,s,e3,_⟩:=g p o (A4 p i o hp ho)
  rw [H] at e1; cases e1
  refine ⟨?_,fun hl=>?_⟩
  ·rw [e3]
   refine fy _ vs _ a0 p o d v' (by rw [BH]; exact (aJ.1 hp).1) (A4 p i o hp ho) H (by rw [y.size]; exact s) e3 (fun m u hm AB hu=>?_)
   obtain ⟨x,AA,V⟩:=A3 m u hu
   exact (hc.apart m p x i u o d AA hp (Ne.symm AB) V ho H).1
  ·simp only [Array.getD_eq_getD_getElem?,Array.getElem?_replicate] at hl
   split at hl<;>simp at hl
theorem fx {E:c_} {ops:Array Oper} {D:dH} {C' C1:List ah} {F:bT→Prop} {bs:List Bool} {l:List Oper} {L:bT} (hl:l=[]) (h:F L):iP E ops D C' C1 F bs l L:=by subst hl; cases bs<;>exact h
theorem zh {E:c_} {ops:Array Oper} {D:dH} {C' C1:List ah} {F:bT→Prop} {bs:List Bool} {o:Oper} {l rest:List Oper} {L:bT} {v:Value} {d:Nat} (h:SD E ops o D L C' v) (hl:l=o::rest) (ho:o.dst=some d) (hd:Nat.blt d E.n=true) (k:iP E ops D C' C1 F bs rest ((d,v)::L)):
 iP E ops D C' C1 F (false::bs) l L:=by subst hl; exact ⟨d,v,ho,by rw [← Nat.blt_eq]; exact hd,h,k⟩
theorem yh {E:c_} {ops:Array Oper} {D:dH} {C' C1:List ah} {F:bT→Prop} {bs:List Bool} {o:Oper} {l rest:List Oper} {L:bT} {v:Value} {d:Nat} (h:SD E ops o D L C1 v) (hl:l=o::rest) (ho:o.dst=some d) (hd:Nat.blt d E.n=true) (k:iP E ops D C' C1 F bs rest ((d,v)::L)):
 iP E ops D C' C1 F (true::bs) l L:=by subst hl; exact ⟨d,v,ho,by rw [← Nat.blt_eq]; exact hd,h,k⟩
theorem fR {E:c_} {ops:Array Oper} {D:dH} {C' C1:List ah} {F:bT→List ah→Prop} {bs:List Bool} {l:List Oper} {L:bT} {C:List ah} (hl:l=[]) (h:F L C):TJ E ops D C' C1 F bs l L C:=by subst hl; cases bs<;>exact h
theorem bN {E:c_} {ops:Array Oper} {D:dH} {C' C1:List ah} {F:bT→List ah→Prop} {bs:List Bool} {l T:List Oper} {o:Oper} {L:bT} {C:List ah} (hl:l=o::T)
 (h: ∀ K:Act→World→Prop,(∀ L' C'',(∀ w,St E.S E.w0 C'' w→St E.S E.w0 C' w)→TJ E ops D C' C1 F bs T L' C''→KJ E K D L' C'')→RJ E ops (NQ K) [o] D L C):TJ E ops D C' C1 F (false::bs) l L C:=by
 subst hl; exact fun K hK=>h K fun L' C'' A B=>hK L' C'' A (fun h=>by cases h) B
theorem TJ.sub {E:c_} {ops:Array Oper} {Q:bJ} {D:dH} {C' C1 C:List ah}: ∀ {bs:List Bool} {T:List Oper} {L L':bT},cE L L'→TJ E ops D C' C1 (fun L C=>KJ E (Q .normal) D L C) bs T L' C→TJ E ops D C' C1 (fun L C=>KJ E (Q .normal) D L C) bs T L C:=by
 intro bs T
 cases T with
 |nil=>intro L L' hs h; cases bs<;>exact lu hs (fun _ h=>h) h
 |cons o T=>intro L L' hs h; cases bs<;>exact fun K hK=>wz hs (fun _ h=>h) (h K hK)
theorem iP.mono {E:c_} {ops:Array Oper} {D:dH} {C' C1:List ah} {F:bT→Prop} (hF: ∀ L L',cE L L'→F L'→F L): ∀ {bs:List Bool} {os:List Oper} {L L':bT},cE L L'→iP E ops D C' C1 F bs os L'→iP E ops D C' C1 F bs os L:=by
 intro bs os
 induction os generalizing bs with
 |nil=>intro L L' hs h; cases bs<;>exact hF _ _ hs h
 |cons o os ih=>
  intro L L' hs h
  have h': ∃ d v,o.dst=some d∧d<E.n∧SD E ops o D L' (bif bs.headD false then C1 else C') v∧iP E ops D C' C1 F bs.tail os ((d,v)::L'):=by cases bs<;>exact h
  obtain ⟨d,v,ho,hd,A,hk⟩:=h'
  have B: ∃ d v,o.dst=some d∧d<E.n∧SD E ops o D L (bif bs.headD false then C1 else C') v∧iP E ops D C' C1 F bs.tail os ((d,v)::L):=⟨d,v,ho,hd,A.sub hs,ih (hs.head d v) hk⟩
  cases bs<;>exact B
theorem vx {E:c_} {ops:Array Oper} {Q:bJ} {D:dH} {C' C1 C:List ah} {bs ts:List Bool} {T os:List Oper} {L:bT} {t:Nat} {b:Bool} (h:L.lookup t=some (.bool b))
 (h1:b=true→iP E ops D C' C1 (fun L'=>TJ E ops D C' C1 (fun L C=>KJ E (Q .normal) D L C) ts T L' C) bs os ((t,.bool true)::L)) (h2:b=false→iP E ops D C' C1 (fun L'=>TJ E ops D C' C1 (fun L C=>KJ E (Q .normal) D L C) ts T L' C) bs os ((t,.bool false)::L)):
 iP E ops D C' C1 (fun L'=>TJ E ops D C' C1 (fun L C=>KJ E (Q .normal) D L C) ts T L' C) bs os L:=by
 have A: ∀ v:Bool,b=v→cE L ((t,.bool v)::L):=fun v hv=>cE.cons (hv▸h) (fun _ _ h=>h)
 cases b
 ·exact iP.mono (fun _ _=>TJ.sub) (A _ U) (h2 U)
 ·exact iP.mono (fun _ _=>TJ.sub) (A _ U) (h1 U)
end
section
open Go.ChangeShapes Go.WideShapes Go.ChangeAt Go.RowKit
/-- whatever reads at a type has these cells, and this is so of memory -/
def m3 (P:Program) (t:TypeId) (α:Type) (cells:α→List Value) (R:World→α→Prop):Prop:=
 ∀ {H:Type} (enc:TypeId×Value→H) (w:World) (base:Nat) (sp:Nat→Bool) (held:Bool) (fuel:Nat) (cs:List Value) (x:DataW H×List MemPlace),
  DataW.trod enc P w base sp held fuel t cs=some x→ ∃ s:α,cs=cells s∧R w s
theorem tv {P:Program} {t:TypeId} {k:IntKind} (ht:P.underlying t=some (.int k)):m3 P t Int (fun n=>[.int k n]) (fun _ n=>k.min≤n∧n≤k.max):=fun {H} enc w base sp A fuel cs x h=>by
 obtain ⟨n,rfl,_,hw⟩:=DataW.trod_int ht h
 refine ⟨n,U,?_⟩
 simpa [Lit.wf] using hw
theorem wS {P:Program} {t:TypeId} (ht:P.underlying t=some (.int .i64)):m3 P t Int iC (fun _ n=>n8 n):=tv ht
theorem yz {P:Program} {t:TypeId} (ht:P.underlying t=some (.int .u8)):m3 P t Int tS (fun _ n=>0≤n∧n≤255):=tv ht
theorem fU {H:Type} {enc:TypeId×Value→H} {P:Program} {w:World} {base:Nat} {sp:Nat→Bool} {held:Bool} {fuel t:Nat} {cs:List Value} {x:DataW H×List MemPlace} {l:List (Nat×Nat)} (hl:fL P t=some l)
 (h:DataW.trod enc P w base sp held fuel t cs=some x):cs.length=P.cellsOf t∧ ∀ (i ft off:Nat),l[i]? =some (ft,off)→ ∃ n y,DataW.trod enc P w base sp held n ft ((cs.drop off).take (P.cellsOf ft))=some y:=by
 unfold fL at hl
 cases hu:P.underlying t with
 |none=>simp [hu] at hl
 |some d=>
  cases d<;>simp [hu] at hl
  rename_i fs
  obtain ⟨xs,n,_,_,B,F,hf⟩:=DataW.trod_struct hu h
  refine ⟨B,fun i ft off hi=>?_⟩
  have E:=hl.2
  subst E
  simp only [eT,Option.map_eq_some_iff] at hi
  obtain ⟨f,C,A⟩:=hi
  simp only [Prod.mk.injEq] at A
  obtain ⟨rfl,rfl⟩:=A
  have hfi':fs[i]? =some f:=by simpa using C
  have D:i<xs.length:=by rw [F]; exact (Array.getElem?_eq_some_iff.1 hfi').1
  exact ⟨n,xs[i],by rw [hf i f hfi',dr D]⟩
theorem eC {cs a:List Value} {o n m:Nat} (hl:cs.length=m) (hm:o+n=m) (h:(cs.drop o).take n=a):cs.drop o=a:=by
 rwa [List.take_of_length_le (by rw [List.length_drop]; omega)] at h
theorem ck {cs a b:List Value} {o n m:Nat} (h:(cs.drop o).take n=a) (hm:o+n=m) (hb:cs.drop m=b):cs.drop o=a++b:=by
 rw [← h,← hb,← hm,← List.drop_drop,List.take_append_drop]
theorem ke {P:Program} {t e sz:Nat} {α:Type} {cells:α→List Value} {R:World→α→Prop} (ht:P.underlying t=some (.slice e)) (hc:P.cellsOf e=sz) (he:m3 P e α cells R):
 m3 P t bB (fun s=>[.slice s.a s.n s.c]) (fun w s=> ∃ l:List α,s.n=l.length∧(rd s.a l.length sz (l.map cells)).holds w∧(∀ x∈l,R w x)∧l.length≤maxLen∧s.n≤s.c):=fun {H} enc w base sp B fuel cs x h=>by
 rcases Go.Deep.open_slice ht h with ⟨rfl,_⟩|⟨a,len,cap,m,n,D,Pl,rfl,hb,hl,hm,N,hx,hi⟩
 ·exact ⟨⟨none,0,0⟩,U,[],U,⟨U,sm,fun h=>by simp at h⟩,sm,Nat.zero_le _,Nat.le_refl _⟩
 ·rw [hc] at hi
  have Q:len≤m:=by rw [N]; split<;>omega
  have J: ∀ k:Nat,k≤len→ ∃ l:List α,l.length=k∧(∀ x∈l,R w x)∧ ∀ (i:Nat) (x:α),l[i]? =some x→(cells x).length=sz∧ ∀ (j:Nat) v,(cells x)[j]? =some v→w.cell? (a.add (i*sz+j))=some v:=by
   intro k
   induction k with
   |zero=>exact fun _=>⟨[],rfl,sm,sm⟩
   |succ k ih=>
    intro hk
    obtain ⟨l,C,F,E⟩:=ih I
    obtain ⟨cs',AA,O⟩:=hi k I
    obtain ⟨_,A,G⟩:=World.cells?_some AA
    obtain ⟨s,rfl,hR⟩:=he enc w base sp B n cs' _ O
    refine ⟨l++[s],by simp [C],fun x hx=>?_,fun i x hx=>?_⟩
    ·rcases dV.1 hx with hx|hx
     ·exact F x hx
     ·simp at hx; subst hx; exact hR
    ·by_cases L:i<l.length
     ·rw [List.getElem?_append_left L] at hx; exact E i x hx
     ·have K:i=k:=by
       have:=(aJ.1 hx).1
       simp at this; omega
      subst K
      rw [List.getElem?_append_right I,C] at hx
      simp at hx; subst hx
      refine ⟨A,fun j v hj=>?_⟩
      have M:j<sz:=by rw [← A]; exact (aJ.1 hj).1
      rw [← iJ,G j M,hj]
  obtain ⟨l,C,F,E⟩:=J len (Nat.le_refl _)
  refine ⟨⟨some a,len,cap⟩,U,l,C.symm,⟨sm,fun e he'=>?_,fun _=>⟨a,U,fun i e' j v hi' hj=>?_⟩⟩,F,I,hl⟩
  ·obtain ⟨x,hx,rfl⟩:=bP.1 he'
   obtain ⟨i,hi'⟩:=List.getElem?_of_mem hx
   exact (E i x hi').1
  ·rw [eT] at hi'
   obtain ⟨x,hx,rfl⟩:=Option.map_eq_some_iff.1 hi'
   exact (E i x hx).2 j v hj
theorem qi {H:Type} {enc:TypeId×Value→H} {P:Program} {w:World} {base:Nat} {sp:Nat→Bool} {held:Bool} {r:Reach} {b0:Nat} {t:TypeId} {l:List (Nat×Nat)} {v:Value} {d:DataW H} {p:List MemPlace} {α:Type} {cells:α→List Value} {R:World→α→Prop}
 (hl:fL P t=some l) (ho:m3 P t α cells R) (hv:Value.okWide P w r b0 t v) (h:DataW.Trod enc P w base sp held t v d p): ∃ s,v= .agg (cells s).toArray∧R w s:=by
 unfold fL at hl
 cases hu:P.underlying t with
 |none=>simp [hu] at hl
 |some d=>
  cases d<;>simp [hu] at hl
  rename_i fs
  obtain ⟨cs,rfl,A⟩:=okWide_struct hu hv
  obtain ⟨fuel,hf⟩:=h
  obtain ⟨s,hc,hR⟩:=ho enc w base sp held fuel _ _ hf
  refine ⟨s,?_,hR⟩
  simp only [Value.cells] at hc
  rw [← hc]
theorem sv {H:Type} {enc:TypeId×Value→H} {P:Program} {w:World} {base:Nat} {sp:Nat→Bool} {held:Bool} {r:Reach} {b0:Nat} {t e:TypeId} {v:Value} {d:DataW H} {p:List MemPlace} {R:World→bB→Prop}
 (ho:m3 P t bB (fun s=>[.slice s.a s.n s.c]) R) (ht:P.underlying t=some (.slice e)) (hv:Value.okWide P w r b0 t v) (h:DataW.Trod enc P w base sp held t v d p): ∃ s:bB,v= .slice s.a s.n s.c∧R w s:=by
 obtain ⟨a,n,c,rfl⟩:=okWide_slice ht hv
 obtain ⟨fuel,hf⟩:=h
 obtain ⟨s,hc,hR⟩:=ho enc w base sp held fuel _ _ hf
 simp only [Value.cells] at hc
 have:vS a n c= .slice s.a s.n s.c:=by simpa using hc
 exact ⟨s,this,hR⟩
section
variable {H:Type} {enc:TypeId×Value→H} {P:Program}
theorem jK (hl:laidOutB P=true) {W W':World} {sp:Nat→Bool} (hb:Below W.heap.size W W'): ∀ (ts:List TypeId) (vs:List Value) (ds:List (DataW H)) (ps:List MemPlace),(ts.all fun t=>P.readableRec t&&decide (t<P.types.size))=true→
 DataW.TrodAll enc P W 0 (fun _=>true) true ts vs ds ps→(∀ x∈ps,x.block<W.heap.size)→(∀ x∈ps,sp x.block=true)→DataW.TrodAll enc P W' 0 sp true ts vs ds ps
 |[],[],[],ps,_,h,_,_=>h
 |t::ts,v::vs,d::ds,ps,ha,h,hlt,hsp=>by
  obtain ⟨p,q,A,B,rfl⟩:=h
  simp only [iq,bU,decide_eq_true_eq] at ha
  refine ⟨p,q,?_,jK hl hb ts vs ds q ha.2 B (fun x hx=>hlt x (List.mem_append_right _ hx)) (fun x hx=>hsp x (List.mem_append_right _ hx)),U⟩
  exact WideElems.Trod_stays hl ha.1.1 ha.1.2 A (fun x hx=>hb.same (hlt x (List.mem_append_left _ hx))) (fun x hx=>hsp x (List.mem_append_left _ hx))
 |[],[],_::_,_,_,h,_,_=>h.elim
 |[],_::_,_,_,_,h,_,_=>h.elim
 |_::_,[],_,_,_,h,_,_=>h.elim
 |_::_,_::_,[],_,_,h,_,_=>h.elim
/-- a law that said true and kept all that was there has answered its row -/
theorem tc {f:Func} {s:ChangeSpec} {apart fresh handsOn:Bool} {W W':World} {args:Array Value} {ds:List (DataW H)} {p:List MemPlace} {bt:TypeId} (hl:laidOutB P=true)
 (hW:DataW.Whole enc P f.params.toList s.vars apart W args.toList ds [] p) (hA:DataW.TrodAll enc P W 0 (fun _=>true) true f.params.toList args.toList ds p)
 (hv:s.vars=[]) (hs:s.fn H (ds++[])={results:=[.lit (.bool true)],args:=ds}) (hr:(f.params.toList.all fun t=>P.readableRec t&&decide (t<P.types.size))=true)
 (hb:Below W.heap.size W W') (ht:f.resultTypes= #[bt]) (hu:P.underlying bt=some .bool):s.post enc P f apart fresh handsOn false W args (.bool true) W':=by
 have A: ∀ x∈p,x.block<W.heap.size:=fun x hx=>hW.lt x hx
 refine ⟨ds,[],p,[],p,[],hW,?_,?_,?_,World.keptBut_mono (fun x hx=>⟨hx,.inr (.inl hx)⟩) (hb.frame (· ∈p)),fun h=>by cases h⟩
 ·rw [hs,ht]; exact trodAll_mk1 (shut_bool hu _)
 ·rw [hs]; exact jK hl hb _ _ _ _ hr hA A (fun x hx=>by simpa using A x hx)
 ·rw [hs,hv]; rfl
end
end
section
structure ed where
 zW:Value
def ed.cells (s:ed):List Value:=[s.zW]
theorem ed.aP (s:ed):s.cells.length=1:=rfl
@[ext] structure al where
 Lo:Int
 Hi:Int
 deriving DecidableEq
def al.cells (s:al):List Value:=vI s.Lo::([vI s.Hi])
theorem al.aP (s:al):s.cells.length=2:=rfl
@[ext] structure aH where
 Kind:Int
 bw:Int
 To:Int
 bO:al
 deriving DecidableEq
def aH.cells (s:aH):List Value:=Value.int .u8 s.Kind::(vI s.bw::(vI s.To::(al.cells s.bO)))
theorem aH.aP (s:aH):s.cells.length=5:=rfl
@[ext] structure ar where
 fM:bB
 deriving DecidableEq
def ar.cells (s:ar):List Value:=[vS s.fM.a s.fM.n s.fM.c]
theorem ar.aP (s:ar):s.cells.length=1:=rfl
@[ext] structure aG where
 ao:Int
 gO:al
 deriving DecidableEq
def aG.cells (s:aG):List Value:=vI s.ao::(al.cells s.gO)
theorem aG.aP (s:aG):s.cells.length=3:=rfl
@[ext] structure aZ where
 ag:ar
 ae:bB
 aq:bB
 a2:aG
 a4:Int
 deriving DecidableEq
def aZ.cells (s:aZ):List Value:=ar.cells s.ag++(vS s.ae.a s.ae.n s.ae.c::(vS s.aq.a s.aq.n s.aq.c::(aG.cells s.a2++([vI s.a4]))))
theorem aZ.aP (s:aZ):s.cells.length=7:=rfl
@[ext] structure cd where
 Guard:aZ
 times:bB
 deriving DecidableEq
def cd.cells (s:cd):List Value:=aZ.cells s.Guard++([vS s.times.a s.times.n s.times.c])
theorem cd.aP (s:cd):s.cells.length=8:=rfl
@[ext] structure aa where
 Id:Int
 di:al
 dj:al
 bK:al
 cT:Int
 ia:Int
 deriving DecidableEq
def aa.cells (s:aa):List Value:=vI s.Id::(al.cells s.di++(al.cells s.dj++(al.cells s.bK++(Value.int .u8 s.cT::([vI s.ia])))))
theorem aa.aP (s:aa):s.cells.length=9:=rfl
@[ext] structure bQ where
 ag:ar
 deriving DecidableEq
def bQ.cells (s:bQ):List Value:=ar.cells s.ag
theorem bQ.aP (s:bQ):s.cells.length=1:=rfl
@[ext] structure aV where
 Id:Int
 Kind:Int
 cp:aG
 gT:Int
 jM:Int
 deriving DecidableEq
def aV.cells (s:aV):List Value:=vI s.Id::(Value.int .u8 s.Kind::(aG.cells s.cp++(vI s.gT::([vI s.jM]))))
theorem aV.aP (s:aV):s.cells.length=7:=rfl
@[ext] structure bc where
 ao:Int
 Kind:Int
 e8:Int
 deriving DecidableEq
def bc.cells (s:bc):List Value:=vI s.ao::(Value.int .u8 s.Kind::([vI s.e8]))
theorem bc.aP (s:bc):s.cells.length=3:=rfl
structure dZ where
 zW:Value
def dZ.cells (s:dZ):List Value:=[s.zW]
theorem dZ.aP (s:dZ):s.cells.length=1:=rfl
end
section
open Go.RowKit
structure wF (es:Array MapEntry) (c:Nat) (m:List (Int×Value)):Prop where
 list:es.toList.map (fun e=>(e.key,e.val))=m.map (fun p=>(vI p.1,p.2))
 keys:(m.map (·.1)).Nodup
 x_: ∀ e∈es.toList,e.born<c
 born:(es.toList.map (·.born)).Nodup
theorem wF.nil:wF #[] 0 []:=⟨rfl,List.nodup_nil,sm,List.nodup_nil⟩
theorem sx {P:Program} {w:World} {kt:Nat} {x:Int} (hk:P.underlying kt=some (.int .i64)) (e:Bool):(Instr.checkKey e 10000 kt (.int .i64 x)).run P w= .ok () w:=by
 exact MapKept.run_checkKey hk (show MapKept.IsKey (.int .i64) (.int .i64 x) from U) e 9999
section
variable {E:c_} {ops:Array Oper} {Q:bJ} {rest:List Oper} {D:List Deferred} {L:List (Nat×Value)} {C:List ah}
variable {dst:Option Tmp} {d:Nat} {ty:TypeId} {ps:String} {af:Array Edge} {g:Option (Nat×Bool)}
theorem js {w:World} {b:Nat} (o:Obj):bX (only b) w {w with heap:=w.heap.setIfInBounds b o}:=
 ⟨rfl,rfl,rfl,sm,fun k hk hn=>by simp only [only] at hn; exact Array.getElem?_setIfInBounds_ne (fun e=>hn e.symm)⟩
theorem kM {w:World} {b:Nat} {o o':Obj} (h:w.heap[b]? =some o):({w with heap:=w.heap.setIfInBounds b o'}:World).heap[b]? =some o':=by
 have:=(Array.getElem?_eq_some_iff.1 h).1
 simp [Array.getElem?_setIfInBounds_self_of_lt this]
def tV (P:Program) (t:TypeId):Option Value:=(P.info? t).bind (·.zero)
theorem xM {P:Program} {t:TypeId} {z:Value} (h:tV P t=some z) (w:World):(zeroValue t).run P w= .ok z w:=by
 unfold tV at h
 cases hi:P.info? t with
 |none=>simp [hi] at h
 |some i=>simp only [hi,Option.bind_some] at h; simp [zeroValue,typeInfo,hi,h]
end
theorem au {C:List ah} {a:OA} {c e sz n:Nat} {es:List (List Value)} (i:Nat) (hC:C[i]? =some (own a c e sz es)) (hn:es.length=n):j3 C (rd a n sz es).holds:=hn▸qP i hC
abbrev iV:Int→Value:=Value.int .i64
end
section
def bf (s:al) (lo hi:Int):Prop:=s.Lo≤s.Hi∧lo≤s.Lo∧s.Hi≤hi
instance (s:al) (lo hi:Int):Decidable (bf s lo hi):=by unfold bf; infer_instance
def aM (x:aa):Prop:=(0≤x.Id∧x.Id≤9999)∧bf x.di 1 30000∧bf x.dj 0 5000∧(0≤x.ia∧x.ia≤5000)∧
 (x.cT=0∧x.bK.Lo=0∧x.bK.Hi=0∨(x.cT=1∨x.cT=2)∧bf x.bK 500 20000)
instance (x:aa):Decidable (aM x):=by unfold aM; infer_instance
def bV:Int→List aa→Bool
 |_,[]=>true
 |last,x::xs=>decide (last<x.Id∧aM x)&&bV x.Id xs
def a_ (ts:List aa):Bool:=decide (1≤(ts.length:Int)∧(ts.length:Int)≤12)&&bV (-1) ts
theorem sJ {α:Type} {l:List α} {i:Nat} {x:α} (h:l[i]? =some x):l.drop i=x::l.drop (i+1):=by
 obtain ⟨A,rfl⟩:=aJ.1 h
 exact List.drop_eq_getElem_cons A
theorem jk {ts:List aa} {i:Nat} {x:aa} (last:Int) (h:ts[i]? =some x):bV last (ts.drop i)=(decide (last<x.Id∧aM x)&&bV x.Id (ts.drop (i+1))):=by
 rw [sJ h]; rfl
def dz {α:Type} (p:α→Bool) (l:List α):Int:=if l.any p then (l.findIdx p:Nat) else-1
theorem mV {α:Type} {p:α→Bool} {l:List α} {i:Nat} {x:α} (h:l[i]? =some x) (hp:p x=true) (h0:(l.take i).any p=false):dz p l=i:=by
 obtain ⟨A,rfl⟩:=aJ.1 h
 have ha:l.any p=true:=List.any_eq_true.2 ⟨_,List.getElem_mem A,hp⟩
 have hi:l.findIdx p=i:=by
  rw [List.findIdx_eq A]
  refine ⟨hp,fun j hj=>?_⟩
  have:=List.any_eq_false.1 h0 l[j] (by rw [List.mem_take_iff_getElem]; exact ⟨j,I,rfl⟩)
  simpa using this
 simp [dz,ha,hi]
theorem jO {α:Type} {p:α→Bool} {l:List α} {i:Nat} (hi:l.length≤i) (h0:(l.take i).any p=false):dz p l= -1:=by
 rw [List.take_of_length_le hi] at h0
 simp [dz,h0]
theorem oo {α:Type} {p:α→Bool} {l:List α} {i:Nat} {x:α} (h:l[i]? =some x) (h0:(l.take i).any p=false) (hp:p x=false):(l.take (i+1)).any p=false:=by
 rw [List.take_add_one,h]; simp [h0,hp]
theorem nE {α:Type} {p:α→Bool} {l:List α}:decide (0≤dz p l)=l.any p:=by
 unfold dz; cases l.any p<;>simp
def nD (lo hi:Int) (l:List Int):Bool:= !(l.any fun u=>decide (u<lo∨hi<u))
theorem cA {lo hi a:Int}:vB (nD lo hi [a])=vB (decide (lo≤a∧a≤hi)):=by
 refine congrArg _ ?_
 rw [Bool.eq_iff_iff]; simp [nD]
theorem lh {lo hi a b:Int}:vB (nD lo hi [a,b])=vB (decide ((lo≤a∧a≤hi)∧lo≤b∧b≤hi)):=by
 refine congrArg _ ?_
 rw [Bool.eq_iff_iff]; simp [nD]
def db (ts:List aa) (i:Nat):Int:=if i=0 then-1 else ((ts[i-1]?).map (·.Id)).getD 0
theorem oN {ts:List aa} {i:Nat} (h:i=0):db ts i= -1:=by simp [db,h]
theorem qA {ts:List aa} {i:Nat} {y:aa} (h:0<i) (hy:ts[i-1]? =some y):db ts i=y.Id:=by
 simp [db,hy]; omega
theorem cZ {ts:List aa} {i:Nat} {y:aa} (hy:ts[i]? =some y):db ts (i+1)=y.Id:=by simp [db,hy]
theorem gQ {ts:List aa} (h: ¬ (1≤(ts.length:Int)∧(ts.length:Int)≤12)):a_ ts=false:=by
 simp only [a_,aQ h,Bool.false_and]
theorem bR {ts:List aa} {i:Nat} {x:aa} (h:bV (-1) ts=bV (db ts i) (ts.drop i)) (hx:ts[i]? =some x) (hn: ¬ (db ts i<x.Id∧aM x)):a_ ts=false:=by
 rw [a_,h,jk _ hx,aQ hn]; simp
theorem lz {ts:List aa} {i:Nat} (h:bV (-1) ts=bV (db ts i) (ts.drop i)) (hi:ts.length≤i) (hl:1≤(ts.length:Int)∧(ts.length:Int)≤12):a_ ts=true:=by
 rw [a_,h,List.drop_eq_nil_of_le hi,dm hl]; rfl
theorem du {ts:List aa} {i:Nat} {x:aa} (h:bV (-1) ts=bV (db ts i) (ts.drop i)) (hx:ts[i]? =some x) (hn:db ts i<x.Id∧aM x):bV (-1) ts=bV (db ts (i+1)) (ts.drop (i+1)):=by
 rw [h,jk _ hx,dm hn,cZ hx]; rfl
theorem uy {α:Type} {a b:List α} {i:Nat} {x y:α} (hx:a[i]? =some x) (hy:b[i]? =some y) (h: ¬ x=y): ¬ a=b:=by
 rintro rfl; rw [hx] at hy; exact h (Option.some.inj hy)
theorem tW {α:Type} {a b:List α} {i:Nat} (hl:a.length=b.length) (ht:a.take i=b.take i) (hi:a.length≤i):a=b:=by
 rwa [List.take_of_length_le hi,List.take_of_length_le I] at ht
theorem ss {α:Type} {a b:List α} {i:Nat} {x y:α} (ht:a.take i=b.take i) (hx:a[i]? =some x) (hy:b[i]? =some y) (h:x=y):a.take (i+1)=b.take (i+1):=by
 rw [List.take_add_one,List.take_add_one,ht,hx,hy,h]
theorem jL: ∀ {ts:List aa} {last:Int},bV last ts=true→ ∀ x∈ts,aM x
 |[],_,_,x,hx=>by cases hx
 |y::ts,last,h,x,hx=>by
  simp only [bV,bU,decide_eq_true_eq] at h
  rcases bE.1 hx with rfl|hx
  ·exact h.1.2
  ·exact jL h.2 x hx
theorem cP {ts:List aa} (h:a_ ts=true): ∀ x∈ts,aM x:=by
 simp only [a_,bU] at h
 exact jL h.2
theorem dy {ts:List aa} (h:a_ ts=true):ts.length≤12:=by
 simp only [a_,bU,decide_eq_true_eq] at h
 omega
theorem oW {ts:List aa} (h:a_ ts=true):1≤ts.length:=by
 simp only [a_,bU,decide_eq_true_eq] at h
 omega
end
section
open Go.RowKit
def uM (m:Array Nat) (ops:Array Oper) (free T:List Nat):Bool:=
 (free.all (Nat.blt · ops.size))&&(T.all (Nat.blt · ops.size))&&((List.range ops.size).all fun i=>free.contains i||T.contains i)&&(T.all fun i=> !free.contains i)&&
 ((List.range ops.size).all fun i=>match ops[i]? with
  |none=>false
  |some o=>jy o&&o.after.toList.all fun e=> !Region.binds .any e||Nat.blt e.on i)&&
 ((List.range free.length).all fun p=>match (free[p]?).bind fun i=>(ops[i]?).map fun o=>(i,o) with
  |none=>false
  |some (i,o)=>o.dst.isSome&&
   ((List.range free.length).all fun q=>q==p||match (free[q]?).bind fun j=>(ops[j]?).map fun o=>(j,o) with
    |none=>false
    |some (j,r)=>match r.dst with
     |none=>false
     |some d=>o.dst != some d&&(!(o.looksAt ops).contains d||(if q<p then dR m j i else dR m i j)))&&
   (T.all fun j=>match ops[j]? with
    |none=>false
    |some r=>r.dst != o.dst&&(match r.dst with |none=>true|some d=> !(o.looksAt ops).contains d||dR m i j)&&(match o.dst with |none=>true|some d=> !(r.looksAt ops).contains d||dR m i j)))&&
 ((List.range T.length).all fun p=>(List.range p).all fun q=>match T[p]?,T[q]? with
  |some i,some j=>i != j
  |_,_=>false)
def uO (m:Array Nat) (ops:Array Oper) (free T:List Nat) (fe:List Bool) (tb:List Nat):Bool:=
 uM m ops free T&&(T.all fun j=>tb.contains j||(List.range free.length).all fun p=> !(fe[p]?).getD false||match free[p]? with
  |some i=>dR m i j
  |_=>false)
def tx (ops:Array Oper) (free T:List Nat) (fe:List Bool) (tb:List Nat):Bool:=uO (jE ops) ops free T fe tb
def w_ (ops:Array Oper) (free T:List Nat):Bool:=uM (jE ops) ops free T
theorem um {ops:Array Oper} {free T:List Nat} {fe:List Bool} {tb:List Nat} (h:tx ops free T fe tb=true):w_ ops free T=true∧ ∀ (p i j:Nat),free[p]? =some i→j∈T→(fe[p]?).getD false=true→tb.contains j=true∨dR (jE ops) i j=true:=by
 simp only [tx,uO,bU] at h
 refine ⟨h.1,fun p i j hp hj hf=>?_⟩
 have B:=h.2
 rw [bY] at B
 have A:=B j hj
 rw [Bool.or_eq_true] at A
 rcases A with A|A
 ·exact .inl A
 ·rw [bY] at A
  have C:=A p (by simpa using (aJ.1 hp).1)
  simp only [hp,hf,Bool.not_true,Bool.false_or] at C
  exact .inr C
structure x6 (ops:Array Oper) (free T:List Nat):Prop where
 fl: ∀ i∈free,i<ops.size
 tl: ∀ i∈T,i<ops.size
 cover: ∀ i,i<ops.size→i∈free∨i∈T
 tM: ∀ i∈T,i ∉ free
 plain: ∀ (i:Nat) (o:Oper),ops[i]? =some o→(∀ cs b,o.op≠ .select cs b)∧(∀ c,o.op≠ .defer c)
 oz: ∀ (i:Nat) (o:Oper) (e:Edge),ops[i]? =some o→e∈o.after→Region.binds .any e=true→e.on<i
 apart: ∀ (p q i j:Nat) (o r:Oper) (d:Nat),free[p]? =some i→free[q]? =some j→q≠p→ops[i]? =some o→ops[j]? =some r→r.dst=some d→o.dst≠some d∧(d∈o.looksAt ops→(q<p∧dR (jE ops) j i=true)∨(p<q∧dR (jE ops) i j=true))
 ft: ∀ (i j:Nat) (o r:Oper),i∈free→j∈T→ops[i]? =some o→ops[j]? =some r→r.dst≠o.dst∧(∀ d,r.dst=some d→d∈o.looksAt ops→dR (jE ops) i j=true)∧(∀ d,o.dst=some d→d∈r.looksAt ops→dR (jE ops) i j=true)
 nodup:T.Nodup
theorem x6.of {ops:Array Oper} {free T:List Nat} (h:w_ ops free T=true):x6 ops free T:=by
 simp only [w_,uM,bU] at h
 obtain ⟨⟨⟨⟨⟨⟨H,AA⟩,J⟩,K⟩,C⟩,D⟩,L⟩:=h
 rw [bY] at H AA J K C D L
 have E: ∀ i∈free,i<ops.size:=fun i hi=>by have:=H i hi; rwa [Nat.blt_eq] at this
 have G: ∀ i∈T,i<ops.size:=fun i hi=>by have:=AA i hi; rwa [Nat.blt_eq] at this
 refine ⟨E,G,fun i hi=>?_,fun i hi=>?_,fun i o ho=>?_,fun i o e ho he hb=>?_,?_,?_,?_⟩
 ·have:=J i (by simpa using hi)
  simpa using this
 ·have:=K i hi
  simpa using this
 ·have hi:i<ops.size:=(Array.getElem?_eq_some_iff.1 ho).1
  have:=C i (by simpa using hi)
  simp only [ho,bU] at this
  have:=this.1
  refine ⟨fun cs b hh=>?_,fun c hh=>?_⟩<;>simp [jy,hh] at this
 ·have hi:i<ops.size:=(Array.getElem?_eq_some_iff.1 ho).1
  have:=C i (by simpa using hi)
  simp only [ho,bU] at this
  have:=this.2
  rw [bY] at this
  have:=this e (by simpa using he)
  rw [hb] at this
  simpa using this
 ·intro p q i j o r d hp hq F ho hr hd
  have:=D p (by simpa using (aJ.1 hp).1)
  simp only [hp,ho,Option.bind_some,Option.map_some,bU] at this
  have:=this.1.2
  rw [bY] at this
  have:=this q (by simpa using (aJ.1 hq).1)
  simp only [hq,hr,hd,Option.bind_some,Option.map_some,Bool.or_eq_true,bU,beq_iff_eq,bne_iff_ne,ne_eq] at this
  rcases this with h|⟨M,B⟩
  ·exact absurd h F
  ·refine ⟨M,fun hm=>?_⟩
   rcases B with B|B
   ·simp [hm] at B
   ·by_cases A:q<p
    ·rw [if_pos A] at B; exact .inl ⟨A,B⟩
    ·rw [if_neg A] at B; exact .inr ⟨I,B⟩
 ·intro i j o r hi hj ho hr
  obtain ⟨p,hp⟩:=List.mem_iff_getElem?.1 hi
  have:=D p (by simpa using (aJ.1 hp).1)
  simp only [hp,ho,Option.bind_some,Option.map_some,bU] at this
  have:=this.2
  rw [bY] at this
  have:=this j hj
  simp only [hr,bU,bne_iff_ne,ne_eq] at this
  refine ⟨this.1.1,fun d hd hm=>?_,fun d hd hm=>?_⟩
  ·have:=this.1.2
   simp [hd,hm] at this; exact this
  ·have:=this.2
   simp [hd,hm] at this; exact this
 ·rw [List.nodup_iff_pairwise_ne,da]
  intro q p hq hp A
  have:=L p (by simpa using hp)
  rw [bY] at this
  have:=this q (by simpa using A)
  simp only [dr hp,dr hq,bne_iff_ne,ne_eq] at this
  exact fun e=>this e.symm
/-- the others, in whatever order the edges leave open; the part C' of the state stands throughout, the part C1 where the list tb says -/
def TN (E:c_) (ops:Array Oper) (D:dH) (C' C1:List ah) (F:bT→List ah→Prop) (tb:List Nat):Nat→List Nat→bT→List ah→Prop
 |0,_,L,C=>F L C
 |n+1,rem,L,C=> ∀ i∈rem.filter (fun i=>rem.all fun j=> !dR (jE ops) j i),∀ o,ops[i]? =some o→ ∀ K:Act→World→Prop,(∀ L' C'',(∀ w,St E.S E.w0 C'' w→St E.S E.w0 C' w)→(tb.contains i=true→ ∀ w,St E.S E.w0 C'' w→St E.S E.w0 C1 w)→TN E ops D C' C1 F tb n (rem.filter (· != i)) L' C''→KJ E K D L' C'')→RJ E ops (NQ K) [o] D L C
theorem rK {E:c_} {id:Nat} {ops:Array Oper} {Q:bJ} {D:dH} {L:bT} {C:List ah} (hm:E.P.follows .mixedOrders=true) (free T:List Nat) (fe:List Bool) (tb:List Nat) (C' C1:List ah) (hc:tx ops free T fe tb=true)
 (hC: ∀ w,St E.S E.w0 C w→St E.S E.w0 C' w) (hC1: ∀ w,St E.S E.w0 C w→St E.S E.w0 C1 w)
 (h:iP E ops D C' C1 (fun L'=>TN E ops D C' C1 (fun L C=>KJ E (Q .normal) D L C) tb T.length T L' C) fe (cr ops free) L):WJ E (.region id ops true) Q D L C:=by
 obtain ⟨hc,Bw⟩:=um hc
 have hc:=x6.of hc
 intro a0 w0 z Bz
 refine wpIn_region_any hm ?_
 have B0:St E.S E.w0 C ({w0 with drawn:=w0.drawn+1}:World):=Bz.same (bX.drew no w0)
 obtain ⟨vs,B5,hF,l⟩:=iP.out _ _ _ h
 have BH:=ib hc.fl
 have A4: ∀ (p i:Nat) (o:Oper),free[p]? =some i→ops[i]? =some o→(cr ops free)[p]? =some o:=fun p i o hp ho=>by rw [gn hc.fl,hp]; exact ho
 have A3: ∀ (p:Nat) (o:Oper),(cr ops free)[p]? =some o→ ∃ i,free[p]? =some i∧ops[i]? =some o:=fun p o h=>by
  rw [gn hc.fl] at h
  cases hp:free[p]? with
  |none=>simp [hp] at h
  |some i=>exact ⟨i,rfl,by simpa [hp] using h⟩
 have BF: ∀ (j:Nat) (o:Oper) (d:Nat),(cr ops free)[j]? =some o→o.dst=some d→d<E.n:=fun j o d ho hd=>by
  obtain ⟨d',v,h1,h2,_⟩:=l j o ho
  rw [h1] at hd; cases hd; exact h2
 -- all is listed
 have done: ∀ (listed:Array Bool) (a:Act) (w:World) (rem:List Nat) (Lk:bT) (Ck:List ah) (af:Act),(∀ i,i<ops.size→listed.getD i false=true)→
  (∀ i∈T,(listed.getD i false=true↔i ∉ rem))→(∀ i∈rem,i∈T)→rem.Nodup→a.defers=D→a.tmps.size=E.n→
  TN E ops D C' C1 (fun L C=>KJ E (Q .normal) D L C) tb rem.length rem Lk Ck→Fr E.n D Lk af→St E.S E.w0 Ck w→
  (∀ t,(∀ (p i:Nat) (o:Oper),free[p]? =some i→ops[i]? =some o→o.dst≠some t)→af.tmps[t]? =a.tmps[t]?)→
  (∀ (p i:Nat) (o:Oper) (d:Nat),free[p]? =some i→ops[i]? =some o→o.dst=some d→af.tmps[d]? =vs[p]? ∧(listed.getD i false=true→a.tmps[d]? =vs[p]?))→Q .normal a w:=by
  intro listed a w rem Lk Ck af BQ M O f hd hz hT K R G B
  have hk:rem=[]:=by
   rw [List.eq_nil_iff_forall_not_mem]
   intro i hi
   exact (M i (O i hi)).1 (BQ i (hc.tl i (O i hi))) hi
  subst hk
  have hT:KJ E (Q .normal) D Lk Ck:=hT
  refine hT a w ⟨hd,hz,fun t v hv=>?_⟩ R
  rw [← K.at_ t v hv]
  by_cases hw: ∃ (p i:Nat) (o:Oper),free[p]? =some i∧ops[i]? =some o∧o.dst=some t
  ·obtain ⟨p,i,o,hp,ho,A2⟩:=hw
   obtain ⟨e1,y⟩:=B p i o t hp ho A2
   rw [e1,y (BQ i (hc.fl i (aI hp)))]
  ·exact (G t (fun p i o hp ho A2=>hw ⟨p,i,o,hp,ho,A2⟩)).symm
 have key: ∀ (fuel:Nat) (listed:Array Bool) (a:Act) (w:World) (rem:List Nat) (Lk:bT) (Ck:List ah) (af:Act),listed.size=ops.size→(pH ops.size listed).length≤fuel→(∀ j,listed.getD j false=true→kT ops (fun k=>listed.getD k false=true) j)→
  (∀ i∈T,(listed.getD i false=true↔i ∉ rem))→(∀ i∈rem,i∈T)→rem.Nodup→a.defers=D→a.tmps.size=E.n→
  TN E ops D C' C1 (fun L C=>KJ E (Q .normal) D L C) tb rem.length rem Lk Ck→Fr E.n D Lk af→St E.S E.w0 Ck w→(∀ w,St E.S E.w0 Ck w→St E.S E.w0 C' w)→(∀ (p i:Nat),free[p]? =some i→(fe[p]?).getD false=true→listed.getD i false=false→ ∀ w,St E.S E.w0 Ck w→St E.S E.w0 C1 w)→
  (∀ t,(∀ (p i:Nat) (o:Oper),free[p]? =some i→ops[i]? =some o→o.dst≠some t)→af.tmps[t]? =a.tmps[t]?)→
  (∀ t,(∀ (i:Nat) (o:Oper),listed.getD i false=true→ops[i]? =some o→o.dst≠some t)→a.tmps[t]? =a0.tmps[t]?)→
  (∀ (p i:Nat) (o:Oper) (d:Nat),free[p]? =some i→ops[i]? =some o→o.dst=some d→af.tmps[d]? =vs[p]? ∧(listed.getD i false=true→a.tmps[d]? =vs[p]?))→
  wpAnyIn (Fw E.r) 0 E.P .any ops Q fuel listed a w:=by
  intro fuel
  induction fuel with
  |zero=>
   intro listed a w rem Lk Ck af AC hu A1 M O f hd hz hT K R A7 g G X B
   have hall': ∀ i,i<ops.size→listed.getD i false=true:=fun i hi=>by
    cases hg:listed.getD i false with
    |true=>rfl
    |false=>
     have:=List.length_pos_of_mem (gJ.2 ⟨hi,hg⟩)
     omega
   refine ⟨?_,done listed a w rem Lk Ck af hall' M O f hd hz hT K R G B⟩
   rw [List.eq_nil_iff_forall_not_mem]
   intro i hi
   obtain ⟨h1,h2,_⟩:=fT AC hi
   rw [hall' i h1] at h2; cases h2
  |succ fuel ih=>
   intro listed a w rem Lk Ck af AC hu A1 M O f hd hz hT K R A7 g G X B
   refine ⟨fun BW=>?_,fun i hi=>?_⟩
   ·refine done listed a w rem Lk Ck af (fun i hi=>?_) M O f hd hz hT K R G B
    cases hg:listed.getD i false with
    |true=>rfl
    |false=>
     exfalso
     have Bx: ∃ i,i<ops.size∧listed.getD i false=false:=⟨i,hi,hg⟩
     obtain ⟨j,hj,A5⟩:=exists_least Bx
     have hr:j∈Region.ready .any ops listed:=kd AC hj.1 hj.2 (fun o e ho he hb=>by
      have h1:=hc.oz j o e ho he hb
      cases hg:listed.getD e.on false with
      |true=>exact hg
      |false=>exact absurd (A5 e.on ⟨I,hg⟩) I)
     rw [BW] at hr; cases hr
   ·obtain ⟨BJ,W,BU⟩:=fT AC hi
    obtain ⟨o,ho⟩: ∃ o,ops[i]? =some o:=⟨ops[i],Array.getElem?_eq_getElem BJ⟩
    obtain ⟨BG,BE⟩:=hc.plain i o ho
    have F: ∀ j,(listed.setIfInBounds i true).getD j false=if j=i then true else listed.getD j false:=fun j=>iZ I false
    have B4:=od (n:=ops.size) (i:=i) (listed:=listed) I (gJ.2 ⟨BJ,W⟩)
    have hcl': ∀ j,(listed.setIfInBounds i true).getD j false=true→kT ops (fun k=>(listed.setIfInBounds i true).getD k false=true) j:=by
     intro j hj o' e ho' he hb
     show (listed.setIfInBounds i true).getD e.on false=true
     rw [F] at hj ⊢
     by_cases e1:e.on=i
     ·simp [e1]
     ·simp only [e1,if_false]
      by_cases y:j=i
      ·subst y; exact BU o' e ho' he hb
      ·simp only [y,if_false] at hj; exact A1 j hj o' e ho' he hb
    have s: ∀ j,dR (jE ops) j i=true→listed.getD j false=true:=fun j hj=>ee (S:=fun k=>listed.getD k false=true) A1 hj BU
    have A6: ∀ j,dR (jE ops) i j=true→listed.getD j false=false:=fun j hj=>by
     cases hg:listed.getD j false with
     |false=>rfl
     |true=>
      have:=ee (S:=fun k=>listed.getD k false=true) A1 hj (A1 j hg)
      rw [this] at W; cases W
    unfold wpOpIn
    simp only [ho]
    rcases hc.cover i BJ with N|N
    ·-- a free one
     obtain ⟨p,hp⟩:=List.mem_iff_getElem?.1 N
     obtain ⟨d,v,H,BR,B2,B1⟩:=l p o (A4 p i o hp ho)
     have BT:=fA (cr ops free) vs p L a0 BF z
     have Z: ∀ t∈o.looksAt ops,a.tmps[t]? =(fD (cr ops free) vs p a0).tmps[t]? :=by
      intro t BB
      by_cases hw: ∃ (q j:Nat) (r:Oper),free[q]? =some j∧q≠p∧ops[j]? =some r∧r.dst=some t
      ·obtain ⟨q,j,r,hq,AB,hr,A⟩:=hw
       obtain ⟨d',v',e1,y,e3,_⟩:=l q r (A4 q j r hq hr)
       rw [A] at e1; cases e1
       have Bv:=hc.apart p q i j o r t hp hq AB ho hr A
       rcases Bv.2 BB with ⟨c,ha⟩|⟨c,ha⟩
       ·rw [(B q j r t hq hr A).2 (s j ha),e3]
        refine (fy (cr ops free) vs p a0 q r t v' c (A4 q j r hq hr) A (by rw [z.size]; exact y) e3 (fun m u hm hne' hu=>?_)).symm
        obtain ⟨x,AA,V⟩:=A3 m u hu
        exact (hc.apart m q x j u r t AA hq (Ne.symm hne') V hr A).1
       ·have BV:=A6 j ha
        refine (X t (fun m u hm hu J=>?_)).trans (cN (cr ops free) vs p a0 t (fun m u hm hu J=>?_)).symm
        ·rcases hc.cover m (Array.getElem?_eq_some_iff.1 hu).1 with BN|BL
         ·obtain ⟨x,hx⟩:=List.mem_iff_getElem?.1 BN
          by_cases e:x=q
          ·subst e; rw [hq] at hx; cases hx; rw [hm] at BV; cases BV
          ·exact (hc.apart x q m j u r t hx hq (Ne.symm e) hu hr A).1 J
         ·exact (hc.ft j m r u (aI hq) BL hr hu).1 (by rw [J,A])
        ·obtain ⟨x,AA,V⟩:=A3 m u hu
         exact (hc.apart m q x j u r t AA hq I V hr A).1 J
      ·refine (X t (fun m u hm hu J=>?_)).trans (cN (cr ops free) vs p a0 t (fun m u hm hu J=>?_)).symm
       ·rcases hc.cover m (Array.getElem?_eq_some_iff.1 hu).1 with BN|BL
        ·obtain ⟨x,hx⟩:=List.mem_iff_getElem?.1 BN
         by_cases e:x=p
         ·subst e; rw [hp] at hx; cases hx; rw [hm] at W; cases W
         ·exact hw ⟨x,m,u,hx,e,hu,J⟩
        ·have:=A6 m ((hc.ft i m o u N BL ho hu).2.1 t J BB)
         rw [hm] at this; cases this
       ·obtain ⟨x,AA,V⟩:=A3 m u hu
        exact hw ⟨m,x,u,AA,I,V,J⟩
     have Bu: ∀ j∈T,j≠i:=fun j A8 e=>hc.tM j A8 (e▸N)
     have By: ∀ w',bX no w w'→wpAnyIn (Fw E.r) 0 E.P .any ops Q fuel (listed.setIfInBounds i true) (a.put (some d) v) w':=by
      intro w' hk
      refine ih _ _ w' rem Lk Ck af (by simpa using AC) I hcl' (fun j A8=>?_) O f hd (by simp [Act.put,hz]) hT K (R.same hk) A7 (fun p' i' hp' hf' hl'=>g p' i' hp' hf' (by rw [F] at hl'; by_cases e:i'=i; (rw [if_pos e] at hl'; cases hl'); (rwa [if_neg e] at hl'))) (fun t ht=>?_) (fun t ht=>?_) (fun q j r d' hq hr A=>?_)
      ·rw [F,if_neg (Bu j A8)]; exact M j A8
      ·have AB:d≠t:=fun e=>ht p i o hp ho (by rw [H,e])
       simp only [Act.put]
       rw [Array.getElem?_setIfInBounds_ne AB]
       exact G t ht
      ·have AB:d≠t:=fun e=>ht i o (by rw [F]; simp) ho (by rw [H,e])
       simp only [Act.put]
       rw [Array.getElem?_setIfInBounds_ne AB]
       exact X t (fun m u hm hu=>ht m u (by rw [F]; split<;>simp [hm]) hu)
      ·refine ⟨(B q j r d' hq hr A).1,fun hl=>?_⟩
       by_cases e:q=p
       ·subst e
        rw [hp] at hq; cases hq
        rw [ho] at hr; cases hr
        rw [H] at A; cases A
        simp only [Act.put]
        rw [Array.getElem?_setIfInBounds_self_of_lt (by rw [hz]; exact BR),B2]
       ·have AB:=(hc.apart p q i j o r d' hp hq e ho hr A).1
        simp only [Act.put]
        rw [Array.getElem?_setIfInBounds_ne (fun h=>AB (by rw [H,h]))]
        refine (B q j r d' hq hr A).2 ?_
        rw [F] at hl
        by_cases y:j=i
        ·subst y
         exact absurd (by rw [ho] at hr; cases hr; rw [H] at A ⊢; exact A) AB
        ·simpa [y] using hl
     refine km B1 H BR BG BE BT Z ?_ By
     cases BH:(fe[p]?).getD false with
     |true=>exact g p i hp BH W w R
     |false=>exact A7 w R
    ·-- one of the others
     have BK:i∈rem:=by
      rcases Classical.em (i∈rem) with h|h
      ·exact h
      ·have:=(M i N).2 h; rw [this] at W; cases W
     have A5:i∈rem.filter (fun i=>rem.all fun j=> !dR (jE ops) j i):=by
      rw [List.mem_filter]
      refine ⟨BK,bY.2 fun j hj=>?_⟩
      cases hab:dR (jE ops) j i with
      |false=>rfl
      |true=>exact absurd hj ((M j (O j hj)).1 (s j hab))
     obtain ⟨nr,BX⟩: ∃ nr,rem.length=nr+1:=⟨rem.length-1,by have:=List.length_pos_of_mem BK; omega⟩
     have hnr':(rem.filter (· != i)).length=nr:=by
      have:=f.erase_eq_filter i
      rw [← this,List.length_erase_of_mem BK,BX]; rfl
     rw [BX] at hT
     have hT:=hT i A5 o ho
     have Z: ∀ t∈o.looksAt ops,a.tmps[t]? =af.tmps[t]? :=by
      intro t BB
      by_cases hw: ∃ (q j:Nat) (r:Oper),free[q]? =some j∧ops[j]? =some r∧r.dst=some t
      ·obtain ⟨q,j,r,hq,hr,A⟩:=hw
       have ha:=(hc.ft j i r o (aI hq) N hr ho).2.2 t A BB
       obtain ⟨e1,y⟩:=B q j r t hq hr A
       rw [e1,y (s j ha)]
      ·exact (G t (fun q j r hq hr A=>hw ⟨q,j,r,hq,hr,A⟩)).symm
     refine ri BG BE Z (hT (fun af' w'=>af'.defers=D∧ ∃ L' C'',(∀ w,St E.S E.w0 C'' w→St E.S E.w0 C' w)∧(tb.contains i=true→ ∀ w,St E.S E.w0 C'' w→St E.S E.w0 C1 w)∧TN E ops D C' C1 (fun L C=>KJ E (Q .normal) D L C) tb nr (rem.filter (· != i)) L' C''∧Fr E.n D L' af'∧St E.S E.w0 C'' w')
      (fun L' C'' h1 h1' h2 af' w' h3 h4=>⟨h3.defers,L',C'',h1,h1',h2,h3,h4⟩) af w K R) (fun b w' hb=>hb.1.trans K.defers.symm) ?_
     rintro u w' ⟨_,L',C'',h1,h1',h2,h3,h4⟩
     have Y: ∀ (b:Act) (t:Nat),o.dst≠some t→(b.put o.dst u).tmps[t]? =b.tmps[t]? :=fun b t AB=>by
      cases H:o.dst with
      |none=>rfl
      |some d=>simp only [Act.put]; rw [Array.getElem?_setIfInBounds_ne (fun e=>AB (by rw [H,e]))]
     have BO: ∀ (b:Act),(b.put o.dst u).tmps.size=b.tmps.size:=fun b=>by cases o.dst<;>simp [Act.put]
     refine ih _ _ w' (rem.filter (· != i)) L' C'' (af.put o.dst u) (by simpa using AC) I hcl' (fun j hq=>?_) (fun j hj=>O j (List.mem_filter.1 hj).1) (f.filter _) (by cases o.dst<;>exact hd) (by rw [BO]; exact hz) (by rw [hnr']; exact h2) h3 h4 h1 (fun p' i' hp' hf' hl'=>by
      rcases Bw p' i' i hp' N hf' with h5|h5
      ·exact h1' h5
      ·have h6:=s i' h5
       rw [F] at hl'
       by_cases e:i'=i
       ·rw [if_pos e] at hl'; cases hl'
       ·rw [if_neg e,h6] at hl'; cases hl') (fun t ht=>?_) (fun t ht=>?_) (fun q j r d' hq hr A=>?_)
     ·rw [F]
      by_cases e:j=i
      ·subst e; simp
      ·simp only [e,if_false,List.mem_filter,bne_iff_ne,ne_eq,not_false_eq_true,and_true]
       exact M j hq
     ·by_cases H:o.dst=some t
      ·rw [H]
       simp only [Act.put]
       by_cases c:t<E.n
       ·rw [Array.getElem?_setIfInBounds_self_of_lt (by rw [K.size]; exact c),Array.getElem?_setIfInBounds_self_of_lt (by rw [hz]; exact c)]
       ·rw [Array.getElem?_eq_none (by rw [Array.size_setIfInBounds,K.size]; exact Nat.le_of_not_lt c),Array.getElem?_eq_none (by rw [Array.size_setIfInBounds,hz]; exact Nat.le_of_not_lt c)]
      ·rw [Y a t H,Y af t H]; exact G t ht
     ·rw [Y a t (ht i o (by rw [F]; simp) ho)]
      exact X t (fun m' u' hm'' hu'=>ht m' u' (by rw [F]; split<;>simp [hm'']) hu')
     ·have AB:o.dst≠some d':=fun e=>(hc.ft j i r o (aI hq) N hr ho).1 (by rw [e,A])
      rw [Y a d' AB,Y af d' AB]
      refine ⟨(B q j r d' hq hr A).1,fun hl=>(B q j r d' hq hr A).2 ?_⟩
      rw [F] at hl
      have:j≠i:=fun e=>hc.tM i N (e▸aI hq)
      simpa [this] using hl
 refine key ops.size (Array.replicate ops.size false) a0 _ T _ C (fD (cr ops free) vs (cr ops free).length a0) sm ?_ ?_ ?_ (fun _ h=>h) hc.nodup z.defers z.size (by simpa using hF) (fA _ vs _ L a0 BF z) B0 hC (fun _ _ _ _ _=>hC1) ?_ (fun _ _=>rfl) ?_
 ·unfold pH; exact Nat.le_trans (List.length_filter_le _ _) sm
 ·intro j hj
  simp only [Array.getD_eq_getD_getElem?,Array.getElem?_replicate] at hj
  split at hj<;>simp at hj
 ·intro i hi
  simp only [Array.getD_eq_getD_getElem?,Array.getElem?_replicate]
  split<;>simp [hi]
 ·intro t ht
  refine cN _ vs _ a0 t (fun m u _ hu J=>?_)
  obtain ⟨x,AA,V⟩:=A3 m u hu
  exact ht m x u AA V J
 ·intro p i o d hp ho H
  obtain ⟨d',v',e1,y,e3,_⟩:=l p o (A4 p i o hp ho)
  rw [H] at e1; cases e1
  refine ⟨?_,fun hl=>?_⟩
  ·rw [e3]
   refine fy _ vs _ a0 p o d v' (by rw [BH]; exact (aJ.1 hp).1) (A4 p i o hp ho) H (by rw [z.size]; exact y) e3 (fun m u hm AB hu=>?_)
   obtain ⟨x,AA,V⟩:=A3 m u hu
   exact (hc.apart m p x i u o d AA hp (Ne.symm AB) V ho H).1
  ·simp only [Array.getD_eq_getD_getElem?,Array.getElem?_replicate] at hl
   split at hl<;>simp at hl
theorem uB {E:c_} {ops:Array Oper} {D:dH} {C' C1:List ah} {F:bT→List ah→Prop} {tb rem:List Nat} {L:bT} {C:List ah} (h:F L C):TN E ops D C' C1 F tb 0 rem L C:=h
def pf (E:c_) (ops:Array Oper) (D:dH) (C' C1:List ah) (F:bT→List ah→Prop) (tb:List Nat) (n:Nat) (rem:List Nat) (i:Nat) (L:bT) (C:List ah):Prop:=
 ∀ o,ops[i]? =some o→ ∀ K:Act→World→Prop,(∀ L' C'',(∀ w,St E.S E.w0 C'' w→St E.S E.w0 C' w)→(tb.contains i=true→ ∀ w,St E.S E.w0 C'' w→St E.S E.w0 C1 w)→TN E ops D C' C1 F tb n rem L' C''→KJ E K D L' C'')→RJ E ops (NQ K) [o] D L C
theorem pO {E:c_} {ops:Array Oper} {D:dH} {C' C1:List ah} {F:bT→List ah→Prop} {tb rem:List Nat} {n:Nat} {L:bT} {C:List ah} (ms:List Nat) (hm:rem.filter (fun i=>rem.all fun j=> !dR (jE ops) j i)=ms)
 (h: ∀ i∈ms,pf E ops D C' C1 F tb n (rem.filter (· != i)) i L C):TN E ops D C' C1 F tb (n+1) rem L C:=fun i hi=>h i (hm▸hi)
theorem mD {p:Nat→Prop} {i:Nat} {l:List Nat} (h:p i) (t: ∀ j∈l,p j): ∀ j∈i::l,p j:=fun j hj=>by
 rcases bE.1 hj with rfl|hj
 ·exact h
 ·exact t j hj
theorem tG {p:Nat→Prop}: ∀ j∈([]:List Nat),p j:=fun j hj=>by cases hj
theorem AJ {E:c_} {ops:Array Oper} {D:dH} {C' C1:List ah} {F:bT→List ah→Prop} {tb rem rem':List Nat} {n i:Nat} {L:bT} {C:List ah} {o:Oper} (ho:ops[i]? =some o) (hr:rem=rem') (ht:tb.contains i=false)
 (h: ∀ K:Act→World→Prop,(∀ L' C'',(∀ w,St E.S E.w0 C'' w→St E.S E.w0 C' w)→TN E ops D C' C1 F tb n rem' L' C''→KJ E K D L' C'')→RJ E ops (NQ K) [o] D L C):pf E ops D C' C1 F tb n rem i L C:=fun o' ho' K hK=>by
 rw [ho] at ho'; cases ho'
 subst hr
 exact h K fun L' C'' A B=>hK L' C'' A (fun h=>by rw [ht] at h; cases h) B
theorem lH {E:c_} {ops:Array Oper} {D:dH} {C' C1:List ah} {F:bT→List ah→Prop} {tb rem rem':List Nat} {n i:Nat} {L:bT} {C:List ah} {o:Oper} (ho:ops[i]? =some o) (hr:rem=rem')
 (h: ∀ K:Act→World→Prop,(∀ L' C'',(∀ w,St E.S E.w0 C'' w→St E.S E.w0 C' w)→(∀ w,St E.S E.w0 C'' w→St E.S E.w0 C1 w)→TN E ops D C' C1 F tb n rem' L' C''→KJ E K D L' C'')→RJ E ops (NQ K) [o] D L C):pf E ops D C' C1 F tb n rem i L C:=fun o' ho' K hK=>by
 rw [ho] at ho'; cases ho'
 subst hr
 exact h K fun L' C'' A h1' B=>hK L' C'' A (fun _=>h1') B
end
section
open Go.RowKit
def wL (m:Array Nat) (ops:Array Oper) (rem:List Nat):Bool:=
 (List.range rem.length).all fun p=>match (rem[p]?).bind fun i=>(ops[i]?).map fun o=>(i,o) with
  |none=>false
  |some (i,o)=>o.dst.isSome&&jy o&&
   ((List.range rem.length).all fun q=>q==p||match (rem[q]?).bind fun j=>(ops[j]?).map fun o=>(j,o) with
    |none=>false
    |some (j,r)=>i != j&&match r.dst with
     |none=>false
     |some d=>o.dst != some d&&(!(o.looksAt ops).contains d||(if q<p then dR m j i else dR m i j)))
def xL (ops:Array Oper) (rem:List Nat):Bool:=wL (jE ops) ops rem
structure xO (ops:Array Oper) (rem:List Nat):Prop where
 lt: ∀ i∈rem,i<ops.size
 plain: ∀ (p i:Nat) (o:Oper),rem[p]? =some i→ops[i]? =some o→(∀ cs b,o.op≠ .select cs b)∧(∀ c,o.op≠ .defer c)
 apart: ∀ (p q i j:Nat) (o r:Oper) (d:Nat),rem[p]? =some i→rem[q]? =some j→q≠p→ops[i]? =some o→ops[j]? =some r→r.dst=some d→i≠j∧o.dst≠some d∧(d∈o.looksAt ops→(q<p∧dR (jE ops) j i=true)∨(p<q∧dR (jE ops) i j=true))
theorem xO.of {ops:Array Oper} {rem:List Nat} (h:xL ops rem=true):xO ops rem:=by
 simp only [xL,wL] at h
 rw [bY] at h
 refine ⟨fun i hi=>?_,fun p i o hp ho=>?_,?_⟩
 ·obtain ⟨p,hp⟩:=List.mem_iff_getElem?.1 hi
  have:=h p (by simpa using (aJ.1 hp).1)
  simp only [hp,Option.bind_some] at this
  cases ho:ops[i]? with
  |none=>simp [ho] at this
  |some o=>exact (Array.getElem?_eq_some_iff.1 ho).1
 ·have:=h p (by simpa using (aJ.1 hp).1)
  simp only [hp,ho,Option.bind_some,Option.map_some,bU] at this
  have:=this.1.2
  refine ⟨fun cs b hh=>?_,fun c hh=>?_⟩<;>simp [jy,hh] at this
 ·intro p q i j o r d hp hq C ho hr hd
  have:=h p (by simpa using (aJ.1 hp).1)
  simp only [hp,ho,Option.bind_some,Option.map_some,bU] at this
  have:=this.2
  rw [bY] at this
  have:=this q (by simpa using (aJ.1 hq).1)
  simp only [hq,hr,hd,Option.bind_some,Option.map_some,Bool.or_eq_true,bU,beq_iff_eq,bne_iff_ne,ne_eq] at this
  rcases this with h|⟨D,E,A⟩
  ·exact absurd h C
  ·refine ⟨D,E,fun hm=>?_⟩
   rcases A with A|A
   ·simp [hm] at A
   ·by_cases B:q<p
    ·rw [if_pos B] at A; exact .inl ⟨B,A⟩
    ·rw [if_neg B] at A; exact .inr ⟨I,A⟩
def zT (ops:Array Oper) (is:List Nat):List Nat:=is.filterMap fun i=>(ops[i]?).bind (·.dst)
def nP (L:bT) (ds:List Nat):bT:=L.filter fun p=> !ds.any (Nat.beq p.1)
theorem kB {L:bT} {ds:List Nat} {t:Nat} {v:Value} (h:(nP L ds).lookup t=some v):L.lookup t=some v∧t ∉ ds:=by
 induction L with
 |nil=>simp [nP] at h
 |cons p L ih=>
  obtain ⟨u,x⟩:=p
  unfold nP at h ih
  rw [List.filter_cons] at h
  by_cases e:t=u
  ·subst e
   split at h
   ·rename_i hu
    simp [List.lookup] at h ⊢
    refine ⟨h,fun hm=>?_⟩
    simp only [Bool.not_eq_true',List.any_eq_false] at hu
    exact hu t hm sm
   ·exfalso
    rename_i hu
    have:=(ih h).2
    simp only [Bool.not_eq_true',Bool.not_eq_false,List.any_eq_true] at hu
    obtain ⟨d,hd,he⟩:=hu
    have:t=d:=Nat.eq_of_beq_eq_true he
    subst this
    exact this hd
  ·have A:(t==u)=false:=by simpa using e
   split at h
   ·simp only [List.lookup,A] at h ⊢
    exact ih h
   ·simp only [List.lookup,A]
    exact ih h
/-- what is left yields alone -/
theorem xH {E:c_} {ops:Array Oper} {Q:bJ} {D:dH} {C' C1 C:List ah} {tb rem:List Nat} {L:bT} {n:Nat} (ds:List Nat) (hc:xL ops rem=true) (hds:zT ops rem=ds) (hn:rem.length=n) (L0:bT) (hL:nP L ds=L0) (htb:(rem.all fun i=> !tb.contains i)=true)
 (hC: ∀ w,St E.S E.w0 C w→St E.S E.w0 C' w) (h:DJ E ops D C (fun L'=>RJ E ops Q [] D L' C) (cr ops rem) L0):TN E ops D C' C1 (fun L C=>KJ E (Q .normal) D L C) tb n rem L C:=by
 have hc:=xO.of hc
 obtain ⟨vs,BG,hF,H⟩:=DJ.out _ _ h
 have BB:=ib hc.lt
 have hg: ∀ (p i:Nat) (o:Oper),rem[p]? =some i→ops[i]? =some o→(cr ops rem)[p]? =some o:=fun p i o hp ho=>by rw [gn hc.lt,hp]; exact ho
 have O: ∀ (p:Nat) (o:Oper),(cr ops rem)[p]? =some o→ ∃ i,rem[p]? =some i∧ops[i]? =some o:=fun p o h=>by
  rw [gn hc.lt] at h
  cases hp:rem[p]? with
  |none=>simp [hp] at h
  |some i=>exact ⟨i,rfl,by simpa [hp] using h⟩
 have T: ∀ (j:Nat) (o:Oper) (d:Nat),(cr ops rem)[j]? =some o→o.dst=some d→d<E.n:=fun j o d ho hd=>by
  obtain ⟨d',v,V,h2,_⟩:=H j o ho
  rw [V] at hd; cases hd; exact h2
 have hclear: ∀ (t:Nat) (v:Value),L0.lookup t=some v→L.lookup t=some v∧ ∀ (p i:Nat) (o:Oper),rem[p]? =some i→ops[i]? =some o→o.dst≠some t:=fun t v hv=>by
  rw [← hL] at hv
  refine ⟨(kB hv).1,fun p i o hp ho hd=>(kB hv).2 ?_⟩
  rw [← hds]
  exact List.mem_filterMap.2 ⟨i,aI hp,by simp [ho,hd]⟩
 have A6:rem.Nodup:=by
  rw [List.nodup_iff_pairwise_ne,da]
  intro q p hq hp b
  obtain ⟨o,ho⟩: ∃ o,ops[rem[p]]? =some o:=⟨_,Array.getElem?_eq_getElem (hc.lt _ (List.getElem_mem hp))⟩
  obtain ⟨r,hr⟩: ∃ r,ops[rem[q]]? =some r:=⟨_,Array.getElem?_eq_getElem (hc.lt _ (List.getElem_mem hq))⟩
  obtain ⟨d,v,V,_⟩:=H q r (hg q _ r (dr hq) hr)
  exact (fun e=>(hc.apart p q _ _ o r d (dr hp) (dr hq) I ho hr V).1 e.symm)
 -- the frame that a state of the order has
 have key: ∀ (n:Nat) (rem':List Nat) (L':bT),rem'.length=n→rem'.Nodup→(∀ i∈rem',i∈rem)→(∀ i j,i∈rem'→j∈rem→j ∉ rem'→dR (jE ops) i j=false)→
  (∀ t,(∀ (p i:Nat) (o:Oper),rem[p]? =some i→ops[i]? =some o→o.dst≠some t)→L'.lookup t=L.lookup t)→
  (∀ (p i:Nat) (o:Oper) (d:Nat),rem[p]? =some i→ops[i]? =some o→o.dst=some d→i ∉ rem'→L'.lookup d=vs[p]?)→
  TN E ops D C' C1 (fun L C=>KJ E (Q .normal) D L C) tb n rem' L' C:=by
  intro n
  induction n with
  |zero=>
   intro rem' L' hl _ M _ J B
   have z:rem'=[]:=List.length_eq_zero_iff.1 hl
   subst z
   intro a w hf hs
   have W:Fr E.n D L0 a:=⟨hf.defers,hf.size,fun t v hv=>hf.at_ t v (by rw [J t (hclear t v hv).2]; exact (hclear t v hv).1)⟩
   have X:=fA (cr ops rem) vs (cr ops rem).length L0 a T W
   refine hF a w ⟨hf.defers,hf.size,fun t v hv=>?_⟩ hs
   have V:=X.at_ t v hv
   rw [← V]
   by_cases ht: ∀ (p i:Nat) (o:Oper),rem[p]? =some i→ops[i]? =some o→o.dst≠some t
   ·exact (cN _ vs _ a t (fun m u _ hu P=>by obtain ⟨x,F,G⟩:=O m u hu; exact ht m x u F G P)).symm
   ·have: ∃ (p i:Nat) (o:Oper),rem[p]? =some i∧ops[i]? =some o∧o.dst=some t:=by
     refine Classical.byContradiction fun hh=>ht fun p i o hp ho hd=>hh ⟨p,i,o,hp,ho,hd⟩
    obtain ⟨p,i,o,hp,ho,hd⟩:=this
    obtain ⟨d',v',f,e2,g,_⟩:=H p o (hg p i o hp ho)
    rw [hd] at f; cases f
    rw [hf.at_ t v' (by rw [B p i o t hp ho hd sm,g])]
    refine (fy _ vs _ a p o t v' (by rw [BB]; exact (aJ.1 hp).1) (hg p i o hp ho) hd (by rw [hf.size]; exact e2) g (fun m u hm AB hu=>?_)).symm
    obtain ⟨x,F,G⟩:=O m u hu
    exact (hc.apart m p x i u o t F hp (Ne.symm AB) G ho hd).2.1
  |succ n ih=>
   intro rem' L' hl hnd' M A4 J B i hi o ho K hK a w hf hs
   rw [List.mem_filter,bY] at hi
   obtain ⟨Y,AA⟩:=hi
   obtain ⟨p,hp⟩:=List.mem_iff_getElem?.1 (M i Y)
   obtain ⟨d,v,R,l,BE,BC⟩:=H p o (hg p i o hp ho)
   obtain ⟨AC,k⟩:=hc.plain p i o hp ho
   have W:Fr E.n D L0 a:=⟨hf.defers,hf.size,fun t v hv=>hf.at_ t v (by rw [J t (hclear t v hv).2]; exact (hclear t v hv).1)⟩
   have s:=fA (cr ops rem) vs p L0 a T W
   have Z: ∀ t∈o.looksAt ops,a.tmps[t]? =(fD (cr ops rem) vs p a).tmps[t]? :=by
    intro t BD
    by_cases hw: ∃ (q j:Nat) (r:Oper),rem[q]? =some j∧q≠p∧ops[j]? =some r∧r.dst=some t
    ·obtain ⟨q,j,r,hq,AB,hr,A⟩:=hw
     obtain ⟨d',v',f,e2,g,_⟩:=H q r (hg q j r hq hr)
     rw [A] at f; cases f
     have A3:=hc.apart p q i j o r t hp hq AB ho hr A
     rcases A3.2.2 BD with ⟨b,ha⟩|⟨b,ha⟩
     ·have hj:j ∉ rem':=fun hj=>by have:=AA j hj; rw [ha] at this; cases this
      rw [hf.at_ t v' (by rw [B q j r t hq hr A hj,g])]
      refine (fy (cr ops rem) vs p a q r t v' b (hg q j r hq hr) A (by rw [hf.size]; exact e2) g (fun m u hm hne' hu=>?_)).symm
      obtain ⟨x,F,G⟩:=O m u hu
      exact (hc.apart m q x j u r t F hq (Ne.symm hne') G hr A).2.1
     ·refine (cN (cr ops rem) vs p a t (fun m u hm hu P=>?_)).symm
      obtain ⟨x,F,G⟩:=O m u hu
      exact (hc.apart m q x j u r t F hq I G hr A).2.1 P
    ·refine (cN (cr ops rem) vs p a t (fun m u hm hu P=>?_)).symm
     obtain ⟨x,F,G⟩:=O m u hu
     exact hw ⟨m,x,u,F,I,G,P⟩
   have AQ:rem'.filter (· != i)=rem'.erase i:=(hnd'.erase_eq_filter i).symm
   have c:TN E ops D C' C1 (fun L C=>KJ E (Q .normal) D L C) tb n (rem'.filter (· != i)) ((d,v)::L') C:=by
    refine ih _ _ (by rw [AQ,List.length_erase_of_mem Y,hl]; rfl) (hnd'.filter _) (fun j hj=>M j (List.mem_filter.1 hj).1) (fun x y hx hy A8=>?_) (fun t ht=>?_) (fun q j r d' hq hr A hj=>?_)
    ·have hx':=(List.mem_filter.1 hx).1
     by_cases e:y=i
     ·subst e
      have:=AA x hx'
      simpa using this
     ·exact A4 x y hx' hy fun hh=>A8 (List.mem_filter.2 ⟨hh,by simpa using e⟩)
    ·have AB:(t==d)=false:=by simpa using fun e=>ht p i o hp ho (by rw [R,e])
     simp only [List.lookup,AB]
     exact J t ht
    ·by_cases e:q=p
     ·subst e
      rw [hp] at hq; cases hq
      rw [ho] at hr; cases hr
      rw [R] at A; cases A
      simp [List.lookup,BE]
     ·have h9:=hc.apart p q i j o r d' hp hq e ho hr A
      have AB:(d'==d)=false:=by simpa using fun e=>h9.2.1 (by rw [R,e])
      simp only [List.lookup,AB]
      refine B q j r d' hq hr A fun hh=>hj (List.mem_filter.2 ⟨hh,by simpa using fun e=>h9.1 e.symm⟩)
   have A0:tb.contains i=false:=by
    have:=(bY.1 htb) i (M i Y)
    simpa using this
   have A5:=fun w' (hk:bX no w w')=>hK ((d,v)::L') C hC (fun hh=>by rw [A0] at hh; cases hh) c (a.put (some d) v) w' (hf.put l v) (hs.same hk)
   have:=km BC R l AC k s Z (w:=w) hs (N:=K) (Q:=NQ K) A5
   unfold kK
   by_cases hw:Region.wanted o (yielded ops a.tmps)=true
   ·rw [if_pos hw] at this ⊢
    refine gk this (fun a' w' hh=>hh) (fun _ _ _ hF=>hF)
   ·rw [if_neg hw] at this ⊢
    exact this.2
 refine key n rem L hn A6 (fun _ h=>h) (fun i j _ V h2=>absurd V h2) (fun _ _=>rfl) (fun p i o d hp ho hd A7=>absurd (aI hp) A7)
end
section
open Go.RowKit
theorem St.imp {S:BS} {w0 w:World} {C:List ah} {A B:ah} (i:Nat) (h:St S w0 C w) (hC:C[i]? =some A) (hh: ∀ w,A.holds w→B.holds w) (hf: ∀ b,B.cH b→A.cH b) (hw: ∀ b,B.wf b→A.wf b):St S w0 (C.set i B) w:=
 h.mv i hC ⟨hh w (h.holds A (aI hC)),bX.refl _ _,fun b hb=> .inl (hw b hb),fun b hb=> .inl (hf b hb)⟩
theorem wc {E:c_} {K:Act→World→Prop} {D:dH} {L:bT} {C C':List ah} {A B:ah} (i:Nat) (hC:C[i]? =some A) (hh:(∀ w,A.holds w→B.holds w)∧(∀ b,B.cH b→A.cH b)∧ ∀ b,B.wf b→A.wf b) (hC':C.set i B=C') (h:KJ E K D L C'):KJ E K D L C:=fun a w hf hs=>
 h a w hf (hC'▸hs.imp i hC hh.1 hh.2.1 hh.2.2)
structure uS (P:Program) (f:FuncId) (args:List Value) (Cp:List ah) (A:ah) {α:Type} (V:α→Value) (p:α→Prop) (A':α→ah):Prop where
 go:jA P f=true
 run: ∀ w,A.holds w→(∀ B∈Cp,B.holds w)→(∀ B∈Cp,rO A B.ro)→Calls P f args.toArray w fun e w'=> ∃ x,e= .returned (V x)∧p x∧Mv A (A' x) w w'
def vK (w0:World) (A:ah) {α:Type} (V:α→Value) (p:α→Prop) (A':α→ah) (e:Ending) (w':World):Prop:= ∃ x,e= .returned (V x)∧p x∧Mv A (A' x) w0 w'
theorem zl {w0 w:World} {A:ah} {C:List ah} {α:Type} {V:α→Value} {p:α→Prop} {A':α→ah} {v:Value} (x:α) (i:Nat) (hV:v=V x) (hp:p x) (hC:C[i]? =some (A' x)) (hw:(A' x).wr=true) (hs:St ⟨A.wf,fun _=>True⟩ w0 C w):vK w0 A V p A' (.returned v) w:=
 ⟨x,by rw [hV],hp,hs.holds _ (aI hC),hs.keeps,fun b hb=>(hs.own _ (aI hC) b hb).symm,fun b hb=>by
  rcases hs.own _ (aI hC) b ((A' x).whole hw b hb) with h|h
  ·exact .inr h
  ·exact .inl (A.fE b h)⟩
theorem k5 {P:Program} {f:FuncId} {fn:Func} {c:Code} {args:List Value} {Cp:List ah} {A:ah} {α:Type} {V:α→Value} {p:α→Prop} {A':α→ah} (hgo:jA P f=true) (hf:P.funcs[f]? =some fn) (hb:fn.body=some c) (hn:Nat.ble args.length fn.ntmps=true)
 (h: ∀ (w0:World) (Q:bJ),(∀ D L C,LJ ⟨P,none,fn.ntmps,⟨A.wf,fun _=>True⟩,w0⟩ fn (vK w0 A V p A') D L C→KJ ⟨P,none,fn.ntmps,⟨A.wf,fun _=>True⟩,w0⟩ (Q .ret) D L C)→
  (∀ D L C,LJ ⟨P,none,fn.ntmps,⟨A.wf,fun _=>True⟩,w0⟩ fn (vK w0 A V p A') D L C→KJ ⟨P,none,fn.ntmps,⟨A.wf,fun _=>True⟩,w0⟩ (Q .normal) D L C)→
  WJ ⟨P,none,fn.ntmps,⟨A.wf,fun _=>True⟩,w0⟩ c Q [] (xz args) (A::Cp.map ah.ro)):uS P f args Cp A V p A':=by
 refine ⟨hgo,fun w hA F E=>?_⟩
 refine pL hf hb hn (h w) ?_
 have G:=j_ F
 refine ⟨bX.refl _ _,fun B hB=>?_,List.Pairwise.cons (fun B hB=>?_) G.sep,fun B hB b hb=>?_,fun _ _ _ _=> .inr trivial⟩
 ·rcases bE.1 hB with rfl|hB
  ·exact hA
  ·exact G.holds B hB
 ·obtain ⟨B',hB',rfl⟩:=bP.1 hB
  exact E B' hB'
 ·rcases bE.1 hB with rfl|hB
  ·exact .inr hb
  ·obtain ⟨B',hB',rfl⟩:=bP.1 hB
   exact hb.elim
/-- each of Cp is read from something of C that is not its i-th -/
def nW (C:List ah) (i:Nat) (Cp:List ah):Prop:= ∀ B∈Cp,∃ j X,j≠i∧C[j]? =some X∧xp X B
theorem jS {C:List ah} {i:Nat}:nW C i []:=fun B hB=>by cases hB
theorem fO {C Cp:List ah} {i:Nat} {B X:ah} (j:Nat) (hj:Nat.beq j i=false) (hC:C[j]? =some X) (h:xp X B) (t:nW C i Cp):nW C i (B::Cp):=fun B' hB=>by
 rcases bE.1 hB with rfl|hB
 ·exact ⟨j,X,fun e=>by subst e; simp at hj,hC,h⟩
 ·exact t B' hB
section
variable {E:c_} {ops:Array Oper} {Q:bJ} {rest:List Oper} {D:List Deferred} {L:List (Nat×Value)} {C:List ah}
variable {dst:Option Tmp} {d:Nat} {ty:TypeId} {ps:String} {af:Array Edge} {g:Option (Nat×Bool)}
theorem iB {fop:Operand} {xs:Array Operand} {ts:Array TypeId} {f:FuncId} {fi ca:Array Value} {vs args:List Value} {Cp:List ah} {A:ah} {α:Type} {V:α→Value} {p:α→Prop} {A':α→ah} (i:Nat) (hg:e6 ops L g=true) (hf:ev L fop=some (.func (.func f) fi ca))
 (hx:evs L xs.toList=some vs) (ha:fi.toList++vs++ca.toList=args) (c:uS E.P f args Cp A V p A') (hC:C[i]? =some A) (hCp:nW C i Cp) (hd:Nat.blt d E.n=true) (k: ∀ x,p x→RJ E ops Q rest D ((d,V x)::L) (C.set i (A' x))):
 RJ E ops Q (⟨some d,.call {callee:= .value fop,args:=xs,argTypes:=ts},ty,ps,af,g⟩::rest) D L C:=by
 intro a w F hs
 have hd':d<E.n:=by rw [← Nat.blt_eq]; exact hd
 unfold kK
 rw [if_pos (cx F hg)]
 refine ⟨fun _ _=>trivial,?_⟩
 rw [Oper.semAt_eq _ _ _ sm,l1 F c.go hf hx ha]
 have AA:=aI hC
 refine ⟨fun h=>by simp at h,(iS E.r (c.run w (hs.holds A AA) (fun B hB=>?_) (fun B hB b hb hb'=>?_))).mono fun e w' he=>?_⟩
 ·obtain ⟨j,X,_,hX,hc⟩:=hCp B hB
  exact hc.holds w (hs.holds X (aI hX))
 ·obtain ⟨j,X,J,hX,hc⟩:=hCp B hB
  have H:=hc.cH b hb'
  have hj:=(aJ.1 hX).1
  have hi:=(aJ.1 hC).1
  have K:=(aJ.1 hX).2
  have M:=(aJ.1 hC).2
  refine ⟨?_,fun h=>h⟩
  rcases Nat.lt_or_gt_of_ne J with G|G
  ·have:=da.1 hs.sep j i hj hi G
   rw [K,M] at this
   exact (this b H hb).2
  ·have:=da.1 hs.sep i j hi hj G
   rw [K,M] at this
   exact (this b hb H).1
 ·obtain ⟨x,rfl,hp,hm⟩:=he
  exact k x hp _ _ (F.put hd' _) (hs.mv i hC hm)
theorem ov {sz o l:Nat} {vs el:List Value} (hl:vs.length=l) (ho:o+l≤sz): ∀ (es:List (List Value)) (k:Nat),(∀ x∈es,x.length=sz)→es[k]? =some el→
 es.flatten.take (k*sz+o)++vs++es.flatten.drop (k*sz+o+l)=(es.set k (el.take o++vs++el.drop (o+l))).flatten
 |[],k,_,h=>by simp at h
 |x::es,0,hx,h=>by
  simp at h; subst h
  have A:x.length=sz:=hx x sm
  simp only [List.flatten_cons,List.set_cons_zero,Nat.zero_mul,Nat.zero_add]
  rw [List.take_append_of_le_length I,List.drop_append_of_le_length I]
  simp [List.append_assoc]
 |x::es,k+1,hx,h=>by
  have A:x.length=sz:=hx x sm
  have ih:=ov hl ho es k (fun y hy=>hx y (by simp [hy])) (by simpa using h)
  simp only [List.flatten_cons,List.set_cons_succ]
  rw [← ih]
  have B:(k+1)*sz+o=x.length+(k*sz+o):=by rw [A,Nat.succ_mul]; omega
  have C:(k+1)*sz+o+l=x.length+(k*sz+o+l):=by rw [A,Nat.succ_mul]; omega
  rw [B,List.take_length_add_append,show x.length+(k*sz+o)+l=x.length+(k*sz+o+l) by omega,List.drop_length_add_append]
  simp [List.append_assoc]
theorem cw {t n c e sz k o m:Nat} {a:OA} {x y:Operand} {v:Value} {vs el:List Value} {es es':List (List Value)} {C':List ah} (i:Nat) (hg:e6 ops L g=true) (hx:ev L x=some (.pointer (eR a m))) (hy:ev L y=some v) (ht:(tK E.P t).map (·.2)=some n)
 (hv:v.cells.toList=vs) (hn:vs.length=n) (h1:vs.all Value.oneCell'=true) (hC:C[i]? =some (own a c e sz es)) (hk:es[k]? =some el) (hm:m=k*sz+o) (ho:o+n≤sz) (hes:es.set k (el.take o++vs++el.drop (o+n))=es') (hC':C.set i (own a c e sz es')=C') (kk:RJ E ops Q rest D L C'):
 RJ E ops Q (⟨none,.store t x y,ty,ps,af,g⟩::rest) D L C:=by
 subst hm hes hC'
 intro act w A hs
 unfold kK
 rw [if_pos (cx A hg)]
 obtain ⟨hl,Y,AB⟩:=hs.holds _ (aI hC)
 have K:=(aJ.1 hk).1
 rcases AB with ⟨h2,z⟩|⟨gg,cap,cur,G,J,d,V,f,W,j⟩
 ·omega
 ·injection G with G s R
  subst G R
  have q:=bW hl
  have r:k*sz+sz≤es.length*sz:=by rw [← Nat.succ_mul]; exact Nat.mul_le_mul_right _ K
  have l:es.length*sz≤cur.toList.length:=by simp only [Array.length_toList,W]; exact Nat.mul_le_mul_right _ V
  have N:k*sz+o+n≤cur.toList.length:=by omega
  obtain ⟨w',hr,hb',M⟩:=iT (P:=E.P) (t:=e) vs cur.toList (k*sz+o) 0 w (fun v hv=>bY.1 h1 v hv) (by rw [hn]; exact N) (by rw [d])
  have F:(sizeOf t).run E.P w= .ok n w:=by
   obtain ⟨bn,H,rfl⟩:=Option.map_eq_some_iff.1 ht
   obtain ⟨bb,nn⟩:=bn
   cases bb
   ·exact (me H w).2
   ·exact (ig H w).2
  have S:v.cells.size=n:=by rw [← hn,← hv]; simp
  have O:eR (some (⟨gg,0,none⟩:Addr)) (k*sz+o)=some ⟨gg,k*sz+o,none⟩:=by
   simp only [eR,Option.map_some,eL,Nat.zero_add]
  refine l0 sm (w':=w') ?_ ?_
  ·simp [execOp,A.ev hx,A.ev hy,O,Instr.storeAt,Instr.sureAddr,storeVar,F,S,hv,hr]
  ·refine kk _ _ ⟨A.defers,A.size,A.at_⟩ ?_
   have p:el.length=sz:=hl el (aI hk)
   have B: ∀ y∈es.set k (el.take o++vs++el.drop (o+n)),y.length=sz:=by
    intro y hy'
    rcases List.mem_or_eq_of_mem_set hy' with h|rfl
    ·exact hl y h
    ·simp; omega
   have X:cur.toList.length=c*sz:=by simpa using W
   refine hs.qm (b:=gg) i hC ⟨_,rfl,rfl⟩ rfl M (fun y ⟨ad,T,AA⟩=>by cases T; exact AA) ⟨B,?_⟩
   rw [List.length_set]
   refine ⟨by rw [bW B,List.length_set],.inr ⟨gg,c,_,U,Nat.zero_le _,hb',V,f,?_,?_⟩⟩
   ·simp only [List.size_toArray,List.length_append,List.length_take,List.length_drop,Nat.add_zero]
    omega
   ·rw [Nat.add_zero,hn]
    have Z:=ov hn ho es k hl hk
    rw [← Z,← j]
    have u:k*sz+o≤es.length*sz:=by omega
    show ((cur.toList.take (k*sz+o)++vs)++cur.toList.drop (k*sz+o+n)).take (es.length*sz)=_
    have hA:(cur.toList.take (k*sz+o)++vs).length=k*sz+o+n:=by simp only [List.length_append,List.length_take]; omega
    rw [List.take_append,List.take_of_length_le I,hA,List.take_take,Nat.min_eq_left u,List.drop_take]
end
end
section
open Go.RowKit
theorem uR {l:List MapEntry} (h:(l.map (·.born)).Nodup) {x y:MapEntry} (hx:x∈l) (hy:y∈l) (e:x.born=y.born):x=y:=by
 obtain ⟨i,hi⟩:=List.getElem?_of_mem hx
 obtain ⟨j,hj⟩:=List.getElem?_of_mem hy
 have A:(l.map (·.born))[i]? =some x.born:=by rw [eT,hi]; rfl
 have B:(l.map (·.born))[j]? =some x.born:=by rw [eT,hj,e]; rfl
 have C:=(List.getElem?_inj (aJ.1 A).1 h).1 (A.trans B.symm)
 subst C
 exact Option.some.inj (hi.symm.trans hj)
section
variable {E:c_} {ops:Array Oper} {Q:bJ} {rest:List Oper} {D:List Deferred} {L:List (Nat×Value)} {C:List ah}
variable {dst:Option Tmp} {d:Nat} {ty:TypeId} {ps:String} {af:Array Edge} {g:Option (Nat×Bool)}
end
end
section
open Go.RowKit
theorem oe {n:Int} (h:0≤n∧n≤18446744073709551615):IntKind.u64.wrap n=n:=by
 have e:IntKind.u64.wrap n=n % 18446744073709551616:=by simp [IntKind.wrap,IntKind.bits,IntKind.signed]
 rw [e]; omega
theorem o5 {n:Int} (h:0≤n∧n≤255):IntKind.u8.wrap n=n:=by
 have e:IntKind.u8.wrap n=n % 256:=by simp [IntKind.wrap,IntKind.bits,IntKind.signed]
 rw [e]; omega
section
variable {E:c_} {ops:Array Oper} {Q:bJ} {rest:List Oper} {D:List Deferred} {L:List (Nat×Value)} {C:List ah}
variable {d:Nat} {ty:TypeId} {ps:String} {af:Array Edge} {g:Option (Nat×Bool)}
/-- a byte of a string -/
theorem wW {t:TypeId} {x ix:Operand} {s:ByteArray} {q:IntKind} {j:Int} {k:Nat} (hg:e6 ops L g=true) (hx:ev L x=some (.string s)) (hi:ev L ix=some (.int q j)) (ht:E.P.underlying t=some .string) (hj:j=(k:Int)) (hk:k<s.size) (hd:Nat.blt d E.n=true)
 (kk: ∀ b:Int,0≤b∧b≤255→RJ E ops Q rest D ((d,.int .u8 b)::L) C):RJ E ops Q (⟨some d,.index t x ix,ty,ps,af,g⟩::rest) D L C:=by
 subst hj
 intro a w A hs
 have hd':d<E.n:=by rw [← Nat.blt_eq]; exact hd
 unfold kK
 rw [if_pos (cx A hg)]
 have hb:s[k]? =some s[k]:=getElem?_pos s k hk
 refine eb (v:= .int .u8 (s[k].toNat:Int)) (w':=w) sm ?_ ?_
 ·simp [execOp,A.ev hx,A.ev hi,Instr.index,asIntOf,run_underlying ht,hb]
 ·refine kk _ ⟨I,?_⟩ _ _ (A.put hd' _) hs
  have:=s[k].toNat_lt
  omega
end
def wV (m:List Int) (i:Nat):Prop:= ∀ p r,p<r→r<i→r<m.length→m.getD p 0≤m.getD r 0
/-- sorted up to i, but for the one at j, which is not above those behind it -/
def xE (m:List Int) (i j:Nat):Prop:=(∀ p r,p<r→r≤i→p≠j→r≠j→m.getD p 0≤m.getD r 0)∧ ∀ r,j<r→r≤i→m.getD j 0≤m.getD r 0
theorem r_ {m:List Int} {i:Nat} (h:wV m i) (hi:i<m.length):xE m i i:=⟨fun p r A B hp hr=>h p r A I I,fun r C D=>by omega⟩
theorem lT {m:List Int} {j:Nat} {x:Int} (h:m[j]? =some x):m.getD j 0=x:=by simp [List.getD,h]
theorem jz {m:List Int} {j:Nat} {x y:Int} (hx:m[j]? =some x) (hy:m[j-1]? =some y) (hj:0<j) (p:Nat):
 ((m.set j y).set (j-1) x).getD p 0=if p=j-1 then x else if p=j then y else m.getD p 0:=by
 have C:=(aJ.1 hx).1
 have D:=(aJ.1 hy).1
 simp only [List.getD,List.getElem?_set,List.length_set]
 by_cases A:j-1=p
 ·subst A; simp [D]
 ·have e1': ¬ p=j-1:=fun e=>A e.symm
  rw [if_neg A,if_neg e1']
  by_cases B:j=p
  ·subst B; simp [C]
  ·have e2': ¬ p=j:=fun e=>B e.symm
   rw [if_neg B,if_neg e2']
theorem uz {m:List Int} {i j:Nat} {x y:Int} (hx:m[j]? =some x) (hy:m[j-1]? =some y) (hj:0<j) (hji:j≤i) (h:x<y) (hI:xE m i j):xE ((m.set j y).set (j-1) x) i (j-1):=by
 have gx:=lT hx
 have gy:=lT hy
 refine ⟨fun p r D A hp hr=>?_,fun r F E=>?_⟩
 ·rw [jz hx hy hj,jz hx hy hj,if_neg hp,if_neg hr]
  by_cases B:p=j
  ·rw [if_pos B,if_neg I,← gy]
   exact hI.1 (j-1) r I A I I
  ·rw [if_neg B]
   by_cases C:r=j
   ·rw [if_pos C,← gy]; exact hI.1 p (j-1) I I B I
   ·rw [if_neg C]; exact hI.1 p r D A B C
 ·rw [jz hx hy hj,jz hx hy hj,if_pos rfl,if_neg I]
  by_cases e:r=j
  ·rw [if_pos e]; omega
  ·rw [if_neg e,← gx]; exact hI.2 r I E
theorem ur {m:List Int} {i j:Nat} (hj: ¬ 0<j) (hI:xE m i j):wV m (i+1):=fun p r A C _=>by
 by_cases B:p=j
 ·subst B; exact hI.2 r A I
 ·exact hI.1 p r A I B I
theorem ui {m:List Int} {i j:Nat} {x y:Int} (hx:m[j]? =some x) (hy:m[j-1]? =some y) (hj:0<j) (hji:j≤i) (h: ¬ x<y) (hI:xE m i j):wV m (i+1):=fun p r A E hl=>by
 have gx:=lT hx
 have gy:=lT hy
 by_cases B:p=j
 ·subst B; exact hI.2 r A I
 ·by_cases C:r=j
  ·subst C
   rw [gx]
   by_cases D:p=r-1
   ·subst D; rw [gy]; omega
   ·have:=hI.1 p (r-1) I I B I
    rw [gy] at this; omega
  ·exact hI.1 p r A I B C
theorem sS {m:List Int} {j:Nat} {x y:Int} (hx:m[j]? =some x) (hy:m[j-1]? =some y):((m.set j y).set (j-1) x).Perm m:=by
 obtain ⟨A,rfl⟩:=aJ.1 hx
 obtain ⟨B,rfl⟩:=aJ.1 hy
 exact List.set_set_perm A B
theorem vn {m:List Int}:wV m 1:=fun p r A B=>by omega
theorem u6 {m:List Int} {i:Nat} (h:wV m i) (hi:m.length≤i):m.Pairwise (· ≤ ·):=by
 rw [da]
 intro p r hp hr A
 have:=h p r A I hr
 simpa [List.getD,hp,hr] using this
end
section
theorem ir {E:c_} {code:Code} {Q:bJ} {D:dH} {L:bT} {C:List ah} {a:OA} {c t sz:Nat} {es:List (List Value)} (i:Nat) (hi:C[i]? =some (own a c t sz es)) (hn:0<es.length*sz)
 (h: ∀ ad,a=some ad→WJ E code Q D L C):WJ E code Q D L C:=fun act w hf hs=>by
 obtain ⟨ad,hA,_⟩:=(hs.has (qP i hi)).2.2 hn
 exact h ad hA act w hf hs
section
variable {E:c_} {ops:Array Oper} {D:List Deferred} {L:List (Nat×Value)} {C:List ah} {dst:Option Tmp} {ty:TypeId} {ps:String} {af:Array Edge} {g:Option (Nat×Bool)}
theorem uk {x:Operand} {A:OA} {ad:Addr} {k0 s f k k':Nat} (hg:e6 ops L g=true) (hx:ev L x=some (.pointer (eR A k0))) (hA:A=some ad)
 (hf:lO E.P s f=some k) (ho:k0+k=k'):SD E ops ⟨dst,.fieldAddr s x f,ty,ps,af,g⟩ D L C (.pointer (eR A k')):=
 cn hg sm fun a w B hs=>by
  subst hA
  simp [execOp,B.ev hx,eR,iY hf,iJ,ho]
theorem gl {x:Operand} {A:OA} {ad:Addr} {k0:Nat} (hg:e6 ops L g=true) (hx:ev L x=some (.pointer (eR A k0))) (hA:A=some ad):
 SD E ops ⟨dst,.nilCheck x,ty,ps,af,g⟩ D L C (.pointer (eR A k0)):=
 cn hg sm fun a w B hs=>by
  subst hA
  simp [execOp,B.ev hx,eR]
theorem cV {x:Operand} {ad:Addr} (hg:e6 ops L g=true) (hx:ev L x=some (.pointer (some ad))):
 SD E ops ⟨dst,.nilCheck x,ty,ps,af,g⟩ D L C (.pointer (some ad)):=
 cn hg sm fun a w A hs=>by simp [execOp,A.ev hx]
end
end
section
open Go.RowKit
/-- an operation that hands v to its slot d -/
structure SE (E:c_) (ops:Array Oper) (o:Oper) (D:dH) (L:bT) (C:List ah) (v:Value) (d:Nat):Prop where
 h:SD E ops o D L C v
 o:o.dst=some d
 n:Nat.blt d E.n=true
theorem rS {E:c_} {ops:Array Oper} {Q:bJ} {o:Oper} {rest:List Oper} {D:dH} {L:bT} {C:List ah} {v:Value} {d:Nat}
 (h:SE E ops o D L C v d) (k:RJ E ops Q rest D ((d,v)::L) C):RJ E ops Q (o::rest) D L C:=yC h.h h.o h.n k
theorem dS {E:c_} {ops:Array Oper} {F:bT→Prop} {o:Oper} {rest:List Oper} {D:dH} {L:bT} {C:List ah} {v:Value} {d:Nat}
 (h:SE E ops o D L C v d) (k:DJ E ops D C F rest ((d,v)::L)):DJ E ops D C F (o::rest) L:=zu h.h h.o h.n k
theorem eS {E:c_} {ops:Array Oper} {D:dH} {C' C1:List ah} {F:bT→Prop} {bs:List Bool} {o:Oper} {l rest:List Oper} {L:bT} {v:Value} {d:Nat}
 (hl:l=o::rest) (h:SE E ops o D L C' v d) (k:iP E ops D C' C1 F bs rest ((d,v)::L)):iP E ops D C' C1 F (false::bs) l L:=zh h.h hl h.o h.n k
theorem fS {E:c_} {ops:Array Oper} {D:dH} {C' C1:List ah} {F:bT→Prop} {bs:List Bool} {o:Oper} {l rest:List Oper} {L:bT} {v:Value} {d:Nat}
 (hl:l=o::rest) (h:SE E ops o D L C1 v d) (k:iP E ops D C' C1 F bs rest ((d,v)::L)):iP E ops D C' C1 F (true::bs) l L:=yh h.h hl h.o h.n k
def gB (n:Nat) (ops:Array Oper) (L:bT) (d:Nat) (g:Option (Nat×Bool)):Bool:=e6 ops L g&&Nat.blt d n
theorem wH {n:Nat} {ops:Array Oper} {L:bT} {d:Nat} {g:Option (Nat×Bool)} (h:gB n ops L d g=true):e6 ops L g=true:=by
 unfold gB at h; rw [bU] at h; exact h.1
theorem wk {n:Nat} {ops:Array Oper} {L:bT} {d:Nat} {g:Option (Nat×Bool)} (h:gB n ops L d g=true):Nat.blt d n=true:=by
 unfold gB at h; rw [bU] at h; exact h.2
def vF (n:Nat) (ops:Array Oper) (L:bT) (d:Nat) (g:Option (Nat×Bool)) (x:Operand):Option Value:=match gB n ops L d g with
 |true=>ev L x
 |false=>none
def bF (n:Nat) (ops:Array Oper) (L:bT) (d:Nat) (g:Option (Nat×Bool)) (x y:Operand):Option (Value×Value):=match gB n ops L d g with
 |true=>match ev L x,ev L y with
  |some u,some v=>some (u,v)
  |_,_=>none
 |false=>none
def pF (n:Nat) (ops:Array Oper) (L:bT) (d:Nat) (g:Option (Nat×Bool)) (c x y:Operand):Option Value:=match gB n ops L d g with
 |true=>match ev L c with
  |some (.bool true)=>ev L x
  |some (.bool false)=>ev L y
  |_=>none
 |false=>none
def xF (n:Nat) (ops:Array Oper) (L:bT) (d:Nat) (g:Option (Nat×Bool)) (x:Operand) (i:Nat):Option Value:=match vF n ops L d g x with
 |some (.tuple vs)=>vs.toList[i]?
 |_=>none
def uF (n:Nat) (ops:Array Oper) (L:bT) (d:Nat) (g:Option (Nat×Bool)) (xs ys:List Operand):Option (List Value×List Value):=match gB n ops L d g with
 |true=>match evs L xs,evs L ys with
  |some u,some v=>some (u,v)
  |_,_=>none
 |false=>none
def cF (n:Nat) (ops:Array Oper) (L:bT) (d:Nat) (g:Option (Nat×Bool)) (fop:Operand) (xs:List Operand):Option (FuncId×List Value):=match gB n ops L d g with
 |true=>match ev L fop,evs L xs with
  |some (.func (.func f) fi ca),some vs=>some (f,fi.toList++vs++ca.toList)
  |_,_=>none
 |false=>none
theorem eg {n:Nat} {ops:Array Oper} {L:bT} {d:Nat} {g:Option (Nat×Bool)} {x:Operand} {v:Value} (h:vF n ops L d g x=some v):e6 ops L g=true∧Nat.blt d n=true∧ev L x=some v:=by
 unfold vF at h
 split at h
 ·rename_i hb; exact ⟨wH hb,wk hb,h⟩
 ·cases h
theorem j2 {n:Nat} {ops:Array Oper} {L:bT} {d:Nat} {g:Option (Nat×Bool)} {x y:Operand} {u v:Value} (h:bF n ops L d g x y=some (u,v)):e6 ops L g=true∧Nat.blt d n=true∧ev L x=some u∧ev L y=some v:=by
 unfold bF at h
 split at h
 ·rename_i hb
  split at h
  ·rename_i hx hy; cases h; exact ⟨wH hb,wk hb,hx,hy⟩
  ·cases h
 ·cases h
theorem xq {n:Nat} {ops:Array Oper} {L:bT} {d:Nat} {g:Option (Nat×Bool)} {x y:List Operand} {u v:List Value} (h:uF n ops L d g x y=some (u,v)):e6 ops L g=true∧Nat.blt d n=true∧evs L x=some u∧evs L y=some v:=by
 unfold uF at h
 split at h
 ·rename_i hb
  split at h
  ·rename_i hx hy; cases h; exact ⟨wH hb,wk hb,hx,hy⟩
  ·cases h
 ·cases h
section
variable {E:c_} {ops:Array Oper} {Q:bJ} {rest:List Oper} {D:List Deferred} {L:List (Nat×Value)} {C:List ah}
variable {d:Nat} {ty:TypeId} {ps:String} {af:Array Edge} {g:Option (Nat×Bool)}
theorem SX {o:Oper} {v:Value} (h:SD E ops o D L C v) (ho:o.dst=some d) (hd:Nat.blt d E.n=true):SE E ops o D L C v d:=⟨h,ho,hd⟩
theorem MV {x:Operand} {v:Value} (h:vF E.n ops L d g x=some v):SE E ops ⟨some d,.move x,ty,ps,af,g⟩ D L C v d:=by
 obtain ⟨A,B,F⟩:=eg h; exact ⟨qN A F,rfl,B⟩
theorem AG {x:Operand} {v:Value} (h:vF E.n ops L d g x=some v):SE E ops ⟨some d,.assign x,ty,ps,af,g⟩ D L C v d:=by
 obtain ⟨A,B,F⟩:=eg h; exact ⟨nt A F,rfl,B⟩
theorem OX {op:Op} (h:(pG ops L g&&Nat.blt d E.n)=true):SE E ops ⟨some d,op,ty,ps,af,g⟩ D L C undef d:=by
 rw [bU] at h; exact ⟨s_ h.1,rfl,h.2⟩
theorem NG {xt:TypeId} {x:Operand} {n:Int} (h:vF E.n ops L d g x=some (.int .i64 n)) (hb:n8 (-n)):SE E ops ⟨some d,.unOp .neg xt x,ty,ps,af,g⟩ D L C (.int .i64 (-n)) d:=by
 obtain ⟨A,B,F⟩:=eg h; exact ⟨x4 A F hb,rfl,B⟩
theorem PK {c x y:Operand} {v:Value} (h:pF E.n ops L d g c x y=some v):SE E ops ⟨some d,.pick c x y,ty,ps,af,g⟩ D L C v d:=by
 unfold pF at h
 split at h
 ·rename_i hb
  split at h
  ·rename_i hc; exact ⟨nu (wH hb) hc h,rfl,wk hb⟩
  ·rename_i hc; exact ⟨nq (wH hb) hc h,rfl,wk hb⟩
  ·cases h
 ·cases h
theorem EX {x:Operand} {i:Nat} {v:Value} (h:xF E.n ops L d g x i=some v):SE E ops ⟨some d,.extract x i,ty,ps,af,g⟩ D L C v d:=by
 unfold xF at h
 split at h
 ·rename_i vs hv
  obtain ⟨A,B,F⟩:=eg hv
  exact ⟨mG (vs:=vs.toList) A (by simpa using F) h,U,B⟩
 ·cases h
theorem LN {x:Operand} {t e:TypeId} {A:OA} {n c:Nat} (h:vF E.n ops L d g x=some (.slice A n c)) (ht:E.P.underlying t=some (.slice e)):
 SE E ops ⟨some d,.call {callee:= .builtin .len,args:= #[x],argTypes:= #[t]},ty,ps,af,g⟩ D L C (.int .i64 n) d:=by
 obtain ⟨B,F,G⟩:=eg h; exact ⟨tI B G ht,rfl,F⟩
theorem BI {op:BinOp} {xt yt:TypeId} {x y:Operand} {u v r:Value} (h:bF E.n ops L d g x y=some (u,v)) (hb:dW E.P op xt x y u v r):SE E ops ⟨some d,.binOp op xt x y yt,ty,ps,af,g⟩ D L C r d:=by
 obtain ⟨A,B,F,G⟩:=j2 h; exact ⟨cj A F G hb,rfl,B⟩
theorem MN {x y:Operand} {ts:Array TypeId} {a b:Int} {k:IntKind} (h:bF E.n ops L d g x y=some (.int k a,.int k b)):
 SE E ops ⟨some d,.call {callee:= .builtin .min,args:= #[x,y],argTypes:=ts},ty,ps,af,g⟩ D L C (.int k (min a b)) d:=by
 obtain ⟨A,B,F,G⟩:=j2 h; exact ⟨x8 A F G,rfl,B⟩
theorem MX {x y:Operand} {ts:Array TypeId} {a b:Int} {k:IntKind} (h:bF E.n ops L d g x y=some (.int k a,.int k b)):
 SE E ops ⟨some d,.call {callee:= .builtin .max,args:= #[x,y],argTypes:=ts},ty,ps,af,g⟩ D L C (.int k (max a b)) d:=by
 obtain ⟨A,B,F,G⟩:=j2 h; exact ⟨xK A F G,rfl,B⟩
theorem FA (o':Nat) {x:Operand} {b o s f k:Nat} (h:vF E.n ops L d g x=some (.pointer (some ⟨b,o,none⟩))) (hf:lO E.P s f=some k) (ho:o+k=o'):
 SE E ops ⟨some d,.fieldAddr s x f,ty,ps,af,g⟩ D L C (.pointer (some ⟨b,o',none⟩)) d:=by
 obtain ⟨A,B,F⟩:=eg h; exact ⟨wu A F hf ho,rfl,B⟩
theorem pB (k':Nat) {x:Operand} {A:OA} {n sz:Nat} {es:List (List Value)} {k0 s f k:Nat} (h:vF E.n ops L d g x=some (.pointer (eR A k0))) (hR:j3 C (rd A n sz es).holds) (hn:0<n*sz)
 (hf:lO E.P s f=some k) (ho:k0+k=k'):SE E ops ⟨some d,.fieldAddr s x f,ty,ps,af,g⟩ D L C (.pointer (eR A k')) d:=by
 obtain ⟨B,F,G⟩:=eg h; exact ⟨uA B G hR hn hf ho,rfl,F⟩
theorem Bd (k':Nat) {x:Operand} {A:OA} {ad:Addr} {k0 s f k:Nat} (h:vF E.n ops L d g x=some (.pointer (eR A k0))) (hA:A=some ad)
 (hf:lO E.P s f=some k) (ho:k0+k=k'):SE E ops ⟨some d,.fieldAddr s x f,ty,ps,af,g⟩ D L C (.pointer (eR A k')) d:=by
 obtain ⟨B,F,G⟩:=eg h; exact ⟨uk B G hA hf ho,rfl,F⟩
theorem IA (k:Nat) {x ix:Operand} {A:OA} {n c sz e t:Nat} {es:List (List Value)} {j:Int} (h:bF E.n ops L d g x ix=some (.slice A n c,.int .i64 j)) (hR:j3 C (rd A n sz es).holds)
 (ht:tE E.P t=some (e,sz)) (hz:0<sz) (hj:j=(k:Int)) (hk:k<n):SE E ops ⟨some d,.indexAddr t x ix,ty,ps,af,g⟩ D L C (.pointer (eR A (k*sz))) d:=by
 obtain ⟨B,F,G,H⟩:=j2 h; exact ⟨yF B G H hR ht hz hj hk,rfl,F⟩
/-- the whole of a block, a part of it, one cell -/
theorem LW (i:Nat) {x:Operand} {b t tt n:Nat} {cs:List Value} (h:vF E.n ops L d g x=some (.pointer (some ⟨b,0,none⟩))) (ht:tK E.P t=some (true,n)) (hC:C[i]? =some (cv b tt cs)) (hn:cs.length=n):
 SE E ops ⟨some d,.load t x,ty,ps,af,g⟩ D L C (.agg cs.toArray) d:=by
 obtain ⟨A,B,F⟩:=eg h; exact ⟨k8 A F ht (kO i hC sm) hn,rfl,B⟩
theorem Bf (i:Nat) {x:Operand} {b t tt n:Nat} {cs:List Value} (h:vF E.n ops L d g x=some (.pointer (some ⟨b,0,none⟩))) (ht:tK E.P t=some (true,n)) (hC:C[i]? =some (cv b tt cs).ro) (hn:cs.length=n):
 SE E ops ⟨some d,.load t x,ty,ps,af,g⟩ D L C (.agg cs.toArray) d:=by
 obtain ⟨A,B,F⟩:=eg h; exact ⟨k8 A F ht (kp i hC sm) hn,rfl,B⟩
theorem LP (vs:List Value) (i:Nat) {x:Operand} {b o t tt n:Nat} {cs:List Value} (h:vF E.n ops L d g x=some (.pointer (some ⟨b,o,none⟩))) (ht:tK E.P t=some (true,n)) (hC:C[i]? =some (cv b tt cs)) (hv:(cs.drop o).take vs.length=vs) (hn:vs.length=n):
 SE E ops ⟨some d,.load t x,ty,ps,af,g⟩ D L C (.agg vs.toArray) d:=by
 obtain ⟨A,B,F⟩:=eg h; exact ⟨k8 A F ht (kO i hC hv) hn,rfl,B⟩
theorem zB (vs:List Value) (i:Nat) {x:Operand} {b o t tt n:Nat} {cs:List Value} (h:vF E.n ops L d g x=some (.pointer (some ⟨b,o,none⟩))) (ht:tK E.P t=some (true,n)) (hC:C[i]? =some (cv b tt cs).ro) (hv:(cs.drop o).take vs.length=vs) (hn:vs.length=n):
 SE E ops ⟨some d,.load t x,ty,ps,af,g⟩ D L C (.agg vs.toArray) d:=by
 obtain ⟨A,B,F⟩:=eg h; exact ⟨k8 A F ht (kp i hC hv) hn,rfl,B⟩
theorem L1 (v:Value) (i:Nat) {x:Operand} {b o t tt n:Nat} {cs:List Value} (h:vF E.n ops L d g x=some (.pointer (some ⟨b,o,none⟩))) (ht:tK E.P t=some (false,n)) (hC:C[i]? =some (cv b tt cs)) (hv:(cs.drop o).take 1=[v]):
 SE E ops ⟨some d,.load t x,ty,ps,af,g⟩ D L C v d:=by
 obtain ⟨A,B,F⟩:=eg h; exact ⟨mC A F ht (kO i hC hv),rfl,B⟩
theorem yr (v:Value) (i:Nat) {x:Operand} {b o t tt n:Nat} {cs:List Value} (h:vF E.n ops L d g x=some (.pointer (some ⟨b,o,none⟩))) (ht:tK E.P t=some (false,n)) (hC:C[i]? =some (cv b tt cs).ro) (hv:(cs.drop o).take 1=[v]):
 SE E ops ⟨some d,.load t x,ty,ps,af,g⟩ D L C v d:=by
 obtain ⟨A,B,F⟩:=eg h; exact ⟨mC A F ht (kp i hC hv),rfl,B⟩
theorem zF (i:Nat) {x:Operand} {b t tt n:Nat} {v:Value} (h:vF E.n ops L d g x=some (.pointer (some ⟨b,0,none⟩))) (ht:tK E.P t=some (false,n)) (hC:C[i]? =some (cv b tt [v]).ro):
 SE E ops ⟨some d,.load t x,ty,ps,af,g⟩ D L C v d:=by
 obtain ⟨A,B,F⟩:=eg h; exact ⟨mC A F ht (kp i hC rfl),rfl,B⟩
/-- what is read of a row -/
theorem g5 (k o:Nat) (v:Value) {x:Operand} {A:OA} {t m n sz:Nat} {es:List (List Value)} {e:List Value} (h:vF E.n ops L d g x=some (.pointer (eR A m))) {nn:Nat} (ht:tK E.P t=some (false,nn)) (hR:j3 C (rd A n sz es).holds) (he:es[k]? =some e) (hm:m=k*sz+o) (hz:0<sz) (hv:(e.drop o).take 1=[v]):
 SE E ops ⟨some d,.load t x,ty,ps,af,g⟩ D L C v d:=by
 obtain ⟨B,F,G⟩:=eg h; exact ⟨mC B G ht (wg hR he hm hz hv),rfl,F⟩
theorem mY (k o:Nat) (vs:List Value) {x:Operand} {A:OA} {t m n sz:Nat} {es:List (List Value)} {e:List Value} (h:vF E.n ops L d g x=some (.pointer (eR A m))) {nn:Nat} (ht:tK E.P t=some (true,nn)) (hR:j3 C (rd A n sz es).holds) (he:es[k]? =some e) (hm:m=k*sz+o) (hz:0<sz) (hv:(e.drop o).take vs.length=vs) (hn:vs.length=nn):
 SE E ops ⟨some d,.load t x,ty,ps,af,g⟩ D L C (.agg vs.toArray) d:=by
 obtain ⟨B,F,G⟩:=eg h; exact ⟨k8 B G ht (wg hR he hm hz hv) hn,rfl,F⟩
theorem CL {fop:Operand} {xs:Array Operand} {ts:Array TypeId} {f:FuncId} {args:List Value} {Cp:List ah} {v:Value} (c:dx E.P f args Cp v) (hC:eP C Cp) (h:cF E.n ops L d g fop xs.toList=some (f,args)):
 SE E ops ⟨some d,.call {callee:= .value fop,args:=xs,argTypes:=ts},ty,ps,af,g⟩ D L C v d:=by
 unfold cF at h
 split at h
 ·rename_i hb
  split at h
  ·rename_i hf hx; cases h; exact ⟨rJ (wH hb) hf hx rfl c hC,rfl,wk hb⟩
  ·cases h
 ·cases h
theorem FU {fn:Fn} {xs ys:Array Operand} {us vs:List Value} (h:uF E.n ops L d g xs.toList ys.toList=some (us,vs)):SE E ops ⟨some d,.makeFunc fn xs ys,ty,ps,af,g⟩ D L C (.func fn us.toArray vs.toArray) d:=by
 obtain ⟨A,B,F,G⟩:=xq h; exact ⟨uW A F G,rfl,B⟩
theorem cX {fop:Operand} {xs:Array Operand} {ts:Array TypeId} {f:FuncId} {args:List Value} {Cp:List ah} {α:Type} {V:α→Value} {p:α→Prop} {N:α→List ah} (c:jH E.P f args Cp V p N) (hC:eP C Cp)
 (h:cF E.n ops L d g fop xs.toList=some (f,args)) (k: ∀ x,p x→RJ E ops Q rest D ((d,V x)::L) (N x++C)):
 RJ E ops Q (⟨some d,.call {callee:= .value fop,args:=xs,argTypes:=ts},ty,ps,af,g⟩::rest) D L C:=by
 unfold cF at h
 split at h
 ·rename_i hb
  split at h
  ·rename_i hf hx; cases h; exact wR (wH hb) hf hx rfl c hC (wk hb) k
  ·cases h
 ·cases h
/-- a box of a struct, of one cell -/
theorem fN {t:TypeId} {x:Operand} {cs:List Value} (h:vF E.n ops L d g x=some (.agg cs.toArray)) (k: ∀ b,RJ E ops Q rest D ((d,.pointer (some ⟨b,0,none⟩))::L) (cv b t cs::C)):
 RJ E ops Q (⟨some d,.box t x,ty,ps,af,g⟩::rest) D L C:=by
 obtain ⟨A,B,F⟩:=eg h; exact wC A F rfl B k
theorem sT {t:TypeId} {x:Operand} {v:Value} (h:vF E.n ops L d g x=some v) (hv:v.cells.toList=[v]) (k: ∀ b,RJ E ops Q rest D ((d,.pointer (some ⟨b,0,none⟩))::L) (cv b t [v]::C)):
 RJ E ops Q (⟨some d,.box t x,ty,ps,af,g⟩::rest) D L C:=by
 obtain ⟨A,B,F⟩:=eg h; exact wC A F hv B k
theorem AL {t:TypeId} {cs:List Value} (h:gB E.n ops L d g=true) (hz:tZ E.P t=some cs) (k: ∀ b,RJ E ops Q rest D ((d,.pointer (some ⟨b,0,none⟩))::L) (cv b t cs::C)):
 RJ E ops Q (⟨some d,.alloc t,ty,ps,af,g⟩::rest) D L C:=rh (wH h) hz (wk h) k
/-- a store into the block at the place i of the state -/
def sF (ops:Array Oper) (L:bT) (g:Option (Nat×Bool)) (x y:Operand):Option (Value×Value):=match e6 ops L g with
 |true=>match ev L x,ev L y with
  |some u,some v=>some (u,v)
  |_,_=>none
 |false=>none
theorem pJ {ops:Array Oper} {L:bT} {g:Option (Nat×Bool)} {x y:Operand} {u v:Value} (h:sF ops L g x y=some (u,v)):e6 ops L g=true∧ev L x=some u∧ev L y=some v:=by
 unfold sF at h
 split at h
 ·rename_i hb
  split at h
  ·rename_i hx hy; cases h; exact ⟨hb,hx,hy⟩
  ·cases h
 ·cases h
theorem yq {t n b o tt:Nat} {x y:Operand} {v:Value} {cs cs':List Value} {C':List ah} (i:Nat) (h:sF ops L g x y=some (.pointer (some ⟨b,o,none⟩),v)) (ht:(tK E.P t).map (·.2)=some n) (hC:C[i]? =some (cv b tt cs))
 (hk:(v.cells.toList.length==n&&v.cells.toList.all Value.oneCell'&&Nat.ble (o+n) cs.length)=true) (hcs:cs.take o++v.cells.toList++cs.drop (o+n)=cs') (hC':C.set i (cv b tt cs')=C') (k:RJ E ops Q rest D L C'):
 RJ E ops Q (⟨none,.store t x y,ty,ps,af,g⟩::rest) D L C:=by
 obtain ⟨A,B,F⟩:=pJ h
 simp only [bU,beq_iff_eq] at hk
 exact nQ i A B F ht U hk.1.1 hk.1.2 hC hk.2 hcs hC' k
/-- a store of a whole block, by a struct, by one cell -/
theorem xC {t n b tt:Nat} {x y:Operand} {cs cs':List Value} {C':List ah} (i:Nat) (h:sF ops L g x y=some (.pointer (some ⟨b,0,none⟩),.agg cs'.toArray)) (ht:(tK E.P t).map (·.2)=some n) (hC:C[i]? =some (cv b tt cs))
 (hk:(Nat.beq cs'.length n&&cs'.all Value.oneCell'&&Nat.beq n cs.length)=true) (hC':C.set i (cv b tt cs')=C') (k:RJ E ops Q rest D L C'):
 RJ E ops Q (⟨none,.store t x y,ty,ps,af,g⟩::rest) D L C:=by
 obtain ⟨AA,J,K⟩:=pJ h
 simp only [bU] at hk
 obtain ⟨⟨A,B⟩,F⟩:=hk
 have H:=Nat.eq_of_beq_eq_true A
 have G:=Nat.eq_of_beq_eq_true F
 exact nQ i AA J K ht U H B hC (by rw [Nat.zero_add,G]; exact Nat.ble_self_eq_true _) (by rw [Nat.zero_add,G,List.take_zero,List.drop_length]; show []++cs'++[]=cs'; simp) hC' k
theorem Aq {t n b tt:Nat} {x y:Operand} {v u:Value} {C':List ah} (i:Nat) (h:sF ops L g x y=some (.pointer (some ⟨b,0,none⟩),v)) (ht:(tK E.P t).map (·.2)=some n) (hC:C[i]? =some (cv b tt [u]))
 (hv:v.cells.toList=[v]) (hk:(Nat.beq n 1&&v.oneCell')=true) (hC':C.set i (cv b tt [v])=C') (k:RJ E ops Q rest D L C'):
 RJ E ops Q (⟨none,.store t x y,ty,ps,af,g⟩::rest) D L C:=by
 obtain ⟨G,H,AA⟩:=pJ h
 rw [bU] at hk
 obtain ⟨A,B⟩:=hk
 have F:=Nat.eq_of_beq_eq_true A
 subst F
 exact nQ i G H AA ht hv U (by simp [B]) hC U U hC' k
theorem gG {t n b tt:Nat} {x y:Operand} {cs cs':List Value} (h:sF ops L g x y=some (.pointer (some ⟨b,0,none⟩),.agg cs'.toArray)) (ht:(tK E.P t).map (·.2)=some n) (hk:(Nat.beq cs'.length n&&cs'.all Value.oneCell'&&Nat.beq n cs.length)=true) (k:RJ E ops Q rest D L (cv b tt cs'::C)):RJ E ops Q (⟨none,.store t x y,ty,ps,af,g⟩::rest) D L (cv b tt cs::C):=xC 0 h ht rfl hk rfl k
theorem z3 {t n b tt:Nat} {x y:Operand} {v u:Value} (h:sF ops L g x y=some (.pointer (some ⟨b,0,none⟩),v)) (ht:(tK E.P t).map (·.2)=some n) (hv:v.cells.toList=[v]) (hk:(Nat.beq n 1&&v.oneCell')=true) (k:RJ E ops Q rest D L (cv b tt [v]::C)):RJ E ops Q (⟨none,.store t x y,ty,ps,af,g⟩::rest) D L (cv b tt [u]::C):=Aq 0 h ht rfl hv hk rfl k
theorem Bh (cs':List Value) {t n b o tt:Nat} {x y:Operand} {v:Value} {cs:List Value} (h:sF ops L g x y=some (.pointer (some ⟨b,o,none⟩),v)) (ht:(tK E.P t).map (·.2)=some n) (hk:(v.cells.toList.length==n&&v.cells.toList.all Value.oneCell'&&Nat.ble (o+n) cs.length)=true) (hcs:cs.take o++v.cells.toList++cs.drop (o+n)=cs') (k:RJ E ops Q rest D L (cv b tt cs'::C)):RJ E ops Q (⟨none,.store t x y,ty,ps,af,g⟩::rest) D L (cv b tt cs::C):=yq 0 h ht rfl hk hcs rfl k
theorem vp {t n b tt:Nat} {x y:Operand} {cs cs':List Value} {A0:ah} (h:sF ops L g x y=some (.pointer (some ⟨b,0,none⟩),.agg cs'.toArray)) (ht:(tK E.P t).map (·.2)=some n) (hk:(Nat.beq cs'.length n&&cs'.all Value.oneCell'&&Nat.beq n cs.length)=true) (k:RJ E ops Q rest D L (A0::cv b tt cs'::C)):RJ E ops Q (⟨none,.store t x y,ty,ps,af,g⟩::rest) D L (A0::cv b tt cs::C):=xC 1 h ht rfl hk rfl k
theorem u1 {t n b tt:Nat} {x y:Operand} {cs cs':List Value} {A0 A1:ah} (h:sF ops L g x y=some (.pointer (some ⟨b,0,none⟩),.agg cs'.toArray)) (ht:(tK E.P t).map (·.2)=some n) (hk:(Nat.beq cs'.length n&&cs'.all Value.oneCell'&&Nat.beq n cs.length)=true) (k:RJ E ops Q rest D L (A0::A1::cv b tt cs'::C)):RJ E ops Q (⟨none,.store t x y,ty,ps,af,g⟩::rest) D L (A0::A1::cv b tt cs::C):=xC 2 h ht rfl hk rfl k
theorem Bi (cs':List Value) {t n b o tt:Nat} {x y:Operand} {v:Value} {cs:List Value} {A0 A1:ah} (h:sF ops L g x y=some (.pointer (some ⟨b,o,none⟩),v)) (ht:(tK E.P t).map (·.2)=some n) (hk:(v.cells.toList.length==n&&v.cells.toList.all Value.oneCell'&&Nat.ble (o+n) cs.length)=true) (hcs:cs.take o++v.cells.toList++cs.drop (o+n)=cs') (k:RJ E ops Q rest D L (A0::A1::cv b tt cs'::C)):RJ E ops Q (⟨none,.store t x y,ty,ps,af,g⟩::rest) D L (A0::A1::cv b tt cs::C):=yq 2 h ht rfl hk hcs rfl k
theorem tL {t n b tt:Nat} {x y:Operand} {cs cs':List Value} {A0 A1 A2:ah} (h:sF ops L g x y=some (.pointer (some ⟨b,0,none⟩),.agg cs'.toArray)) (ht:(tK E.P t).map (·.2)=some n) (hk:(Nat.beq cs'.length n&&cs'.all Value.oneCell'&&Nat.beq n cs.length)=true) (k:RJ E ops Q rest D L (A0::A1::A2::cv b tt cs'::C)):RJ E ops Q (⟨none,.store t x y,ty,ps,af,g⟩::rest) D L (A0::A1::A2::cv b tt cs::C):=xC 3 h ht rfl hk rfl k
theorem Bn {t n b tt:Nat} {x y:Operand} {v u:Value} {A0 A1 A2:ah} (h:sF ops L g x y=some (.pointer (some ⟨b,0,none⟩),v)) (ht:(tK E.P t).map (·.2)=some n) (hv:v.cells.toList=[v]) (hk:(Nat.beq n 1&&v.oneCell')=true) (k:RJ E ops Q rest D L (A0::A1::A2::cv b tt [v]::C)):RJ E ops Q (⟨none,.store t x y,ty,ps,af,g⟩::rest) D L (A0::A1::A2::cv b tt [u]::C):=Aq 3 h ht rfl hv hk rfl k
theorem Bq (cs':List Value) {t n b o tt:Nat} {x y:Operand} {v:Value} {cs:List Value} {A0 A1 A2:ah} (h:sF ops L g x y=some (.pointer (some ⟨b,o,none⟩),v)) (ht:(tK E.P t).map (·.2)=some n) (hk:(v.cells.toList.length==n&&v.cells.toList.all Value.oneCell'&&Nat.ble (o+n) cs.length)=true) (hcs:cs.take o++v.cells.toList++cs.drop (o+n)=cs') (k:RJ E ops Q rest D L (A0::A1::A2::cv b tt cs'::C)):RJ E ops Q (⟨none,.store t x y,ty,ps,af,g⟩::rest) D L (A0::A1::A2::cv b tt cs::C):=yq 3 h ht rfl hk hcs rfl k
theorem AF {t n b tt:Nat} {x y:Operand} {cs cs':List Value} {A0 A1 A2 A3:ah} (h:sF ops L g x y=some (.pointer (some ⟨b,0,none⟩),.agg cs'.toArray)) (ht:(tK E.P t).map (·.2)=some n) (hk:(Nat.beq cs'.length n&&cs'.all Value.oneCell'&&Nat.beq n cs.length)=true) (k:RJ E ops Q rest D L (A0::A1::A2::A3::cv b tt cs'::C)):RJ E ops Q (⟨none,.store t x y,ty,ps,af,g⟩::rest) D L (A0::A1::A2::A3::cv b tt cs::C):=xC 4 h ht rfl hk rfl k
theorem Bl (cs':List Value) {t n b o tt:Nat} {x y:Operand} {v:Value} {cs:List Value} {A0 A1 A2 A3:ah} (h:sF ops L g x y=some (.pointer (some ⟨b,o,none⟩),v)) (ht:(tK E.P t).map (·.2)=some n) (hk:(v.cells.toList.length==n&&v.cells.toList.all Value.oneCell'&&Nat.ble (o+n) cs.length)=true) (hcs:cs.take o++v.cells.toList++cs.drop (o+n)=cs') (k:RJ E ops Q rest D L (A0::A1::A2::A3::cv b tt cs'::C)):RJ E ops Q (⟨none,.store t x y,ty,ps,af,g⟩::rest) D L (A0::A1::A2::A3::cv b tt cs::C):=yq 4 h ht rfl hk hcs rfl k
theorem xf {t n b tt:Nat} {x y:Operand} {cs cs':List Value} {A0 A1 A2 A3 A4:ah} (h:sF ops L g x y=some (.pointer (some ⟨b,0,none⟩),.agg cs'.toArray)) (ht:(tK E.P t).map (·.2)=some n) (hk:(Nat.beq cs'.length n&&cs'.all Value.oneCell'&&Nat.beq n cs.length)=true) (k:RJ E ops Q rest D L (A0::A1::A2::A3::A4::cv b tt cs'::C)):RJ E ops Q (⟨none,.store t x y,ty,ps,af,g⟩::rest) D L (A0::A1::A2::A3::A4::cv b tt cs::C):=xC 5 h ht rfl hk rfl k
theorem Ah {t n b tt:Nat} {x y:Operand} {cs cs':List Value} {A0 A1 A2 A3 A4 A5:ah} (h:sF ops L g x y=some (.pointer (some ⟨b,0,none⟩),.agg cs'.toArray)) (ht:(tK E.P t).map (·.2)=some n) (hk:(Nat.beq cs'.length n&&cs'.all Value.oneCell'&&Nat.beq n cs.length)=true) (k:RJ E ops Q rest D L (A0::A1::A2::A3::A4::A5::cv b tt cs'::C)):RJ E ops Q (⟨none,.store t x y,ty,ps,af,g⟩::rest) D L (A0::A1::A2::A3::A4::A5::cv b tt cs::C):=xC 6 h ht rfl hk rfl k
theorem Bo {t n b tt:Nat} {x y:Operand} {v u:Value} {A0 A1 A2 A3 A4 A5:ah} (h:sF ops L g x y=some (.pointer (some ⟨b,0,none⟩),v)) (ht:(tK E.P t).map (·.2)=some n) (hv:v.cells.toList=[v]) (hk:(Nat.beq n 1&&v.oneCell')=true) (k:RJ E ops Q rest D L (A0::A1::A2::A3::A4::A5::cv b tt [v]::C)):RJ E ops Q (⟨none,.store t x y,ty,ps,af,g⟩::rest) D L (A0::A1::A2::A3::A4::A5::cv b tt [u]::C):=Aq 6 h ht rfl hv hk rfl k
theorem Br (cs':List Value) {t n b o tt:Nat} {x y:Operand} {v:Value} {cs:List Value} {A0 A1 A2 A3 A4 A5 A6 A7:ah} (h:sF ops L g x y=some (.pointer (some ⟨b,o,none⟩),v)) (ht:(tK E.P t).map (·.2)=some n) (hk:(v.cells.toList.length==n&&v.cells.toList.all Value.oneCell'&&Nat.ble (o+n) cs.length)=true) (hcs:cs.take o++v.cells.toList++cs.drop (o+n)=cs') (k:RJ E ops Q rest D L (A0::A1::A2::A3::A4::A5::A6::A7::cv b tt cs'::C)):RJ E ops Q (⟨none,.store t x y,ty,ps,af,g⟩::rest) D L (A0::A1::A2::A3::A4::A5::A6::A7::cv b tt cs::C):=yq 8 h ht rfl hk hcs rfl k
end
section
variable {E:c_} {y:Code} {Q:bJ} {D:List Deferred} {L:List (Nat×Value)} {C:List ah}
theorem WS {id:Nat} {ops:Array Oper} (h: ∀ K:Act→World→Prop,(∀ D L C,WJ E y Q D L C→KJ E K D L C)→RJ E ops (Exit.then K Q) ops.toList D L C):WJ E (.seq (.region id ops false) y) Q D L C:=ai fun K hK=>aj (h K hK)
theorem RK {ops:Array Oper} {K:Act→World→Prop} {Q':bJ} (hK: ∀ D L C,WJ E y Q D L C→KJ E K D L C) (k:WJ E y Q D L C):RJ E ops (Exit.then K Q') [] D L C:=aB (aU (hK _ _ _ k))
theorem KK {K:Act→World→Prop} {Q':bJ} (hK: ∀ D L C,WJ E y Q D L C→KJ E K D L C) (k:WJ E y Q D L C):KJ E (Exit.then K Q' .normal) D L C:=aU (hK _ _ _ k)
theorem WK {K:Act→World→Prop} {Q':bJ} (hK: ∀ D L C,WJ E y Q D L C→KJ E K D L C) (k:WJ E y Q D L C):WJ E .skip (Exit.then K Q') D L C:=cg (aU (hK _ _ _ k))
end
theorem DT {p:Prop} [Decidable p] (h:decide p=true):p:=of_decide_eq_true h
theorem DF {p:Prop} [Decidable p] (h:decide p=false): ¬ p:=of_decide_eq_false h
theorem XT {p:Prop} [Decidable p] (h:(!decide p)=true): ¬ p:=by simpa using h
theorem XF {p:Prop} [Decidable p] (h:(!decide p)=false):p:=by simpa using h
/-- what a function hands back: one result, two, three, that lie in slots -/
theorem Q1 {E:c_} {fn:Func} {K:Act→World→Prop} {L:bT} {C:List ah} {t:Nat} {u v:Value} (hQ: ∀ D L C,LJ E fn (oA E.w0 v) D L C→KJ E K D L C) (hS:E.S=j4) (hr:fn.results.toList=[.tmp t]) (hl:L.lookup t=some u) (e:u=v):KJ E K [] L C:=
 hQ _ _ _ (fW (vs:=[u]) (by rw [hr]; exact ⟨hl,trivial⟩) fun w hs=>ua e (by rw [hS] at hs; exact hs))
theorem Q2 {E:c_} {fn:Func} {K:Act→World→Prop} {L:bT} {C:List ah} {t s:Nat} {u x v:Value} (hQ: ∀ D L C,LJ E fn (oA E.w0 v) D L C→KJ E K D L C) (hS:E.S=j4) (hr:fn.results.toList=[.tmp t,.tmp s]) (hl:L.lookup t=some u) (hm:L.lookup s=some x) (e:vT [u,x]=v):KJ E K [] L C:=
 hQ _ _ _ (fW (vs:=[u,x]) (by rw [hr]; exact ⟨hl,hm,trivial⟩) fun w hs=>ua e (by rw [hS] at hs; exact hs))
theorem N1 {E:c_} {ops:Array Oper} {D:dH} {C' C1:List ah} {F:bT→List ah→Prop} {tb rem:List Nat} {n:Nat} {L:bT} {C:List ah} (i:Nat)
 (h:pf E ops D C' C1 F tb n (rem.filter (· != i)) i L C) (hm:rem.filter (fun i=>rem.all fun j=> !dR (jE ops) j i)=[i]:=by kernel_rfl):TN E ops D C' C1 F tb (n+1) rem L C:=pO [i] hm (mD h tG)
theorem NO {E:c_} {ops:Array Oper} {D:dH} {C' C1:List ah} {F:bT→List ah→Prop} {tb rem:List Nat} {n i:Nat} {L:bT} {C:List ah} {o:Oper} (ho:ops[i]? =some o) (ht:tb.contains i=false) (rem':List Nat)
 (h: ∀ K:Act→World→Prop,(∀ L' C'',(∀ w,St E.S E.w0 C'' w→St E.S E.w0 C' w)→TN E ops D C' C1 F tb n rem' L' C''→KJ E K D L' C'')→RJ E ops (NQ K) [o] D L C) (hr:rem=rem':=by kernel_rfl):pf E ops D C' C1 F tb n rem i L C:=AJ ho hr ht h
theorem RD {E:c_} {ops:Array Oper} {K:Act→World→Prop} {D:dH} {L:bT} {C C':List ah} {X:bT→List ah→Prop} (hT: ∀ L' C'',(∀ w,St E.S E.w0 C'' w→St E.S E.w0 C' w)→X L' C''→KJ E K D L' C'')
 (k:Nat) (h2:C.drop k=C') (h:X L C):RJ E ops (NQ K) [] D L C:=aB (hT _ _ (fun w hs=>h2▸hs.take (List.drop_sublist k C)) h)
theorem a3 {L L':bT} (h:L'.map (fun p=>L.lookup p.1)=L'.map (fun p=>some p.2)):cE L L':=by
 induction L' with
 |nil=>exact cE.nil _
 |cons p t ih=>
  simp only [List.map_cons,List.cons.injEq] at h
  exact cE.cons h.1 (ih h.2)
theorem rF {C:List ah} {A A' B B' D D':ah} (i j k:Nat) (h1:C[i]? =some A') (e1:A'.holds=A.holds) (h2:C[j]? =some B') (e2:B'.holds=B.holds) (h3:C[k]? =some D') (e3:D'.holds=D.holds):eP C [A,B,D]:=eB i h1 e1 (eB j h2 e2 (eB k h3 e3 aw))
theorem bq {E:c_} {c:Operand} {x y:Code} {b:Bool} {Q:bJ} {D:List Deferred} {L:List (Nat×Value)} {C:List ah} (hc:ev L c=some (.bool b)) (h2:b=false→WJ E y Q D L C) (h1:b=true→WJ E x Q D L C):WJ E (.cond c x y) Q D L C:=cG hc h1 h2
theorem cK {E:c_} {ops:Array Oper} {Q:bJ} {rest:List Oper} {D:List Deferred} {L:List (Nat×Value)} {C:List ah} {t:Nat} {b:Bool} (h:L.lookup t=some (.bool b)) (h2:b=false→RJ E ops Q rest D ((t,.bool false)::L) C) (h1:b=true→RJ E ops Q rest D ((t,.bool true)::L) C):RJ E ops Q rest D L C:=ct h h1 h2
theorem lV {E:c_} {ops:Array Oper} {Q:bJ} {rest:List Oper} {D:List Deferred} {L:List (Nat×Value)} {C:List ah} {t:Nat} {b:Bool} {os:List Oper} (h:L.lookup t=some (.bool b)) (h2:b=false→DJ E ops D C (fun L2=>RJ E ops Q rest D L2 C) os ((t,.bool false)::L)) (h1:b=true→DJ E ops D C (fun L2=>RJ E ops Q rest D L2 C) os ((t,.bool true)::L)):DJ E ops D C (fun L2=>RJ E ops Q rest D L2 C) os L:=dU h h1 h2
theorem bL {L:List (Nat×Value)}: ∀ (k:Nat) {L2:List (Nat×Value)} (q:cE L (L2.drop k)) (h:(L2.take k).map (fun p=>L.lookup p.1)=(L2.take k).map (fun p=>some p.2):=by rfl),cE L L2
 |0,_,q,_=>q
 |_+1,[],_,_=>cE.nil _
 |k+1,p::L2,q,h=>by
  obtain ⟨A,B⟩:=List.cons.inj (show L.lookup p.1::(L2.take k).map (fun p=>L.lookup p.1)=some p.2::(L2.take k).map (fun p=>some p.2) from h)
  exact cE.cons (t:=p.1) (v:=p.2) A (bL k q B)
theorem oX {E:c_} {ops:Array Oper} {Q:bJ} {rest:List Oper} {D:List Deferred} {L:List (Nat×Value)} {C:List ah} {d:Nat} {ty:TypeId} {ps:String} {af:Array Edge} {g:Option (Nat×Bool)} {op:Op} (k:RJ E ops Q rest D ((d,undef)::L) C) (h:(pG ops L g&&Nat.blt d E.n)=true:=by rfl):RJ E ops Q (⟨some d,op,ty,ps,af,g⟩::rest) D L C:=rS (OX h) k
theorem dX {E:c_} {ops:Array Oper} {F:List (Nat×Value)→Prop} {rest:List Oper} {D:List Deferred} {L:List (Nat×Value)} {C:List ah} {d:Nat} {ty:TypeId} {ps:String} {af:Array Edge} {g:Option (Nat×Bool)} {op:Op} (k:DJ E ops D C F rest ((d,undef)::L)) (h:(pG ops L g&&Nat.blt d E.n)=true:=by rfl):DJ E ops D C F (⟨some d,op,ty,ps,af,g⟩::rest) L:=dS (OX h) k
end
section
open Go.RowKit
/-- what of a slice is left from k on -/
def jC (A:OA) (c k sz:Nat):OA:=if c=k then A else A.map (·.add (k*sz))
section
variable {E:c_} {ops:Array Oper} {Q:bJ} {rest:List Oper} {D:List Deferred} {L:List (Nat×Value)} {C:List ah}
variable {d:Nat} {ty:TypeId} {ps:String} {af:Array Edge} {g:Option (Nat×Bool)}
theorem qT {P:Program} {t e sz:Nat} (h:tE P t=some (e,sz)) (w:World):P.underlying t=some (.slice e)∧(sizeOf e).run P w= .ok sz w:=by
 unfold tE at h
 split at h
 ·rename_i e' hu
  split at h
  ·rename_i i hi
   cases h
   exact ⟨hu,by simp [sizeOf,typeInfo,hi]⟩
  ·cases h
 ·cases h
theorem lW {P:Program} {t e:Nat} (h:P.underlying t=some (.slice e)):P.underlying t=some (.slice (P.elem t)):=by
 rw [h]; simp [Program.elem,h]
theorem ru {P:Program} {t e:Nat} (h:P.underlying t=some (.slice e)):P.elem t=e:=by simp [Program.elem,h]
/-- s[k:] -/
theorem Ba (k:Nat) {x lo:Operand} {t e sz n c:Nat} {A:OA} {j:Int} (h:bF E.n ops L d g x lo=some (.slice A n c,.int .i64 j)) (ht:tE E.P t=some (e,sz)) (hj:j=(k:Int)) (hk:k≤n):
 SE E ops ⟨some d,.slice t x (some lo) none none,ty,ps,af,g⟩ D L C (.slice (jC A c k sz) (n-k) (c-k)) d:=by
 obtain ⟨G,H,AA,J⟩:=j2 h
 subst hj
 refine ⟨cn G sm fun a w B hs=>?_,U,H⟩
 obtain ⟨hu,hz⟩:=qT ht w
 have hr:=run_slice_l (P:=E.P) w t A n c (lW hu) .i64 (k:Int) I I
 rw [ru hu,hz] at hr
 simp only [Result.andThen,Int.toNat_natCast,sliced] at hr
 have F:=run_sliceAt_slice (P:=E.P) w t (.slice A n c) (some (.int .i64 (k:Int))) none none (lW hu)
 simp [execOp,B.ev AA,B.ev J,F,hr,jC]
/-- s[:k] -/
theorem Bk (k:Nat) {x hi:Operand} {t e sz n c:Nat} {A:OA} {j:Int} (h:bF E.n ops L d g x hi=some (.slice A n c,.int .i64 j)) (ht:tE E.P t=some (e,sz)) (hj:j=(k:Int)) (hk:k≤c):
 SE E ops ⟨some d,.slice t x none (some hi) none,ty,ps,af,g⟩ D L C (.slice A k c) d:=by
 obtain ⟨H,AA,J,K⟩:=j2 h
 subst hj
 refine ⟨cn H sm fun a w B hs=>?_,U,AA⟩
 obtain ⟨hu,hz⟩:=qT ht w
 have hr:=run_slice_h (P:=E.P) w t A n c (lW hu) .i64 (k:Int) I I
 rw [ru hu,hz] at hr
 have G:(if c=0 then A else A.map (·.add (0*sz)))=A:=by
  split
  ·rfl
  ·cases A with
   |none=>rfl
   |some ad=>simp [Addr.add]
 simp only [Result.andThen,Int.toNat_natCast,sliced,G,Nat.sub_zero] at hr
 have F:=run_sliceAt_slice (P:=E.P) w t (.slice A n c) none (some (.int .i64 (k:Int))) none (lW hu)
 simp [execOp,B.ev J,B.ev K,F,hr]
/-- an element of a row whose place is known -/
theorem zG (k:Nat) {x ix:Operand} {A:OA} {ad:Addr} {n c sz e t:Nat} {j:Int} (h:bF E.n ops L d g x ix=some (.slice A n c,.int .i64 j)) (hA:A=some ad) (ht:tE E.P t=some (e,sz)) (hj:j=(k:Int)) (hk:k<n):
 SE E ops ⟨some d,.indexAddr t x ix,ty,ps,af,g⟩ D L C (.pointer (eR A (k*sz))) d:=by
 obtain ⟨F,G,H,AA⟩:=j2 h
 refine ⟨cn F sm fun a w B hs=>?_,U,G⟩
 subst hA hj
 simp [execOp,B.ev H,B.ev AA,eR,lj ht hk]
end
theorem rE {w:World} {a:OA} {c e sz:Nat} {es:List (List Value)} (h:(own a c e sz es).holds w):es.length≤c:=by
 rcases h.2.2 with ⟨A,B⟩|⟨g,cap,cur,hv,_,_,C,_⟩
 ·omega
 ·injection hv with _ _ hc; omega
end
section
open Go.RowKit
/-- an array's length, its elements' type and their size -/
def aE (P:Program) (t:TypeId):Option (Nat×TypeId×Nat):=
 match P.underlying t with
 |some (.array n e)=>match P.info? e with
  |some i=>some (n,e,i.size)
  |none=>none
 |_=>none
theorem vH {P:Program} {t n e sz:Nat} (h:aE P t=some (n,e,sz)) (w:World):P.underlying t=some (.array n e)∧(sizeOf e).run P w= .ok sz w:=by
 unfold aE at h
 split at h
 ·rename_i n' e' hu
  split at h
  ·rename_i i hi
   cases h
   exact ⟨hu,by simp [sizeOf,typeInfo,hi]⟩
  ·cases h
 ·cases h
theorem gb {P:Program} {t n e sz:Nat} (h:aE P t=some (n,e,sz)) (a:Addr) {k:Nat} (hk:k<n) (w:World):
 (Instr.indexAt t (.pointer (some a)) (.int .i64 (k:Int))).run P w= .ok (.pointer (some (a.add (k*sz)))) w:=by
 obtain ⟨hu,hz⟩:=vH h w
 have A: ¬ n≤k:=by omega
 simp [Instr.indexAt,underlying,hu,Instr.sureAddr,asIntOf,hz,A]
 try exact fun h=>absurd h A
 try omega
section
variable {E:c_} {ops:Array Oper} {Q:bJ} {rest:List Oper} {D:List Deferred} {L:List (Nat×Value)} {C:List ah}
variable {dst:Option Nat} {ty:TypeId} {ps:String} {af:Array Edge} {g:Option (Nat×Bool)}
theorem dN {x ix:Operand} {a:Addr} {t n e sz k:Nat} {j:Int} (hg:e6 ops L g=true) (hx:ev L x=some (.pointer (some a))) (hi:ev L ix=some (.int .i64 j)) (ht:aE E.P t=some (n,e,sz)) (hj:j=(k:Int)) (hk:k<n):
 SD E ops ⟨dst,.indexAddr t x ix,ty,ps,af,g⟩ D L C (.pointer (eR (some a) (k*sz))):=
 cn hg sm fun b w A hs=>by
  subst hj
  simp [execOp,A.ev hx,A.ev hi,eR,gb ht a hk]
end
end
end Go.Proofs.YtpfjokbjambohaaGreat
