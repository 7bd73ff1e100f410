/-
 The statement topRepaired_said, part 3 of 9: Core, Step, Ops, Mem, Call, Fun, Own, Aux, Table, Range, More, Draw, Open, Types, Map, Trk, DrawN, Pure, Fm, It, Sort, Ptr.
 Conditions: none.
-/
import Derived.Test.YtgnlmfdknlbkkaaGreatDoorTz1
import Derived.Test.YtgnlmfdknlbkkaaGreatDoorTz2
import Derived.WalkKit
import Derived.RangeFuncLeaves
import Derived.RangeFuncRecord
import Derived.OrdersIn
import Derived.Deep.LoopGhost
import Derived.Maps.AppendAt
import Derived.Test.YtgnlmfdknlbkkaaGreatDoorRows
import Derived.Test.YtgnlmfdknlbkkaaGreatDoorProg
import Derived.LaidMore
import Derived.OpenShut
import Derived.ProofKit
import Derived.KernelRfl
import Derived.RangeFuncNested
import Derived.Scope
import Derived.LoopNIn
import Derived.Deep.Slices
import Derived.Below
import Derived.ChangeSame
import Derived.Maps.RangeRun
import Derived.Laws.OwnMore
open List (getD length lookup map range range' zipWith)
open Array (ext' replicate)
open Nat (beq ble blt zero_mul)
namespace Go.Proofs.YtgnlmfdknlbkkaaGreatDoor
set_option maxRecDepth 100000
set_option maxHeartbeats 4000000
set_option linter.unusedVariables false
variable {P:Program} {α ι H:Type} {i d t id j k k' e g sz s o' k0 by_ off base b0:Nat} {p:List MemPlace} {G:Prop} {a a':Act} {b q held:Bool} {f:FuncId} {args cs vs us cs':List Value} {w w' w0:World} {R:Ending→World→Prop} {x y fop:Operand} {v u z:Value} {c:Code} {N N' K:Act→World→Prop} {o:Oper} {r:Option Nat} {ops:Array Oper} {rest:List Oper} {listed:Array Bool} {xt:TypeId} {m:List Int} {ts:Array TypeId} {es es':List (List Value)} {xs:Array Operand} {fi ca ys tmps:Array Value} {pl l:List (Nat×Nat)} {fn:Func} {is free T tb rem rem':List Nat} {ad:Addr} {sp:Nat→Bool} {fe bs:List Bool} {lo hi:Int}
abbrev c0:= @if_pos
abbrev c1:= @if_neg
abbrev c3:= @List.length_map
abbrev c4:= @Nat.zero_le
abbrev c5:= @List.take_of_length_le
abbrev c6:= @Nat.le_trans
abbrev c7:= @congrArg
abbrev c8:= @Array.getElem?_setIfInBounds_self_of_lt
abbrev c9:= @Nat.le_refl
abbrev e0:= @Bool.not_eq_true'
abbrev e4:= @List.length_append
abbrev e5:= @Array.getElem?_setIfInBounds_ne
abbrev e6:= @Nat.mul_pos
abbrev k3:= @Go.run_underlying
abbrev k4:= @Option.some.injEq
abbrev k5:= @List.length_take
abbrev k_:= @List.getElem?_append_right
abbrev l1:= @List.take_add_one
abbrev m1:= @List.mem_append_left
abbrev m2:= @List.map_cons
abbrev m3:= @Option.some.inj
abbrev m9:= @List.flatten_cons
abbrev n3:= @List.mem_filter
abbrev n5:= @Array.getElem?_eq_some_iff
abbrev n6:= @Array.getD_eq_getD_getElem?
abbrev p4:= @Prod.mk.injEq
abbrev p5:= @List.mem_iff_getElem
abbrev r0:= @decide_eq_true_eq
abbrev r4:= @Nat.lt_or_ge
abbrev r5:= @List.mem_iff_getElem?
abbrev r6:= @List.getElem?_set_self
abbrev r7:= @Option.bind_some
abbrev s3:= @List.getElem?_of_mem
abbrev s5:= @List.nodup_iff_pairwise_ne
abbrev s6:= @of_decide_eq_true
abbrev u1:= @List.drop_eq_getElem_cons
abbrev u2:= @List.length_filter_le
abbrev u4:= @List.getElem_mem
abbrev u7:= @Nat.blt_eq
abbrev v3:= @List.getElem?_append_left
abbrev v5:= @List.perm_middle
abbrev y3:= @List.length_cons
abbrev AAA:= @Option.map_some
abbrev AAB:= @Bool.eq_iff_iff
abbrev AAC:= @List.perm_append_comm
abbrev AAD:= @List.mem_filterMap
abbrev AAG:= @List.length_set
abbrev AAH:= @List.getElem_set
abbrev AAJ:= @List.append_nil
abbrev AAL:= @Nat.eq_of_beq_eq_true
abbrev AAM:= @bne_iff_ne
abbrev AAN:= @Array.getElem?_eq_getElem
abbrev AAO:= @List.getElem?_set
abbrev AAQ:= @Option.map_eq_some_iff
abbrev AAR:= @Go.World.putObj_heap_same
abbrev AAT:= @List.pairwise_cons
abbrev AAU:= @Array.getElem?_replicate
abbrev AAW:= @List.eq_nil_iff_forall_not_mem
abbrev AAX:= @List.cons_append
abbrev AAY:= @List.pairwise_singleton
abbrev AAZ:= @Nat.succ_mul
abbrev AAa:= @Go.Result.andThen_ok
abbrev AAb:= @List.pairwise_append
abbrev AAf:= @Go.Sem.run_bind
abbrev AAg:= @List.mem_append_right
abbrev AAh:= @List.filterMap_append
abbrev AAk:= @Nat.zero_add
abbrev AAm:= @List.any_eq_true
abbrev AAn:= @Classical.byContradiction
abbrev AAo:= @List.getElem?_eq_none
abbrev AAp:= @List.nil_append
abbrev AA0:= @if_false
abbrev AA2:= @List.nodup_cons
abbrev AA5:= @List.length_pos_of_mem
abbrev AA7:= @Go.Oper.semAt_eq
abbrev AA8:= @List.take_length
abbrev AA9:= @List.length_drop
abbrev ABA:= @List.take_append_drop
abbrev ABB:= @List.mem_or_eq_of_mem_set
abbrev ABC:= @and_true
abbrev ABD:= @Go.World.alloc_heap_new
abbrev ABE:= @Bool.or_eq_true
abbrev ABF:= @List.ext_getElem?
abbrev ABH:= @Array.length_toList
abbrev ABI:= @beq_self_eq_true
abbrev ABJ:= @List.sublist_cons_self
abbrev ABK:= @List.drop_eq_nil_of_le
abbrev ABL:= @Array.getElem?_eq_none
abbrev ABM:= @Nat.lt_or_gt_of_ne
abbrev ABN:= @Nat.lt_of_lt_of_le
abbrev ABO:= @Ne.symm
abbrev ABP:= @Nat.le_of_ble_eq_true
abbrev ABS:= @Nat.add_assoc
abbrev ABT:= @List.filter_congr
abbrev ABX:= @ext'
abbrev ABa:= @Option.getD_some
abbrev ABc:= @List.mem_flatten
abbrev ABd:= @List.length_erase_of_mem
abbrev ABe:= @Go.RowKit.Below.heap_alloc
abbrev ABf:= @Array.size_setIfInBounds
abbrev ABg:= @List.take_set_of_le
abbrev ABj:= @List.drop_set_of_lt
abbrev ABk:= @List.length_eq_zero_iff
abbrev ABl:= @List.getElem?_take
abbrev ABm:= @List.getElem?_drop
abbrev ABn:= @List.filter_filter
abbrev ABo:= @List.cons.injEq
abbrev ABq:= @Array.foldl_toList
abbrev ABr:= @Nat.lt_trichotomy
abbrev ABt:= @List.nodup_nil
abbrev ABw:= @Nat.mul_le_mul_right
abbrev ABx:= @List.replicate_succ'
abbrev ABz:= @List.length_filter_lt_length_iff_exists
abbrev AB0:= @Int.tdiv_eq_ediv_of_nonneg
abbrev AB2:= @List.flatten_append
abbrev AB3:= @List.filterMap_cons
abbrev AB4:= @ne_eq
abbrev AB5:= @Nat.min_eq_left
abbrev AB6:= @of_decide_eq_false
abbrev AB8:= @Nat.add_zero
abbrev AB_:= @Go.func_of_trod
abbrev ACA:= @Go.Sem.run_pure
abbrev ACB:= @Go.heap_alloc_new
abbrev ACD:= @List.any_eq_false
abbrev ACF:= @Nat.le_of_not_lt
abbrev ACG:= @Int.ediv_le_self
abbrev ACJ:= @Nat.le_of_eq
abbrev ACK:= @Nat.add_comm
abbrev ACN:= @List.foldl_cons
abbrev ACQ:= @Int.ediv_nonneg
abbrev ACR:= @beq_eq_false_iff_ne
abbrev ACV:= @Go.run_enterLoop_outer
abbrev ACW:= @Int.mul_nonneg
abbrev ACY:= @Nat.lt_of_le_of_lt
abbrev ACZ:= @List.set_cons_zero
abbrev ACa:= @not_false_eq_true
abbrev ACb:= @List.getElem?_inj
abbrev ACc:= @beq_iff_eq
abbrev ACd:= @if_true
abbrev ACe:= @List.zipIdx_cons
section
open Go.RowKit
theorem Dv {P:Prop} (q:false=true):P:=Bool.noConfusion q
theorem QS {P:Prop} (q:true=false):P:=Bool.noConfusion q
theorem qY {P Q:Prop} (h:Q):(false=true→P)∧(false=false→Q):=⟨nofun,fun _=>h⟩
theorem pM {a b c:α} {P:Prop} (e:a=b) (h: ¬ b=c:=by decide):b=a∧(a=c→P):=⟨e.symm,fun q=>absurd (e.symm.trans q) h⟩
theorem QG {a b c:α} {P:Prop} (e:a=b) (h:¬ b=c):b=a∧(a=c→P):=⟨e.symm,fun q=>absurd (e.symm.trans q) h⟩
theorem ay {α:Type _} (l:List α) (i:Nat) (h:i<l.length): ∃ y,l[i]? =some y:=⟨_,List.getElem?_eq_getElem h⟩
theorem bx {α β:Type _} {l:List α} {x:α} (f:α→β) (h:l[i]? =some x):(l.map f)[i]? =some (f x):=by rw [List.getElem?_map,h];rfl
theorem aG {p:Prop} {i:Decidable p} (k:p→G):decide p=true→G:=fun h=>k (s6 h)
theorem aH {p:Prop} {i:Decidable p} (k:¬ p→G):decide p=false→G:=fun h=>k (AB6 h)
theorem aK {p:Prop} {i:Decidable p} (k:¬ p→G):(!decide p)=true→G:=fun h=>k (by simpa using h)
theorem aJ {p:Prop} {i:Decidable p} (k:p→G):(!decide p)=false→G:=fun h=>k (by simpa using h)
abbrev vI (n:Int):Value:= .int .i64 n
theorem cB {a:Bool} (h:a=b):Value.bool a=Value.bool b:=c7 _ h
theorem cI {a b:Int} (h:a=b):Value.int .i64 a=Value.int .i64 b:=c7 _ h
abbrev aF:= @List.mem_of_getElem?
abbrev fh:= @List.getElem?_eq_getElem
abbrev aT:= @List.getElem?_eq_some_iff
abbrev bg:= @decide_eq_false
abbrev cR:= @decide_eq_true
abbrev gO:= @List.getElem?_map
abbrev bU:= @List.mem_singleton
abbrev bI:= @List.mem_cons
abbrev bZ:= @List.mem_cons_self
abbrev eW:= @List.pairwise_iff_getElem
abbrev cu:= @List.mem_map
abbrev eX:= @List.all_cons
abbrev dg:= @List.all_eq_true
abbrev kq:= @List.eq_nil_of_length_eq_zero
abbrev dZ:= @List.mem_append
abbrev dk:= @List.mem_cons_of_mem
abbrev dq:= @Bool.and_eq_true
abbrev gR:= @decide_eq_decide
abbrev vP (b:Nat):Value:= .pointer (some ⟨b,0,none⟩)
abbrev vS (a:Option Addr) (n c:Nat):Value:= .slice a n c
abbrev vB (b:Bool):Value:= .bool b
abbrev vA (l:List Value):Value:= .agg l.toArray
abbrev vT (l:List Value):Value:= .tuple l.toArray
abbrev OA:=Option Addr
abbrev dJ:=List (Nat×Value)
abbrev iF:=List Deferred
abbrev Fw (r:Option Nat):Fence:={fn:=fun _=>True,depth:=none,alive:=false,round:=r}
theorem rj {args:Array Value} (r:Option Nat) (h:Calls P f args w R):CallsIn (Fw r) 0 P f args w R:=
 (callsIn_wide (n:=0)).2 h
theorem yJ {args:Array Value} (h:CallsIn (Fw none) 0 P f args w R):Calls P f args w R:=
 (callsIn_wide (n:=0)).1 h
structure Fr (n:Nat) (D:iF) (L:dJ) (a:Act):Prop where
 defers:a.defers=D
 size:a.tmps.size=n
 at_: ∀ t v,L.lookup t=some v→a.tmps[t]? =some v
def ev (L:dJ):Operand→Option Value
 | .tmp t=>L.lookup t
 | .const v=>some v
 | .global g=>some (.pointer (some ⟨g,0,none⟩))
 | .func f=>some (.func (.func f) #[] #[])
theorem Fr.ev {n:Nat} {D:iF} {L:dJ} (h:Fr n D L a) (hx:ev L x=some v):a.eval x=v:=by
 cases x with
 |tmp t=>have:=h.at_ t v hx;simp [Act.eval,this]
 |const u=>simpa [Go.Proofs.YtgnlmfdknlbkkaaGreatDoor.ev,Act.eval] using hx
 |global g=>simpa [Go.Proofs.YtgnlmfdknlbkkaaGreatDoor.ev,Act.eval] using hx
 |func f=>simpa [Go.Proofs.YtgnlmfdknlbkkaaGreatDoor.ev,Act.eval] using hx
theorem Fr.put {n:Nat} {D:iF} {L:dJ} (h:Fr n D L a) (hd:d<n) (v:Value):Fr n D ((d,v)::L) (a.put (some d) v):=by
 refine ⟨h.defers,by simp [Act.put,h.size],fun t u hu=>?_⟩;simp only [Act.put];by_cases e:t=d
 ·subst e;simp only [lookup,ABI] at hu;rw [c8 (by rw [h.size];exact hd)];exact hu
 ·have:(t==d)=false:=by simpa using e
  simp only [lookup,this] at hu;rw [e5 (fun x=>e x.symm)];exact h.at_ t u hu
/-- fewer slots are known -/
def cV (L L':dJ):Prop:= ∀ t v,L'.lookup t=some v→L.lookup t=some v
theorem cV.nil (L:dJ):cV L []:=fun _ _ h=>by simp [lookup] at h
theorem cV.cons {L L':dJ} (h:L.lookup t=some v) (k:cV L L'):cV L ((t,v)::L'):=fun s u hu=>by
 by_cases e:s=t
 ·subst e;simp only [lookup,ABI] at hu;exact h.trans hu
 ·have:(s==t)=false:=by simpa using e
  simp only [lookup,this] at hu;exact k s u hu
theorem Fr.sub {n:Nat} {D:iF} {L L':dJ} (h:Fr n D L a) (k:cV L L'):Fr n D L' a:=
 ⟨h.defers,h.size,fun t v hv=>h.at_ t v (k t v hv)⟩
structure au where
 fP:Nat→Prop
 /-- what of it may be written -/
 wf:Nat→Prop
 holds:World→Prop
 /-- all of it may be written -/
 wr:Bool
 l7: ∀ b,wf b→fP b
 whole:wr=true→ ∀ b,fP b→wf b
 lt: ∀ w,holds w→ ∀ b,fP b→b<w.heap.size
 qS: ∀ w w':World,(∀ b,fP b→w'.heap[b]? =w.heap[b]?)→holds w→holds w'
def Gu (A B:au):Prop:= ∀ b,A.fP b→B.fP b→ ¬ A.wf b∧ ¬ B.wf b
abbrev NS:=Nat→Prop
def no:NS:=fun _=>False
def only (b:Nat):NS:=fun k=>k=b
/-- what may be written, and what may be read, of the blocks that were there -/
structure BS where
 w:NS
 r:NS
def sf:BS:=⟨no,fun _=>True⟩
theorem Gu.symm {A B:au} (h:Gu A B):Gu B A:=fun b hb ha=>(h b ha hb).symm
/-- all but the blocks of S is as it was; nothing of the streams has turned -/
structure ed (S:NS) (w w':World):Prop where
 os:w'.os=w.os
 tape:w'.tape=w.tape
 output:w'.output=w.output
 size:w.heap.size≤w'.heap.size
 block: ∀ k,k<w.heap.size→ ¬ S k→w'.heap[k]? =w.heap[k]?
variable (S:NS) (w:World) (o:Obj)
theorem ed.refl:ed S w w:=⟨rfl,rfl,rfl,c9 _,fun _ _ _=>rfl⟩
theorem ed.trans {S:NS} {a b c:World} (h:ed S a b) (k:ed S b c):ed S a c:=
 ⟨k.os.trans h.os,k.tape.trans h.tape,k.output.trans h.output,c6 h.size k.size,fun i hi hs=>(k.block i (ABN hi h.size) hs).trans (h.block i hi hs)⟩
theorem ed.mono {S S':NS} {a b:World} (h:ed S a b) (hs: ∀ k,S k→S' k):ed S' a b:=
 ⟨h.os,h.tape,h.output,h.size,fun i hi hn=>h.block i hi (fun hm=>hn (hs i hm))⟩
theorem ed.below {w:World} (h:ed no w w'):Below w.heap.size w w':=⟨h.os,h.tape,h.output,h.size,fun k hk=>h.block k hk (fun h=>h)⟩
theorem ed.drew:ed S w w.drew:=⟨rfl,rfl,rfl,c9 _,fun _ _ _=>rfl⟩
theorem ed.alloc:ed S w (w.alloc o):=⟨rfl,rfl,rfl,sm,fun k hk _=>ABe w o k hk⟩
/-- the state: what holds of memory, each thing by itself -/
structure St (S:BS) (w0:World) (C:List au) (w:World):Prop where
 keeps:ed S.w w0 w
 holds: ∀ A∈C,A.holds w
 sep:C.Pairwise Gu
 own: ∀ A∈C,∀ b,A.wf b→w0.heap.size≤b∨S.w b
 seen: ∀ A∈C,∀ b,A.fP b→w0.heap.size≤b∨S.r b
/-- C' is a part of C, in whatever order, each thing once -/
theorem St.sub {S:BS} {w:World} {C C':List au} (h:St S w0 C w) (hs:C'.Pairwise Gu) (hm:∀ A∈C',A∈C):St S w0 C' w:=
 ⟨h.keeps,fun A hA=>h.holds A (hm A hA),hs,fun A hA=>h.own A (hm A hA),fun A hA=>h.seen A (hm A hA)⟩
theorem St.take {S:BS} {w:World} {C C':List au} (h:St S w0 C w) (hs:C'.Sublist C):St S w0 C' w:=
 h.sub (h.sep.sublist hs) (fun _ hA=>hs.subset hA)
theorem St.perm {S:BS} {w:World} {C C':List au} (h:St S w0 C w) (hs:C.Perm C'):St S w0 C' w:=
 h.sub (hs.pairwise h.sep (fun k=>Gu.symm k)) (fun _ hA=>hs.mem_iff.2 hA)
/-- what is new -/
structure QV (w w':World) (N:List au):Prop where
 holds: ∀ A∈N,A.holds w'
 fresh: ∀ A∈N,∀ b,A.fP b→w.heap.size≤b
 sep:N.Pairwise Gu
theorem QV.nil (w':World):QV w w' []:=⟨sm,sm,List.Pairwise.nil⟩
theorem St.grow {S:BS} {w:World} {C N:List au} (h:St S w0 C w) (k:ed no w w') (n:QV w w' N):St S w0 (N++C) w':=by
 refine ⟨h.keeps.trans (k.mono (fun _ h=>h.elim)),fun A hA=>?_,?_,fun A hA b hb=>?_,fun A hA b hb=>?_⟩
 ·rcases dZ.1 hA with hA|hA
  ·exact n.holds A hA
  ·exact A.qS w w' (fun b hb=>k.block b (A.lt w (h.holds A hA) b hb) (fun h=>h)) (h.holds A hA)
 ·rw [AAb];refine ⟨n.sep,h.sep,fun A hA B hB b ha hb=>?_⟩;have D:=n.fresh A hA b ha;have E:=B.lt w (h.holds B hB) b hb;omega
 ·rcases dZ.1 hA with hA|hA
  ·exact .inl (c6 h.keeps.size (n.fresh A hA b (A.l7 b hb)))
  ·exact h.own A hA b hb
 ·rcases dZ.1 hA with hA|hA
  ·exact .inl (c6 h.keeps.size (n.fresh A hA b hb))
  ·exact h.seen A hA b hb
theorem St.same {S:BS} {w:World} {C:List au} (h:St S w0 C w) (k:ed no w w'):St S w0 C w':=by
 simpa using h.grow k (QV.nil w w')
structure fJ where
 P:Program
 r:Option Nat
 n:Nat
 S:BS
 w0:World
abbrev du:=Exit→Act→World→Prop
/-- code, from a frame and a state -/
def WJ (E:fJ) (c:Code) (Q:du) (D:iF) (L:dJ) (C:List au):Prop:=
 ∀ a w,Fr E.n D L a→St E.S E.w0 C w→c.wpIn (Fw E.r) 0 E.P Q a w
/-- a thing that is asked of what follows -/
def KJ (E:fJ) (K:Act→World→Prop) (D:iF) (L:dJ) (C:List au):Prop:=
 ∀ a w,Fr E.n D L a→St E.S E.w0 C w→K a w
def uJ (r:Option Nat) (P:Program) (ops:Array Oper) (Q:du):List Oper→Act→World→Prop
 |[],a,w=>Q .normal a w
 |o::rest,a,w=>if Region.wanted o (yielded ops a.tmps) then o.wpIn (Fw r) 0 P a w (uJ r P ops Q rest) Q else uJ r P ops Q rest (a.put o.dst undef) w
def RJ (E:fJ) (ops:Array Oper) (Q:du) (rest:List Oper) (D:iF) (L:dJ) (C:List au):Prop:=
 ∀ a w,Fr E.n D L a→St E.S E.w0 C w→uJ E.r E.P ops Q rest a w
theorem Ef {F:Fence} {n:Nat} {o:Oper} {Q Q':du} (hn:∀ a w,N a w→N' a w) (hq:∀ e a w,Q e a w→Q' e a w):
 ∀ {res:Result Next},o.uponIn F n P a N Q res→o.uponIn F n P a N' Q' res:=by
 intro res h;cases res with
 |halt x w=>cases x<;>simp only [Oper.uponIn] at h ⊢ <;>first|exact hq _ _ _ h|exact h
 |ok x w=>
  cases x with
  |value v=>exact hn _ _ h
  |skip=>exact hn _ _ h
  |defer d=>exact hn _ _ h
  |enter f args=>
   refine ⟨h.1,h.2.mono fun e w'' he=>?_⟩;cases e with
   |returned v=>exact hn _ _ he
   |panicked ch=>exact hq _ _ _ he
   |outgrown=>obtain ⟨A,C,B⟩:=he;exact ⟨A,C,hq _ _ _ B⟩
  |row x args=>exact ⟨h.1,h.2.mono fun v w'' he=>hn _ _ he⟩
  |round l f tmps asl bd=>
   refine ⟨h.1,h.2.mono fun e w'' he=>?_⟩;cases e with
   |returned v=>exact hn _ _ he
   |panicked ch=>exact hq _ _ _ he
   |outgrown=>obtain ⟨A,C,B⟩:=he;exact ⟨A,C,hq _ _ _ B⟩
  |_=>simp [Oper.uponIn] at h
theorem oP {F:Fence} {n:Nat} {o:Oper} {w:World} {Q Q':du} (h:o.wpIn F n P a w N Q) (hn:∀ a w,N a w→N' a w) (hq:∀ e a w,Q e a w→Q' e a w):o.wpIn F n P a w N' Q':=
 ⟨h.1,Ef hn hq h.2⟩
theorem Hb {Q:du} (l:List Oper): ∀ (k:Nat) (a:Act) (w:World),(∀ j,l[j]? =ops[k+j]?)→uJ r P ops Q l a w→wpOpsIn (Fw r) 0 P ops Q (range' k l.length) a w:=by
 induction l with
 |nil=>intro k a w _ h;simpa [wpOpsIn,uJ] using h
 |cons o l ih=>
  intro k a w hl h;have A:ops[k]? =some o:=by simpa using (hl 0).symm
  have hl': ∀ j,l[j]? =ops[k+1+j]? :=fun j=>by have:=hl (j+1);simpa [ABS,ACK 1 j] using this
  simp only [y3,List.range'_succ,wpOpsIn,A];simp only [uJ] at h;split at h
  ·rename_i hw;rw [c0 hw];exact oP h (fun a w=>ih _ a w hl') (fun _ _ _ h=>h)
  ·rename_i hw;rw [c1 hw];exact ⟨fun _ _=>trivial,ih _ _ _ hl' h⟩
theorem Ns {E:fJ} {Q:du} {D:iF} {L:dJ} {C:List au} (h:RJ E ops Q ops.toList D L C):WJ E (.region id ops false) Q D L C:=by
 intro a w hf hs;refine wpIn_region ?_;have:=Hb (r:=E.r) (P:=E.P) (Q:=Q) ops.toList 0 a w sm (h a w hf hs)
 rwa [List.range_eq_range',← ABH]
theorem bG {E:fJ} {Q:du} {D:iF} {L:dJ} {C:List au} (h:KJ E (Q .normal) D L C):RJ E ops Q [] D L C:=h
theorem Xe {E:fJ} {x y:Code} {Q:du} {D:iF} {L:dJ} {C:List au}
 (h: ∀ K:Act→World→Prop,(∀ D L C,WJ E y Q D L C→KJ E K D L C)→WJ E x (Exit.then K Q) D L C):WJ E (.seq x y) Q D L C:=
 fun a w hf hs=>wpIn_seq (h _ (fun _ _ _ hy a w hf hs=>hy a w hf hs) a w hf hs)
theorem aL {E:fJ} {Q:du} {D:iF} {L:dJ} {C:List au} (h:KJ E K D L C):KJ E (Exit.then K Q .normal) D L C:=h
theorem Gl {E:fJ} {Q:du} {D:iF} {L:dJ} {C:List au} (h:KJ E (Q .normal) D L C):KJ E (Exit.inBlock id Q (.exit id)) D L C:=fun a w hf hs=>by
 simp only [Exit.inBlock,ACd];exact h a w hf hs
theorem Dt {E:fJ} {id':Nat} {Q:du} {D:iF} {L:dJ} {C:List au} (hne:beq id' id=false) (h:KJ E (Q (.exit id')) D L C):KJ E (Exit.inBlock id Q (.exit id')) D L C:=fun a w hf hs=>by
 have:id'≠id:=fun e=>by subst e;simp at hne
 simp only [Exit.inBlock,this,AA0];exact h a w hf hs
theorem UX {E:fJ} {Q:du} {D:iF} {L:dJ} {C:List au} (h:KJ E (Q .normal) D L C):WJ E .skip Q D L C:=fun a w hf hs=>wpIn_skip (h a w hf hs)
theorem YW {E:fJ} {Q:du} {D:iF} {L:dJ} {C:List au} (h:KJ E (Q .ret) D L C):WJ E .ret Q D L C:=fun a w hf hs=>wpIn_ret (h a w hf hs)
theorem Ws {E:fJ} {Q:du} {D:iF} {L:dJ} {C:List au} (h:KJ E (Q (.exit id)) D L C):WJ E (.exit id) Q D L C:=fun a w hf hs=>wpIn_exit (h a w hf hs)
theorem S4 {E:fJ} {Q:du} {D:iF} {L:dJ} {C:List au} (h:WJ E c (Exit.inBlock id Q) D L C):WJ E (.block id c) Q D L C:=fun a w hf hs=>wpIn_block (h a w hf hs)
theorem bY {E:fJ} {c:Operand} {x y:Code} {Q:du} {D:iF} {L:dJ} {C:List au} (hc:ev L c=some (.bool b)) (h1:b=true→WJ E x Q D L C) (h2:b=false→WJ E y Q D L C):WJ E (.cond c x y) Q D L C:=by
 intro a w hf hs;refine wpIn_cond_split (hf.ev hc) (fun hb=>h1 hb a w hf hs) (fun hb=>h2 hb a w hf hs)
theorem Km {E:fJ} {c:Operand} {x y:Code} {Q:du} {D:iF} {L:dJ} {C:List au} (hc:ev L c=some (.bool true)) (h1:WJ E x Q D L C):WJ E (.cond c x y) Q D L C:=
 bY hc (fun _=>h1) (fun h=>by cases h)
theorem HG {E:fJ} {c:Operand} {x y:Code} {Q:du} {D:iF} {L:dJ} {C:List au} (hc:ev L c=some (.bool false)) (h1:WJ E y Q D L C):WJ E (.cond c x y) Q D L C:=
 bY hc (fun h=>by cases h) (fun _=>h1)
theorem j7 {E:fJ} {D:iF} {L L':dJ} {C C':List au} (hL:cV L L') (hC:∀ w,St E.S E.w0 C w→St E.S E.w0 C' w) (h:KJ E K D L' C'):KJ E K D L C:=
 fun a w hf hs=>h a w (hf.sub hL) (hC w hs)
/-- A loop: a relation over a ghost of whatever type, a measure on it. -/
theorem V2 {E:fJ} {Q:du} {D:iF} {L:dJ} {C:List au} (Li:ι→dJ) (Ci:ι→List au) (μ:ι→Nat) (x0:ι) (h0:cV L (Li x0)) (hC:∀ w,St E.S E.w0 C w→St E.S E.w0 (Ci x0) w) (round:∀ x (J:Act→World→Prop),(∀ y D' L' C',D'=D→μ y<μ x→cV L' (Li y)→(∀ w,St E.S E.w0 C' w→St E.S E.w0 (Ci y) w)→KJ E J D' L' C')→WJ E c (Exit.then J Q) D (Li x) (Ci x)):WJ E (.loop c) Q D L C:=by
 intro a w hf hs;have H: ∃ x,Fr E.n D (Li x) a∧St E.S E.w0 (Ci x) w:=⟨x0,hf.sub h0,hC w hs⟩;clear hf hs;have key: ∀ (m:Nat) (a:Act) (w:World),(∃ x,μ x=m∧Fr E.n D (Li x) a∧St E.S E.w0 (Ci x) w)→(Code.loop c).wpIn (Fw E.r) 0 E.P Q a w:=by
  intro m a w hx;refine wpIn_loop (fun a w=> ∃ x,Fr E.n D (Li x) a∧St E.S E.w0 (Ci x) w) (fun a w=>leastOf fun k=> ∃ x,μ x=k∧Fr E.n D (Li x) a∧St E.S E.w0 (Ci x) w) (by obtain ⟨x,_,h⟩:=hx;exact ⟨x,h⟩) ?_;intro a w hx;have F: ∃ k,∃ x,μ x=k∧Fr E.n D (Li x) a∧St E.S E.w0 (Ci x) w:=by obtain ⟨x,h⟩:=hx;exact ⟨_,x,rfl,h⟩
  obtain ⟨x,K,AA,M⟩:=(leastOf_spec F).1;refine round x _ ?_ a w AA M;intro y D' L' C' hD G A B a' w' hf' hs';subst hD;refine ⟨⟨y,hf'.sub A,B _ hs'⟩,?_⟩;rw [← K];exact ACY ((leastOf_spec ⟨_,y,U,hf'.sub A,B _ hs'⟩).2 _ ⟨y,U,hf'.sub A,B _ hs'⟩) G
 obtain ⟨x,h⟩:=H;exact key _ a w ⟨x,U,h⟩
end
variable {Q:du} {D:iF} {L L':dJ} {A B A' A0:au} {S:BS} {C C' Cp C1 C2:List au} {F:dJ→List au→Prop} {E:fJ} {J:Nat→au→Prop} {Z:au→Prop}
section
open Go.RowKit
/-- An operation that yields v, whatever else holds; the state stays. -/
def SD (E:fJ) (ops:Array Oper) (o:Oper) (D:iF) (L:dJ) (C:List au) (v:Value):Prop:=
 ∀ a w,Fr E.n D L a→St E.S E.w0 C w→
  (Region.wanted o (yielded ops a.tmps)=true∧o.wpIn (Fw E.r) 0 E.P a w (fun a' w'=>a'=a.put o.dst v∧ed no w w') (fun _ _ _=>False))∨
  (Region.wanted o (yielded ops a.tmps)=false∧v=undef)
/-- in the text's order -/
theorem XK (h:SD E ops o D L C v) (ho:o.dst=some d) (hd:blt d E.n=true) (k:RJ E ops Q rest D ((d,v)::L) C):RJ E ops Q (o::rest) D L C:=by
 intro a w hf hs;have hd':d<E.n:=by rw [← u7];exact hd
 unfold uJ;rcases h a w hf hs with ⟨hw,hh⟩|⟨hw,rfl⟩
 ·rw [c0 hw];refine oP hh (fun a' w' ⟨ha,hs'⟩=>?_) (fun _ _ _ hF=>hF.elim);subst ha;rw [ho];exact k _ _ (hf.put hd' v) (hs.same hs')
 ·rw [c1 (by simp [hw]),ho];exact k _ _ (hf.put hd' _) hs
/-- the operations in the text's order, each with what it yields -/
def DJ (E:fJ) (ops:Array Oper) (D:iF) (C:List au) (F:dJ→Prop):List Oper→dJ→Prop
 |[],L=>F L
 |o::rest,L=> ∃ d v,o.dst=some d∧d<E.n∧SD E ops o D L C v∧DJ E ops D C F rest ((d,v)::L)
theorem Zv {F:dJ→Prop} (h:SD E ops o D L C v) (ho:o.dst=some d) (hd:blt d E.n=true) (k:DJ E ops D C F rest ((d,v)::L)):DJ E ops D C F (o::rest) L:=
 ⟨d,v,ho,by rw [← u7];exact hd,h,k⟩
/-- a set of numbers that is closed downwards -/
def yh (ops:Array Oper) (S:Nat→Prop) (j:Nat):Prop:= ∀ o e,ops[j]? =some o→e∈o.after→Region.binds .any e=true→S e.on
/-- who stands before an operation, by the edges: a set of numbers as the bits of one -/
def WO (o:Oper) (acc:Array Nat):Nat:=o.after.toList.foldl (fun s e=>if Region.binds .any e then s ||| (2^e.on ||| acc.getD e.on 0) else s) 0
def VJ:List Oper→Array Nat→Array Nat
 |[],acc=>acc
 |o::os,acc=>VJ os (acc.push (WO o acc))
def sO (ops:Array Oper):Array Nat:=VJ ops.toList #[]
def jA (m:Array Nat) (j i:Nat):Bool:=(m.getD i 0).testBit j
theorem NV (acc:Array Nat) (j:Nat): ∀ (es:List Edge) (s:Nat),(es.foldl (fun s e=>if Region.binds .any e then s ||| (2^e.on ||| acc.getD e.on 0) else s) s).testBit j=true→
 s.testBit j=true∨ ∃ e∈es,Region.binds .any e=true∧(e.on=j∨(acc.getD e.on 0).testBit j=true):=by
 intro es
 induction es with
 |nil=>intro s h;exact .inl h
 |cons e es ih=>
  intro s h;simp only [ACN] at h;rcases ih _ h with A|⟨e',he',hb,hc⟩
  ·by_cases hb:Region.binds .any e=true
   ·rw [c0 hb] at A;simp only [Nat.testBit_or,ABE] at A;rcases A with A|A|A
    ·exact .inl A
    ·refine .inr ⟨e,sm,hb,.inl ?_⟩;rw [Nat.testBit_two_pow] at A;exact s6 A
    ·exact .inr ⟨e,sm,hb,.inr A⟩
   ·rw [c1 hb] at A;exact .inl A
  ·exact .inr ⟨e',by simp [he'],hb,hc⟩
theorem D_ {S:Nat→Prop} (hS:∀ j,S j→yh ops S j): ∀ (os:List Oper) (acc:Array Nat),(∀ k,os[k]? =ops[acc.size+k]?)→
 (∀ i j,(acc.getD i 0).testBit j=true→yh ops S i→S j)→ ∀ i j,((VJ os acc).getD i 0).testBit j=true→yh ops S i→S j:=by
 intro os
 induction os with
 |nil=>intro acc _ h;exact h
 |cons o os ih=>
  intro acc hk h;refine ih _ (fun k=>by have:=hk (k+1);simp only [Array.size_push];rw [show acc.size+1+k=acc.size+(k+1) from by omega];simpa using this) ?_;intro i j hb hd;have D:ops[acc.size]? =some o:=by simpa using (hk 0).symm
  simp only [n6,Array.getElem?_push] at hb;by_cases e:i=acc.size
  ·subst e;simp only [ACd,ABa] at hb;rcases NV acc j _ _ hb with A|⟨e,he,B,A⟩
   ·simp at A
   ·have C:S e.on:=hd o e D (by simpa using he) B;rcases A with A|A
    ·exact A▸C
    ·exact h _ _ A (hS _ C)
  ·rw [c1 e] at hb;exact h i j (by rw [n6];exact hb) hd
theorem kl {S:Nat→Prop} (hS:∀ j,S j→yh ops S j) (h:jA (sO ops) j i=true) (hd:yh ops S i):S j:=
 D_ hS ops.toList #[] sm (fun i j hb=>by simp at hb) i j h hd
/-- what is asked of a region's first n operations: each writes a slot of its own; whoever writes a slot that another looks at stands before it or behind it by the edges; the rest waits for all that stands before it -/
def ZE (m:Array Nat) (ops:Array Oper) (n:Nat):Bool:=
 ble n ops.size&&
 ((range ops.size).all fun i=>match ops[i]? with
  |none=>false
  |some o=>o.after.toList.all fun e=> !Region.binds .any e||blt e.on i)&&
 ((range n).all fun i=>match ops[i]? with
  |none=>false
  |some o=>o.dst.isSome&& !(match o.op with | .select .. =>true| .defer _=>true|_=>false)&&
   (range n).all fun j=>j==i||match ops[j]? with
    |none=>false
    |some p=>match p.dst with
     |none=>false
     |some d=>o.dst != some d&&(!(o.looksAt ops).contains d||(if j<i then jA m j i else jA m i j)))&&
 ((range' n (ops.size-n)).all fun i=>(range i).all fun j=>jA m j i)
def chk (ops:Array Oper) (n:Nat):Bool:=ZE (sO ops) ops n
structure ZL (ops:Array Oper) (n:Nat):Prop where
 le:n≤ops.size
 EU: ∀ i o e,ops[i]? =some o→e∈o.after→Region.binds .any e=true→e.on<i
 plain: ∀ i o,i<n→ops[i]? =some o→(∀ cs b,o.op≠ .select cs b)∧(∀ c,o.op≠ .defer c)
 apart: ∀ i j o p d,i<n→j<n→j≠i→ops[i]? =some o→ops[j]? =some p→p.dst=some d→o.dst≠some d∧(d∈o.looksAt ops→(j<i∧jA (sO ops) j i=true)∨(i<j∧jA (sO ops) i j=true))
 tail: ∀ i j,n≤i→i<ops.size→j<i→jA (sO ops) j i=true
theorem ZL.of {n:Nat} (h:chk ops n=true):ZL ops n:=by
 simp only [chk,ZE,dq] at h;obtain ⟨⟨⟨AA,F⟩,C⟩,G⟩:=h;have D:n≤ops.size:=ABP AA;rw [dg] at F C G;refine ⟨D,?_,?_,?_,?_⟩
 ·intro i o e ho he hb;have hi:i<ops.size:=(n5.1 ho).1;have:=F i (by simpa using hi);simp only [ho] at this;rw [dg] at this;have:=this e (by simpa using he);rw [hb] at this;simpa using this
 ·intro i o hi ho;have:=C i (by simpa using hi);simp only [ho,dq] at this;refine ⟨fun cs b hh=>?_,fun c hh=>?_⟩<;>simp [hh] at this
 ·intro i j o p d hi hj E ho hp hd;have:=C i (by simpa using hi);simp only [ho,dq] at this;have:=this.2;rw [dg] at this;have:=this j (by simpa using hj);simp only [hp,hd,ABE,dq,ACc,AAM,AB4] at this;rcases this with h|⟨H,A⟩
  ·exact absurd h E
  ·refine ⟨H,fun hm=>?_⟩;rcases A with A|A
   ·simp [hm] at A
   ·by_cases B:j<i
    ·rw [c0 B] at A;exact .inl ⟨B,A⟩
    ·rw [c1 B] at A;exact .inr ⟨I,A⟩
 ·intro i j H A J;have:=G i (by rw [List.mem_range'_1];omega);rw [dg] at this;exact this j (by simpa using J)
/-- the frame, the activation behind the first i operations -/
def D6:List Oper→List Value→Nat→dJ→dJ
 |o::os,v::vs,i+1,L=>D6 os vs i (match o.dst with |some d=>(d,v)::L|none=>L)
 |_,_,_,L=>L
def ng:List Oper→List Value→Nat→Act→Act
 |o::os,v::vs,i+1,a=>ng os vs i (a.put o.dst v)
 |_,_,_,a=>a
theorem DJ.out {F:dJ→Prop}: ∀ (os:List Oper) (L:dJ),DJ E ops D C F os L→
 ∃ vs:List Value,vs.length=os.length∧F (D6 os vs os.length L)∧ ∀ i o,os[i]? =some o→ ∃ d v,o.dst=some d∧d<E.n∧vs[i]? =some v∧SD E ops o D (D6 os vs i L) C v:=by
 intro os
 induction os with
 |nil=>intro L h;exact ⟨[],rfl,h,fun i o ho=>by simp at ho⟩
 |cons o os ih=>
  intro L h;obtain ⟨d,v,ho,hd,B,hk⟩:=h;obtain ⟨vs,hl,hF,A⟩:=ih _ hk;refine ⟨v::vs,by simp [hl],by simpa [D6,ho] using hF,fun i o' ho'=>?_⟩;cases i with
  |zero=>simp at ho';subst ho';exact ⟨d,v,ho,hd,sm,by simpa [D6] using B⟩
  |succ i=>
   obtain ⟨d',v',G,H,AA,J⟩:=A i o' (by simpa using ho');exact ⟨d',v',G,H,by simpa using AA,by simpa [D6,ho] using J⟩
theorem mW {n:Nat}: ∀ (os:List Oper) (vs:List Value) (i:Nat) (L:dJ) (a:Act),(∀ (j:Nat) (o:Oper) (d:Nat),os[j]? =some o→o.dst=some d→d<n)→Fr n D L a→Fr n D (D6 os vs i L) (ng os vs i a):=by
 intro os
 induction os with
 |nil=>intro vs i L a _ h;simpa [D6,ng] using h
 |cons o os ih=>
  intro vs i L a hd h;cases vs with
  |nil=>simpa [D6,ng] using h
  |cons v vs=>
   cases i with
   |zero=>simpa [D6,ng] using h
   |succ i=>
    simp only [D6,ng];refine ih vs i _ _ (fun j o' d ho' hd'=>hd (j+1) o' d (by simpa using ho') hd') ?_;cases ho:o.dst with
    |none=>exact h
    |some d=>exact h.put (hd 0 o d sm ho) v
theorem gK: ∀ (os:List Oper) (vs:List Value) (i:Nat) (a:Act) (t:Nat),(∀ (j:Nat) (o:Oper),j<i→os[j]? =some o→o.dst≠some t)→(ng os vs i a).tmps[t]? =a.tmps[t]? :=by
 intro os
 induction os with
 |nil=>intro vs i a t _;simp [ng]
 |cons o os ih=>
  intro vs i a t h;cases vs with
  |nil=>simp [ng]
  |cons v vs=>
   cases i with
   |zero=>simp [ng]
   |succ i=>
    simp only [ng];rw [ih vs i _ t (fun j o' hj ho'=>h (j+1) o' I (by simpa using ho'))];have A:=h 0 o I sm;cases ho:o.dst with
    |none=>rfl
    |some d=>simp only [Act.put];rw [e5 (fun e=>A (by rw [ho,e]))]
theorem mS: ∀ (os:List Oper) (vs:List Value) (i:Nat) (a:Act) (k:Nat) (p:Oper) (d:Nat) (v:Value),k<i→os[k]? =some p→p.dst=some d→d<a.tmps.size→vs[k]? =some v→
 (∀ (j:Nat) (o:Oper),j<i→j≠k→os[j]? =some o→o.dst≠some d)→(ng os vs i a).tmps[d]? =some v:=by
 intro os
 induction os with
 |nil=>intro vs i a k p d v _ hp;simp at hp
 |cons o os ih=>
  intro vs i a k p d v hk hp A hd hv h;cases vs with
  |nil=>simp at hv
  |cons u vs=>
   cases i with
   |zero=>omega
   |succ i=>
    simp only [ng];cases k with
    |zero=>
     simp at hp hv;subst hp hv;rw [gK os vs i _ d (fun j o' hj ho'=>h (j+1) o' I I (by simpa using ho')),A];simp only [Act.put];rw [c8 hd]
    |succ k=>
     refine ih vs i _ k p d v I (by simpa using hp) A ?_ (by simpa using hv) (fun j o' hj B ho'=>h (j+1) o' I I (by simpa using ho'));cases o.dst<;>simp [Act.put,hd]
theorem Dr (h:a.tmps[t]? =a'.tmps[t]?):a.eval (.tmp t)=a'.eval (.tmp t):=by simp [Act.eval,h]
theorem Bl (h:∀ t∈o.looksAt ops,a.tmps[t]? =a'.tmps[t]?): ∀ x∈o.op.operands,a.eval x=a'.eval x:=by
 intro x hx;cases x with
 |tmp t=>exact Dr (h t (m1 _ (AAD.2 ⟨.tmp t,by simpa using hx,rfl⟩)))
 |_=>rfl
theorem wP (h:∀ t∈o.looksAt ops,a.tmps[t]? =a'.tmps[t]?):Region.wanted o (yielded ops a.tmps)=Region.wanted o (yielded ops a'.tmps):=by
 unfold Region.wanted;cases hg:o.guard with
 |none=>rfl
 |some gw=>
  obtain ⟨g,want⟩:=gw;have hy:yielded ops a.tmps g=yielded ops a'.tmps g:=by
   unfold yielded;cases ht:(ops[g]?).bind (·.dst) with
   |none=>rfl
   |some t=>simp only [r7];rw [h t (AAg _ (by simp [hg,ht]))]
  simp only [hy]
/-- what an operation does hangs on the slots that it looks at alone -/
theorem v9 (h:SD E ops o D L C v) (ho:o.dst=some d) (hd:d<E.n) (hsel:∀ cs b,o.op≠ .select cs b) (hdef:∀ c,o.op≠ .defer c) (hf:Fr E.n D L a') (hl:∀ t∈o.looksAt ops,a.tmps[t]? =a'.tmps[t]?) (hs:St E.S E.w0 C w) (hn:∀ w',ed no w w'→N (a.put (some d) v) w'):
 if Region.wanted o (yielded ops a.tmps) then o.wpIn (Fw E.r) 0 E.P a w N Q else (∀ f,o.about E.P w a.eval=some f→(Fw E.r).fn f)∧N (a.put o.dst undef) w:=by
 rw [wP hl];rcases h a' w hf hs with ⟨hw,hh⟩|⟨hw,rfl⟩
 ·rw [c0 hw];refine ⟨fun _ _=>trivial,?_⟩;have A:=hh.2;rw [AA7 _ _ _ hdef] at A ⊢;rw [execOp_congr (ρ:=a.eval) (ρ':=a'.eval) o hsel (Bl hl)];have F: ∀ u,a'.put o.dst u=a'.put o.dst v→u=v:=by
   intro u hu;rw [ho] at hu;have:=c7 (fun b:Act=>b.tmps[d]?) hu;simp only [Act.put] at this;rw [c8 (by rw [hf.size];exact hd),c8 (by rw [hf.size];exact hd)] at this;injection this
  have B: ∀ u w',(a'.put o.dst u=a'.put o.dst v∧ed no w w')→N (a.put o.dst u) w':=by
   rintro u w' ⟨hu,hs'⟩;rw [F u hu,ho];exact hn w' hs'
  generalize (execOp a'.eval o).run E.P w=res at A
  cases res with
  |halt x w'=>cases x<;>simp [Oper.uponIn] at A
  |ok x w'=>
   cases x with
   |value u=>exact B u w' A
   |skip=>exact B _ w' A
   |defer dd=>
    have G:({a' with defers:=dd::a'.defers}:Act).put o.dst undef=a'.put o.dst v:=A.1;rw [ho] at G;have:=c7 (fun b:Act=>b.defers.length) G;simp [Act.put] at this
   |enter f args=>
    refine ⟨A.1,A.2.mono fun e w'' he=>?_⟩;cases e with
    |returned u=>exact B u w'' he
    |panicked ch=>exact he.elim
    |outgrown=>obtain ⟨_,_,hF⟩:=he;exact hF.elim
   |row x args=>exact ⟨A.1,A.2.mono fun u w'' he=>B u w'' he⟩
   |round l f tmps asl bd=>
    refine ⟨A.1,A.2.mono fun e w'' he=>?_⟩;cases e with
    |returned u=>exact B u w'' he
    |panicked ch=>exact he.elim
    |outgrown=>obtain ⟨_,_,hF⟩:=he;exact hF.elim
   |_=>simp [Oper.uponIn] at A
 ·rw [c1 (by simp [hw])];refine ⟨fun _ _=>trivial,?_⟩;rw [ho];exact hn w (ed.refl _ _)
theorem Rj (h:SD E ops o D L C v) (ho:o.dst=some d) (hd:d<E.n) (hsel:∀ cs b,o.op≠ .select cs b) (hdef:∀ c,o.op≠ .defer c) (hf:Fr E.n D L a') (hl:∀ t∈o.looksAt ops,a.tmps[t]? =a'.tmps[t]?) (hs:St E.S E.w0 C w) (hn:∀ w',St E.S E.w0 C w'→N (a.put (some d) v) w'):
 if Region.wanted o (yielded ops a.tmps) then o.wpIn (Fw E.r) 0 E.P a w N Q else (∀ f,o.about E.P w a.eval=some f→(Fw E.r).fn f)∧N (a.put o.dst undef) w:=
 v9 h ho hd hsel hdef hf hl hs (fun w' hk=>hn w' (hs.same hk))
def Gv (n:Nat) (listed:Array Bool):List Nat:=(range n).filter fun i=> !listed.getD i false
theorem p7 {n:Nat}:i∈Gv n listed↔i<n∧listed.getD i false=false:=by simp [Gv]
theorem tG (hi:i<listed.size) (d:Bool):(listed.setIfInBounds i true).getD j d=if j=i then true else listed.getD j d:=by
 simp only [n6];by_cases e:j=i
 ·subst e;rw [c8 hi];simp
 ·rw [e5 (fun h=>e h.symm)];simp [e]
theorem Tb {n:Nat} (hi:i<listed.size):Gv n (listed.setIfInBounds i true)=(Gv n listed).filter (fun j=>j != i):=by
 unfold Gv;rw [ABn];refine ABT fun j _=>?_;rw [tG hi];by_cases e:j=i<;>simp [e]
theorem C_ {n:Nat} (hi:i<listed.size) (hm:i∈Gv n listed):(Gv n (listed.setIfInBounds i true)).length<(Gv n listed).length:=by
 rw [Tb hi];exact ABz.2 ⟨i,hm,sm⟩
section
variable {ops:Array Oper} {listed:Array Bool}
theorem vY (hs:listed.size=ops.size) (hi:i<ops.size) (hu:listed.getD i false=false) (hd:yh ops (fun k=>listed.getD k false=true) i):i∈Region.ready .any ops listed:=by
 rw [mem_ready];obtain ⟨o,ho⟩: ∃ o,ops[i]? =some o:=⟨ops[i],AAN hi⟩;refine ⟨?_,o,ho,?_⟩
 ·rw [n6] at hu ⊢;rw [AAN I] at hu ⊢;exact hu
 ·intro e he hb;exact hd o e ho he hb
theorem od (hs:listed.size=ops.size) (h:i∈Region.ready .any ops listed):i<ops.size∧listed.getD i false=false∧yh ops (fun k=>listed.getD k false=true) i:=by
 obtain ⟨hu,o,ho,A⟩:=mem_ready.1 h;have hi:i<ops.size:=(n5.1 ho).1;refine ⟨hi,?_,fun o' e ho' he hb=>?_⟩
 ·rw [n6] at hu ⊢;rw [AAN I] at hu ⊢;exact hu
 ·rw [ho] at ho';cases ho';exact A e he hb
end
section
variable {r:Option Nat} {P:Program} {ops:Array Oper} {Q:du} {n:Nat}
theorem EN (hc:ZL ops n): ∀ (fuel:Nat) (listed:Array Bool) (a:Act) (w:World) (m:Nat),listed.size=ops.size→n≤m→(∀ i,i<ops.size→(listed.getD i false=true↔i<m))→(Gv ops.size listed).length≤fuel→
 uJ r P ops Q (ops.toList.drop m) a w→wpAnyIn (Fw r) 0 P .any ops Q fuel listed a w:=by
 intro fuel
 induction fuel with
 |zero=>
  intro listed a w m C AA hm hf h;have F: ∀ i,i<ops.size→listed.getD i false=true:=fun i hi=>by
   cases hg:listed.getD i false with
   |true=>rfl
   |false=>
    have:i∈Gv ops.size listed:=p7.2 ⟨hi,hg⟩;have:=AA5 this;omega
  have T:ops.size≤m:=by
   rcases r4 m ops.size with A|H
   ·have:=(hm m A).1 (F m A);omega
   ·exact H
  refine ⟨?_,?_⟩
  ·rw [AAW];intro i hi;obtain ⟨L,AB,_⟩:=od C hi;rw [F i L] at AB;cases AB
  ·rw [ABK (by simpa using T)] at h;exact h
 |succ fuel ih=>
  intro listed a w m C AA hm hf h;have M: ∀ j,j<ops.size→listed.getD j false=true→yh ops (fun k=>listed.getD k false=true) j:=fun j hj hl o e ho he hb=>by
   have L:=hc.EU j o e ho he hb;have AB:=(hm j hj).1 hl;exact (hm e.on I).2 I
  rcases r4 m ops.size with A|H
  ·obtain ⟨o,ho⟩: ∃ o,ops[m]? =some o:=⟨ops[m],AAN A⟩;have R:m∈Region.ready .any ops listed:=vY C A (by
    cases hg:listed.getD m false with
    |false=>rfl
    |true=>have:=(hm m A).1 hg;omega) (fun o' e ho' he hb=>(hm e.on (by have:=hc.EU m o' e ho' he hb;omega)).2 (hc.EU m o' e ho' he hb))
   refine ⟨fun K=>absurd R (by rw [K];simp),fun i hi=>?_⟩;obtain ⟨D,B,N⟩:=od C hi;have O:i=m:=by
    have L:m≤i:=by
     rcases r4 i m with hlt'|hge'
     ·have:=(hm i D).2 hlt';rw [this] at B;cases B
     ·exact hge'
    rcases r4 m i with AB|AB
    ·have J:=hc.tail i m I D AB;have hS:listed.getD m false=true:=kl (S:=fun k=>listed.getD k false=true) (fun j hj=>by
      rcases r4 j ops.size with hj'|hj'
      ·exact M j hj' hj
      ·intro o' e ho';rw [ABL hj'] at ho';cases ho') J N
     have:=(hm m A).1 hS;omega
    ·omega
   subst O;have G:ops.toList.drop i=o::ops.toList.drop (i+1):=by
    rw [u1 (by simpa using A)];congr 1;have:=(n5.1 ho).2;simpa using this
   rw [G] at h;simp only [uJ] at h;unfold wpOpIn;simp only [ho];have E: ∀ a' w',uJ r P ops Q (ops.toList.drop (i+1)) a' w'→wpAnyIn (Fw r) 0 P .any ops Q fuel (listed.setIfInBounds i true) a' w':=fun a' w' h'=>by
    refine ih _ a' w' (i+1) (by simpa using C) I (fun k hk=>?_) ?_ h'
    ·rw [tG I];by_cases e:k=i
     ·subst e;simp
     ·simp only [e,AA0];rw [hm k hk];omega
    ·have:=C_ (n:=ops.size) I (p7.2 ⟨D,B⟩);omega
   split at h
   ·rename_i hw;rw [c0 hw];exact oP h E (fun _ _ _ h=>h)
   ·rename_i hw;rw [c1 hw];exact ⟨fun _ _=>trivial,E _ _ h⟩
  ·refine ⟨fun _=>?_,fun i hi=>?_⟩
   ·rw [ABK (by simpa using H)] at h;exact h
   ·obtain ⟨D,B,_⟩:=od C hi;have:=(hm i D).2 I;rw [this] at B;cases B
end
/-- A REGION WHOSE ORDER IS OPEN: its first n operations yield, each by itself, what they yield in the text's order; what stands behind waits for them. -/
theorem cL (hm:E.P.follows .mixedOrders=true) (n:Nat) (hc:chk ops n=true) (h:DJ E ops D C (fun L'=>RJ E ops Q (ops.toList.drop n) D L' C) (ops.toList.take n) L):WJ E (.region id ops true) Q D L C:=by
 have hc:=ZL.of hc;intro O w0 J A8;refine wpIn_region_any hm ?_;have A9:St E.S E.w0 C ({w0 with drawn:=w0.drawn+1}:World):=A8.same (ed.drew no w0);obtain ⟨vs,B9,hF,AB⟩:=h.out;have B7:(ops.toList.take n).length=n:=by rw [k5];have:=hc.le;simp;omega
 have B: ∀ i o,(ops.toList.take n)[i]? =some o↔(i<n∧ops[i]? =some o):=fun i o=>by
  rw [ABl];by_cases hi:i<n<;>simp [hi]
 have Y: ∀ (j:Nat) (o:Oper) (d:Nat),(ops.toList.take n)[j]? =some o→o.dst=some d→d<E.n:=fun j o d ho hd=>by
  obtain ⟨d',v,G,h2,_⟩:=AB j o ho;rw [G] at hd;cases hd;exact h2
 -- the state of a partial order
 have key: ∀ (fuel:Nat) (listed:Array Bool) (a:Act) (w:World),listed.size=ops.size→(Gv ops.size listed).length≤fuel→(∀ j,listed.getD j false=true→yh ops (fun k=>listed.getD k false=true) j)→
  (∀ j,n≤j→listed.getD j false=false)→a.defers=D→a.tmps.size=E.n→St E.S E.w0 C w→
  (∀ t,(∀ j o,j<n→ops[j]? =some o→listed.getD j false=true→o.dst≠some t)→a.tmps[t]? =O.tmps[t]?)→
  (∀ j o d,j<n→ops[j]? =some o→listed.getD j false=true→o.dst=some d→a.tmps[d]? =vs[j]?)→
  wpAnyIn (Fw E.r) 0 E.P .any ops Q fuel listed a w:=by
  intro fuel
  induction fuel with
  |zero=>
   intro listed a w T hu R N hd hz hs AA f;have hall': ∀ i,i<ops.size→listed.getD i false=true:=fun i hi=>by
    cases hg:listed.getD i false with
    |true=>rfl
    |false=>
     have:=AA5 (p7.2 ⟨hi,hg⟩);omega
   have hn:n=ops.size:=by
    rcases r4 n ops.size with g|A7
    ·have G:=hall' n g;have h2:=N n (c9 _);rw [G] at h2;cases h2
    ·exact Nat.le_antisymm hc.le A7
   have W:Fr E.n D (D6 (ops.toList.take n) vs (ops.toList.take n).length L) a:=by
    have G:=mW (ops.toList.take n) vs (ops.toList.take n).length L O Y J;refine ⟨hd,hz,fun t v hv=>?_⟩;rw [← G.at_ t v hv];by_cases hw: ∃ j o,j<n∧ops[j]? =some o∧o.dst=some t
    ·obtain ⟨j,o,hj,ho,A⟩:=hw;obtain ⟨d',v',V,m,s,_⟩:=AB j o ((B j o).2 ⟨hj,ho⟩);rw [A] at V;cases V;rw [f j o t hj ho (hall' j I) A,s];refine (mS (ops.toList.take n) vs _ O j o t v' I ((B j o).2 ⟨hj,ho⟩) A (by rw [J.size];exact m) s (fun k p hk c hp=>?_)).symm;obtain ⟨hk',hp'⟩:=(B k p).1 hp;exact (hc.apart k j p o t hk' hj (ABO c) hp' ho A).1
    ·rw [AA t (fun j o hj ho _ A=>hw ⟨j,o,hj,ho,A⟩)];refine (gK (ops.toList.take n) vs _ O t (fun j o _ ho A=>?_)).symm;obtain ⟨hj,ho'⟩:=(B j o).1 ho;exact hw ⟨j,o,hj,ho',A⟩
   refine EN hc 0 listed a w n T (c9 _) (fun i hi=>⟨fun _=>by omega,fun _=>hall' i hi⟩) hu (hF a w W hs)
  |succ fuel ih=>
   intro listed a w T hu R N hd hz hs AA f;by_cases H: ∀ i,i<n→listed.getD i false=true
   ·have W:Fr E.n D (D6 (ops.toList.take n) vs (ops.toList.take n).length L) a:=by
     have G:=mW (ops.toList.take n) vs (ops.toList.take n).length L O Y J;refine ⟨hd,hz,fun t v hv=>?_⟩;rw [← G.at_ t v hv];by_cases hw: ∃ j o,j<n∧ops[j]? =some o∧o.dst=some t
     ·obtain ⟨j,o,hj,ho,A⟩:=hw;obtain ⟨d',v',V,m,s,_⟩:=AB j o ((B j o).2 ⟨hj,ho⟩);rw [A] at V;cases V;rw [f j o t hj ho (H j hj) A,s];refine (mS (ops.toList.take n) vs _ O j o t v' I ((B j o).2 ⟨hj,ho⟩) A (by rw [J.size];exact m) s (fun k p hk c hp=>?_)).symm;obtain ⟨hk',hp'⟩:=(B k p).1 hp;exact (hc.apart k j p o t hk' hj (ABO c) hp' ho A).1
     ·rw [AA t (fun j o hj ho _ A=>hw ⟨j,o,hj,ho,A⟩)];refine (gK (ops.toList.take n) vs _ O t (fun j o _ ho A=>?_)).symm;obtain ⟨hj,ho'⟩:=(B j o).1 ho;exact hw ⟨j,o,hj,ho',A⟩
    refine EN hc (fuel+1) listed a w n T (c9 _) (fun i hi=>⟨fun hl=>?_,fun hl=>H i hl⟩) hu (hF a w W hs);rcases r4 i n with G|G
    ·exact G
    ·rw [N i G] at hl;cases hl
   ·refine ⟨fun A1=>?_,fun i hi=>?_⟩
    ·exfalso
     -- the least that is not listed is ready
     have A5: ∃ i,i<n∧listed.getD i false=false:=by
      rcases Classical.em (∃ i,i<n∧listed.getD i false=false) with G|G
      ·exact G
      ·exact absurd (fun i hi=>by
        cases hg:listed.getD i false with
        |true=>rfl
        |false=>exact absurd ⟨i,hi,hg⟩ G) H
     obtain ⟨i,hi,Ap⟩:=exists_least A5;have hr:i∈Region.ready .any ops listed:=vY T (by have:=hc.le;omega) hi.2 (fun o e ho he hb=>by
      have G:=hc.EU i o e ho he hb;cases hg:listed.getD e.on false with
      |true=>exact hg
      |false=>exact absurd (Ap e.on ⟨I,hg⟩) I)
     rw [A1] at hr;cases hr
    ·obtain ⟨u,Z,x⟩:=od T hi;have b:i<n:=by
      rcases r4 i n with G|G
      ·exact G
      ·exfalso;refine H fun j hj=>?_;exact kl (S:=fun k=>listed.getD k false=true) R (hc.tail i j G u I) x
     obtain ⟨o,ho⟩: ∃ o,ops[i]? =some o:=⟨ops[i],AAN u⟩;obtain ⟨d,v,l,AO,Bv,BD⟩:=AB i o ((B i o).2 ⟨b,ho⟩);obtain ⟨A2,AC⟩:=hc.plain i o b ho;have A6:=mW (ops.toList.take n) vs i L O Y J;have z: ∀ t∈o.looksAt ops,a.tmps[t]? =(ng (ops.toList.take n) vs i O).tmps[t]? :=by
      intro t Bt;by_cases hw: ∃ j p,j<n∧j≠i∧ops[j]? =some p∧p.dst=some t
      ·obtain ⟨j,p,hj,c,hp,F⟩:=hw;obtain ⟨d',v',V,m,s,_⟩:=AB j p ((B j p).2 ⟨hj,hp⟩);rw [F] at V;cases V;have A4:=hc.apart i j o p t b hj c ho hp F;rcases A4.2 Bt with ⟨g,X⟩|⟨g,X⟩
       ·have hS:listed.getD j false=true:=kl (S:=fun k=>listed.getD k false=true) R X x;rw [f j p t hj hp hS F,s];refine (mS (ops.toList.take n) vs i O j p t v' g ((B j p).2 ⟨hj,hp⟩) F (by rw [J.size];exact m) s (fun k q hk hne' hq=>?_)).symm;obtain ⟨hk',hq'⟩:=(B k q).1 hq;exact (hc.apart k j q p t hk' hj (ABO hne') hq' hp F).1
       ·have A0:listed.getD j false=false:=by
         cases hg:listed.getD j false with
         |false=>rfl
         |true=>
          have:=kl (S:=fun k=>listed.getD k false=true) R X (R j hg);rw [this] at Z;cases Z
        refine (AA t (fun k q hk hq y M=>?_)).trans (gK (ops.toList.take n) vs i O t (fun k q hk hq M=>?_)).symm
        ·by_cases e:k=j
         ·subst e;rw [y] at A0;cases A0
         ·exact (hc.apart k j q p t hk hj (ABO e) hq hp F).1 M
        ·obtain ⟨hk',hq'⟩:=(B k q).1 hq;exact (hc.apart k j q p t hk' hj I hq' hp F).1 M
      ·refine (AA t (fun k q hk hq y M=>?_)).trans (gK (ops.toList.take n) vs i O t (fun k q hk hq M=>?_)).symm
       ·by_cases e:k=i
        ·subst e;rw [y] at Z;cases Z
        ·exact hw ⟨k,q,hk,e,hq,M⟩
       ·obtain ⟨hk',hq'⟩:=(B k q).1 hq;exact hw ⟨k,q,hk',I,hq',M⟩
     unfold wpOpIn;simp only [ho];refine Rj BD l AO A2 AC A6 z hs (fun w' hs'=>?_);have K: ∀ j,(listed.setIfInBounds i true).getD j false=if j=i then true else listed.getD j false:=fun j=>tG I false
     refine ih _ _ w' (by simpa using T) (by have:=C_ (n:=ops.size) (i:=i) (listed:=listed) I (p7.2 ⟨u,Z⟩);omega) ?_ ?_ hd (by simp [Act.put,hz]) hs' ?_ ?_
     ·intro j hj o' e ho' he hb;rw [K] at hj ⊢;by_cases V:e.on=i
      ·simp [V]
      ·simp only [V,AA0];by_cases m:j=i
       ·subst m;exact x o' e ho' he hb
       ·simp only [m,AA0] at hj;exact R j hj o' e ho' he hb
     ·intro j hj;rw [K,c1 I];exact N j hj
     ·intro t ht;have BP:d≠t:=fun e=>by subst e;exact ht i o b ho (by rw [K];simp) l
      simp only [Act.put];rw [e5 BP];refine AA t (fun j p hj hp hl=>ht j p hj hp (by rw [K];split<;>simp [hl]))
     ·intro j p d' hj hp hl F;rw [K] at hl;simp only [Act.put];by_cases e:j=i
      ·subst e;rw [ho] at hp;cases hp;rw [l] at F;cases F;rw [c8 (by rw [hz];exact AO),Bv]
      ·simp only [e,AA0] at hl;have:=(hc.apart i j o p d' b hj e ho hp F).1;rw [e5 (fun h=>this (by rw [l,h]))];exact f j p d' hj hp hl F
 refine key ops.size (replicate ops.size false) O _ sm ?_ ?_ ?_ J.defers J.size A9 (fun _ _=>rfl) ?_
 ·unfold Gv;exact c6 (u2 _ _) sm
 ·intro j hj;simp only [n6,AAU] at hj;split at hj<;>simp at hj
 ·intro j _;simp only [n6,AAU];split<;>rfl
 ·intro j o d _ _ hl;simp only [n6,AAU] at hl;split at hl<;>simp at hl
theorem cy (h:RJ E ops Q rest D L C):DJ E ops D C (fun L'=>RJ E ops Q rest D L' C) [] L:=h
theorem SD.sub (hs:cV L L') (h:SD E ops o D L' C v):SD E ops o D L C v:=fun a w hf A=>h a w (hf.sub hs) A
theorem cV.head (hs:cV L L') (d:Nat) (v:Value):cV ((d,v)::L) ((d,v)::L'):=fun t u hu=>by
 by_cases e:t=d
 ·subst e;simpa [lookup] using hu
 ·have he:(t==d)=false:=by simpa using e
  simp only [lookup,he] at hu ⊢;exact hs t u hu
theorem DJ.sub: ∀ {os:List Oper} {L L':dJ},cV L L'→DJ E ops D C (fun L'=>RJ E ops Q rest D L' C) os L'→DJ E ops D C (fun L'=>RJ E ops Q rest D L' C) os L:=by
 intro os
 induction os with
 |nil=>intro L L' hs h a w hf B;exact h a w (hf.sub hs) B
 |cons o os ih=>
  intro L L' hs h;obtain ⟨d,v,ho,hd,A,hk⟩:=h;exact ⟨d,v,ho,hd,A.sub hs,ih (hs.head d v) hk⟩
theorem iI {os:List Oper} (h:L.lookup t=some (.bool b)) (h1:b=true→DJ E ops D C (fun L'=>RJ E ops Q rest D L' C) os ((t,.bool true)::L)) (h2:b=false→DJ E ops D C (fun L'=>RJ E ops Q rest D L' C) os ((t,.bool false)::L)):DJ E ops D C (fun L'=>RJ E ops Q rest D L' C) os L:=by
 have A: ∀ v:Bool,b=v→cV L ((t,.bool v)::L):=fun v hv=>cV.cons (hv▸h) (fun _ _ h=>h);cases b
 ·exact DJ.sub (A _ U) (h2 U)
 ·exact DJ.sub (A _ U) (h1 U)
end
section
open Go.RowKit
def kz (ops:Array Oper) (L:dJ) (g:Option (Nat×Bool)):Bool:=
 match g with
 |none=>true
 |some (j,b)=>match (ops[j]?).bind (·.dst) with
  |some t=>match L.lookup t with
   |some (.bool b')=>b'==b
   |_=>false
  |none=>false
def Gt (ops:Array Oper) (L:dJ) (g:Option (Nat×Bool)):Bool:=
 match g with
 |none=>false
 |some (j,b)=>match (ops[j]?).bind (·.dst) with
  |some t=>match L.lookup t with
   |some (.bool b')=>b' != b
   |some (.tuple _)=>true
   |_=>false
  |none=>false
theorem eH {n:Nat} (hf:Fr n D L a) (h:kz ops L o.guard=true):Region.wanted o (yielded ops a.tmps)=true:=by
 unfold Region.wanted;cases hg:o.guard with
 |none=>rfl
 |some jb=>
  obtain ⟨j,b⟩:=jb;rw [hg] at h;simp only [kz] at h;simp only [yielded];cases ht:(ops[j]?).bind (·.dst) with
  |none=>simp [ht] at h
  |some t=>
   simp only [ht] at h;cases hl:L.lookup t with
   |none=>simp [hl] at h
   |some v=>
    simp only [hl] at h;cases v<;>simp at h;subst h;simp [hf.at_ t _ hl]
theorem ym {n:Nat} (hf:Fr n D L a) (h:Gt ops L o.guard=true):Region.wanted o (yielded ops a.tmps)=false:=by
 unfold Region.wanted;cases hg:o.guard with
 |none=>simp [hg,Gt] at h
 |some jb=>
  obtain ⟨j,b⟩:=jb;rw [hg] at h;simp only [Gt] at h;simp only [yielded];cases ht:(ops[j]?).bind (·.dst) with
  |none=>simp [ht] at h
  |some t=>
   simp only [ht] at h;cases hl:L.lookup t with
   |none=>simp [hl] at h
   |some v=>
    simp only [hl] at h;cases v<;>simp at h
    ·rename_i b';simp [hf.at_ t _ hl];cases b<;>cases b'<;>simp_all
    ·simp [hf.at_ t _ hl]
section
variable {E:fJ} {ops:Array Oper} {D:List Deferred} {L:List (Nat×Value)} {C:List au}
/-- passed over -/
theorem PH (hg:Gt ops L o.guard=true):SD E ops o D L C undef:=fun a w hf hs=> .inr ⟨ym hf hg,rfl⟩
theorem jr (hd:∀ c,o.op≠ .defer c) (h:(execOp a.eval o).run P w= .ok (.value v) w') (hn:N (a.put o.dst v) w'):o.wpIn (Fw r) 0 P a w N Q:=
 ⟨fun _ _=>trivial,by rw [AA7 _ _ _ hd,h];exact hn⟩
theorem uI (hd:∀ c,o.op≠ .defer c) (h:(execOp a.eval o).run P w= .ok .skip w') (hn:N (a.put o.dst undef) w'):o.wpIn (Fw r) 0 P a w N Q:=
 ⟨fun _ _=>trivial,by rw [AA7 _ _ _ hd,h];exact hn⟩
theorem eo (hg:kz ops L o.guard=true) (hd:∀ c,o.op≠ .defer c) (h:∀ a w,Fr E.n D L a→St E.S E.w0 C w→(execOp a.eval o).run E.P w= .ok (.value v) w):SD E ops o D L C v:=
 fun a w hf hs=> .inl ⟨eH hf hg,jr hd (h a w hf hs) ⟨rfl,ed.refl _ _⟩⟩
variable {dst:Option Tmp} {ty:TypeId} {ps:String} {af:Array Edge} {g:Option (Nat×Bool)}
theorem IN (hg:kz ops L g=true) (hx:ev L x=some v):SD E ops ⟨dst,.move x,ty,ps,af,g⟩ D L C v:=
 eo hg sm fun a w hf _=>by simp [execOp,hf.ev hx]
theorem Bw (hg:kz ops L g=true) (hx:ev L x=some v):SD E ops ⟨dst,.assign x,ty,ps,af,g⟩ D L C v:=
 eo hg sm fun a w hf _=>by simp [execOp,hf.ev hx]
def g8 (P:Program) (op:BinOp) (t:TypeId) (x y:Operand) (u v r:Value):Prop:= ∀ w,(do eqGuard op t x y u v;binOp op t u v:Sem Value).run P w= .ok r w
theorem cm {op:BinOp} {yt:TypeId} {r:Value} (hg:kz ops L g=true) (hx:ev L x=some u) (hy:ev L y=some v) (h:g8 E.P op xt x y u v r):SD E ops ⟨dst,.binOp op xt x y yt,ty,ps,af,g⟩ D L C r:=
 eo hg sm fun a w hf _=>by
  have:=h w;simp only [execOp,hf.ev hx,hf.ev hy];simp only [AAf,ACA] at this ⊢;rw [this];rfl
theorem Of (hg:kz ops L g=true) (hx:ev L x=some (.bool b)):SD E ops ⟨dst,.unOp .not xt x,ty,ps,af,g⟩ D L C (.bool !b):=
 eo hg sm fun a w hf _=>by simp [execOp,hf.ev hx,Op.unary]
abbrev tP (n:Int):Prop:= -9223372036854775808≤n∧n≤9223372036854775807
theorem p_ {n:Int} (h:tP n):IntKind.i64.wrap n=n:=by
 obtain ⟨A,B⟩:=h;rw [IntKind.wrap_i64];omega
theorem Wk {n:Int} (hg:kz ops L g=true) (hx:ev L x=some (.int .i64 n)) (hb:tP (-n)):SD E ops ⟨dst,.unOp .neg xt x,ty,ps,af,g⟩ D L C (.int .i64 (-n)):=
 eo hg sm fun a w hf _=>by
  have:(0:Int)-n= -n:=by omega
  simp [execOp,hf.ev hx,Op.unary,Op.intArith,this,p_ hb]
theorem CJ {c:Operand} (hg:kz ops L g=true) (hc:ev L c=some (.bool true)) (hx:ev L x=some v):SD E ops ⟨dst,.pick c x y,ty,ps,af,g⟩ D L C v:=
 eo hg sm fun a w hf _=>by simp [execOp,hf.ev hc,hf.ev hx,asBool]
theorem BX {c:Operand} (hg:kz ops L g=true) (hc:ev L c=some (.bool false)) (hy:ev L y=some v):SD E ops ⟨dst,.pick c x y,ty,ps,af,g⟩ D L C v:=
 eo hg sm fun a w hf _=>by simp [execOp,hf.ev hc,hf.ev hy,asBool]
theorem qh {st dt:TypeId} {k k':IntKind} {n m:Int} (hg:kz ops L g=true) (hx:ev L x=some (.int k' n)) (hs:E.P.underlying st=some (.int k')) (hd:E.P.underlying dt=some (.int k)) (hw:k.wrap n=m):SD E ops ⟨dst,.convert st dt x,ty,ps,af,g⟩ D L C (.int k m):=
 eo hg sm fun a w hf _=>by
  simp [execOp,hf.ev hx,convert,k3 hs,k3 hd,Conv.intToInt,hw]
def evs (L:dJ):List Operand→Option (List Value)
 |[]=>some []
 |x::xs=>match ev L x,evs L xs with
  |some v,some vs=>some (v::vs)
  |_,_=>none
theorem Fr.evs {n:Nat} (h:Fr n D L a): ∀ {xs:List Operand} {vs:List Value},Go.Proofs.YtgnlmfdknlbkkaaGreatDoor.evs L xs=some vs→xs.map a.eval=vs:=by
 intro xs
 induction xs with
 |nil=>intro vs hv;simpa [Go.Proofs.YtgnlmfdknlbkkaaGreatDoor.evs] using hv
 |cons x xs ih=>
  intro vs hv;simp only [Go.Proofs.YtgnlmfdknlbkkaaGreatDoor.evs] at hv;cases hx:Go.Proofs.YtgnlmfdknlbkkaaGreatDoor.ev L x with
  |none=>simp [hx] at hv
  |some u=>
   cases hxs:Go.Proofs.YtgnlmfdknlbkkaaGreatDoor.evs L xs with
   |none=>simp [hx,hxs] at hv
   |some us=>simp [hx,hxs] at hv;subst hv;simp [h.ev hx,ih hxs]
theorem D1 {a b:Int}:(a==b)=decide (a=b):=by by_cases h:a=b<;>simp [h]
section
variable {P:Program} {t:TypeId} {x y:Operand} {a b:Int} {k:IntKind}
theorem jq (h:tP (a+b)):g8 P .add t x y (.int .i64 a) (.int .i64 b) (.int .i64 (a+b)):=fun w=>by simp [eqGuard_add,binOp_add,Op.intArith,p_ h]
theorem vZ (h:tP (a-b)):g8 P .sub t x y (.int .i64 a) (.int .i64 b) (.int .i64 (a-b)):=fun w=>by simp [eqGuard_sub,binOp_sub,Op.intArith,p_ h]
theorem nt (h:tP (a*b)):g8 P .mul t x y (.int .i64 a) (.int .i64 b) (.int .i64 (a*b)):=fun w=>by simp [eqGuard_mul,binOp_mul,Op.intArith,p_ h]
theorem sx (h0:0≤a) (h1:0<b) (h:a≤9223372036854775807):g8 P .quo t x y (.int .i64 a) (.int .i64 b) (.int .i64 (a/b)):=fun w=>by
 have hb:b≠0:=by omega
 have A:0≤a/b:=ACQ h0 I;have B:a/b≤a:=ACG b h0;simp [eqGuard_quo,binOp_quo,Op.intDiv,hb,AB0 h0,p_ (show tP (a/b) from ⟨I,I⟩)]
theorem V8 (h1:b≠0) (h:tP (a.tdiv b)):g8 P .quo t x y (.int .i64 a) (.int .i64 b) (.int .i64 (a.tdiv b)):=fun w=>by
 simp [eqGuard_quo,binOp_quo,Op.intDiv,h1,p_ h]
theorem Pd (h0:0≤a) (h1:0<b):g8 P .rem t x y (.int k a) (.int k b) (.int k (a % b)):=fun w=>by
 have hb:b≠0:=by omega
 simp [eqGuard_rem,binOp_rem,Op.intDiv,hb,Int.tmod_eq_emod_of_nonneg h0]
theorem hH:g8 P .lss t x y (.int k a) (.int k b) (.bool (decide (a<b))):=fun w=>by simp [eqGuard_lss,binOp_lss]
theorem JN:g8 P .leq t x y (.int k a) (.int k b) (.bool (decide (a≤b))):=fun w=>by simp [eqGuard_leq,binOp_leq]
theorem OT:g8 P .gtr t x y (.int k a) (.int k b) (.bool (decide (b<a))):=fun w=>by simp [eqGuard_gtr,binOp_gtr]
theorem Gq:g8 P .geq t x y (.int k a) (.int k b) (.bool (decide (b≤a))):=fun w=>by simp [eqGuard_geq,binOp_geq]
theorem ny:g8 P .eql t x y (.int k a) (.int k b) (.bool (decide (a=b))):=fun w=>by simp [eqGuard_at_int,binOp_eql];exact D1
theorem nx:g8 P .neq t x y (.int k a) (.int k b) (.bool (!decide (a=b))):=fun w=>by simp [eqGuard_at_int,binOp_neq,bne];exact D1
theorem Hu {p:Bool} (ht:P.underlying t=some .bool):g8 P .eql t x y (.bool p) (.bool q) (.bool (p==q)):=fun w=>by
 have h: ∀ d:Nat,(Op.equalIn (d+1) t (.bool p) (.bool q)).run P w= .ok (p==q) w:=fun d=>by simp [Op.equalIn,k3 ht]
 simp only [eqGuard_at_bool,binOp];simp [Op.equal,Op.maxDepth,h 9999]
theorem Qv {p:Bool} (ht:P.underlying t=some .bool):g8 P .neq t x y (.bool p) (.bool q) (.bool (!(p==q))):=fun w=>by
 have h: ∀ d:Nat,(Op.equalIn (d+1) t (.bool p) (.bool q)).run P w= .ok (p==q) w:=fun d=>by simp [Op.equalIn,k3 ht]
 simp only [eqGuard_at_bool,binOp];simp [Op.equal,Op.maxDepth,h 9999]
end
theorem NM {t e:TypeId} {A:OA} {n c:Nat} (hg:kz ops L g=true) (hx:ev L x=some (.slice A n c)) (ht:E.P.underlying t=some (.slice e)):
 SD E ops ⟨dst,.call {callee:= .builtin .len,args:= #[x],argTypes:= #[t]},ty,ps,af,g⟩ D L C (.int .i64 n):=
 eo hg sm fun a w hf _=>by
  simp [execOp,resolve,invoke,builtin,Builtin.len_,hf.ev hx,k3 ht,goInt]
theorem Vu {a b:Int} {k:IntKind} (hg:kz ops L g=true) (hx:ev L x=some (.int k a)) (hy:ev L y=some (.int k b)):
 SD E ops ⟨dst,.call {callee:= .builtin .min,args:= #[x,y],argTypes:=ts},ty,ps,af,g⟩ D L C (.int k (min a b)):=
 eo hg sm fun c w hf _=>by
  have:(if b<a then b else a)=min a b:=by omega
  simp [execOp,resolve,invoke,builtin,Builtin.min_,Builtin.min2,hf.ev hx,hf.ev hy,this]
theorem Va {a b:Int} {k:IntKind} (hg:kz ops L g=true) (hx:ev L x=some (.int k a)) (hy:ev L y=some (.int k b)):
 SD E ops ⟨dst,.call {callee:= .builtin .max,args:= #[x,y],argTypes:=ts},ty,ps,af,g⟩ D L C (.int k (max a b)):=
 eo hg sm fun c w hf _=>by
  have:(if a<b then b else a)=max a b:=by omega
  simp [execOp,resolve,invoke,builtin,Builtin.max_,Builtin.max2,hf.ev hx,hf.ev hy,this]
end
end
section
open Go.RowKit
def au.ro (A:au):au:={A with wf:=fun _=>False,wr:=false,l7:=fun _ h=>h.elim,whole:=fun h=>by cases h}
theorem eG {o:Obj} (h:w.heap[g]? =some o):g<w.heap.size:=(n5.1 h).1
/-- a block of one's own, known whole -/
def cb (g:Nat) (t:TypeId) (cs:List Value):au where
 fP b:=b=g
 wf b:=b=g
 holds w:=w.heap[g]? =some (.cells cs.toArray t (0,0))
 wr:=true
 l7 _ h:=h
 whole _ _ h:=h
 lt w h b hb:=hb▸eG h
 qS w w' hk h:=(hk g rfl).trans h
/-- an object that is no row of cells -/
def jT (g:Nat) (o:Obj):au where
 fP b:=b=g
 wf b:=b=g
 holds w:=w.heap[g]? =some o
 wr:=true
 l7 _ h:=h
 whole _ _ h:=h
 lt w h b hb:=hb▸eG h
 qS w w' hk h:=(hk g rfl).trans h
/-- what stands at a place -/
def nD (A:OA) (k:Nat):OA:=A.map (·.add k)
theorem zj (a:Addr) (i j:Nat):(a.add i).add j=a.add (i+j):=by
 unfold Addr.add;by_cases hi:i=0<;>by_cases hj:j=0<;>simp [hi,hj,ABS]
theorem xN (a:Addr) (n:Nat):(a.add n).block=a.block:=by unfold Addr.add;split<;>rfl
theorem kP (g o k:Nat):(⟨g,o,none⟩:Addr).add k=⟨g,o+k,none⟩:=by unfold Addr.add;split<;>simp_all
/-- a slice that reads as a list of elements, each its cells -/
def rd (A:OA) (n sz:Nat) (es:List (List Value)):au where
 fP b:=0<n*sz∧ ∃ ad,A=some ad∧b=ad.block
 holds w:=es.length=n∧(∀ e∈es,e.length=sz)∧(0<n*sz→ ∃ ad,A=some ad∧ ∀ i e j v,es[i]? =some e→e[j]? =some v→w.cell? (ad.add (i*sz+j))=some v)
 wf _:=False
 wr:=false
 l7 _ h:=h.elim
 whole h:=by cases h
 lt w h b hb:=by
  obtain ⟨h1,h2,h3⟩:=h
  obtain ⟨hn,ad,hA,rfl⟩:=hb
  obtain ⟨ad',hA',hc⟩:=h3 hn
  rw [hA] at hA';cases hA'
  have hn0:0<n:=Nat.pos_of_mul_pos_right hn
  have hs0:0<sz:=Nat.pos_of_mul_pos_left hn
  have he:es[0]? =some (es[0]'I):=fh I
  have hl:(es[0]'I).length=sz:=h2 _ (u4 _)
  have hv:=hc 0 _ 0 _ he (fh I)
  have:=World.block_lt_of_cell? w _ hv
  rwa [xN] at this
 qS w w' hk h:=by
  refine ⟨h.1,h.2.1,fun hn=>?_⟩
  obtain ⟨ad,hA,hc⟩:=h.2.2 hn
  refine ⟨ad,hA,fun i e j v hi hj=>?_⟩
  rw [World.cell?_of_block (w:=w) (by rw [xN];exact hk _ ⟨hn,ad,hA,rfl⟩)]
  exact hc i e j v hi hj
def ig (C:List au) (p:World→Prop):Prop:= ∀ w,(∀ A∈C,A.holds w)→p w
theorem av (i:Nat) (h:C[i]? =some A):ig C A.holds:=fun w hw=>hw A (aF h)
def l3 (C Cp:List au):Prop:= ∀ w,(∀ A∈C,A.holds w)→ ∀ A∈Cp,A.holds w
theorem aA:l3 C []:=fun w _ A hA=>by cases hA
theorem aw (h:ig C A.holds) (t:l3 C Cp):l3 C (A::Cp):=fun w hw B hB=>by
 rcases bI.1 hB with rfl|hB
 ·exact h w hw
 ·exact t w hw B hB
theorem gM (i:Nat) (h:C[i]? =some B) (e:B.holds=A.holds) (t:l3 C Cp):l3 C (A::Cp):=aw (e▸av i h) t
theorem St.has {p:World→Prop} (h:St S w0 C w) (k:ig C p):p w:=k w h.holds
/-- a block that holds the elements of a list, one behind the other, from its head on -/
theorem xn {t:TypeId} {n:Nat} (h:(cb g t cs).holds w) (h1:es.length=n) (h2:∀ e∈es,e.length=sz) (h3:es.flatten <+: cs):(rd (some ⟨g,0,none⟩) n sz es).holds w:=by
 refine ⟨h1,h2,fun _=>⟨_,U,fun i e j v hi hj=>?_⟩⟩;have A: ∀ (es:List (List Value)) (i:Nat),(∀ e∈es,e.length=sz)→es[i]? =some e→es.flatten[i*sz+j]? =some v:=by
  intro es
  induction es with
  |nil=>intro i _ hi;simp at hi
  |cons x xs ih=>
   intro i hl hi;have hx:=hl x sm;have B:j<e.length:=(aT.1 hj).1;cases i with
   |zero=>
    simp at hi;subst hi;simp only [m9,zero_mul,AAk];rw [v3 B];exact hj
   |succ i=>
    simp only [m9];rw [k_ (by rw [hx,AAZ];omega)];have:(i+1)*sz+j-x.length=i*sz+j:=by rw [hx,AAZ];omega
    rw [this];exact ih i (fun e he=>hl e (by simp [he])) (by simpa using hi)
 have hv:=A es i h2 hi;obtain ⟨rest,hr⟩:=h3;rw [kP,cell_of_row w g _ cs.toArray t (0,0) h];simp only [List.getElem?_toArray,AAk];rw [← hr,v3 (aT.1 hv).1];exact hv
theorem aM {n:Nat} (i:Nat) (hC:C[i]? =some (cb g t cs)) (h1:es.length=n) (h2:∀ e∈es,e.length=sz) (h3:es.flatten=cs):ig C (rd (some ⟨g,0,none⟩) n sz es).holds:=fun w hw=>
 xn (av i hC w hw) h1 h2 ⟨[],by simp [h3]⟩
theorem vK (A:OA) (sz:Nat):ig C (rd A 0 sz []).holds:=fun w _=>⟨rfl,sm,fun h=>by simp at h⟩
/-- the cells of a zero value; the places of the parts: where, how many cells -/
def tB (P:Program) (t:TypeId):Option (List Value×List (Nat×Nat)):=
 match P.info? t,P.underlying t with
 |some it,some (.array n e)=>
  match it.zero,P.info? e with
  |some z,some ie=>some (z.cells.toList,(range n).map fun i=>(i*ie.size,ie.size))
  |_,_=>none
 |some it,some (.struct fields)=>
  match it.zero,fields.toList.mapM (fun f=>(P.info? f.type).map fun i=>(f.offset,i.size)) with
  |some z,some places=>some (z.cells.toList,places)
  |_,_=>none
 |_,_=>none
def ZG (z:List Value) (pl:List (Nat×Nat)):dJ→Option (List Value)
 |[]=>some z
 |(i,v)::rest=>match pl[i]? with
  |none=>none
  |some (off,sz)=>if v.cells.toList.length=sz∧off+sz≤z.length then ZG (z.take off++v.cells.toList++z.drop (off+sz)) pl rest else none
def vL (P:Program) (s f:Nat):Option Nat:=
 match P.underlying s with
 |some (.struct fs)=>match fs[f]? with
  |some fl=>match P.info? fl.type with
   |some i=>if i.size=0 then none else some fl.offset
   |none=>none
  |none=>none
 |_=>none
/-- is it a struct or an array; how many cells -/
def tK (P:Program) (t:TypeId):Option (Bool×Nat):=
 match P.underlying t,P.info? t with
 |some (.struct _),some i=>some (true,i.size)
 |some (.array _ _),some i=>some (true,i.size)
 |some _,some i=>some (false,i.size)
 |_,_=>none
def tZ (P:Program) (t:TypeId):Option (List Value):=((P.info? t).bind (·.zero)).map (·.cells.toList)
def tE (P:Program) (t:TypeId):Option (TypeId×Nat):=
 match P.underlying t with
 |some (.slice e)=>match P.info? e with
  |some i=>some (e,i.size)
  |none=>none
 |_=>none
def sN (P:Program) (f:FuncId):Bool:=
 match P.funcs[f]? with
 |some fn=> !(fn.name=="runtime.NumGoroutine")&&fn.body.isSome
 |none=>false
theorem qn {t:TypeId} {n:Nat} (h:tK P t=some (true,n)) (w:World):(isAgg t).run P w= .ok true w∧(sizeOf t).run P w= .ok n w:=by
 unfold tK at h;cases hu:P.underlying t with
 |none=>simp [hu] at h
 |some d=>
  cases hi:P.info? t with
  |none=>cases d<;>simp [hu,hi] at h
  |some i=>
   cases d<;>simp [hu,hi] at h<;>(subst h;constructor<;>simp [isAgg,sizeOf,typeInfo,k3 hu,hi])
theorem vt {t:TypeId} {n:Nat} (h:tK P t=some (false,n)) (w:World):(isAgg t).run P w= .ok false w∧(sizeOf t).run P w= .ok n w:=by
 unfold tK at h;cases hu:P.underlying t with
 |none=>simp [hu] at h
 |some d=>
  cases hi:P.info? t with
  |none=>cases d<;>simp [hu,hi] at h
  |some i=>
   cases d<;>simp [hu,hi] at h<;>(subst h;constructor<;>simp [isAgg,sizeOf,typeInfo,k3 hu,hi])
theorem sW {f:Nat} (h:vL P s f=some k) (a:Addr) (w:World):(Instr.fieldAt s (.pointer (some a)) f).run P w= .ok (.pointer (some (a.add k))) w:=by
 unfold vL at h;cases hu:P.underlying s with
 |none=>simp [hu] at h
 |some d=>
  cases d<;>simp [hu] at h;rename_i fs;cases hf:fs[f]? with
  |none=>simp [hf] at h
  |some fl=>
   simp only [hf] at h;cases hi:P.info? fl.type with
   |none=>simp [hi] at h
   |some i=>
    simp only [hi] at h;by_cases hz:i.size=0
    ·simp [hz] at h
    ·simp only [hz,AA0,k4] at h;subst h;simp [Instr.fieldAt,k3 hu,hf,Instr.sureAddr,fieldPlace,sizeOf,typeInfo,hi,hz]
section
variable {E:fJ} {ops:Array Oper} {D:List Deferred} {L:List (Nat×Value)} {C:List au}
variable {dst:Option Tmp} {ty:TypeId} {ps:String} {af:Array Edge} {g:Option (Nat×Bool)}
theorem TZ {b o f:Nat} (hg:kz ops L g=true) (hx:ev L x=some (.pointer (some ⟨b,o,none⟩))) (hf:vL E.P s f=some k) (ho:o+k=o'):
 SD E ops ⟨dst,.fieldAddr s x f,ty,ps,af,g⟩ D L C (.pointer (some ⟨b,o',none⟩)):=
 eo hg sm fun a w A _=>by
  simp [execOp,A.ev hx,sW hf,kP,ho]
theorem On {A:OA} {n:Nat} {f:Nat} (hg:kz ops L g=true) (hx:ev L x=some (.pointer (nD A k0))) (hR:ig C (rd A n sz es).holds) (hn:0<n*sz) (hf:vL E.P s f=some k) (ho:k0+k=k'):SD E ops ⟨dst,.fieldAddr s x f,ty,ps,af,g⟩ D L C (.pointer (nD A k')):=
 eo hg sm fun a w B hs=>by
  obtain ⟨ad,hA,_⟩:=(hs.has hR).2.2 hn;subst hA;simp [execOp,B.ev hx,nD,sW hf,zj,ho]
theorem tR (h:tE P t=some (e,sz)) {a:Addr} {n c:Nat} (hk:k<n) (w:World):
 (Instr.indexAt t (.slice (some a) n c) (.int .i64 (k:Int))).run P w= .ok (.pointer (some (a.add (k*sz)))) w:=by
 unfold tE at h;cases hu:P.underlying t with
 |none=>simp [hu] at h
 |some d=>
  cases d<;>simp [hu] at h;rename_i e';cases hi:P.info? e' with
  |none=>simp [hi] at h
  |some i=>
   simp only [hi,k4,p4] at h;obtain ⟨rfl,rfl⟩:=h;have A:(0:Int)≤(k:Int)∧(k:Int)<(n:Int):=by omega
   simp [Instr.indexAt,asIntOf,k3 hu,A,sizeOf,typeInfo,hi,hk]
theorem Xs {ix:Operand} {A:OA} {n c:Nat} {j:Int} (hg:kz ops L g=true) (hx:ev L x=some (.slice A n c)) (hi:ev L ix=some (.int .i64 j)) (hR:ig C (rd A n sz es).holds) (ht:tE E.P t=some (e,sz)) (hz:0<sz) (hj:j=(k:Int)) (hk:k<n):SD E ops ⟨dst,.indexAddr t x ix,ty,ps,af,g⟩ D L C (.pointer (nD A (k*sz))):=
 eo hg sm fun a w B hs=>by
  obtain ⟨ad,hA,_⟩:=(hs.has hR).2.2 (e6 I hz);subst hA hj;simp [execOp,B.ev hx,B.ev hi,nD,tR ht hk]
theorem RO {ix:Operand} {b o n c:Nat} {j:Int} (hg:kz ops L g=true) (hx:ev L x=some (.slice (some ⟨b,o,none⟩) n c)) (hi:ev L ix=some (.int .i64 j)) (ht:tE E.P t=some (e,sz)) (hj:j=(k:Int)) (hk:k<n) (ho:o+k*sz=o'):SD E ops ⟨dst,.indexAddr t x ix,ty,ps,af,g⟩ D L C (.pointer (some ⟨b,o',none⟩)):=
 eo hg sm fun a w A hs=>by
  subst hj;simp [execOp,A.ev hx,A.ev hi,tR ht hk,kP,ho]
/-- what stands in memory from an address on -/
def At (C:List au) (A:OA) (vs:List Value):Prop:=ig C fun w=> ∃ ad,A=some ad∧ ∀ j v,vs[j]? =some v→w.cell? (ad.add j)=some v
theorem rG {b o:Nat} (i:Nat) (hC:C[i]? =some (cb b t cs)) (hv:(cs.drop o).take vs.length=vs):At C (some ⟨b,o,none⟩) vs:=fun w hw=>by
 have h:=av i hC w hw;refine ⟨_,U,fun j v hj=>?_⟩;rw [kP,cell_of_row w b _ cs.toArray t (0,0) h];rw [← hv,ABl] at hj;split at hj
 ·rw [ABm] at hj;simpa using hj
 ·cases hj
theorem yY {b o:Nat} (i:Nat) (hC:C[i]? =some (cb b t cs).ro) (hv:(cs.drop o).take vs.length=vs):At C (some ⟨b,o,none⟩) vs:=fun w hw=>by
 have h:(cb b t cs).holds w:=av i hC w hw;refine ⟨_,U,fun j v hj=>?_⟩;rw [kP,cell_of_row w b _ cs.toArray t (0,0) h];rw [← hv,ABl] at hj;split at hj
 ·rw [ABm] at hj;simpa using hj
 ·cases hj
theorem UI {A:OA} {n o m:Nat} {e:List Value} (hR:ig C (rd A n sz es).holds) (he:es[k]? =some e) (hm:m=k*sz+o) (hz:0<sz) (hv:(e.drop o).take vs.length=vs):At C (nD A m) vs:=fun w hw=>by
 obtain ⟨B,E,D⟩:=hR w hw;have hk:k<n:=by rw [← B];exact (aT.1 he).1
 obtain ⟨ad,hA,hc⟩:=D (e6 I hz);subst hA hm;refine ⟨_,U,fun j v hj=>?_⟩;rw [zj,ABS];refine hc k e (o+j) v he ?_;rw [← hv,ABl] at hj;split at hj
 ·rw [ABm] at hj;exact hj
 ·cases hj
theorem x_ {A:OA} {n:Nat} (hg:kz ops L g=true) (hx:ev L x=some (.pointer A)) (ht:tK E.P t=some (false,n)) (hc:At C A [v]):SD E ops ⟨dst,.load t x,ty,ps,af,g⟩ D L C v:=
 eo hg sm fun a w hf hs=>by
  obtain ⟨ad,hA,B⟩:=hs.has hc;subst hA;have F:w.cell? ad=some v:=by simpa [Addr.add] using B 0 v rfl
  simp [execOp,hf.ev hx,Instr.loadAt,Instr.sureAddr,loadVar,(vt ht w).1,F]
theorem Bh {A:OA} {n:Nat} (hg:kz ops L g=true) (hx:ev L x=some (.pointer A)) (ht:tK E.P t=some (true,n)) (hc:At C A vs) (hn:vs.length=n):SD E ops ⟨dst,.load t x,ty,ps,af,g⟩ D L C (.agg vs.toArray):=
 eo hg sm fun a w hf hs=>by
  obtain ⟨ad,hA,B⟩:=hs.has hc;subst hA;have hl:(loadCells ad n).run E.P w= .ok vs.toArray w:=by rw [← hn];exact run_loadCells_list w ad vs B
  simp [execOp,hf.ev hx,Instr.loadAt,Instr.sureAddr,loadVar,(qn ht w).1,(qn ht w).2,hl]
end
def Xq (C:List au):List Nat→List (Option (World→Prop))
 |[]=>[]
 |i::is=>C[i]?.map au.holds::Xq C is
def Yw:List au→List (Option (World→Prop))
 |[]=>[]
 |A::l=>some A.holds::Yw l
theorem aP {C:List au}: ∀ (is:List Nat) {Cp:List au} (h:Xq C is=Yw Cp:=by rfl),l3 C Cp
 |[],[],_=>aA
 |[],_::_,h=>by cases h
 |i::is,[],h=>by cases h
 |i::is,A::Cp,h=>by
  obtain ⟨D,E⟩:=List.cons.inj (show C[i]?.map au.holds::Xq C is=some A.holds::Yw Cp from h);obtain ⟨B,hB,hh⟩:=AAQ.1 D;exact gM i hB hh (aP is E)
theorem lZ {C:List au}: ∀ (is:List Nat) {Cp:List au} (q:l3 C (Cp.drop is.length)) (h:Xq C is=Yw (Cp.take is.length):=by rfl),l3 C Cp
 |[],_,q,_=>q
 |i::is,[],q,h=>by cases h
 |i::is,A::Cp,q,h=>by
  obtain ⟨D,E⟩:=List.cons.inj (show C[i]?.map au.holds::Xq C is=some A.holds::Yw (Cp.take is.length) from h);obtain ⟨B,hB,hh⟩:=AAQ.1 D;exact gM i hB hh (lZ is q E)
end
section
open Go.RowKit
/-- what the call hands back is known -/
structure dh (P:Program) (f:FuncId) (args:List Value) (Cp:List au) (v:Value):Prop where
 go:sN P f=true
 run: ∀ w,(∀ A∈Cp,A.holds w)→Calls P f args.toArray w fun e w'=>e= .returned v∧ed no w w'
/-- what the call hands back is known up to something; what is new in memory -/
structure ld (P:Program) (f:FuncId) (args:List Value) (Cp:List au) {α:Type} (V:α→Value) (p:α→Prop) (N:α→List au):Prop where
 go:sN P f=true
 run: ∀ w,(∀ A∈Cp,A.holds w)→Calls P f args.toArray w fun e w'=> ∃ x,e= .returned (V x)∧p x∧ed no w w'∧QV w w' (N x)
theorem oS (h:sN P f=true) (args:Array Value) (w:World):(callFunc f args).run P w= .ok (.enter f args) w:=by
 unfold sN at h;cases hf:P.funcs[f]? with
 |none=>simp [hf] at h
 |some fn=>
  simp only [hf,dq,e0,Option.isSome_iff_ne_none] at h;have A:=h.1;have B:fn.body.isNone=false:=by cases hb:fn.body<;>simp_all
  simp only [ACR,AB4] at A;simp [callFunc,program,Sem.run,hf,A];exact fun hb=>absurd hb h.2
section
variable {E:fJ} {ops:Array Oper} {Q:du} {rest:List Oper} {D:List Deferred} {L:List (Nat×Value)} {C:List au}
variable {dst:Option Tmp} {d:Nat} {ty:TypeId} {ps:String} {af:Array Edge} {g:Option (Nat×Bool)}
theorem Ae {n:Nat} (hfr:Fr n D L a) (hgo:sN E.P f=true) (hf:ev L fop=some (.func (.func f) fi ca)) (hx:evs L xs.toList=some vs) (ha:fi.toList++vs++ca.toList=args) (w:World):
 (execOp a.eval ⟨dst,.call {callee:= .value fop,args:=xs,argTypes:=ts},ty,ps,af,g⟩).run E.P w= .ok (.enter f args.toArray) w:=by
 have A:xs.map a.eval=vs.toArray:=by
  have:=hfr.evs hx;apply ABX;simp [this]
 have B:fi++vs.toArray++ca=args.toArray:=by rw [← ha];simp
 simp [execOp,resolve,hfr.ev hf,Deferred.ofValue,invoke,A,B,oS hgo]
theorem JO (hg:kz ops L g=true) (hf:ev L fop=some (.func (.func f) fi ca)) (hx:evs L xs.toList=some vs) (ha:fi.toList++vs++ca.toList=args) (c:dh E.P f args Cp v) (hC:l3 C Cp):SD E ops ⟨dst,.call {callee:= .value fop,args:=xs,argTypes:=ts},ty,ps,af,g⟩ D L C v:=by
 intro a w A hs;refine .inl ⟨eH A hg,fun _ _=>trivial,?_⟩;rw [AA7 _ _ _ sm,Ae A c.go hf hx ha];refine ⟨fun h=>by simp at h,(rj E.r (c.run w (hC w hs.holds))).mono fun e w' he=>?_⟩;obtain ⟨rfl,hk⟩:=he;exact ⟨U,hk⟩
theorem VS {V:α→Value} {p:α→Prop} {N:α→List au} (hg:kz ops L g=true) (hf:ev L fop=some (.func (.func f) fi ca)) (hx:evs L xs.toList=some vs) (ha:fi.toList++vs++ca.toList=args) (c:ld E.P f args Cp V p N) (hC:l3 C Cp) (hd:blt d E.n=true) (k:∀ x,p x→RJ E ops Q rest D ((d,V x)::L) (N x++C)):
 RJ E ops Q (⟨some d,.call {callee:= .value fop,args:=xs,argTypes:=ts},ty,ps,af,g⟩::rest) D L C:=by
 intro a w A hs;have hd':d<E.n:=by rw [← u7];exact hd
 unfold uJ;rw [c0 (eH A hg)];refine ⟨fun _ _=>trivial,?_⟩;rw [AA7 _ _ _ sm,Ae A c.go hf hx ha];refine ⟨fun h=>by simp at h,(rj E.r (c.run w (hC w hs.holds))).mono fun e w' he=>?_⟩;obtain ⟨x,rfl,hp,hk,hn⟩:=he;exact k x hp _ _ (A.put hd' _) (hs.grow hk hn)
/-- a fact on the slots alone: parted -/
theorem bK (h:L.lookup t=some (.bool b)) (h1:b=true→RJ E ops Q rest D ((t,.bool true)::L) C) (h2:b=false→RJ E ops Q rest D ((t,.bool false)::L) C):RJ E ops Q rest D L C:=by
 have A: ∀ v:Bool,b=v→cV L ((t,.bool v)::L):=fun v hv=>cV.cons (hv▸h) (fun _ _ h=>h);cases b
 ·exact fun a w hf hs=>h2 U a w (hf.sub (A _ U)) hs
 ·exact fun a w hf hs=>h1 U a w (hf.sub (A _ U)) hs
theorem T1 (hL:cV L L') (hC:∀ w,St E.S E.w0 C w→St E.S E.w0 C' w) (h:RJ E ops Q rest D L' C'):RJ E ops Q rest D L C:=fun a w hf hs=>h a w (hf.sub hL) (hC w hs)
theorem SW {t:TypeId}:QV w (w.alloc (.cells cs.toArray t)) [cb w.heap.size t cs]:=
 ⟨fun A hA=>by simp at hA;subst hA;exact ACB w _,fun A hA b hb=>by simp at hA;subst hA;exact ACJ (Eq.symm hb),AAY _ _⟩
theorem Jo {t:TypeId} {V:Nat→Value} (hg:kz ops L o.guard=true) (ho:o.dst=some d) (hnd:∀ c,o.op≠ .defer c) (hd:blt d E.n=true) (hr:∀ a w,Fr E.n D L a→St E.S E.w0 C w→(execOp a.eval o).run E.P w= .ok (.value (V w.heap.size)) (w.alloc (.cells cs.toArray t))) (k:∀ b,RJ E ops Q rest D ((d,V b)::L) (cb b t cs::C)):RJ E ops Q (o::rest) D L C:=by
 intro a w A hs;have hd':d<E.n:=by rw [← u7];exact hd
 unfold uJ;rw [c0 (eH A hg)];refine jr hnd (hr a w A hs) ?_;rw [ho];exact k _ _ _ (A.put hd' _) (hs.grow (ed.alloc no w _) SW)
theorem Jh {t:TypeId} (hg:kz ops L g=true) (hz:tZ E.P t=some cs) (hd:blt d E.n=true) (k:∀ b,RJ E ops Q rest D ((d,.pointer (some ⟨b,0,none⟩))::L) (cb b t cs::C)):
 RJ E ops Q (⟨some d,.alloc t,ty,ps,af,g⟩::rest) D L C:=by
 refine Jo (V:=fun b=> .pointer (some ⟨b,0,none⟩)) (t:=t) (cs:=cs) (by exact hg) U sm hd (fun a w A _=>?_) k;unfold tZ at hz;cases hi:E.P.info? t with
 |none=>simp [hi] at hz
 |some i=>
  cases hzz:i.zero with
  |none=>simp [hi,hzz] at hz
  |some z=>
   simp only [hi,hzz,r7,AAA,k4] at hz;subst hz;simp [execOp,Instr.alloc,zeroValue,typeInfo,hi,hzz,newVar,newRow]
theorem Ty {t:TypeId} (hg:kz ops L g=true) (hx:ev L x=some v) (hv:v.cells.toList=cs) (hd:blt d E.n=true) (k:∀ b,RJ E ops Q rest D ((d,.pointer (some ⟨b,0,none⟩))::L) (cb b t cs::C)):
 RJ E ops Q (⟨some d,.box t x,ty,ps,af,g⟩::rest) D L C:=by
 refine Jo (V:=fun b=> .pointer (some ⟨b,0,none⟩)) (t:=t) (cs:=cs) (by exact hg) U sm hd (fun a w A _=>?_) k;subst hv;simp [execOp,Instr.box,A.ev hx,newVar,newRow]
theorem xd (hg:kz ops L g=true) (ht:tE E.P t=some (e,sz)) (hd:blt d E.n=true) (k:∀ b,RJ E ops Q rest D ((d,.slice (some ⟨b,0,none⟩) 0 0)::L) (cb b e []::C)):
 RJ E ops Q (⟨some d,.buildSlice t 0 #[],ty,ps,af,g⟩::rest) D L C:=by
 refine Jo (V:=fun b=> .slice (some ⟨b,0,none⟩) 0 0) (t:=e) (cs:=[]) (by exact hg) U sm hd (fun a w B _=>?_) k;unfold tE at ht;cases hu:E.P.underlying t with
 |none=>simp [hu] at ht
 |some dd=>
  cases dd<;>simp [hu] at ht;rename_i e';cases hi:E.P.info? e' with
  |none=>simp [hi] at ht
  |some i=>
   simp only [hi,k4,p4] at ht;obtain ⟨rfl,rfl⟩:=ht;have A:Array.range 0= #[]:=rfl;simp [execOp,Instr.buildSlice,k3 hu,sizeOf,typeInfo,hi,Instr.fill,newRow,A]
theorem Ex (off:Nat): ∀ (xs:List Value) (k:Nat) (cs:Array Value),off+k+xs.length≤cs.size→
 ((xs.zipIdx k).foldl (fun (cs:Array Value) (p:Value×Nat)=>cs.setIfInBounds (off+p.2) p.1) cs).toList=cs.toList.take (off+k)++xs++cs.toList.drop (off+k+xs.length):=by
 intro xs
 induction xs with
 |nil=>intro k cs h;simp
 |cons x xs ih=>
  intro k cs h;simp only [y3] at h;simp only [ACe,ACN];rw [ih (k+1) _ (by simp;omega)];have A:(cs.setIfInBounds (off+k) x).toList=cs.toList.set (off+k) x:=by simp
  rw [A];have hk:off+k<cs.toList.length:=by simp;omega
  rw [show off+(k+1)=off+k+1 from by omega,l1,ABg (c9 _),r6 hk,ABj I];simp [ABS,ACK,Nat.add_left_comm]
/-- the cells of so many elements -/
theorem Qd: ∀ (vs:List Value) (k:Nat) (cs:Array Value),(∀ v∈vs,v.cells.size=sz)→cs.size=(k+vs.length)*sz→
 ∃ r,Instr.fill (fun i=>some (i*sz,sz)) cs ((vs.zipIdx k).map fun p=>(p.2,p.1))=some r∧r.toList=cs.toList.take (k*sz)++(vs.map (·.cells.toList)).flatten:=by
 intro vs
 induction vs with
 |nil=>intro k cs _ hs;exact ⟨cs,rfl,by simp at hs;rw [← hs,c5 sm];simp⟩
 |cons v vs ih=>
  intro k cs hv hs;have A:=hv v sm;have C:k*sz+sz≤cs.size:=by
   rw [hs,← AAZ];exact ABw _ sm
  have hf:=Ex (k*sz) v.cells.toList 0 cs (by simp [A];exact C);obtain ⟨r,D,E⟩:=ih (k+1) (v.cells.toList.zipIdx.foldl (fun (cs:Array Value) (p:Value×Nat)=>cs.setIfInBounds (k*sz+p.2) p.1) cs) (fun u hu=>hv u (by simp [hu])) (by
   have hl:=c7 length hf;simp only [ABH] at hl;rw [hl];simp [A] at hs ⊢;rw [show k+1+vs.length=k+(vs.length+1) from by omega,← hs];omega)
  refine ⟨r,?_,?_⟩
  ·simp only [ACe,m2,Instr.fill];rw [c1 (by simp [A];omega)];rw [← D];congr 1;rw [← ABq];simp [Array.toList_zipIdx]
  ·rw [E,hf];simp only [AB8,m2,m9];rw [show (k+1)*sz=k*sz+sz from AAZ k sz];have B:(cs.toList.take (k*sz)++v.cells.toList).length=k*sz+sz:=by simp [A];omega
   rw [List.take_append_of_le_length (by rw [B];omega),c5 (by rw [B];omega)];simp
theorem dC {n:Nat} {xs:List Operand} {zs:List Value} (hg:kz ops L g=true) (ht:tE E.P t=some (e,sz)) (hz:tZ E.P e=some zs) (hx:evs L xs=some vs) (hn:xs.length=n) (hp:blt 0 (n*sz)=true) (hb:ble (n*sz) 16777216=true) (hv:∀ v∈vs,v.cells.size=sz) (hc:(vs.map (·.cells.toList)).flatten=cs) (hd:blt d E.n=true) (k:∀ b,RJ E ops Q rest D ((d,.slice (some ⟨b,0,none⟩) n n)::L) (cb b e cs::C)):
 RJ E ops Q (⟨some d,.buildSlice t n ((xs.zipIdx.map fun p=>(p.2,p.1)).toArray),ty,ps,af,g⟩::rest) D L C:=by
 refine Jo (V:=fun b=> .slice (some ⟨b,0,none⟩) n n) (t:=e) (cs:=cs) (by exact hg) U sm hd (fun a w B _=>?_) k;have F:vs.length=n:=by
  have:=B.evs hx;rw [← this,c3,hn]
 unfold tE at ht;cases hu:E.P.underlying t with
 |none=>simp [hu] at ht
 |some dd=>
  cases dd<;>simp [hu] at ht;rename_i e';cases hi:E.P.info? e' with
  |none=>simp [hi] at ht
  |some i=>
   simp only [hi,k4,p4] at ht;obtain ⟨rfl,rfl⟩:=ht;cases hzz:i.zero with
   |none=>simp [tZ,hi,hzz] at hz
   |some z=>
    have hA:((xs.zipIdx.map fun p=>(p.2,p.1)).toArray.map fun ((i,x):Nat×Operand)=>(i,a.eval x))=((vs.zipIdx 0).map fun p=>(p.2,p.1)).toArray:=by
     rw [← B.evs hx];apply ABX;simp [List.zipIdx_map]
    obtain ⟨r,G,H⟩:=Qd (sz:=i.size) vs 0 ((Array.range (n*i.size)).map fun j=>(if n*i.size=0 then #[] else z.cells)[j % (if n*i.size=0 then (#[]:Array Value) else z.cells).size]!) hv (by simp [F]);simp only [zero_mul,List.take_zero,AAp,hc] at H;have AA:r=cs.toArray:=by rw [← H]
    subst AA;have hb': ¬ (n*i.size>2^24):=by have:=ABP hb;omega
    have A: ¬ n*i.size=0:=by rw [u7] at hp;omega
    simp only [A,AA0] at G;simp only [execOp,hA,Instr.buildSlice,AAf,k3 hu,AAa,sizeOf,typeInfo,run_program,hi,ACA,A,AA0,hb',zeroValue,hzz,G];simp [newRow]
theorem EP {place:Nat→Option (Nat×Nat)} (hp:∀ i x,pl[i]? =some x→place i=some x): ∀ (parts:dJ) (z:Array Value) (cs:List Value),ZG z.toList pl parts=some cs→ ∃ r,Instr.fill place z parts=some r∧r.toList=cs:=by
 intro parts
 induction parts with
 |nil=>intro z cs h;exact ⟨z,rfl,by simpa [ZG] using h⟩
 |cons p rest ih=>
  obtain ⟨i,v⟩:=p;intro z cs h;simp only [ZG] at h;cases hi:pl[i]? with
  |none=>simp [hi] at h
  |some x=>
   obtain ⟨off,sz⟩:=x;simp only [hi] at h;split at h
   ·rename_i hc;have hs:v.cells.size=sz:=by simpa using hc.1
    have hz:off+sz≤z.size:=by simpa using hc.2
    have hf:=Ex off v.cells.toList 0 z (by simp [hs];exact hz);simp only [AB8,ABH,hs] at hf;rw [← hf] at h;obtain ⟨r,A,B⟩:=ih _ cs h;refine ⟨r,?_,B⟩;simp only [Instr.fill,hp i _ hi];rw [c1 (by simp [hs];omega),← A];congr 1;rw [← ABq];simp [Array.toList_zipIdx]
   ·cases h
theorem aV {t:TypeId} {z:List Value} {parts:dJ} (h:tB P t=some (z,pl)) (hb:ZG z pl parts=some cs):(P.built t parts).map (·.toList)=some cs:=by
 unfold tB at h;unfold Program.built;cases hit:P.info? t with
 |none=>simp [hit] at h
 |some it=>
  cases hu:P.underlying t with
  |none=>simp [hit,hu] at h
  |some d=>
   cases hz:it.zero with
   |none=>cases d<;>simp [hit,hu,hz] at h
   |some zv=>
    cases d<;>try (simp [hit,hu] at h;done)
    case array n e=>
     cases hie:P.info? e with
     |none=>simp [hit,hu,hz,hie] at h
     |some ie=>
      simp only [hit,hu,hz,hie,k4,p4] at h;obtain ⟨C,D⟩:=h;subst C D;obtain ⟨r,A,B⟩:=EP (place:=fun i=>some (i*ie.size,ie.size)) (fun i x hi=>by
       rw [gO] at hi;cases hg:(range n)[i]? with
       |none=>simp [hg] at hi
       |some j=>
        have hj:j=i:=by
         have:=(aT.1 hg).2;simpa using this.symm
        subst hj;simpa [hg] using hi) parts zv.cells cs hb
      simp only [hz,hie,A,AAA,B]
    case struct fields=>
     cases hp:fields.toList.mapM (fun f=>(P.info? f.type).map fun i=>(f.offset,i.size)) with
     |none=>simp [hit,hu,hz,hp] at h
     |some places=>
      simp only [hit,hu,hz,hp,k4,p4] at h;obtain ⟨C,D⟩:=h;subst C D;obtain ⟨r,A,B⟩:=EP (place:=(places.toArray[·]?)) (fun i x hi=>by simpa using hi) parts zv.cells cs hb;simp only [hz,hp,A,AAA,B]
theorem aW {t:TypeId} {xs:List (Nat×Operand)} (hg:kz ops L g=true) (hx:evs L (xs.map (·.2))=some vs) (hb:(E.P.built t ((xs.map (·.1)).zip vs)).map (·.toList)=some cs):
 SD E ops ⟨dst,.build t xs.toArray,ty,ps,af,g⟩ D L C (.agg cs.toArray):=
 eo hg sm fun a w hf _=>by
  have hA:(xs.toArray.map fun ((i,x):Nat×Operand)=>(i,a.eval x))=((xs.map (·.1)).zip vs).toArray:=by
   rw [← hf.evs hx];apply ABX;simp [List.zip_map',List.map_map]
  obtain ⟨cells,hc,A⟩:=AAQ.1 hb;have hcells:cells=cs.toArray:=by rw [← A]
  subst hcells;have B:=run_build (P:=E.P) w t (((xs.map (·.1)).zip vs).toArray) cs.toArray (by simpa using hc);simp only [execOp,hA,AAf,B,AAa,ACA]
theorem oY {t:TypeId} {f o n:Nat} (hg:kz ops L g=true) (hx:ev L x=some (.agg cs.toArray)) (hf:vL E.P t f=some o) (ht:(match E.P.underlying t with |some (.struct fs)=>(fs[f]?).map (fun fl=>tK E.P fl.type)|_=>none)=some (some (false,n))) (hv:cs[o]? =some v):SD E ops ⟨dst,.field t x f,ty,ps,af,g⟩ D L C v:=
 eo hg sm fun a w A _=>by
  unfold vL at hf;cases hu:E.P.underlying t with
  |none=>simp [hu] at hf
  |some dd=>
   cases dd<;>simp [hu] at hf;rename_i fs;cases hff:fs[f]? with
   |none=>simp [hff] at hf
   |some fl=>
    simp only [hu,hff,AAA,k4] at ht;simp only [hff] at hf;cases hi:E.P.info? fl.type with
    |none=>simp [hi] at hf
    |some i=>
     simp only [hi] at hf;by_cases hz:i.size=0
     ·simp [hz] at hf
     ·simp only [hz,AA0,k4] at hf;subst hf;simp [execOp,A.ev hx,Instr.field,k3 hu,hff,asAgg,part,(vt ht w).1,hv]
theorem Be (hg:kz ops L g=true) (hx:ev L x=some (.tuple vs.toArray)) (hv:vs[i]? =some v):SD E ops ⟨dst,.extract x i,ty,ps,af,g⟩ D L C v:=
 eo hg sm fun a w hf _=>by simp [execOp,hf.ev hx,Instr.extract,hv]
theorem QY {fn:Fn} {ys:Array Operand} (hg:kz ops L g=true) (hx:evs L xs.toList=some us) (hy:evs L ys.toList=some vs):SD E ops ⟨dst,.makeFunc fn xs ys,ty,ps,af,g⟩ D L C (.func fn us.toArray vs.toArray):=
 eo hg sm fun a w hf _=>by
  have A:xs.map a.eval=us.toArray:=ABX (by simp [hf.evs hx]);have B:ys.map a.eval=vs.toArray:=ABX (by simp [hf.evs hy]);simp [execOp,Instr.makeFunc,A,B]
theorem tp {b:Nat}: ∀ (vs:List Value) (cs:List Value) (o i:Nat) (w:World),(∀ v∈vs,v.oneCell'=true)→o+i+vs.length≤cs.length→w.heap[b]? =some (.cells cs.toArray t (0,0))→
 ∃ w',(storeCells ⟨b,o,none⟩ vs i).run P w= .ok () w'∧w'.heap[b]? =some (.cells (cs.take (o+i)++vs++cs.drop (o+i+vs.length)).toArray t (0,0))∧ed (only b) w w':=by
 intro vs
 induction vs with
 |nil=>intro cs o i w _ _ h;exact ⟨w,by simp [storeCells],by simpa using h,ed.refl _ _⟩
 |cons v vs ih=>
  intro cs o i w hv hl h;simp only [y3] at hl;have J:=eG h;have A:w.cell? ((⟨b,o,none⟩:Addr).add i)=some (cs[o+i]'I):=by
   rw [kP,cell_of_row w b _ cs.toArray t (0,0) h];simp
  have D:w.frozen? ((⟨b,o,none⟩:Addr).add i)=false:=by rw [kP];simp [World.frozen?,h]
  have C:(w.setCell ((⟨b,o,none⟩:Addr).add i) v).heap[b]? =some (.cells (cs.set (o+i) v).toArray t (0,0)):=by
   rw [kP];simp [World.setCell,Array.getElem?_modify,h]
  have B:ed (only b) w (w.setCell ((⟨b,o,none⟩:Addr).add i) v):=⟨rfl,rfl,rfl,by simp [World.setCell],fun k hk hn=>Below.heap_setCell _ _ _ _ (by rw [xN];exact hn)⟩;obtain ⟨w',G,H,AA⟩:=ih (cs.set (o+i) v) o (i+1) _ (fun u hu=>hv u (by simp [hu])) (by simp;omega) C;refine ⟨w',?_,?_,B.trans AA⟩
  ·have F:=hv v sm;have E:(store ((⟨b,o,none⟩:Addr).add i) v).run P w= .ok () (w.setCell ((⟨b,o,none⟩:Addr).add i) v):=by
    rw [run_store P w _ v _ (by simpa [Value.oneCell'] using F)];simp [A,D]
   simp only [storeCells,AAf,E,AAa,G]
  ·rw [H];congr 3;rw [show o+(i+1)=o+i+1 from by omega,l1,ABg (c9 _),r6 I,ABj I];simp [ABS,ACK,Nat.add_left_comm]
theorem St.BP {b:Nat} (i:Nat) (h:St S w0 C w) (hC:C[i]? =some A) (hA:A.fP b) (hw:A.wr=true) (hk:ed (only b) w w') (hA':∀ x,A'.fP x→x=b) (hb:A'.holds w'):St S w0 (C.set i A') w':=by
 have hi:i<C.length:=(aT.1 hC).1;have G:C[i]=A:=(aT.1 hC).2;have AA:=A.whole hw b hA;have H:=h.own A (aF hC) b AA;have K:=h.seen A (aF hC) b hA;have F: ∀ j (hj:j<C.length),j≠i→ ∀ x,(C[j]).fP x→x≠b:=by
  intro j hj E x hx he;subst he;rcases ABM E with J|J
  ·have:=eW.1 h.sep j i hj hi J;rw [G] at this;exact (this x hx hA).2 AA
  ·have:=eW.1 h.sep i j hi hj J;rw [G] at this;exact (this x hA hx).1 AA
 refine ⟨?_,?_,?_,?_,?_⟩
 ·refine ⟨hk.os.trans h.keeps.os,hk.tape.trans h.keeps.tape,hk.output.trans h.keeps.output,c6 h.keeps.size hk.size,fun k L hn=>?_⟩;have E: ¬ only b k:=by
   rintro rfl;rcases H with O|O
   ·omega
   ·exact hn O
  exact (hk.block k (ABN L h.keeps.size) E).trans (h.keeps.block k L hn)
 ·intro B hB;obtain ⟨j,hj,D⟩:=p5.1 hB;rw [AAH] at D;split at D
  ·subst D;exact hb
  ·rename_i E;subst D;have hj':j<C.length:=by simpa using hj
   have hm:C[j]∈C:=u4 hj';refine (C[j]).qS w w' (fun x hx=>hk.block x ((C[j]).lt w (h.holds _ hm) x hx) ?_) (h.holds _ hm);exact F j hj' (ABO E) x hx
 ·rw [eW];intro p q hp hq N;have hp':p<C.length:=by simpa using hp
  have hq':q<C.length:=by simpa using hq
  have hs:=eW.1 h.sep p q hp' hq' N;rw [AAH,AAH];split
  ·rename_i M;subst M;rw [c1 I];intro x hx hx';exact absurd (hA' x hx) (F q hq' I x hx')
  ·split
   ·rename_i M;subst M;intro x hx hx';exact absurd (hA' x hx') (F p hp' I x hx)
   ·exact hs
 ·intro B hB x hx;obtain ⟨j,hj,D⟩:=p5.1 hB;rw [AAH] at D;split at D
  ·subst D;have:=hA' x (A'.l7 x hx);subst this;exact H
  ·subst D;exact h.own _ (u4 _) x hx
 ·intro B hB x hx;obtain ⟨j,hj,D⟩:=p5.1 hB;rw [AAH] at D;split at D
  ·subst D;have:=hA' x hx;subst this;exact K
  ·subst D;exact h.seen _ (u4 _) x hx
theorem St.store {b:Nat} (i:Nat) (h:St S w0 C w) (hC:C[i]? =some (cb b t cs)) (hk:ed (only b) w w') (hb:w'.heap[b]? =some (.cells cs'.toArray t (0,0))):St S w0 (C.set i (cb b t cs')) w':=
 h.BP i hC rfl rfl hk (fun _ h=>h) hb
theorem im {n b o tt:Nat} (i:Nat) (hg:kz ops L g=true) (hx:ev L x=some (.pointer (some ⟨b,o,none⟩))) (hy:ev L y=some v) (ht:(tK E.P t).map (·.2)=some n) (hv:v.cells.toList=vs) (hn:vs.length=n) (h1:vs.all Value.oneCell'=true) (hC:C[i]? =some (cb b tt cs)) (hl:ble (o+n) cs.length=true) (hcs:cs.take o++vs++cs.drop (o+n)=cs') (hC':C.set i (cb b tt cs')=C') (k:RJ E ops Q rest D L C'):
 RJ E ops Q (⟨none,.store t x y,ty,ps,af,g⟩::rest) D L C:=by
 intro a w A hs;unfold uJ;rw [c0 (eH A hg)];have hl':=ABP hl;obtain ⟨w',hr,hb',hk⟩:=tp (P:=E.P) vs cs o 0 w (fun v hv=>dg.1 h1 v hv) (by rw [hn];exact hl') (hs.holds _ (aF hC));have B:(sizeOf t).run E.P w= .ok n w:=by
  obtain ⟨bn,F,rfl⟩:=AAQ.1 ht;obtain ⟨bb,nn⟩:=bn;cases bb
  ·exact (vt F w).2
  ·exact (qn F w).2
 have G:v.cells.size=n:=by rw [← hn,← hv];simp
 refine uI sm (w':=w') ?_ ?_
 ·simp [execOp,A.ev hx,A.ev hy,Instr.storeAt,Instr.sureAddr,storeVar,B,G,hv,hr]
 ·refine k _ _ ⟨A.defers,A.size,A.at_⟩ ?_;rw [← hC'];refine hs.store i hC hk ?_;rw [hb'];simp only [AB8,hn,hcs]
end
end
section
open Go.RowKit
def kQ (C:List au) (is:List Nat):List au:=is.filterMap (C[·]?)
theorem S0 (h:A∈kQ C is):A∈C:=by
 obtain ⟨i,_,hi⟩:=AAD.1 h;exact aF hi
theorem Rp (hC:C.Pairwise Gu): ∀ {is:List Nat},is.Nodup→(kQ C is).Pairwise Gu:=by
 intro is
 induction is with
 |nil=>intro _;exact List.Pairwise.nil
 |cons i is ih=>
  intro hn;rw [AA2] at hn;unfold kQ;cases hi:C[i]? with
  |none=>simp only [AB3,hi];exact ih hn.2
  |some A=>
   simp only [AB3,hi];refine List.Pairwise.cons (fun B hB=>?_) (ih hn.2);obtain ⟨j,hj,H⟩:=AAD.1 hB;have AA:i≠j:=fun e=>hn.1 (e▸hj);obtain ⟨D,E⟩:=aT.1 hi;obtain ⟨F,G⟩:=aT.1 H;rcases ABM AA with h|h
   ·have:=eW.1 hC i j D F h
    rwa [E,G] at this
   ·have:=eW.1 hC j i F D h;rw [E,G] at this;exact Gu.symm this
theorem NA (h:decide is.Nodup=true):is.Nodup:=s6 h
theorem St.kQ (is:List Nat) (hn:decide is.Nodup=true) (hC:Go.Proofs.YtgnlmfdknlbkkaaGreatDoor.kQ C is=C') (h:St S w0 C w):St S w0 C' w:=by
 subst hC;exact h.sub (Rp h.sep (NA hn)) (fun A hA=>S0 hA)
def jB (r:Nat):Deferred:={target:= .collected r,args:= #[]}
/-- what is asked where a function is left -/
def LJ (E:fJ) (fn:Func) (R:Ending→World→Prop) (D:iF) (L:dJ) (C:List au):Prop:=
 ∀ a w,Fr E.n D L a→St E.S E.w0 C w→LeavesInM (Fw none) 0 E.P fn a.tmps R D .returning w
def Lt (P:Program) (L:dJ) (C:List au):List ResultVar→List Value→Prop
 |[],[]=>True
 | .tmp t::rs,v::vs=>L.lookup t=some v∧Lt P L C rs vs
 | .cell a t::rs,v::vs=>(∃ A,L.lookup a=some (.pointer A)∧((∃ n us,tK P t=some (true,n)∧At C A us∧us.length=n∧v= .agg us.toArray)∨(∃ n,tK P t=some (false,n)∧At C A [v])))∧Lt P L C rs vs
 |_,_=>False
def WB (vs:List Value):Value:=match vs with |[v]=>v|_=> .tuple vs.toArray
theorem Ac {n:Nat} {A:OA} (ht:tK P t=some (false,n)) (h:∃ ad,A=some ad∧ ∀ j u,[v][j]? =some u→w.cell? (ad.add j)=some u):(do loadVar t (← asAddr (.pointer A)):Sem Value).run P w= .ok v w:=by
 obtain ⟨ad,rfl,hc⟩:=h;have B:w.cell? ad=some v:=by simpa [Addr.add] using hc 0 v rfl
 simp [asAddr,loadVar,(vt ht w).1,B]
theorem Af {n:Nat} {A:OA} (ht:tK P t=some (true,n)) (hn:us.length=n) (h:∃ ad,A=some ad∧ ∀ j u,us[j]? =some u→w.cell? (ad.add j)=some u):(do loadVar t (← asAddr (.pointer A)):Sem Value).run P w= .ok (.agg us.toArray) w:=by
 obtain ⟨ad,rfl,hc⟩:=h;have hl:(loadCells ad n).run P w= .ok us.toArray w:=by rw [← hn];exact run_loadCells_list w ad us hc
 simp [asAddr,loadVar,(qn ht w).1,(qn ht w).2,hl]
theorem QN (hL:∀ t v,L.lookup t=some v→tmps[t]? =some v) (hw:∀ A∈C,A.holds w): ∀ (rs:List ResultVar) (vs:List Value),Lt P L C rs vs→
 (rs.mapM (fun
  | .tmp t=>pure (tmps.getD t undef)
  | .cell a t=>do loadVar t (← asAddr (tmps.getD a undef)):ResultVar→Sem Value)).run P w= .ok vs w:=by
 intro rs
 induction rs with
 |nil=>intro vs h;cases vs with |nil=>simp |cons v vs=>exact h.elim
 |cons r rs ih=>
  intro vs h;cases vs with
  |nil=>cases r<;>exact h.elim
  |cons v vs=>
   cases r with
   |tmp t=>
    obtain ⟨D,E⟩:=h;have hg:tmps.getD t undef=v:=by simp [hL t v D]
    simp only [List.mapM_cons,AAf,hg,ACA,AAa,ih vs E]
   |cell a t=>
    obtain ⟨⟨A,D,F⟩,E⟩:=h;have hg:tmps.getD a undef= .pointer A:=by simp [hL a _ D]
    have hl:(do loadVar t (← asAddr (.pointer A)):Sem Value).run P w= .ok v w:=by
     rcases F with ⟨n,us,ht,B,hn,rfl⟩|⟨n,ht,B⟩
     ·exact Af ht hn (B w hw)
     ·exact Ac ht (B w hw)
    rw [← hg] at hl;simp only [List.mapM_cons];rw [AAf,hl];simp only [AAa,AAf,ih vs E,ACA]
theorem F5 (hL:∀ t v,L.lookup t=some v→tmps[t]? =some v) (hw:∀ A∈C,A.holds w) (h:Lt P L C fn.results.toList vs):(results fn tmps).run P w= .ok (WB vs) w:=by
 have B:=QN hL hw _ _ h;unfold results;rw [Array.mapM_eq_mapM_toList]
 generalize (fn.results.toList.mapM _:Sem (List Value))=m at B ⊢
 match vs with
 |[]=>simp [WB,B]
 |[v]=>simp [WB,B]
 |u::v::vs=>simp [WB,B]
theorem g4 (h:Lt E.P L C fn.results.toList vs) (hR:∀ w,St E.S E.w0 C w→R (.returned (WB vs)) w):LJ E fn R [] L C:=
 fun a w hf hs=>⟨_,F5 hf.at_ hs.holds h,hR w hs⟩
theorem iB {b:Nat} (o:Obj):ed (only b) w (w.putObj b o):=⟨rfl,rfl,rfl,by simp [World.putObj],fun k _ hn=>World.putObj_heap_other hn⟩
theorem nF {r:Nat} (i:Nat) (hC:C[i]? =some (jT r (.deferred (some [])))) (hC':C.set i (jT r (.deferred none))=C') (h:LJ E fn R D L C'):LJ E fn R (jB r::D) L C:=by
 intro a w hf hs;have hb:w.heap[r]? =some (.deferred (some [])):=hs.holds _ (aF hC);refine ⟨sm,.inl ⟨r,_,U,run_takeDeferred hb,?_⟩⟩;refine h {a with defers:=D} _ ⟨rfl,hf.size,hf.at_⟩ ?_;rw [← hC'];exact hs.BP i hC U U (iB _) (fun _ h=>h) (AAR (eG hb))
/-- the contract's end, out of the state -/
def Pb (w0:World) {α:Type} (V:α→Value) (p:α→Prop) (N:α→List au) (e:Ending) (w':World):Prop:= ∃ x,e= .returned (V x)∧p x∧ed no w0 w'∧QV w0 w' (N x)
theorem EM {V:α→Value} {p:α→Prop} {N:α→List au} (x:α) (is:List Nat) (hV:v=V x) (hp:p x) (hn:decide is.Nodup=true) (hN:kQ C is=N x) (hw:(N x).all (·.wr)=true) (hs:St sf w0 C w):Pb w0 V p N (.returned v) w:=by
 refine ⟨x,by rw [hV],hp,hs.keeps,?_⟩;have B:=St.kQ is hn hN hs;refine ⟨B.holds,fun A hA b hb=>?_,B.sep⟩;rcases B.own A hA b (A.whole (dg.1 hw A hA) b hb) with h|h
 ·exact h
 ·exact h.elim
def AA (w0:World) (v:Value) (e:Ending) (w':World):Prop:=e= .returned v∧ed no w0 w'
theorem H3 (h:u=v) (hs:St sf w0 C w):AA w0 v (.returned u) w:=⟨by rw [h],hs.keeps⟩
def Ul (args:List Value):dJ:=(args.zipIdx 0).map fun p=>(p.2,p.1)
theorem zo: ∀ (args:List Value) (k t:Nat) (v:Value),((args.zipIdx k).map fun p=>(p.2,p.1)).lookup t=some v→k≤t∧args[t-k]? =some v:=by
 intro args
 induction args with
 |nil=>intro k t v h;simp at h
 |cons x xs ih=>
  intro k t v h;simp only [ACe,m2,lookup] at h;by_cases e:t=k
  ·subst e;simp at h;subst h;simp
  ·have:(t==k)=false:=by simpa using e
   rw [this] at h;obtain ⟨B,A⟩:=ih (k+1) t v h;refine ⟨I,?_⟩;rw [show t-k=(t-(k+1))+1 from by omega];simpa using A
theorem tj (h:∀ A∈Cp,A.holds w):St sf w (Cp.map au.ro) w:=by
 refine ⟨ed.refl _ _,fun A hA=>?_,?_,fun A hA b hb=>?_,fun A hA b hb=> .inr trivial⟩
 ·obtain ⟨B,hB,rfl⟩:=cu.1 hA;exact h B hB
 ·refine List.pairwise_of_forall_mem_list fun A hA B hB b _ _=>?_;obtain ⟨A',_,rfl⟩:=cu.1 hA;obtain ⟨B',_,rfl⟩:=cu.1 hB;exact ⟨fun h=>h,fun h=>h⟩
 ·obtain ⟨B,_,rfl⟩:=cu.1 hA;exact hb.elim
theorem TS {R:World→Ending→World→Prop} (hf:P.funcs[f]? =some fn) (hb:fn.body=some c) (hn:ble args.length fn.ntmps=true) (h:∀ (w0:World) (Q:du),(∀ D L C,LJ ⟨P,none,fn.ntmps,sf,w0⟩ fn (R w0) D L C→KJ ⟨P,none,fn.ntmps,sf,w0⟩ (Q .ret) D L C)→(∀ D L C,LJ ⟨P,none,fn.ntmps,sf,w0⟩ fn (R w0) D L C→KJ ⟨P,none,fn.ntmps,sf,w0⟩ (Q .normal) D L C)→
  WJ ⟨P,none,fn.ntmps,sf,w0⟩ c Q [] (Ul args) (Cp.map au.ro)) (w:World) (hw:∀ A∈Cp,A.holds w):Calls P f args.toArray w (R w):=by
 refine yJ (callsIn_of_wp_marks hf hb trivial ?_ U);have E:=ABP hn;refine h w (bodyPostM (Fw none) 0 P fn (R w)) ?_ ?_ _ w ⟨U,by simp;omega,fun t v hv=>?_⟩ (tj hw)
 ·intro D L C hl a w' hf' hs';have:=hl a w' hf' hs';show LeavesInM (Fw none) 0 P fn a.tmps (R w) a.defers .returning w'
  rw [hf'.defers];exact this
 ·intro D L C hl a w' hf' hs';have:=hl a w' hf' hs';show LeavesInM (Fw none) 0 P fn a.tmps (R w) a.defers .returning w'
  rw [hf'.defers];exact this
 ·obtain ⟨_,B⟩:=zo args 0 t v hv;have ht:t<args.length:=by
   have:=(aT.1 B).1;omega
  simp only [Nat.sub_zero] at B;rw [Array.getElem?_append_left (by simpa using ht)];simpa using B
theorem bj (hgo:sN P f=true) (hf:P.funcs[f]? =some fn) (hb:fn.body=some c) (hn:ble args.length fn.ntmps=true) (h:∀ (w0:World) (Q:du),(∀ D L C,LJ ⟨P,none,fn.ntmps,sf,w0⟩ fn (AA w0 v) D L C→KJ ⟨P,none,fn.ntmps,sf,w0⟩ (Q .ret) D L C)→(∀ D L C,LJ ⟨P,none,fn.ntmps,sf,w0⟩ fn (AA w0 v) D L C→KJ ⟨P,none,fn.ntmps,sf,w0⟩ (Q .normal) D L C)→
  WJ ⟨P,none,fn.ntmps,sf,w0⟩ c Q [] (Ul args) (Cp.map au.ro)):dh P f args Cp v:=⟨hgo,fun w hw=>TS (R:=fun w0=>AA w0 v) hf hb hn h w hw⟩
theorem cU {V:α→Value} {p:α→Prop} {N:α→List au} (hgo:sN P f=true) (hf:P.funcs[f]? =some fn) (hb:fn.body=some c) (hn:ble args.length fn.ntmps=true) (h:∀ (w0:World) (Q:du),(∀ D L C,LJ ⟨P,none,fn.ntmps,sf,w0⟩ fn (Pb w0 V p N) D L C→KJ ⟨P,none,fn.ntmps,sf,w0⟩ (Q .ret) D L C)→(∀ D L C,LJ ⟨P,none,fn.ntmps,sf,w0⟩ fn (Pb w0 V p N) D L C→KJ ⟨P,none,fn.ntmps,sf,w0⟩ (Q .normal) D L C)→
  WJ ⟨P,none,fn.ntmps,sf,w0⟩ c Q [] (Ul args) (Cp.map au.ro)):ld P f args Cp V p N:=⟨hgo,fun w hw=>TS (R:=fun w0=>Pb w0 V p N) hf hb hn h w hw⟩
end
section
open Go.RowKit
/-- a slice of one's own, that may be appended to -/
def own (a:OA) (c:Nat) (e sz:Nat) (es:List (List Value)):au where
 fP b:= ∃ ad,a=some ad∧b=ad.block
 wf b:= ∃ ad,a=some ad∧b=ad.block
 holds w:=(∀ x∈es,x.length=sz)∧w.ownsRow 0 e sz (.slice a es.length c) es.length es.flatten
 wr:=true
 l7 _ h:=h
 whole _ _ h:=h
 lt w h b hb:=by
  obtain ⟨ad,rfl,rfl⟩:=hb
  exact (h.2.lt ad.block rfl).2
 qS w w' hk h:=by
  refine ⟨h.1,h.2.1,?_⟩
  rcases h.2.2 with h1|⟨g,cap,cur,hv,h2,h3,h4⟩
  ·exact .inl h1
  ·refine .inr ⟨g,cap,cur,hv,h2,?_,h4⟩
   injection hv with hv
   subst hv
   rw [hk g ⟨_,rfl,rfl⟩];exact h3
theorem pA {a:OA} {c:Nat} (h:(own a c e sz es).holds w):(rd a es.length sz es).holds w:=by
 obtain ⟨hl,A,C⟩:=h;rcases C with ⟨F,B⟩|⟨g,cap,cur,hv,_,D,G,H,AA,E⟩
 ·exact ⟨U,hl,fun hn=>by simp [B] at hn⟩
 ·injection hv with hv;subst hv;refine xn (cs:=cur.toList) (t:=e) ?_ U hl ⟨cur.toList.drop (es.length*sz),?_⟩
  ·show w.heap[g]? =_
   rw [D]
  ·rw [← E];exact ABA _ _
theorem IP {a:OA} {c:Nat} (i:Nat) (hC:C[i]? =some (own a c e sz es)):ig C (rd a es.length sz es).holds:=fun w hw=>pA (av i hC w hw)
theorem rI (w:World) (e sz:Nat):(own none 0 e sz []).holds w:=⟨sm,sm,.inl ⟨rfl,rfl⟩⟩
theorem St.rI (h:St S w0 C w) (e sz:Nat):St S w0 (Go.Proofs.YtgnlmfdknlbkkaaGreatDoor.own none 0 e sz []::C) w:=by
 refine ⟨h.keeps,fun A hA=>?_,List.Pairwise.cons (fun B _ b hb=>?_) h.sep,fun A hA b hb=>?_,fun A hA b hb=>?_⟩
 ·rcases bI.1 hA with rfl|hA
  ·exact Go.Proofs.YtgnlmfdknlbkkaaGreatDoor.rI w e sz
  ·exact h.holds A hA
 ·obtain ⟨ad,D,_⟩:=hb;cases D
 ·rcases bI.1 hA with rfl|hA
  ·obtain ⟨ad,D,_⟩:=hb;cases D
  ·exact h.own A hA b hb
 ·rcases bI.1 hA with rfl|hA
  ·obtain ⟨ad,D,_⟩:=hb;cases D
  ·exact h.seen A hA b hb
theorem fT (e sz:Nat) (k:RJ E ops Q rest D L (own none 0 e sz []::C)):RJ E ops Q rest D L C:=fun a w hf hs=>k a w hf (hs.rI e sz)
theorem eC (e sz:Nat) (k:WJ E c Q D L (own none 0 e sz []::C)):WJ E c Q D L C:=fun a w hf hs=>k a w hf (hs.rI e sz)
theorem I4 (h:(cb g e cs).holds w) (h2:∀ x∈es,x.length=sz) (h3:es.flatten=cs) (hm:es.length≤maxLen):(own (some ⟨g,0,none⟩) es.length e sz es).holds w:=by
 have hl:es.flatten.length=es.length*sz:=by
  clear h3 hm
  induction es with
  |nil=>simp
  |cons x xs ih=>
   simp only [m9,e4,y3];rw [ih (fun y hy=>h2 y (by simp [hy])),h2 x sm,AAZ,ACK]
 refine ⟨h2,hl,.inr ⟨g,es.length,cs.toArray,U,c4 _,h,c9 _,hm,by simp [← h3,hl],?_⟩⟩;show List.take (es.length*sz) cs=es.flatten
 rw [← h3,← hl];exact AA8
theorem g0 (i:Nat) (hC:C[i]? =some (cb g e cs)) (h2:∀ x∈es,x.length=sz) (h3:es.flatten=cs) (hm:es.length≤maxLen) (hC':C.set i (own (some ⟨g,0,none⟩) es.length e sz es)=C') (k:RJ E ops Q rest D L C'):RJ E ops Q rest D L C:=fun a w hf hs=>by
 refine k a w hf ?_;rw [← hC'];refine hs.BP i hC U U (ed.refl _ _) (fun x hx=>?_) (I4 (hs.holds _ (aF hC)) h2 h3 hm);obtain ⟨ad,A,h2⟩:=hx;cases A;exact h2
/-- one assertion's block has turned, or has gone to a new one -/
theorem St.move {row:Option Nat} (i:Nat) (h:St S w0 C w) (hC:C[i]? =some A) (hA:∀ b,row=some b→A.fP b) (hw:A.wr=true) (hk:w.grownBy w' row) (hA':∀ x,A'.fP x→row=some x∨w.heap.size≤x) (hb:A'.holds w'):St S w0 (C.set i A') w':=by
 have hi:i<C.length:=(aT.1 hC).1;have H:C[i]=A:=(aT.1 hC).2;have F:A∈C:=aF hC;have J: ∀ j (hj:j<C.length),j≠i→ ∀ x,(C[j]).fP x→ ¬ A.fP x:=by
  intro j hj G x hx he;rcases ABM G with K|K
  ·have:=eW.1 h.sep j i hj hi K;rw [H] at this;exact (this x hx he).2 (A.whole hw x he)
  ·have:=eW.1 h.sep i j hi hj K;rw [H] at this;exact (this x he hx).1 (A.whole hw x he)
 have AA: ∀ j (hj:j<C.length),j≠i→ ∀ x,(C[j]).fP x→ ¬ A'.fP x:=by
  intro j hj G x hx he;rcases hA' x he with E|E
  ·exact J j hj G x hx (hA x E)
  ·have:=(C[j]).lt w (h.holds _ (u4 hj)) x hx;omega
 refine ⟨?_,?_,?_,?_,?_⟩
 ·refine ⟨hk.os.trans h.keeps.os,hk.tape.trans h.keeps.tape,hk.output.trans h.keeps.output,c6 h.keeps.size hk.size,fun k L hn=>?_⟩;refine (hk.block k (ABN L h.keeps.size) (fun e=>?_)).trans (h.keeps.block k L hn);rcases h.own A F k (A.whole hw k (hA k e.symm)) with E|E
  ·omega
  ·exact hn E
 ·intro B hB;obtain ⟨j,hj,D⟩:=p5.1 hB;rw [AAH] at D;split at D
  ·subst D;exact hb
  ·rename_i G;subst D;have hj':j<C.length:=by simpa using hj
   have hm:C[j]∈C:=u4 hj';refine (C[j]).qS w w' (fun x hx=>hk.block x ((C[j]).lt w (h.holds _ hm) x hx) (fun e=>?_)) (h.holds _ hm);exact J j hj' (ABO G) x hx (hA x e.symm)
 ·rw [eW];intro p q hp hq N;have hp':p<C.length:=by simpa using hp
  have hq':q<C.length:=by simpa using hq
  have hs:=eW.1 h.sep p q hp' hq' N;rw [AAH,AAH];split
  ·rename_i M;subst M;rw [c1 I];exact fun x hx hx'=>absurd hx (AA q hq' I x hx')
  ·split
   ·rename_i M;subst M;exact fun x hx hx'=>absurd hx' (AA p hp' I x hx)
   ·exact hs
 ·intro B hB x hx;obtain ⟨j,hj,D⟩:=p5.1 hB;rw [AAH] at D;split at D
  ·subst D;rcases hA' x (A'.l7 x hx) with E|E
   ·exact h.own A F x (A.whole hw x (hA x E))
   ·exact .inl (c6 h.keeps.size E)
  ·subst D;exact h.own _ (u4 _) x hx
 ·intro B hB x hx;obtain ⟨j,hj,D⟩:=p5.1 hB;rw [AAH] at D;split at D
  ·subst D;rcases hA' x hx with E|E
   ·exact h.seen A F x (hA x E)
   ·exact .inl (c6 h.keeps.size E)
  ·subst D;exact h.seen _ (u4 _) x hx
def tA (P:Program) (t:TypeId):Option (TypeId×Nat×Nat×Value):=
 match P.underlying t with
 |some (.slice e)=>match P.info? e with
  |some i=>match i.zero with
   |some z=>if z.cells.size=i.size then some (e,i.size,i.bytes,z) else none
   |none=>none
  |none=>none
 |_=>none
theorem Nz (h:tA P t=some (e,sz,by_,z)): ∃ i,P.underlying t=some (.slice e)∧P.info? e=some i∧i.zero=some z∧i.size=sz∧i.bytes=by_∧z.cells.size=sz:=by
 unfold tA at h;cases hu:P.underlying t with
 |none=>simp [hu] at h
 |some d=>
  cases d<;>simp [hu] at h;rename_i e';cases hi:P.info? e' with
  |none=>simp [hi] at h
  |some i=>
   cases hz:i.zero with
   |none=>simp [hi,hz] at h
   |some z'=>
    simp only [hi,hz] at h;split at h
    ·simp only [k4,p4] at h;obtain ⟨rfl,rfl,rfl,rfl⟩:=h;exact ⟨i,U,hi,hz,U,U,asm⟩
    ·cases h
theorem Bm (w:World) (t ty e:TypeId) (i:TypeInfo) (size:Nat) (ht:P.underlying t=some (.slice e)) (hi:P.info? e=some i) (v:Value) (n:Nat) (xs:List Value) (hown:w.ownsRow 0 e size v n xs) (c:Nat):(Builtin.append_ #[t,t] ty #[v,.slice none 0 c]).run P w= .ok v w:=by
 rcases hown.2 with ⟨rfl,rfl⟩|⟨g,cap,cur,rfl,_,_,A,_⟩
 ·simp [Builtin.append_,k3 ht,sizeOf,typeInfo,hi,Builtin.lenOf,Builtin.firstCells]
 ·simp [Builtin.append_,k3 ht,sizeOf,typeInfo,hi,Builtin.lenOf,Builtin.firstCells,A,storeCells]
theorem SH: ∀ (es:List (List Value)) (k:Nat),(∀ e∈es,e.length=sz)→(∀ i e j v,es[i]? =some e→e[j]? =some v→w.cell? (ad.add ((k+i)*sz+j))=some v)→ ∀ j v,es.flatten[j]? =some v→w.cell? (ad.add (k*sz+j))=some v:=by
 intro es
 induction es with
 |nil=>intro k _ _ j v hj;simp at hj
 |cons x xs ih=>
  intro k hl h j v hj;have hx:=hl x sm;simp only [m9] at hj;rcases r4 j x.length with B|A
  ·rw [v3 B] at hj;exact h 0 x j v sm hj
  ·rw [k_ A] at hj;have:=ih (k+1) (fun e he=>hl e (by simp [he])) (fun i e j v hi hj=>by
    have:=h (i+1) e j v (by simpa using hi) hj
    rwa [show k+1+i=k+(i+1) from by omega]) (j-x.length) v hj
   rw [AAZ] at this
   rwa [show k*sz+sz+(j-x.length)=k*sz+j from by omega] at this
section
variable {E:fJ} {ops:Array Oper} {Q:du} {rest:List Oper} {D:List Deferred} {L:List (Nat×Value)} {C:List au}
variable {d:Nat} {ty:TypeId} {ps:String} {af:Array Edge} {g:Option (Nat×Bool)}
theorem m7: ∀ {es:List (List Value)},(∀ x∈es,x.length=sz)→es.flatten.length=es.length*sz:=by
 intro es
 induction es with
 |nil=>intro _;simp
 |cons x xs ih=>
  intro h;simp only [m9,e4,y3];rw [ih (fun y hy=>h y (by simp [hy])),h x sm,AAZ,ACK]
theorem de {s:Operand} {n m m' c c':Nat} {a A:OA} {es2:List (List Value)} (i:Nat) (hg:kz ops L g=true) (hs:ev L s=some (.slice a n c)) (hx:ev L x=some (.slice A m c')) (ht:tA E.P t=some (e,sz,by_,z)) (hsz:blt 0 sz=true) (hC:C[i]? =some (own a c e sz es)) (hn:n=es.length) (hR:ig C (rd A m sz es').holds) (h1:∀ v∈es'.flatten,v.oneCell'=true) (hb:(n+m)*by_≤140737488355328) (hb2:n+m≤maxLen) (hes:es++es'=es2) (hm':es2.length=m') (hd:blt d E.n=true) (k:∀ (a':OA) (c2:Nat),RJ E ops Q rest D ((d,.slice a' m' c2)::L) (C.set i (own a' c2 e sz es2))):
 RJ E ops Q (⟨some d,.call {callee:= .builtin .append,args:= #[s,x],argTypes:= #[t,t]},ty,ps,af,g⟩::rest) D L C:=by
 intro act w G J;have hd':d<E.n:=by rw [← u7];exact hd
 have hsz':0<sz:=by rw [← u7];exact hsz
 obtain ⟨inf,hu,hi,hz,V,W,X⟩:=Nz ht;unfold uJ;rw [c0 (eH G hg)];subst hn hes hm';obtain ⟨S,B⟩:(own a c e sz es).holds w:=J.holds _ (aF hC);obtain ⟨F,AB,AA⟩:=J.has hR;have T: ∀ x∈es++es',x.length=sz:=fun x hx=>by
  rcases dZ.1 hx with h|h
  ·exact S x h
  ·exact AB x h
 have main: ∃ v' w',(Builtin.append_ #[t,t] ty #[.slice a es.length c,.slice A m c']).run E.P w= .ok v' w'∧w'.ownsRow 0 e sz v' (es.length+m) (es.flatten++es'.flatten)∧w.grownBy w' (vS a es.length c).ownBlock∧(v'.ownBlock=(vS a es.length c).ownBlock∨v'.ownBlock=some w.heap.size):=by
  by_cases R:m=0
  ·subst R;have he:es'=[]:=kq F;subst he;cases A with
   |none=>exact ⟨_,w,Bm w t ty e inf sz hu hi _ _ _ B c',by simpa using B,World.grownBy.refl w _,.inl rfl⟩
   |some ad=>
    obtain ⟨v',w',M,K,N,_,O⟩:=run_append_own_at (P:=E.P) w 0 t ty e inf z sz by_ hu hi hz V W X hsz' _ _ _ B ad 0 c' [] sm sm sm hb2 hb (c4 _);exact ⟨v',w',M,by simpa using K,N,O⟩
  ·obtain ⟨ad,hA,hc⟩:=AA (e6 I hsz');subst hA;obtain ⟨v',w',M,K,N,_,O⟩:=run_append_own_at (P:=E.P) w 0 t ty e inf z sz by_ hu hi hz V W X hsz' _ _ _ B ad m c' es'.flatten (by rw [m7 AB,F])
    (fun j v hj=>by have:=SH (w:=w) (ad:=ad) es' 0 AB (fun i e j v hi hj=>by simpa using hc i e j v hi hj) j v hj;simpa using this) h1 hb2 hb (c4 _)
   exact ⟨v',w',M,K,N,O⟩
 obtain ⟨v',w',M,K,N,O⟩:=main;have H: ∃ a' c2,v'= .slice a' (es++es').length c2:=by
  rcases K.2 with ⟨rfl,R⟩|⟨gg,cap,cur,rfl,_⟩
  ·exact ⟨none,0,by rw [e4,F,R]⟩
  ·exact ⟨_,cap,by rw [e4,F]⟩
 obtain ⟨a',c2,rfl⟩:=H;refine jr sm (w':=w') (v:= .slice a' (es++es').length c2) ?_ ?_
 ·simp [execOp,resolve,invoke,builtin,G.ev hs,G.ev hx,M]
 ·refine k a' c2 _ _ (G.put hd' _) ?_;refine J.move i hC (row:=(vS a es.length c).ownBlock) (fun b hb=>?_) U N (fun y hy=>?_) ?_
  ·cases a with
   |none=>simp [Value.ownBlock] at hb
   |some ad=>exact ⟨ad,rfl,by simpa [Value.ownBlock] using hb.symm⟩
  ·obtain ⟨ad,rfl,rfl⟩:=hy;rcases O with h|h
   ·left;rw [← h];rfl
   ·right;simp [Value.ownBlock] at h;omega
  ·refine ⟨T,?_⟩;rw [AB2];rw [show (es++es').length=es.length+m from by rw [e4,F]] at K ⊢;exact K
end
end
section
structure aX where
 a:OA
 n:Nat
 c:Nat
 deriving DecidableEq
def iC (x:Int):List Value:=[.int .i64 x]
@[simp] theorem br (x:Int):(iC x).length=1:=rfl
def Vc (x:Int):List Value:=[.int .u32 x]
@[simp] theorem QU (x:Int):(Vc x).length=1:=rfl
def P2 (x:Int):List Value:=[.int .u8 x]
@[simp] theorem RG (x:Int):(P2 x).length=1:=rfl
theorem mH {n:Int} (h:0≤n∧n≤255):IntKind.i64.wrap n=n:=p_ ⟨I,I⟩
theorem AX {a b A B:Int} (h1:0≤a) (h2:a≤A) (h3:0≤b) (h4:b≤B):0≤a*b∧a*b≤A*B:=
 ⟨ACW h1 h3,Int.mul_le_mul h2 h4 h3 (Int.le_trans h1 h2)⟩
theorem Zk {a b A:Int} (h1:0≤a) (h2:a≤A) (h3:0<b):0≤a/b∧a/b≤A:=
 ⟨ACQ h1 I,Int.le_trans (ACG b h1) h2⟩
theorem oj {f:α→List Value} (h:∀ s,(f s).all Value.oneCell'=true) (l:List α): ∀ v∈(l.map f).flatten,v.oneCell'=true:=fun v hv=>by
 obtain ⟨x,hx,A⟩:=ABc.1 hv;obtain ⟨s,_,rfl⟩:=cu.1 hx;exact dg.1 (h s) v A
theorem j_ (l:List Int): ∀ v∈(l.map iC).flatten,v.oneCell'=true:=oj (fun _=>rfl) l
theorem CC {t:TypeId} (x y:Operand) {xs ys:List Value} (hm:P.eqGuardType P.depth t=false) (h:∀ w,(Op.equalIn 10000 t (.agg xs.toArray) (.agg ys.toArray)).run P w= .ok b w):g8 P .eql t x y (.agg xs.toArray) (.agg ys.toArray) (.bool b):=fun w=>by
 rw [AAf,run_eqGuard_agg w _ _ _ _ _ _ hm];simp only [AAa];rw [run_eql_struct,h w];rfl
theorem qA {t:TypeId} (x y:Operand) {xs ys:List Value} (hm:P.eqGuardType P.depth t=false) (h:∀ w,(Op.equalIn 10000 t (.agg xs.toArray) (.agg ys.toArray)).run P w= .ok b w):g8 P .neq t x y (.agg xs.toArray) (.agg ys.toArray) (.bool (!b)):=fun w=>by
 rw [AAf,run_eqGuard_agg w _ _ _ _ _ _ hm];simp only [AAa];rw [run_neq_struct,h w];rfl
theorem jI {n:Nat} {xs:List Value} (ht:tK P t=some (true,n)) (hv:(xs.drop off).take n=vs) (w:World):(part t xs.toArray off).run P w= .ok (.agg vs.toArray) w:=by
 simp [part,(qn ht w).1,(qn ht w).2];exact hv
theorem dR {n:Nat} {xs:List Value} (ht:tK P t=some (false,n)) (hv:xs[off]? =some v) (w:World):(part t xs.toArray off).run P w= .ok v w:=by
 simp [part,(vt ht w).1,hv]
/-- a struct's fields: of what type, where; none is blank -/
def fL (P:Program) (t:TypeId):Option (List (Nat×Nat)):=
 match P.underlying t with
 |some (.struct fs)=>if fs.toList.all (fun f=>f.name != "_")&& !P.stoodInHeld t&& !P.eqGuardType P.depth t then some (fs.toList.map fun f=>(f.type,f.offset)) else none
 |_=>none
def QX (d:Nat) (xs ys:Array Value):List (Nat×Nat)→Sem Bool
 |[]=>pure true
 |(t,o)::fs=>do
  let a ← part t xs o
  let b ← part t ys o
  let r ← Op.equalIn d t a b
  if (!r)=true then pure false else QX d xs ys fs
theorem U_ {xs:Array Value}: ∀ (fs:List Field) (w:World),fs.all (fun f=>f.name != "_")=true→(Op.eqFields d xs ys fs).run P w=(QX d xs ys (fs.map fun f=>(f.type,f.offset))).run P w:=by
 intro fs
 induction fs with
 |nil=>intro w _;simp [Op.eqFields,QX]
 |cons f fs ih=>
  intro w h;simp only [eX,dq,AAM,AB4] at h;simp only [Op.eqFields,QX,m2,AB4,h.1,ACa,ACd,AAf]
  generalize (part f.type xs f.offset).run P w=r1
  cases r1 with
  |halt x w1=>rfl
  |ok a w1=>
   simp only [AAa]
   generalize (part f.type ys f.offset).run P w1=r2
   cases r2 with
   |halt x w2=>rfl
   |ok b w2=>
    simp only [AAa]
    generalize (Op.equalIn d f.type a b).run P w2=r3
    cases r3 with
    |halt x w3=>rfl
    |ok r w3=>cases r<;>simp [ih _ h.2]
/-- one field more -/
theorem gG {o:Nat} {xs:Array Value} {fs:List (Nat×Nat)} {a b:Value} {p:Bool} (w:World) (ha:(part t xs o).run P w= .ok a w) (hb:(part t ys o).run P w= .ok b w) (he:(Op.equalIn d t a b).run P w= .ok p w) (hr:(QX d xs ys fs).run P w= .ok q w):(QX d xs ys ((t,o)::fs)).run P w= .ok (p&&q) w:=by
 simp only [QX,AAf,ha,hb,he,AAa];cases p<;>simp [hr]
theorem qe {xs:Array Value} (w:World):(QX d xs ys []).run P w= .ok true w:=by simp [QX]
theorem j0 {t:TypeId} {k:IntKind} (d:Nat) {a b:Int} (h:P.underlying t=some (.int k)) (w:World):(Op.equalIn (d+1) t (.int k a) (.int k b)).run P w= .ok (decide (a=b)) w:=by
 rw [run_equalIn_int w d t k k a b h,D1]
theorem lh {t:TypeId} (d:Nat) {xs ys:List Value} (hl:fL P t=some l) (w:World) (h:(QX d xs.toArray ys.toArray l).run P w= .ok b w):(Op.equalIn (d+1) t (.agg xs.toArray) (.agg ys.toArray)).run P w= .ok b w:=by
 unfold fL at hl;cases hu:P.underlying t with
 |none=>simp [hu] at hl
 |some dd=>
  cases dd<;>simp only [hu] at hl<;>try (cases hl;done)
  rename_i fs;split at hl
  ·rename_i hc;simp only [dq,e0] at hc;cases hl;have hf:P.fieldsOf t=fs:=by simp [Program.fieldsOf,hu]
   rw [run_equalIn_struct w d t _ _ (by rw [hf];exact hu) hc.1.2,hf,U_ _ _ hc.1.1];exact h
  ·cases hl
theorem po {t:TypeId} (hl:fL P t=some l):P.eqGuardType P.depth t=false:=by
 unfold fL at hl;cases hu:P.underlying t with
 |none=>simp [hu] at hl
 |some dd=>
  cases dd<;>simp only [hu] at hl<;>try (cases hl;done)
  split at hl
  ·rename_i hc;simp only [dq,e0] at hc;exact hc.2
  ·cases hl
abbrev jx (A X):=rd A (length X) 1 (map iC X)
abbrev lX (A C X):=own A C 3 1 (map iC X)
end
section
open Go.RowKit Go.ChangeShapes Go.WideShapes
set_option maxRecDepth 100000
/-- the table of kinds, as it is laid -/
abbrev fX:List (List Value):=[[.func (.func 298) #[] #[],.func (.func 299) #[] #[]],[.func (.func 301) #[] #[],.func (.func 302) #[] #[]],[.func (.func 303) #[] #[],.func (.func 304) #[] #[]]]
/-- the place of the table -/
abbrev hU:OA:=some ⟨0,0,none⟩
theorem Ru:Tryz.prog.globalNamed "kreisel/race.table"=some 0:=by kernel_rfl
theorem Sr:(Tryz.prog.globals[0]?).map (·.type)=some 199:=by kernel_rfl
theorem Po:Tryz.prog.underlying 199=some (.array 3 198):=by kernel_rfl
theorem Lu:fL Tryz.prog 198=some [(132,0),(155,1)]:=by kernel_rfl
theorem Gp:Tryz.prog.cellsOf 198=2:=by kernel_rfl
theorem Pu:Tryz.prog.cellsOf 132=1:=by kernel_rfl
theorem N6:Tryz.prog.cellsOf 155=1:=by kernel_rfl
theorem Qw:Tryz.prog.cellsOf 199=6:=by kernel_rfl
theorem Gr (t:Nat) (h:(match Tryz.prog.underlying t with |some (.func _ _ _)=>true|_=>false)=true): ∃ ps rs va,Tryz.prog.underlying t=some (.func ps rs va):=by
 split at h
 ·exact ⟨_,_,_,asm⟩
 ·cases h
theorem rV {n:Nat} {a b:DataW (List UInt8)} {q:List MemPlace} (h:DataW.trod (funcToken Tryz.prog) Tryz.prog w 0 sp true n 198 cs=some (.agg [a,b],q)):
 ∃ v0 v1 n0 q0 q1,cs=[v0,v1]∧DataW.trod (funcToken Tryz.prog) Tryz.prog w 0 sp true n0 132 [v0]=some (a,q0)∧DataW.trod (funcToken Tryz.prog) Tryz.prog w 0 sp true n0 155 [v1]=some (b,q1):=by
 have hl:=Lu;unfold fL at hl;cases hu:Tryz.prog.underlying 198 with
 |none=>simp [hu] at hl
 |some d=>
  cases d<;>simp [hu] at hl;rename_i fs;have A:=hl.2;obtain ⟨xs,m,_,hx,B,C,hf⟩:=DataW.trod_struct hu h;obtain ⟨fl⟩:=fs
  match fl,A with
  |[f0,f1],A=>
   simp at A;obtain ⟨⟨F,G⟩,H,AA⟩:=A
   match xs,C with
   |[y0,y1],_=>
    simp at hx;obtain ⟨⟨rfl,rfl⟩,-⟩:=hx;rw [Gp] at B
    match cs,B with
    |[v0,v1],_=>
     have D:=hf 0 f0 rfl;have E:=hf 1 f1 rfl;rw [F,G,Pu] at D;rw [H,AA,N6] at E;exact ⟨v0,v1,m,y0.2,y1.2,U,by simpa using D,by simpa using E⟩
/-- what the row's condition gives -/
theorem Bo (h:laidMetH Tryz.prog [("kreisel/race.table",Rows.laid_kreisel_race_table)] w):(rd hU 3 2 fX).holds w:=by
 obtain ⟨g,t,cs,fuel,p,hg,ht,hv,hd⟩:=h.funcs (bU.2 rfl);obtain rfl:=m3 (Ru.symm.trans hg);obtain rfl:=m3 (Sr.symm.trans ht);have hd':DataW.trod (funcToken Tryz.prog) Tryz.prog w 0 (fun _=>true) true fuel 199 cs.toList=some (.agg [.agg [.held [107,114,101,105,115,101,108,47,114,97,99,101,46,116,97,98,108,101,36,49],.held [107,114,101,105,115,101,108,47,114,97,99,101,46,116,97,98,108,101,36,50]],.agg [.held [107,114,101,105,115,101,108,47,114,97,99,101,46,116,97,98,108,101,36,51],.held [107,114,101,105,115,101,108,47,114,97,99,101,46,116,97,98,108,101,36,52]],.agg [.held [107,114,101,105,115,101,108,47,114,97,99,101,46,116,97,98,108,101,36,53],.held [107,114,101,105,115,101,108,47,114,97,99,101,46,116,97,98,108,101,36,54]]],p):=hd;obtain ⟨xs,m,_,hx,A,F,B⟩:=DataW.trod_array Po hd';rw [Qw] at A;obtain ⟨cl⟩:=cs
 match xs,F with
 |[(y0,z0),(y1,z1),(y2,z2)],_=>
  simp only [m2,List.map_nil,p4,DataW.agg.injEq,ABo] at hx;obtain ⟨⟨L,M,N,_⟩,_⟩:=hx;subst L M N
  match cl,A with
  |[a0,a1,a2,a3,a4,a5],_=>
   have AB:=B 0 dc;have J:=B 1 dc;have K:=B 2 dc;rw [Gp] at AB J K;obtain ⟨o,q,Z,c,d,C,T,AA⟩:=rV AB;obtain ⟨r,s,a,f,k,D,V,W⟩:=rV J;obtain ⟨u,x,b,l,n,E,X,Y⟩:=rV K;simp at C D E;obtain ⟨ps,rs,va,G⟩:=Gr 132 kr;obtain ⟨ps',rs',va',H⟩:=Gr 155 kr;have f0:=AB_ (f0:=298) G kr T;have O:=AB_ (f0:=299) H kr AA;have P:=AB_ (f0:=301) G kr V;have Q:=AB_ (f0:=302) H kr W;have R:=AB_ (f0:=303) G kr X;have S:=AB_ (f0:=304) H kr Y;obtain ⟨rfl,rfl⟩:=C;obtain ⟨rfl,rfl⟩:=D;obtain ⟨rfl,rfl⟩:=E;subst f0 O P Q R S;have hw:=World.var?_cell hg hv;refine ⟨U,by simp [fX],fun _=>⟨⟨0,0,none⟩,U,fun i e j v hi hj=>?_⟩⟩;rw [kP,hw]
   match i,j with
   |0,0|0,1|1,0|1,1|2,0|2,1=>simp [fX] at hi;subst hi;simpa using hj
   |0,j+2|1,j+2|2,j+2=>simp [fX] at hi;subst hi;simp at hj
   |i+3,_=>simp [fX] at hi
/-- the door's own heap meets the condition -/
theorem Hq (os:Os) (args:Array Value):laidMetH Tryz.prog [("kreisel/race.table",Rows.laid_kreisel_race_table)] ((World.doorLaid Tryz.prog 400 os).forCall (fun _ _=>0) ⟨#[],args,[]⟩).memory:=
 laidMetH_of_parts3 (fuel:=8) (laidMet_of_run' 8 kr kr) kr kr
end
section
open Go.RowKit
def bD (C:List au):au where
 fP b:= ∃ A∈C,A.fP b
 wf b:= ∃ A∈C,A.wf b
 holds w:=(∀ A∈C,A.holds w)∧C.Pairwise Gu
 wr:=C.all (·.wr)
 l7 b:=by rintro ⟨A,hA,h⟩;exact ⟨A,hA,A.l7 b h⟩
 whole h b:=by rintro ⟨A,hA,hb⟩;exact ⟨A,hA,A.whole (dg.1 h A hA) b hb⟩
 lt w h b:=by rintro ⟨A,hA,hb⟩;exact A.lt w (h.1 A hA) b hb
 qS w w' hk h:=⟨fun A hA=>A.qS w w' (fun b hb=>hk b ⟨A,hA,hb⟩) (h.1 A hA),h.2⟩
theorem St.tied (h:St S w0 (C1++C2) w):St S w0 (Go.Proofs.YtgnlmfdknlbkkaaGreatDoor.bD C1::C2) w:=by
 obtain ⟨D,E,C⟩:=AAb.1 h.sep;refine ⟨h.keeps,fun A hA=>?_,List.Pairwise.cons (fun B hB b=>?_) E,fun A hA b hb=>?_,fun A hA b hb=>?_⟩
 ·rcases bI.1 hA with rfl|hA
  ·exact ⟨fun A hA=>h.holds A (m1 _ hA),D⟩
  ·exact h.holds A (AAg _ hA)
 ·rintro ⟨A,hA,hb⟩ hb';have hs:=C A hA B hB b hb hb';refine ⟨?_,hs.2⟩;rintro ⟨A',hA',hw⟩;exact (C A' hA' B hB b (A'.l7 b hw) hb').1 hw
 ·rcases bI.1 hA with rfl|hA
  ·obtain ⟨A',hA',hb'⟩:=hb;exact h.own A' (m1 _ hA') b hb'
  ·exact h.own A (AAg _ hA) b hb
 ·rcases bI.1 hA with rfl|hA
  ·obtain ⟨A',hA',hb'⟩:=hb;exact h.seen A' (m1 _ hA') b hb'
  ·exact h.seen A (AAg _ hA) b hb
theorem St.iJ (h:St S w0 (Go.Proofs.YtgnlmfdknlbkkaaGreatDoor.bD C1::C2) w):St S w0 (C1++C2) w:=by
 obtain ⟨C,D⟩:=AAT.1 h.sep;have hb:=h.holds _ (bZ ..);refine ⟨h.keeps,fun A hA=>?_,AAb.2 ⟨hb.2,D,fun A hA B hB b ha hb'=>?_⟩,fun A hA b hb'=>?_,fun A hA b hb'=>?_⟩
 ·rcases dZ.1 hA with hA|hA
  ·exact hb.1 A hA
  ·exact h.holds A (dk _ hA)
 ·have hs:=C B hB b ⟨A,hA,ha⟩ hb';exact ⟨fun hw=>hs.1 ⟨A,hA,hw⟩,hs.2⟩
 ·rcases dZ.1 hA with hA|hA
  ·exact h.own _ (bZ ..) b ⟨A,hA,hb'⟩
  ·exact h.own A (dk _ hA) b hb'
 ·rcases dZ.1 hA with hA|hA
  ·exact h.seen _ (bZ ..) b ⟨A,hA,hb'⟩
  ·exact h.seen A (dk _ hA) b hb'
/-- from one world to another: A's blocks may have turned, or have gone to new ones: B holds -/
structure Mv (A B:au) (w w':World):Prop where
 holds:B.holds w'
 keeps:ed A.wf w w'
 wf: ∀ b,B.wf b→A.wf b∨w.heap.size≤b
 fP: ∀ b,B.fP b→A.fP b∨w.heap.size≤b
theorem St.mv (i:Nat) (h:St S w0 C w) (hC:C[i]? =some A) (m:Mv A B w w'):St S w0 (C.set i B) w':=by
 have hi:i<C.length:=(aT.1 hC).1;have AA:C[i]=A:=(aT.1 hC).2;have F:A∈C:=aF hC;have K: ∀ j (hj:j<C.length),j≠i→ ∀ x,(C[j]).fP x→A.fP x→ ¬ (C[j]).wf x∧ ¬ A.wf x:=by
  intro j hj G x hx he;rcases ABM G with H|H
  ·have:=eW.1 h.sep j i hj hi H;rw [AA] at this;exact this x hx he
  ·have:=eW.1 h.sep i j hi hj H;rw [AA] at this;exact (this x he hx).symm
 have J: ∀ j (hj:j<C.length),j≠i→ ∀ x,(C[j]).fP x→B.fP x→ ¬ (C[j]).wf x∧ ¬ B.wf x:=by
  intro j hj G x hx he;have H:=(C[j]).lt w (h.holds _ (u4 hj)) x hx;rcases m.fP x he with E|E
  ·obtain ⟨P,Q⟩:=K j hj G x hx E;refine ⟨P,fun hw=>?_⟩;rcases m.wf x hw with O|O
   ·exact Q O
   ·omega
  ·omega
 refine ⟨?_,?_,?_,?_,?_⟩
 ·refine ⟨m.keeps.os.trans h.keeps.os,m.keeps.tape.trans h.keeps.tape,m.keeps.output.trans h.keeps.output,c6 h.keeps.size m.keeps.size,fun k L hn=>?_⟩;refine (m.keeps.block k (ABN L h.keeps.size) (fun e=>?_)).trans (h.keeps.block k L hn);rcases h.own A F k e with E|E
  ·omega
  ·exact hn E
 ·intro X hX;obtain ⟨j,hj,D⟩:=p5.1 hX;rw [AAH] at D;split at D
  ·subst D;exact m.holds
  ·rename_i G;subst D;have hj':j<C.length:=by simpa using hj
   have hm:C[j]∈C:=u4 hj';refine (C[j]).qS w w' (fun x hx=>m.keeps.block x ((C[j]).lt w (h.holds _ hm) x hx) (fun e=>?_)) (h.holds _ hm);exact (K j hj' (ABO G) x hx (A.l7 x e)).2 e
 ·rw [eW];intro p q hp hq N;have hp':p<C.length:=by simpa using hp
  have hq':q<C.length:=by simpa using hq
  have hs:=eW.1 h.sep p q hp' hq' N;rw [AAH,AAH];split
  ·rename_i M;subst M;rw [c1 I];exact fun x hx hx'=>(J q hq' I x hx' hx).symm
  ·split
   ·rename_i M;subst M;exact fun x hx hx'=>J p hp' I x hx hx'
   ·exact hs
 ·intro X hX x hx;obtain ⟨j,hj,D⟩:=p5.1 hX;rw [AAH] at D;split at D
  ·subst D;rcases m.wf x hx with E|E
   ·exact h.own A F x E
   ·exact .inl (c6 h.keeps.size E)
  ·subst D;exact h.own _ (u4 _) x hx
 ·intro X hX x hx;obtain ⟨j,hj,D⟩:=p5.1 hX;rw [AAH] at D;split at D
  ·subst D;rcases m.fP x hx with E|E
   ·exact h.seen A F x E
   ·exact .inl (c6 h.keeps.size E)
  ·subst D;exact h.seen _ (u4 _) x hx
/-- a state that was entered with an assertion's blocks alone, left with others -/
theorem Mv.of (h:St ⟨A.wf,A.fP⟩ w C w'):Mv A (bD C) w w':=by
 refine ⟨⟨h.holds,h.sep⟩,h.keeps,?_,?_⟩
 ·rintro b ⟨B,hB,hb⟩;exact (h.own B hB b hb).symm
 ·rintro b ⟨B,hB,hb⟩;exact (h.seen B hB b hb).symm
theorem St.Dn (h:(bD C).holds w):St ⟨(bD C).wf,(bD C).fP⟩ w C w:=
 ⟨ed.refl _ _,h.1,h.2,fun A hA b hb=> .inr ⟨A,hA,hb⟩,fun A hA b hb=> .inr ⟨A,hA,hb⟩⟩
/-- what is read by one is what another holds -/
structure Pf (B A:au):Prop where
 holds: ∀ w,B.holds w→A.holds w
 fP: ∀ b,A.fP b→B.fP b
theorem bM (A:au):Pf A A:=⟨fun _ h=>h,fun _ h=>h⟩
theorem dj (h:Pf B A):Pf B.ro A:=⟨h.holds,h.fP⟩
theorem S3 {a:OA} {c:Nat}:Pf (own a c e sz es) (rd a es.length sz es):=⟨fun _ h=>pA h,fun b h=>h.2⟩
def Yl (w0:World) (P:Program) (l:Nat) (xs:List (List Value)) (J:Nat→au→Prop) (Z:au→Prop):Prop:=
 ∀ k x A w,xs[k]? =some x→J k A→w0.heap.size≤w.heap.size→A.holds w→YieldAt (Fw none) 0 P l x.toArray w fun e w'=>
  (e= .returned (.bool true)∧ ∃ B,J (k+1) B∧Mv A B w w')∨(e= .returned (.bool false)∧ ∃ B,Z B∧Mv A B w w')
def Na (J:Nat→au→Prop) (Z:au→Prop) (n:Nat) (A0:au) (w0:World) (e:Ending) (w':World):Prop:=
 ∃ v,e= .returned v∧((∃ B,J n B∧Mv A0 B w0 w')∨ ∃ B,Z B∧Mv A0 B w0 w')
structure PD (P:Program) (f:FuncId) (fi ca:List Value) (Cp:List au) (xs:List (List Value)):Prop where
 go:sN P f=true
 run: ∀ (l:Nat) (J:Nat→au→Prop) (Z:au→Prop) (A0:au) (w:World),Yl w P l xs J Z→J 0 A0→A0.holds w→(∀ A∈Cp,A.holds w)→(∀ A∈Cp,Gu A0 A.ro)→
  Calls P f (fi++Value.func (.yield l) #[] #[]::ca).toArray w (Na J Z xs.length A0 w)
def Fo (A0:au) (w0:World) (B:au):Prop:= ∀ b,B.fP b→A0.fP b∨w0.heap.size≤b
theorem Vm {n:Nat} (i:Nat) (hC:C[i]? =some B) (hJ:J n B) (hF:Fo A0 w0 B) (hs:St ⟨A0.wf,fun _=>True⟩ w0 C w):Na J Z n A0 w0 (.returned v) w:=
 ⟨v,rfl,.inl ⟨B,hJ,hs.holds B (aF hC),hs.keeps,fun b hb=>(hs.own B (aF hC) b hb).symm,hF⟩⟩
theorem JJ {n:Nat} (i:Nat) (hC:C[i]? =some B) (hJ:Z B) (hF:Fo A0 w0 B) (hs:St ⟨A0.wf,fun _=>True⟩ w0 C w):Na J Z n A0 w0 (.returned v) w:=
 ⟨v,rfl,.inr ⟨B,hJ,hs.holds B (aF hC),hs.keeps,fun b hb=>(hs.own B (aF hC) b hb).symm,hF⟩⟩
theorem De (hf:P.funcs[f]? =some fn) (hb:fn.body=some c) (hn:ble args.length fn.ntmps=true) (h:∀ (Q:du),(∀ D L C,LJ ⟨P,none,fn.ntmps,S,w⟩ fn R D L C→KJ ⟨P,none,fn.ntmps,S,w⟩ (Q .ret) D L C)→(∀ D L C,LJ ⟨P,none,fn.ntmps,S,w⟩ fn R D L C→KJ ⟨P,none,fn.ntmps,S,w⟩ (Q .normal) D L C)→
  WJ ⟨P,none,fn.ntmps,S,w⟩ c Q [] (Ul args) Cp) (hw:St S w Cp w):Calls P f args.toArray w R:=by
 refine yJ (callsIn_of_wp_marks hf hb trivial ?_ U);have B:=ABP hn;refine h (bodyPostM (Fw none) 0 P fn R) ?_ ?_ _ w ⟨U,by simp;omega,fun t v hv=>?_⟩ hw
 ·intro D L C hl a w' hf' hs';have:=hl a w' hf' hs';show LeavesInM (Fw none) 0 P fn a.tmps R a.defers .returning w'
  rw [hf'.defers];exact this
 ·intro D L C hl a w' hf' hs';have:=hl a w' hf' hs';show LeavesInM (Fw none) 0 P fn a.tmps R a.defers .returning w'
  rw [hf'.defers];exact this
 ·obtain ⟨_,A⟩:=zo args 0 t v hv;have ht:t<args.length:=by
   have:=(aT.1 A).1;omega
  simp only [Nat.sub_zero] at A;rw [Array.getElem?_append_left (by simpa using ht)];simpa using A
theorem C4 {fi ca:List Value} {xs:List (List Value)} (hgo:sN P f=true) (hf:P.funcs[f]? =some fn) (hb:fn.body=some c) (hn:ble (fi.length+ca.length+1) fn.ntmps=true) (h:∀ (l:Nat) (J:Nat→au→Prop) (Z:au→Prop) (A0:au) (w0:World) (Q:du),Yl w0 P l xs J Z→J 0 A0→Fo A0 w0 A0→
  (∀ D L C,LJ ⟨P,none,fn.ntmps,⟨A0.wf,fun _=>True⟩,w0⟩ fn (Na J Z xs.length A0 w0) D L C→KJ ⟨P,none,fn.ntmps,⟨A0.wf,fun _=>True⟩,w0⟩ (Q .ret) D L C)→
  (∀ D L C,LJ ⟨P,none,fn.ntmps,⟨A0.wf,fun _=>True⟩,w0⟩ fn (Na J Z xs.length A0 w0) D L C→KJ ⟨P,none,fn.ntmps,⟨A0.wf,fun _=>True⟩,w0⟩ (Q .normal) D L C)→
  WJ ⟨P,none,fn.ntmps,⟨A0.wf,fun _=>True⟩,w0⟩ c Q [] (Ul (fi++Value.func (.yield l) #[] #[]::ca)) (A0::Cp.map au.ro)):PD P f fi ca Cp xs:=by
 refine ⟨hgo,fun l J Z A0 w hY hJ hA F E=>?_⟩;refine De hf hb (by simpa [ABS] using hn) (h l J Z A0 w · hY hJ (fun b hb=> .inl hb)) ?_;have G:=tj F;refine ⟨ed.refl _ _,fun A hA'=>?_,List.Pairwise.cons (fun B hB=>?_) G.sep,fun A hA' b hb=>?_,fun _ _ _ _=> .inr trivial⟩
 ·rcases bI.1 hA' with rfl|hA'
  ·exact hA
  ·exact G.holds A hA'
 ·obtain ⟨B',hB',rfl⟩:=cu.1 hB;exact E B' hB'
 ·rcases bI.1 hA' with rfl|hA'
  ·exact .inr hb
  ·obtain ⟨B',hB',rfl⟩:=cu.1 hA';exact hb.elim
section
variable {E:fJ} {ops:Array Oper} {Q:du} {rest:List Oper} {D:List Deferred} {L:List (Nat×Value)} {C:List au}
variable {d:Nat} {ty:TypeId} {ps:String} {af:Array Edge} {g:Option (Nat×Bool)}
/-- a call of yield -/
theorem zh {l:Nat} {ls:List (List Value)} (i:Nat) (hY:Yl E.w0 E.P l ls J Z) (hJ:J k A) (hF:Fo A0 E.w0 A) (hg:kz ops L g=true) (hf:ev L fop=some (.func (.yield l) #[] #[])) (hx:evs L xs.toList=some vs) (hk:ls[k]? =some vs) (hC:C[i]? =some A) (hd:blt d E.n=true) (k1:∀ B,J (k+1) B→Fo A0 E.w0 B→RJ E ops Q rest D ((d,.bool true)::L) (C.set i B)) (k2:∀ B,Z B→Fo A0 E.w0 B→RJ E ops Q rest D ((d,.bool false)::L) (C.set i B)):
 RJ E ops Q (⟨some d,.call {callee:= .value fop,args:=xs,argTypes:=ts},ty,ps,af,g⟩::rest) D L C:=by
 intro a w F hs;have hd':d<E.n:=by rw [← u7];exact hd
 unfold uJ;rw [c0 (eH F hg)];have K:xs.map a.eval=vs.toArray:=by
  have:=F.evs hx;apply ABX;simp [this]
 obtain ⟨fn,tmps,assign,body,hy,hr⟩:=hY k vs A w hk hJ hs.keeps.size (hs.holds A (aF hC));have H:(execOp a.eval ⟨some d,.call {callee:= .value fop,args:=xs,argTypes:=ts},ty,ps,af,g⟩).run E.P w= .ok (.round l fn tmps assign body) w:=by
  simp [execOp,resolve,F.ev hf,Deferred.ofValue,invoke,K,hy]
 refine ⟨fun _ _=>trivial,?_⟩;rw [AA7 _ _ _ sm,H];refine ⟨fun h=>by simp at h,?_⟩;have G: ∀ (B:au) (w':World),Mv A B w w'→Fo A0 E.w0 B:=fun B w' m b hb=>by
  rcases m.fP b hb with AA|AA
  ·exact hF b AA
  ·exact .inr (c6 hs.keeps.size AA)
 have hr':RoundIn (Fw E.r) 0 E.P l fn tmps assign body w _:=hr;refine hr'.mono fun e w' he=>?_;rcases he with ⟨rfl,B,hB,m⟩|⟨rfl,B,hB,m⟩
 ·exact k1 B hB (G B w' m) _ _ (F.put hd' _) (hs.mv i hC m)
 ·exact k2 B hB (G B w' m) _ _ (F.put hd' _) (hs.mv i hC m)
end
def Bq (ps:List Tmp) (x:List Value) (L:dJ):dJ:=(ps.zip x).foldl (fun L p=>(p.1,p.2)::L) L
theorem HI {n:Nat}: ∀ (ps:List Tmp) (x:List Value) (L:dJ) (tmps:Array Value),(∀ t∈ps,t<n)→Fr n [] L {tmps:=tmps,defers:=[]}→
 Fr n [] (Bq ps x L) {tmps:=(ps.zip x).foldl (fun tmps (p:Tmp×Value)=>tmps.setIfInBounds p.1 p.2) tmps,defers:=[]}:=by
 intro ps
 induction ps with
 |nil=>intro x L tmps _ h;simpa [Bq] using h
 |cons t ps ih=>
  intro x L tmps A h;cases x with
  |nil=>simpa [Bq] using h
  |cons v x=>
   have:=h.put (A t sm) v;simpa [Bq] using ih x _ _ (fun t' ht=>A t' (by simp [ht])) this
theorem yZ {L0:dJ} {F:List au} {g:Operand} {ps:Array Tmp} {assign body:Code} {fi ca:List Value} {xs:List (List Value)} {κ:Type} (inv:Nat→ι→Prop) (Ci:Nat→ι→List au) (invx:Code→κ→Prop) (Cx:Code→κ→List au) (isJ isF:List Nat) (y0:ι) (hr:E.r=none) (hg:ev L g=some (.func (.func f) fi.toArray ca.toArray)) (hs:PD E.P f fi ca Cp xs) (hnd:decide (isJ++isF).Nodup=true) (hJ:kQ C isJ=Ci 0 y0) (hF:kQ C isF=F) (h0:inv 0 y0) (hCp:∀ A∈Cp,∃ B∈F,Pf B A) (hps:∀ x∈xs,x.length=ps.size) (hpn:ps.toList.all (fun t=>blt t E.n)=true) (hL:cV L L0) (round:∀ (k:Nat) (x:List Value) (y:ι) (l:Nat) (ra rb:Loop) (S:BS) (w0:World) (K:Act→World→Prop) (Qr:du),xs[k]? =some x→inv k y→
  (∀ L' C',WJ ⟨E.P,some l,E.n,S,w0⟩ body Qr [] L' (jT l (.loop rb)::C')→KJ ⟨E.P,some l,E.n,S,w0⟩ K [] L' (jT l (.loop ra)::C'))→
  (∀ y' L' C',inv (k+1) y'→(∀ w,St S w0 C' w→St S w0 (jT l (.loop rb)::Ci (k+1) y') w)→KJ ⟨E.P,some l,E.n,S,w0⟩ (Qr .normal) [] L' C')→
  (∀ id z L' C',invx (.exit id) z→(∀ w,St S w0 C' w→St S w0 (jT l (.loop rb)::Cx (.exit id) z) w)→KJ ⟨E.P,some l,E.n,S,w0⟩ (Qr (.exit id)) [] L' C')→
  (∀ z L' C',invx .ret z→(∀ w,St S w0 C' w→St S w0 (jT l (.loop rb)::Cx .ret z) w)→KJ ⟨E.P,some l,E.n,S,w0⟩ (Qr .ret) [] L' C')→
  WJ ⟨E.P,some l,E.n,S,w0⟩ assign (Exit.then K (fun _ _ _=>False)) [] (Bq ps.toList x L0) (jT l (.loop ra)::Ci k y)) (fin:∀ r y,inv xs.length y→KJ E (Q .normal) (jB r::D) L0 (jT r (.deferred (some []))::(F++Ci xs.length y))) (finx:∀ r id z,invx (.exit id) z→KJ E (Q (.exit id)) (jB r::D) L0 (jT r (.deferred (some []))::(F++Cx (.exit id) z))) (finr:∀ r z,invx .ret z→KJ E (Q .ret) (jB r::D) L0 (jT r (.deferred (some []))::(F++Cx .ret z))):WJ E (.rangeFunc g ps assign body) Q D L C:=by
 intro a w hf A1;refine wpIn_rangeFunc fun fn _=>?_;show ∃ l jB w₁ d w₁' f args w₂,(Instr.enterLoop fn a.tmps ps assign body E.r).run E.P w= .ok (l,jB) w₁∧_
 rw [hr];obtain ⟨rec,G⟩: ∃ rec:LoopState→Option Code→Loop,rec=fun st pe=>{state:=st,pending:=pe,fn,tmps:=a.tmps,params:=ps,assign,body,defers:=w.heap.size}:=⟨_,rfl⟩;obtain ⟨W1,X⟩: ∃ W1,(w.alloc (.deferred (some []))).alloc (.loop (rec .ready none))=W1:=⟨_,rfl⟩;have AO:a.eval g= .func (.func f) fi.toArray ca.toArray:=hf.ev hg;have p:(Instr.enterLoop fn a.tmps ps assign body none).run E.P w= .ok (w.heap.size+1,[jB w.heap.size]) W1:=by
  rw [← X,G];exact ACV _ _ _ _ _
 -- the state with the record and the block
 have q:St E.S E.w0 ((jT (w.heap.size+1) (.loop (rec .ready none))::Ci 0 y0)++(jT w.heap.size (.deferred (some []))::F)) W1:=by
  have V:St E.S E.w0 (Ci 0 y0++F) w:=St.kQ (isJ++isF) hnd (by have V:=hJ;have j:=hF;unfold Go.Proofs.YtgnlmfdknlbkkaaGreatDoor.kQ at V j ⊢;rw [AAh,V,j]) A1;have hn:QV w W1 [jT (w.heap.size+1) (.loop (rec .ready none)),jT w.heap.size (.deferred (some []))]:=by
   refine ⟨fun A hA=>?_,fun A hA b hb=>?_,?_⟩
   ·rcases bI.1 hA with rfl|hA
    ·show W1.heap[w.heap.size+1]? =_
     rw [← X];have:=ABD (w.alloc (.deferred (some []))) (.loop (rec .ready none));rwa [World.size_alloc] at this
    ·simp only [bU] at hA;subst hA;show W1.heap[w.heap.size]? =_
     rw [← X];exact (ABe _ _ _ sm).trans (ABD w _)
   ·rcases bI.1 hA with rfl|hA
    ·have:b=w.heap.size+1:=hb;omega
    ·simp only [bU] at hA;subst hA;have:b=w.heap.size:=hb;omega
   ·refine List.Pairwise.cons (fun B hB b V j=>?_) (AAY _ _);simp only [bU] at hB;subst hB;have AA:b=w.heap.size+1:=V;have O:b=w.heap.size:=j;omega
  have hk:ed no w W1:=by rw [← X];exact (ed.alloc no w _).trans (ed.alloc no _ _)
  have j:=V.grow hk hn;refine j.perm ?_;simp only [AAX,AAp];exact List.Perm.cons _ (v5.symm)
 have Y:=q.tied;obtain ⟨H,A3⟩:=AAT.1 Y.sep;have AC:=Y.holds _ (bZ ..);let J:Nat→au→Prop:=fun k A=> ∃ y,inv k y∧A=bD (jT (w.heap.size+1) (.loop (rec .ready none))::Ci k y)
 let Z:au→Prop:=fun A=> ∃ c z,(c= .ret∨ ∃ id,c= .exit id)∧invx c z∧A=bD (jT (w.heap.size+1) (.loop (rec .done (some c)))::Cx c z)
 refine ⟨w.heap.size+1,[jB w.heap.size],W1,{target:= .fn (.func f) ca.toArray,args:=fi.toArray++ #[.func (.yield (w.heap.size+1)) #[] #[]]},W1,f,
  (fi++Value.func (.yield (w.heap.size+1)) #[] #[]::ca).toArray,W1,p,?_,fun _ _=>trivial,?_,fun h=>by simp at h,?_⟩
 ·simp only [resolve,AO];simp [Deferred.ofValue,Act.eval]
 ·have:fi.toArray++ #[Value.func (.yield (w.heap.size+1)) #[] #[]]++ca.toArray=(fi++Value.func (.yield (w.heap.size+1)) #[] #[]::ca).toArray:=by simp
  simp [invoke,oS hs.go]
 ·refine (rj E.r (hs.run (w.heap.size+1) J Z _ W1 ?_ ⟨y0,h0,U⟩ AC ?_ ?_)).mono ?_
  ·-- a round
   rintro k x A W hx ⟨y,hy,rfl⟩ _ hA;have hl:W.heap[w.heap.size+1]? =some (.loop (rec .ready none)):=hA.1 _ (bZ ..);have s:=run_yield (P:=E.P) (args:=x.toArray) hl (by rw [G];simpa using hps x (aF hx));rw [G] at s;refine ⟨fn,_,assign,body,s,roundIn_of_wpIn trivial ?_⟩;let A:au:=bD (jT (w.heap.size+1) (.loop (rec .ready none))::Ci k y)
   have Ap:Fr E.n [] (Bq ps.toList x L0) {tmps:=(ps.zip x.toArray).foldl (fun tmps (t,a)=>tmps.setIfInBounds t a) a.tmps,defers:=[]}:=by
    have V:=HI ps.toList x L0 a.tmps (fun t ht=>by have:=dg.1 hpn t ht;rwa [u7] at this) ⟨rfl,hf.size,fun t v hv=>hf.at_ t v (hL t v hv)⟩;rw [← ABq];simpa using V
   have o: ∀ (c:Option Code) (b:Bool),({rec .busy none with state:=if b then .ready else .done,pending:=c}:Loop)=rec (if b then .ready else .done) c:=fun c b=>by rw [G]
   have R: ∀ (c:Option Code) (N:World) (C':List au) (S:BS),St S W (jT (w.heap.size+1) (.loop (rec .busy none))::C') N→
    ∃ M,(Instr.endRound (w.heap.size+1) c).run E.P N= .ok (.bool c.isNone) M∧St S W (jT (w.heap.size+1) (.loop (rec (if c.isNone then .ready else .done) c))::C') M:=fun c N C' S H=>by
    have AB:N.heap[w.heap.size+1]? =some (.loop (rec .busy none)):=H.holds _ (bZ ..);refine ⟨_,run_endRound c AB,?_⟩;have:=H.BP (b:=w.heap.size+1) (A':=jT (w.heap.size+1) (.loop (rec (if c.isNone then .ready else .done) c))) 0 rfl rfl rfl (iB _) (fun _ h=>h) (AAR (eG AB));rw [o];exact this
   refine round k x y (w.heap.size+1) (rec .ready none) (rec .busy none) ⟨A.wf,A.fP⟩ W _ (roundPost E.P (w.heap.size+1) (fun e w'=>(e= .returned (.bool true)∧ ∃ B,J (k+1) B∧Mv A B W w')∨(e= .returned (.bool false)∧ ∃ B,Z B∧Mv A B W w'))) hx hy ?_ ?_ ?_ ?_ _ _ Ap (St.Dn hA)
   ·intro L' C' hW u N i H;have AB:N.heap[w.heap.size+1]? =some (.loop (rec .ready none)):=H.holds _ (bZ ..);refine ⟨_,run_beginRound AB (by rw [G]),hW _ _ i ?_⟩;have:=H.BP (b:=w.heap.size+1) (A':=jT (w.heap.size+1) (.loop (rec .busy none))) 0 rfl rfl rfl (iB _) (fun _ h=>h) (AAR (eG AB));have e:({rec .ready none with state:= .busy}:Loop)=rec .busy none:=by rw [G]
    rw [e];exact this
   ·intro y' L' C' hy' hC' u N i H;obtain ⟨M,AA,O⟩:=R none N _ _ (hC' _ H);exact ⟨_,M,AA,.inl ⟨U,_,⟨y',hy',U⟩,Mv.of O⟩⟩
   ·intro id z L' C' hz hC' u N i H;obtain ⟨M,AA,O⟩:=R (some (.exit id)) N _ _ (hC' _ H);exact ⟨_,M,AA,.inr ⟨U,_,⟨_,z,.inr ⟨id,U⟩,hz,U⟩,Mv.of O⟩⟩
   ·intro z L' C' hz hC' u N i H;obtain ⟨M,AA,O⟩:=R (some .ret) N _ _ (hC' _ H);exact ⟨_,M,AA,.inr ⟨U,_,⟨_,z,.inl U,hz,U⟩,Mv.of O⟩⟩
  ·intro A hA;obtain ⟨B,hB,hc⟩:=hCp A hA;exact hc.holds _ (Y.holds B (dk _ (dk _ hB)))
  ·intro A hA b hb hb';obtain ⟨B,hB,hc⟩:=hCp A hA;exact ⟨(H B (dk _ hB) b hb (hc.fP b hb')).1,fun h=>h⟩
  ·rintro e w' ⟨v,rfl,hh⟩;have T:Fr E.n (jB w.heap.size::D) L0 {a with defers:=[jB w.heap.size]++a.defers}:=⟨by simp [hf.defers],hf.size,fun t v hv=>hf.at_ t v (hL t v hv)⟩;have hleave: ∀ (st:LoopState) (c:Option Code) (C':List au),st≠ .busy→Mv (bD (jT (w.heap.size+1) (.loop (rec .ready none))::Ci 0 y0)) (bD (jT (w.heap.size+1) (.loop (rec st c))::C')) W1 w'→
    ∃ M,(Instr.endLoop (w.heap.size+1)).run E.P w'= .ok c M∧St E.S E.w0 (jT w.heap.size (.deferred (some []))::(F++C')) M:=fun st c C' A0 m=>by
    have V:=(Y.mv 0 rfl m).iJ;have h1':St E.S E.w0 ((jT (w.heap.size+1) (.loop (rec st c))::C')++(jT w.heap.size (.deferred (some []))::F)) w':=V;have AB:w'.heap[w.heap.size+1]? =some (.loop (rec st c)):=h1'.holds (jT (w.heap.size+1) (.loop (rec st c))) sm;refine ⟨_,by have:=run_endLoop (P:=E.P) AB (by rw [G];exact A0);rw [this,G],?_⟩;have j:=h1'.BP (b:=w.heap.size+1) (A':=jT (w.heap.size+1) (.loop {rec st c with state:= .exhausted})) 0 rfl rfl rfl (iB _) (fun _ h=>h) (AAR (eG AB));have h3:St E.S E.w0 (C'++(jT w.heap.size (.deferred (some []))::F)) _:=j.take (ABJ _ _);rw [G] at h3;refine h3.perm ?_;exact (AAC).trans sm
   rcases hh with ⟨B,⟨y,hy,rfl⟩,m⟩|⟨B,⟨c,z,hc,hz,rfl⟩,m⟩
   ·obtain ⟨M,AA,O⟩:=hleave .ready none _ sm m;exact ⟨none,M,AA,fin w.heap.size y hy _ _ T O⟩
   ·obtain ⟨M,AA,O⟩:=hleave .done (some c) _ sm m;refine ⟨some c,M,AA,?_⟩;rcases hc with rfl|⟨id,rfl⟩
    ·exact wpIn_ret (finr w.heap.size z hz _ _ T O)
    ·exact wpIn_exit (finx w.heap.size id z hz _ _ T O)
end
section
open Go.RowKit
theorem DG (hr:E.r=none) (h:WJ E c (Exit.noGoto Q) D L C):WJ E (.scope c) Q D L C:=by
 intro a w hf hs;obtain ⟨P,r,n,S,A⟩:=E;subst hr;exact (wpIn_wide (n:=0)).2 (wp_scope_straight ((wpIn_wide (n:=0)).1 (h a w hf hs)))
theorem RC {l:Nat} (h:KJ E (Q .normal) D L C):WJ E (.label l) Q D L C:=fun a w hf hs=>wpIn_label (h a w hf hs)
theorem dh.eq (h:dh P f args Cp v) (e:v=u):dh P f args Cp u:=e▸h
/-- a function value that is called: what it hands back -/
def BV (P:Program) (fv:Value) (args:List Value) (Cp:List au) (v:Value):Prop:=
 ∃ f fi ca,fv= .func (.func f) fi ca∧dh P f (fi.toList++args++ca.toList) Cp v
theorem kT {fi ca:List Value} (h:dh P f (fi++args++ca) Cp v):BV P (.func (.func f) fi.toArray ca.toArray) args Cp v:=⟨f,_,_,rfl,by simpa using h⟩
section
variable {E:fJ} {ops:Array Oper} {Q:du} {rest:List Oper} {D:List Deferred} {L:List (Nat×Value)} {C:List au}
variable {dst:Option Tmp} {d:Nat} {ty:TypeId} {ps:String} {af:Array Edge} {g:Option (Nat×Bool)}
theorem pq {fv:Value} (hg:kz ops L g=true) (hf:ev L fop=some fv) (hx:evs L xs.toList=some vs) (c:BV E.P fv vs Cp v) (hC:l3 C Cp):SD E ops ⟨dst,.call {callee:= .value fop,args:=xs,argTypes:=ts},ty,ps,af,g⟩ D L C v:=by
 obtain ⟨f,fi,ca,rfl,h⟩:=c;exact JO hg hf hx U h hC
end
theorem St.dup (i:Nat) (h:St S w0 C w) (hC:C[i]? =some A) (hw:∀ b,¬ A.wf b):St S w0 (A::C) w:=by
 have hm:=aF hC;refine ⟨h.keeps,fun B hB=>?_,List.Pairwise.cons (fun B hB b ha hb=>⟨hw b,fun E=>?_⟩) h.sep,fun B hB=>?_,fun B hB=>?_⟩
 ·rcases bI.1 hB with rfl|hB
  ·exact h.holds B hm
  ·exact h.holds B hB
 ·obtain ⟨j,hj,rfl⟩:=p5.1 hB;obtain ⟨hi,rfl⟩:=aT.1 hC;rcases ABr i j with D|F|D
  ·exact (eW.1 h.sep i j hi hj D b ha hb).2 E
  ·subst F;exact hw b E
  ·exact (eW.1 h.sep j i hj hi D b hb ha).1 E
 ·rcases bI.1 hB with rfl|hB
  ·exact h.own B hm
  ·exact h.own B hB
 ·rcases bI.1 hB with rfl|hB
  ·exact h.seen B hm
  ·exact h.seen B hB
theorem iw (i:Nat) (hC:C[i]? =some A) (hw:∀ b,¬ A.wf b) (h:WJ E c Q D L (A::C)):WJ E c Q D L C:=fun a w hf hs=>h a w hf (hs.dup i hC hw)
theorem qQ (i:Nat) (hC:C[i]? =some (cb g e cs)) (h2:∀ x∈es,x.length=sz) (h3:es.flatten=cs) (hm:es.length≤maxLen) (hC':C.set i (own (some ⟨g,0,none⟩) es.length e sz es)=C') (k:WJ E c Q D L C'):WJ E c Q D L C:=fun a w hf hs=>by
 refine k a w hf ?_;rw [← hC'];refine hs.BP i hC U U (ed.refl _ _) (fun x hx=>?_) (I4 (hs.holds _ (aF hC)) h2 h3 hm);obtain ⟨ad,A,h2⟩:=hx;cases A;exact h2
theorem uB {f:α→List Value} {n:Nat} (h:∀ a,(f a).length=n) (l:List α): ∀ x∈l.map f,x.length=n:=fun x hx=>by
 obtain ⟨a,_,rfl⟩:=cu.1 hx;exact h a
def RoJ (E:fJ) (c:Code) (Q:du) (m:Nat) (D:iF) (L:dJ) (C:List au):Prop:=
 ∀ a w,Fr E.n D L a→St E.S E.w0 C w→Code.roundsIn (Fw E.r) 0 E.P c Q m a w
theorem iX (m:Nat) (h:RoJ E c Q m D L C):WJ E (.loop c) Q D L C:=fun a w hf hs=>wpIn_loop_rounds m (h a w hf hs)
theorem eh {m:Nat} (h:∀ K:Act→World→Prop,(∀ D L C,RoJ E c Q m D L C→KJ E K D L C)→WJ E c (Exit.then K Q) D L C):RoJ E c Q (m+1) D L C:=
 fun a w hf hs=>h (Code.roundsIn (Fw E.r) 0 E.P c Q m) (fun _ _ _ hy a w hf hs=>hy a w hf hs) a w hf hs
theorem Ww {x y:Code} (L':ι→dJ) (C':ι→List au) (hy:∀ z,WJ E y Q D (L' z) (C' z)) (h:∀ K:Act→World→Prop,(∀ z,KJ E K D (L' z) (C' z))→WJ E x (Exit.then K Q) D L C):WJ E (.seq x y) Q D L C:=
 Xe fun K hK=>h K fun z=>hK _ _ _ (hy z)
theorem ph {c:Bool} (h1:L.lookup t=some (.bool b)) (h2:c=b) (k:cV L L'):cV L ((t,.bool c)::L'):=cV.cons (h2▸h1) k
theorem aQ (h1:L.lookup t=some u) (h2:v=u) (k:cV L L'):cV L ((t,v)::L'):=cV.cons (h2▸h1) k
def iU (C:List au):au where
 fP b:= ∃ A∈C,A.fP b
 wf _:=False
 holds w:= ∀ A∈C,A.holds w
 wr:=false
 l7 _ h:=h.elim
 whole h:=by cases h
 lt w h b:=by rintro ⟨A,hA,hb⟩;exact A.lt w (h A hA) b hb
 qS w w' hk h:=fun A hA=>A.qS w w' (fun b hb=>hk b ⟨A,hA,hb⟩) (h A hA)
theorem jJ (h:dh P f args Cp v) (hC:l3 C Cp):dh P f args [iU C] v:=⟨h.go,fun w hw=>h.run w (hC w (hw _ (bU.2 rfl)))⟩
theorem jO (h:l3 C Cp):ig C (iU Cp).holds:=fun w hw=>h w hw
def tX (P:Program) (t:TypeId):Option (Nat×TypeId):=
 match P.underlying t with
 |some (.array n e)=>some (n,e)
 |_=>none
theorem GW {n:Nat} (h:tX P t=some (n,e)):P.underlying t=some (.array n e):=by
 unfold tX at h;cases hu:P.underlying t with
 |none=>simp [hu] at h
 |some d=>cases d<;>simp [hu] at h<;>(obtain ⟨rfl,rfl⟩:=h;rfl)
section
variable {E:fJ} {ops:Array Oper} {Q:du} {rest:List Oper} {D:List Deferred} {L:List (Nat×Value)} {C:List au}
variable {dst:Option Tmp} {d:Nat} {ty:TypeId} {ps:String} {af:Array Edge} {g:Option (Nat×Bool)}
theorem q6 {ix:Operand} {len:Nat} {j:Int} (m:Nat) (hg:kz ops L g=true) (hx:ev L x=some (.agg cs.toArray)) (hi:ev L ix=some (.int .i64 j)) (ht:tX E.P t=some (len,e)) (hk:tK E.P e=some (true,sz)) (hj:j=(m:Int)) (hm:m<len) (hv:(cs.drop (m*sz)).take sz=vs):
 SD E ops ⟨dst,.index t x ix,ty,ps,af,g⟩ D L C (.agg vs.toArray):=
 eo hg sm fun a w A _=>by
  have B:(0:Int)≤(m:Int)∧(m:Int)<(len:Int):=by omega
  subst hj;simp [execOp,A.ev hx,A.ev hi,Instr.index,asIntOf,k3 (GW ht),B,hm,(qn hk w).2,jI hk hv w]
theorem uv {ix:Operand} {len:Nat} {j:Int} (m:Nat) (hg:kz ops L g=true) (hx:ev L x=some (.agg cs.toArray)) (hi:ev L ix=some (.int .i64 j)) (ht:tX E.P t=some (len,e)) (hk:tK E.P e=some (false,sz)) (hj:j=(m:Int)) (hm:m<len) (hv:cs[m*sz]? =some v):
 SD E ops ⟨dst,.index t x ix,ty,ps,af,g⟩ D L C v:=
 eo hg sm fun a w A _=>by
  have B:(0:Int)≤(m:Int)∧(m:Int)<(len:Int):=by omega
  subst hj;simp [execOp,A.ev hx,A.ev hi,Instr.index,asIntOf,k3 (GW ht),B,hm,(vt hk w).2,dR hk hv w]
theorem HX (hg:Gt ops L o.guard=true) (ho:o.dst=none) (k:RJ E ops Q rest D L C):RJ E ops Q (o::rest) D L C:=by
 intro a w hf hs;unfold uJ;rw [c1 (by simp [ym hf hg]),ho];exact k a w hf hs
end
end
section
open Go.RowKit
def fy (ops:Array Oper) (is:List Nat):List Oper:=is.filterMap (ops[·]?)
theorem o4: ∀ {is:List Nat},(∀ i∈is,i<ops.size)→ ∀ p:Nat,(fy ops is)[p]? =(is[p]?).bind (ops[·]?):=by
 intro is
 induction is with
 |nil=>intro _ p;simp [fy]
 |cons i is ih=>
  intro h p;have hi:=h i sm;have A:fy ops (i::is)=ops[i]::fy ops is:=by simp [fy,hi]
  rw [A];cases p with
  |zero=>simp [hi]
  |succ p=>simpa using ih (fun j hj=>h j (by simp [hj])) p
theorem rU (h:∀ i∈is,i<ops.size):(fy ops is).length=is.length:=by
 induction is with
 |nil=>rfl
 |cons i is ih=>
  have hi:=h i sm;have A:fy ops (i::is)=ops[i]::fy ops is:=by simp [fy,hi]
  rw [A];simp [ih (fun j hj=>h j (by simp [hj]))]
def uk (o:Oper):Bool:=match o.op with | .select .. =>false| .defer _=>false|_=>true
def QM (m:Array Nat) (ops:Array Oper) (free T:List Nat):Bool:=
 (free.all (blt · ops.size))&&(T.all (blt · ops.size))&&((range ops.size).all fun i=>free.contains i||T.contains i)&&(T.all fun i=> !free.contains i)&&
 ((range ops.size).all fun i=>match ops[i]? with
  |none=>false
  |some o=>uk o&&o.after.toList.all fun e=> !Region.binds .any e||blt e.on i)&&
 ((range free.length).all fun p=>match (free[p]?).bind fun i=>(ops[i]?).map fun o=>(i,o) with
  |none=>false
  |some (i,o)=>o.dst.isSome&&
   ((range free.length).all fun q=>q==p||match (free[q]?).bind fun j=>(ops[j]?).map fun o=>(j,o) with
    |none=>false
    |some (j,r)=>match r.dst with
     |none=>false
     |some d=>o.dst != some d&&(!(o.looksAt ops).contains d||(if q<p then jA m j i else jA m i j)))&&
   (T.all fun j=>match ops[j]? with
    |none=>false
    |some r=>r.dst != o.dst&&(match r.dst with |none=>true|some d=> !(o.looksAt ops).contains d||jA m i j)&&(match o.dst with |none=>true|some d=> !(r.looksAt ops).contains d||jA m i j)))&&
 ((range T.length).all fun p=>(range p).all fun q=>match T[p]?,T[q]? with
  |some i,some j=>i != j&&jA m j i
  |_,_=>false)
def Ue (m:Array Nat) (ops:Array Oper) (free T:List Nat) (fe tb:List Bool):Bool:=
 QM m ops free T&&((range T.length).all fun q=>(tb[q]?).getD false||(range free.length).all fun p=> !(fe[p]?).getD false||match free[p]?,T[q]? with
  |some i,some j=>jA m i j
  |_,_=>false)
def So (ops:Array Oper) (free T:List Nat) (fe tb:List Bool):Bool:=Ue (sO ops) ops free T fe tb
def VU (ops:Array Oper) (free T:List Nat):Bool:=QM (sO ops) ops free T
theorem OW {tb:List Bool} (h:So ops free T fe tb=true):VU ops free T=true∧ ∀ (p q i j:Nat),free[p]? =some i→T[q]? =some j→(fe[p]?).getD false=true→(tb[q]?).getD false=true∨jA (sO ops) i j=true:=by
 simp only [So,Ue,dq] at h;refine ⟨h.1,fun p q i j hp hq hf=>?_⟩;have B:=h.2;rw [dg] at B;have A:=B q (by simpa using (aT.1 hq).1);rw [ABE] at A;rcases A with A|A
 ·exact .inl A
 ·rw [dg] at A;have C:=A p (by simpa using (aT.1 hp).1);simp only [hp,hq,hf,Bool.not_true,Bool.false_or] at C;exact .inr C
structure U1 (ops:Array Oper) (free T:List Nat):Prop where
 fl: ∀ i∈free,i<ops.size
 tl: ∀ i∈T,i<ops.size
 cover: ∀ i,i<ops.size→i∈free∨i∈T
 M9: ∀ i∈T,i ∉ free
 plain: ∀ (i:Nat) (o:Oper),ops[i]? =some o→(∀ cs b,o.op≠ .select cs b)∧(∀ c,o.op≠ .defer c)
 EU: ∀ (i:Nat) (o:Oper) (e:Edge),ops[i]? =some o→e∈o.after→Region.binds .any e=true→e.on<i
 apart: ∀ (p q i j:Nat) (o r:Oper) (d:Nat),free[p]? =some i→free[q]? =some j→q≠p→ops[i]? =some o→ops[j]? =some r→r.dst=some d→o.dst≠some d∧(d∈o.looksAt ops→(q<p∧jA (sO ops) j i=true)∨(p<q∧jA (sO ops) i j=true))
 ft: ∀ (i j:Nat) (o r:Oper),i∈free→j∈T→ops[i]? =some o→ops[j]? =some r→r.dst≠o.dst∧(∀ d,r.dst=some d→d∈o.looksAt ops→jA (sO ops) i j=true)∧(∀ d,o.dst=some d→d∈r.looksAt ops→jA (sO ops) i j=true)
 chain: ∀ p q i j:Nat,T[p]? =some i→T[q]? =some j→q<p→i≠j∧jA (sO ops) j i=true
theorem U1.of (h:VU ops free T=true):U1 ops free T:=by
 simp only [VU,QM,dq] at h;obtain ⟨⟨⟨⟨⟨⟨H,AA⟩,J⟩,K⟩,C⟩,D⟩,L⟩:=h;rw [dg] at H AA J K C D L;have E: ∀ i∈free,i<ops.size:=fun i hi=>by have:=H i hi;rwa [u7] at this
 have G: ∀ i∈T,i<ops.size:=fun i hi=>by have:=AA i hi;rwa [u7] at this
 refine ⟨E,G,fun i hi=>?_,fun i hi=>?_,fun i o ho=>?_,fun i o e ho he hb=>?_,?_,?_,?_⟩
 ·have:=J i (by simpa using hi);simpa using this
 ·have:=K i hi;simpa using this
 ·have hi:i<ops.size:=(n5.1 ho).1;have:=C i (by simpa using hi);simp only [ho,dq] at this;have:=this.1;refine ⟨fun cs b hh=>?_,fun c hh=>?_⟩<;>simp [uk,hh] at this
 ·have hi:i<ops.size:=(n5.1 ho).1;have:=C i (by simpa using hi);simp only [ho,dq] at this;have:=this.2;rw [dg] at this;have:=this e (by simpa using he);rw [hb] at this;simpa using this
 ·intro p q i j o r d hp hq F ho hr hd;have:=D p (by simpa using (aT.1 hp).1);simp only [hp,ho,r7,AAA,dq] at this;have:=this.1.2;rw [dg] at this;have:=this q (by simpa using (aT.1 hq).1);simp only [hq,hr,hd,r7,AAA,ABE,dq,ACc,AAM,AB4] at this;rcases this with h|⟨M,B⟩
  ·exact absurd h F
  ·refine ⟨M,fun hm=>?_⟩;rcases B with B|B
   ·simp [hm] at B
   ·by_cases A:q<p
    ·rw [c0 A] at B;exact .inl ⟨A,B⟩
    ·rw [c1 A] at B;exact .inr ⟨I,B⟩
 ·intro i j o r hi hj ho hr;obtain ⟨p,hp⟩:=r5.1 hi;have:=D p (by simpa using (aT.1 hp).1);simp only [hp,ho,r7,AAA,dq] at this;have:=this.2;rw [dg] at this;have:=this j hj;simp only [hr,dq,AAM,AB4] at this;refine ⟨this.1.1,fun d hd hm=>?_,fun d hd hm=>?_⟩
  ·have:=this.1.2;simp [hd,hm] at this;exact this
  ·have:=this.2;simp [hd,hm] at this;exact this
 ·intro p q i j hp hq A;have:=L p (by simpa using (aT.1 hp).1);rw [dg] at this;have:=this q (by simpa using A);simp only [hp,hq,dq,AAM,AB4] at this;exact this
def NQ (K:Act→World→Prop):du
 | .normal=>K
 |_=>fun _ _=>False
/-- the others, one behind the other; the part C' of the state stands throughout, the part C1 as long as the flags say -/
def TJ (E:fJ) (ops:Array Oper) (D:iF) (C' C1:List au) (F:dJ→List au→Prop):List Bool→List Oper→dJ→List au→Prop
 |_,[],L,C=>F L C
 |bs,o::T,L,C=> ∀ K:Act→World→Prop,(∀ L' C'',(∀ w,St E.S E.w0 C'' w→St E.S E.w0 C' w)→(bs.headD false=true→ ∀ w,St E.S E.w0 C'' w→St E.S E.w0 C1 w)→TJ E ops D C' C1 F bs.tail T L' C''→KJ E K D L' C'')→RJ E ops (NQ K) [o] D L C
/-- the free ones: an early one (its flag) may read C1 -/
def uN (E:fJ) (ops:Array Oper) (D:iF) (C' C1:List au) (F:dJ→Prop):List Bool→List Oper→dJ→Prop
 |_,[],L=>F L
 |bs,o::rest,L=> ∃ d v,o.dst=some d∧d<E.n∧SD E ops o D L (bif bs.headD false then C1 else C') v∧uN E ops D C' C1 F bs.tail rest ((d,v)::L)
theorem uN.out {F:dJ→Prop}: ∀ (bs:List Bool) (os:List Oper) (L:dJ),uN E ops D C' C1 F bs os L→
 ∃ vs:List Value,vs.length=os.length∧F (D6 os vs os.length L)∧ ∀ i o,os[i]? =some o→ ∃ d v,o.dst=some d∧d<E.n∧vs[i]? =some v∧SD E ops o D (D6 os vs i L) (bif (bs[i]?).getD false then C1 else C') v:=by
 intro bs os
 induction os generalizing bs with
 |nil=>intro L h;exact ⟨[],rfl,by cases bs<;>exact h,fun i o ho=>by simp at ho⟩
 |cons o os ih=>
  intro L h;have h': ∃ d v,o.dst=some d∧d<E.n∧SD E ops o D L (bif bs.headD false then C1 else C') v∧uN E ops D C' C1 F bs.tail os ((d,v)::L):=by cases bs<;>exact h
  obtain ⟨d,v,ho,hd,B,hk⟩:=h';obtain ⟨vs,hl,hF,A⟩:=ih _ _ hk;refine ⟨v::vs,by simp [hl],by simpa [D6,ho] using hF,fun i o' ho'=>?_⟩;cases i with
  |zero=>
   simp at ho';subst ho';refine ⟨d,v,ho,hd,sm,?_⟩;have e:(bs[0]?).getD false=bs.headD false:=by cases bs<;>rfl
   rw [e];simpa [D6] using B
  |succ i=>
   obtain ⟨d',v',C,G,H,AA⟩:=A i o' (by simpa using ho');refine ⟨d',v',C,G,by simpa using H,?_⟩;have e:(bs[i+1]?)=bs.tail[i]? :=by cases bs<;>simp
   rw [e];simpa [D6,ho] using AA
theorem Jn (hsel:∀ cs b,o.op≠ .select cs b) (hdef:∀ c,o.op≠ .defer c) (hl:∀ t∈o.looksAt ops,a.tmps[t]? =a'.tmps[t]?) (h:uJ E.r E.P ops (NQ K) [o] a' w) (hK:∀ b w',K b w'→b.defers=a'.defers) (hn:∀ u w',K (a'.put o.dst u) w'→N (a.put o.dst u) w'):
 if Region.wanted o (yielded ops a.tmps) then o.wpIn (Fw E.r) 0 E.P a w N Q else (∀ f,o.about E.P w a.eval=some f→(Fw E.r).fn f)∧N (a.put o.dst undef) w:=by
 rw [wP hl];unfold uJ at h;by_cases hw:Region.wanted o (yielded ops a'.tmps)=true
 ·rw [c0 hw] at h ⊢;refine ⟨fun _ _=>trivial,?_⟩;have A:=h.2;rw [AA7 _ _ _ hdef] at A ⊢;rw [execOp_congr (ρ:=a.eval) (ρ':=a'.eval) o hsel (Bl hl)]
  generalize (execOp a'.eval o).run E.P w=res at A
  cases res with
  |halt x w'=>cases x<;>simp [Oper.uponIn,NQ] at A
  |ok x w'=>
   cases x with
   |value u=>exact hn u w' A
   |skip=>exact hn _ w' A
   |defer dd=>
    have B:=hK _ _ A;have:=c7 length B;simp [Act.put] at this;cases ho:o.dst<;>simp [ho] at this
   |enter f args=>
    refine ⟨A.1,A.2.mono fun e w'' he=>?_⟩;cases e with
    |returned u=>exact hn u w'' he
    |panicked ch=>exact he.elim
    |outgrown=>obtain ⟨_,_,hF⟩:=he;exact hF.elim
   |row x args=>exact ⟨A.1,A.2.mono fun u w'' he=>hn u w'' he⟩
   |round l f tmps asl bd=>
    refine ⟨A.1,A.2.mono fun e w'' he=>?_⟩;cases e with
    |returned u=>exact hn u w'' he
    |panicked ch=>exact he.elim
    |outgrown=>obtain ⟨_,_,hF⟩:=he;exact hF.elim
   |_=>simp [Oper.uponIn] at A
 ·rw [c1 hw] at h ⊢;exact ⟨fun _ _=>trivial,hn _ w h⟩
theorem Se (hm:E.P.follows .mixedOrders=true) (free T:List Nat) (fe tb:List Bool) (C' C1:List au) (hc:So ops free T fe tb=true) (hC:∀ w,St E.S E.w0 C w→St E.S E.w0 C' w) (hC1:∀ w,St E.S E.w0 C w→St E.S E.w0 C1 w) (h:uN E ops D C' C1 (fun L'=>TJ E ops D C' C1 (fun L C=>KJ E (Q .normal) D L C) tb (fy ops T) L' C) fe (fy ops free) L):WJ E (.region id ops true) Q D L C:=by
 obtain ⟨hc,GE⟩:=OW hc;have hc:=U1.of hc;intro a0 w0 y Hi;refine wpIn_region_any hm ?_;have H1:St E.S E.w0 C ({w0 with drawn:=w0.drawn+1}:World):=Hi.same (ed.drew no w0);obtain ⟨vs,If,hF,g⟩:=uN.out _ _ _ h;have B3:=rU hc.fl;have A3: ∀ (p i:Nat) (o:Oper),free[p]? =some i→ops[i]? =some o→(fy ops free)[p]? =some o:=fun p i o hp ho=>by rw [o4 hc.fl,hp];exact ho
 have A2: ∀ (p:Nat) (o:Oper),(fy ops free)[p]? =some o→ ∃ i,free[p]? =some i∧ops[i]? =some o:=fun p o h=>by
  rw [o4 hc.fl] at h;cases hp:free[p]? with
  |none=>simp [hp] at h
  |some i=>exact ⟨i,rfl,by simpa [hp] using h⟩
 have BP: ∀ (j:Nat) (o:Oper) (d:Nat),(fy ops free)[j]? =some o→o.dst=some d→d<E.n:=fun j o d ho hd=>by
  obtain ⟨d',v,h1,h2,_⟩:=g j o ho;rw [h1] at hd;cases hd;exact h2
 -- all is listed
 have done: ∀ (listed:Array Bool) (a:Act) (w:World) (k:Nat) (Lk:dJ) (Ck:List au) (af:Act),(∀ i,i<ops.size→listed.getD i false=true)→
  (∀ m i,T[m]? =some i→(listed.getD i false=true↔m<k))→a.defers=D→a.tmps.size=E.n→
  TJ E ops D C' C1 (fun L C=>KJ E (Q .normal) D L C) (tb.drop k) (fy ops (T.drop k)) Lk Ck→Fr E.n D Lk af→St E.S E.w0 Ck w→
  (∀ t,(∀ (p i:Nat) (o:Oper),free[p]? =some i→ops[i]? =some o→o.dst≠some t)→af.tmps[t]? =a.tmps[t]?)→
  (∀ (p i:Nat) (o:Oper) (d:Nat),free[p]? =some i→ops[i]? =some o→o.dst=some d→af.tmps[d]? =vs[p]? ∧(listed.getD i false=true→a.tmps[d]? =vs[p]?))→Q .normal a w:=by
  intro listed a w k Lk Ck af C0 O hd hz hT N R G B;have hk:T.drop k=[]:=by
   rw [List.drop_eq_nil_iff];rcases r4 k T.length with J|Go
   ·have hi:=(O k _ (fh J)).1 (C0 _ (hc.tl _ (u4 J)));omega
   ·exact Go
  rw [hk] at hT;have hT:KJ E (Q .normal) D Lk Ck:=by cases hb:tb.drop k<;>(rw [hb] at hT;exact hT)
  refine hT a w ⟨hd,hz,fun t v hv=>?_⟩ R;rw [← N.at_ t v hv];by_cases hw: ∃ (p i:Nat) (o:Oper),free[p]? =some i∧ops[i]? =some o∧o.dst=some t
  ·obtain ⟨p,i,o,hp,ho,A1⟩:=hw;obtain ⟨e1,s⟩:=B p i o t hp ho A1;rw [e1,s (C0 i (hc.fl i (aF hp)))]
  ·exact (G t (fun p i o hp ho A1=>hw ⟨p,i,o,hp,ho,A1⟩)).symm
 have key: ∀ (fuel:Nat) (listed:Array Bool) (a:Act) (w:World) (k:Nat) (Lk:dJ) (Ck:List au) (af:Act),listed.size=ops.size→(Gv ops.size listed).length≤fuel→(∀ j,listed.getD j false=true→yh ops (fun k=>listed.getD k false=true) j)→
  (∀ m i,T[m]? =some i→(listed.getD i false=true↔m<k))→a.defers=D→a.tmps.size=E.n→
  TJ E ops D C' C1 (fun L C=>KJ E (Q .normal) D L C) (tb.drop k) (fy ops (T.drop k)) Lk Ck→Fr E.n D Lk af→St E.S E.w0 Ck w→(∀ w,St E.S E.w0 Ck w→St E.S E.w0 C' w)→(∀ (p i:Nat),free[p]? =some i→(fe[p]?).getD false=true→listed.getD i false=false→ ∀ w,St E.S E.w0 Ck w→St E.S E.w0 C1 w)→
  (∀ t,(∀ (p i:Nat) (o:Oper),free[p]? =some i→ops[i]? =some o→o.dst≠some t)→af.tmps[t]? =a.tmps[t]?)→
  (∀ t,(∀ (i:Nat) (o:Oper),listed.getD i false=true→ops[i]? =some o→o.dst≠some t)→a.tmps[t]? =a0.tmps[t]?)→
  (∀ (p i:Nat) (o:Oper) (d:Nat),free[p]? =some i→ops[i]? =some o→o.dst=some d→af.tmps[d]? =vs[p]? ∧(listed.getD i false=true→a.tmps[d]? =vs[p]?))→
  wpAnyIn (Fw E.r) 0 E.P .any ops Q fuel listed a w:=by
  intro fuel
  induction fuel with
  |zero=>
   intro listed a w k Lk Ck af z hu A0 O hd hz hT N R A5 f G Y B;have hall': ∀ i,i<ops.size→listed.getD i false=true:=fun i hi=>by
    cases hg:listed.getD i false with
    |true=>rfl
    |false=>
     have:=AA5 (p7.2 ⟨hi,hg⟩);omega
   refine ⟨?_,done listed a w k Lk Ck af hall' O hd hz hT N R G B⟩;rw [AAW];intro i hi;obtain ⟨h1,h2,_⟩:=od z hi;rw [hall' i h1] at h2;cases h2
  |succ fuel ih=>
   intro listed a w k Lk Ck af z hu A0 O hd hz hT N R A5 f G Y B;refine ⟨fun Do=>?_,fun i hi=>?_⟩
   ·refine done listed a w k Lk Ck af (fun i hi=>?_) O hd hz hT N R G B;cases hg:listed.getD i false with
    |true=>rfl
    |false=>
     exfalso;have GT: ∃ i,i<ops.size∧listed.getD i false=false:=⟨i,hi,hg⟩;obtain ⟨j,hj,Di⟩:=exists_least GT;have hr:j∈Region.ready .any ops listed:=vY z hj.1 hj.2 (fun o e ho he hb=>by
      have h1:=hc.EU j o e ho he hb;cases hg:listed.getD e.on false with
      |true=>exact hg
      |false=>exact absurd (Di e.on ⟨I,hg⟩) I)
     rw [Do] at hr;cases hr
   ·obtain ⟨B7,W,DA⟩:=od z hi;obtain ⟨o,ho⟩: ∃ o,ops[i]? =some o:=⟨ops[i],AAN B7⟩;obtain ⟨Bt,BD⟩:=hc.plain i o ho;have F: ∀ j,(listed.setIfInBounds i true).getD j false=if j=i then true else listed.getD j false:=fun j=>tG I false
    have Id:=C_ (n:=ops.size) (i:=i) (listed:=listed) I (p7.2 ⟨B7,W⟩);have hcl': ∀ j,(listed.setIfInBounds i true).getD j false=true→yh ops (fun k=>(listed.setIfInBounds i true).getD k false=true) j:=by
     intro j hj o' e ho' he hb;show (listed.setIfInBounds i true).getD e.on false=true
     rw [F] at hj ⊢;by_cases e1:e.on=i
     ·simp [e1]
     ·simp only [e1,AA0];by_cases s:j=i
      ·subst s;exact DA o' e ho' he hb
      ·simp only [s,AA0] at hj;exact A0 j hj o' e ho' he hb
    have l: ∀ j,jA (sO ops) j i=true→listed.getD j false=true:=fun j hj=>kl (S:=fun k=>listed.getD k false=true) A0 hj DA;have A4: ∀ j,jA (sO ops) i j=true→listed.getD j false=false:=fun j hj=>by
     cases hg:listed.getD j false with
     |false=>rfl
     |true=>
      have:=kl (S:=fun k=>listed.getD k false=true) A0 hj (A0 j hg);rw [this] at W;cases W
    unfold wpOpIn;simp only [ho];rcases hc.cover i B7 with X|X
    ·-- a free one
     obtain ⟨p,hp⟩:=r5.1 X;obtain ⟨d,v,H,C2,IR,IO⟩:=g p o (A3 p i o hp ho);have C3:=mW (fy ops free) vs p L a0 BP y;have c: ∀ t∈o.looksAt ops,a.tmps[t]? =(ng (fy ops free) vs p a0).tmps[t]? :=by
      intro t A8;by_cases hw: ∃ (q j:Nat) (r:Oper),free[q]? =some j∧q≠p∧ops[j]? =some r∧r.dst=some t
      ·obtain ⟨q,j,r,hq,AB,hr,A⟩:=hw;obtain ⟨d',v',e1,s,e3,_⟩:=g q r (A3 q j r hq hr);rw [A] at e1;cases e1;have FS:=hc.apart p q i j o r t hp hq AB ho hr A;rcases FS.2 A8 with ⟨J,ha⟩|⟨J,ha⟩
       ·rw [(B q j r t hq hr A).2 (l j ha),e3];refine (mS (fy ops free) vs p a0 q r t v' J (A3 q j r hq hr) A (by rw [y.size];exact s) e3 (fun m u hm hne' hu=>?_)).symm;obtain ⟨x,AA,V⟩:=A2 m u hu;exact (hc.apart m q x j u r t AA hq (ABO hne') V hr A).1
       ·have Dn:=A4 j ha;refine (Y t (fun m u hm hu M=>?_)).trans (gK (fy ops free) vs p a0 t (fun m u hm hu M=>?_)).symm
        ·rcases hc.cover m (n5.1 hu).1 with Ci|B9
         ·obtain ⟨x,hx⟩:=r5.1 Ci;by_cases e:x=q
          ·subst e;rw [hq] at hx;cases hx;rw [hm] at Dn;cases Dn
          ·exact (hc.apart x q m j u r t hx hq (ABO e) hu hr A).1 M
         ·exact (hc.ft j m r u (aF hq) B9 hr hu).1 (by rw [M,A])
        ·obtain ⟨x,AA,V⟩:=A2 m u hu;exact (hc.apart m q x j u r t AA hq I V hr A).1 M
      ·refine (Y t (fun m u hm hu M=>?_)).trans (gK (fy ops free) vs p a0 t (fun m u hm hu M=>?_)).symm
       ·rcases hc.cover m (n5.1 hu).1 with Ci|B9
        ·obtain ⟨x,hx⟩:=r5.1 Ci;by_cases e:x=p
         ·subst e;rw [hp] at hx;cases hx;rw [hm] at W;cases W
         ·exact hw ⟨x,m,u,hx,e,hu,M⟩
        ·have:=A4 m ((hc.ft i m o u X B9 ho hu).2.1 t M A8);rw [hm] at this;cases this
       ·obtain ⟨x,AA,V⟩:=A2 m u hu;exact hw ⟨m,x,u,AA,I,V,M⟩
     have Es: ∀ m j,T[m]? =some j→j≠i:=fun m j A7 e=>hc.M9 j (aF A7) (e▸X);have G3: ∀ w',ed no w w'→wpAnyIn (Fw E.r) 0 E.P .any ops Q fuel (listed.setIfInBounds i true) (a.put (some d) v) w':=by
      intro w' hk;refine ih _ _ w' k Lk Ck af (by simpa using z) I hcl' (fun m j A7=>?_) hd (by simp [Act.put,hz]) hT N (R.same hk) A5 (fun p' i' hp' hf' hl'=>f p' i' hp' hf' (by rw [F] at hl';by_cases e:i'=i;(rw [c0 e] at hl';cases hl');(rwa [c1 e] at hl'))) (fun t ht=>?_) (fun t ht=>?_) (fun q j r d' hq hr A=>?_)
      ·rw [F,c1 (Es m j A7)];exact O m j A7
      ·have AB:d≠t:=fun e=>ht p i o hp ho (by rw [H,e]);simp only [Act.put];rw [e5 AB];exact G t ht
      ·have AB:d≠t:=fun e=>ht i o (by rw [F];simp) ho (by rw [H,e]);simp only [Act.put];rw [e5 AB];exact Y t (fun m u hm hu=>ht m u (by rw [F];split<;>simp [hm]) hu)
      ·refine ⟨(B q j r d' hq hr A).1,fun hl=>?_⟩;by_cases e:q=p
       ·subst e;rw [hp] at hq;cases hq;rw [ho] at hr;cases hr;rw [H] at A;cases A;simp only [Act.put];rw [c8 (by rw [hz];exact C2),IR]
       ·have AB:=(hc.apart p q i j o r d' hp hq e ho hr A).1;simp only [Act.put];rw [e5 (fun h=>AB (by rw [H,h]))];refine (B q j r d' hq hr A).2 ?_;rw [F] at hl;by_cases s:j=i
        ·subst s;exact absurd (by rw [ho] at hr;cases hr;rw [H] at A ⊢;exact A) AB
        ·simpa [s] using hl
     refine v9 IO H C2 Bt BD C3 c ?_ G3;cases B3:(fe[p]?).getD false with
     |true=>exact f p i hp B3 W w R
     |false=>exact A5 w R
    ·-- one of the others
     obtain ⟨m,hm'⟩:=r5.1 X;have G4:m=k:=by
      have h1: ¬ m<k:=fun h=>by have:=(O m i hm').2 h;rw [this] at W;cases W
      rcases r4 k m with h2|h2
      ·have DR:k<T.length:=by have:=(aT.1 hm').1;omega
       have:=l _ (hc.chain m k i _ hm' (fh DR) h2).2;have:=(O k _ (fh DR)).1 this;omega
      ·omega
     subst G4;have Bv:fy ops (T.drop m)=o::fy ops (T.drop (m+1)):=by
      have J:=(aT.1 hm').1;have hx:T[m]=i:=(aT.1 hm').2;rw [u1 J,hx];simp [fy,ho]
     rw [Bv] at hT;have Fd:(tb.drop m).headD false=(tb[m]?).getD false:=by rw [List.headD_eq_head?_getD,List.head?_drop]
     have Fn:(tb.drop m).tail=tb.drop (m+1):=by simp
     have hT: ∀ K:Act→World→Prop,(∀ L' C'',(∀ w,St E.S E.w0 C'' w→St E.S E.w0 C' w)→((tb.drop m).headD false=true→ ∀ w,St E.S E.w0 C'' w→St E.S E.w0 C1 w)→TJ E ops D C' C1 (fun L C=>KJ E (Q .normal) D L C) (tb.drop m).tail (fy ops (T.drop (m+1))) L' C''→KJ E K D L' C'')→RJ E ops (NQ K) [o] D Lk Ck:=by
      cases hb:tb.drop m<;>(rw [hb] at hT;exact hT)
     rw [Fd,Fn] at hT;have c: ∀ t∈o.looksAt ops,a.tmps[t]? =af.tmps[t]? :=by
      intro t A8;by_cases hw: ∃ (q j:Nat) (r:Oper),free[q]? =some j∧ops[j]? =some r∧r.dst=some t
      ·obtain ⟨q,j,r,hq,hr,A⟩:=hw;have ha:=(hc.ft j i r o (aF hq) X hr ho).2.2 t A A8;obtain ⟨e1,s⟩:=B q j r t hq hr A;rw [e1,s (l j ha)]
      ·exact (G t (fun q j r hq hr A=>hw ⟨q,j,r,hq,hr,A⟩)).symm
     refine Jn Bt BD c (hT (fun af' w'=>af'.defers=D∧ ∃ L' C'',(∀ w,St E.S E.w0 C'' w→St E.S E.w0 C' w)∧((tb[m]?).getD false=true→ ∀ w,St E.S E.w0 C'' w→St E.S E.w0 C1 w)∧TJ E ops D C' C1 (fun L C=>KJ E (Q .normal) D L C) (tb.drop (m+1)) (fy ops (T.drop (m+1))) L' C''∧Fr E.n D L' af'∧St E.S E.w0 C'' w')
      (fun L' C'' h1 h1' h2 af' w' h3 h4=>⟨h3.defers,L',C'',h1,h1',h2,h3,h4⟩) af w N R) (fun b w' hb=>hb.1.trans N.defers.symm) ?_
     rintro u w' ⟨_,L',C'',h1,h1',h2,h3,h4⟩;have Z: ∀ (b:Act) (t:Nat),o.dst≠some t→(b.put o.dst u).tmps[t]? =b.tmps[t]? :=fun b t AB=>by
      cases H:o.dst with
      |none=>rfl
      |some d=>simp only [Act.put];rw [e5 (fun e=>AB (by rw [H,e]))]
     have Cp: ∀ (b:Act),(b.put o.dst u).tmps.size=b.tmps.size:=fun b=>by cases o.dst<;>simp [Act.put]
     refine ih _ _ w' (m+1) L' C'' (af.put o.dst u) (by simpa using z) I hcl' (fun q j hq=>?_) (by cases o.dst<;>exact hd) (by rw [Cp];exact hz) h2 h3 h4 h1 (fun p' i' hp' hf' hl'=>by
      rcases GE p' m i' i hp' hm' hf' with h5|h5
      ·exact h1' h5
      ·have h6:=l i' h5;rw [F] at hl';by_cases e:i'=i
       ·rw [c0 e] at hl';cases hl'
       ·rw [c1 e,h6] at hl';cases hl') (fun t ht=>?_) (fun t ht=>?_) (fun q j r d' hq hr A=>?_)
     ·rw [F];by_cases e:j=i
      ·subst e;simp only [ACd,true_iff];rcases ABr q m with h5|h5|h5
       ·omega
       ·omega
       ·exact absurd U (hc.chain q m j j hq hm' h5).1
      ·simp only [e,AA0];rw [O q j hq];constructor
       ·omega
       ·intro h5;rcases r4 q m with h6|h6
        ·exact h6
        ·have:q=m:=by omega
         subst this;rw [hm'] at hq;cases hq;exact absurd rfl e
     ·by_cases H:o.dst=some t
      ·rw [H];simp only [Act.put];by_cases J:t<E.n
       ·rw [c8 (by rw [N.size];exact J),c8 (by rw [hz];exact J)]
       ·rw [ABL (by rw [ABf,N.size];exact ACF J),ABL (by rw [ABf,hz];exact ACF J)]
      ·rw [Z a t H,Z af t H];exact G t ht
     ·rw [Z a t (ht i o (by rw [F];simp) ho)];exact Y t (fun m' u' hm'' hu'=>ht m' u' (by rw [F];split<;>simp [hm'']) hu')
     ·have AB:o.dst≠some d':=fun e=>(hc.ft j i r o (aF hq) X hr ho).1 (by rw [e,A]);rw [Z a d' AB,Z af d' AB];refine ⟨(B q j r d' hq hr A).1,fun hl=>(B q j r d' hq hr A).2 ?_⟩;rw [F] at hl;have:j≠i:=fun e=>hc.M9 i X (e▸aF hq);simpa [this] using hl
 refine key ops.size (replicate ops.size false) a0 _ 0 _ C (ng (fy ops free) vs (fy ops free).length a0) sm ?_ ?_ ?_ y.defers y.size (by simpa using hF) (mW _ vs _ L a0 BP y) H1 hC (fun _ _ _ _ _=>hC1) ?_ (fun _ _=>rfl) ?_
 ·unfold Gv;exact c6 (u2 _ _) sm
 ·intro j hj;simp only [n6,AAU] at hj;split at hj<;>simp at hj
 ·intro m i _;simp only [n6,AAU];split<;>simp
 ·intro t ht;refine gK _ vs _ a0 t (fun m u _ hu M=>?_);obtain ⟨x,AA,V⟩:=A2 m u hu;exact ht m x u AA V M
 ·intro p i o d hp ho H;obtain ⟨d',v',e1,s,e3,_⟩:=g p o (A3 p i o hp ho);rw [H] at e1;cases e1;refine ⟨?_,fun hl=>?_⟩
  ·rw [e3];refine mS _ vs _ a0 p o d v' (by rw [B3];exact (aT.1 hp).1) (A3 p i o hp ho) H (by rw [y.size];exact s) e3 (fun m u hm AB hu=>?_);obtain ⟨x,AA,V⟩:=A2 m u hu;exact (hc.apart m p x i u o d AA hp (ABO AB) V ho H).1
  ·simp only [n6,AAU] at hl;split at hl<;>simp at hl
theorem dL {F:dJ→Prop} {l:List Oper} (hl:l=[]) (h:F L):uN E ops D C' C1 F bs l L:=by subst hl;cases bs<;>exact h
theorem Y1 {F:dJ→Prop} {l:List Oper} (h:SD E ops o D L C' v) (hl:l=o::rest) (ho:o.dst=some d) (hd:blt d E.n=true) (k:uN E ops D C' C1 F bs rest ((d,v)::L)):
 uN E ops D C' C1 F (false::bs) l L:=by subst hl;exact ⟨d,v,ho,by rw [← u7];exact hd,h,k⟩
theorem XI {F:dJ→Prop} {l:List Oper} (h:SD E ops o D L C1 v) (hl:l=o::rest) (ho:o.dst=some d) (hd:blt d E.n=true) (k:uN E ops D C' C1 F bs rest ((d,v)::L)):
 uN E ops D C' C1 F (true::bs) l L:=by subst hl;exact ⟨d,v,ho,by rw [← u7];exact hd,h,k⟩
theorem eI {l:List Oper} (hl:l=[]) (h:F L C):TJ E ops D C' C1 F bs l L C:=by subst hl;cases bs<;>exact h
theorem bR {l T:List Oper} (hl:l=o::T) (h:∀ K:Act→World→Prop,(∀ L' C'',(∀ w,St E.S E.w0 C'' w→St E.S E.w0 C' w)→TJ E ops D C' C1 F bs T L' C''→KJ E K D L' C'')→RJ E ops (NQ K) [o] D L C):TJ E ops D C' C1 F (false::bs) l L C:=by
 subst hl;exact fun K hK=>h K fun L' C'' A B=>hK L' C'' A (fun h=>by cases h) B
theorem gr {l T:List Oper} (hl:l=o::T) (h:∀ K:Act→World→Prop,(∀ L' C'',(∀ w,St E.S E.w0 C'' w→St E.S E.w0 C' w)→(∀ w,St E.S E.w0 C'' w→St E.S E.w0 C1 w)→TJ E ops D C' C1 F bs T L' C''→KJ E K D L' C'')→RJ E ops (NQ K) [o] D L C):TJ E ops D C' C1 F (true::bs) l L C:=by
 subst hl;exact fun K hK=>h K fun L' C'' A G B=>hK L' C'' A (fun _=>G) B
theorem TJ.sub: ∀ {bs:List Bool} {T:List Oper} {L L':dJ},cV L L'→TJ E ops D C' C1 (fun L C=>KJ E (Q .normal) D L C) bs T L' C→TJ E ops D C' C1 (fun L C=>KJ E (Q .normal) D L C) bs T L C:=by
 intro bs T;cases T with
 |nil=>intro L L' hs h;cases bs<;>exact j7 hs (fun _ h=>h) h
 |cons o T=>intro L L' hs h;cases bs<;>exact fun K hK=>T1 hs (fun _ h=>h) (h K hK)
theorem uN.mono {F:dJ→Prop} (hF:∀ L L',cV L L'→F L'→F L): ∀ {bs:List Bool} {os:List Oper} {L L':dJ},cV L L'→uN E ops D C' C1 F bs os L'→uN E ops D C' C1 F bs os L:=by
 intro bs os
 induction os generalizing bs with
 |nil=>intro L L' hs h;cases bs<;>exact hF _ _ hs h
 |cons o os ih=>
  intro L L' hs h;have h': ∃ d v,o.dst=some d∧d<E.n∧SD E ops o D L' (bif bs.headD false then C1 else C') v∧uN E ops D C' C1 F bs.tail os ((d,v)::L'):=by cases bs<;>exact h
  obtain ⟨d,v,ho,hd,A,hk⟩:=h';have B: ∃ d v,o.dst=some d∧d<E.n∧SD E ops o D L (bif bs.headD false then C1 else C') v∧uN E ops D C' C1 F bs.tail os ((d,v)::L):=⟨d,v,ho,hd,A.sub hs,ih (hs.head d v) hk⟩;cases bs<;>exact B
theorem ur {ts:List Bool} {T os:List Oper} (h:L.lookup t=some (.bool b)) (h1:b=true→uN E ops D C' C1 (fun L'=>TJ E ops D C' C1 (fun L C=>KJ E (Q .normal) D L C) ts T L' C) bs os ((t,.bool true)::L)) (h2:b=false→uN E ops D C' C1 (fun L'=>TJ E ops D C' C1 (fun L C=>KJ E (Q .normal) D L C) ts T L' C) bs os ((t,.bool false)::L)):
 uN E ops D C' C1 (fun L'=>TJ E ops D C' C1 (fun L C=>KJ E (Q .normal) D L C) ts T L' C) bs os L:=by
 have A: ∀ v:Bool,b=v→cV L ((t,.bool v)::L):=fun v hv=>cV.cons (hv▸h) (fun _ _ h=>h);cases b
 ·exact uN.mono (fun _ _=>TJ.sub) (A _ U) (h2 U)
 ·exact uN.mono (fun _ _=>TJ.sub) (A _ U) (h1 U)
end
section
open Go.ChangeShapes Go.WideShapes Go.ChangeAt Go.RowKit
/-- whatever reads at a type has these cells, and this is so of memory -/
def sV (P:Program) (t:TypeId) (α:Type) (cells:α→List Value) (R:World→α→Prop):Prop:=
 ∀ {H:Type} (enc:TypeId×Value→H) (w:World) (base:Nat) (sp:Nat→Bool) (held:Bool) (fuel:Nat) (cs:List Value) (x:DataW H×List MemPlace),
  DataW.trod enc P w base sp held fuel t cs=some x→ ∃ s:α,cs=cells s∧R w s
theorem O5 {t:TypeId} {k:IntKind} (ht:P.underlying t=some (.int k)):sV P t Int (fun n=>[.int k n]) (fun _ n=>k.min≤n∧n≤k.max):=fun {H} enc w base sp A fuel cs x h=>by
 obtain ⟨n,rfl,_,hw⟩:=DataW.trod_int ht h;refine ⟨n,U,?_⟩;simpa [Lit.wf] using hw
theorem VI {t:TypeId} (ht:P.underlying t=some (.int .i64)):sV P t Int iC (fun _ n=>tP n):=O5 ht
theorem XO {t:TypeId} (ht:P.underlying t=some (.int .u8)):sV P t Int P2 (fun _ n=>0≤n∧n≤255):=O5 ht
theorem Rs {t:TypeId} (ht:P.underlying t=some .bool):sV P t Bool (fun n=>[.bool n]) (fun _ _=>True):=fun {H} enc w base sp A fuel cs x h=>by
 obtain ⟨n,rfl,_⟩:=DataW.trod_bool ht h;exact ⟨n,U,trivial⟩
theorem jt {enc:TypeId×Value→H} {fuel:Nat} {x:DataW H×List MemPlace} (hl:fL P t=some l) (h:DataW.trod enc P w base sp held fuel t cs=some x):cs.length=P.cellsOf t∧ ∀ (i ft off:Nat),l[i]? =some (ft,off)→ ∃ n y,DataW.trod enc P w base sp held n ft ((cs.drop off).take (P.cellsOf ft))=some y:=by
 unfold fL at hl;cases hu:P.underlying t with
 |none=>simp [hu] at hl
 |some d=>
  cases d<;>simp [hu] at hl;rename_i fs;obtain ⟨xs,n,_,_,B,F,hf⟩:=DataW.trod_struct hu h;refine ⟨B,fun i ft off hi=>?_⟩;have E:=hl.2;subst E;simp only [gO,AAQ] at hi;obtain ⟨f,C,A⟩:=hi;simp only [p4] at A;obtain ⟨rfl,rfl⟩:=A;have hfi':fs[i]? =some f:=by simpa using C
  have D:i<xs.length:=by rw [F];exact (n5.1 hfi').1
  exact ⟨n,xs[i],by rw [hf i f hfi',fh D]⟩
theorem gS {a:List Value} {o n m:Nat} (hl:cs.length=m) (hm:o+n=m) (h:(cs.drop o).take n=a):cs.drop o=a:=by
 rwa [c5 (by rw [AA9];omega)] at h
theorem cH {a b:List Value} {o n m:Nat} (h:(cs.drop o).take n=a) (hm:o+n=m) (hb:cs.drop m=b):cs.drop o=a++b:=by
 rw [← h,← hb,← hm,← List.drop_drop,ABA]
theorem mh {cells:α→List Value} {R:World→α→Prop} (ht:P.underlying t=some (.slice e)) (hc:P.cellsOf e=sz) (he:sV P e α cells R):
 sV P t aX (fun s=>[.slice s.a s.n s.c]) (fun w s=> ∃ l:List α,s.n=l.length∧(rd s.a l.length sz (l.map cells)).holds w∧(∀ x∈l,R w x)∧l.length≤maxLen∧s.n≤s.c):=fun {H} enc w base sp B fuel cs x h=>by
 rcases Go.Deep.open_slice ht h with ⟨rfl,_⟩|⟨a,len,cap,m,n,D,Pl,rfl,hb,hl,hm,N,hx,hi⟩
 ·exact ⟨⟨none,0,0⟩,U,[],U,⟨U,sm,fun h=>by simp at h⟩,sm,c4 _,c9 _⟩
 ·rw [hc] at hi;have Q:len≤m:=by rw [N];split<;>omega
  have J: ∀ k:Nat,k≤len→ ∃ l:List α,l.length=k∧(∀ x∈l,R w x)∧ ∀ (i:Nat) (x:α),l[i]? =some x→(cells x).length=sz∧ ∀ (j:Nat) v,(cells x)[j]? =some v→w.cell? (a.add (i*sz+j))=some v:=by
   intro k
   induction k with
   |zero=>exact fun _=>⟨[],rfl,sm,sm⟩
   |succ k ih=>
    intro hk;obtain ⟨l,C,F,E⟩:=ih I;obtain ⟨cs',AA,O⟩:=hi k I;obtain ⟨_,A,G⟩:=World.cells?_some AA;obtain ⟨s,rfl,hR⟩:=he enc w base sp B n cs' _ O;refine ⟨l++[s],by simp [C],fun x hx=>?_,fun i x hx=>?_⟩
    ·rcases dZ.1 hx with hx|hx
     ·exact F x hx
     ·simp at hx;subst hx;exact hR
    ·by_cases L:i<l.length
     ·rw [v3 L] at hx;exact E i x hx
     ·have K:i=k:=by
       have:=(aT.1 hx).1;simp at this;omega
      subst K;rw [k_ I,C] at hx;simp at hx;subst hx;refine ⟨A,fun j v hj=>?_⟩;have M:j<sz:=by rw [← A];exact (aT.1 hj).1
      rw [← zj,G j M,hj]
  obtain ⟨l,C,F,E⟩:=J len (c9 _);refine ⟨⟨some a,len,cap⟩,U,l,C.symm,⟨sm,fun e he'=>?_,fun _=>⟨a,U,fun i e' j v hi' hj=>?_⟩⟩,F,I,hl⟩
  ·obtain ⟨x,hx,rfl⟩:=cu.1 he';obtain ⟨i,hi'⟩:=s3 hx;exact (E i x hi').1
  ·rw [gO] at hi';obtain ⟨x,hx,rfl⟩:=AAQ.1 hi';exact (E i x hx).2 j v hj
theorem A_ {enc:TypeId×Value→H} {r:Reach} {t:TypeId} {d:DataW H} {cells:α→List Value} {R:World→α→Prop} (hl:fL P t=some l) (ho:sV P t α cells R) (hv:Value.okWide P w r b0 t v) (h:DataW.Trod enc P w base sp held t v d p): ∃ s,v= .agg (cells s).toArray∧R w s:=by
 unfold fL at hl;cases hu:P.underlying t with
 |none=>simp [hu] at hl
 |some d=>
  cases d<;>simp [hu] at hl;rename_i fs;obtain ⟨cs,rfl,A⟩:=okWide_struct hu hv;obtain ⟨fuel,hf⟩:=h;obtain ⟨s,hc,hR⟩:=ho enc w base sp held fuel _ _ hf;refine ⟨s,?_,hR⟩;simp only [Value.cells] at hc;rw [← hc]
theorem Jd {enc:TypeId×Value→H} {r:Reach} {t:TypeId} {k:IntKind} {d:DataW H} (ht:P.underlying t=some (.int k)) (hv:Value.okWide P w r b0 t v) (h:DataW.Trod enc P w base sp held t v d p): ∃ n,v= .int k n∧k.min≤n∧n≤k.max:=by
 obtain ⟨n,rfl,_,_,hw⟩:=open_int ht hv h;refine ⟨n,U,?_⟩;simpa [Lit.wf] using hw
section
variable {H:Type} {enc:TypeId×Value→H} {P:Program}
theorem uV (hl:laidOutB P=true) {W W':World} {sp:Nat→Bool} (hb:Below W.heap.size W W'): ∀ (ts:List TypeId) (vs:List Value) (ds:List (DataW H)) (ps:List MemPlace),(ts.all fun t=>P.readableRec t&&decide (t<P.types.size))=true→
 DataW.TrodAll enc P W 0 (fun _=>true) true ts vs ds ps→(∀ x∈ps,x.block<W.heap.size)→(∀ x∈ps,sp x.block=true)→DataW.TrodAll enc P W' 0 sp true ts vs ds ps
 |[],[],[],ps,_,h,_,_=>h
 |t::ts,v::vs,d::ds,ps,ha,h,hlt,hsp=>by
  obtain ⟨p,q,A,B,rfl⟩:=h;simp only [eX,dq,r0] at ha;refine ⟨p,q,?_,uV hl hb ts vs ds q ha.2 B (fun x hx=>hlt x (AAg _ hx)) (fun x hx=>hsp x (AAg _ hx)),U⟩;exact WideElems.Trod_stays hl ha.1.1 ha.1.2 A (fun x hx=>hb.same (hlt x (m1 _ hx))) (fun x hx=>hsp x (m1 _ hx))
 |[],[],_::_,_,_,h,_,_=>h.elim
 |[],_::_,_,_,_,h,_,_=>h.elim
 |_::_,[],_,_,_,h,_,_=>h.elim
 |_::_,_::_,[],_,_,h,_,_=>h.elim
/-- a law that said true and kept all that was there has answered its row -/
theorem Ny {f:Func} {s:ChangeSpec} {apart fresh handsOn:Bool} {W W':World} {args:Array Value} {ds:List (DataW H)} {bt:TypeId} (hl:laidOutB P=true) (hW:DataW.Whole enc P f.params.toList s.vars apart W args.toList ds [] p) (hA:DataW.TrodAll enc P W 0 (fun _=>true) true f.params.toList args.toList ds p) (hv:s.vars=[]) (hs:s.fn H (ds++[])={results:=[.lit (.bool true)],args:=ds}) (hr:(f.params.toList.all fun t=>P.readableRec t&&decide (t<P.types.size))=true) (hb:Below W.heap.size W W') (ht:f.resultTypes= #[bt]) (hu:P.underlying bt=some .bool):s.post enc P f apart fresh handsOn false W args (.bool true) W':=by
 have A: ∀ x∈p,x.block<W.heap.size:=fun x hx=>hW.lt x hx;refine ⟨ds,[],p,[],p,[],hW,?_,?_,?_,World.keptBut_mono (fun x hx=>⟨hx,.inr (.inl hx)⟩) (hb.frame (· ∈p)),fun h=>by cases h⟩
 ·rw [hs,ht];exact trodAll_mk1 (shut_bool hu _)
 ·rw [hs];exact uV hl hb _ _ _ _ hr hA A (fun x hx=>by simpa using A x hx)
 ·rw [hs,hv];rfl
end
end
section
@[ext] structure aa where
 Lo:Int
 Hi:Int
 deriving DecidableEq
def aa.cells (s:aa):List Value:=vI s.Lo::([vI s.Hi])
theorem aa.aD (s:aa):s.cells.length=2:=rfl
@[ext] structure dx where
 Class:Int
 Start:aa
 NP:aa
 Ap:aa
 Weight:aa
 Es:aa
 deriving DecidableEq
def dx.cells (s:dx):List Value:=Value.int .u8 s.Class::(aa.cells s.Start++(aa.cells s.NP++(aa.cells s.Ap++(aa.cells s.Weight++(aa.cells s.Es)))))
theorem dx.aD (s:dx):s.cells.length=11:=rfl
@[ext] structure aZ where
 lL:aX
 deriving DecidableEq
def aZ.cells (s:aZ):List Value:=[vS s.lL.a s.lL.n s.lL.c]
theorem aZ.aD (s:aZ):s.cells.length=1:=rfl
@[ext] structure gE where
 ji:dx
 Zr:aZ
 best:Bool
 deriving DecidableEq
def gE.cells (s:gE):List Value:=dx.cells s.ji++(aZ.cells s.Zr++([vB s.best]))
theorem gE.aD (s:gE):s.cells.length=13:=rfl
@[ext] structure qB where
 G3:aX
 deriving DecidableEq
def qB.cells (s:qB):List Value:=[vS s.G3.a s.G3.n s.G3.c]
theorem qB.aD (s:qB):s.cells.length=1:=rfl
@[ext] structure l6 where
 Qa:aX
 Zs:Int
 aa1:Int
 V6:Int
 DA:aX
 DR:aX
 U8:Int
 Xy:Bool
 deriving DecidableEq
def l6.cells (s:l6):List Value:=vS s.Qa.a s.Qa.n s.Qa.c::(vI s.Zs::(vI s.aa1::(vI s.V6::(vS s.DA.a s.DA.n s.DA.c::(vS s.DR.a s.DR.n s.DR.c::(vI s.U8::([vB s.Xy])))))))
theorem l6.aD (s:l6):s.cells.length=8:=rfl
@[ext] structure JM where
 YT:Int
 Shown:Int
 deriving DecidableEq
def JM.cells (s:JM):List Value:=vI s.YT::([vI s.Shown])
theorem JM.aD (s:JM):s.cells.length=2:=rfl
@[ext] structure jo where
 Id:Int
 Step:Int
 aac:aa
 mO:aa
 G4:aX
 deriving DecidableEq
def jo.cells (s:jo):List Value:=vI s.Id::(vI s.Step::(aa.cells s.aac++(aa.cells s.mO++([vS s.G4.a s.G4.n s.G4.c]))))
theorem jo.aD (s:jo):s.cells.length=7:=rfl
structure oL where
 Bay:qB
 Ve:Value
def oL.cells (s:oL):List Value:=qB.cells s.Bay++([s.Ve])
theorem oL.aD (s:oL):s.cells.length=2:=rfl
structure mI where
 of_:Value
def mI.cells (s:mI):List Value:=[s.of_]
theorem mI.aD (s:mI):s.cells.length=1:=rfl
structure iy where
 so:Value
def iy.cells (s:iy):List Value:=[s.so]
theorem iy.aD (s:iy):s.cells.length=1:=rfl
@[ext] structure bV where
 bQ:aZ
 g7:Int
 aC:aX
 ai:aX
 b_:Int
 eZ:Int
 dp:Int
 deriving DecidableEq
def bV.cells (s:bV):List Value:=aZ.cells s.bQ++(vI s.g7::(vS s.aC.a s.aC.n s.aC.c::(vS s.ai.a s.ai.n s.ai.c::(vI s.b_::(vI s.eZ::([vI s.dp]))))))
theorem bV.aD (s:bV):s.cells.length=7:=rfl
@[ext] structure cf where
 ar:bV
 a_:aX
 db:aX
 jz:Int
 ax:aX
 deriving DecidableEq
def cf.cells (s:cf):List Value:=bV.cells s.ar++(vS s.a_.a s.a_.n s.a_.c::(vS s.db.a s.db.n s.db.c::(vI s.jz::([vS s.ax.a s.ax.n s.ax.c]))))
theorem cf.aD (s:cf):s.cells.length=11:=rfl
@[ext] structure km where
 Race:cf
 bu:aX
 bH:aX
 ju:Int
 LS:Int
 deriving DecidableEq
def km.cells (s:km):List Value:=cf.cells s.Race++(vS s.bu.a s.bu.n s.bu.c::(vS s.bH.a s.bH.n s.bH.c::(vI s.ju::([vI s.LS]))))
theorem km.aD (s:km):s.cells.length=15:=rfl
@[ext] structure bL where
 Kind:Int
 jf:Int
 ou:Int
 To:Int
 deriving DecidableEq
def bL.cells (s:bL):List Value:=Value.int .u8 s.Kind::(vI s.jf::(vI s.ou::([vI s.To])))
theorem bL.aD (s:bL):s.cells.length=4:=rfl
@[ext] structure cG where
 Id:Int
 ji:Int
 jW:Int
 lk:Int
 At:Int
 deriving DecidableEq
def cG.cells (s:cG):List Value:=vI s.Id::(vI s.ji::(vI s.jW::(vI s.lk::([vI s.At]))))
theorem cG.aD (s:cG):s.cells.length=5:=rfl
@[ext] structure lS where
 Span:aa
 each:Bool
 never:Bool
 deriving DecidableEq
def lS.cells (s:lS):List Value:=aa.cells s.Span++(vB s.each::([vB s.never]))
theorem lS.aD (s:lS):s.cells.length=4:=rfl
structure fB where
 of_:Value
 sure:Value
def fB.cells (s:fB):List Value:=s.of_::([s.sure])
theorem fB.aD (s:fB):s.cells.length=2:=rfl
@[ext] structure dv where
 aaG:km
 deriving DecidableEq
def dv.cells (s:dv):List Value:=km.cells s.aaG
theorem dv.aD (s:dv):s.cells.length=15:=rfl
structure hO where
 Race:cf
 times:aX
 aaM:Value
def hO.cells (s:hO):List Value:=cf.cells s.Race++(vS s.times.a s.times.n s.times.c::([s.aaM]))
theorem hO.aD (s:hO):s.cells.length=13:=rfl
@[ext] structure dA where
 Start:Int
 hP:Int
 ab:aX
 deriving DecidableEq
def dA.cells (s:dA):List Value:=vI s.Start::(vI s.hP::([vS s.ab.a s.ab.n s.ab.c]))
theorem dA.aD (s:dA):s.cells.length=3:=rfl
@[ext] structure aO where
 Out:Bool
 cZ:Bool
 Time:aa
 bp:dA
 deriving DecidableEq
def aO.cells (s:aO):List Value:=vB s.Out::(vB s.cZ::(aa.cells s.Time++(dA.cells s.bp)))
theorem aO.aD (s:aO):s.cells.length=7:=rfl
structure oK where
 is:Value
 time:Value
def oK.cells (s:oK):List Value:=s.is::([s.time])
theorem oK.aD (s:oK):s.cells.length=2:=rfl
@[ext] structure aI where
 right:Int
 fH:Int
 deriving DecidableEq
def aI.cells (s:aI):List Value:=vI s.right::([vI s.fH])
theorem aI.aD (s:aI):s.cells.length=2:=rfl
@[ext] structure cj where
 ar:bV
 nj:dA
 least:aX
 times:aX
 forward:aX
 back:aX
 deriving DecidableEq
def cj.cells (s:cj):List Value:=bV.cells s.ar++(dA.cells s.nj++(vS s.least.a s.least.n s.least.c::(vS s.times.a s.times.n s.times.c::(vS s.forward.a s.forward.n s.forward.c::([vS s.back.a s.back.n s.back.c])))))
theorem cj.aD (s:cj):s.cells.length=14:=rfl
@[ext] structure ag where
 Id:Int
 jd:aa
 kU:aa
 eu:aa
 gu:Int
 zZ:Int
 deriving DecidableEq
def ag.cells (s:ag):List Value:=vI s.Id::(aa.cells s.jd++(aa.cells s.kU++(aa.cells s.eu++(Value.int .u8 s.gu::([vI s.zZ])))))
theorem ag.aD (s:ag):s.cells.length=9:=rfl
@[ext] structure eQ where
 bQ:aZ
 deriving DecidableEq
def eQ.cells (s:eQ):List Value:=aZ.cells s.bQ
theorem eQ.aD (s:eQ):s.cells.length=1:=rfl
@[ext] structure cY where
 bk:Int
 mO:aa
 deriving DecidableEq
def cY.cells (s:cY):List Value:=vI s.bk::(aa.cells s.mO)
theorem cY.aD (s:cY):s.cells.length=3:=rfl
@[ext] structure df where
 mz:cY
 kD:Int
 deriving DecidableEq
def df.cells (s:df):List Value:=cY.cells s.mz++([vI s.kD])
theorem df.aD (s:df):s.cells.length=4:=rfl
@[ext] structure dE where
 dI:Int
 bo:aX
 deriving DecidableEq
def dE.cells (s:dE):List Value:=vI s.dI::([vS s.bo.a s.bo.n s.bo.c])
theorem dE.aD (s:dE):s.cells.length=2:=rfl
@[ext] structure cP where
 At:Int
 eA:aa
 deriving DecidableEq
def cP.cells (s:cP):List Value:=vI s.At::(aa.cells s.eA)
theorem cP.aD (s:cP):s.cells.length=3:=rfl
@[ext] structure aR where
 fR:Int
 Read:Int
 deriving DecidableEq
def aR.cells (s:aR):List Value:=vI s.fR::([vI s.Read])
theorem aR.aD (s:aR):s.cells.length=2:=rfl
@[ext] structure jv where
 least:aX
 times:aX
 some:aX
 deriving DecidableEq
def jv.cells (s:jv):List Value:=vS s.least.a s.least.n s.least.c::(vS s.times.a s.times.n s.times.c::([vS s.some.a s.some.n s.some.c]))
theorem jv.aD (s:jv):s.cells.length=3:=rfl
@[ext] structure Am where
 ic:aX
 j2:aX
 oH:aX
 deriving DecidableEq
def Am.cells (s:Am):List Value:=vS s.ic.a s.ic.n s.ic.c::(vS s.j2.a s.j2.n s.j2.c::([vS s.oH.a s.oH.n s.oH.c]))
theorem Am.aD (s:Am):s.cells.length=3:=rfl
structure aS where
 dI:Int
 bo:List cP
 deriving DecidableEq
def aS.cells (m:aS) (a:OA×Nat):List Value:=dE.cells ⟨m.dI,⟨a.1,m.bo.length,a.2⟩⟩
def aS.lf (m:aS) (a:OA×Nat):List au:=[rd a.1 m.bo.length 3 (m.bo.map cP.cells)]
def aS.owns (m:aS) (a:OA×Nat):List au:=[own a.1 a.2 106 3 (m.bo.map cP.cells)]
structure bf where
 bQ:List ag
 g7:Int
 aC:List aS
 ai:List df
 b_:Int
 eZ:Int
 dp:Int
 deriving DecidableEq
structure c_ where
 Start:Int
 hP:Int
 ab:List aR
 deriving DecidableEq
structure dK where
 ic:List Int
 j2:List Int
 oH:List Int
abbrev mg:=(OA×Nat)×(OA×Nat)×(OA×Nat)
abbrev nN:Nat:=3
def dK.cells (m:dK) (a:mg):List Value:=Am.cells ⟨⟨a.1.1,m.ic.length,a.1.2⟩,⟨a.2.1.1,m.j2.length,a.2.1.2⟩,⟨a.2.2.1,m.oH.length,a.2.2.2⟩⟩
def dK.lf (m:dK) (a:mg):List au:=[rd a.1.1 m.ic.length 1 (m.ic.map iC),rd a.2.1.1 m.j2.length 1 (m.j2.map iC),rd a.2.2.1 m.oH.length 1 (m.oH.map iC)]
def dK.owns (m:dK) (a:mg):List au:=[own a.1.1 a.1.2 nN 1 (m.ic.map iC),own a.2.1.1 a.2.1.2 nN 1 (m.j2.map iC),own a.2.2.1 a.2.2.2 nN 1 (m.oH.map iC)]
structure ak where
 Out:Bool
 cZ:Bool
 Time:aa
 bp:c_
 deriving DecidableEq
def ak.cells (m:ak) (a:OA×Nat):List Value:=aO.cells ⟨m.Out,m.cZ,m.Time,⟨m.bp.Start,m.bp.hP,⟨a.1,m.bp.ab.length,a.2⟩⟩⟩
def ak.lf (m:ak) (a:OA×Nat):List au:=[rd a.1 m.bp.ab.length 2 (m.bp.ab.map aR.cells)]
abbrev cq:=(OA×Nat)×List (OA×Nat)
def di (m:List ak) (a:cq):List Value:=[.slice a.1.1 m.length a.1.2]
structure cN where
 ar:bf
 a_:List Int
 db:List Int
 jz:Int
 ax:List (List ak)
 deriving DecidableEq
abbrev OG:Nat:=38
abbrev Uj:Nat:=3
abbrev B5:Nat:=52
abbrev B8:Nat:=85
structure dy where
 Race:cN
 bu:List bL
 bH:List cG
 ju:Int
 LS:Int
 deriving DecidableEq
abbrev kO (l:bf) (kA:Option Addr) (kC:Nat) (cA:Option Addr) (cC:Nat) (bA:Option Addr) (bC:Nat):bV:=bV.mk (aZ.mk (aX.mk kA l.bQ.length kC)) l.g7 (aX.mk cA l.aC.length cC) (aX.mk bA l.ai.length bC) l.b_ l.eZ l.dp
abbrev jP (r:c_) (sgA:Option Addr) (sgC:Nat):dA:=dA.mk r.Start r.hP (aX.mk sgA r.ab.length sgC)
abbrev pN (r:cN) (kA:Option Addr) (kC:Nat) (cA:Option Addr) (cC:Nat) (bA:Option Addr) (bC:Nat) (slA:Option Addr) (slC:Nat) (drA:Option Addr) (drC:Nat) (heA:Option Addr) (heC:Nat):cf:=cf.mk (kO r.ar kA kC cA cC bA bC) (aX.mk slA r.a_.length slC) (aX.mk drA r.db.length drC) r.jz (aX.mk heA r.ax.length heC)
abbrev rL (j:dy) (kA:Option Addr) (kC:Nat) (cA:Option Addr) (cC:Nat) (bA:Option Addr) (bC:Nat) (slA:Option Addr) (slC:Nat) (drA:Option Addr) (drC:Nat) (heA:Option Addr) (heC:Nat) (faA:Option Addr) (faC:Nat) (prA:Option Addr) (prC:Nat):km:=km.mk (pN j.Race kA kC cA cC bA bC slA slC drA drC heA heC) (aX.mk faA j.bu.length faC) (aX.mk prA j.bH.length prC) j.ju j.LS
abbrev l0 (A X):=rd A (length X) 9 (map ag.cells X)
abbrev Vl (A X):=rd A (length X) 2 (map aa.cells X)
abbrev qK (A X):=rd A (length X) 3 (map cP.cells X)
abbrev yS (A X Z):=rd A (length X) 2 (zipWith aS.cells X Z)
abbrev xP (A X):=rd A (length X) 4 (map df.cells X)
abbrev ke (A X):=rd A (length X) 2 (map aR.cells X)
abbrev XB (A C X):=own A C 38 2 (map aa.cells X)
abbrev ZW (A X Z):=rd A (length X) 3 (zipWith dK.cells X Z)
abbrev CV (A X Z):=rd A (length X) 1 (zipWith di X Z)
abbrev mT (A X Z):=rd A (length X) 7 (zipWith ak.cells X Z)
abbrev Tw (A C X):=own A C 65 9 (map ag.cells X)
abbrev XC (A C X Z):=own A C 109 2 (zipWith aS.cells X Z)
abbrev Qo (A C X):=own A C 113 4 (map df.cells X)
abbrev TQ (A C X Z):=own A C 68 1 (zipWith di X Z)
abbrev vX (A X):=rd A (length X) 4 (map bL.cells X)
abbrev Ct (A X):=rd A (length X) 5 (map cG.cells X)
abbrev Yz (A C X):=own A C 106 3 (map cP.cells X)
abbrev Yy (A X):=rd A (length X) 2 (map dE.cells X)
abbrev Yu (A X):=rd A (length X) 7 (map aO.cells X)
end
section
open Go.RowKit
theorem Ev {β:Type} {x:Int}: ∀ {l:List (Int×β)},l.lookup x=none↔ ∀ p∈l,p.1≠x
 |[]=>by simp
 |p::l=>by
  obtain ⟨k,v⟩:=p;by_cases h:x=k
  ·subst h;simp [lookup]
  ·have hb:(x==k)=false:=by simpa using h
   simp only [lookup,hb,bI,forall_eq_or_imp];rw [Ev (l:=l)];exact ⟨fun q=>⟨fun e=>h e.symm,q⟩,fun q=>q.2⟩
theorem rR {β:Type} {x:Int} {y:β}: ∀ {l:List (Int×β)},(l.map (·.1)).Nodup→((x,y)∈l↔l.lookup x=some y)
 |[],_=>by simp
 |p::l,hn=>by
  obtain ⟨k,v⟩:=p;simp only [m2,AA2] at hn;by_cases h:x=k
  ·subst h;simp only [lookup,ABI,bI,p4,true_and,k4];constructor
   ·rintro (e|e)
    ·exact e.symm
    ·exact absurd (cu.2 ⟨_,e,U⟩) hn.1
   ·intro e;exact .inl e.symm
  ·have hb:(x==k)=false:=by simpa using h
   simp only [lookup,hb,bI,p4,h,false_and,false_or];exact rR hn.2
structure Tu (es:Array MapEntry) (c:Nat) (m:List (Int×Value)):Prop where
 list:es.toList.map (fun e=>(e.key,e.val))=m.map (fun p=>(vI p.1,p.2))
 keys:(m.map (·.1)).Nodup
 Vh: ∀ e∈es.toList,e.born<c
 born:(es.toList.map (·.born)).Nodup
theorem Tu.nil:Tu #[] 0 []:=⟨rfl,ABt,sm,ABt⟩
theorem Kd {kt:Nat} {x:Int} (hk:P.underlying kt=some (.int .i64)) (e:Bool):(Instr.checkKey e 10000 kt (.int .i64 x)).run P w= .ok () w:=by
 exact MapKept.run_checkKey hk (show MapKept.IsKey (.int .i64) (.int .i64 x) from U) e 9999
section
variable {E:fJ} {ops:Array Oper} {Q:du} {rest:List Oper} {D:List Deferred} {L:List (Nat×Value)} {C:List au}
variable {dst:Option Tmp} {d:Nat} {ty:TypeId} {ps:String} {af:Array Edge} {g:Option (Nat×Bool)}
theorem oX {b:Nat} (o:Obj):ed (only b) w {w with heap:=w.heap.setIfInBounds b o}:=
 ⟨rfl,rfl,rfl,sm,fun k hk hn=>by simp only [only] at hn;exact e5 (fun e=>hn e.symm)⟩
theorem rp {b:Nat} {o o':Obj} (h:w.heap[b]? =some o):({w with heap:=w.heap.setIfInBounds b o'}:World).heap[b]? =some o':=by
 have:=(n5.1 h).1;simp [c8 this]
def tV (P:Program) (t:TypeId):Option Value:=(P.info? t).bind (·.zero)
theorem PT {t:TypeId} (h:tV P t=some z) (w:World):(zeroValue t).run P w= .ok z w:=by
 unfold tV at h;cases hi:P.info? t with
 |none=>simp [hi] at h
 |some i=>simp only [hi,r7] at h;simp [zeroValue,typeInfo,hi,h]
end
theorem dh.toX {V:α→Value} {p:α→Prop} {N:α→List au} (x:α) (h:dh P f args Cp (V x)) (hp:p x) (hN:∀ w,∀ A∈N x,A.holds w∧ ∀ b,¬ A.fP b):ld P f args Cp V p N:=
 ⟨h.go,fun w hw=>(h.run w hw).mono fun e w' ⟨he,hk⟩=>⟨x,he,hp,hk,fun A hA=>(hN w' A hA).1,fun A hA b hb=>absurd hb ((hN w' A hA).2 b),eW.2 fun i j hi hj B b hb=>absurd hb ((hN w' _ (u4 hi)).2 b)⟩⟩
theorem PN (w:World): ∀ A∈[own none 0 e sz []],A.holds w∧ ∀ b,¬ A.fP b:=fun A hA=>by
 simp at hA;subst hA;exact ⟨rI _ _ _,fun b ⟨ad,B,_⟩=>by cases B⟩
theorem ao {a:OA} {c n:Nat} (i:Nat) (hC:C[i]? =some (own a c e sz es)) (hn:es.length=n):ig C (rd a n sz es).holds:=hn▸IP i hC
abbrev iV:Int→Value:=Value.int .i64
end
section
def cQ (s:aa) (lo hi:Int):Prop:=s.Lo≤s.Hi∧lo≤s.Lo∧s.Hi≤hi
instance (s:aa) (lo hi:Int):Decidable (cQ s lo hi):=by unfold cQ;infer_instance
def bW (x:ag):Prop:=(0≤x.Id∧x.Id≤9999)∧cQ x.jd 1 30000∧cQ x.kU 0 5000∧(0≤x.zZ∧x.zZ≤5000)∧
 (x.gu=0∧x.eu.Lo=0∧x.eu.Hi=0∨(x.gu=1∨x.gu=2)∧cQ x.eu 500 20000)
instance (x:ag):Decidable (bW x):=by unfold bW;infer_instance
def fj:Int→List ag→Bool
 |_,[]=>true
 |last,x::xs=>decide (last<x.Id∧bW x)&&fj x.Id xs
def cD (ts:List ag):Bool:=decide (1≤(ts.length:Int)∧(ts.length:Int)≤12)&&fj (-1) ts
theorem L4 {l:List α} {x:α} (h:l[i]? =some x):l.drop i=x::l.drop (i+1):=by
 obtain ⟨A,rfl⟩:=aT.1 h;exact u1 A
theorem tO {ts:List ag} {x:ag} (last:Int) (h:ts[i]? =some x):fj last (ts.drop i)=(decide (last<x.Id∧bW x)&&fj x.Id (ts.drop (i+1))):=by
 rw [L4 h];rfl
def uW {α:Type} (p:α→Bool) (l:List α):Int:=if l.any p then (l.findIdx p:Nat) else-1
theorem w8 {p:α→Bool} {l:List α} {x:α} (h:l[i]? =some x) (hp:p x=true) (h0:(l.take i).any p=false):uW p l=i:=by
 obtain ⟨A,rfl⟩:=aT.1 h;have ha:l.any p=true:=AAm.2 ⟨_,u4 A,hp⟩;have hi:l.findIdx p=i:=by
  rw [List.findIdx_eq A];refine ⟨hp,fun j hj=>?_⟩;have:=ACD.1 h0 l[j] (by rw [List.mem_take_iff_getElem];exact ⟨j,I,rfl⟩);simpa using this
 simp [uW,ha,hi]
theorem rP {p:α→Bool} {l:List α} (hi:l.length≤i) (h0:(l.take i).any p=false):uW p l= -1:=by
 rw [c5 hi] at h0;simp [uW,h0]
theorem vV {p:α→Bool} {l:List α} {x:α} (h:l[i]? =some x) (h0:(l.take i).any p=false) (hp:p x=false):(l.take (i+1)).any p=false:=by
 rw [l1,h];simp [h0,hp]
theorem ub {p:α→Bool} {l:List α}:decide (0≤uW p l)=l.any p:=by
 unfold uW;cases l.any p<;>simp
def oJ (lo hi:Int) (l:List Int):Bool:= !(l.any fun u=>decide (u<lo∨hi<u))
theorem cp {a:Int}:vB (oJ lo hi [a])=vB (decide (lo≤a∧a≤hi)):=by
 refine c7 _ ?_;rw [AAB];simp [oJ]
theorem qT {a b:Int}:vB (oJ lo hi [a,b])=vB (decide ((lo≤a∧a≤hi)∧lo≤b∧b≤hi)):=by
 refine c7 _ ?_;rw [AAB];simp [oJ]
def Dz (lo hi:Int) (l:List aa):Bool:=l.all fun s=>decide (s.Lo≤s.Hi∧lo≤s.Lo∧s.Hi≤hi)
theorem oc {a:aa}:vB (Dz lo hi [a])=vB (decide (a.Lo≤a.Hi∧lo≤a.Lo∧a.Hi≤hi)):=by simp [Dz]
theorem Pn {p:α→Bool} {l:List α} {x:α} (h:l[i]? =some x) (h0:(l.take i).all p=true) (hp:p x=true):(l.take (i+1)).all p=true:=by
 rw [l1,h];simp [h0,hp]
theorem OZ {p:α→Bool} {l:List α} {x:α} (h:l[i]? =some x) (hp:p x=false):l.all p=false:=by
 rw [List.all_eq_false];exact ⟨x,aF h,by simp [hp]⟩
theorem Ii {p:α→Bool} {l:List α} (hi:l.length≤i) (h0:(l.take i).all p=true):l.all p=true:=by
 rwa [c5 hi] at h0
def g6 (ts:List ag) (i:Nat):Int:=if i=0 then-1 else ((ts[i-1]?).map (·.Id)).getD 0
theorem EE {ts:List ag} (h:i=0):g6 ts i= -1:=by simp [g6,h]
theorem G6 {ts:List ag} {y:ag} (h:0<i) (hy:ts[i-1]? =some y):g6 ts i=y.Id:=by
 simp [g6,hy];omega
theorem gW {ts:List ag} {y:ag} (hy:ts[i]? =some y):g6 ts (i+1)=y.Id:=by simp [g6,hy]
theorem ow {ts:List ag} (h: ¬ (1≤(ts.length:Int)∧(ts.length:Int)≤12)):cD ts=false:=by
 simp only [cD,bg h,Bool.false_and]
theorem ep {ts:List ag} {x:ag} (h:fj (-1) ts=fj (g6 ts i) (ts.drop i)) (hx:ts[i]? =some x) (hn:¬ (g6 ts i<x.Id∧bW x)):cD ts=false:=by
 rw [cD,h,tO _ hx,bg hn];simp
theorem sY {ts:List ag} (h:fj (-1) ts=fj (g6 ts i) (ts.drop i)) (hi:ts.length≤i) (hl:1≤(ts.length:Int)∧(ts.length:Int)≤12):cD ts=true:=by
 rw [cD,h,ABK hi,cR hl];rfl
theorem iD {ts:List ag} {x:ag} (h:fj (-1) ts=fj (g6 ts i) (ts.drop i)) (hx:ts[i]? =some x) (hn:g6 ts i<x.Id∧bW x):fj (-1) ts=fj (g6 ts (i+1)) (ts.drop (i+1)):=by
 rw [h,tO _ hx,cR hn,gW hx];rfl
theorem kg {a b:List α} {x y:α} (hx:a[i]? =some x) (hy:b[i]? =some y) (h:¬ x=y): ¬ a=b:=by
 rintro rfl;rw [hx] at hy;exact h (m3 hy)
theorem iE {a b:List α} (hl:a.length=b.length) (ht:a.take i=b.take i) (hi:a.length≤i):a=b:=by
 rwa [c5 hi,c5 I] at ht
theorem iP {a b:List α} {x y:α} (ht:a.take i=b.take i) (hx:a[i]? =some x) (hy:b[i]? =some y) (h:x=y):a.take (i+1)=b.take (i+1):=by
 rw [l1,l1,ht,hx,hy,h]
theorem uU: ∀ {ts:List ag} {last:Int},fj last ts=true→ ∀ x∈ts,bW x
 |[],_,_,x,hx=>by cases hx
 |y::ts,last,h,x,hx=>by
  simp only [fj,dq,r0] at h;rcases bI.1 hx with rfl|hx
  ·exact h.1.2
  ·exact uU h.2 x hx
theorem jF {ts:List ag} (h:cD ts=true): ∀ x∈ts,bW x:=by
 simp only [cD,dq] at h;exact uU h.2
theorem ky {ts:List ag} (h:cD ts=true):ts.length≤12:=by
 simp only [cD,dq,r0] at h;omega
theorem FZ {ts:List ag} (h:cD ts=true):1≤ts.length:=by
 simp only [cD,dq,r0] at h;omega
end
section
open Go.RowKit
def QP (m:Array Nat) (ops:Array Oper) (free T:List Nat):Bool:=
 (free.all (blt · ops.size))&&(T.all (blt · ops.size))&&((range ops.size).all fun i=>free.contains i||T.contains i)&&(T.all fun i=> !free.contains i)&&
 ((range ops.size).all fun i=>match ops[i]? with
  |none=>false
  |some o=>uk o&&o.after.toList.all fun e=> !Region.binds .any e||blt e.on i)&&
 ((range free.length).all fun p=>match (free[p]?).bind fun i=>(ops[i]?).map fun o=>(i,o) with
  |none=>false
  |some (i,o)=>o.dst.isSome&&
   ((range free.length).all fun q=>q==p||match (free[q]?).bind fun j=>(ops[j]?).map fun o=>(j,o) with
    |none=>false
    |some (j,r)=>match r.dst with
     |none=>false
     |some d=>o.dst != some d&&(!(o.looksAt ops).contains d||(if q<p then jA m j i else jA m i j)))&&
   (T.all fun j=>match ops[j]? with
    |none=>false
    |some r=>r.dst != o.dst&&(match r.dst with |none=>true|some d=> !(o.looksAt ops).contains d||jA m i j)&&(match o.dst with |none=>true|some d=> !(r.looksAt ops).contains d||jA m i j)))&&
 ((range T.length).all fun p=>(range p).all fun q=>match T[p]?,T[q]? with
  |some i,some j=>i != j
  |_,_=>false)
def QR (m:Array Nat) (ops:Array Oper) (free T:List Nat) (fe:List Bool) (tb:List Nat):Bool:=
 QP m ops free T&&(T.all fun j=>tb.contains j||(range free.length).all fun p=> !(fe[p]?).getD false||match free[p]? with
  |some i=>jA m i j
  |_=>false)
def Qz (ops:Array Oper) (free T:List Nat) (fe:List Bool) (tb:List Nat):Bool:=QR (sO ops) ops free T fe tb
def Vf (ops:Array Oper) (free T:List Nat):Bool:=QP (sO ops) ops free T
theorem Nq (h:Qz ops free T fe tb=true):Vf ops free T=true∧ ∀ (p i j:Nat),free[p]? =some i→j∈T→(fe[p]?).getD false=true→tb.contains j=true∨jA (sO ops) i j=true:=by
 simp only [Qz,QR,dq] at h;refine ⟨h.1,fun p i j hp hj hf=>?_⟩;have B:=h.2;rw [dg] at B;have A:=B j hj;rw [ABE] at A;rcases A with A|A
 ·exact .inl A
 ·rw [dg] at A;have C:=A p (by simpa using (aT.1 hp).1);simp only [hp,hf,Bool.not_true,Bool.false_or] at C;exact .inr C
structure Wx (ops:Array Oper) (free T:List Nat):Prop where
 fl: ∀ i∈free,i<ops.size
 tl: ∀ i∈T,i<ops.size
 cover: ∀ i,i<ops.size→i∈free∨i∈T
 M9: ∀ i∈T,i ∉ free
 plain: ∀ (i:Nat) (o:Oper),ops[i]? =some o→(∀ cs b,o.op≠ .select cs b)∧(∀ c,o.op≠ .defer c)
 EU: ∀ (i:Nat) (o:Oper) (e:Edge),ops[i]? =some o→e∈o.after→Region.binds .any e=true→e.on<i
 apart: ∀ (p q i j:Nat) (o r:Oper) (d:Nat),free[p]? =some i→free[q]? =some j→q≠p→ops[i]? =some o→ops[j]? =some r→r.dst=some d→o.dst≠some d∧(d∈o.looksAt ops→(q<p∧jA (sO ops) j i=true)∨(p<q∧jA (sO ops) i j=true))
 ft: ∀ (i j:Nat) (o r:Oper),i∈free→j∈T→ops[i]? =some o→ops[j]? =some r→r.dst≠o.dst∧(∀ d,r.dst=some d→d∈o.looksAt ops→jA (sO ops) i j=true)∧(∀ d,o.dst=some d→d∈r.looksAt ops→jA (sO ops) i j=true)
 nodup:T.Nodup
theorem Wx.of (h:Vf ops free T=true):Wx ops free T:=by
 simp only [Vf,QP,dq] at h;obtain ⟨⟨⟨⟨⟨⟨H,AA⟩,J⟩,K⟩,C⟩,D⟩,L⟩:=h;rw [dg] at H AA J K C D L;have E: ∀ i∈free,i<ops.size:=fun i hi=>by have:=H i hi;rwa [u7] at this
 have G: ∀ i∈T,i<ops.size:=fun i hi=>by have:=AA i hi;rwa [u7] at this
 refine ⟨E,G,fun i hi=>?_,fun i hi=>?_,fun i o ho=>?_,fun i o e ho he hb=>?_,?_,?_,?_⟩
 ·have:=J i (by simpa using hi);simpa using this
 ·have:=K i hi;simpa using this
 ·have hi:i<ops.size:=(n5.1 ho).1;have:=C i (by simpa using hi);simp only [ho,dq] at this;have:=this.1;refine ⟨fun cs b hh=>?_,fun c hh=>?_⟩<;>simp [uk,hh] at this
 ·have hi:i<ops.size:=(n5.1 ho).1;have:=C i (by simpa using hi);simp only [ho,dq] at this;have:=this.2;rw [dg] at this;have:=this e (by simpa using he);rw [hb] at this;simpa using this
 ·intro p q i j o r d hp hq F ho hr hd;have:=D p (by simpa using (aT.1 hp).1);simp only [hp,ho,r7,AAA,dq] at this;have:=this.1.2;rw [dg] at this;have:=this q (by simpa using (aT.1 hq).1);simp only [hq,hr,hd,r7,AAA,ABE,dq,ACc,AAM,AB4] at this;rcases this with h|⟨M,B⟩
  ·exact absurd h F
  ·refine ⟨M,fun hm=>?_⟩;rcases B with B|B
   ·simp [hm] at B
   ·by_cases A:q<p
    ·rw [c0 A] at B;exact .inl ⟨A,B⟩
    ·rw [c1 A] at B;exact .inr ⟨I,B⟩
 ·intro i j o r hi hj ho hr;obtain ⟨p,hp⟩:=r5.1 hi;have:=D p (by simpa using (aT.1 hp).1);simp only [hp,ho,r7,AAA,dq] at this;have:=this.2;rw [dg] at this;have:=this j hj;simp only [hr,dq,AAM,AB4] at this;refine ⟨this.1.1,fun d hd hm=>?_,fun d hd hm=>?_⟩
  ·have:=this.1.2;simp [hd,hm] at this;exact this
  ·have:=this.2;simp [hd,hm] at this;exact this
 ·rw [s5,eW];intro q p hq hp A;have:=L p (by simpa using hp);rw [dg] at this;have:=this q (by simpa using A);simp only [fh hp,fh hq,AAM,AB4] at this;exact fun e=>this e.symm
/-- the others, in whatever order the edges leave open; the part C' of the state stands throughout, the part C1 where the list tb says -/
def TN (E:fJ) (ops:Array Oper) (D:iF) (C' C1:List au) (F:dJ→List au→Prop) (tb:List Nat):Nat→List Nat→dJ→List au→Prop
 |0,_,L,C=>F L C
 |n+1,rem,L,C=> ∀ i∈rem.filter (fun i=>rem.all fun j=> !jA (sO ops) j i),∀ o,ops[i]? =some o→ ∀ K:Act→World→Prop,(∀ L' C'',(∀ w,St E.S E.w0 C'' w→St E.S E.w0 C' w)→(tb.contains i=true→ ∀ w,St E.S E.w0 C'' w→St E.S E.w0 C1 w)→TN E ops D C' C1 F tb n (rem.filter (· != i)) L' C''→KJ E K D L' C'')→RJ E ops (NQ K) [o] D L C
theorem mj (hm:E.P.follows .mixedOrders=true) (free T:List Nat) (fe:List Bool) (tb:List Nat) (C' C1:List au) (hc:Qz ops free T fe tb=true) (hC:∀ w,St E.S E.w0 C w→St E.S E.w0 C' w) (hC1:∀ w,St E.S E.w0 C w→St E.S E.w0 C1 w) (h:uN E ops D C' C1 (fun L'=>TN E ops D C' C1 (fun L C=>KJ E (Q .normal) D L C) tb T.length T L' C) fe (fy ops free) L):WJ E (.region id ops true) Q D L C:=by
 obtain ⟨hc,Fd⟩:=Nq hc;have hc:=Wx.of hc;intro a0 w0 z GT;refine wpIn_region_any hm ?_;have Go:St E.S E.w0 C ({w0 with drawn:=w0.drawn+1}:World):=GT.same (ed.drew no w0);obtain ⟨vs,IO,hF,l⟩:=uN.out _ _ _ h;have B3:=rU hc.fl;have A3: ∀ (p i:Nat) (o:Oper),free[p]? =some i→ops[i]? =some o→(fy ops free)[p]? =some o:=fun p i o hp ho=>by rw [o4 hc.fl,hp];exact ho
 have A2: ∀ (p:Nat) (o:Oper),(fy ops free)[p]? =some o→ ∃ i,free[p]? =some i∧ops[i]? =some o:=fun p o h=>by
  rw [o4 hc.fl] at h;cases hp:free[p]? with
  |none=>simp [hp] at h
  |some i=>exact ⟨i,rfl,by simpa [hp] using h⟩
 have Bt: ∀ (j:Nat) (o:Oper) (d:Nat),(fy ops free)[j]? =some o→o.dst=some d→d<E.n:=fun j o d ho hd=>by
  obtain ⟨d',v,h1,h2,_⟩:=l j o ho;rw [h1] at hd;cases hd;exact h2
 -- all is listed
 have done: ∀ (listed:Array Bool) (a:Act) (w:World) (rem:List Nat) (Lk:dJ) (Ck:List au) (af:Act),(∀ i,i<ops.size→listed.getD i false=true)→
  (∀ i∈T,(listed.getD i false=true↔i ∉ rem))→(∀ i∈rem,i∈T)→rem.Nodup→a.defers=D→a.tmps.size=E.n→
  TN E ops D C' C1 (fun L C=>KJ E (Q .normal) D L C) tb rem.length rem Lk Ck→Fr E.n D Lk af→St E.S E.w0 Ck w→
  (∀ t,(∀ (p i:Nat) (o:Oper),free[p]? =some i→ops[i]? =some o→o.dst≠some t)→af.tmps[t]? =a.tmps[t]?)→
  (∀ (p i:Nat) (o:Oper) (d:Nat),free[p]? =some i→ops[i]? =some o→o.dst=some d→af.tmps[d]? =vs[p]? ∧(listed.getD i false=true→a.tmps[d]? =vs[p]?))→Q .normal a w:=by
  intro listed a w rem Lk Ck af C2 M O f hd hz hT K R G B;have hk:rem=[]:=by
   rw [AAW];intro i hi;exact (M i (O i hi)).1 (C2 i (hc.tl i (O i hi))) hi
  subst hk;have hT:KJ E (Q .normal) D Lk Ck:=hT;refine hT a w ⟨hd,hz,fun t v hv=>?_⟩ R;rw [← K.at_ t v hv];by_cases hw: ∃ (p i:Nat) (o:Oper),free[p]? =some i∧ops[i]? =some o∧o.dst=some t
  ·obtain ⟨p,i,o,hp,ho,A1⟩:=hw;obtain ⟨e1,y⟩:=B p i o t hp ho A1;rw [e1,y (C2 i (hc.fl i (aF hp)))]
  ·exact (G t (fun p i o hp ho A1=>hw ⟨p,i,o,hp,ho,A1⟩)).symm
 have key: ∀ (fuel:Nat) (listed:Array Bool) (a:Act) (w:World) (rem:List Nat) (Lk:dJ) (Ck:List au) (af:Act),listed.size=ops.size→(Gv ops.size listed).length≤fuel→(∀ j,listed.getD j false=true→yh ops (fun k=>listed.getD k false=true) j)→
  (∀ i∈T,(listed.getD i false=true↔i ∉ rem))→(∀ i∈rem,i∈T)→rem.Nodup→a.defers=D→a.tmps.size=E.n→
  TN E ops D C' C1 (fun L C=>KJ E (Q .normal) D L C) tb rem.length rem Lk Ck→Fr E.n D Lk af→St E.S E.w0 Ck w→(∀ w,St E.S E.w0 Ck w→St E.S E.w0 C' w)→(∀ (p i:Nat),free[p]? =some i→(fe[p]?).getD false=true→listed.getD i false=false→ ∀ w,St E.S E.w0 Ck w→St E.S E.w0 C1 w)→
  (∀ t,(∀ (p i:Nat) (o:Oper),free[p]? =some i→ops[i]? =some o→o.dst≠some t)→af.tmps[t]? =a.tmps[t]?)→
  (∀ t,(∀ (i:Nat) (o:Oper),listed.getD i false=true→ops[i]? =some o→o.dst≠some t)→a.tmps[t]? =a0.tmps[t]?)→
  (∀ (p i:Nat) (o:Oper) (d:Nat),free[p]? =some i→ops[i]? =some o→o.dst=some d→af.tmps[d]? =vs[p]? ∧(listed.getD i false=true→a.tmps[d]? =vs[p]?))→
  wpAnyIn (Fw E.r) 0 E.P .any ops Q fuel listed a w:=by
  intro fuel
  induction fuel with
  |zero=>
   intro listed a w rem Lk Ck af AC hu A0 M O f hd hz hT K R A6 g G X B;have hall': ∀ i,i<ops.size→listed.getD i false=true:=fun i hi=>by
    cases hg:listed.getD i false with
    |true=>rfl
    |false=>
     have:=AA5 (p7.2 ⟨hi,hg⟩);omega
   refine ⟨?_,done listed a w rem Lk Ck af hall' M O f hd hz hT K R G B⟩;rw [AAW];intro i hi;obtain ⟨h1,h2,_⟩:=od AC hi;rw [hall' i h1] at h2;cases h2
  |succ fuel ih=>
   intro listed a w rem Lk Ck af AC hu A0 M O f hd hz hT K R A6 g G X B;refine ⟨fun Dn=>?_,fun i hi=>?_⟩
   ·refine done listed a w rem Lk Ck af (fun i hi=>?_) M O f hd hz hT K R G B;cases hg:listed.getD i false with
    |true=>rfl
    |false=>
     exfalso;have Fn: ∃ i,i<ops.size∧listed.getD i false=false:=⟨i,hi,hg⟩;obtain ⟨j,hj,A4⟩:=exists_least Fn;have hr:j∈Region.ready .any ops listed:=vY AC hj.1 hj.2 (fun o e ho he hb=>by
      have h1:=hc.EU j o e ho he hb;cases hg:listed.getD e.on false with
      |true=>exact hg
      |false=>exact absurd (A4 e.on ⟨I,hg⟩) I)
     rw [Dn] at hr;cases hr
   ·obtain ⟨B7,W,DR⟩:=od AC hi;obtain ⟨o,ho⟩: ∃ o,ops[i]? =some o:=⟨ops[i],AAN B7⟩;obtain ⟨Bv,BP⟩:=hc.plain i o ho;have F: ∀ j,(listed.setIfInBounds i true).getD j false=if j=i then true else listed.getD j false:=fun j=>tG I false
    have H1:=C_ (n:=ops.size) (i:=i) (listed:=listed) I (p7.2 ⟨B7,W⟩);have hcl': ∀ j,(listed.setIfInBounds i true).getD j false=true→yh ops (fun k=>(listed.setIfInBounds i true).getD k false=true) j:=by
     intro j hj o' e ho' he hb;show (listed.setIfInBounds i true).getD e.on false=true
     rw [F] at hj ⊢;by_cases e1:e.on=i
     ·simp [e1]
     ·simp only [e1,AA0];by_cases y:j=i
      ·subst y;exact DR o' e ho' he hb
      ·simp only [y,AA0] at hj;exact A0 j hj o' e ho' he hb
    have s: ∀ j,jA (sO ops) j i=true→listed.getD j false=true:=fun j hj=>kl (S:=fun k=>listed.getD k false=true) A0 hj DR;have A5: ∀ j,jA (sO ops) i j=true→listed.getD j false=false:=fun j hj=>by
     cases hg:listed.getD j false with
     |false=>rfl
     |true=>
      have:=kl (S:=fun k=>listed.getD k false=true) A0 hj (A0 j hg);rw [this] at W;cases W
    unfold wpOpIn;simp only [ho];rcases hc.cover i B7 with N|N
    ·-- a free one
     obtain ⟨p,hp⟩:=r5.1 N;obtain ⟨d,v,H,C3,G4,G3⟩:=l p o (A3 p i o hp ho);have DA:=mW (fy ops free) vs p L a0 Bt z;have Z: ∀ t∈o.looksAt ops,a.tmps[t]? =(ng (fy ops free) vs p a0).tmps[t]? :=by
      intro t A8;by_cases hw: ∃ (q j:Nat) (r:Oper),free[q]? =some j∧q≠p∧ops[j]? =some r∧r.dst=some t
      ·obtain ⟨q,j,r,hq,AB,hr,A⟩:=hw;obtain ⟨d',v',e1,y,e3,_⟩:=l q r (A3 q j r hq hr);rw [A] at e1;cases e1;have FS:=hc.apart p q i j o r t hp hq AB ho hr A;rcases FS.2 A8 with ⟨c,ha⟩|⟨c,ha⟩
       ·rw [(B q j r t hq hr A).2 (s j ha),e3];refine (mS (fy ops free) vs p a0 q r t v' c (A3 q j r hq hr) A (by rw [z.size];exact y) e3 (fun m u hm hne' hu=>?_)).symm;obtain ⟨x,AA,V⟩:=A2 m u hu;exact (hc.apart m q x j u r t AA hq (ABO hne') V hr A).1
       ·have Di:=A5 j ha;refine (X t (fun m u hm hu J=>?_)).trans (gK (fy ops free) vs p a0 t (fun m u hm hu J=>?_)).symm
        ·rcases hc.cover m (n5.1 hu).1 with Cp|Ci
         ·obtain ⟨x,hx⟩:=r5.1 Cp;by_cases e:x=q
          ·subst e;rw [hq] at hx;cases hx;rw [hm] at Di;cases Di
          ·exact (hc.apart x q m j u r t hx hq (ABO e) hu hr A).1 J
         ·exact (hc.ft j m r u (aF hq) Ci hr hu).1 (by rw [J,A])
        ·obtain ⟨x,AA,V⟩:=A2 m u hu;exact (hc.apart m q x j u r t AA hq I V hr A).1 J
      ·refine (X t (fun m u hm hu J=>?_)).trans (gK (fy ops free) vs p a0 t (fun m u hm hu J=>?_)).symm
       ·rcases hc.cover m (n5.1 hu).1 with Cp|Ci
        ·obtain ⟨x,hx⟩:=r5.1 Cp;by_cases e:x=p
         ·subst e;rw [hp] at hx;cases hx;rw [hm] at W;cases W
         ·exact hw ⟨x,m,u,hx,e,hu,J⟩
        ·have:=A5 m ((hc.ft i m o u N Ci ho hu).2.1 t J A8);rw [hm] at this;cases this
       ·obtain ⟨x,AA,V⟩:=A2 m u hu;exact hw ⟨m,x,u,AA,I,V,J⟩
     have Es: ∀ j∈T,j≠i:=fun j A7 e=>hc.M9 j A7 (e▸N);have GE: ∀ w',ed no w w'→wpAnyIn (Fw E.r) 0 E.P .any ops Q fuel (listed.setIfInBounds i true) (a.put (some d) v) w':=by
      intro w' hk;refine ih _ _ w' rem Lk Ck af (by simpa using AC) I hcl' (fun j A7=>?_) O f hd (by simp [Act.put,hz]) hT K (R.same hk) A6 (fun p' i' hp' hf' hl'=>g p' i' hp' hf' (by rw [F] at hl';by_cases e:i'=i;(rw [c0 e] at hl';cases hl');(rwa [c1 e] at hl'))) (fun t ht=>?_) (fun t ht=>?_) (fun q j r d' hq hr A=>?_)
      ·rw [F,c1 (Es j A7)];exact M j A7
      ·have AB:d≠t:=fun e=>ht p i o hp ho (by rw [H,e]);simp only [Act.put];rw [e5 AB];exact G t ht
      ·have AB:d≠t:=fun e=>ht i o (by rw [F];simp) ho (by rw [H,e]);simp only [Act.put];rw [e5 AB];exact X t (fun m u hm hu=>ht m u (by rw [F];split<;>simp [hm]) hu)
      ·refine ⟨(B q j r d' hq hr A).1,fun hl=>?_⟩;by_cases e:q=p
       ·subst e;rw [hp] at hq;cases hq;rw [ho] at hr;cases hr;rw [H] at A;cases A;simp only [Act.put];rw [c8 (by rw [hz];exact C3),G4]
       ·have AB:=(hc.apart p q i j o r d' hp hq e ho hr A).1;simp only [Act.put];rw [e5 (fun h=>AB (by rw [H,h]))];refine (B q j r d' hq hr A).2 ?_;rw [F] at hl;by_cases y:j=i
        ·subst y;exact absurd (by rw [ho] at hr;cases hr;rw [H] at A ⊢;exact A) AB
        ·simpa [y] using hl
     refine v9 G3 H C3 Bv BP DA Z ?_ GE;cases B3:(fe[p]?).getD false with
     |true=>exact g p i hp B3 W w R
     |false=>exact A6 w R
    ·-- one of the others
     have B9:i∈rem:=by
      rcases Classical.em (i∈rem) with h|h
      ·exact h
      ·have:=(M i N).2 h;rw [this] at W;cases W
     have A4:i∈rem.filter (fun i=>rem.all fun j=> !jA (sO ops) j i):=by
      rw [n3];refine ⟨B9,dg.2 fun j hj=>?_⟩;cases hab:jA (sO ops) j i with
      |false=>rfl
      |true=>exact absurd hj ((M j (O j hj)).1 (s j hab))
     obtain ⟨nr,Do⟩: ∃ nr,rem.length=nr+1:=⟨rem.length-1,by have:=AA5 B9;omega⟩;have hnr':(rem.filter (· != i)).length=nr:=by
      have:=f.erase_eq_filter i;rw [← this,ABd B9,Do];rfl
     rw [Do] at hT;have hT:=hT i A4 o ho;have Z: ∀ t∈o.looksAt ops,a.tmps[t]? =af.tmps[t]? :=by
      intro t A8;by_cases hw: ∃ (q j:Nat) (r:Oper),free[q]? =some j∧ops[j]? =some r∧r.dst=some t
      ·obtain ⟨q,j,r,hq,hr,A⟩:=hw;have ha:=(hc.ft j i r o (aF hq) N hr ho).2.2 t A A8;obtain ⟨e1,y⟩:=B q j r t hq hr A;rw [e1,y (s j ha)]
      ·exact (G t (fun q j r hq hr A=>hw ⟨q,j,r,hq,hr,A⟩)).symm
     refine Jn Bv BP Z (hT (fun af' w'=>af'.defers=D∧ ∃ L' C'',(∀ w,St E.S E.w0 C'' w→St E.S E.w0 C' w)∧(tb.contains i=true→ ∀ w,St E.S E.w0 C'' w→St E.S E.w0 C1 w)∧TN E ops D C' C1 (fun L C=>KJ E (Q .normal) D L C) tb nr (rem.filter (· != i)) L' C''∧Fr E.n D L' af'∧St E.S E.w0 C'' w')
      (fun L' C'' h1 h1' h2 af' w' h3 h4=>⟨h3.defers,L',C'',h1,h1',h2,h3,h4⟩) af w K R) (fun b w' hb=>hb.1.trans K.defers.symm) ?_
     rintro u w' ⟨_,L',C'',h1,h1',h2,h3,h4⟩;have Y: ∀ (b:Act) (t:Nat),o.dst≠some t→(b.put o.dst u).tmps[t]? =b.tmps[t]? :=fun b t AB=>by
      cases H:o.dst with
      |none=>rfl
      |some d=>simp only [Act.put];rw [e5 (fun e=>AB (by rw [H,e]))]
     have Cx: ∀ (b:Act),(b.put o.dst u).tmps.size=b.tmps.size:=fun b=>by cases o.dst<;>simp [Act.put]
     refine ih _ _ w' (rem.filter (· != i)) L' C'' (af.put o.dst u) (by simpa using AC) I hcl' (fun j hq=>?_) (fun j hj=>O j (n3.1 hj).1) (f.filter _) (by cases o.dst<;>exact hd) (by rw [Cx];exact hz) (by rw [hnr'];exact h2) h3 h4 h1 (fun p' i' hp' hf' hl'=>by
      rcases Fd p' i' i hp' N hf' with h5|h5
      ·exact h1' h5
      ·have h6:=s i' h5;rw [F] at hl';by_cases e:i'=i
       ·rw [c0 e] at hl';cases hl'
       ·rw [c1 e,h6] at hl';cases hl') (fun t ht=>?_) (fun t ht=>?_) (fun q j r d' hq hr A=>?_)
     ·rw [F];by_cases e:j=i
      ·subst e;simp
      ·simp only [e,AA0,n3,AAM,AB4,ACa,ABC];exact M j hq
     ·by_cases H:o.dst=some t
      ·rw [H];simp only [Act.put];by_cases c:t<E.n
       ·rw [c8 (by rw [K.size];exact c),c8 (by rw [hz];exact c)]
       ·rw [ABL (by rw [ABf,K.size];exact ACF c),ABL (by rw [ABf,hz];exact ACF c)]
      ·rw [Y a t H,Y af t H];exact G t ht
     ·rw [Y a t (ht i o (by rw [F];simp) ho)];exact X t (fun m' u' hm'' hu'=>ht m' u' (by rw [F];split<;>simp [hm'']) hu')
     ·have AB:o.dst≠some d':=fun e=>(hc.ft j i r o (aF hq) N hr ho).1 (by rw [e,A]);rw [Y a d' AB,Y af d' AB];refine ⟨(B q j r d' hq hr A).1,fun hl=>(B q j r d' hq hr A).2 ?_⟩;rw [F] at hl;have:j≠i:=fun e=>hc.M9 i N (e▸aF hq);simpa [this] using hl
 refine key ops.size (replicate ops.size false) a0 _ T _ C (ng (fy ops free) vs (fy ops free).length a0) sm ?_ ?_ ?_ (fun _ h=>h) hc.nodup z.defers z.size (by simpa using hF) (mW _ vs _ L a0 Bt z) Go hC (fun _ _ _ _ _=>hC1) ?_ (fun _ _=>rfl) ?_
 ·unfold Gv;exact c6 (u2 _ _) sm
 ·intro j hj;simp only [n6,AAU] at hj;split at hj<;>simp at hj
 ·intro i hi;simp only [n6,AAU];split<;>simp [hi]
 ·intro t ht;refine gK _ vs _ a0 t (fun m u _ hu J=>?_);obtain ⟨x,AA,V⟩:=A2 m u hu;exact ht m x u AA V J
 ·intro p i o d hp ho H;obtain ⟨d',v',e1,y,e3,_⟩:=l p o (A3 p i o hp ho);rw [H] at e1;cases e1;refine ⟨?_,fun hl=>?_⟩
  ·rw [e3];refine mS _ vs _ a0 p o d v' (by rw [B3];exact (aT.1 hp).1) (A3 p i o hp ho) H (by rw [z.size];exact y) e3 (fun m u hm AB hu=>?_);obtain ⟨x,AA,V⟩:=A2 m u hu;exact (hc.apart m p x i u o d AA hp (ABO AB) V ho H).1
  ·simp only [n6,AAU] at hl;split at hl<;>simp at hl
theorem mK (h:F L C):TN E ops D C' C1 F tb 0 rem L C:=h
def F6 (E:fJ) (ops:Array Oper) (D:iF) (C' C1:List au) (F:dJ→List au→Prop) (tb:List Nat) (n:Nat) (rem:List Nat) (i:Nat) (L:dJ) (C:List au):Prop:=
 ∀ o,ops[i]? =some o→ ∀ K:Act→World→Prop,(∀ L' C'',(∀ w,St E.S E.w0 C'' w→St E.S E.w0 C' w)→(tb.contains i=true→ ∀ w,St E.S E.w0 C'' w→St E.S E.w0 C1 w)→TN E ops D C' C1 F tb n rem L' C''→KJ E K D L' C'')→RJ E ops (NQ K) [o] D L C
theorem nJ {n:Nat} (ms:List Nat) (hm:rem.filter (fun i=>rem.all fun j=> !jA (sO ops) j i)=ms) (h:∀ i∈ms,F6 E ops D C' C1 F tb n (rem.filter (· != i)) i L C):TN E ops D C' C1 F tb (n+1) rem L C:=fun i hi=>h i (hm▸hi)
theorem iR {p:Nat→Prop} {l:List Nat} (h:p i) (t:∀ j∈l,p j): ∀ j∈i::l,p j:=fun j hj=>by
 rcases bI.1 hj with rfl|hj
 ·exact h
 ·exact t j hj
theorem rf {p:Nat→Prop}: ∀ j∈([]:List Nat),p j:=fun j hj=>by cases hj
theorem aap {n:Nat} (ho:ops[i]? =some o) (hr:rem=rem') (ht:tb.contains i=false) (h:∀ K:Act→World→Prop,(∀ L' C'',(∀ w,St E.S E.w0 C'' w→St E.S E.w0 C' w)→TN E ops D C' C1 F tb n rem' L' C''→KJ E K D L' C'')→RJ E ops (NQ K) [o] D L C):F6 E ops D C' C1 F tb n rem i L C:=fun o' ho' K hK=>by
 rw [ho] at ho';cases ho';subst hr;exact h K fun L' C'' A B=>hK L' C'' A (fun h=>by rw [ht] at h;cases h) B
theorem yo {n:Nat} (ho:ops[i]? =some o) (hr:rem=rem') (h:∀ K:Act→World→Prop,(∀ L' C'',(∀ w,St E.S E.w0 C'' w→St E.S E.w0 C' w)→(∀ w,St E.S E.w0 C'' w→St E.S E.w0 C1 w)→TN E ops D C' C1 F tb n rem' L' C''→KJ E K D L' C'')→RJ E ops (NQ K) [o] D L C):F6 E ops D C' C1 F tb n rem i L C:=fun o' ho' K hK=>by
 rw [ho] at ho';cases ho';subst hr;exact h K fun L' C'' A h1' B=>hK L' C'' A (fun _=>h1') B
end
section
open Go.RowKit
def UJ (m:Array Nat) (ops:Array Oper) (rem:List Nat):Bool:=
 (range rem.length).all fun p=>match (rem[p]?).bind fun i=>(ops[i]?).map fun o=>(i,o) with
  |none=>false
  |some (i,o)=>o.dst.isSome&&uk o&&
   ((range rem.length).all fun q=>q==p||match (rem[q]?).bind fun j=>(ops[j]?).map fun o=>(j,o) with
    |none=>false
    |some (j,r)=>i != j&&match r.dst with
     |none=>false
     |some d=>o.dst != some d&&(!(o.looksAt ops).contains d||(if q<p then jA m j i else jA m i j)))
def VW (ops:Array Oper) (rem:List Nat):Bool:=UJ (sO ops) ops rem
structure Wm (ops:Array Oper) (rem:List Nat):Prop where
 lt: ∀ i∈rem,i<ops.size
 plain: ∀ (p i:Nat) (o:Oper),rem[p]? =some i→ops[i]? =some o→(∀ cs b,o.op≠ .select cs b)∧(∀ c,o.op≠ .defer c)
 apart: ∀ (p q i j:Nat) (o r:Oper) (d:Nat),rem[p]? =some i→rem[q]? =some j→q≠p→ops[i]? =some o→ops[j]? =some r→r.dst=some d→i≠j∧o.dst≠some d∧(d∈o.looksAt ops→(q<p∧jA (sO ops) j i=true)∨(p<q∧jA (sO ops) i j=true))
theorem Wm.of (h:VW ops rem=true):Wm ops rem:=by
 simp only [VW,UJ] at h;rw [dg] at h;refine ⟨fun i hi=>?_,fun p i o hp ho=>?_,?_⟩
 ·obtain ⟨p,hp⟩:=r5.1 hi;have:=h p (by simpa using (aT.1 hp).1);simp only [hp,r7] at this;cases ho:ops[i]? with
  |none=>simp [ho] at this
  |some o=>exact (n5.1 ho).1
 ·have:=h p (by simpa using (aT.1 hp).1);simp only [hp,ho,r7,AAA,dq] at this;have:=this.1.2;refine ⟨fun cs b hh=>?_,fun c hh=>?_⟩<;>simp [uk,hh] at this
 ·intro p q i j o r d hp hq C ho hr hd;have:=h p (by simpa using (aT.1 hp).1);simp only [hp,ho,r7,AAA,dq] at this;have:=this.2;rw [dg] at this;have:=this q (by simpa using (aT.1 hq).1);simp only [hq,hr,hd,r7,AAA,ABE,dq,ACc,AAM,AB4] at this;rcases this with h|⟨D,E,A⟩
  ·exact absurd h C
  ·refine ⟨D,E,fun hm=>?_⟩;rcases A with A|A
   ·simp [hm] at A
   ·by_cases B:q<p
    ·rw [c0 B] at A;exact .inl ⟨B,A⟩
    ·rw [c1 B] at A;exact .inr ⟨I,A⟩
def aaS (ops:Array Oper) (is:List Nat):List Nat:=is.filterMap fun i=>(ops[i]?).bind (·.dst)
def Dj (L:dJ) (ds:List Nat):dJ:=L.filter fun p=> !ds.any (beq p.1)
theorem wR {ds:List Nat} (h:(Dj L ds).lookup t=some v):L.lookup t=some v∧t ∉ ds:=by
 induction L with
 |nil=>simp [Dj] at h
 |cons p L ih=>
  obtain ⟨u,x⟩:=p;unfold Dj at h ih;rw [List.filter_cons] at h;by_cases e:t=u
  ·subst e;split at h
   ·rename_i hu;simp [lookup] at h ⊢;refine ⟨h,fun hm=>?_⟩;simp only [e0,ACD] at hu;exact hu t hm sm
   ·exfalso;rename_i hu;have:=(ih h).2;simp only [e0,Bool.not_eq_false,AAm] at hu;obtain ⟨d,hd,he⟩:=hu;have:t=d:=AAL he;subst this;exact this hd
  ·have A:(t==u)=false:=by simpa using e
   split at h
   ·simp only [lookup,A] at h ⊢;exact ih h
   ·simp only [lookup,A];exact ih h
/-- what is left yields alone -/
theorem ML {n:Nat} (ds:List Nat) (hc:VW ops rem=true) (hds:aaS ops rem=ds) (hn:rem.length=n) (L0:dJ) (hL:Dj L ds=L0) (htb:(rem.all fun i=> !tb.contains i)=true) (hC:∀ w,St E.S E.w0 C w→St E.S E.w0 C' w) (h:DJ E ops D C (fun L'=>RJ E ops Q [] D L' C) (fy ops rem) L0):TN E ops D C' C1 (fun L C=>KJ E (Q .normal) D L C) tb n rem L C:=by
 have hc:=Wm.of hc;obtain ⟨vs,Bv,hF,H⟩:=DJ.out _ _ h;have A8:=rU hc.lt;have hg: ∀ (p i:Nat) (o:Oper),rem[p]? =some i→ops[i]? =some o→(fy ops rem)[p]? =some o:=fun p i o hp ho=>by rw [o4 hc.lt,hp];exact ho
 have O: ∀ (p:Nat) (o:Oper),(fy ops rem)[p]? =some o→ ∃ i,rem[p]? =some i∧ops[i]? =some o:=fun p o h=>by
  rw [o4 hc.lt] at h;cases hp:rem[p]? with
  |none=>simp [hp] at h
  |some i=>exact ⟨i,rfl,by simpa [hp] using h⟩
 have T: ∀ (j:Nat) (o:Oper) (d:Nat),(fy ops rem)[j]? =some o→o.dst=some d→d<E.n:=fun j o d ho hd=>by
  obtain ⟨d',v,V,h2,_⟩:=H j o ho;rw [V] at hd;cases hd;exact h2
 have hclear: ∀ (t:Nat) (v:Value),L0.lookup t=some v→L.lookup t=some v∧ ∀ (p i:Nat) (o:Oper),rem[p]? =some i→ops[i]? =some o→o.dst≠some t:=fun t v hv=>by
  rw [← hL] at hv;refine ⟨(wR hv).1,fun p i o hp ho hd=>(wR hv).2 ?_⟩;rw [← hds];exact AAD.2 ⟨i,aF hp,by simp [ho,hd]⟩
 have A5:rem.Nodup:=by
  rw [s5,eW];intro q p hq hp b;obtain ⟨o,ho⟩: ∃ o,ops[rem[p]]? =some o:=⟨_,AAN (hc.lt _ (u4 hp))⟩;obtain ⟨r,hr⟩: ∃ r,ops[rem[q]]? =some r:=⟨_,AAN (hc.lt _ (u4 hq))⟩;obtain ⟨d,v,V,_⟩:=H q r (hg q _ r (fh hq) hr);exact (fun e=>(hc.apart p q _ _ o r d (fh hp) (fh hq) I ho hr V).1 e.symm)
 -- the frame that a state of the order has
 have key: ∀ (n:Nat) (rem':List Nat) (L':dJ),rem'.length=n→rem'.Nodup→(∀ i∈rem',i∈rem)→(∀ i j,i∈rem'→j∈rem→j ∉ rem'→jA (sO ops) i j=false)→
  (∀ t,(∀ (p i:Nat) (o:Oper),rem[p]? =some i→ops[i]? =some o→o.dst≠some t)→L'.lookup t=L.lookup t)→
  (∀ (p i:Nat) (o:Oper) (d:Nat),rem[p]? =some i→ops[i]? =some o→o.dst=some d→i ∉ rem'→L'.lookup d=vs[p]?)→
  TN E ops D C' C1 (fun L C=>KJ E (Q .normal) D L C) tb n rem' L' C:=by
  intro n
  induction n with
  |zero=>
   intro rem' L' hl _ M _ J B;have z:rem'=[]:=ABk.1 hl;subst z;intro a w hf hs;have W:Fr E.n D L0 a:=⟨hf.defers,hf.size,fun t v hv=>hf.at_ t v (by rw [J t (hclear t v hv).2];exact (hclear t v hv).1)⟩;have X:=mW (fy ops rem) vs (fy ops rem).length L0 a T W;refine hF a w ⟨hf.defers,hf.size,fun t v hv=>?_⟩ hs;have V:=X.at_ t v hv;rw [← V];by_cases ht: ∀ (p i:Nat) (o:Oper),rem[p]? =some i→ops[i]? =some o→o.dst≠some t
   ·exact (gK _ vs _ a t (fun m u _ hu P=>by obtain ⟨x,F,G⟩:=O m u hu;exact ht m x u F G P)).symm
   ·have: ∃ (p i:Nat) (o:Oper),rem[p]? =some i∧ops[i]? =some o∧o.dst=some t:=by
     refine AAn fun hh=>ht fun p i o hp ho hd=>hh ⟨p,i,o,hp,ho,hd⟩
    obtain ⟨p,i,o,hp,ho,hd⟩:=this;obtain ⟨d',v',f,e2,g,_⟩:=H p o (hg p i o hp ho);rw [hd] at f;cases f;rw [hf.at_ t v' (by rw [B p i o t hp ho hd sm,g])];refine (mS _ vs _ a p o t v' (by rw [A8];exact (aT.1 hp).1) (hg p i o hp ho) hd (by rw [hf.size];exact e2) g (fun m u hm AB hu=>?_)).symm;obtain ⟨x,F,G⟩:=O m u hu;exact (hc.apart m p x i u o t F hp (ABO AB) G ho hd).2.1
  |succ n ih=>
   intro rem' L' hl hnd' M A3 J B i hi o ho K hK a w hf hs;rw [n3,dg] at hi;obtain ⟨Y,AA⟩:=hi;obtain ⟨p,hp⟩:=r5.1 (M i Y);obtain ⟨d,v,R,l,BP,A9⟩:=H p o (hg p i o hp ho);obtain ⟨AC,k⟩:=hc.plain p i o hp ho;have W:Fr E.n D L0 a:=⟨hf.defers,hf.size,fun t v hv=>hf.at_ t v (by rw [J t (hclear t v hv).2];exact (hclear t v hv).1)⟩;have s:=mW (fy ops rem) vs p L0 a T W;have Z: ∀ t∈o.looksAt ops,a.tmps[t]? =(ng (fy ops rem) vs p a).tmps[t]? :=by
    intro t BD;by_cases hw: ∃ (q j:Nat) (r:Oper),rem[q]? =some j∧q≠p∧ops[j]? =some r∧r.dst=some t
    ·obtain ⟨q,j,r,hq,AB,hr,A⟩:=hw;obtain ⟨d',v',f,e2,g,_⟩:=H q r (hg q j r hq hr);rw [A] at f;cases f;have A2:=hc.apart p q i j o r t hp hq AB ho hr A;rcases A2.2.2 BD with ⟨b,ha⟩|⟨b,ha⟩
     ·have hj:j ∉ rem':=fun hj=>by have:=AA j hj;rw [ha] at this;cases this
      rw [hf.at_ t v' (by rw [B q j r t hq hr A hj,g])];refine (mS (fy ops rem) vs p a q r t v' b (hg q j r hq hr) A (by rw [hf.size];exact e2) g (fun m u hm hne' hu=>?_)).symm;obtain ⟨x,F,G⟩:=O m u hu;exact (hc.apart m q x j u r t F hq (ABO hne') G hr A).2.1
     ·refine (gK (fy ops rem) vs p a t (fun m u hm hu P=>?_)).symm;obtain ⟨x,F,G⟩:=O m u hu;exact (hc.apart m q x j u r t F hq I G hr A).2.1 P
    ·refine (gK (fy ops rem) vs p a t (fun m u hm hu P=>?_)).symm;obtain ⟨x,F,G⟩:=O m u hu;exact hw ⟨m,x,u,F,I,G,P⟩
   have AO:rem'.filter (· != i)=rem'.erase i:=(hnd'.erase_eq_filter i).symm;have c:TN E ops D C' C1 (fun L C=>KJ E (Q .normal) D L C) tb n (rem'.filter (· != i)) ((d,v)::L') C:=by
    refine ih _ _ (by rw [AO,ABd Y,hl];rfl) (hnd'.filter _) (fun j hj=>M j (n3.1 hj).1) (fun x y hx hy A7=>?_) (fun t ht=>?_) (fun q j r d' hq hr A hj=>?_)
    ·have hx':=(n3.1 hx).1;by_cases e:y=i
     ·subst e;have:=AA x hx';simpa using this
     ·exact A3 x y hx' hy fun hh=>A7 (n3.2 ⟨hh,by simpa using e⟩)
    ·have AB:(t==d)=false:=by simpa using fun e=>ht p i o hp ho (by rw [R,e])
     simp only [lookup,AB];exact J t ht
    ·by_cases e:q=p
     ·subst e;rw [hp] at hq;cases hq;rw [ho] at hr;cases hr;rw [R] at A;cases A;simp [lookup,BP]
     ·have h9:=hc.apart p q i j o r d' hp hq e ho hr A;have AB:(d'==d)=false:=by simpa using fun e=>h9.2.1 (by rw [R,e])
      simp only [lookup,AB];refine B q j r d' hq hr A fun hh=>hj (n3.2 ⟨hh,by simpa using fun e=>h9.1 e.symm⟩)
   have Ap:tb.contains i=false:=by
    have:=(dg.1 htb) i (M i Y);simpa using this
   have A4:=fun w' (hk:ed no w w')=>hK ((d,v)::L') C hC (fun hh=>by rw [Ap] at hh;cases hh) c (a.put (some d) v) w' (hf.put l v) (hs.same hk);have:=v9 A9 R l AC k s Z (w:=w) hs (N:=K) (Q:=NQ K) A4;unfold uJ;by_cases hw:Region.wanted o (yielded ops a.tmps)=true
   ·rw [c0 hw] at this ⊢;refine oP this (fun a' w' hh=>hh) (fun _ _ _ hF=>hF)
   ·rw [c1 hw] at this ⊢;exact this.2
 refine key n rem L hn A5 (fun _ h=>h) (fun i j _ V h2=>absurd V h2) (fun _ _=>rfl) (fun p i o d hp ho hd A6=>absurd (aF hp) A6)
end
section
open Go.RowKit
theorem St.imp (i:Nat) (h:St S w0 C w) (hC:C[i]? =some A) (hh:∀ w,A.holds w→B.holds w) (hf:∀ b,B.fP b→A.fP b) (hw:∀ b,B.wf b→A.wf b):St S w0 (C.set i B) w:=
 h.mv i hC ⟨hh w (h.holds A (aF hC)),ed.refl _ _,fun b hb=> .inl (hw b hb),fun b hb=> .inl (hf b hb)⟩
theorem OS (i:Nat) (hC:C[i]? =some A) (hh:(∀ w,A.holds w→B.holds w)∧(∀ b,B.fP b→A.fP b)∧ ∀ b,B.wf b→A.wf b) (hC':C.set i B=C') (h:KJ E K D L C'):KJ E K D L C:=fun a w hf hs=>
 h a w hf (hC'▸hs.imp i hC hh.1 hh.2.1 hh.2.2)
structure IE (P:Program) (f:FuncId) (args:List Value) (Cp:List au) (A:au) {α:Type} (V:α→Value) (p:α→Prop) (A':α→au):Prop where
 go:sN P f=true
 run: ∀ w,A.holds w→(∀ B∈Cp,B.holds w)→(∀ B∈Cp,Gu A B.ro)→Calls P f args.toArray w fun e w'=> ∃ x,e= .returned (V x)∧p x∧Mv A (A' x) w w'
def Te (w0:World) (A:au) {α:Type} (V:α→Value) (p:α→Prop) (A':α→au) (e:Ending) (w':World):Prop:= ∃ x,e= .returned (V x)∧p x∧Mv A (A' x) w0 w'
theorem Yt {V:α→Value} {p:α→Prop} {A':α→au} (x:α) (i:Nat) (hV:v=V x) (hp:p x) (hC:C[i]? =some (A' x)) (hw:(A' x).wr=true) (hs:St ⟨A.wf,fun _=>True⟩ w0 C w):Te w0 A V p A' (.returned v) w:=
 ⟨x,by rw [hV],hp,hs.holds _ (aF hC),hs.keeps,fun b hb=>(hs.own _ (aF hC) b hb).symm,fun b hb=>by
  rcases hs.own _ (aF hC) b ((A' x).whole hw b hb) with h|h
  ·exact .inr h
  ·exact .inl (A.l7 b h)⟩
theorem qq {V:α→Value} {p:α→Prop} {A':α→au} (hgo:sN P f=true) (hf:P.funcs[f]? =some fn) (hb:fn.body=some c) (hn:ble args.length fn.ntmps=true) (h:∀ (w0:World) (Q:du),(∀ D L C,LJ ⟨P,none,fn.ntmps,⟨A.wf,fun _=>True⟩,w0⟩ fn (Te w0 A V p A') D L C→KJ ⟨P,none,fn.ntmps,⟨A.wf,fun _=>True⟩,w0⟩ (Q .ret) D L C)→
  (∀ D L C,LJ ⟨P,none,fn.ntmps,⟨A.wf,fun _=>True⟩,w0⟩ fn (Te w0 A V p A') D L C→KJ ⟨P,none,fn.ntmps,⟨A.wf,fun _=>True⟩,w0⟩ (Q .normal) D L C)→
  WJ ⟨P,none,fn.ntmps,⟨A.wf,fun _=>True⟩,w0⟩ c Q [] (Ul args) (A::Cp.map au.ro)):IE P f args Cp A V p A':=by
 refine ⟨hgo,fun w hA F E=>?_⟩;refine De hf hb hn (h w) ?_;have G:=tj F;refine ⟨ed.refl _ _,fun B hB=>?_,List.Pairwise.cons (fun B hB=>?_) G.sep,fun B hB b hb=>?_,fun _ _ _ _=> .inr trivial⟩
 ·rcases bI.1 hB with rfl|hB
  ·exact hA
  ·exact G.holds B hB
 ·obtain ⟨B',hB',rfl⟩:=cu.1 hB;exact E B' hB'
 ·rcases bI.1 hB with rfl|hB
  ·exact .inr hb
  ·obtain ⟨B',hB',rfl⟩:=cu.1 hB;exact hb.elim
/-- each of Cp is read from something of C that is not its i-th -/
def C7 (C:List au) (i:Nat) (Cp:List au):Prop:= ∀ B∈Cp,∃ j X,j≠i∧C[j]? =some X∧Pf X B
theorem mu:C7 C i []:=fun B hB=>by cases hB
theorem ek {X:au} (j:Nat) (hj:beq j i=false) (hC:C[j]? =some X) (h:Pf X B) (t:C7 C i Cp):C7 C i (B::Cp):=fun B' hB=>by
 rcases bI.1 hB with rfl|hB
 ·exact ⟨j,X,fun e=>by subst e;simp at hj,hC,h⟩
 ·exact t B' hB
section
variable {E:fJ} {ops:Array Oper} {Q:du} {rest:List Oper} {D:List Deferred} {L:List (Nat×Value)} {C:List au}
variable {dst:Option Tmp} {d:Nat} {ty:TypeId} {ps:String} {af:Array Edge} {g:Option (Nat×Bool)}
theorem kp {V:α→Value} {p:α→Prop} {A':α→au} (i:Nat) (hg:kz ops L g=true) (hf:ev L fop=some (.func (.func f) fi ca)) (hx:evs L xs.toList=some vs) (ha:fi.toList++vs++ca.toList=args) (c:IE E.P f args Cp A V p A') (hC:C[i]? =some A) (hCp:C7 C i Cp) (hd:blt d E.n=true) (k:∀ x,p x→RJ E ops Q rest D ((d,V x)::L) (C.set i (A' x))):
 RJ E ops Q (⟨some d,.call {callee:= .value fop,args:=xs,argTypes:=ts},ty,ps,af,g⟩::rest) D L C:=by
 intro a w F hs;have hd':d<E.n:=by rw [← u7];exact hd
 unfold uJ;rw [c0 (eH F hg)];refine ⟨fun _ _=>trivial,?_⟩;rw [AA7 _ _ _ sm,Ae F c.go hf hx ha];have AA:=aF hC;refine ⟨fun h=>by simp at h,(rj E.r (c.run w (hs.holds A AA) (fun B hB=>?_) (fun B hB b hb hb'=>?_))).mono fun e w' he=>?_⟩
 ·obtain ⟨j,X,_,hX,hc⟩:=hCp B hB;exact hc.holds w (hs.holds X (aF hX))
 ·obtain ⟨j,X,J,hX,hc⟩:=hCp B hB;have H:=hc.fP b hb';have hj:=(aT.1 hX).1;have hi:=(aT.1 hC).1;have K:=(aT.1 hX).2;have M:=(aT.1 hC).2;refine ⟨?_,fun h=>h⟩;rcases ABM J with G|G
  ·have:=eW.1 hs.sep j i hj hi G;rw [K,M] at this;exact (this b H hb).2
  ·have:=eW.1 hs.sep i j hi hj G;rw [K,M] at this;exact (this b hb H).1
 ·obtain ⟨x,rfl,hp,hm⟩:=he;exact k x hp _ _ (F.put hd' _) (hs.mv i hC hm)
theorem EI {sz o l:Nat} {vs el:List Value} (hl:vs.length=l) (ho:o+l≤sz): ∀ (es:List (List Value)) (k:Nat),(∀ x∈es,x.length=sz)→es[k]? =some el→
 es.flatten.take (k*sz+o)++vs++es.flatten.drop (k*sz+o+l)=(es.set k (el.take o++vs++el.drop (o+l))).flatten
 |[],k,_,h=>by simp at h
 |x::es,0,hx,h=>by
  simp at h;subst h;have A:x.length=sz:=hx x sm;simp only [m9,ACZ,zero_mul,AAk];rw [List.take_append_of_le_length I,List.drop_append_of_le_length I];simp [List.append_assoc]
 |x::es,k+1,hx,h=>by
  have A:x.length=sz:=hx x sm;have ih:=EI hl ho es k (fun y hy=>hx y (by simp [hy])) (by simpa using h);simp only [m9,List.set_cons_succ];rw [← ih];have B:(k+1)*sz+o=x.length+(k*sz+o):=by rw [A,AAZ];omega
  have C:(k+1)*sz+o+l=x.length+(k*sz+o+l):=by rw [A,AAZ];omega
  rw [B,List.take_length_add_append,show x.length+(k*sz+o)+l=x.length+(k*sz+o+l) by omega,List.drop_length_add_append];simp [List.append_assoc]
theorem ej {n c o m:Nat} {a:OA} {el:List Value} (i:Nat) (hg:kz ops L g=true) (hx:ev L x=some (.pointer (nD a m))) (hy:ev L y=some v) (ht:(tK E.P t).map (·.2)=some n) (hv:v.cells.toList=vs) (hn:vs.length=n) (h1:vs.all Value.oneCell'=true) (hC:C[i]? =some (own a c e sz es)) (hk:es[k]? =some el) (hm:m=k*sz+o) (ho:o+n≤sz) (hes:es.set k (el.take o++vs++el.drop (o+n))=es') (hC':C.set i (own a c e sz es')=C') (kk:RJ E ops Q rest D L C'):
 RJ E ops Q (⟨none,.store t x y,ty,ps,af,g⟩::rest) D L C:=by
 subst hm hes hC';intro act w A hs;unfold uJ;rw [c0 (eH A hg)];obtain ⟨hl,Y,AB⟩:=hs.holds _ (aF hC);have K:=(aT.1 hk).1;rcases AB with ⟨h2,z⟩|⟨gg,cap,cur,G,J,d,V,f,W,j⟩
 ·omega
 ·injection G with G s R;subst G R;have q:=m7 hl;have r:k*sz+sz≤es.length*sz:=by rw [← AAZ];exact ABw _ K
  have l:es.length*sz≤cur.toList.length:=by simp only [ABH,W];exact ABw _ V
  have N:k*sz+o+n≤cur.toList.length:=by omega
  obtain ⟨w',hr,hb',M⟩:=tp (P:=E.P) (t:=e) vs cur.toList (k*sz+o) 0 w (fun v hv=>dg.1 h1 v hv) (by rw [hn];exact N) (by rw [d]);have F:(sizeOf t).run E.P w= .ok n w:=by
   obtain ⟨bn,H,rfl⟩:=AAQ.1 ht;obtain ⟨bb,nn⟩:=bn;cases bb
   ·exact (vt H w).2
   ·exact (qn H w).2
  have S:v.cells.size=n:=by rw [← hn,← hv];simp
  have O:nD (some (⟨gg,0,none⟩:Addr)) (k*sz+o)=some ⟨gg,k*sz+o,none⟩:=by
   simp only [nD,AAA,kP,AAk]
  refine uI sm (w':=w') ?_ ?_
  ·simp [execOp,A.ev hx,A.ev hy,O,Instr.storeAt,Instr.sureAddr,storeVar,F,S,hv,hr]
  ·refine kk _ _ ⟨A.defers,A.size,A.at_⟩ ?_;have p:el.length=sz:=hl el (aF hk);have B: ∀ y∈es.set k (el.take o++vs++el.drop (o+n)),y.length=sz:=by
    intro y hy';rcases ABB hy' with h|rfl
    ·exact hl y h
    ·simp;omega
   have X:cur.toList.length=c*sz:=by simpa using W
   refine hs.BP (b:=gg) i hC ⟨_,rfl,rfl⟩ rfl M (fun y ⟨ad,T,AA⟩=>by cases T;exact AA) ⟨B,?_⟩;rw [AAG];refine ⟨by rw [m7 B,AAG],.inr ⟨gg,c,_,U,c4 _,hb',V,f,?_,?_⟩⟩
   ·simp only [List.size_toArray,e4,k5,AA9,AB8];omega
   ·rw [AB8,hn];have Z:=EI hn ho es k hl hk;rw [← Z,← j];have u:k*sz+o≤es.length*sz:=by omega
    show ((cur.toList.take (k*sz+o)++vs)++cur.toList.drop (k*sz+o+n)).take (es.length*sz)=_
    have hA:(cur.toList.take (k*sz+o)++vs).length=k*sz+o+n:=by simp only [e4,k5];omega
    rw [List.take_append,c5 I,hA,List.take_take,AB5 u,List.drop_take]
end
end
section
open Go.RowKit
theorem Gs {l:List MapEntry} (h:(l.map (·.born)).Nodup) {x y:MapEntry} (hx:x∈l) (hy:y∈l) (e:x.born=y.born):x=y:=by
 obtain ⟨i,hi⟩:=s3 hx;obtain ⟨j,hj⟩:=s3 hy;have A:(l.map (·.born))[i]? =some x.born:=by rw [gO,hi];rfl
 have B:(l.map (·.born))[j]? =some x.born:=by rw [gO,hj,e];rfl
 have C:=(ACb (aT.1 A).1 h).1 (A.trans B.symm);subst C;exact m3 (hi.symm.trans hj)
section
variable {E:fJ} {ops:Array Oper} {Q:du} {rest:List Oper} {D:List Deferred} {L:List (Nat×Value)} {C:List au}
variable {dst:Option Tmp} {d:Nat} {ty:TypeId} {ps:String} {af:Array Edge} {g:Option (Nat×Bool)}
theorem Lz {z:Array Value} {n:Nat} (hz:z.size=sz):(madeCells z (n*sz)).toList=(List.replicate n z.toList).flatten:=by
 subst hz
 induction n with
 |zero=>simp [madeCells]
 |succ n ih=>
  rw [ABx,AB2,← ih];simp only [m9,List.flatten_nil,AAJ];refine ABF fun i=>?_;have hl:(madeCells z (n*z.size)).toList.length=n*z.size:=by simp [madeCells]
  by_cases C:i<n*z.size
  ·rw [v3 I];have A:i<(n+1)*z.size:=by rw [AAZ];omega
   simp [madeCells,C,A]
  ·rw [k_ I,hl];by_cases A:i<(n+1)*z.size
   ·have B:i-n*z.size<z.size:=by rw [AAZ] at A;omega
    have e:i=(i-n*z.size)+n*z.size:=by omega
    have D:i % z.size=i-n*z.size:=((c7 (· % z.size) e).trans (Nat.add_mul_mod_self_right _ _ _)).trans (Nat.mod_eq_of_lt B);simp [madeCells,A,D,B]
   ·have B:z.toList.length≤i-n*z.size:=by rw [AAZ] at A;simp;omega
    rw [AAo B];simp [madeCells];omega
theorem yv {n:Nat} {xl xc:Operand} {j:Int} (hg:kz ops L g=true) (hl:ev L xl=some (.int .i64 j)) (hc:ev L xc=some (.int .i64 j)) (ht:tA E.P t=some (e,sz,by_,z)) (hj:j=(n:Int)) (hb:by_*n≤281474976710656) (hm:n≤maxLen) (hes:List.replicate n z.cells.toList=es) (hd:blt d E.n=true) (k:∀ b,RJ E ops Q rest D ((d,.slice (some ⟨b,0,none⟩) n n)::L) (own (some ⟨b,0,none⟩) n e sz es::C)):
 RJ E ops Q (⟨some d,.makeSlice t xl xc,ty,ps,af,g⟩::rest) D L C:=by
 subst hj hes;intro a w B hs;have hd':d<E.n:=by rw [← u7];exact hd
 unfold uJ;rw [c0 (eH B hg)];obtain ⟨inf,hu,hi,hz,J,K,G⟩:=Nz ht;subst K;obtain ⟨w',hr,F,hk⟩:=run_make_full (P:=E.P) w 0 t e inf z sz hu hi hz J .i64 .i64 n hb hm (c4 _);refine jr (v:= .slice (some ⟨w.heap.size,0,none⟩) n n) (w':=w') sm ?_ ?_
 ·simp [execOp,B.ev hl,B.ev hc,hr]
 ·refine k _ _ _ (B.put hd' _) (hs.grow (N:=[own (some ⟨w.heap.size,0,none⟩) n e sz (List.replicate n z.cells.toList)]) ⟨hk.os,hk.tape,hk.output,hk.size,fun q hq _=>hk.block q hq sm⟩ ⟨fun A hA=>?_,fun A hA b hb=>?_,AAY _ _⟩)
  ·simp at hA;subst hA;refine ⟨fun x hx=>by rw [List.eq_of_mem_replicate hx];simpa using G,?_⟩;rw [Lz G] at F;simpa using F
  ·simp at hA;subst hA;obtain ⟨ad,H,AA⟩:=hb;cases H;exact ACJ AA.symm
end
end
section
open Go.RowKit
theorem DS {n:Int} (h:0≤n∧n≤18446744073709551615):IntKind.u64.wrap n=n:=by
 have e:IntKind.u64.wrap n=n % 18446744073709551616:=by simp [IntKind.wrap,IntKind.bits,IntKind.signed]
 rw [e];omega
theorem FH {n:Int} (h:0≤n∧n≤255):IntKind.u8.wrap n=n:=by
 have e:IntKind.u8.wrap n=n % 256:=by simp [IntKind.wrap,IntKind.bits,IntKind.signed]
 rw [e];omega
section
variable {E:fJ} {ops:Array Oper} {Q:du} {rest:List Oper} {D:List Deferred} {L:List (Nat×Value)} {C:List au}
variable {d:Nat} {ty:TypeId} {ps:String} {af:Array Edge} {g:Option (Nat×Bool)}
/-- a byte of a string -/
theorem V0 {t:TypeId} {ix:Operand} {s:ByteArray} {q:IntKind} {j:Int} (hg:kz ops L g=true) (hx:ev L x=some (.string s)) (hi:ev L ix=some (.int q j)) (ht:E.P.underlying t=some .string) (hj:j=(k:Int)) (hk:k<s.size) (hd:blt d E.n=true) (kk:∀ b:Int,0≤b∧b≤255→RJ E ops Q rest D ((d,.int .u8 b)::L) C):RJ E ops Q (⟨some d,.index t x ix,ty,ps,af,g⟩::rest) D L C:=by
 subst hj;intro a w A hs;have hd':d<E.n:=by rw [← u7];exact hd
 unfold uJ;rw [c0 (eH A hg)];have hb:s[k]? =some s[k]:=getElem?_pos s k hk;refine jr (v:= .int .u8 (s[k].toNat:Int)) (w':=w) sm ?_ ?_
 ·simp [execOp,A.ev hx,A.ev hi,Instr.index,asIntOf,k3 ht,hb]
 ·refine kk _ ⟨I,?_⟩ _ _ (A.put hd' _) hs;have:=s[k].toNat_lt;omega
end
def U6 (m:List Int) (i:Nat):Prop:= ∀ p r,p<r→r<i→r<m.length→m.getD p 0≤m.getD r 0
/-- sorted up to i, but for the one at j, which is not above those behind it -/
def V_ (m:List Int) (i j:Nat):Prop:=(∀ p r,p<r→r≤i→p≠j→r≠j→m.getD p 0≤m.getD r 0)∧ ∀ r,j<r→r≤i→m.getD j 0≤m.getD r 0
theorem Ke (h:U6 m i) (hi:i<m.length):V_ m i i:=⟨fun p r A B hp hr=>h p r A I I,fun r C D=>by omega⟩
theorem zi {x:Int} (h:m[j]? =some x):m.getD j 0=x:=by simp [getD,h]
theorem uy {x y:Int} (hx:m[j]? =some x) (hy:m[j-1]? =some y) (hj:0<j) (p:Nat):
 ((m.set j y).set (j-1) x).getD p 0=if p=j-1 then x else if p=j then y else m.getD p 0:=by
 have C:=(aT.1 hx).1;have D:=(aT.1 hy).1;simp only [getD,AAO,AAG];by_cases A:j-1=p
 ·subst A;simp [D]
 ·have e1': ¬ p=j-1:=fun e=>A e.symm;rw [c1 A,c1 e1'];by_cases B:j=p
  ·subst B;simp [C]
  ·have e2': ¬ p=j:=fun e=>B e.symm;rw [c1 B,c1 e2']
theorem QI {x y:Int} (hx:m[j]? =some x) (hy:m[j-1]? =some y) (hj:0<j) (hji:j≤i) (h:x<y) (hI:V_ m i j):V_ ((m.set j y).set (j-1) x) i (j-1):=by
 have gx:=zi hx;have gy:=zi hy;refine ⟨fun p r D A hp hr=>?_,fun r F E=>?_⟩
 ·rw [uy hx hy hj,uy hx hy hj,c1 hp,c1 hr];by_cases B:p=j
  ·rw [c0 B,c1 I,← gy];exact hI.1 (j-1) r I A I I
  ·rw [c1 B];by_cases C:r=j
   ·rw [c0 C,← gy];exact hI.1 p (j-1) I I B I
   ·rw [c1 C];exact hI.1 p r D A B C
 ·rw [uy hx hy hj,uy hx hy hj,c0 rfl,c1 I];by_cases e:r=j
  ·rw [c0 e];omega
  ·rw [c1 e,← gx];exact hI.2 r I E
theorem Pc (hj:¬ 0<j) (hI:V_ m i j):U6 m (i+1):=fun p r A C _=>by
 by_cases B:p=j
 ·subst B;exact hI.2 r A I
 ·exact hI.1 p r A I B I
theorem Pr {x y:Int} (hx:m[j]? =some x) (hy:m[j-1]? =some y) (hj:0<j) (hji:j≤i) (h:¬ x<y) (hI:V_ m i j):U6 m (i+1):=fun p r A E hl=>by
 have gx:=zi hx;have gy:=zi hy;by_cases B:p=j
 ·subst B;exact hI.2 r A I
 ·by_cases C:r=j
  ·subst C;rw [gx];by_cases D:p=r-1
   ·subst D;rw [gy];omega
   ·have:=hI.1 p (r-1) I I B I;rw [gy] at this;omega
  ·exact hI.1 p r A I B C
theorem Mw {x y:Int} (hx:m[j]? =some x) (hy:m[j-1]? =some y):((m.set j y).set (j-1) x).Perm m:=by
 obtain ⟨A,rfl⟩:=aT.1 hx;obtain ⟨B,rfl⟩:=aT.1 hy;exact List.set_set_perm A B
theorem Sv:U6 m 1:=fun p r A B=>by omega
theorem RM (h:U6 m i) (hi:m.length≤i):m.Pairwise (· ≤ ·):=by
 rw [eW];intro p r hp hr A;have:=h p r A I hr;simpa [getD,hp,hr] using this
theorem uZ {a b:List Int} (h:a.Perm b) (ha:a.Pairwise (· ≤ ·)) (hb:b.Pairwise (· ≤ ·)):a=b:=
 List.Perm.eq_of_pairwise (fun a b _ _ A B=>Int.le_antisymm A B) ha hb h
end
section
theorem z7 {code:Code} {a:OA} {c:Nat} (i:Nat) (hi:C[i]? =some (own a c t sz es)) (hn:0<es.length*sz) (h:∀ ad,a=some ad→WJ E code Q D L C):WJ E code Q D L C:=fun act w hf hs=>by
 obtain ⟨ad,hA,_⟩:=(hs.has (IP i hi)).2.2 hn;exact h ad hA act w hf hs
section
variable {E:fJ} {ops:Array Oper} {D:List Deferred} {L:List (Nat×Value)} {C:List au} {dst:Option Tmp} {ty:TypeId} {ps:String} {af:Array Edge} {g:Option (Nat×Bool)}
theorem OR {A:OA} {f:Nat} (hg:kz ops L g=true) (hx:ev L x=some (.pointer (nD A k0))) (hA:A=some ad) (hf:vL E.P s f=some k) (ho:k0+k=k'):SD E ops ⟨dst,.fieldAddr s x f,ty,ps,af,g⟩ D L C (.pointer (nD A k')):=
 eo hg sm fun a w B hs=>by
  subst hA;simp [execOp,B.ev hx,nD,sW hf,zj,ho]
theorem ux {A:OA} (hg:kz ops L g=true) (hx:ev L x=some (.pointer (nD A k0))) (hA:A=some ad):
 SD E ops ⟨dst,.nilCheck x,ty,ps,af,g⟩ D L C (.pointer (nD A k0)):=
 eo hg sm fun a w B hs=>by
  subst hA;simp [execOp,B.ev hx,nD]
theorem bO (hg:kz ops L g=true) (hx:ev L x=some (.pointer (some ad))):
 SD E ops ⟨dst,.nilCheck x,ty,ps,af,g⟩ D L C (.pointer (some ad)):=
 eo hg sm fun a w A hs=>by simp [execOp,A.ev hx]
end
end
end Go.Proofs.YtgnlmfdknlbkkaaGreatDoor
