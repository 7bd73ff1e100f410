/-
 The statement raceSync_said, part 4 of 8: Short, Grow, Global, RunA, Tab, Run, Comp, Ret, LoopK, MapK, Watch, Passes, Keys, MapR, RangeG, Nest, WMaps, WBounds, PassG, Drop, Spot, First, Line, Wrap, Goes, OpenW, Wheres, ExL6, LineR, Race, RaceS, Vals, RaceO, Ord, Rev.
 Conditions: none.
-/
import Derived.Test.YtlajhejcfcoddaaGreatDoorTx1
import Derived.Test.YtlajhejcfcoddaaGreatDoorTx2
import Derived.Test.YtlajhejcfcoddaaGreatDoorTx3
import Derived.Test.YtlajhejcfcoddaaGreatDoorProg
import Derived.KernelRfl
import Derived.WideKeyRuns
namespace Go.Proofs.YtlajhejcfcoddaaGreatDoor
set_option maxRecDepth 100000
set_option maxHeartbeats 4000000
set_option linter.unusedVariables false
section
open Go.RowKit
/-- an operation that hands v to its slot d -/
structure SE (E:fq) (ops:Array Oper) (o:Oper) (D:hP) (L:dh) (C:List av) (v:Value) (d:Nat):Prop where
 h:SD E ops o D L C v
 o:o.dst=some d
 n:Nat.blt d E.n=true
theorem rS {E:fq} {ops:Array Oper} {Q:df} {o:Oper} {rest:List Oper} {D:hP} {L:dh} {C:List av} {v:Value} {d:Nat}
 (h:SE E ops o D L C v d) (k:RJ E ops Q rest D ((d,v)::L) C):RJ E ops Q (o::rest) D L C:=Um h.h h.o h.n k
theorem dS {E:fq} {ops:Array Oper} {F:dh→Prop} {o:Oper} {rest:List Oper} {D:hP} {L:dh} {C:List av} {v:Value} {d:Nat}
 (h:SE E ops o D L C v d) (k:DJ E ops D C F rest ((d,v)::L)):DJ E ops D C F (o::rest) L:=S3 h.h h.o h.n k
theorem eS {E:fq} {ops:Array Oper} {D:hP} {C' C1:List av} {F:dh→Prop} {bs:List Bool} {o:Oper} {l rest:List Oper} {L:dh} {v:Value} {d:Nat}
 (hl:l=o::rest) (h:SE E ops o D L C' v d) (k:qo E ops D C' C1 F bs rest ((d,v)::L)):qo E ops D C' C1 F (false::bs) l L:=Tq h.h hl h.o h.n k
theorem fS {E:fq} {ops:Array Oper} {D:hP} {C' C1:List av} {F:dh→Prop} {bs:List Bool} {o:Oper} {l rest:List Oper} {L:dh} {v:Value} {d:Nat}
 (hl:l=o::rest) (h:SE E ops o D L C1 v d) (k:qo E ops D C' C1 F bs rest ((d,v)::L)):qo E ops D C' C1 F (true::bs) l L:=Sj h.h hl h.o h.n k
def gB (n:Nat) (ops:Array Oper) (L:dh) (d:Nat) (g:Option (Nat×Bool)):Bool:=jL ops L g&&Nat.blt d n
theorem PJ {n:Nat} {ops:Array Oper} {L:dh} {d:Nat} {g:Option (Nat×Bool)} (h:gB n ops L d g=true):jL ops L g=true:=by
 unfold gB at h; rw [cS] at h; exact h.1
theorem PG {n:Nat} {ops:Array Oper} {L:dh} {d:Nat} {g:Option (Nat×Bool)} (h:gB n ops L d g=true):Nat.blt d n=true:=by
 unfold gB at h; rw [cS] at h; exact h.2
def vF (n:Nat) (ops:Array Oper) (L:dh) (d:Nat) (g:Option (Nat×Bool)) (x:Operand):Option Value:=match gB n ops L d g with
 |true=>ev L x
 |false=>none
def bF (n:Nat) (ops:Array Oper) (L:dh) (d:Nat) (g:Option (Nat×Bool)) (x y:Operand):Option (Value×Value):=match gB n ops L d g with
 |true=>match ev L x,ev L y with
  |some u,some v=>some (u,v)
  |_,_=>none
 |false=>none
def pF (n:Nat) (ops:Array Oper) (L:dh) (d:Nat) (g:Option (Nat×Bool)) (c x y:Operand):Option Value:=match gB n ops L d g with
 |true=>match ev L c with
  |some (.bool true)=>ev L x
  |some (.bool false)=>ev L y
  |_=>none
 |false=>none
def xF (n:Nat) (ops:Array Oper) (L:dh) (d:Nat) (g:Option (Nat×Bool)) (x:Operand) (i:Nat):Option Value:=match vF n ops L d g x with
 |some (.tuple vs)=>vs.toList[i]?
 |_=>none
def uF (n:Nat) (ops:Array Oper) (L:dh) (d:Nat) (g:Option (Nat×Bool)) (xs ys:List Operand):Option (List Value×List Value):=match gB n ops L d g with
 |true=>match evs L xs,evs L ys with
  |some u,some v=>some (u,v)
  |_,_=>none
 |false=>none
def cF (n:Nat) (ops:Array Oper) (L:dh) (d:Nat) (g:Option (Nat×Bool)) (fop:Operand) (xs:List Operand):Option (FuncId×List Value):=match gB n ops L d g with
 |true=>match ev L fop,evs L xs with
  |some (.func (.func f) fi ca),some vs=>some (f,fi.toList++vs++ca.toList)
  |_,_=>none
 |false=>none
theorem ju {n:Nat} {ops:Array Oper} {L:dh} {d:Nat} {g:Option (Nat×Bool)} {x:Operand} {v:Value} (h:vF n ops L d g x=some v):jL ops L g=true∧Nat.blt d n=true∧ev L x=some v:=by
 unfold vF at h
 split at h
 ·rename_i hb; exact ⟨PJ hb,PG hb,h⟩
 ·cases h
theorem qJ {n:Nat} {ops:Array Oper} {L:dh} {d:Nat} {g:Option (Nat×Bool)} {x y:Operand} {u v:Value} (h:bF n ops L d g x y=some (u,v)):jL ops L g=true∧Nat.blt d n=true∧ev L x=some u∧ev L y=some v:=by
 unfold bF at h
 split at h
 ·rename_i hb
  split at h
  ·rename_i hx hy; cases h; exact ⟨PJ hb,PG hb,hx,hy⟩
  ·cases h
 ·cases h
theorem P9 {n:Nat} {ops:Array Oper} {L:dh} {d:Nat} {g:Option (Nat×Bool)} {x y:List Operand} {u v:List Value} (h:uF n ops L d g x y=some (u,v)):jL ops L g=true∧Nat.blt d n=true∧evs L x=some u∧evs L y=some v:=by
 unfold uF at h
 split at h
 ·rename_i hb
  split at h
  ·rename_i hx hy; cases h; exact ⟨PJ hb,PG hb,hx,hy⟩
  ·cases h
 ·cases h
section
variable {E:fq} {ops:Array Oper} {Q:df} {rest:List Oper} {D:List Deferred} {L:List (Nat×Value)} {C:List av}
variable {d:Nat} {ty:TypeId} {ps:String} {af:Array Edge} {g:Option (Nat×Bool)}
theorem SX {o:Oper} {v:Value} (h:SD E ops o D L C v) (ho:o.dst=some d) (hd:Nat.blt d E.n=true):SE E ops o D L C v d:=⟨h,ho,hd⟩
theorem MV {x:Operand} {v:Value} (h:vF E.n ops L d g x=some v):SE E ops ⟨some d,.move x,ty,ps,af,g⟩ D L C v d:=by
 obtain ⟨A,B,F⟩:=ju h; exact ⟨F0 A F,rfl,B⟩
theorem AG {x:Operand} {v:Value} (h:vF E.n ops L d g x=some v):SE E ops ⟨some d,.assign x,ty,ps,af,g⟩ D L C v d:=by
 obtain ⟨A,B,F⟩:=ju h; exact ⟨zh A F,rfl,B⟩
theorem OX {op:Op} (h:(DK ops L g&&Nat.blt d E.n)=true):SE E ops ⟨some d,op,ty,ps,af,g⟩ D L C undef d:=by
 rw [cS] at h; exact ⟨JK h.1,rfl,h.2⟩
theorem NT {xt:TypeId} {x:Operand} {b:Bool} (h:vF E.n ops L d g x=some (.bool b)):SE E ops ⟨some d,.unOp .not xt x,ty,ps,af,g⟩ D L C (.bool !b) d:=by
 obtain ⟨A,B,F⟩:=ju h; exact ⟨MK A F,rfl,B⟩
theorem NG {xt:TypeId} {x:Operand} {n:Int} (h:vF E.n ops L d g x=some (.int .i64 n)) (hb:rh (-n)):SE E ops ⟨some d,.unOp .neg xt x,ty,ps,af,g⟩ D L C (.int .i64 (-n)) d:=by
 obtain ⟨A,B,F⟩:=ju h; exact ⟨Rd A F hb,rfl,B⟩
theorem PK {c x y:Operand} {v:Value} (h:pF E.n ops L d g c x y=some v):SE E ops ⟨some d,.pick c x y,ty,ps,af,g⟩ D L C v d:=by
 unfold pF at h
 split at h
 ·rename_i hb
  split at h
  ·rename_i hc; exact ⟨zZ (PJ hb) hc h,rfl,PG hb⟩
  ·rename_i hc; exact ⟨zD (PJ hb) hc h,rfl,PG hb⟩
  ·cases h
 ·cases h
theorem EX {x:Operand} {i:Nat} {v:Value} (h:xF E.n ops L d g x i=some v):SE E ops ⟨some d,.extract x i,ty,ps,af,g⟩ D L C v d:=by
 unfold xF at h
 split at h
 ·rename_i vs hv
  obtain ⟨A,B,F⟩:=ju hv
  exact ⟨x_ (vs:=vs.toList) A (by simpa using F) h,U,B⟩
 ·cases h
theorem LN {x:Operand} {t e:TypeId} {A:OA} {n c:Nat} (h:vF E.n ops L d g x=some (.slice A n c)) (ht:E.P.underlying t=some (.slice e)):
 SE E ops ⟨some d,.call {callee:= .builtin .len,args:= #[x],argTypes:= #[t]},ty,ps,af,g⟩ D L C (.int .i64 n) d:=by
 obtain ⟨B,F,G⟩:=ju h; exact ⟨Mo B G ht,rfl,F⟩
theorem BI {op:BinOp} {xt yt:TypeId} {x y:Operand} {u v r:Value} (h:bF E.n ops L d g x y=some (u,v)) (hb:iI E.P op xt x y u v r):SE E ops ⟨some d,.binOp op xt x y yt,ty,ps,af,g⟩ D L C r d:=by
 obtain ⟨A,B,F,G⟩:=qJ h; exact ⟨cb A F G hb,rfl,B⟩
theorem MN {x y:Operand} {ts:Array TypeId} {a b:Int} {k:IntKind} (h:bF E.n ops L d g x y=some (.int k a,.int k b)):
 SE E ops ⟨some d,.call {callee:= .builtin .min,args:= #[x,y],argTypes:=ts},ty,ps,af,g⟩ D L C (.int k (min a b)) d:=by
 obtain ⟨A,B,F,G⟩:=qJ h; exact ⟨Q3 A F G,rfl,B⟩
theorem MX {x y:Operand} {ts:Array TypeId} {a b:Int} {k:IntKind} (h:bF E.n ops L d g x y=some (.int k a,.int k b)):
 SE E ops ⟨some d,.call {callee:= .builtin .max,args:= #[x,y],argTypes:=ts},ty,ps,af,g⟩ D L C (.int k (max a b)) d:=by
 obtain ⟨A,B,F,G⟩:=qJ h; exact ⟨QJ A F G,rfl,B⟩
theorem FA (o':Nat) {x:Operand} {b o s f k:Nat} (h:vF E.n ops L d g x=some (.pointer (some ⟨b,o,none⟩))) (hf:rj E.P s f=some k) (ho:o+k=o'):
 SE E ops ⟨some d,.fieldAddr s x f,ty,ps,af,g⟩ D L C (.pointer (some ⟨b,o',none⟩)) d:=by
 obtain ⟨A,B,F⟩:=ju h; exact ⟨PD A F hf ho,rfl,B⟩
theorem mW (k':Nat) {x:Operand} {A:OA} {n sz:Nat} {es:List (List Value)} {k0 s f k:Nat} (h:vF E.n ops L d g x=some (.pointer (lZ A k0))) (hR:iA C (rd A n sz es).holds) (hn:0<n*sz)
 (hf:rj E.P s f=some k) (ho:k0+k=k'):SE E ops ⟨some d,.fieldAddr s x f,ty,ps,af,g⟩ D L C (.pointer (lZ A k')) d:=by
 obtain ⟨B,F,G⟩:=ju h; exact ⟨LG B G hR hn hf ho,rfl,F⟩
theorem Pu (k':Nat) {x:Operand} {A:OA} {ad:Addr} {k0 s f k:Nat} (h:vF E.n ops L d g x=some (.pointer (lZ A k0))) (hA:A=some ad)
 (hf:rj E.P s f=some k) (ho:k0+k=k'):SE E ops ⟨some d,.fieldAddr s x f,ty,ps,af,g⟩ D L C (.pointer (lZ A k')) d:=by
 obtain ⟨B,F,G⟩:=ju h; exact ⟨KQ B G hA hf ho,rfl,F⟩
theorem IA (k:Nat) {x ix:Operand} {A:OA} {n c sz e t:Nat} {es:List (List Value)} {j:Int} (h:bF E.n ops L d g x ix=some (.slice A n c,.int .i64 j)) (hR:iA C (rd A n sz es).holds)
 (ht:tE E.P t=some (e,sz)) (hz:0<sz) (hj:j=(k:Int)) (hk:k<n):SE E ops ⟨some d,.indexAddr t x ix,ty,ps,af,g⟩ D L C (.pointer (lZ A (k*sz))) d:=by
 obtain ⟨B,F,G,H⟩:=qJ h; exact ⟨Uc B G H hR ht hz hj hk,rfl,F⟩
theorem UD (k o':Nat) {x ix:Operand} {b o n c sz e t:Nat} {j:Int} (h:bF E.n ops L d g x ix=some (.slice (some ⟨b,o,none⟩) n c,.int .i64 j))
 (ht:tE E.P t=some (e,sz)) (hj:j=(k:Int)) (hk:k<n) (ho:o+k*sz=o'):SE E ops ⟨some d,.indexAddr t x ix,ty,ps,af,g⟩ D L C (.pointer (some ⟨b,o',none⟩)) d:=by
 obtain ⟨A,B,F,G⟩:=qJ h; exact ⟨OQ A F G ht hj hk ho,rfl,B⟩
/-- the whole of a block, a part of it, one cell -/
theorem LW (i:Nat) {x:Operand} {b t tt n:Nat} {cs:List Value} (h:vF E.n ops L d g x=some (.pointer (some ⟨b,0,none⟩))) (ht:tK E.P t=some (true,n)) (hC:C[i]? =some (cd b tt cs)) (hn:cs.length=n):
 SE E ops ⟨some d,.load t x,ty,ps,af,g⟩ D L C (.agg cs.toArray) d:=by
 obtain ⟨A,B,F⟩:=ju h; exact ⟨xI A F ht (pI i hC sm) hn,rfl,B⟩
theorem LP (vs:List Value) (i:Nat) {x:Operand} {b o t tt n:Nat} {cs:List Value} (h:vF E.n ops L d g x=some (.pointer (some ⟨b,o,none⟩))) (ht:tK E.P t=some (true,n)) (hC:C[i]? =some (cd b tt cs)) (hv:(cs.drop o).take vs.length=vs) (hn:vs.length=n):
 SE E ops ⟨some d,.load t x,ty,ps,af,g⟩ D L C (.agg vs.toArray) d:=by
 obtain ⟨A,B,F⟩:=ju h; exact ⟨xI A F ht (pI i hC hv) hn,rfl,B⟩
theorem VY (vs:List Value) (i:Nat) {x:Operand} {b o t tt n:Nat} {cs:List Value} (h:vF E.n ops L d g x=some (.pointer (some ⟨b,o,none⟩))) (ht:tK E.P t=some (true,n)) (hC:C[i]? =some (cd b tt cs).ro) (hv:(cs.drop o).take vs.length=vs) (hn:vs.length=n):
 SE E ops ⟨some d,.load t x,ty,ps,af,g⟩ D L C (.agg vs.toArray) d:=by
 obtain ⟨A,B,F⟩:=ju h; exact ⟨xI A F ht (wh i hC hv) hn,rfl,B⟩
theorem L1 (v:Value) (i:Nat) {x:Operand} {b o t tt n:Nat} {cs:List Value} (h:vF E.n ops L d g x=some (.pointer (some ⟨b,o,none⟩))) (ht:tK E.P t=some (false,n)) (hC:C[i]? =some (cd b tt cs)) (hv:(cs.drop o).take 1=[v]):
 SE E ops ⟨some d,.load t x,ty,ps,af,g⟩ D L C v d:=by
 obtain ⟨A,B,F⟩:=ju h; exact ⟨vk A F ht (pI i hC hv),rfl,B⟩
theorem ID (v:Value) (i:Nat) {x:Operand} {b o t tt n:Nat} {cs:List Value} (h:vF E.n ops L d g x=some (.pointer (some ⟨b,o,none⟩))) (ht:tK E.P t=some (false,n)) (hC:C[i]? =some (cd b tt cs).ro) (hv:(cs.drop o).take 1=[v]):
 SE E ops ⟨some d,.load t x,ty,ps,af,g⟩ D L C v d:=by
 obtain ⟨A,B,F⟩:=ju h; exact ⟨vk A F ht (wh i hC hv),rfl,B⟩
theorem Fe (i:Nat) {x:Operand} {b t tt n:Nat} {v:Value} (h:vF E.n ops L d g x=some (.pointer (some ⟨b,0,none⟩))) (ht:tK E.P t=some (false,n)) (hC:C[i]? =some (cd b tt [v])):
 SE E ops ⟨some d,.load t x,ty,ps,af,g⟩ D L C v d:=by
 obtain ⟨A,B,F⟩:=ju h; exact ⟨vk A F ht (pI i hC rfl),rfl,B⟩
theorem UE (i:Nat) {x:Operand} {b t tt n:Nat} {v:Value} (h:vF E.n ops L d g x=some (.pointer (some ⟨b,0,none⟩))) (ht:tK E.P t=some (false,n)) (hC:C[i]? =some (cd b tt [v]).ro):
 SE E ops ⟨some d,.load t x,ty,ps,af,g⟩ D L C v d:=by
 obtain ⟨A,B,F⟩:=ju h; exact ⟨vk A F ht (wh i hC rfl),rfl,B⟩
/-- what is read of a row -/
theorem gi (k o:Nat) (v:Value) {x:Operand} {A:OA} {t m n sz:Nat} {es:List (List Value)} {e:List Value} (h:vF E.n ops L d g x=some (.pointer (lZ A m))) {nn:Nat} (ht:tK E.P t=some (false,nn)) (hR:iA C (rd A n sz es).holds) (he:es[k]? =some e) (hm:m=k*sz+o) (hz:0<sz) (hv:(e.drop o).take 1=[v]):
 SE E ops ⟨some d,.load t x,ty,ps,af,g⟩ D L C v d:=by
 obtain ⟨B,F,G⟩:=ju h; exact ⟨vk B G ht (Ps hR he hm hz hv),rfl,F⟩
theorem oY (k o:Nat) (vs:List Value) {x:Operand} {A:OA} {t m n sz:Nat} {es:List (List Value)} {e:List Value} (h:vF E.n ops L d g x=some (.pointer (lZ A m))) {nn:Nat} (ht:tK E.P t=some (true,nn)) (hR:iA C (rd A n sz es).holds) (he:es[k]? =some e) (hm:m=k*sz+o) (hz:0<sz) (hv:(e.drop o).take vs.length=vs) (hn:vs.length=nn):
 SE E ops ⟨some d,.load t x,ty,ps,af,g⟩ D L C (.agg vs.toArray) d:=by
 obtain ⟨B,F,G⟩:=ju h; exact ⟨xI B G ht (Ps hR he hm hz hv) hn,rfl,F⟩
theorem CL {fop:Operand} {xs:Array Operand} {ts:Array TypeId} {f:FuncId} {args:List Value} {Cp:List av} {v:Value} (c:eB E.P f args Cp v) (hC:kF C Cp) (h:cF E.n ops L d g fop xs.toList=some (f,args)):
 SE E ops ⟨some d,.call {callee:= .value fop,args:=xs,argTypes:=ts},ty,ps,af,g⟩ D L C v d:=by
 unfold cF at h
 split at h
 ·rename_i hb
  split at h
  ·rename_i hf hx; cases h; exact ⟨FO (PJ hb) hf hx rfl c hC,rfl,PG hb⟩
  ·cases h
 ·cases h
theorem FU {fn:Fn} {xs ys:Array Operand} {us vs:List Value} (h:uF E.n ops L d g xs.toList ys.toList=some (us,vs)):SE E ops ⟨some d,.makeFunc fn xs ys,ty,ps,af,g⟩ D L C (.func fn us.toArray vs.toArray) d:=by
 obtain ⟨A,B,F,G⟩:=P9 h; exact ⟨OF A F G,rfl,B⟩
theorem cX {fop:Operand} {xs:Array Operand} {ts:Array TypeId} {f:FuncId} {args:List Value} {Cp:List av} {α:Type} {V:α→Value} {p:α→Prop} {N:α→List av} (c:lB E.P f args Cp V p N) (hC:kF C Cp)
 (h:cF E.n ops L d g fop xs.toList=some (f,args)) (k: ∀ x,p x→RJ E ops Q rest D ((d,V x)::L) (N x++C)):
 RJ E ops Q (⟨some d,.call {callee:= .value fop,args:=xs,argTypes:=ts},ty,ps,af,g⟩::rest) D L C:=by
 unfold cF at h
 split at h
 ·rename_i hb
  split at h
  ·rename_i hf hx; cases h; exact QQ (PJ hb) hf hx rfl c hC (PG hb) k
  ·cases h
 ·cases h
/-- a box of a struct, of one cell -/
theorem gd {t:TypeId} {x:Operand} {cs:List Value} (h:vF E.n ops L d g x=some (.agg cs.toArray)) (k: ∀ b,RJ E ops Q rest D ((d,.pointer (some ⟨b,0,none⟩))::L) (cd b t cs::C)):
 RJ E ops Q (⟨some d,.box t x,ty,ps,af,g⟩::rest) D L C:=by
 obtain ⟨A,B,F⟩:=ju h; exact Py A F rfl B k
theorem uG {t:TypeId} {x:Operand} {v:Value} (h:vF E.n ops L d g x=some v) (hv:v.cells.toList=[v]) (k: ∀ b,RJ E ops Q rest D ((d,.pointer (some ⟨b,0,none⟩))::L) (cd b t [v]::C)):
 RJ E ops Q (⟨some d,.box t x,ty,ps,af,g⟩::rest) D L C:=by
 obtain ⟨A,B,F⟩:=ju h; exact Py A F hv B k
theorem AL {t:TypeId} {cs:List Value} (h:gB E.n ops L d g=true) (hz:tZ E.P t=some cs) (k: ∀ b,RJ E ops Q rest D ((d,.pointer (some ⟨b,0,none⟩))::L) (cd b t cs::C)):
 RJ E ops Q (⟨some d,.alloc t,ty,ps,af,g⟩::rest) D L C:=OT (PJ h) hz (PG h) k
/-- a store into the block at the place i of the state -/
def sF (ops:Array Oper) (L:dh) (g:Option (Nat×Bool)) (x y:Operand):Option (Value×Value):=match jL ops L g with
 |true=>match ev L x,ev L y with
  |some u,some v=>some (u,v)
  |_,_=>none
 |false=>none
theorem DW {ops:Array Oper} {L:dh} {g:Option (Nat×Bool)} {x y:Operand} {u v:Value} (h:sF ops L g x y=some (u,v)):jL ops L g=true∧ev L x=some u∧ev L y=some v:=by
 unfold sF at h
 split at h
 ·rename_i hb
  split at h
  ·rename_i hx hy; cases h; exact ⟨hb,hx,hy⟩
  ·cases h
 ·cases h
theorem PR {t n b o tt:Nat} {x y:Operand} {v:Value} {cs cs':List Value} {C':List av} (i:Nat) (h:sF ops L g x y=some (.pointer (some ⟨b,o,none⟩),v)) (ht:(tK E.P t).map (·.2)=some n) (hC:C[i]? =some (cd b tt cs))
 (hk:(v.cells.toList.length==n&&v.cells.toList.all Value.oneCell'&&Nat.ble (o+n) cs.length)=true) (hcs:cs.take o++v.cells.toList++cs.drop (o+n)=cs') (hC':C.set i (cd b tt cs')=C') (k:RJ E ops Q rest D L C'):
 RJ E ops Q (⟨none,.store t x y,ty,ps,af,g⟩::rest) D L C:=by
 obtain ⟨A,B,F⟩:=DW h
 simp only [cS,beq_iff_eq] at hk
 exact jG i A B F ht U hk.1.1 hk.1.2 hC hk.2 hcs hC' k
/-- a store of a whole block, by a struct, by one cell -/
theorem M8 {t n b tt:Nat} {x y:Operand} {cs cs':List Value} {C':List av} (i:Nat) (h:sF ops L g x y=some (.pointer (some ⟨b,0,none⟩),.agg cs'.toArray)) (ht:(tK E.P t).map (·.2)=some n) (hC:C[i]? =some (cd b tt cs))
 (hk:(Nat.beq cs'.length n&&cs'.all Value.oneCell'&&Nat.beq n cs.length)=true) (hC':C.set i (cd b tt cs')=C') (k:RJ E ops Q rest D L C'):
 RJ E ops Q (⟨none,.store t x y,ty,ps,af,g⟩::rest) D L C:=by
 obtain ⟨AA,J,K⟩:=DW h
 simp only [cS] at hk
 obtain ⟨⟨A,B⟩,F⟩:=hk
 have H:=Nat.eq_of_beq_eq_true A
 have G:=Nat.eq_of_beq_eq_true F
 exact jG i AA J K ht U H B hC (by rw [Nat.zero_add,G]; exact Nat.ble_self_eq_true _) (by rw [Nat.zero_add,G,List.take_zero,List.drop_length]; show []++cs'++[]=cs'; simp) hC' k
theorem Vh {t n b tt:Nat} {x y:Operand} {v u:Value} {C':List av} (i:Nat) (h:sF ops L g x y=some (.pointer (some ⟨b,0,none⟩),v)) (ht:(tK E.P t).map (·.2)=some n) (hC:C[i]? =some (cd b tt [u]))
 (hv:v.cells.toList=[v]) (hk:(Nat.beq n 1&&v.oneCell')=true) (hC':C.set i (cd b tt [v])=C') (k:RJ E ops Q rest D L C'):
 RJ E ops Q (⟨none,.store t x y,ty,ps,af,g⟩::rest) D L C:=by
 obtain ⟨G,H,AA⟩:=DW h
 rw [cS] at hk
 obtain ⟨A,B⟩:=hk
 have F:=Nat.eq_of_beq_eq_true A
 subst F
 exact jG i G H AA ht hv U (by simp [B]) hC U U hC' k
theorem gl {t n b tt:Nat} {x y:Operand} {cs cs':List Value} (h:sF ops L g x y=some (.pointer (some ⟨b,0,none⟩),.agg cs'.toArray)) (ht:(tK E.P t).map (·.2)=some n) (hk:(Nat.beq cs'.length n&&cs'.all Value.oneCell'&&Nat.beq n cs.length)=true) (k:RJ E ops Q rest D L (cd b tt cs'::C)):RJ E ops Q (⟨none,.store t x y,ty,ps,af,g⟩::rest) D L (cd b tt cs::C):=M8 0 h ht rfl hk rfl k
theorem GZ {t n b tt:Nat} {x y:Operand} {v u:Value} (h:sF ops L g x y=some (.pointer (some ⟨b,0,none⟩),v)) (ht:(tK E.P t).map (·.2)=some n) (hv:v.cells.toList=[v]) (hk:(Nat.beq n 1&&v.oneCell')=true) (k:RJ E ops Q rest D L (cd b tt [v]::C)):RJ E ops Q (⟨none,.store t x y,ty,ps,af,g⟩::rest) D L (cd b tt [u]::C):=Vh 0 h ht rfl hv hk rfl k
theorem ti {t n b tt:Nat} {x y:Operand} {cs cs':List Value} {A0:av} (h:sF ops L g x y=some (.pointer (some ⟨b,0,none⟩),.agg cs'.toArray)) (ht:(tK E.P t).map (·.2)=some n) (hk:(Nat.beq cs'.length n&&cs'.all Value.oneCell'&&Nat.beq n cs.length)=true) (k:RJ E ops Q rest D L (A0::cd b tt cs'::C)):RJ E ops Q (⟨none,.store t x y,ty,ps,af,g⟩::rest) D L (A0::cd b tt cs::C):=M8 1 h ht rfl hk rfl k
theorem Ga {t n b tt:Nat} {x y:Operand} {cs cs':List Value} {A0 A1:av} (h:sF ops L g x y=some (.pointer (some ⟨b,0,none⟩),.agg cs'.toArray)) (ht:(tK E.P t).map (·.2)=some n) (hk:(Nat.beq cs'.length n&&cs'.all Value.oneCell'&&Nat.beq n cs.length)=true) (k:RJ E ops Q rest D L (A0::A1::cd b tt cs'::C)):RJ E ops Q (⟨none,.store t x y,ty,ps,af,g⟩::rest) D L (A0::A1::cd b tt cs::C):=M8 2 h ht rfl hk rfl k
theorem U0 (cs':List Value) {t n b o tt:Nat} {x y:Operand} {v:Value} {cs:List Value} {A0 A1:av} (h:sF ops L g x y=some (.pointer (some ⟨b,o,none⟩),v)) (ht:(tK E.P t).map (·.2)=some n) (hk:(v.cells.toList.length==n&&v.cells.toList.all Value.oneCell'&&Nat.ble (o+n) cs.length)=true) (hcs:cs.take o++v.cells.toList++cs.drop (o+n)=cs') (k:RJ E ops Q rest D L (A0::A1::cd b tt cs'::C)):RJ E ops Q (⟨none,.store t x y,ty,ps,af,g⟩::rest) D L (A0::A1::cd b tt cs::C):=PR 2 h ht rfl hk hcs rfl k
theorem UH {t n b tt:Nat} {x y:Operand} {cs cs':List Value} {A0 A1 A2:av} (h:sF ops L g x y=some (.pointer (some ⟨b,0,none⟩),.agg cs'.toArray)) (ht:(tK E.P t).map (·.2)=some n) (hk:(Nat.beq cs'.length n&&cs'.all Value.oneCell'&&Nat.beq n cs.length)=true) (k:RJ E ops Q rest D L (A0::A1::A2::cd b tt cs'::C)):RJ E ops Q (⟨none,.store t x y,ty,ps,af,g⟩::rest) D L (A0::A1::A2::cd b tt cs::C):=M8 3 h ht rfl hk rfl k
theorem Vx {t n b tt:Nat} {x y:Operand} {v u:Value} {A0 A1 A2:av} (h:sF ops L g x y=some (.pointer (some ⟨b,0,none⟩),v)) (ht:(tK E.P t).map (·.2)=some n) (hv:v.cells.toList=[v]) (hk:(Nat.beq n 1&&v.oneCell')=true) (k:RJ E ops Q rest D L (A0::A1::A2::cd b tt [v]::C)):RJ E ops Q (⟨none,.store t x y,ty,ps,af,g⟩::rest) D L (A0::A1::A2::cd b tt [u]::C):=Vh 3 h ht rfl hv hk rfl k
theorem QH (cs':List Value) {t n b o tt:Nat} {x y:Operand} {v:Value} {cs:List Value} {A0 A1 A2:av} (h:sF ops L g x y=some (.pointer (some ⟨b,o,none⟩),v)) (ht:(tK E.P t).map (·.2)=some n) (hk:(v.cells.toList.length==n&&v.cells.toList.all Value.oneCell'&&Nat.ble (o+n) cs.length)=true) (hcs:cs.take o++v.cells.toList++cs.drop (o+n)=cs') (k:RJ E ops Q rest D L (A0::A1::A2::cd b tt cs'::C)):RJ E ops Q (⟨none,.store t x y,ty,ps,af,g⟩::rest) D L (A0::A1::A2::cd b tt cs::C):=PR 3 h ht rfl hk hcs rfl k
theorem Pg {t n b tt:Nat} {x y:Operand} {cs cs':List Value} {A0 A1 A2 A3:av} (h:sF ops L g x y=some (.pointer (some ⟨b,0,none⟩),.agg cs'.toArray)) (ht:(tK E.P t).map (·.2)=some n) (hk:(Nat.beq cs'.length n&&cs'.all Value.oneCell'&&Nat.beq n cs.length)=true) (k:RJ E ops Q rest D L (A0::A1::A2::A3::cd b tt cs'::C)):RJ E ops Q (⟨none,.store t x y,ty,ps,af,g⟩::rest) D L (A0::A1::A2::A3::cd b tt cs::C):=M8 4 h ht rfl hk rfl k
theorem Vq (cs':List Value) {t n b o tt:Nat} {x y:Operand} {v:Value} {cs:List Value} {A0 A1 A2 A3:av} (h:sF ops L g x y=some (.pointer (some ⟨b,o,none⟩),v)) (ht:(tK E.P t).map (·.2)=some n) (hk:(v.cells.toList.length==n&&v.cells.toList.all Value.oneCell'&&Nat.ble (o+n) cs.length)=true) (hcs:cs.take o++v.cells.toList++cs.drop (o+n)=cs') (k:RJ E ops Q rest D L (A0::A1::A2::A3::cd b tt cs'::C)):RJ E ops Q (⟨none,.store t x y,ty,ps,af,g⟩::rest) D L (A0::A1::A2::A3::cd b tt cs::C):=PR 4 h ht rfl hk hcs rfl k
theorem IE {t n b tt:Nat} {x y:Operand} {cs cs':List Value} {A0 A1 A2 A3 A4:av} (h:sF ops L g x y=some (.pointer (some ⟨b,0,none⟩),.agg cs'.toArray)) (ht:(tK E.P t).map (·.2)=some n) (hk:(Nat.beq cs'.length n&&cs'.all Value.oneCell'&&Nat.beq n cs.length)=true) (k:RJ E ops Q rest D L (A0::A1::A2::A3::A4::cd b tt cs'::C)):RJ E ops Q (⟨none,.store t x y,ty,ps,af,g⟩::rest) D L (A0::A1::A2::A3::A4::cd b tt cs::C):=M8 5 h ht rfl hk rfl k
theorem V6 (cs':List Value) {t n b o tt:Nat} {x y:Operand} {v:Value} {cs:List Value} {A0 A1 A2 A3 A4:av} (h:sF ops L g x y=some (.pointer (some ⟨b,o,none⟩),v)) (ht:(tK E.P t).map (·.2)=some n) (hk:(v.cells.toList.length==n&&v.cells.toList.all Value.oneCell'&&Nat.ble (o+n) cs.length)=true) (hcs:cs.take o++v.cells.toList++cs.drop (o+n)=cs') (k:RJ E ops Q rest D L (A0::A1::A2::A3::A4::cd b tt cs'::C)):RJ E ops Q (⟨none,.store t x y,ty,ps,af,g⟩::rest) D L (A0::A1::A2::A3::A4::cd b tt cs::C):=PR 5 h ht rfl hk hcs rfl k
theorem O6 {t n b tt:Nat} {x y:Operand} {cs cs':List Value} {A0 A1 A2 A3 A4 A5:av} (h:sF ops L g x y=some (.pointer (some ⟨b,0,none⟩),.agg cs'.toArray)) (ht:(tK E.P t).map (·.2)=some n) (hk:(Nat.beq cs'.length n&&cs'.all Value.oneCell'&&Nat.beq n cs.length)=true) (k:RJ E ops Q rest D L (A0::A1::A2::A3::A4::A5::cd b tt cs'::C)):RJ E ops Q (⟨none,.store t x y,ty,ps,af,g⟩::rest) D L (A0::A1::A2::A3::A4::A5::cd b tt cs::C):=M8 6 h ht rfl hk rfl k
theorem V5 {t n b tt:Nat} {x y:Operand} {v u:Value} {A0 A1 A2 A3 A4 A5:av} (h:sF ops L g x y=some (.pointer (some ⟨b,0,none⟩),v)) (ht:(tK E.P t).map (·.2)=some n) (hv:v.cells.toList=[v]) (hk:(Nat.beq n 1&&v.oneCell')=true) (k:RJ E ops Q rest D L (A0::A1::A2::A3::A4::A5::cd b tt [v]::C)):RJ E ops Q (⟨none,.store t x y,ty,ps,af,g⟩::rest) D L (A0::A1::A2::A3::A4::A5::cd b tt [u]::C):=Vh 6 h ht rfl hv hk rfl k
theorem UF (cs':List Value) {t n b o tt:Nat} {x y:Operand} {v:Value} {cs:List Value} {A0 A1 A2 A3 A4 A5:av} (h:sF ops L g x y=some (.pointer (some ⟨b,o,none⟩),v)) (ht:(tK E.P t).map (·.2)=some n) (hk:(v.cells.toList.length==n&&v.cells.toList.all Value.oneCell'&&Nat.ble (o+n) cs.length)=true) (hcs:cs.take o++v.cells.toList++cs.drop (o+n)=cs') (k:RJ E ops Q rest D L (A0::A1::A2::A3::A4::A5::cd b tt cs'::C)):RJ E ops Q (⟨none,.store t x y,ty,ps,af,g⟩::rest) D L (A0::A1::A2::A3::A4::A5::cd b tt cs::C):=PR 6 h ht rfl hk hcs rfl k
theorem Wa (cs':List Value) {t n b o tt:Nat} {x y:Operand} {v:Value} {cs:List Value} {A0 A1 A2 A3 A4 A5 A6:av} (h:sF ops L g x y=some (.pointer (some ⟨b,o,none⟩),v)) (ht:(tK E.P t).map (·.2)=some n) (hk:(v.cells.toList.length==n&&v.cells.toList.all Value.oneCell'&&Nat.ble (o+n) cs.length)=true) (hcs:cs.take o++v.cells.toList++cs.drop (o+n)=cs') (k:RJ E ops Q rest D L (A0::A1::A2::A3::A4::A5::A6::cd b tt cs'::C)):RJ E ops Q (⟨none,.store t x y,ty,ps,af,g⟩::rest) D L (A0::A1::A2::A3::A4::A5::A6::cd b tt cs::C):=PR 7 h ht rfl hk hcs rfl k
theorem Wb {t n b tt:Nat} {x y:Operand} {cs cs':List Value} {A0 A1 A2 A3 A4 A5 A6 A7:av} (h:sF ops L g x y=some (.pointer (some ⟨b,0,none⟩),.agg cs'.toArray)) (ht:(tK E.P t).map (·.2)=some n) (hk:(Nat.beq cs'.length n&&cs'.all Value.oneCell'&&Nat.beq n cs.length)=true) (k:RJ E ops Q rest D L (A0::A1::A2::A3::A4::A5::A6::A7::cd b tt cs'::C)):RJ E ops Q (⟨none,.store t x y,ty,ps,af,g⟩::rest) D L (A0::A1::A2::A3::A4::A5::A6::A7::cd b tt cs::C):=M8 8 h ht rfl hk rfl k
theorem Wd (cs':List Value) {t n b o tt:Nat} {x y:Operand} {v:Value} {cs:List Value} {A0 A1 A2 A3 A4 A5 A6 A7:av} (h:sF ops L g x y=some (.pointer (some ⟨b,o,none⟩),v)) (ht:(tK E.P t).map (·.2)=some n) (hk:(v.cells.toList.length==n&&v.cells.toList.all Value.oneCell'&&Nat.ble (o+n) cs.length)=true) (hcs:cs.take o++v.cells.toList++cs.drop (o+n)=cs') (k:RJ E ops Q rest D L (A0::A1::A2::A3::A4::A5::A6::A7::cd b tt cs'::C)):RJ E ops Q (⟨none,.store t x y,ty,ps,af,g⟩::rest) D L (A0::A1::A2::A3::A4::A5::A6::A7::cd b tt cs::C):=PR 8 h ht rfl hk hcs rfl k
theorem U7 (cs':List Value) {t n b o tt:Nat} {x y:Operand} {v:Value} {cs:List Value} {A0 A1 A2 A3 A4 A5 A6 A7 A8 A9:av} (h:sF ops L g x y=some (.pointer (some ⟨b,o,none⟩),v)) (ht:(tK E.P t).map (·.2)=some n) (hk:(v.cells.toList.length==n&&v.cells.toList.all Value.oneCell'&&Nat.ble (o+n) cs.length)=true) (hcs:cs.take o++v.cells.toList++cs.drop (o+n)=cs') (k:RJ E ops Q rest D L (A0::A1::A2::A3::A4::A5::A6::A7::A8::A9::cd b tt cs'::C)):RJ E ops Q (⟨none,.store t x y,ty,ps,af,g⟩::rest) D L (A0::A1::A2::A3::A4::A5::A6::A7::A8::A9::cd b tt cs::C):=PR 10 h ht rfl hk hcs rfl k
theorem Vv {t n b tt:Nat} {x y:Operand} {cs cs':List Value} {A0 A1 A2 A3 A4 A5 A6 A7 A8 A9 A10:av} (h:sF ops L g x y=some (.pointer (some ⟨b,0,none⟩),.agg cs'.toArray)) (ht:(tK E.P t).map (·.2)=some n) (hk:(Nat.beq cs'.length n&&cs'.all Value.oneCell'&&Nat.beq n cs.length)=true) (k:RJ E ops Q rest D L (A0::A1::A2::A3::A4::A5::A6::A7::A8::A9::A10::cd b tt cs'::C)):RJ E ops Q (⟨none,.store t x y,ty,ps,af,g⟩::rest) D L (A0::A1::A2::A3::A4::A5::A6::A7::A8::A9::A10::cd b tt cs::C):=M8 11 h ht rfl hk rfl k
end
section
variable {E:fq} {y:Code} {Q:df} {D:List Deferred} {L:List (Nat×Value)} {C:List av}
theorem WS {id:Nat} {ops:Array Oper} (h: ∀ K:Act→World→Prop,(∀ D L C,WJ E y Q D L C→KJ E K D L C)→RJ E ops (Exit.then K Q) ops.toList D L C):WJ E (.seq (.region id ops false) y) Q D L C:=aj fun K hK=>al (h K hK)
theorem RK {ops:Array Oper} {K:Act→World→Prop} {Q':df} (hK: ∀ D L C,WJ E y Q D L C→KJ E K D L C) (k:WJ E y Q D L C):RJ E ops (Exit.then K Q') [] D L C:=aA (aV (hK _ _ _ k))
theorem KK {K:Act→World→Prop} {Q':df} (hK: ∀ D L C,WJ E y Q D L C→KJ E K D L C) (k:WJ E y Q D L C):KJ E (Exit.then K Q' .normal) D L C:=aV (hK _ _ _ k)
theorem WK {K:Act→World→Prop} {Q':df} (hK: ∀ D L C,WJ E y Q D L C→KJ E K D L C) (k:WJ E y Q D L C):WJ E .skip (Exit.then K Q') D L C:=cr (aV (hK _ _ _ k))
end
theorem DT {p:Prop} [Decidable p] (h:decide p=true):p:=of_decide_eq_true h
theorem DF {p:Prop} [Decidable p] (h:decide p=false): ¬ p:=of_decide_eq_false h
theorem XT {p:Prop} [Decidable p] (h:(!decide p)=true): ¬ p:=by simpa using h
theorem XF {p:Prop} [Decidable p] (h:(!decide p)=false):p:=by simpa using h
/-- what a function hands back: one result, two, three, that lie in slots -/
theorem Q1 {E:fq} {fn:Func} {K:Act→World→Prop} {L:dh} {C:List av} {t:Nat} {u v:Value} (hQ: ∀ D L C,LJ E fn (Cj E.w0 v) D L C→KJ E K D L C) (hS:E.S=ua) (hr:fn.results.toList=[.tmp t]) (hl:L.lookup t=some u) (e:u=v):KJ E K [] L C:=
 hQ _ _ _ (ik (vs:=[u]) (by rw [hr]; exact ⟨hl,trivial⟩) fun w hs=>Fk e (by rw [hS] at hs; exact hs))
theorem Q2 {E:fq} {fn:Func} {K:Act→World→Prop} {L:dh} {C:List av} {t s:Nat} {u x v:Value} (hQ: ∀ D L C,LJ E fn (Cj E.w0 v) D L C→KJ E K D L C) (hS:E.S=ua) (hr:fn.results.toList=[.tmp t,.tmp s]) (hl:L.lookup t=some u) (hm:L.lookup s=some x) (e:vT [u,x]=v):KJ E K [] L C:=
 hQ _ _ _ (ik (vs:=[u,x]) (by rw [hr]; exact ⟨hl,hm,trivial⟩) fun w hs=>Fk e (by rw [hS] at hs; exact hs))
theorem N1 {E:fq} {ops:Array Oper} {D:hP} {C' C1:List av} {F:dh→List av→Prop} {tb rem:List Nat} {n:Nat} {L:dh} {C:List av} (i:Nat)
 (h:C4 E ops D C' C1 F tb n (rem.filter (· != i)) i L C) (hm:rem.filter (fun i=>rem.all fun j=> !iO (qk ops) j i)=[i]:=by kernel_rfl):TN E ops D C' C1 F tb (n+1) rem L C:=iE [i] hm (ej h j5)
theorem NO {E:fq} {ops:Array Oper} {D:hP} {C' C1:List av} {F:dh→List av→Prop} {tb rem:List Nat} {n i:Nat} {L:dh} {C:List av} {o:Oper} (ho:ops[i]? =some o) (ht:tb.contains i=false) (rem':List Nat)
 (h: ∀ K:Act→World→Prop,(∀ L' C'',(∀ w,St E.S E.w0 C'' w→St E.S E.w0 C' w)→TN E ops D C' C1 F tb n rem' L' C''→KJ E K D L' C'')→RJ E ops (NQ K) [o] D L C) (hr:rem=rem':=by kernel_rfl):C4 E ops D C' C1 F tb n rem i L C:=iJ ho hr ht h
theorem RD {E:fq} {ops:Array Oper} {K:Act→World→Prop} {D:hP} {L:dh} {C C':List av} {X:dh→List av→Prop} (hT: ∀ L' C'',(∀ w,St E.S E.w0 C'' w→St E.S E.w0 C' w)→X L' C''→KJ E K D L' C'')
 (k:Nat) (h2:C.drop k=C') (h:X L C):RJ E ops (NQ K) [] D L C:=aA (hT _ _ (fun w hs=>h2▸hs.take (List.drop_sublist k C)) h)
theorem aU {L L':dh} (h:L'.map (fun p=>L.lookup p.1)=L'.map (fun p=>some p.2)):dF L L':=by
 induction L' with
 |nil=>exact dF.nil _
 |cons p t ih=>
  simp only [List.map_cons,List.cons.injEq] at h
  exact dF.cons h.1 (ih h.2)
theorem NR {C:List av} {A A' B B' D D':av} (i j k:Nat) (h1:C[i]? =some A') (e1:A'.holds=A.holds) (h2:C[j]? =some B') (e2:B'.holds=B.holds) (h3:C[k]? =some D') (e3:D'.holds=D.holds):kF C [A,B,D]:=fP i h1 e1 (fP j h2 e2 (fP k h3 e3 aI))
theorem bS {E:fq} {c:Operand} {x y:Code} {b:Bool} {Q:df} {D:List Deferred} {L:List (Nat×Value)} {C:List av} (hc:ev L c=some (.bool b)) (h2:b=false→WJ E y Q D L C) (h1:b=true→WJ E x Q D L C):WJ E (.cond c x y) Q D L C:=cP hc h1 h2
theorem cu {E:fq} {ops:Array Oper} {Q:df} {rest:List Oper} {D:List Deferred} {L:List (Nat×Value)} {C:List av} {t:Nat} {b:Bool} (h:L.lookup t=some (.bool b)) (h2:b=false→RJ E ops Q rest D ((t,.bool false)::L) C) (h1:b=true→RJ E ops Q rest D ((t,.bool true)::L) C):RJ E ops Q rest D L C:=dp h h1 h2
theorem jl {E:fq} {ops:Array Oper} {Q:df} {rest:List Oper} {D:List Deferred} {L:List (Nat×Value)} {C:List av} {t:Nat} {b:Bool} {os:List Oper} (h:L.lookup t=some (.bool b)) (h2:b=false→DJ E ops D C (fun L2=>RJ E ops Q rest D L2 C) os ((t,.bool false)::L)) (h1:b=true→DJ E ops D C (fun L2=>RJ E ops Q rest D L2 C) os ((t,.bool true)::L)):DJ E ops D C (fun L2=>RJ E ops Q rest D L2 C) os L:=js h h1 h2
theorem cU {L:List (Nat×Value)}: ∀ (k:Nat) {L2:List (Nat×Value)} (q:dF L (L2.drop k)) (h:(L2.take k).map (fun p=>L.lookup p.1)=(L2.take k).map (fun p=>some p.2):=by rfl),dF L L2
 |0,_,q,_=>q
 |_+1,[],_,_=>dF.nil _
 |k+1,p::L2,q,h=>by
  obtain ⟨A,B⟩:=List.cons.inj (show L.lookup p.1::(L2.take k).map (fun p=>L.lookup p.1)=some p.2::(L2.take k).map (fun p=>some p.2) from h)
  exact dF.cons (t:=p.1) (v:=p.2) A (cU k q B)
theorem oX {E:fq} {ops:Array Oper} {Q:df} {rest:List Oper} {D:List Deferred} {L:List (Nat×Value)} {C:List av} {d:Nat} {ty:TypeId} {ps:String} {af:Array Edge} {g:Option (Nat×Bool)} {op:Op} (k:RJ E ops Q rest D ((d,undef)::L) C) (h:(DK ops L g&&Nat.blt d E.n)=true:=by rfl):RJ E ops Q (⟨some d,op,ty,ps,af,g⟩::rest) D L C:=rS (OX h) k
theorem dX {E:fq} {ops:Array Oper} {F:List (Nat×Value)→Prop} {rest:List Oper} {D:List Deferred} {L:List (Nat×Value)} {C:List av} {d:Nat} {ty:TypeId} {ps:String} {af:Array Edge} {g:Option (Nat×Bool)} {op:Op} (k:DJ E ops D C F rest ((d,undef)::L)) (h:(DK ops L g&&Nat.blt d E.n)=true:=by rfl):DJ E ops D C F (⟨some d,op,ty,ps,af,g⟩::rest) L:=dS (OX h) k
end
section
open Go.RowKit
/-- what of a slice is left from k on -/
def wO (A:OA) (c k sz:Nat):OA:=if c=k then A else A.map (·.add (k*sz))
section
variable {E:fq} {ops:Array Oper} {Q:df} {rest:List Oper} {D:List Deferred} {L:List (Nat×Value)} {C:List av}
variable {d:Nat} {ty:TypeId} {ps:String} {af:Array Edge} {g:Option (Nat×Bool)}
theorem GK {P:Program} {t e sz:Nat} (h:tE P t=some (e,sz)) (w:World):P.underlying t=some (.slice e)∧(sizeOf e).run P w= .ok sz w:=by
 unfold tE at h
 split at h
 ·rename_i e' hu
  split at h
  ·rename_i i hi
   cases h
   exact ⟨hu,by simp [sizeOf,typeInfo,hi]⟩
  ·cases h
 ·cases h
theorem wG {P:Program} {t e:Nat} (h:P.underlying t=some (.slice e)):P.underlying t=some (.slice (P.elem t)):=by
 rw [h]; simp [Program.elem,h]
theorem GN {P:Program} {t e:Nat} (h:P.underlying t=some (.slice e)):P.elem t=e:=by simp [Program.elem,h]
/-- s[k:] -/
theorem UU (k:Nat) {x lo:Operand} {t e sz n c:Nat} {A:OA} {j:Int} (h:bF E.n ops L d g x lo=some (.slice A n c,.int .i64 j)) (ht:tE E.P t=some (e,sz)) (hj:j=(k:Int)) (hk:k≤n):
 SE E ops ⟨some d,.slice t x (some lo) none none,ty,ps,af,g⟩ D L C (.slice (wO A c k sz) (n-k) (c-k)) d:=by
 obtain ⟨G,H,AA,J⟩:=qJ h
 subst hj
 refine ⟨dY G sm fun a w B hs=>?_,U,H⟩
 obtain ⟨hu,hz⟩:=GK ht w
 have hr:=run_slice_l (P:=E.P) w t A n c (wG hu) .i64 (k:Int) I I
 rw [GN hu,hz] at hr
 simp only [Result.andThen,Int.toNat_natCast,sliced] at hr
 have F:=run_sliceAt_slice (P:=E.P) w t (.slice A n c) (some (.int .i64 (k:Int))) none none (wG hu)
 simp [execOp,B.ev AA,B.ev J,F,hr,wO]
/-- s[:k] -/
theorem UB (k:Nat) {x hi:Operand} {t e sz n c:Nat} {A:OA} {j:Int} (h:bF E.n ops L d g x hi=some (.slice A n c,.int .i64 j)) (ht:tE E.P t=some (e,sz)) (hj:j=(k:Int)) (hk:k≤c):
 SE E ops ⟨some d,.slice t x none (some hi) none,ty,ps,af,g⟩ D L C (.slice A k c) d:=by
 obtain ⟨H,AA,J,K⟩:=qJ h
 subst hj
 refine ⟨dY H sm fun a w B hs=>?_,U,AA⟩
 obtain ⟨hu,hz⟩:=GK ht w
 have hr:=run_slice_h (P:=E.P) w t A n c (wG hu) .i64 (k:Int) I I
 rw [GN hu,hz] at hr
 have G:(if c=0 then A else A.map (·.add (0*sz)))=A:=by
  split
  ·rfl
  ·cases A with
   |none=>rfl
   |some ad=>simp [Addr.add]
 simp only [Result.andThen,Int.toNat_natCast,sliced,G,Nat.sub_zero] at hr
 have F:=run_sliceAt_slice (P:=E.P) w t (.slice A n c) none (some (.int .i64 (k:Int))) none (wG hu)
 simp [execOp,B.ev J,B.ev K,F,hr]
/-- an element of a row whose place is known -/
theorem V0 (k:Nat) {x ix:Operand} {A:OA} {ad:Addr} {n c sz e t:Nat} {j:Int} (h:bF E.n ops L d g x ix=some (.slice A n c,.int .i64 j)) (hA:A=some ad) (ht:tE E.P t=some (e,sz)) (hj:j=(k:Int)) (hk:k<n):
 SE E ops ⟨some d,.indexAddr t x ix,ty,ps,af,g⟩ D L C (.pointer (lZ A (k*sz))) d:=by
 obtain ⟨F,G,H,AA⟩:=qJ h
 refine ⟨dY F sm fun a w B hs=>?_,U,G⟩
 subst hA hj
 simp [execOp,B.ev H,B.ev AA,lZ,qw ht hk]
end
theorem ES {C:List av} {A:OA} {n c k sz:Nat} {es:List (List Value)} (hR:iA C (rd A n sz es).holds) (hk:k≤n) (hc:n≤c):iA C (rd (wO A c k sz) (n-k) sz (es.drop k)).holds:=fun w hw=>by
 obtain ⟨D,E,F⟩:=hR w hw
 refine ⟨by rw [List.length_drop,D],fun x hx=>E x (List.mem_of_mem_drop hx),fun hp=>?_⟩
 have G:0<n-k:=Nat.pos_of_mul_pos_right hp
 have hs:0<sz:=Nat.pos_of_mul_pos_left hp
 obtain ⟨ad,hA,B⟩:=F (Nat.mul_pos I hs)
 refine ⟨ad.add (k*sz),?_,fun i e j v he hv=>?_⟩
 ·unfold wO; rw [if_neg I,hA]; rfl
 ·rw [List.getElem?_drop] at he
  have:=B (k+i) e j v he hv
  rw [ux,show k*sz+(i*sz+j)=(k+i)*sz+j by rw [Nat.add_mul,Nat.add_assoc]]
  exact this
theorem Ad {w:World} {a:OA} {c e sz:Nat} {es:List (List Value)} (h:(own a c e sz es).holds w):es.length≤c:=by
 rcases h.2.2 with ⟨A,B⟩|⟨g,cap,cur,hv,_,_,C,_⟩
 ·omega
 ·injection hv with _ _ hc; omega
end
section
open Go.RowKit
/-- an array's length, its elements' type and their size -/
def aE (P:Program) (t:TypeId):Option (Nat×TypeId×Nat):=
 match P.underlying t with
 |some (.array n e)=>match P.info? e with
  |some i=>some (n,e,i.size)
  |none=>none
 |_=>none
theorem GC {P:Program} {t n e sz:Nat} (h:aE P t=some (n,e,sz)) (w:World):P.underlying t=some (.array n e)∧(sizeOf e).run P w= .ok sz w:=by
 unfold aE at h
 split at h
 ·rename_i n' e' hu
  split at h
  ·rename_i i hi
   cases h
   exact ⟨hu,by simp [sizeOf,typeInfo,hi]⟩
  ·cases h
 ·cases h
theorem wc {P:Program} {t n e sz:Nat} (h:aE P t=some (n,e,sz)) (a:Addr) (w:World):
 (Instr.sliceAt t (.pointer (some a)) none none none).run P w= .ok (.slice (some a) n n) w:=by
 obtain ⟨hu,hz⟩:=GC h w
 have A:a.add 0=a:=by simp [Addr.add]
 simp [Instr.sliceAt,underlying,hu,Instr.sureAddr,Instr.sliceBounds,hz,A]
theorem we {P:Program} {t n e sz:Nat} (h:aE P t=some (n,e,sz)) (a:Addr) {k:Nat} (hk:k<n) (w:World):
 (Instr.indexAt t (.pointer (some a)) (.int .i64 (k:Int))).run P w= .ok (.pointer (some (a.add (k*sz)))) w:=by
 obtain ⟨hu,hz⟩:=GC h w
 have A: ¬ n≤k:=by omega
 simp [Instr.indexAt,underlying,hu,Instr.sureAddr,asIntOf,hz,A]
 try exact fun h=>absurd h A
 try omega
section
variable {E:fq} {ops:Array Oper} {Q:df} {rest:List Oper} {D:List Deferred} {L:List (Nat×Value)} {C:List av}
variable {dst:Option Nat} {ty:TypeId} {ps:String} {af:Array Edge} {g:Option (Nat×Bool)}
theorem EI {x:Operand} {a:Addr} {t n e sz:Nat} (hg:jL ops L g=true) (hx:ev L x=some (.pointer (some a))) (ht:aE E.P t=some (n,e,sz)):
 SD E ops ⟨dst,.slice t x none none none,ty,ps,af,g⟩ D L C (.slice (some a) n n):=
 dY hg sm fun b w A hs=>by
  simp [execOp,A.ev hx,wc ht]
theorem Ek {x ix:Operand} {a:Addr} {t n e sz k:Nat} {j:Int} (hg:jL ops L g=true) (hx:ev L x=some (.pointer (some a))) (hi:ev L ix=some (.int .i64 j)) (ht:aE E.P t=some (n,e,sz)) (hj:j=(k:Int)) (hk:k<n):
 SD E ops ⟨dst,.indexAddr t x ix,ty,ps,af,g⟩ D L C (.pointer (lZ (some a) (k*sz))):=
 dY hg sm fun b w A hs=>by
  subst hj
  simp [execOp,A.ev hx,A.ev hi,lZ,we ht a hk]
end
end
section
open Go.RowKit
/-- a table of facts on the program's types -/
structure DQ where
 tk:List (Nat×Bool×Nat)
 fo:List (Nat×List (Option Nat))
 sl:List Nat
def Rz {α:Type}:List (Nat×α)→Nat→Option α
 |[],_=>none
 |(k,v)::l,t=>match Nat.beq k t with
  |true=>some v
  |false=>Rz l t
theorem Al {α:Type}: ∀ {l:List (Nat×α)} {t:Nat} {v:α},Rz l t=some v→(t,v)∈l
 |[],t,v,h=>by simp [Rz] at h
 |(k,u)::l,t,v,h=>by
  unfold Rz at h
  split at h
  ·rename_i hb
   cases h
   rw [Nat.eq_of_beq_eq_true hb]; exact cq
  ·exact cV _ (Al h)
def MT:List Nat→Nat→Bool
 |[],_=>false
 |k::l,t=>match Nat.beq k t with
  |true=>true
  |false=>MT l t
theorem Dk: ∀ {l:List Nat} {t:Nat},MT l t=true→t∈l
 |[],t,h=>by simp [MT] at h
 |k::l,t,h=>by
  unfold MT at h
  split at h
  ·rename_i hb
   rw [Nat.eq_of_beq_eq_true hb]; exact cq
  ·exact cV _ (Dk h)
def DQ.KX (T:DQ) (t:Nat):Option (Bool×Nat):=Rz T.tk t
def DQ.foF (T:DQ) (s f:Nat):Option Nat:=match Rz T.fo s with
 |some l=>match l[f]? with
  |some (some k)=>some k
  |_=>none
 |none=>none
structure lD (P:Program) (T:DQ):Prop where
 tk: ∀ p∈T.tk,tK P p.1=some p.2
 fo: ∀ p∈T.fo,∀ f k,p.2[f]? =some (some k)→rj P p.1 f=some k
 sl: ∀ t∈T.sl,∃ e,P.underlying t=some (.slice e)
theorem lD.KX {P:Program} {T:DQ} (h:lD P T) {t:Nat} {r:Bool×Nat} (e:T.KX t=some r):tK P t=some r:=h.tk _ (Al e)
theorem lD.foF {P:Program} {T:DQ} (h:lD P T) {s f k:Nat} (e:T.foF s f=some k):rj P s f=some k:=by
 unfold DQ.foF at e
 split at e
 ·rename_i l hl
  split at e
  ·rename_i k' hk
   cases e
   exact h.fo _ (Al hl) f k hk
  ·cases e
 ·cases e
def Ux (P:Program) (T:DQ):Bool:=(T.tk.all fun p=>decide (tK P p.1=some p.2))&&(T.fo.all fun p=>(List.range p.2.length).all fun f=>match p.2[f]? with
 |some (some k)=>decide (rj P p.1 f=some k)
 |_=>true)&&T.sl.all fun t=>match P.underlying t with
 |some (.slice _)=>true
 |_=>false
theorem PW {P:Program} {T:DQ} (h:Ux P T=true):lD P T:=by
 unfold Ux at h
 rw [cS,cS] at h
 obtain ⟨⟨B,C⟩,D⟩:=h
 refine ⟨fun p hp=>by simpa using cW.1 B p hp,fun p hp f k hk=>?_,fun t ht=>?_⟩
 ·have A:=cW.1 (cW.1 C p hp) f (List.mem_range.2 (aY.1 hk).1)
  rw [hk] at A
  simpa using A
 ·have A:=cW.1 D t ht
  split at A
  ·rename_i e he; exact ⟨e,he⟩
  ·cases A
end
section
theorem N8:tK Tryz.prog 3=some (false,1):=by kernel_rfl
theorem We:tK Tryz.prog 4=some (false,1):=by kernel_rfl
theorem UT:tK Tryz.prog 22=some (false,1):=by kernel_rfl
theorem Sg:tK Tryz.prog 24=some (true,1):=by kernel_rfl
theorem Qy:tK Tryz.prog 25=some (false,1):=by kernel_rfl
theorem VI:tK Tryz.prog 26=some (false,1):=by kernel_rfl
theorem Vl:tK Tryz.prog 28=some (true,7):=by kernel_rfl
theorem VF:tK Tryz.prog 29=some (false,1):=by kernel_rfl
theorem Vf:tK Tryz.prog 30=some (false,1):=by kernel_rfl
theorem RV:tK Tryz.prog 32=some (true,11):=by kernel_rfl
theorem U6:tK Tryz.prog 40=some (false,1):=by kernel_rfl
theorem VN:tK Tryz.prog 45=some (true,2):=by kernel_rfl
theorem UN:tK Tryz.prog 47=some (false,1):=by kernel_rfl
theorem S9:tK Tryz.prog 51=some (false,1):=by kernel_rfl
theorem Vr:tK Tryz.prog 53=some (true,2):=by kernel_rfl
theorem Vo:tK Tryz.prog 55=some (true,3):=by kernel_rfl
theorem Q4:tK Tryz.prog 56=some (false,1):=by kernel_rfl
theorem Vt:tK Tryz.prog 58=some (false,1):=by kernel_rfl
theorem Vd:tK Tryz.prog 60=some (true,3):=by kernel_rfl
theorem Vs:tK Tryz.prog 62=some (true,7):=by kernel_rfl
theorem UL:tK Tryz.prog 94=some (false,1):=by kernel_rfl
theorem Tl:tK Tryz.prog 107=some (true,2):=by kernel_rfl
theorem Sw:tK Tryz.prog 109=some (false,1):=by kernel_rfl
theorem Tg:tK Tryz.prog 110=some (false,1):=by kernel_rfl
theorem Sd:tK Tryz.prog 153=some (true,9):=by kernel_rfl
theorem Sa:tK Tryz.prog 158=some (true,3):=by kernel_rfl
theorem S0:tK Tryz.prog 164=some (false,1):=by kernel_rfl
theorem Ui:tK Tryz.prog 170=some (false,1):=by kernel_rfl
theorem T1:tK Tryz.prog 172=some (true,2):=by kernel_rfl
theorem SK:tK Tryz.prog 180=some (true,1):=by kernel_rfl
theorem TY:tK Tryz.prog 181=some (true,4):=by kernel_rfl
theorem SZ:tK Tryz.prog 237=some (true,1):=by kernel_rfl
theorem TD:tK Tryz.prog 264=some (false,1):=by kernel_rfl
theorem SC:tK Tryz.prog 266=some (true,3):=by kernel_rfl
theorem Cs:(tK Tryz.prog 3).map (·.2)=some 1:=by rw [N8]; rfl
theorem VW:(tK Tryz.prog 22).map (·.2)=some 1:=by rw [UT]; rfl
theorem Uq:(tK Tryz.prog 24).map (·.2)=some 1:=by rw [Sg]; rfl
theorem Tx:(tK Tryz.prog 25).map (·.2)=some 1:=by rw [Qy]; rfl
theorem SG:(tK Tryz.prog 26).map (·.2)=some 1:=by rw [VI]; rfl
theorem Qz:(tK Tryz.prog 28).map (·.2)=some 7:=by rw [Vl]; rfl
theorem xN:(tK Tryz.prog 29).map (·.2)=some 1:=by rw [VF]; rfl
theorem Sv:(tK Tryz.prog 30).map (·.2)=some 1:=by rw [Vf]; rfl
theorem rZ:(tK Tryz.prog 32).map (·.2)=some 11:=by rw [RV]; rfl
theorem N5:(tK Tryz.prog 40).map (·.2)=some 1:=by rw [U6]; rfl
theorem cy:(tK Tryz.prog 45).map (·.2)=some 2:=by rw [VN]; rfl
theorem UP:(tK Tryz.prog 47).map (·.2)=some 1:=by rw [UN]; rfl
theorem Kp:(tK Tryz.prog 51).map (·.2)=some 1:=by rw [S9]; rfl
theorem TZ:(tK Tryz.prog 53).map (·.2)=some 2:=by rw [Vr]; rfl
theorem AT:(tK Tryz.prog 55).map (·.2)=some 3:=by rw [Vo]; rfl
theorem SA:(tK Tryz.prog 56).map (·.2)=some 1:=by rw [Q4]; rfl
theorem TX:(tK Tryz.prog 58).map (·.2)=some 1:=by rw [Vt]; rfl
theorem Q_:(tK Tryz.prog 60).map (·.2)=some 3:=by rw [Vd]; rfl
theorem Ri:(tK Tryz.prog 62).map (·.2)=some 7:=by rw [Vs]; rfl
theorem Tv:(tK Tryz.prog 94).map (·.2)=some 1:=by rw [UL]; rfl
theorem yz:(tK Tryz.prog 107).map (·.2)=some 2:=by rw [Tl]; rfl
theorem Uv:(tK Tryz.prog 109).map (·.2)=some 1:=by rw [Sw]; rfl
theorem Ss:(tK Tryz.prog 110).map (·.2)=some 1:=by rw [Tg]; rfl
theorem Km:(tK Tryz.prog 153).map (·.2)=some 9:=by rw [Sd]; rfl
theorem IU:(tK Tryz.prog 158).map (·.2)=some 3:=by rw [Sa]; rfl
theorem zi:(tK Tryz.prog 164).map (·.2)=some 1:=by rw [S0]; rfl
theorem LC:(tK Tryz.prog 170).map (·.2)=some 1:=by rw [Ui]; rfl
theorem sx:(tK Tryz.prog 172).map (·.2)=some 2:=by rw [T1]; rfl
theorem F5:(tK Tryz.prog 180).map (·.2)=some 1:=by rw [SK]; rfl
theorem To:(tK Tryz.prog 181).map (·.2)=some 4:=by rw [TY]; rfl
theorem ML:(tK Tryz.prog 237).map (·.2)=some 1:=by rw [SZ]; rfl
theorem SR:(tK Tryz.prog 264).map (·.2)=some 1:=by rw [TD]; rfl
theorem SL:(tK Tryz.prog 266).map (·.2)=some 3:=by rw [SC]; rfl
theorem z8:aE Tryz.prog 188=some (3,187,2):=by kernel_rfl
theorem Jr:rj Tryz.prog 28 2=some 2:=by kernel_rfl
theorem Kr:rj Tryz.prog 53 1=some 1:=by kernel_rfl
theorem Qf:rj Tryz.prog 62 0=some 0:=by kernel_rfl
theorem VE:r9 Tryz.prog 45=true:=by kernel_rfl
theorem UR:r9 Tryz.prog 69=true:=by kernel_rfl
theorem US:r9 Tryz.prog 82=true:=by kernel_rfl
theorem ia (l:List aa): ∀ v∈(l.map aa.cells).flatten,v.oneCell'=true:=mP (fun _=>rfl) l
theorem e_ (l:List bJ): ∀ v∈(l.map bJ.cells).flatten,v.oneCell'=true:=mP (fun _=>rfl) l
theorem oS (l:List aK): ∀ v∈(l.map aK.cells).flatten,v.oneCell'=true:=mP (fun _=>rfl) l
theorem nH (l:List ak): ∀ v∈(l.map ak.cells).flatten,v.oneCell'=true:=mP (fun _=>rfl) l
theorem qh (l:List bE): ∀ v∈(l.map bE.cells).flatten,v.oneCell'=true:=mP (fun _=>rfl) l
theorem Up:tA Tryz.prog 22=some (153,9,72,(Value.agg [(vI 0),(vI 0),(vI 0),(vI 0),(vI 0),(vI 0),(vI 0),(Value.int .u8 0),(vI 0)].toArray)):=by kernel_rfl
theorem TI:tA Tryz.prog 25=some (53,2,32,(Value.agg [(vI 0),(vS none 0 0)].toArray)):=by kernel_rfl
theorem SV:tA Tryz.prog 26=some (160,4,32,(Value.agg [(vI 0),(vI 0),(vI 0),(vI 0)].toArray)):=by kernel_rfl
theorem pw:tA Tryz.prog 29=some (3,1,8,(vI 0)):=by kernel_rfl
theorem S5:tA Tryz.prog 30=some (56,1,24,(vS none 0 0)):=by kernel_rfl
theorem yA:tA Tryz.prog 51=some (55,3,24,(Value.agg [(vI 0),(vI 0),(vI 0)].toArray)):=by kernel_rfl
theorem Sc:tA Tryz.prog 56=some (62,7,64,(Value.agg [(vB false),(vB false),(vI 0),(vI 0),(vI 0),(vI 0),(vS none 0 0)].toArray)):=by kernel_rfl
theorem SI:tA Tryz.prog 58=some (107,2,16,(Value.agg [(vI 0),(vI 0)].toArray)):=by kernel_rfl
theorem Vn:tA Tryz.prog 66=some (29,1,24,(vS none 0 0)):=by kernel_rfl
theorem w4:tA Tryz.prog 109=some (45,2,16,(Value.agg [(vI 0),(vI 0)].toArray)):=by kernel_rfl
theorem PE:tA Tryz.prog 110=some (109,1,24,(vS none 0 0)):=by kernel_rfl
theorem RF:tA Tryz.prog 163=some (40,1,8,(Value.map none)):=by kernel_rfl
theorem B0:tA Tryz.prog 164=some (170,1,8,(Value.map none)):=by kernel_rfl
theorem Pf:tA Tryz.prog 257=some (269,3,72,(Value.agg [(vS none 0 0),(vS none 0 0),(vS none 0 0)].toArray)):=by kernel_rfl
theorem RR:tA Tryz.prog 264=some (4,1,1,(vB false)):=by kernel_rfl
theorem SP:tB Tryz.prog 24=some ([(vS none 0 0)],[(0,1)]):=by kernel_rfl
theorem VS:tB Tryz.prog 28=some ([(vS none 0 0),(vI 0),(vS none 0 0),(vS none 0 0),(vI 0),(vI 0),(vI 0)],[(0,1),(1,1),(2,1),(3,1),(4,1),(5,1),(6,1)]):=by kernel_rfl
theorem Ha:tB Tryz.prog 32=some ([(vS none 0 0),(vI 0),(vS none 0 0),(vS none 0 0),(vI 0),(vI 0),(vI 0),(vS none 0 0),(vS none 0 0),(vI 0),(vS none 0 0)],[(0,7),(7,1),(8,1),(9,1),(10,1)]):=by kernel_rfl
theorem gH:tB Tryz.prog 45=some ([(vI 0),(vI 0)],[(0,1),(1,1)]):=by kernel_rfl
theorem UJ:tB Tryz.prog 53=some ([(vI 0),(vS none 0 0)],[(0,1),(1,1)]):=by kernel_rfl
theorem Tu:tB Tryz.prog 55=some ([(vI 0),(vI 0),(vI 0)],[(0,1),(1,2)]):=by kernel_rfl
theorem U4:tB Tryz.prog 60=some ([(vI 0),(vI 0),(vS none 0 0)],[(0,1),(1,1),(2,1)]):=by kernel_rfl
theorem Qh:tB Tryz.prog 62=some ([(vB false),(vB false),(vI 0),(vI 0),(vI 0),(vI 0),(vS none 0 0)],[(0,1),(1,1),(2,2),(4,3)]):=by kernel_rfl
theorem Gh:tB Tryz.prog 107=some ([(vI 0),(vI 0)],[(0,1),(1,1)]):=by kernel_rfl
theorem Sh:tB Tryz.prog 112=some ([(vS none 0 0),(vI 0),(vS none 0 0),(vS none 0 0),(vI 0),(vI 0),(vI 0),(vS none 0 0),(vS none 0 0),(vI 0),(vS none 0 0),(vS none 0 0),(Value.map none)],[(0,11),(11,1),(12,1)]):=by kernel_rfl
theorem RO:tB Tryz.prog 153=some ([(vI 0),(vI 0),(vI 0),(vI 0),(vI 0),(vI 0),(vI 0),(Value.int .u8 0),(vI 0)],[(0,1),(1,2),(3,2),(5,2),(7,1),(8,1)]):=by kernel_rfl
theorem Te:tB Tryz.prog 158=some ([(vI 0),(vI 0),(vI 0)],[(0,1),(1,2)]):=by kernel_rfl
theorem Jm:tB Tryz.prog 160=some ([(vI 0),(vI 0),(vI 0),(vI 0)],[(0,3),(3,1)]):=by kernel_rfl
theorem RW:tB Tryz.prog 166=some ([(vS none 0 0),(vI 0),(vS none 0 0),(vS none 0 0),(vI 0),(vI 0),(vI 0),(vI 0),(vI 0),(vS none 0 0),(vS none 0 0),(vS none 0 0),(vS none 0 0),(vS none 0 0)],[(0,7),(7,3),(10,1),(11,1),(12,1),(13,1)]):=by kernel_rfl
theorem CC:tB Tryz.prog 172=some ([(vI 0),(vI 0)],[(0,1),(1,1)]):=by kernel_rfl
theorem F2:tB Tryz.prog 180=some ([Value.nilFunc],[(0,1)]):=by kernel_rfl
theorem Ua:tB Tryz.prog 181=some ([Value.nilFunc,Value.nilFunc,Value.nilFunc,Value.nilFunc],[(0,1),(1,1),(2,1),(3,1)]):=by kernel_rfl
theorem Tc:tB Tryz.prog 193=some ([(vI 0),(vI 0)],[(0,1),(1,1)]):=by kernel_rfl
theorem Us:tB Tryz.prog 237=some ([(vS none 0 0)],[(0,1)]):=by kernel_rfl
theorem RB:tB Tryz.prog 269=some ([(vS none 0 0),(vS none 0 0),(vS none 0 0)],[(0,1),(1,1),(2,1)]):=by kernel_rfl
theorem wQ:tE Tryz.prog 22=some (153,9):=by kernel_rfl
theorem uQ:tE Tryz.prog 25=some (53,2):=by kernel_rfl
theorem vo:tE Tryz.prog 26=some (160,4):=by kernel_rfl
theorem cL:tE Tryz.prog 29=some (3,1):=by kernel_rfl
theorem ou:tE Tryz.prog 30=some (56,1):=by kernel_rfl
theorem pz:tE Tryz.prog 51=some (55,3):=by kernel_rfl
theorem ug:tE Tryz.prog 56=some (62,7):=by kernel_rfl
theorem yK:tE Tryz.prog 58=some (107,2):=by kernel_rfl
theorem pJ:tE Tryz.prog 66=some (29,1):=by kernel_rfl
theorem g4:tE Tryz.prog 109=some (45,2):=by kernel_rfl
theorem FG:tE Tryz.prog 110=some (109,1):=by kernel_rfl
theorem Ph:tE Tryz.prog 162=some (124,1):=by kernel_rfl
theorem Gw:tE Tryz.prog 163=some (40,1):=by kernel_rfl
theorem oN:tE Tryz.prog 164=some (170,1):=by kernel_rfl
theorem II:tE Tryz.prog 184=some (187,2):=by kernel_rfl
theorem Js:tE Tryz.prog 251=some (158,3):=by kernel_rfl
theorem F4:tE Tryz.prog 257=some (269,3):=by kernel_rfl
theorem Pj:tE Tryz.prog 264=some (4,1):=by kernel_rfl
theorem Af:(match Tryz.prog.underlying 45 with |some (.struct fs)=>(fs[0]?).map (fun fl=>tK Tryz.prog fl.type)|_=>none)=some (some (false,1)):=by kernel_rfl
theorem AU:(match Tryz.prog.underlying 45 with |some (.struct fs)=>(fs[1]?).map (fun fl=>tK Tryz.prog fl.type)|_=>none)=some (some (false,1)):=by kernel_rfl
theorem V4:tV Tryz.prog 3=some (vI 0):=by kernel_rfl
theorem xy:tV Tryz.prog 45=some (Value.agg [(vI 0),(vI 0)].toArray):=by kernel_rfl
theorem GD:tX Tryz.prog 181=some (4,180):=by kernel_rfl
theorem Gn:tX Tryz.prog 193=some (2,3):=by kernel_rfl
theorem jA:tZ Tryz.prog 3=some [(vI 0)]:=by kernel_rfl
theorem Wc:tZ Tryz.prog 4=some [(vB false)]:=by kernel_rfl
theorem AD:tZ Tryz.prog 12=some [(Value.int .u64 0)]:=by kernel_rfl
theorem Vu:tZ Tryz.prog 24=some [(vS none 0 0)]:=by kernel_rfl
theorem Ur:tZ Tryz.prog 28=some [(vS none 0 0),(vI 0),(vS none 0 0),(vS none 0 0),(vI 0),(vI 0),(vI 0)]:=by kernel_rfl
theorem v8:tZ Tryz.prog 29=some [(vS none 0 0)]:=by kernel_rfl
theorem yF:tZ Tryz.prog 32=some [(vS none 0 0),(vI 0),(vS none 0 0),(vS none 0 0),(vI 0),(vI 0),(vI 0),(vS none 0 0),(vS none 0 0),(vI 0),(vS none 0 0)]:=by kernel_rfl
theorem RU:tZ Tryz.prog 40=some [(Value.map none)]:=by kernel_rfl
theorem dv:tZ Tryz.prog 45=some [(vI 0),(vI 0)]:=by kernel_rfl
theorem Vp:tZ Tryz.prog 47=some [(Value.map none)]:=by kernel_rfl
theorem Ov:tZ Tryz.prog 53=some [(vI 0),(vS none 0 0)]:=by kernel_rfl
theorem vr:tZ Tryz.prog 55=some [(vI 0),(vI 0),(vI 0)]:=by kernel_rfl
theorem Vm:tZ Tryz.prog 56=some [(vS none 0 0)]:=by kernel_rfl
theorem Un:tZ Tryz.prog 60=some [(vI 0),(vI 0),(vS none 0 0)]:=by kernel_rfl
theorem Ns:tZ Tryz.prog 62=some [(vB false),(vB false),(vI 0),(vI 0),(vI 0),(vI 0),(vS none 0 0)]:=by kernel_rfl
theorem RI:tZ Tryz.prog 94=some [(Value.pointer none)]:=by kernel_rfl
theorem FP:tZ Tryz.prog 107=some [(vI 0),(vI 0)]:=by kernel_rfl
theorem Pq:tZ Tryz.prog 109=some [(vS none 0 0)]:=by kernel_rfl
theorem TB:tZ Tryz.prog 124=some [Value.nilFunc]:=by kernel_rfl
theorem F8:tZ Tryz.prog 153=some [(vI 0),(vI 0),(vI 0),(vI 0),(vI 0),(vI 0),(vI 0),(Value.int .u8 0),(vI 0)]:=by kernel_rfl
theorem Dr:tZ Tryz.prog 158=some [(vI 0),(vI 0),(vI 0)]:=by kernel_rfl
theorem S4:tZ Tryz.prog 160=some [(vI 0),(vI 0),(vI 0),(vI 0)]:=by kernel_rfl
theorem uj:tZ Tryz.prog 172=some [(vI 0),(vI 0)]:=by kernel_rfl
theorem FZ:tZ Tryz.prog 180=some [Value.nilFunc]:=by kernel_rfl
theorem S7:tZ Tryz.prog 181=some [Value.nilFunc,Value.nilFunc,Value.nilFunc,Value.nilFunc]:=by kernel_rfl
theorem JG:tZ Tryz.prog 237=some [(vS none 0 0)]:=by kernel_rfl
theorem Pm:tZ Tryz.prog 266=some [(vS none 0 0),(vS none 0 0),(vS none 0 0)]:=by kernel_rfl
theorem SO:tZ Tryz.prog 269=some [(vS none 0 0),(vS none 0 0),(vS none 0 0)]:=by kernel_rfl
theorem qp:Tryz.prog.underlying 3=some (.int .i64):=by kernel_rfl
theorem V1:Tryz.prog.underlying 4=some .bool:=by kernel_rfl
theorem Ru:Tryz.prog.underlying 5=some (.int .u8):=by kernel_rfl
theorem V7:Tryz.prog.underlying 9=some .string:=by kernel_rfl
theorem QM:Tryz.prog.underlying 22=some (.slice 153):=by kernel_rfl
theorem Tp:Tryz.prog.underlying 25=some (.slice 53):=by kernel_rfl
theorem QU:Tryz.prog.underlying 26=some (.slice 160):=by kernel_rfl
theorem TL:Tryz.prog.underlying 29=some (.slice 3):=by kernel_rfl
theorem So:Tryz.prog.underlying 30=some (.slice 56):=by kernel_rfl
theorem ot:Tryz.prog.underlying 40=some (.map 3 45):=by kernel_rfl
theorem BW:Tryz.prog.underlying 47=some (.map 3 4):=by kernel_rfl
theorem Ut:Tryz.prog.underlying 51=some (.slice 55):=by kernel_rfl
theorem RH:Tryz.prog.underlying 56=some (.slice 62):=by kernel_rfl
theorem Tk:Tryz.prog.underlying 58=some (.slice 107):=by kernel_rfl
theorem Tt:Tryz.prog.underlying 150=some (.int .u64):=by kernel_rfl
theorem pd:Tryz.prog.underlying 170=some (.map 172 3):=by kernel_rfl
theorem Td:Tryz.prog.underlying 205=some (.int .u64):=by kernel_rfl
theorem Qn:fL Tryz.prog 45=some [(3,0),(3,1)]:=by kernel_rfl
theorem PI (d:Nat) (s z:aa) (w:World):(Op.equalIn (d+2) 45 (.agg s.cells.toArray) (.agg z.cells.toArray)).run Tryz.prog w= .ok (decide (s=z)) w:=by
 have hc:(decide (s.Lo=z.Lo)&&(decide (s.Hi=z.Hi)&&true))=decide (s=z):=by rw [Bool.eq_iff_iff]; simp [aa.ext_iff]
 rw [← hc]
 exact xo (d+1) Qn w (tR w (kg N8 U w) (kg N8 U w) (wD _ qp w) (tR w (kg N8 U w) (kg N8 U w) (wD _ qp w) (Gf w)))
theorem tH (x y:Operand) (s z:aa):iI Tryz.prog .eql 45 x y (.agg s.cells.toArray) (.agg z.cells.toArray) (.bool (decide (s=z))):=GY x y (Cq Qn) fun w=>PI 9998 s z w
theorem SH (x y:Operand) (s z:aa):iI Tryz.prog .neq 45 x y (.agg s.cells.toArray) (.agg z.cells.toArray) (.bool (!decide (s=z))):=Hf x y (Cq Qn) fun w=>PI 9998 s z w
theorem Pv:fL Tryz.prog 172=some [(3,0),(3,1)]:=by kernel_rfl
theorem Qo (d:Nat) (s z:aB) (w:World):(Op.equalIn (d+2) 172 (.agg s.cells.toArray) (.agg z.cells.toArray)).run Tryz.prog w= .ok (decide (s=z)) w:=by
 have hc:(decide (s.right=z.right)&&(decide (s.e7=z.e7)&&true))=decide (s=z):=by rw [Bool.eq_iff_iff]; simp [aB.ext_iff]
 rw [← hc]
 exact xo (d+1) Pv w (tR w (kg N8 U w) (kg N8 U w) (wD _ qp w) (tR w (kg N8 U w) (kg N8 U w) (wD _ qp w) (Gf w)))
theorem cx:Tryz.prog.follows .mixedOrders=true:=by kernel_rfl
def TT:DQ:=⟨[(1,false,1),(2,false,1),(3,false,1),(4,false,1),(5,false,1),(6,false,1),(7,true,4),(8,true,4),(12,false,1),(15,false,1),(16,false,1),(17,false,1),(18,true,1),(19,true,1),(21,false,1),(22,false,1),(23,true,1),(24,true,1),(25,false,1),(26,false,1),(27,true,7),(28,true,7),(29,false,1),(30,false,1),(31,true,11),(32,true,11),(33,false,1),(34,false,1),(35,false,1),(37,false,1),(38,false,1),(39,false,1),(40,false,1),(42,false,1),(43,false,1),(44,true,2),(45,true,2),(46,false,1),(47,false,1),(49,false,1),(50,false,1),(51,false,1),(52,true,2),(53,true,2),(54,true,3),(55,true,3),(56,false,1),(57,false,1),(58,false,1),(59,true,3),(60,true,3),(61,true,7),(62,true,7),(63,false,1),(65,false,1),(66,false,1),(68,false,1),(69,false,1),(70,false,1),(71,false,1),(72,false,1),(73,false,1),(74,false,1),(75,false,1),(76,false,1),(77,false,1),(78,false,1),(79,false,1),(81,false,1),(82,false,1),(83,false,1),(84,false,1),(86,false,1),(87,false,1),(88,false,1),(89,false,1),(90,false,1),(91,false,1),(92,false,1),(93,false,1),(94,false,1),(96,false,1),(97,false,1),(98,false,1),(99,false,1),(100,false,1),(101,false,1),(102,false,1),(103,false,1),(104,false,1),(105,false,1),(106,true,2),(107,true,2),(108,false,1),(109,false,1),(110,false,1),(111,true,13),(112,true,13),(114,false,1),(115,false,1),(116,false,1),(117,false,1),(118,false,1),(119,false,1),(120,false,1),(121,false,1),(123,false,1),(124,false,1),(125,false,1),(126,false,1),(127,false,1),(128,false,1),(129,false,1),(130,false,1),(131,false,1),(132,false,1),(133,false,1),(134,false,1),(136,false,1),(137,false,1),(138,false,1),(139,false,1),(140,false,1),(141,false,1),(142,false,1),(143,false,1),(144,false,1),(145,false,1),(146,false,1),(147,false,1),(148,false,1),(149,false,1),(150,false,1),(151,false,1),(152,true,9),(153,true,9),(154,false,1),(155,false,1),(156,false,1),(157,true,3),(158,true,3),(159,true,4),(160,true,4),(161,false,1),(162,false,1),(163,false,1),(164,false,1),(165,true,14),(166,true,14),(167,false,1),(168,false,1),(169,false,1),(170,false,1),(171,true,2),(172,true,2),(173,false,1),(174,false,1),(175,false,1),(176,false,1),(178,false,1),(179,false,1),(180,true,1),(181,true,4),(182,false,1),(183,false,1),(184,false,1),(185,false,1),(186,true,2),(187,true,2),(188,true,6),(189,false,1),(190,false,1),(191,false,1),(192,false,1),(193,true,2),(194,false,1),(195,false,1),(196,false,1),(198,false,1),(199,false,1),(200,false,1),(202,false,1),(203,false,1),(204,false,1),(205,false,1),(207,false,1),(208,false,1),(209,false,1),(210,false,1),(211,false,1),(212,false,1),(213,false,1),(214,false,1),(215,false,1),(216,false,1),(217,false,1),(218,false,1),(219,false,1),(220,false,1),(221,false,1),(222,false,1),(223,false,1),(224,false,1),(225,false,1),(226,false,1),(227,false,1),(228,false,1),(229,false,1),(230,false,1),(231,false,1),(232,false,1),(233,false,1),(235,false,1),(236,true,1),(237,true,1),(239,false,1),(240,false,1),(241,false,1),(242,false,1),(243,false,1),(244,false,1),(245,false,1),(246,false,1),(247,false,1),(248,false,1),(250,false,1),(251,false,1),(252,false,1),(253,false,1),(254,false,1),(255,false,1),(256,false,1),(257,false,1),(259,false,1),(260,false,1),(261,false,1),(262,false,1),(263,false,1),(264,false,1),(265,true,3),(266,true,3),(267,false,1),(268,true,3),(269,true,3),(270,false,1),(271,false,1),(272,false,1),(275,true,0),(276,true,0),(277,true,0),(278,false,1),(279,false,1),(280,false,1),(281,false,1),(282,false,1),(283,false,1),(284,false,1),(285,true,11),(286,true,11)],[(7,[some 0,some 1,some 2,some 3]),(8,[some 0,some 1,some 2,some 3]),(18,[some 0]),(19,[some 0]),(23,[some 0]),(24,[some 0]),(27,[some 0,some 1,some 2,some 3,some 4,some 5,some 6]),(28,[some 0,some 1,some 2,some 3,some 4,some 5,some 6]),(31,[some 0,some 7,some 8,some 9,some 10]),(32,[some 0,some 7,some 8,some 9,some 10]),(44,[some 0,some 1]),(45,[some 0,some 1]),(52,[some 0,some 1]),(53,[some 0,some 1]),(54,[some 0,some 1]),(55,[some 0,some 1]),(59,[some 0,some 1,some 2]),(60,[some 0,some 1,some 2]),(61,[some 0,some 1,some 2,some 4]),(62,[some 0,some 1,some 2,some 4]),(106,[some 0,some 1]),(107,[some 0,some 1]),(111,[some 0,some 11,some 12]),(112,[some 0,some 11,some 12]),(152,[some 0,some 1,some 3,some 5,some 7,some 8]),(153,[some 0,some 1,some 3,some 5,some 7,some 8]),(157,[some 0,some 1]),(158,[some 0,some 1]),(159,[some 0,some 3]),(160,[some 0,some 3]),(165,[some 0,some 7,some 10,some 11,some 12,some 13]),(166,[some 0,some 7,some 10,some 11,some 12,some 13]),(171,[some 0,some 1]),(172,[some 0,some 1]),(180,[some 0]),(186,[some 0,some 1]),(187,[some 0,some 1]),(236,[some 0]),(237,[some 0]),(265,[some 0,some 1,some 2]),(266,[some 0,some 1,some 2]),(268,[some 0,some 1,some 2]),(269,[some 0,some 1,some 2]),(285,[some 0,some 1,some 2,some 3,some 4,some 5,some 6,some 7,some 8,some 9,some 10]),(286,[some 0,some 1,some 2,some 3,some 4,some 5,some 6,some 7,some 8,some 9,some 10])],[22,25,26,29,30,51,56,58,66,109,110,162,163,164,184,251,257,264]⟩
theorem qe:lD Tryz.prog TT:=PW kr
theorem cj {t:TypeId} {x:Bool×Nat} (h:TT.KX t=some x:=by rfl):tK Tryz.prog t=some x:=qe.KX h
theorem fw {s f k:Nat} (h:TT.foF s f=some k:=by rfl):rj Tryz.prog s f=some k:=qe.foF h
end
section
open Go.RowKit
/-- blocks that are read -/
def MM (C:List av) (M:List (Nat×List Value)):Prop:= ∀ p∈M,∀ o vs,(p.2.drop o).take vs.length=vs→At C (some ⟨p.1,o,none⟩) vs
theorem mn {C:List av}:MM C []:=fun p h=>by cases h
theorem mc {C:List av} {b t:Nat} {cs:List Value} {M:List (Nat×List Value)} (i:Nat) (hC:C[i]? =some (cd b t cs)) (h:MM C M):MM C ((b,cs)::M):=fun p hp o vs hv=>by
 rcases bu.1 hp with rfl|hp
 ·exact pI i hC hv
 ·exact h p hp o vs hv
theorem mr {C:List av} {b t:Nat} {cs:List Value} {M:List (Nat×List Value)} (i:Nat) (hC:C[i]? =some (cd b t cs).ro) (h:MM C M):MM C ((b,cs)::M):=fun p hp o vs hv=>by
 rcases bu.1 hp with rfl|hp
 ·exact wh i hC hv
 ·exact h p hp o vs hv
def pN:List Prop→Prop
 |[]=>True
 |p::l=>p∧pN l
theorem kq {p:Prop} {l:List Prop} (h:p) (h2:pN l):pN (p::l):=⟨h,h2⟩
/-- the value of an operation, what it asks for, and what is left of the list of places -/
def pv (T:DQ) (ops:Array Oper) (M:List (Nat×List Value)) (L:dh) (hs:List Nat) (g:Option (Nat×Bool)) (op:Op):Option (Value×List Prop×List Nat):=
 match DK ops L g with
 |true=>some (undef,[],hs)
 |false=>match jL ops L g with
  |false=>none
  |true=>match op with
   | .move x=>match ev L x with
    |some v=>some (v,[],hs)
    |none=>none
   | .assign x=>match ev L x with
    |some v=>some (v,[],hs)
    |none=>none
   | .pick c x y=>match ev L c with
    |some (.bool true)=>match ev L x with
     |some v=>some (v,[],hs)
     |none=>none
    |some (.bool false)=>match ev L y with
     |some v=>some (v,[],hs)
     |none=>none
    |_=>none
   | .unOp .not _ x=>match ev L x with
    |some (.bool b)=>some (.bool !b,[],hs)
    |_=>none
   | .extract x i=>match ev L x with
    |some (.tuple vs)=>match vs.toList[i]? with
     |some v=>some (v,[],hs)
     |none=>none
    |_=>none
   | .fieldAddr s x f=>match ev L x with
    |some (.pointer (some ⟨b,o,none⟩))=>match T.foF s f with
     |some k=>some (.pointer (some ⟨b,o+k,none⟩),[],hs)
     |none=>none
    |_=>none
   | .binOp op _ x y _=>match ev L x with
    |some (.int .i64 a)=>match ev L y with
     |some (.int .i64 b)=>match op with
      | .lss=>some (.bool (decide (a<b)),[],hs)
      | .leq=>some (.bool (decide (a≤b)),[],hs)
      | .gtr=>some (.bool (decide (b<a)),[],hs)
      | .geq=>some (.bool (decide (b≤a)),[],hs)
      | .eql=>some (.bool (decide (a=b)),[],hs)
      | .neq=>some (.bool (!decide (a=b)),[],hs)
      | .add=>some (.int .i64 (a+b),[-9223372036854775808≤a+b,a+b≤9223372036854775807],hs)
      | .sub=>some (.int .i64 (a-b),[-9223372036854775808≤a-b,a-b≤9223372036854775807],hs)
      |_=>none
     |_=>none
    |_=>none
   | .load t x=>match ev L x with
    |some (.pointer (some ⟨b,o,none⟩))=>match M[hs.headD 0]? with
     |some (b',cs)=>match T.KX t with
      |some (false,_)=>match cs[o]? with
       |some v=>some (v,[b'=b],hs.tail)
       |none=>none
      |some (true,n)=>match Nat.beq o 0 with
       |true=>match Nat.beq cs.length n with
        |true=>some (.agg cs.toArray,[b'=b],hs.tail)
        |false=>none
       |false=>none
      |none=>none
     |none=>none
    |_=>none
   | .call c=>match c with
    |{callee:= .builtin .len,args:=xs,argTypes:=ts}=>match xs.toList with
     |[x]=>match ts.toList with
      |[t]=>match ev L x with
       |some (.slice A n c)=>match MT T.sl t with
        |true=>some (.int .i64 n,[],hs)
        |false=>none
       |_=>none
      |_=>none
     |_=>none
    |_=>none
   |_=>none
section
variable {E:fq} {T:DQ} {ops:Array Oper} {M:List (Nat×List Value)} {D:List Deferred} {L:List (Nat×Value)} {C:List av} {hs hs':List Nat}
theorem vU {cs:List Value} {o:Nat} {v:Value} (h:cs[o]? =some v):(cs.drop o).take [v].length=[v]:=by
 obtain ⟨hl,rfl⟩:=aY.1 h
 rw [List.drop_eq_getElem_cons hl]; rfl
theorem Sy {o:Oper} {v:Value} {S:List Prop} (hT:lD E.P T) (hM:MM C M) (h:pv T ops M L hs o.guard o.op=some (v,S,hs')) (hS:pN S):SD E ops o D L C v:=by
 obtain ⟨dst,op,ty,ps,af,g⟩:=o
 unfold pv at h
 simp only at h
 split at h
 ·rename_i hg
  cases h
  exact JK hg
 ·split at h
  ·cases h
  ·rename_i hg
   split at h
   ·split at h
    ·rename_i hx; cases h; exact F0 hg hx
    ·cases h
   ·split at h
    ·rename_i hx; cases h; exact zh hg hx
    ·cases h
   ·split at h
    ·rename_i hc
     split at h
     ·rename_i hx; cases h; exact zZ hg hc hx
     ·cases h
    ·rename_i hc
     split at h
     ·rename_i hx; cases h; exact zD hg hc hx
     ·cases h
    ·cases h
   ·split at h
    ·rename_i hx; cases h; exact MK hg hx
    ·cases h
   ·split at h
    ·rename_i vs hx
     split at h
     ·rename_i v' hv; cases h; exact x_ (vs:=vs.toList) hg (by simpa using hx) hv
     ·cases h
    ·cases h
   ·split at h
    ·rename_i hx
     split at h
     ·rename_i hk; cases h; exact PD hg hx (hT.foF hk) rfl
     ·cases h
    ·cases h
   ·split at h
    ·rename_i hx
     split at h
     ·rename_i hy
      split at h
      ·cases h; exact cb hg hx hy hU
      ·cases h; exact cb hg hx hy Ts
      ·cases h; exact cb hg hx hy RG
      ·cases h; exact cb hg hx hy FN
      ·cases h; exact cb hg hx hy mJ
      ·cases h; exact cb hg hx hy nK
      ·cases h; exact cb hg hx hy (iG ⟨hS.1,hS.2.1⟩)
      ·cases h; exact cb hg hx hy (su ⟨hS.1,hS.2.1⟩)
      ·cases h
     ·cases h
    ·cases h
   ·split at h
    ·rename_i hx
     split at h
     ·rename_i b' cs hm
      have A:=aT hm
      split at h
      ·rename_i hk
       split at h
       ·rename_i hv
        cases h
        obtain rfl:=hS.1
        exact vk hg hx (hT.KX hk) (hM _ A _ _ (vU hv))
       ·cases h
      ·rename_i n hk
       split at h
       ·rename_i ho
        split at h
        ·rename_i hn
         cases h
         obtain rfl:=hS.1
         have H:=Nat.eq_of_beq_eq_true ho
         subst H
         exact xI hg hx (hT.KX hk) (hM _ A 0 cs sm) (Nat.eq_of_beq_eq_true hn)
        ·cases h
       ·cases h
      ·cases h
     ·cases h
    ·cases h
   ·split at h
    ·rename_i xs ts
     split at h
     ·rename_i x G
      split at h
      ·rename_i t F
       split at h
       ·rename_i hx
        split at h
        ·rename_i B
         cases h
         obtain ⟨e,he⟩:=hT.sl t (Dk B)
         have AA:xs= #[x]:=by apply Array.ext'; simpa using G
         have J:ts= #[t]:=by apply Array.ext'; simpa using F
         subst AA J
         exact Mo hg hx he
        ·cases h
       ·cases h
      ·cases h
     ·cases h
    ·cases h
   ·cases h
def pr (T:DQ) (n:Nat) (ops:Array Oper) (M:List (Nat×List Value)):Nat→List Nat→dh→List Oper→Option (dh×List Oper×List Prop)
 |0,_,L,rest=>some (L,rest,[])
 |k+1,hs,L,[]=>none
 |k+1,hs,L,o::rest=>match o.dst with
  |none=>none
  |some d=>match Nat.blt d n with
   |false=>none
   |true=>match pv T ops M L hs o.guard o.op with
    |none=>none
    |some (v,S,hs')=>match pr T n ops M k hs' ((d,v)::L) rest with
     |none=>none
     |some (L',rest',S')=>some (L',rest',S++S')
theorem xO: ∀ {S S':List Prop},pN (S++S')→pN S∧pN S'
 |[],S',h=>⟨trivial,h⟩
 |p::S,S',h=>⟨⟨h.1,(xO h.2).1⟩,(xO h.2).2⟩
/-- whatever is closed under single steps -/
theorem MA {J:List Oper→dh→Prop} (hT:lD E.P T) (hM:MM C M) (hJ: ∀ o rest L d v,SD E ops o D L C v→o.dst=some d→Nat.blt d E.n=true→J rest ((d,v)::L)→J (o::rest) L):
 ∀ (k:Nat) (hs:List Nat) (L:dh) (rest:List Oper) {L':dh} {rest':List Oper} {S:List Prop},pr T E.n ops M k hs L rest=some (L',rest',S)→pN S→J rest' L'→J rest L
 |0,hs,L,rest,L',rest',S,h,hS,hj=>by
  unfold pr at h
  cases h
  exact hj
 |k+1,hs,L,[],L',rest',S,h,hS,hj=>by unfold pr at h; cases h
 |k+1,hs,L,o::rest,L',rest',S,h,hS,hj=>by
  unfold pr at h
  split at h
  ·cases h
  ·rename_i d hd
   split at h
   ·cases h
   ·rename_i hn
    split at h
    ·cases h
    ·rename_i v S1 A hv
     split at h
     ·cases h
     ·rename_i L1 G S2 hr
      cases h
      obtain ⟨B,F⟩:=xO hS
      exact hJ o rest L d v (Sy hT hM hv B) hd hn (MA hT hM hJ k A _ rest hr F hj)
variable {Q:df} {rest rest':List Oper} {L0 L':List (Nat×Value)} {S:List Prop} {F:List (Nat×Value)→Prop}
/-- a run of operations, one after the other -/
theorem rP (k:Nat) (hs:List Nat) (hM:MM C M) (j:RJ E ops Q rest' D L' C) (hT:lD E.P T:=by exact qe) (h:pr T E.n ops M k hs L rest=some (L0,rest',S):=by rfl) (hL:L0=L':=by (try dsimp only)<;>rfl) (hS:pN S:=by repeat' first|exact True.intro |refine kq ?_ ?_ |exact rfl|omega|(dsimp only; omega)):RJ E ops Q rest D L C:=by
 subst hL
 exact MA (J:=fun r L=>RJ E ops Q r D L C) hT hM (fun o rest L d v A B F G=>Um A B F G) k hs L rest h hS j
theorem dP (k:Nat) (hs:List Nat) (hM:MM C M) (j:DJ E ops D C F rest' L') (hT:lD E.P T:=by exact qe) (h:pr T E.n ops M k hs L rest=some (L0,rest',S):=by rfl) (hL:L0=L':=by (try dsimp only)<;>rfl) (hS:pN S:=by repeat' first|exact True.intro |refine kq ?_ ?_ |exact rfl|omega):DJ E ops D C F rest L:=by
 subst hL
 exact MA (J:=fun r L=>DJ E ops D C F r L) hT hM (fun o rest L d v A B G H=>S3 A B G H) k hs L rest h hS j
end
section
variable {P:Program} {r:Option Nat} {n:Nat} {B:BS} {w0:World} {ops:Array Oper} {M:List (Nat×List Value)} {D:List Deferred} {L L':List (Nat×Value)} {C:List av} {Q:df} {rest rest':List Oper} {S:List Prop} {F:List (Nat×Value)→Prop}
theorem fY (k:Nat) (hs:List Nat) (hM:MM C M) (h:pr TT n ops M k hs L rest=some (L',rest',S)) (j:RJ ⟨P,r,n,B,w0⟩ ops Q rest' D L' C) (hS:pN S:=by repeat' first|exact True.intro |refine kq ?_ ?_ |exact rfl|omega|(dsimp only; omega)) (hT:lD P TT:=by exact qe):RJ ⟨P,r,n,B,w0⟩ ops Q rest D L C:=rP k hs hM j hT h rfl hS
theorem mV (k:Nat) (hs:List Nat) (hM:MM C M) (h:pr TT n ops M k hs L rest=some (L',rest',S)) (j:DJ ⟨P,r,n,B,w0⟩ ops D C F rest' L') (hS:pN S:=by repeat' first|exact True.intro |refine kq ?_ ?_ |exact rfl|omega|(dsimp only; omega)) (hT:lD P TT:=by exact qe):DJ ⟨P,r,n,B,w0⟩ ops D C F rest L:=dP k hs hM j hT h rfl hS
theorem bo (k:Nat) (h:pr TT n ops [] k [] L rest=some (L',rest',S)) (j:RJ ⟨P,r,n,B,w0⟩ ops Q rest' D L' C) (hS:pN S:=by repeat' first|exact True.intro |refine kq ?_ ?_ |exact rfl|omega|(dsimp only; omega)) (hT:lD P TT:=by exact qe):RJ ⟨P,r,n,B,w0⟩ ops Q rest D L C:=rP k [] mn j hT h rfl hS
theorem lQ (k:Nat) (h:pr TT n ops [] k [] L rest=some (L',rest',S)) (j:DJ ⟨P,r,n,B,w0⟩ ops D C F rest' L') (hS:pN S:=by repeat' first|exact True.intro |refine kq ?_ ?_ |exact rfl|omega|(dsimp only; omega)) (hT:lD P TT:=by exact qe):DJ ⟨P,r,n,B,w0⟩ ops D C F rest L:=dP k [] mn j hT h rfl hS
end
end
section
open Go.RowKit
/-- parts of a context, reckoned to the end -/
def mo (C:List av):List Nat→Option (List av)
 |[]=>some []
 |i::is=>match C[i]? with
  |some A=>match mo C is with
   |some l=>some (A::l)
   |none=>none
  |none=>none
theorem jS {C:List av}: ∀ {is:List Nat} {C':List av},mo C is=some C'→kJ C is=C'
 |[],C',h=>by cases h; rfl
 |i::is,C',h=>by
  unfold mo at h
  split at h
  ·rename_i A hA
   split at h
   ·rename_i l hl
    cases h
    show List.filterMap (C[·]?) (i::is)=A::l
    rw [List.filterMap_cons_some hA]
    exact congrArg _ (jS hl)
   ·cases h
  ·cases h
/-- a part of a context in place of the whole -/
theorem aG {S:BS} {w0:World} {C C':List av} (is:List Nat) (hn:decide is.Nodup=true:=by rfl) (hC:kJ C is=C':=by rfl): ∀ w,St S w0 C w→St S w0 C' w:=fun w h=>St.kJ is hn hC h
theorem N2 {S:BS} {w0:World} {C C':List av} (is:List Nat) (hC:mo C is=some C') (hn:decide is.Nodup=true:=by rfl): ∀ w,St S w0 C w→St S w0 C' w:=fun w h=>St.kJ is hn (jS hC) h
def O8 (C:List av) (i:Nat) (B:av):Option (List av):=match i,C with
 |0,_::C=>some (B::C)
 |i+1,A::C=>match O8 C i B with
  |some l=>some (A::l)
  |none=>none
 |_,[]=>none
theorem FL: ∀ {C:List av} {i:Nat} {B:av} {C':List av},O8 C i B=some C'→C.set i B=C'
 |[],0,B,C',h=>by cases h
 |[],i+1,B,C',h=>by cases h
 |A::C,0,B,C',h=>by cases h; rfl
 |A::C,i+1,B,C',h=>by
  unfold O8 at h
  split at h
  ·rename_i l hl
   cases h
   exact congrArg _ (FL hl)
  ·cases h
theorem ib {E:fq} {K:Act→World→Prop} {D:hP} {L:dh} {C C':List av} {A B:av} (i:Nat) (hC:C[i]? =some A) (hh:(∀ w,A.holds w→B.holds w)∧(∀ b,B.fK b→A.fK b)∧ ∀ b,B.wf b→A.wf b) (hC':O8 C i B=some C') (h:KJ E K D L C'):KJ E K D L C:=JD i hC hh (FL hC') h
/-- the operations of a region but these; marks of some places -/
def Ul (n:Nat) (T:List Nat):List Nat:=(List.range n).filter fun i=> !T.contains i
def UK (k:Nat) (t:List Nat):List Bool:=(List.range k).map fun i=>t.contains i
theorem dK {E:fq} {id:Nat} {ops:Array Oper} {Q:df} {D:hP} {L:dh} {C:List av} (hm:E.P.follows .mixedOrders=true) (T fe tb i1 i2:List Nat) {C' C1:List av} {free:List Nat} {I4 tbb:List Bool}
 (h1:mo C i1=some C') (h2:mo C i2=some C1) (hf:free=Ul ops.size T) (hfe:I4=UK free.length fe) (htb:tbb=UK T.length tb)
 (h:qo E ops D C' C1 (fun L'=>TJ E ops D C' C1 (fun L C=>KJ E (Q .normal) D L C) tbb (eW ops T) L' C) I4 (eW ops free) L)
 (hc:NA ops free T I4 tbb=true:=by kernel_rfl) (n1:decide i1.Nodup=true:=by rfl) (n2:decide i2.Nodup=true:=by rfl):WJ E (.region id ops true) Q D L C:=
 Nj hm free T I4 tbb C' C1 hc (N2 i1 h1 n1) (N2 i2 h2 n2) h
end
section
open Go.RowKit
def wg (T:DQ) (M:List (Nat×List Value)) (L:dh):List ResultVar→List Nat→Option (List Value×List Prop)
 |[],_=>some ([],[])
 | .tmp t::rs,hs=>match L.lookup t with
  |some v=>match wg T M L rs hs with
   |some (vs,S)=>some (v::vs,S)
   |none=>none
  |none=>none
 | .cell a t::rs,hs=>match L.lookup a with
  |some (.pointer (some ⟨b,o,none⟩))=>match M[hs.headD 0]? with
   |some (b',cs)=>match T.KX t with
    |some (false,_)=>match cs[o]? with
     |some v=>match wg T M L rs hs.tail with
      |some (vs,S)=>some (v::vs,(b'=b)::S)
      |none=>none
     |none=>none
    |some (true,n)=>match Nat.beq o 0 with
     |true=>match Nat.beq cs.length n with
      |true=>match wg T M L rs hs.tail with
       |some (vs,S)=>some (.agg cs.toArray::vs,(b'=b)::S)
       |none=>none
      |false=>none
     |false=>match wg T M L rs hs.tail with
      |some (vs,S)=>some (.agg ((cs.drop o).take n).toArray::vs,(b'=b)::(((cs.drop o).take n).length=n)::S)
      |none=>none
    |none=>none
   |none=>none
  |_=>none
theorem oP {P:Program} {T:DQ} {M:List (Nat×List Value)} {L:dh} {C:List av} (hT:lD P T) (hM:MM C M): ∀ (rs:List ResultVar) (hs:List Nat) {vs:List Value} {S:List Prop},wg T M L rs hs=some (vs,S)→pN S→Hb P L C rs vs
 |[],_,vs,S,h,hS=>by unfold wg at h; cases h; exact trivial
 | .tmp t::rs,hs,vs,S,h,hS=>by
  unfold wg at h
  split at h
  ·rename_i v hv
   split at h
   ·rename_i vs' S' hr
    cases h
    exact ⟨hv,oP hT hM rs hs hr hS⟩
   ·cases h
  ·cases h
 | .cell a t::rs,hs,vs,S,h,hS=>by
  unfold wg at h
  split at h
  ·rename_i b o hl
   split at h
   ·rename_i b' cs hm
    have A:=aT hm
    split at h
    ·rename_i hk
     split at h
     ·rename_i v hv
      split at h
      ·rename_i vs' S' hr
       cases h
       obtain ⟨rfl,hS⟩:=hS
       exact ⟨⟨_,hl,.inr ⟨_,hT.KX hk,hM _ A _ _ (vU hv)⟩⟩,oP hT hM rs _ hr hS⟩
      ·cases h
     ·cases h
    ·rename_i n hk
     split at h
     ·rename_i ho
      split at h
      ·rename_i hn
       split at h
       ·rename_i vs' S' hr
        cases h
        obtain ⟨rfl,hS⟩:=hS
        have D:=Nat.eq_of_beq_eq_true ho
        subst D
        exact ⟨⟨_,hl,.inl ⟨_,cs,hT.KX hk,hM _ A 0 cs sm,Nat.eq_of_beq_eq_true hn,U⟩⟩,oP hT hM rs _ hr hS⟩
       ·cases h
      ·cases h
     ·split at h
      ·rename_i vs' S' hr
       cases h
       obtain ⟨rfl,B,hS⟩:=hS
       exact ⟨⟨_,hl,.inl ⟨_,_,hT.KX hk,hM _ A o _ (by rw [B]),B,U⟩⟩,oP hT hM rs _ hr hS⟩
      ·cases h
    ·cases h
   ·cases h
  ·cases h
section
variable {P:Program} {n:Nat} {fn:Func} {w0:World} {K:Act→World→Prop} {L:List (Nat×Value)} {C:List av} {M:List (Nat×List Value)} {vs:List Value} {S:List Prop} {u x v:Value}
theorem IC (hQ: ∀ D L C,LJ ⟨P,none,n,ua,w0⟩ fn (Cj w0 v) D L C→KJ ⟨P,none,n,ua,w0⟩ K D L C) (hs:List Nat) (hM:MM C M) (h:wg TT M L fn.results.toList hs=some ([u],S)) (e:u=v) (hS:pN S:=by repeat' first|exact True.intro |refine kq rfl ?_) (hT:lD P TT:=by exact qe):KJ ⟨P,none,n,ua,w0⟩ K [] L C:=
 hQ _ _ _ (ik (oP hT hM _ _ h hS) fun w hs=>Fk e hs)
theorem lP (hQ: ∀ D L C,LJ ⟨P,none,n,ua,w0⟩ fn (Cj w0 v) D L C→KJ ⟨P,none,n,ua,w0⟩ K D L C) (hs:List Nat) (hM:MM C M) (h:wg TT M L fn.results.toList hs=some (u::x::vs,S)) (e:Value.tuple (u::x::vs).toArray=v) (hS:pN S:=by repeat' first|exact True.intro |refine kq rfl ?_) (hT:lD P TT:=by exact qe):KJ ⟨P,none,n,ua,w0⟩ K [] L C:=
 hQ _ _ _ (ik (oP hT hM _ _ h hS) fun w hs=>Fk e hs)
theorem LX {α:Type} {V:α→Value} {p:α→Prop} {N:α→List av} (hQ: ∀ D L C,LJ ⟨P,none,n,ua,w0⟩ fn (Jl w0 V p N) D L C→KJ ⟨P,none,n,ua,w0⟩ K D L C) (x:α) (is hs:List Nat) (hM:MM C M) (h:wg TT M L fn.results.toList hs=some (vs,S)) (hw:(N x).all (·.wr)=true) (hN:kJ C is=N x) (hV:Rr vs=V x) (hp:p x) (hn:decide is.Nodup=true:=by rfl) (hS:pN S:=by repeat' first|exact True.intro |refine kq rfl ?_) (hT:lD P TT:=by exact qe):KJ ⟨P,none,n,ua,w0⟩ K [] L C:=
 hQ _ _ _ (ik (oP hT hM _ _ h hS) fun w hs=>JO x is hV hp hn hN hw hs)
theorem LM {A:av} {α:Type} {V:α→Value} {p:α→Prop} {A':α→av} (hQ: ∀ D L C,LJ ⟨P,none,n,⟨A.wf,fun _=>True⟩,w0⟩ fn (N9 w0 A V p A') D L C→KJ ⟨P,none,n,⟨A.wf,fun _=>True⟩,w0⟩ K D L C) (x:α) (i:Nat) (hs:List Nat) (hM:MM C M) (h:wg TT M L fn.results.toList hs=some (vs,S)) (hw:(A' x).wr=true) (hC:C[i]? =some (A' x)) (hV:Rr vs=V x) (hp:p x) (hS:pN S:=by repeat' exact True.intro) (hT:lD P TT:=by exact qe):KJ ⟨P,none,n,⟨A.wf,fun _=>True⟩,w0⟩ K [] L C:=
 hQ _ _ _ (ik (oP hT hM _ _ h hS) fun w hs=>Tj x i hV hp hC hw hs)
end
end
section
open Go.RowKit
def Fu {α:Type _}:List α→List α→Option (List α)
 |[],m=>some m
 |a::l,m=>match Fu l m with
  |some r=>some (a::r)
  |none=>none
theorem Gp {α:Type _}: ∀ {l m r:List α},Fu l m=some r→l++m=r
 |[],m,r,h=>by cases h; rfl
 |a::l,m,r,h=>by
  unfold Fu at h
  split at h
  ·rename_i r' hr
   cases h
   exact congrArg (a:: ·) (Gp hr)
  ·cases h
def UA (L:dh):List Nat→Option (dh)
 |[]=>some []
 |t::ts=>match L.lookup t with
  |some v=>match UA L ts with
   |some r=>some ((t,v)::r)
   |none=>none
  |none=>none
theorem FX {L M:dh} (k:dF L M): ∀ {ts:List Nat} {r:dh},UA L ts=some r→dF L (r++M)
 |[],r,h=>by cases h; exact k
 |t::ts,r,h=>by
  unfold UA at h
  split at h
  ·rename_i v hv
   split at h
   ·rename_i r' hr
    cases h
    exact dF.cons hv (FX k hr)
   ·cases h
  ·cases h
section
variable {E:fq} {Q:df} {D:List Deferred} {L L0:List (Nat×Value)} {C C0:List av} {ι:Type} {Li:ι→List (Nat×Value)} {Ci:ι→List av}
theorem bL {c:Code} (kL kC:List Nat) (hL:UA L kL=some L0) (hC0:mo C kC=some C0) (S:ι→dh) (G:ι→List av) (hLi: ∀ x,Fu L0 (S x)=some (Li x)) (hCi: ∀ x,Fu C0 (G x)=some (Ci x)) (μ:ι→Nat) (x0:ι)
 (h0:dF L (S x0)) (hC: ∀ w,St E.S E.w0 C w→St E.S E.w0 (Ci x0) w)
 (round: ∀ x (J:Act→World→Prop),(∀ y D' L' C',D'=D→μ y<μ x→dF L' (Li y)→(∀ w,St E.S E.w0 C' w→St E.S E.w0 (Ci y) w)→KJ E J D' L' C')→WJ E c (Exit.then J Q) D (Li x) (Ci x)):WJ E (.loop c) Q D L C:=
 P_ Li Ci μ x0 (Gp (hLi x0)▸FX h0 hL) hC round
theorem mw {x y:Code} (kL kC:List Nat) (hL:UA L kL=some L0) (hC0:mo C kC=some C0) (S:ι→dh) (G:ι→List av) (hLi: ∀ x,Fu L0 (S x)=some (Li x)) (hCi: ∀ x,Fu C0 (G x)=some (Ci x))
 (hy: ∀ z,WJ E y Q D (Li z) (Ci z)) (h: ∀ K:Act→World→Prop,(∀ z,KJ E K D (Li z) (Ci z))→WJ E x (Exit.then K Q) D L C):WJ E (.seq x y) Q D L C:=Qi Li Ci hy h
end
end
section
open Go.RowKit
set_option linter.unusedSectionVars false
/-- what is asked of keys -/
structure uX (P:Program) (kt:Nat) {K:Type} (kV:K→Value):Prop where
 check: ∀ (e:Bool) (x:K) (w:World),(Instr.checkKey e 10000 kt (kV x)).run P w= .ok () w
 find: ∀ (x:K) (w:World) (es:List MapEntry),(∀ e∈es,∃ k,e.key=kV k)→
  ((Instr.findKey kt (kV x) es).run P w= .ok none w∧ ∀ e∈es,e.key≠kV x)∨ ∃ j e,(Instr.findKey kt (kV x) es).run P w= .ok (some (j,e.val)) w∧es[j]? =some e∧e.key=kV x
 bits: ∀ x,Instr.sameBits 10000 (kV x) (kV x)=true
 inj: ∀ x y,kV x=kV y→x=y
section
variable {K:Type} [DecidableEq K] {kV:K→Value}
def e8 {β:Type} (l:List (K×β)) (x:K) (y:β):List (K×β):=if (l.lookup x).isSome then l.map (fun p=>if p.1=x then (x,y) else p) else l++[(x,y)]
def cH {β:Type} (l:List (K×β)) (x:K):List (K×β):=l.filter fun p=> !decide (p.1=x)
def bW {β γ:Type} (f:β→γ) (l:List (K×β)):List (K×γ):=l.map fun p=>(p.1,f p.2)
theorem HZ {β γ:Type} (f:β→γ) (l:List (K×β)):(bW f l).length=l.length:=by simp [bW]
theorem ni {β γ:Type} (f:β→γ) (x:K): ∀ l:List (K×β),(bW f l).lookup x=(l.lookup x).map f
 |[]=>rfl
 |p::l=>by
  obtain ⟨k,v⟩:=p
  have ih:=ni f x l
  by_cases h:x=k
  ·subst h; simp [bW,List.lookup]
  ·have:(x==k)=false:=by simpa using h
   simp only [bW,List.map_cons,List.lookup,this] at ih ⊢
   exact ih
theorem iD {β γ:Type} (f:β→γ) (l:List (K×β)) (x:K) (y:β):bW f (e8 l x y)=e8 (bW f l) x (f y):=by
 unfold e8
 rw [ni,Option.isSome_map]
 split
 ·simp only [bW,List.map_map]
  refine List.map_congr_left fun p _=>?_
  simp only [Function.comp]
  split<;>rfl
 ·simp [bW]
theorem l4 {β γ:Type} (f:β→γ) (l:List (K×β)) (x:K):bW f (cH l x)=cH (bW f l) x:=by
 unfold cH bW
 rw [List.filter_map]
 rfl
theorem gZ {β:Type} {x:K}: ∀ {l:List (K×β)},l.lookup x=none↔ ∀ p∈l,p.1≠x
 |[]=>by simp
 |p::l=>by
  obtain ⟨k,v⟩:=p
  by_cases h:x=k
  ·subst h; simp [List.lookup]
  ·have hb:(x==k)=false:=by simpa using h
   simp only [List.lookup,hb,bu,forall_eq_or_imp]
   rw [gZ (l:=l)]
   exact ⟨fun q=>⟨fun e=>h e.symm,q⟩,fun q=>q.2⟩
theorem kd {β:Type} {x:K} {y:β}: ∀ {l:List (K×β)},(l.map (·.1)).Nodup→((x,y)∈l↔l.lookup x=some y)
 |[],_=>by simp
 |p::l,hn=>by
  obtain ⟨k,v⟩:=p
  simp only [List.map_cons,List.nodup_cons] at hn
  by_cases h:x=k
  ·subst h
   simp only [List.lookup,beq_self_eq_true,bu,Prod.mk.injEq,true_and,Option.some.injEq]
   constructor
   ·rintro (e|e)
    ·exact e.symm
    ·exact absurd (bX.2 ⟨_,e,U⟩) hn.1
   ·intro e; exact .inl e.symm
  ·have hb:(x==k)=false:=by simpa using h
   simp only [List.lookup,hb,bu,Prod.mk.injEq,h,false_and,false_or]
   exact kd hn.2
structure jw (kV:K→Value) (es:Array MapEntry) (c:Nat) (m:List (K×Value)):Prop where
 list:es.toList.map (fun (e:MapEntry)=>(e.key,e.val))=m.map (fun p=>(kV p.1,p.2))
 keys:(m.map (·.1)).Nodup
 KR: ∀ e∈es.toList,e.born<c
 born:(es.toList.map (·.born)).Nodup
def iS (kV:K→Value) (b:Nat) (m:List (K×Value)):av where
 fK k:=k=b
 wf k:=k=b
 holds w:= ∃ es c,w.heap[b]? =some (.map es c)∧jw kV es c m
 wr:=true
 kK _ h:=h
 whole _ _ h:=h
 lt w h k hk:=by obtain ⟨es,c,he,_⟩:=h; exact hk▸eC he
 oV w w' hk h:=by obtain ⟨es,c,he,hm⟩:=h; exact ⟨es,c,(hk b rfl).trans he,hm⟩
theorem jw.nil:jw kV #[] 0 []:=⟨rfl,List.nodup_nil,sm,List.nodup_nil⟩
theorem jw.size {es:Array MapEntry} {c:Nat} {m:List (K×Value)} (h:jw kV es c m):es.size=m.length:=by
 have:=congrArg List.length h.list
 simpa using this
theorem Es {P:Program} {kt:Nat} (hk:uX P kt kV) (x:K): ∀ (es:List MapEntry) (m:List (K×Value)),es.map (fun (e:MapEntry)=>(e.key,e.val))=m.map (fun p=>(kV p.1,p.2))→
 ((∀ e∈es,e.key≠kV x)→m.lookup x=none)∧ ∀ (j:Nat) (e:MapEntry),es[j]? =some e→e.key=kV x→m[j]? =some (x,e.val):=by
 intro es m h
 refine ⟨fun hn=>gZ.2 fun p hp e=>?_,fun j e he hx=>?_⟩
 ·have:(kV p.1,p.2)∈es.map (fun (e:MapEntry)=>(e.key,e.val)):=by rw [h]; exact bX.2 ⟨p,hp,rfl⟩
  obtain ⟨z,hz,B⟩:=bX.1 this
  simp only [Prod.mk.injEq] at B
  exact hn z hz (by rw [B.1,e])
 ·have A:(es.map (fun (e:MapEntry)=>(e.key,e.val)))[j]? =some (e.key,e.val):=by rw [fB,he]; rfl
  rw [h,fB] at A
  cases hm:m[j]? with
  |none=>simp [hm] at A
  |some p=>
   simp only [hm,Option.map_some,Option.some.injEq,Prod.mk.injEq] at A
   have:=hk.inj _ _ (A.1.trans hx)
   obtain ⟨k,v⟩:=p
   simp only at this A
   rw [this,A.2]
theorem po {P:Program} {w:World} {kt:Nat} {x:K} {es:Array MapEntry} {c:Nat} {m:List (K×Value)} (hk:uX P kt kV) (h:jw kV es c m):
 ((Instr.findKey kt (kV x) es.toList).run P w= .ok none w∧m.lookup x=none)∨
 ∃ j v,(Instr.findKey kt (kV x) es.toList).run P w= .ok (some (j,v)) w∧m[j]? =some (x,v)∧m.lookup x=some v:=by
 obtain ⟨D,E⟩:=Es hk x es.toList m h.list
 rcases hk.find x w es.toList (fun e he=>by
  have:(e.key,e.val)∈m.map (fun p=>(kV p.1,p.2)):=by rw [← h.list]; exact bX.2 ⟨e,he,rfl⟩
  obtain ⟨p,_,hp⟩:=bX.1 this
  simp only [Prod.mk.injEq] at hp
  exact ⟨p.1,hp.1.symm⟩) with ⟨A,B⟩|⟨j,e,A,B,C⟩
 ·exact .inl ⟨A,D B⟩
 ·have:=E j e B C
  exact .inr ⟨j,e.val,A,this,(kd h.keys).1 (aT this)⟩
theorem jg {P:Program} {w:World} {kt:Nat} {x:K} (hk:uX P kt kV) (e:Bool):(Instr.checkKey e 10000 kt (kV x)).run P w= .ok () w:=hk.check e x w
section
variable {E:fq} {ops:Array Oper} {Q:df} {rest:List Oper} {D:List Deferred} {L:List (Nat×Value)} {C:List av}
variable {dst:Option Tmp} {d:Nat} {ty:TypeId} {ps:String} {af:Array Edge} {g:Option (Nat×Bool)}
theorem o_ {t:TypeId} (hg:jL ops L g=true) (hd:Nat.blt d E.n=true) (k: ∀ b,RJ E ops Q rest D ((d,.map (some b))::L) (iS kV b []::C)):RJ E ops Q (⟨some d,.makeMap t none,ty,ps,af,g⟩::rest) D L C:=by
 intro a w B hs
 have hd':d<E.n:=by rw [← Nat.blt_eq]; exact hd
 unfold sk
 rw [if_pos (ep B hg)]
 refine g3 (v:= .map (some w.heap.size)) (w':=w.alloc (.map #[] 0)) sm ?_ ?_
 ·simp [execOp,Instr.makeMap,newObj,Sem.run]
 ·refine k _ _ _ (B.put hd' _) (hs.grow (ei.alloc no w _) (N:=[iS kV w.heap.size []]) ⟨fun A hA=>?_,fun A hA b hb=>?_,List.pairwise_singleton _ _⟩)
  ·simp at hA; subst hA; exact ⟨#[],0,heap_alloc_new w _,jw.nil⟩
  ·simp at hA; subst hA; exact Nat.le_of_eq (Eq.symm hb)
theorem jw.push {es:Array MapEntry} {c:Nat} {m:List (K×Value)} (h:jw kV es c m) {x:K} (hx:m.lookup x=none) (v:Value):jw kV (es.push {key:=kV x,val:=v,born:=c}) (c+1) (m++[(x,v)]):=by
 refine ⟨by simp [h.list],?_,?_,?_⟩
 ·rw [List.map_append,List.nodup_append]
  refine ⟨h.keys,sm,fun a ha b hb=>?_⟩
  simp at hb; subst hb
  obtain ⟨p,hp,rfl⟩:=bX.1 ha
  exact gZ.1 hx p hp
 ·intro e he
  simp only [Array.toList_push,dM,bH] at he
  rcases he with he|rfl
  ·exact Nat.lt_succ_of_lt (h.KR e he)
  ·exact Nat.lt_succ_self _
 ·simp only [Array.toList_push,List.map_append,List.map_cons,List.map_nil]
  rw [List.nodup_append]
  refine ⟨h.born,sm,fun a ha b hb=>?_⟩
  simp at hb; subst hb
  obtain ⟨p,hp,rfl⟩:=bX.1 ha
  exact Nat.ne_of_lt (h.KR p hp)
theorem NL {m:List (K×Value)} {j:Nat} {x:K} {v0 v:Value} (hn:(m.map (·.1)).Nodup) (hj:m[j]? =some (x,v0)):m.map (fun p=>if p.1=x then (x,v) else p)=m.set j (x,v):=by
 refine List.ext_getElem? fun i=>?_
 rw [fB,List.getElem?_set]
 by_cases e:j=i
 ·subst e
  have hl:=(aY.1 hj).1
  rw [hj]; simp [hl]
 ·rw [if_neg e]
  cases hi:m[i]? with
  |none=>rfl
  |some p=>
   simp only [Option.map_some]
   rw [if_neg]
   intro hp
   have B:(m.map (·.1))[i]? =some x:=by rw [fB,hi]; simp [hp]
   have C:(m.map (·.1))[j]? =some x:=by rw [fB,hj]; rfl
   have A:=(aY.1 B).1
   exact e (((List.getElem?_inj A hn).1 (B.trans C.symm)).symm)
theorem jw.set {es:Array MapEntry} {c:Nat} {m:List (K×Value)} (h:jw kV es c m) {x:K} {j:Nat} {v0:Value} (hj:m[j]? =some (x,v0)) (hx:m.lookup x=some v0) (v:Value):
 jw kV (es.modify j fun e=>{e with key:=kV x,val:=v}) c (e8 m x v):=by
 have C:e8 m x v=m.set j (x,v):=by unfold e8; rw [hx]; simpa using NL h.keys hj
 have hl:=(aY.1 hj).1
 have E:=h.size
 have A:j<es.size:=by omega
 have B:(es.modify j fun e=>{e with key:=kV x,val:=v}).toList=es.toList.set j {(es[j]) with key:=kV x,val:=v}:=by
  refine List.ext_getElem? fun i=>?_
  rw [Array.getElem?_toList,Array.getElem?_modify,List.getElem?_set]
  by_cases e:j=i
  ·subst e; simp [A]
  ·simp [e]
 have D:(es.toList.set j {(es[j]) with key:=kV x,val:=v}).map (·.born)=es.toList.map (·.born):=by
  rw [List.map_set]
  refine List.ext_getElem? fun i=>?_
  rw [List.getElem?_set]
  by_cases e:j=i
  ·subst e; simp [A]
  ·rw [if_neg e]
 refine ⟨?_,?_,?_,?_⟩
 ·rw [B,C,List.map_set,List.map_set,h.list]
 ·rw [C,List.map_set]
  have:(m.map (·.1)).set j x=m.map (·.1):=by
   refine List.ext_getElem? fun i=>?_
   rw [List.getElem?_set]
   by_cases e:j=i
   ·subst e; simp [hl]; simpa using (congrArg Prod.fst ((aY.1 hj).2)).symm
   ·rw [if_neg e]
  simp only [this]
  exact h.keys
 ·intro e he
  rw [B] at he
  have hb:e.born∈(es.toList.set j {(es[j]) with key:=kV x,val:=v}).map (·.born):=bX.2 ⟨e,he,rfl⟩
  rw [D] at hb
  obtain ⟨e',he',hq⟩:=bX.1 hb
  rw [← hq]; exact h.KR e' he'
 ·rw [B,D]; exact h.born
/-- m[x] = y -/
theorem ko {t kt et:TypeId} {xm xk xv:Operand} {b:Nat} {x:K} {v:Value} {m m':List (K×Value)} {C':List av} (i:Nat) (hg:jL ops L g=true) (hm:ev L xm=some (.map (some b))) (hk:ev L xk=some (kV x)) (hv:ev L xv=some v)
 (ht:E.P.underlying t=some (.map kt et)) (hkt:uX E.P kt kV) (hC:C[i]? =some (iS kV b m)) (hm':e8 m x v=m') (hC':C.set i (iS kV b m')=C') (k:RJ E ops Q rest D L C'):
 RJ E ops Q (⟨none,.mapUpdate t xm xk xv,ty,ps,af,g⟩::rest) D L C:=by
 subst hm' hC'
 intro a w A hs
 unfold sk
 rw [if_pos (ep A hg)]
 obtain ⟨es,c,he,hi⟩:=hs.holds _ (aT hC)
 have B:(getObj b).run E.P w= .ok (.map es c) w:=MapKept.run_getObj_map he
 rcases po (P:=E.P) (w:=w) (x:=x) hkt hi with ⟨AA,F⟩|⟨j,N,AA,F,J⟩
 ·refine rY (w':={w with heap:=w.heap.setIfInBounds b (.map (es.push {key:=kV x,val:=v,born:=c}) (c+1))}) sm ?_ ?_
  ·simp [execOp,A.ev hm,A.ev hk,A.ev hv,Instr.mapUpdate,run_underlying ht,B,jg hkt,AA,MapKept.run_setObj_map _ he]
  ·refine k _ _ ⟨A.defers,A.size,A.at_⟩ (hs.DL (b:=b) i hC U U (nu _) (fun _ h=>h) ⟨_,_,pB he,?_⟩)
   have:e8 m x v=m++[(x,v)]:=by unfold e8; rw [F]; rfl
   rw [this]; exact hi.push F v
 ·have M:=hi.size
  have G:j<es.size:=by have:=(aY.1 F).1; omega
  have H:(es[j]).key=kV x:=by
   have:=congrArg (fun l=>l[j]?) hi.list
   simp [G,F] at this
   exact this.1
  refine rY (w':={w with heap:=w.heap.setIfInBounds b (.map (es.modify j fun e=>{e with key:=kV x,val:=v}) c)}) sm ?_ ?_
  ·simp [execOp,A.ev hm,A.ev hk,A.ev hv,Instr.mapUpdate,run_underlying ht,B,jg hkt,AA,MapKept.run_setObj_map _ he,Instr.keyThatStays,G,H,hkt.bits x]
  ·exact k _ _ ⟨A.defers,A.size,A.at_⟩ (hs.DL (b:=b) i hC U U (nu _) (fun _ h=>h) ⟨_,_,pB he,hi.set F J v⟩)
theorem jw.del {es:Array MapEntry} {c:Nat} {m:List (K×Value)} (h:jw kV es c m) {x:K} {j:Nat} {v0:Value} (hj:m[j]? =some (x,v0)):jw kV (es.eraseIdxIfInBounds j) c (cH m x):=by
 have hl:=(aY.1 hj).1
 have D:=h.size
 have A:j<es.size:=by omega
 have B:(es.eraseIdxIfInBounds j).toList=es.toList.eraseIdx j:=by simp [Array.eraseIdxIfInBounds,A]
 have E:cH m x=m.eraseIdx j:=by
  have hn:=h.keys
  clear h D A B
  induction m generalizing j with
  |nil=>simp at hj
  |cons p m ih=>
   obtain ⟨k,v⟩:=p
   simp only [List.map_cons,List.nodup_cons] at hn
   cases j with
   |zero=>
    simp at hj
    obtain ⟨rfl,rfl⟩:=hj
    simp only [cH,List.eraseIdx_zero,List.tail_cons]
    rw [List.filter_cons_of_neg sm]
    refine List.filter_eq_self.2 fun p hp=>?_
    have:p.1≠k:=fun e=>hn.1 (bX.2 ⟨p,hp,e⟩)
    simpa using this
   |succ j=>
    simp only [List.getElem?_cons_succ] at hj
    have C:k≠x:=fun e=>hn.1 (bX.2 ⟨_,aT hj,e.symm⟩)
    simp only [cH,List.eraseIdx_cons_succ] at ih ⊢
    rw [List.filter_cons_of_pos (by simpa using C),ih hj (by simpa using (aY.1 hj).1) hn.2]
 have sub:(es.eraseIdxIfInBounds j).toList.Sublist es.toList:=by rw [B]; exact List.eraseIdx_sublist _ _
 refine ⟨?_,?_,fun e he=>h.KR e (sub.subset he),h.born.sublist (sub.map _)⟩
 ·rw [B,E,ChangeMaps.map_eraseIdx,ChangeMaps.map_eraseIdx,h.list]
 ·rw [E]; exact h.keys.sublist ((List.eraseIdx_sublist _ _).map _)
theorem E7 {m:List (K×Value)} {x:K} (h:m.lookup x=none):cH m x=m:=List.filter_eq_self.2 fun p hp=>by simpa using gZ.1 h p hp
/-- y, ok := m[x] -/
theorem Jt {t kt et:TypeId} {xm xk:Operand} {b:Nat} {x:K} {z:Value} {m:List (K×Value)} (hg:jL ops L g=true) (hm:ev L xm=some (.map (some b))) (hk:ev L xk=some (kV x))
 (ht:E.P.underlying t=some (.map kt et)) (hkt:uX E.P kt kV) (hz:tV E.P et=some z) (hC:iA C (iS kV b m).holds):
 SD E ops ⟨dst,.lookup t xm xk true,ty,ps,af,g⟩ D L C (.tuple [(m.lookup x).getD z,.bool (m.lookup x).isSome].toArray):=
 dY hg sm fun a w A hs=>by
  obtain ⟨es,c,he,hi⟩:=hs.has hC
  have B:(getObj b).run E.P w= .ok (.map es c) w:=MapKept.run_getObj_map he
  rcases po (P:=E.P) (w:=w) (x:=x) hkt hi with ⟨F,G⟩|⟨j,AA,F,G,H⟩
  ·simp [execOp,Instr.lookup,A.ev hm,A.ev hk,run_underlying ht,B,jg hkt,F,G,MI hz]
  ·simp [execOp,Instr.lookup,A.ev hm,A.ev hk,run_underlying ht,B,jg hkt,F,H]
/-- m[x] -/
theorem HO {t kt et:TypeId} {xm xk:Operand} {b:Nat} {x:K} {z:Value} {m:List (K×Value)} (hg:jL ops L g=true) (hm:ev L xm=some (.map (some b))) (hk:ev L xk=some (kV x))
 (ht:E.P.underlying t=some (.map kt et)) (hkt:uX E.P kt kV) (hz:tV E.P et=some z) (hC:iA C (iS kV b m).holds):
 SD E ops ⟨dst,.lookup t xm xk false,ty,ps,af,g⟩ D L C ((m.lookup x).getD z):=
 dY hg sm fun a w A hs=>by
  obtain ⟨es,c,he,hi⟩:=hs.has hC
  have B:(getObj b).run E.P w= .ok (.map es c) w:=MapKept.run_getObj_map he
  rcases po (P:=E.P) (w:=w) (x:=x) hkt hi with ⟨F,G⟩|⟨j,AA,F,G,H⟩
  ·simp [execOp,Instr.lookup,A.ev hm,A.ev hk,run_underlying ht,B,jg hkt,F,G,MI hz]
  ·simp [execOp,Instr.lookup,A.ev hm,A.ev hk,run_underlying ht,B,jg hkt,F,H]
/-- len(m) -/
theorem I8 {t kt et:TypeId} {xm:Operand} {b:Nat} {m:List (K×Value)} (hg:jL ops L g=true) (hm:ev L xm=some (.map (some b))) (ht:E.P.underlying t=some (.map kt et)) (hC:iA C (iS kV b m).holds):
 SD E ops ⟨dst,.call {callee:= .builtin .len,args:= #[xm],argTypes:= #[t]},ty,ps,af,g⟩ D L C (.int .i64 (m.length:Int)):=
 dY hg sm fun a w B hs=>by
  obtain ⟨es,c,he,hi⟩:=hs.has hC
  have A:(getObj b).run E.P w= .ok (.map es c) w:=MapKept.run_getObj_map he
  simp [execOp,resolve,invoke,builtin,B.ev hm,Builtin.len_,run_underlying ht,A,hi.size,goInt]
theorem kX {β:Type} {t kt et:TypeId} {xm xk:Operand} {b:Nat} {x:K} {f:β→Value} {z:β} {l:List (K×β)} (hg:jL ops L g=true) (hm:ev L xm=some (.map (some b))) (hk:ev L xk=some (kV x))
 (ht:E.P.underlying t=some (.map kt et)) (hkt:uX E.P kt kV) (hz:tV E.P et=some (f z)) (hC:iA C (iS kV b (bW f l)).holds):
 SD E ops ⟨dst,.lookup t xm xk true,ty,ps,af,g⟩ D L C (.tuple [f ((l.lookup x).getD z),.bool (l.lookup x).isSome].toArray):=by
 have:=Jt (dst:=dst) (ty:=ty) (ps:=ps) (af:=af) (D:=D) hg hm hk ht hkt hz hC
 rw [ni] at this
 have A:((l.lookup x).map f).getD (f z)=f ((l.lookup x).getD z):=by cases l.lookup x<;>rfl
 rw [A,Option.isSome_map] at this
 exact this
theorem lg {β:Type} {t kt et:TypeId} {xm xk:Operand} {b:Nat} {x:K} {f:β→Value} {z:β} {l:List (K×β)} (hg:jL ops L g=true) (hm:ev L xm=some (.map (some b))) (hk:ev L xk=some (kV x))
 (ht:E.P.underlying t=some (.map kt et)) (hkt:uX E.P kt kV) (hz:tV E.P et=some (f z)) (hC:iA C (iS kV b (bW f l)).holds):
 SD E ops ⟨dst,.lookup t xm xk false,ty,ps,af,g⟩ D L C (f ((l.lookup x).getD z)):=by
 have:=HO (dst:=dst) (ty:=ty) (ps:=ps) (af:=af) (D:=D) hg hm hk ht hkt hz hC
 rw [ni] at this
 have A:((l.lookup x).map f).getD (f z)=f ((l.lookup x).getD z):=by cases l.lookup x<;>rfl
 rw [A] at this
 exact this
theorem E2 {β:Type} {t kt et:TypeId} {xm:Operand} {b:Nat} {f:β→Value} {l:List (K×β)} (hg:jL ops L g=true) (hm:ev L xm=some (.map (some b))) (ht:E.P.underlying t=some (.map kt et)) (hC:iA C (iS kV b (bW f l)).holds):
 SD E ops ⟨dst,.call {callee:= .builtin .len,args:= #[xm],argTypes:= #[t]},ty,ps,af,g⟩ D L C (.int .i64 (l.length:Int)):=by
 have:=I8 (dst:=dst) (ty:=ty) (ps:=ps) (af:=af) (D:=D) hg hm ht hC
 rwa [HZ] at this
end
theorem fh {β:Type} {x:K} {y:β} {l:List (K×β)} (h:(x,y)∈l):(cH l x).length<l.length:=by
 unfold cH
 exact List.length_filter_lt_length_iff_exists.2 ⟨_,h,sm⟩
theorem kp {β:Type} {x:K} {p:K×β} {l:List (K×β)}:p∈cH l x↔p∈l∧p.1≠x:=by simp [cH]
/-- an iterator over a map: what is left; what came last -/
def zt (kV:K→Value) (r b:Nat) (m left:List (K×Value)) (cur:Option (K×Value)):av where
 fK k:=k=r∨k=b
 wf k:=k=r∨k=b
 holds w:=r≠b∧ ∃ (es:Array MapEntry) (c since:Nat) (seen:Array Nat) (st:Nat),w.heap[b]? =some (.map es c)∧jw kV es c m∧w.heap[r]? =some (.mapIter (some b) since seen st)∧(∀ e∈es.toList,e.born<since)∧since≤st∧since≤c∧
  (leftOf es seen).toList.map (fun (e:MapEntry)=>(e.key,e.val))=left.map (fun p=>(kV p.1,p.2))∧
  ∀ p,cur=some p→ ∃ (e:MapEntry) (seen0:Array Nat),e∈es.toList∧seen=seen0.push e.born∧st=c∧e.key=kV p.1∧e.val=p.2
 wr:=true
 kK _ h:=h
 whole _ _ h:=h
 lt w h k hk:=by
  obtain ⟨_,es,c,since,seen,st,h1,_,h2,_⟩:=h
  rcases hk with rfl|rfl
  ·exact eC h2
  ·exact eC h1
 oV w w' hk h:=by
  obtain ⟨hne,es,c,since,seen,st,h1,h2,h3,h4⟩:=h
  exact ⟨hne,es,c,since,seen,st,(hk b (.inr rfl)).trans h1,h2,(hk r (.inl rfl)).trans h3,h4⟩
theorem wY {r b:Nat} {m left:List (K×Value)} {cur:Option (K×Value)}:(∀ w,(zt kV r b m left cur).holds w→(zt kV r b m left none).holds w)∧(∀ k,(zt kV r b m left none).fK k→(zt kV r b m left cur).fK k)∧ ∀ k,(zt kV r b m left none).wf k→(zt kV r b m left cur).wf k:=
 ⟨fun w h=>by
  obtain ⟨A,es,c,since,seen,st,B,C,D,E,F,h5',G,_⟩:=h
  exact ⟨A,es,c,since,seen,st,B,C,D,E,F,h5',G,fun p hp=>by cases hp⟩,fun _ h=>h,fun _ h=>h⟩
theorem JH {r b:Nat} {m left:List (K×Value)} {cur:Option (K×Value)}:(∀ w,(zt kV r b m left cur).holds w→(iS kV b m).holds w)∧(∀ k,(iS kV b m).fK k→(zt kV r b m left cur).fK k)∧ ∀ k,(iS kV b m).wf k→(zt kV r b m left cur).wf k:=
 ⟨fun w h=>by
  obtain ⟨C,es,c,since,seen,st,A,B,_⟩:=h
  exact ⟨es,c,A,B⟩,fun _ h=> .inr h,fun _ h=> .inr h⟩
theorem CG {es:Array MapEntry} {c:Nat} {m:List (K×Value)} (hinj: ∀ x y,kV x=kV y→x=y) (hi:jw kV es c m) {x y:MapEntry} (hx:x∈es.toList) (hy:y∈es.toList) (e:x.key=y.key):x=y:=by
 have hk:(es.toList.map (·.key))=(m.map (·.1)).map kV:=by
  have:=congrArg (List.map Prod.fst) hi.list
  simpa [Function.comp_def] using this
 have h:(es.toList.map (·.key)).Nodup:=by
  rw [hk,List.nodup_iff_pairwise_ne,List.pairwise_map]
  exact hi.keys.imp (fun B he=>B (hinj _ _ he))
 obtain ⟨i,A⟩:=List.getElem?_of_mem hx
 obtain ⟨j,hj⟩:=List.getElem?_of_mem hy
 have C:(es.toList.map (·.key))[i]? =some x.key:=by rw [fB,A]; rfl
 have D:(es.toList.map (·.key))[j]? =some x.key:=by rw [fB,hj,e]; rfl
 have E:=(List.getElem?_inj (aY.1 C).1 h).1 (C.trans D.symm)
 subst E
 exact Option.some.inj (A.symm.trans hj)
section
variable {E:fq} {ops:Array Oper} {Q:df} {rest:List Oper} {D:List Deferred} {L:List (Nat×Value)} {C:List av}
variable {dst:Option Tmp} {d:Nat} {ty:TypeId} {ps:String} {af:Array Edge} {g:Option (Nat×Bool)}
theorem uU {t kt et:TypeId} {xm:Operand} {b:Nat} {m:List (K×Value)} (i:Nat) (hg:jL ops L g=true) (hm:ev L xm=some (.map (some b))) (ht:E.P.underlying t=some (.map kt et)) (hC:C[i]? =some (iS kV b m)) (hd:Nat.blt d E.n=true)
 (k: ∀ r,RJ E ops Q rest D ((d,.pointer (some ⟨r,0,none⟩))::L) (C.set i (zt kV r b m m none))):RJ E ops Q (⟨some d,.range t xm,ty,ps,af,g⟩::rest) D L C:=by
 intro a w A hs
 have hd':d<E.n:=by rw [← Nat.blt_eq]; exact hd
 unfold sk
 rw [if_pos (ep A hg)]
 obtain ⟨es,c,he,hi⟩:=hs.holds _ (aT hC)
 have F:b<w.heap.size:=eC he
 have B:(getObj b).run E.P w= .ok (.map es c) w:=MapKept.run_getObj_map he
 refine g3 (v:= .pointer (some ⟨w.heap.size,0,none⟩)) (w':=w.alloc (.mapIter (some b) c #[] c)) sm ?_ ?_
 ·simp [execOp,Instr.range,A.ev hm,run_underlying ht,B,newObj,Sem.run]
 ·refine k _ _ _ (A.put hd' _) (hs.mv i hC ⟨⟨I,es,c,c,#[],c,?_,hi,heap_alloc_new w _,hi.KR,Nat.le_refl _,Nat.le_refl _,?_,fun p hp=>by cases hp⟩,ei.alloc _ w _,fun q hq=>?_,fun q hq=>?_⟩)
  ·rw [Below.heap_alloc w _ b F]; exact he
  ·have:leftOf es #[]=es:=by unfold leftOf; exact Array.filter_eq_self.2 sm
   rw [this]; exact hi.list
  ·rcases hq with rfl|rfl
   ·exact .inr (Nat.le_refl _)
   ·exact .inl U
  ·rcases hq with rfl|rfl
   ·exact .inr (Nat.le_refl _)
   ·exact .inl U
theorem wJ {es:Array MapEntry} {c:Nat} {m left:List (K×Value)} {seen:Array Nat} (hinj: ∀ x y,kV x=kV y→x=y) (hi:jw kV es c m) (h:(leftOf es seen).toList.map (fun (e:MapEntry)=>(e.key,e.val))=left.map (fun p=>(kV p.1,p.2))):(left.map (·.1)).Nodup:=by
 have B:((leftOf es seen).toList.map (·.key)).Sublist (es.toList.map (·.key)):=by
  unfold leftOf; rw [Array.toList_filter]; exact List.filter_sublist.map _
 have D:(es.toList.map (·.key))=(m.map (·.1)).map kV:=by
  have:=congrArg (List.map Prod.fst) hi.list
  simpa [Function.comp_def] using this
 have E:((leftOf es seen).toList.map (·.key))=(left.map (·.1)).map kV:=by
  have:=congrArg (List.map Prod.fst) h
  simpa [Function.comp_def] using this
 rw [D,E] at B
 have F:((m.map (·.1)).map kV).Nodup:=by
  rw [List.nodup_iff_pairwise_ne,List.pairwise_map]
  exact hi.keys.imp (fun A he=>A (hinj _ _ he))
 have C:=F.sublist B
 rw [List.nodup_iff_pairwise_ne,List.pairwise_map] at C
 rw [List.nodup_iff_pairwise_ne]
 exact C.imp (fun A he=>A (by rw [he]))
theorem Lb (hinj: ∀ x y,kV x=kV y→x=y) {xi:Operand} {r b:Nat} {m left:List (K×Value)} {cur:Option (K×Value)} (i:Nat) (hg:jL ops L g=true) (hm:ev L xi=some (.pointer (some ⟨r,0,none⟩))) (hC:C[i]? =some (zt kV r b m left cur)) (hd:Nat.blt d E.n=true)
 (k0:left=[]→RJ E ops Q rest D ((d,.tuple [.bool false].toArray)::L) C)
 (k1: ∀ x v,(x,v)∈left→(left.map (·.1)).Nodup→RJ E ops Q rest D ((d,.tuple [.bool true,kV x,v].toArray)::L) (C.set i (zt kV r b m (cH left x) (some (x,v))))):
 RJ E ops Q (⟨some d,.next xi false,ty,ps,af,g⟩::rest) D L C:=by
 intro a w G hs
 have hd':d<E.n:=by rw [← Nat.blt_eq]; exact hd
 unfold sk
 rw [if_pos (ep G hg)]
 obtain ⟨R,es,c,since,seen,st,X,hi,Y,J,V,M,A,_⟩:=hs.holds _ (aT hC)
 rcases run_next_at (P:=E.P) w ty r b since st seen es c Y X J V with ⟨Z,hr⟩|⟨e,he,N,H,hr⟩
 ·refine g3 (v:= .tuple #[.bool false]) (w':=w) sm ?_ ?_
  ·simp [execOp,G.ev hm,hr]
  ·refine k0 ?_ _ _ (G.put hd' _) hs
   have:(leftOf es seen).toList=[]:=by rw [← List.length_eq_zero_iff,Array.length_toList]; exact Z
   rw [this] at A
   exact List.map_eq_nil_iff.1 A.symm
 ·have O:(e.key,e.val)∈left.map (fun p=>(kV p.1,p.2)):=by rw [← A]; exact bX.2 ⟨e,he,rfl⟩
  obtain ⟨p,hp,S⟩:=bX.1 O
  obtain ⟨x,v⟩:=p
  simp only [Prod.mk.injEq] at S
  obtain ⟨hk,hv⟩:=S
  refine g3 (v:= .tuple #[.bool true,e.key,e.val]) (w':=ChangeMaps.setBlock N r (.mapIter (some b) since (seen.push e.born) c)) sm ?_ ?_
  ·simp [execOp,G.ev hm,hr]
  ·rw [← hk,← hv]
   have AA:=wJ hinj hi A
   have F:e∈es.toList:=by unfold leftOf at he; rw [Array.toList_filter] at he; exact (List.mem_filter.1 he).1
   have f:c=c:=rfl
   have B:N.heap=w.heap:=by rcases H with rfl|rfl<;>rfl
   refine k1 x v hp AA _ _ (G.put hd' _) (hs.mv i hC ⟨⟨R,es,c,since,seen.push e.born,c,?_,hi,?_,J,M,M,?_,fun q hq=>?_⟩,?_,fun q hq=> .inl hq,fun q hq=> .inl hq⟩)
   ·show (N.heap.setIfInBounds r _)[b]? =_
    rw [Array.getElem?_setIfInBounds_ne R,B]; exact X
   ·show (N.heap.setIfInBounds r _)[r]? =_
    rw [Array.getElem?_setIfInBounds_self_of_lt (by rw [B]; exact eC Y)]
   ·have T:leftOf es (seen.push e.born)=(leftOf es seen).filter (fun z=> !(z.born==e.born)):=by
     unfold leftOf
     rw [Array.filter_filter]
     congr 1
     funext z
     simp only [Array.contains_push,Bool.not_or]
     rw [Bool.and_comm]
    rw [T,Array.toList_filter]
    have key: ∀ (l:List MapEntry) (ll:List (K×Value)),(∀ z∈l,z∈es.toList)→l.map (fun (e:MapEntry)=>(e.key,e.val))=ll.map (fun p=>(kV p.1,p.2))→
     (l.filter (fun z=> !(z.born==e.born))).map (fun (e:MapEntry)=>(e.key,e.val))=(cH ll x).map (fun p=>(kV p.1,p.2)):=by
     intro l
     induction l with
     |nil=>intro ll _ h; cases ll with
      |nil=>rfl
      |cons p ll=>simp at h
     |cons z l ih=>
      intro ll hz h
      cases ll with
      |nil=>simp at h
      |cons p ll=>
       simp only [List.map_cons,List.cons.injEq,Prod.mk.injEq] at h
       have ih':=ih ll (fun y hy=>hz y (by simp [hy])) h.2
       have AB:(z.born=e.born)↔(p.1=x):=by
        constructor
        ·intro hb
         have:z=e:=DH hi.born (hz z sm) F hb
         rw [this] at h
         have:=h.1.1.symm.trans hk.symm
         exact hinj _ _ this
        ·intro hx
         have W:z.key=e.key:=by rw [h.1.1,hx,hk]
         rw [CG hinj hi (hz z sm) F W]
       unfold cH at ih' ⊢
       by_cases hx:p.1=x
       ·rw [List.filter_cons_of_neg (by simp [AB.2 hx]),List.filter_cons_of_neg (by simp [hx])]; exact ih'
       ·rw [List.filter_cons_of_pos (by simpa using fun hb=>hx (AB.1 hb)),List.filter_cons_of_pos (by simpa using hx)]
        simp only [List.map_cons,h.1.1,h.1.2,ih']
    exact key _ _ (fun z hz=>by unfold leftOf at hz; rw [Array.toList_filter] at hz; exact (List.mem_filter.1 hz).1) A
   ·cases hq
    exact ⟨e,seen,F,U,U,hk.symm,hv.symm⟩
   ·refine ⟨?_,?_,?_,?_,fun q hq hn=>?_⟩
    ·rcases H with rfl|rfl<;>rfl
    ·rcases H with rfl|rfl<;>rfl
    ·rcases H with rfl|rfl<;>rfl
    ·show w.heap.size≤(N.heap.setIfInBounds r _).size
     simp [B]
    ·show (N.heap.setIfInBounds r _)[q]? =_
     rw [Array.getElem?_setIfInBounds_ne (fun e=>hn (.inl e.symm)),B]
theorem sW {xi:Operand} {r b:Nat} {m left:List (K×Value)} {x:K} {v:Value} (i:Nat) (hg:jL ops L g=true) (hm:ev L xi=some (.pointer (some ⟨r,0,none⟩))) (hC:C[i]? =some (zt kV r b m left (some (x,v)))):
 SD E ops ⟨dst,.entry xi,ty,ps,af,g⟩ D L C (.tuple [kV x,v].toArray):=
 dY hg sm fun a w F hs=>by
  obtain ⟨N,es,c,since,seen,st,J,hi,M,H,O,AA,G,B⟩:=hs.holds _ (aT hC)
  obtain ⟨e,A,he,rfl,rfl,hk,hv⟩:=B _ rfl
  have:=run_entry_at (P:=E.P) w r b since A es st e M J he hi.born
  simp [execOp,F.ev hm,this,hk,hv]
theorem te (hinj: ∀ x y,kV x=kV y→x=y) {β:Type} {f:β→Value} {xi:Operand} {r b:Nat} {m:List (K×Value)} {ll:List (K×β)} {cur:Option (K×Value)} (i:Nat) (hg:jL ops L g=true) (hm:ev L xi=some (.pointer (some ⟨r,0,none⟩))) (hC:C[i]? =some (zt kV r b m (bW f ll) cur)) (hd:Nat.blt d E.n=true)
 (k0:ll=[]→RJ E ops Q rest D ((d,.tuple [.bool false].toArray)::L) C)
 (k1: ∀ x y,(x,y)∈ll→(ll.map (·.1)).Nodup→RJ E ops Q rest D ((d,.tuple [.bool true,kV x,f y].toArray)::L) (C.set i (zt kV r b m (bW f (cH ll x)) (some (x,f y))))):
 RJ E ops Q (⟨some d,.next xi false,ty,ps,af,g⟩::rest) D L C:=by
 refine Lb hinj i hg hm hC hd (fun h=>k0 (List.map_eq_nil_iff.1 h)) (fun x v B hn=>?_)
 obtain ⟨p,hp,A⟩:=bX.1 B
 simp only [Prod.mk.injEq] at A
 obtain ⟨rfl,rfl⟩:=A
 have:=k1 p.1 p.2 hp (by simpa [bW,Function.comp_def] using hn)
 rwa [l4] at this
end
end
end
section
structure bT where
 Start:Int
 gp:Int
 qg:List Int
 vu:List (List (Int×aa))
 cw:Int
 dN:Int
 KU:Int
def bT.n (w:bT):Nat:=w.qg.length
def fx (s:Int):aB:=if s<0 then ⟨0,1⟩ else ⟨1,0⟩
def dw (a b:aB):aB:=⟨a.right+b.right,a.e7+b.e7⟩
def rV (w:bT) (b:Nat):List (Int×aa):=(w.vu[b]?).getD []
def iv (w:bT) (b:Nat):List (Int×aa):=(-1,⟨w.Start,w.gp⟩)::rV w b
def bR (w:bT) (b:Nat):Int:=(w.qg[b]?).getD 0
def kH (w:bT) (b:Nat) (p:aB×Int) (o:Int×aa):Option (aB×Int):=if max (p.2+bR w b) o.2.Lo≤min o.2.Hi w.gp then some (dw p.1 (fx o.1),max (p.2+bR w b) o.2.Lo) else none
def fwd (w:bT):Nat→List (aB×Int)
 |0=>[(⟨0,0⟩,w.Start)]
 |b+1=>(fwd w b).flatMap fun p=>(iv w b).filterMap (kH w b p)
def m_ (w:bT) (b:Nat) (p:aB×Int) (o:Int×aa):Option (aB×Int):=if o.2.Lo≤min p.2 o.2.Hi then some (dw p.1 (fx o.1),min p.2 o.2.Hi-bR w b) else none
def bwd (w:bT):Nat→List (aB×Int)
 |0=>[(⟨0,0⟩,w.gp)]
 |k+1=>(⟨0,0⟩,w.gp)::(bwd w k).flatMap fun p=>(iv w (w.n-(k+1))).filterMap (m_ w (w.n-(k+1)) p)
def back (w:bT) (b:Nat):List (aB×Int):=bwd w (w.n-b)
def j_ (w:bT) (t:aB):Bool:=decide (t.e7≤w.cw∧w.KU-t.right≤w.dN)
theorem fu {w:bT} {b:Nat} {q:aB×Int}:q∈fwd w (b+1)↔ ∃ p∈fwd w b,∃ o∈iv w b,kH w b p o=some q:=by
 simp only [fwd,List.mem_flatMap,List.mem_filterMap]
theorem u7 {w:bT} {b:Nat} (h:w.n≤b):back w b=[(⟨0,0⟩,w.gp)]:=by
 unfold back; rw [Nat.sub_eq_zero_of_le h]; rfl
theorem o6 {w:bT} {b:Nat} (h:b<w.n) {q:aB×Int}:q∈back w b↔q=(⟨0,0⟩,w.gp)∨ ∃ p∈back w (b+1),∃ o∈iv w b,m_ w b p o=some q:=by
 unfold back
 have e:w.n-b=(w.n-(b+1))+1:=by omega
 rw [e]
 simp only [bwd,bu,List.mem_flatMap,List.mem_filterMap]
 rw [show w.n-(w.n-(b+1)+1)=b by omega]
def tF (m c:List (aB×Int)):Prop:=(∀ t v,m.lookup t=some v→(t,v)∈c)∧ ∀ t y,(t,y)∈c→ ∃ v,m.lookup t=some v∧v≤y
def vR (m c:List (aB×Int)):Prop:=(∀ t v,m.lookup t=some v→(t,v)∈c)∧ ∀ t y,(t,y)∈c→ ∃ v,m.lookup t=some v∧y≤v
def vv (m c:List (aB×Int)):Prop:= ∀ t v,m.lookup t=some v→(t,v)∈c
theorem nk {K β:Type} [DecidableEq K] {m:List (K×β)} {x t:K} {y:β}:(e8 m x y).lookup t=if t=x then some y else m.lookup t:=by
 unfold e8
 by_cases hx:(m.lookup x).isSome
 ·rw [if_pos hx]
  have key: ∀ l:List (K×β),(l.lookup x).isSome∨True→(l.map (fun p=>if p.1=x then (x,y) else p)).lookup t=if t=x then (if (l.lookup x).isSome then some y else none) else l.lookup t:=by
   intro l _
   induction l with
   |nil=>simp
   |cons p l ih=>
    obtain ⟨k,v⟩:=p
    have ih:=ih (.inr trivial)
    by_cases hk:k=x
    ·subst hk
     by_cases ht:t=k
     ·subst ht; simp [List.lookup]
     ·have:(t==k)=false:=by simpa using ht
      simp only [List.map_cons,if_true,List.lookup,this,ih,if_neg ht]
    ·have hk':(x==k)=false:=by simpa using fun e=>hk e.symm
     by_cases ht:t=k
     ·subst ht; simp [List.lookup,hk]
     ·have A:(t==k)=false:=by simpa using ht
      simp only [List.map_cons,if_neg hk,List.lookup,A,ih,hk']
  rw [key m (.inr trivial)]
  by_cases ht:t=x
  ·subst ht
   rw [if_pos rfl,if_pos rfl,if_pos hx]
  ·rw [if_neg ht,if_neg ht]
 ·rw [if_neg hx]
  have hn:m.lookup x=none:=by cases h0:m.lookup x with
   |none=>rfl
   |some v=>exact absurd (by rw [h0]; rfl) hx
  by_cases ht:t=x
  ·subst ht
   rw [if_pos rfl]
   have:=gZ.1 hn
   clear hn hx
   induction m with
   |nil=>simp
   |cons p m ih=>
    obtain ⟨k,v⟩:=p
    have hk:(t==k)=false:=by simpa using fun e=>this (k,v) sm e.symm
    simp only [List.cons_append,List.lookup,hk]
    exact ih (fun q hq=>this q (cV _ hq))
  ·rw [if_neg ht]
   clear hn hx
   induction m with
   |nil=>
    have:(t==x)=false:=by simpa using ht
    simp [List.lookup,this]
   |cons p m ih=>
    obtain ⟨k,v⟩:=p
    by_cases hk:t=k
    ·subst hk; simp [List.lookup]
    ·have:(t==k)=false:=by simpa using hk
     simp only [List.cons_append,List.lookup,this]
     exact ih
/-- what a map is after a try -/
def pA (m:List (aB×Int)) (q:aB×Int):List (aB×Int):=match m.lookup q.1 with
 |none=>e8 m q.1 q.2
 |some v=>if q.2<v then e8 m q.1 q.2 else m
def px (m:List (aB×Int)) (q:aB×Int):List (aB×Int):=match m.lookup q.1 with
 |none=>e8 m q.1 q.2
 |some v=>if v<q.2 then e8 m q.1 q.2 else m
theorem xA {m:List (aB×Int)} {q:aB×Int} {t:aB}:(pA m q).lookup t=if t=q.1 then some (match m.lookup q.1 with |none=>q.2|some v=>min q.2 v) else m.lookup t:=by
 unfold pA
 cases h:m.lookup q.1 with
 |none=>simp only; rw [nk]
 |some v=>
  simp only
  split
  ·rename_i A
   rw [nk,Int.min_eq_left I]
  ·rename_i A
   split
   ·rename_i e; subst e; rw [h,Int.min_eq_right I]
   ·rfl
theorem wX {m:List (aB×Int)} {q:aB×Int} {t:aB}:(px m q).lookup t=if t=q.1 then some (match m.lookup q.1 with |none=>q.2|some v=>max q.2 v) else m.lookup t:=by
 unfold px
 cases h:m.lookup q.1 with
 |none=>simp only; rw [nk]
 |some v=>
  simp only
  split
  ·rename_i A
   rw [nk,Int.max_eq_left I]
  ·rename_i A
   split
   ·rename_i e; subst e; rw [h,Int.max_eq_right I]
   ·rfl
def x8 (m m':List (aB×Int)):Prop:= ∀ t v,m.lookup t=some v→ ∃ v',m'.lookup t=some v'∧v'≤v
def wP (m m':List (aB×Int)):Prop:= ∀ t v,m.lookup t=some v→ ∃ v',m'.lookup t=some v'∧v≤v'
theorem x8.refl (m:List (aB×Int)):x8 m m:=fun t v h=>⟨v,h,I⟩
theorem wP.refl (m:List (aB×Int)):wP m m:=fun t v h=>⟨v,h,I⟩
theorem vx {m:List (aB×Int)} {q:aB×Int}:x8 m (pA m q):=fun t v h=>by
 rw [xA]
 split
 ·rename_i e; subst e; rw [h]; exact ⟨_,rfl,by simp only; omega⟩
 ·exact ⟨v,h,I⟩
theorem qW {m:List (aB×Int)} {q:aB×Int}:wP m (px m q):=fun t v h=>by
 rw [wX]
 split
 ·rename_i e; subst e; rw [h]; exact ⟨_,rfl,by simp only; omega⟩
 ·exact ⟨v,h,I⟩
theorem H5 {m c:List (aB×Int)} {q:aB×Int} (h:vv m c) (hq:q∈c):vv (pA m q) c:=fun t v hv=>by
 rw [xA] at hv
 split at hv
 ·rename_i e
  subst e
  cases hm:m.lookup q.1 with
  |none=>simp only [hm,Option.some.injEq] at hv; subst hv; exact hq
  |some x=>
   simp only [hm,Option.some.injEq] at hv; subst hv
   rcases Int.lt_or_le q.2 x with A|A
   ·rw [Int.min_eq_left I]; exact hq
   ·rw [Int.min_eq_right I]; exact h _ _ hm
 ·exact h t v hv
theorem Ih {m c:List (aB×Int)} {q:aB×Int} (h:vv m c) (hq:q∈c):vv (px m q) c:=fun t v hv=>by
 rw [wX] at hv
 split at hv
 ·rename_i e
  subst e
  cases hm:m.lookup q.1 with
  |none=>simp only [hm,Option.some.injEq] at hv; subst hv; exact hq
  |some x=>
   simp only [hm,Option.some.injEq] at hv; subst hv
   rcases Int.lt_or_le q.2 x with A|A
   ·rw [Int.max_eq_right I]; exact h _ _ hm
   ·rw [Int.max_eq_left I]; exact hq
 ·exact h t v hv
theorem Hv {m:List (aB×Int)} {q:aB×Int}: ∃ v,(pA m q).lookup q.1=some v∧v≤q.2:=by
 rw [xA,if_pos rfl]
 refine ⟨_,U,?_⟩
 cases m.lookup q.1<;>simp only <;>omega
theorem Iu {m:List (aB×Int)} {q:aB×Int}: ∃ v,(px m q).lookup q.1=some v∧q.2≤v:=by
 rw [wX,if_pos rfl]
 refine ⟨_,U,?_⟩
 cases m.lookup q.1<;>simp only <;>omega
/-- all that comes of one entry, by some options, is held -/
def jr (w:bT) (b:Nat) (m:List (aB×Int)) (p:aB×Int) (os:List (Int×aa)):Prop:= ∀ o∈os,∀ q,kH w b p o=some q→ ∃ v,m.lookup q.1=some v∧v≤q.2
def jv (w:bT) (b:Nat) (m:List (aB×Int)) (p:aB×Int) (os:List (Int×aa)):Prop:= ∀ o∈os,∀ q,m_ w b p o=some q→ ∃ v,m.lookup q.1=some v∧q.2≤v
theorem jr.lower {w:bT} {b:Nat} {m m':List (aB×Int)} {p:aB×Int} {os:List (Int×aa)} (h:jr w b m p os) (hl:x8 m m'):jr w b m' p os:=fun o ho q hq=>by
 obtain ⟨v,A,C⟩:=h o ho q hq
 obtain ⟨v',B,D⟩:=hl _ _ A
 exact ⟨v',B,I⟩
theorem jv.upper {w:bT} {b:Nat} {m m':List (aB×Int)} {p:aB×Int} {os:List (Int×aa)} (h:jv w b m p os) (hl:wP m m'):jv w b m' p os:=fun o ho q hq=>by
 obtain ⟨v,A,C⟩:=h o ho q hq
 obtain ⟨v',B,D⟩:=hl _ _ A
 exact ⟨v',B,I⟩
theorem jr.sub {w:bT} {b:Nat} {m:List (aB×Int)} {p:aB×Int} {os os':List (Int×aa)} (h:jr w b m p os) (hs: ∀ o∈os',o∈os):jr w b m p os':=fun o ho=>h o (hs o ho)
theorem jv.sub {w:bT} {b:Nat} {m:List (aB×Int)} {p:aB×Int} {os os':List (Int×aa)} (h:jv w b m p os) (hs: ∀ o∈os',o∈os):jv w b m p os':=fun o ho=>h o (hs o ho)
theorem jr.add {w:bT} {b:Nat} {m m':List (aB×Int)} {p:aB×Int} {os:List (Int×aa)} {o:Int×aa} (h:jr w b m p os) (hl:x8 m m') (hn: ∀ q,kH w b p o=some q→ ∃ v,m'.lookup q.1=some v∧v≤q.2):jr w b m' p (os++[o]):=fun o' ho q hq=>by
 rcases dM.1 ho with ho|ho
 ·exact h.lower hl o' ho q hq
 ·simp only [bH] at ho; subst ho; exact hn q hq
theorem jv.add {w:bT} {b:Nat} {m m':List (aB×Int)} {p:aB×Int} {os:List (Int×aa)} {o:Int×aa} (h:jv w b m p os) (hl:wP m m') (hn: ∀ q,m_ w b p o=some q→ ∃ v,m'.lookup q.1=some v∧q.2≤v):jv w b m' p (os++[o]):=fun o' ho q hq=>by
 rcases dM.1 ho with ho|ho
 ·exact h.upper hl o' ho q hq
 ·simp only [bH] at ho; subst ho; exact hn q hq
theorem fJ {m:List (aB×Int)} (hn:(m.map (·.1)).Nodup) {t:aB} {v:Int}:(t,v)∈m↔m.lookup t=some v:=kd hn
theorem py {z t:aB} {x v:Int}:List.lookup t [(z,x)]=some v↔t=z∧v=x:=by
 by_cases e:t=z
 ·subst e; simp [List.lookup,eq_comm]
 ·have:(t==z)=false:=by simpa using e
  simp [List.lookup,this,e]
theorem H4 {w:bT}:tF [(⟨0,0⟩,w.Start)] (fwd w 0):=by
 refine ⟨fun t v h=>?_,fun t y h=>?_⟩
 ·obtain ⟨rfl,rfl⟩:=py.1 h
  simp [fwd]
 ·simp only [fwd,bH,Prod.mk.injEq] at h
  obtain ⟨rfl,rfl⟩:=h
  exact ⟨w.Start,py.2 ⟨U,U⟩,Int.le_refl _⟩
theorem Kf {w:bT} {b:Nat} {mb m:List (aB×Int)} (hn:(mb.map (·.1)).Nodup) (h:tF mb (fwd w b)) (hs:vv m (fwd w (b+1))) (hd: ∀ p∈mb,jr w b m p (iv w b)):tF m (fwd w (b+1)):=⟨hs,fun t y hy=>by
 obtain ⟨p,hp,o,ho,e⟩:=fu.1 hy
 obtain ⟨v,B,E⟩:=h.2 p.1 p.2 hp
 unfold kH at e
 split at e
 ·rename_i D
  simp only [Option.some.injEq,Prod.mk.injEq] at e
  obtain ⟨v',A,C⟩:=hd (p.1,v) ((fJ hn).2 B) o ho (dw p.1 (fx o.1),max (v+bR w b) o.2.Lo) (by unfold kH; rw [if_pos (by simp only; omega)])
  simp only at A C
  rw [e.1] at A
  exact ⟨v',A,I⟩
 ·cases e⟩
theorem Ms {w:bT} {b:Nat} (hb:w.n≤b):vR [(⟨0,0⟩,w.gp)] (back w b):=by
 rw [u7 hb]
 refine ⟨fun t v h=>?_,fun t y h=>?_⟩
 ·obtain ⟨rfl,rfl⟩:=py.1 h
  simp
 ·simp only [bH,Prod.mk.injEq] at h
  obtain ⟨rfl,rfl⟩:=h
  exact ⟨w.gp,py.2 ⟨U,U⟩,Int.le_refl _⟩
theorem I1 {w:bT} {b:Nat} (hb:b<w.n) {mb m:List (aB×Int)} (hn:(mb.map (·.1)).Nodup) (h:vR mb (back w (b+1))) (hs:vv m (back w b)) (h0: ∃ v,m.lookup ⟨0,0⟩=some v∧w.gp≤v) (hd: ∀ p∈mb,jv w b m p (iv w b)):vR m (back w b):=⟨hs,fun t y hy=>by
 rcases (o6 hb).1 hy with e|⟨p,hp,o,ho,e⟩
 ·simp only [Prod.mk.injEq] at e
  obtain ⟨rfl,rfl⟩:=e
  exact h0
 obtain ⟨v,B,E⟩:=h.2 p.1 p.2 hp
 unfold m_ at e
 split at e
 ·rename_i D
  simp only [Option.some.injEq,Prod.mk.injEq] at e
  obtain ⟨v',A,C⟩:=hd (p.1,v) ((fJ hn).2 B) o ho (dw p.1 (fx o.1),min v o.2.Hi-bR w b) (by unfold m_; rw [if_pos (by simp only; omega)])
  simp only at A C
  rw [e.1] at A
  exact ⟨v',A,I⟩
 ·cases e⟩
end
section
def iQ (w:bT) (b:Nat) (p u:aB×Int) (o:Int×aa):aa:=⟨max (p.2+bR w b) o.2.Lo,min u.2 o.2.Hi⟩
def vC (p u:aB×Int) (o:Int×aa):aB:=dw (dw p.1 u.1) (fx o.1)
def mN (w:bT) (b:Nat) (p u:aB×Int) (o:Int×aa):Option (Int×aa):=if (iQ w b p u o).Lo≤(iQ w b p u o).Hi∧j_ w (vC p u o)=true then some (o.1,iQ w b p u o) else none
def qf (w:bT) (b:Nat) (mf mb:List (aB×Int)):List (Int×aa):=(iv w b).flatMap fun o=>mf.flatMap fun p=>mb.filterMap fun u=>mN w b p u o
def eU (w:bT) (b:Nat):List (Int×aa):=qf w b (fwd w b) (back w (b+1))
theorem gU {w:bT} {b:Nat} {mf mb:List (aB×Int)} {q:Int×aa}:q∈qf w b mf mb↔ ∃ o∈iv w b,∃ p∈mf,∃ u∈mb,mN w b p u o=some q:=by
 simp only [qf,List.mem_flatMap,List.mem_filterMap]
theorem iL {w:bT} {b:Nat} {p u:aB×Int} {o q:Int×aa}:mN w b p u o=some q↔(iQ w b p u o).Lo≤(iQ w b p u o).Hi∧j_ w (vC p u o)=true∧q=(o.1,iQ w b p u o):=by
 unfold mN
 split
 ·rename_i h
  simp only [Option.some.injEq]
  exact ⟨fun e=>⟨h.1,h.2,e.symm⟩,fun e=>e.2.2.symm⟩
 ·rename_i h
  simp only [reduceCtorEq,false_iff]
  exact fun e=>h ⟨e.1,e.2.1⟩
theorem iN {w:bT} {b:Nat} {mf mb:List (aB×Int)} {q:Int×aa} (h:q∈qf w b mf mb):q.2.Lo≤q.2.Hi:=by
 obtain ⟨o,_,p,_,u,_,e⟩:=gU.1 h
 obtain ⟨A,_,rfl⟩:=iL.1 e
 exact A
/-- what the maps tell is what all ways tell -/
theorem O0 {w:bT} {b:Nat} {mf mb:List (aB×Int)} (hf:tF mf (fwd w b)) (hb:vR mb (back w (b+1))) (nf:(mf.map (·.1)).Nodup) (nb:(mb.map (·.1)).Nodup) {q:Int×aa} (h:q∈qf w b mf mb):q∈eU w b:=by
 obtain ⟨o,ho,p,hp,u,hu,e⟩:=gU.1 h
 exact gU.2 ⟨o,ho,p,hf.1 _ _ ((fJ nf).1 hp),u,hb.1 _ _ ((fJ nb).1 hu),e⟩
theorem LY {w:bT} {b:Nat} {mf mb:List (aB×Int)} (hf:tF mf (fwd w b)) (hb:vR mb (back w (b+1))) (nf:(mf.map (·.1)).Nodup) (nb:(mb.map (·.1)).Nodup) {q:Int×aa} (h:q∈eU w b): ∃ q'∈qf w b mf mb,q'.1=q.1∧q'.2.Lo≤q.2.Lo∧q.2.Hi≤q'.2.Hi:=by
 obtain ⟨o,ho,p,hp,u,hu,e⟩:=gU.1 h
 obtain ⟨A,B,rfl⟩:=iL.1 e
 obtain ⟨v,hv,C⟩:=hf.2 p.1 p.2 hp
 obtain ⟨y,hy,D⟩:=hb.2 u.1 u.2 hu
 simp only [iQ] at A
 refine ⟨(o.1,iQ w b (p.1,v) (u.1,y) o),gU.2 ⟨o,ho,(p.1,v),(fJ nf).2 hv,(u.1,y),(fJ nb).2 hy,iL.2 ⟨?_,B,U⟩⟩,U,?_,?_⟩
 ·simp only [iQ]; omega
 ·simp only [iQ]; omega
 ·simp only [iQ]; omega
def iT:aa:=⟨1,0⟩
def mR (h x:aa):aa:=if h=iT then x else ⟨min x.Lo h.Lo,max x.Hi h.Hi⟩
def g6 (l:List (Int×aa)):aa:=l.foldl (fun h q=>mR h q.2) iT
structure mU (l:List (Int×aa)) (h:aa):Prop where
 le:h.Lo≤h.Hi
 lo: ∃ x∈l,x.2.Lo=h.Lo
 hi: ∃ x∈l,x.2.Hi=h.Hi
 all: ∀ x∈l,h.Lo≤x.2.Lo∧x.2.Hi≤h.Hi
def kI (l:List (Int×aa)) (h:aa):Prop:=(l=[]∧h=iT)∨mU l h
theorem mU.ne {l:List (Int×aa)} {h:aa} (hh:mU l h):h≠iT:=fun e=>by
 have:=hh.le; rw [e] at this; simp [iT] at this
theorem CR:kI [] iT:= .inl ⟨rfl,rfl⟩
theorem u_ {l:List (Int×aa)} {h:aa} {q:Int×aa} (hh:kI l h) (hq:q.2.Lo≤q.2.Hi):kI (l++[q]) (mR h q.2):=by
 right
 rcases hh with ⟨rfl,rfl⟩|hh
 ·unfold mR
  rw [if_pos rfl]
  exact ⟨hq,⟨q,sm,rfl⟩,⟨q,sm,rfl⟩,fun x hx=>by simp at hx; subst hx; exact ⟨Int.le_refl _,Int.le_refl _⟩⟩
 ·unfold mR
  rw [if_neg hh.ne]
  have A:=hh.le
  obtain ⟨a,ha,ea⟩:=hh.lo
  obtain ⟨c,hc,ec⟩:=hh.hi
  refine ⟨by simp only; omega,?_,?_,fun x hx=>?_⟩
  ·rcases Int.lt_or_le q.2.Lo h.Lo with p|p
   ·exact ⟨q,sm,by simp only; omega⟩
   ·exact ⟨a,by simp [ha],by simp only; omega⟩
  ·rcases Int.lt_or_le h.Hi q.2.Hi with p|p
   ·exact ⟨q,sm,by simp only; omega⟩
   ·exact ⟨c,by simp [hc],by simp only; omega⟩
  ·rcases dM.1 hx with hx|hx
   ·have:=hh.all x hx; simp only; omega
   ·simp at hx; subst hx; simp only; omega
theorem qQ {l:List (Int×aa)} (hl: ∀ q∈l,q.2.Lo≤q.2.Hi):kI l (g6 l):=by
 have key: ∀ (r d:List (Int×aa)) (h:aa),(∀ q∈r,q.2.Lo≤q.2.Hi)→kI d h→kI (d++r) (r.foldl (fun h q=>mR h q.2) h):=by
  intro r
  induction r with
  |nil=>intro d h _ hd; simpa using hd
  |cons q r ih=>
   intro d h hr hd
   have:=ih (d++[q]) (mR h q.2) (fun x hx=>hr x (cV _ hx)) (u_ hd (hr q sm))
   simpa using this
 have:=key l [] iT hl CR
 rw [List.nil_append] at this
 exact this
def Fa (a b:List (Int×aa)):Prop:= ∀ x∈b,∃ y∈a,y.2.Lo≤x.2.Lo∧x.2.Hi≤y.2.Hi
theorem Nh {a b:List (Int×aa)} {h k:aa} (ha:kI a h) (hb:kI b k) (hab:Fa a b) (hba:Fa b a):h=k:=by
 rcases ha with ⟨rfl,rfl⟩|ha
 ·rcases hb with ⟨rfl,rfl⟩|hb
  ·rfl
  ·obtain ⟨x,hx,_⟩:=hb.lo
   obtain ⟨y,hy,_⟩:=hab x hx
   cases hy
 ·rcases hb with ⟨rfl,rfl⟩|hb
  ·obtain ⟨x,hx,_⟩:=ha.lo
   obtain ⟨y,hy,_⟩:=hba x hx
   cases hy
  ·have le: ∀ {a b:List (Int×aa)} {h k:aa},mU a h→mU b k→Fa a b→h.Lo≤k.Lo∧k.Hi≤h.Hi:=fun {a b h k} ha hb hab=>by
    obtain ⟨x,hx,ex⟩:=hb.lo
    obtain ⟨z,hz,ez⟩:=hb.hi
    obtain ⟨y,hy,ey⟩:=hab x hx
    obtain ⟨y',hy',ey'⟩:=hab z hz
    have A:=ha.all y hy
    have B:=ha.all y' hy'
    omega
   have A:=le ha hb hab
   have B:=le hb ha hba
   rw [aa.ext_iff]; omega
theorem zU {w:bT} {b:Nat} {mf mb:List (aB×Int)} {l:List (Int×aa)} {h:aa} (hf:tF mf (fwd w b)) (hb:vR mb (back w (b+1))) (nf:(mf.map (·.1)).Nodup) (nb:(mb.map (·.1)).Nodup)
 (hl: ∀ q∈l,q∈qf w b mf mb) (hl2: ∀ q∈qf w b mf mb,q∈l) (hh:kI l h):h=g6 (eU w b):=
 Nh hh (qQ fun q hq=>iN hq) (fun x hx=>by
  obtain ⟨q,hq,_,A,B⟩:=LY hf hb nf nb hx
  exact ⟨q,hl2 q hq,A,B⟩) (fun x hx=>⟨x,O0 hf hb nf nb (hl x hx),Int.le_refl _,Int.le_refl _⟩)
def jF (w:bT) (m:List (aB×Int)):Bool:=m.any fun p=>j_ w p.1
theorem Db {w:bT} {b:Nat} {m:List (aB×Int)} (h:tF m (fwd w b)) (nf:(m.map (·.1)).Nodup):jF w m=jF w (fwd w b):=by
 unfold jF
 rw [Bool.eq_iff_iff,List.any_eq_true,List.any_eq_true]
 constructor
 ·rintro ⟨p,hp,A⟩
  exact ⟨p,h.1 _ _ ((fJ nf).1 hp),A⟩
 ·rintro ⟨p,hp,A⟩
  obtain ⟨v,hv,_⟩:=h.2 p.1 p.2 hp
  exact ⟨(p.1,v),(fJ nf).2 hv,A⟩
def kE (w:bT) (k:Nat):List Int:=((List.range k).filter fun i=>jF w (fwd w i)).map fun (i:Nat)=>(i:Int)
def jW (w:bT):List Int:=kE w (w.n+1)
theorem Ff {w:bT} {k:Nat} (h:jF w (fwd w k)=true):kE w (k+1)=kE w k++[(k:Int)]:=by simp [kE,List.range_succ,h]
theorem G7 {w:bT} {k:Nat} (h:jF w (fwd w k)=false):kE w (k+1)=kE w k:=by simp [kE,List.range_succ,h]
theorem wN {w:bT} {k:Nat}:(kE w k).length≤k:=by
 unfold kE
 rw [List.length_map]
 exact Nat.le_trans (List.length_filter_le _ _) sm
end
section
open Go.RowKit
theorem G9 {P:Program} {t:Nat} {k:IntKind} (hu:P.underlying t=some (.int k)) (e:Bool) (n:Nat) (v:Value) (w:World):(Instr.checkKey e (n+1) t v).run P w= .ok () w:=by
 unfold Instr.checkKey
 simp only [Sem.run_bind,run_underlying hu,Result.andThen]
 cases v<;>rfl
theorem Bc {P:Program} {kt:Nat} {l:List (Nat×Nat)} (hl:fL P kt=some l) (e:Bool) (n:Nat) (cs:Array Value) (w:World)
 (hf: ∀ p∈l,(∃ v,(part p.1 cs p.2).run P w= .ok v w)∧ ∃ k,P.underlying p.1=some (.int k)):(Instr.checkKey e (n+2) kt (.agg cs)).run P w= .ok () w:=by
 unfold fL at hl
 cases hu:P.underlying kt with
 |none=>simp [hu] at hl
 |some d=>
  cases d<;>simp [hu] at hl
  rename_i fs
  obtain ⟨hn,hl⟩:=hl
  rw [show n+2=(n+1)+1 from rfl,Instr.checkKey]
  simp only [Sem.run_bind,run_underlying hu,Result.andThen_ok]
  rw [← Array.forIn_toList]
  have A: ∀ f∈fs.toList,(∃ v,(part f.type cs f.offset).run P w= .ok v w)∧ ∃ k,P.underlying f.type=some (.int k):=fun f hf'=>hf (f.type,f.offset) (by rw [← hl]; exact bX.2 ⟨f,hf',rfl⟩)
  have B: ∀ f∈fs.toList,f.name≠"_":=fun f hf'=>by
   obtain ⟨i,hi,rfl⟩:=List.getElem_of_mem hf'
   exact hn.1.1 i (by simpa using hi)
  clear hl hn hf
  generalize fs.toList=L at A B
  induction L with
  |nil=>simp
  |cons f L ih=>
   obtain ⟨⟨v,hv⟩,k,hk⟩:=A f sm
   have C:=B f sm
   simp only [List.forIn_cons,Sem.run_bind,C,ne_eq,not_false_eq_true,if_true,Result.andThen_ok,hv,G9 hk,Sem.run_pure]
   exact ih (fun y hy=>A y (by simp [hy])) (fun y hy=>B y (by simp [hy]))
theorem Du {P:Program} {kt:Nat} {K:Type} [DecidableEq K] {kV:K→Value} (hw: ∀ (k:Value) (es:List MapEntry) (w:World),(Instr.findKey kt k es).run P w=(Instr.findAsking kt k es).run P w)
 (heq: ∀ x y w,(Op.equal kt (kV x) (kV y)).run P w= .ok (decide (x=y)) w) (inj: ∀ x y,kV x=kV y→x=y) (x:K) (w:World) (es:List MapEntry) (hk: ∀ e∈es,∃ k,e.key=kV k):
 ((Instr.findKey kt (kV x) es).run P w= .ok none w∧ ∀ e∈es,e.key≠kV x)∨ ∃ j e,(Instr.findKey kt (kV x) es).run P w= .ok (some (j,e.val)) w∧es[j]? =some e∧e.key=kV x:=by
 have key: ∀ (es:List MapEntry) (i:Nat),(∀ e∈es,∃ k,e.key=kV k)→((Instr.findAsking kt (kV x) es i).run P w= .ok none w∧ ∀ e∈es,e.key≠kV x)∨ ∃ j e,(Instr.findAsking kt (kV x) es i).run P w= .ok (some (i+j,e.val)) w∧es[j]? =some e∧e.key=kV x:=by
  intro es
  induction es with
  |nil=>intro i _; exact .inl ⟨by simp [Instr.findAsking],sm⟩
  |cons e es ih=>
   intro i B
   obtain ⟨k,A⟩:=B e sm
   by_cases h:x=k
   ·refine .inr ⟨0,e,?_,U,by rw [A,h]⟩
    subst h
    simp [Instr.findAsking,A,heq]
   ·rcases ih (i+1) (fun y hy=>B y (by simp [hy])) with ⟨C,D⟩|⟨j,e',C,D,E⟩
    ·refine .inl ⟨by simp [Instr.findAsking,A,heq,h,C],fun y hy=>?_⟩
     rcases bu.1 hy with rfl|hy
     ·rw [A]; exact fun q=>h (inj _ _ q).symm
     ·exact D y hy
    ·exact .inr ⟨j+1,e',by simp [Instr.findAsking,A,heq,h,C]; omega,by simpa using D,E⟩
 rw [hw]
 rcases key es 0 hk with h|⟨j,e,C,D,E⟩
 ·exact .inl h
 ·exact .inr ⟨j,e,by simpa using C,D,E⟩
theorem EV {P:Program} {kt:Nat} {l:List (Nat×Nat)} (hl:fL P kt=some l) (k:Value) (es:List MapEntry) (w:World):(Instr.findKey kt k es).run P w=(Instr.findAsking kt k es).run P w:=by
 refine run_findKey_eq w ?_ k es
 unfold fL at hl
 cases hu:P.underlying kt with
 |none=>simp [hu] at hl
 |some d=>cases d<;>simp [hu] at hl ⊢
theorem Oa {P:Program} {kt:Nat} {K:Type} [DecidableEq K] {kV:K→Value} {l:List (Nat×Nat)} (hl:fL P kt=some l) (heq: ∀ x y w,(Op.equal kt (kV x) (kV y)).run P w= .ok (decide (x=y)) w) (inj: ∀ x y,kV x=kV y→x=y)
 (hb: ∀ x,Instr.sameBits 10000 (kV x) (kV x)=true) (hp: ∀ x w,∃ cs,kV x= .agg cs∧ ∀ p∈l,(∃ v,(part p.1 cs p.2).run P w= .ok v w)∧ ∃ k,P.underlying p.1=some (.int k)):uX P kt kV:=
 ⟨fun e x w=>by obtain ⟨cs,A,B⟩:=hp x w; rw [A]; exact Bc hl e 9998 cs w B,fun x w es=>Du (EV hl) heq inj x w es,hb,inj⟩
end
section
open Go.RowKit
set_option linter.unusedSectionVars false
theorem eX {P:Program} {kt:Nat} (hk:P.underlying kt=some (.int .i64)):uX P kt (Value.int .i64):=by
 refine ⟨fun e x w=>HE hk e,fun x w es A=>?_,fun x=>by simp [Instr.sameBits],fun x y h=>by injection h⟩
 have key: ∀ (es:List MapEntry) (i:Nat),(∀ e∈es,∃ k:Int,e.key= .int .i64 k)→(Instr.findNow (.int .i64) (.int .i64 x) es i=some none∧ ∀ e∈es,e.key≠ .int .i64 x)∨ ∃ j e,Instr.findNow (.int .i64) (.int .i64 x) es i=some (some (i+j,e.val))∧es[j]? =some e∧e.key= .int .i64 x:=by
  intro es
  induction es with
  |nil=>intro i _; exact .inl ⟨rfl,sm⟩
  |cons e es ih=>
   intro i A
   obtain ⟨k,B⟩:=A e sm
   by_cases h:x=k
   ·subst h
    exact .inr ⟨0,e,by simp [Instr.findNow,Instr.sameNow,B],U,B⟩
   ·have hb:(x==k)=false:=by simpa using h
    rcases ih (i+1) (fun y hy=>A y (by simp [hy])) with ⟨C,D⟩|⟨j,e',C,D,E⟩
    ·refine .inl ⟨by simp [Instr.findNow,Instr.sameNow,B,hb,C],fun y hy=>?_⟩
     rcases bu.1 hy with rfl|hy
     ·rw [B]; intro q; injection q with _ q; exact h q.symm
     ·exact D y hy
    ·refine .inr ⟨j+1,e',?_,by simpa using D,E⟩
     simp only [Instr.findNow,Instr.sameNow,B,hb,if_true,C]
     simp; omega
 rcases key es 0 A with ⟨C,D⟩|⟨j,e,C,D,E⟩
 ·exact .inl ⟨MapKept.run_findKey hk C,D⟩
 ·exact .inr ⟨j,e,MapKept.run_findKey hk (by simpa using C),D,E⟩
theorem St.M4 {S:BS} {w0 w w':World} {C:List av} {A N:av} (h:St S w0 C w) (i:Nat) (hA:C[i]? =some A) (k:ei no w w') (hN:N.holds w') (hf: ∀ b,N.fK b→w.heap.size≤b∨A.fK b∧ ¬ A.wf b∧ ¬ N.wf b):St S w0 (N::C) w':=by
 have h':=h.same k
 have G:=aT hA
 have hi:=(aY.1 hA).1
 have B:C[i]=A:=(aY.1 hA).2
 refine ⟨h'.keeps,fun X hX=>?_,List.Pairwise.cons (fun X hX b hb hb'=>?_) h'.sep,fun X hX b hb=>?_,fun X hX b hb=>?_⟩
 ·rcases bu.1 hX with rfl|hX
  ·exact hN
  ·exact h'.holds X hX
 ·rcases hf b hb with E|⟨E,AA,H⟩
  ·have:=X.lt w (h.holds X hX) b hb'; omega
  ·refine ⟨H,?_⟩
   obtain ⟨j,hj,D⟩:=List.mem_iff_getElem.1 hX
   by_cases e:j=i
   ·subst e; rw [← D,B]; exact AA
   ·rcases Nat.lt_or_gt_of_ne e with F|F
    ·have:=eQ.1 h.sep j i hj hi F b (by rw [D]; exact hb') (by rw [B]; exact E)
     rw [← D]; exact this.1
    ·have:=eQ.1 h.sep i j hi hj F b (by rw [B]; exact E) (by rw [D]; exact hb')
     rw [← D]; exact this.2
 ·rcases bu.1 hX with rfl|hX
  ·rcases hf b (X.kK b hb) with E|⟨_,_,H⟩
   ·exact .inl (Nat.le_trans h.keeps.size E)
   ·exact absurd hb H
  ·exact h'.own X hX b hb
 ·rcases bu.1 hX with rfl|hX
  ·rcases hf b hb with E|⟨E,_,_⟩
   ·exact .inl (Nat.le_trans h.keeps.size E)
   ·exact h.seen A G b E
  ·exact h'.seen X hX b hb
section
variable {K:Type} [DecidableEq K] {kV:K→Value}
/-- an iterator over a map that is read alone -/
def yX (kV:K→Value) (r b:Nat) (m left:List (K×Value)) (cur:Option (K×Value)):av where
 fK k:=k=r∨k=b
 wf k:=k=r
 holds w:=r≠b∧ ∃ (es:Array MapEntry) (c since:Nat) (seen:Array Nat) (st:Nat),w.heap[b]? =some (.map es c)∧jw kV es c m∧w.heap[r]? =some (.mapIter (some b) since seen st)∧(∀ e∈es.toList,e.born<since)∧since≤st∧since≤c∧
  (leftOf es seen).toList.map (fun (e:MapEntry)=>(e.key,e.val))=left.map (fun p=>(kV p.1,p.2))∧
  ∀ p,cur=some p→ ∃ (e:MapEntry) (seen0:Array Nat),e∈es.toList∧seen=seen0.push e.born∧st=c∧e.key=kV p.1∧e.val=p.2
 wr:=false
 kK _ h:= .inl h
 whole h:=by cases h
 lt w h k hk:=by
  obtain ⟨_,es,c,since,seen,st,h1,_,h2,_⟩:=h
  rcases hk with rfl|rfl
  ·exact eC h2
  ·exact eC h1
 oV w w' hk h:=by
  obtain ⟨hne,es,c,since,seen,st,h1,h2,h3,h4⟩:=h
  exact ⟨hne,es,c,since,seen,st,(hk b (.inr rfl)).trans h1,h2,(hk r (.inl rfl)).trans h3,h4⟩
theorem fR {r b:Nat} {m left:List (K×Value)} {cur:Option (K×Value)}:(∀ w,(yX kV r b m left cur).holds w→(yX kV r b m left none).holds w)∧(∀ k,(yX kV r b m left none).fK k→(yX kV r b m left cur).fK k)∧ ∀ k,(yX kV r b m left none).wf k→(yX kV r b m left cur).wf k:=
 ⟨fun w h=>by
  obtain ⟨A,es,c,since,seen,st,B,C,D,E,F,h5',G,_⟩:=h
  exact ⟨A,es,c,since,seen,st,B,C,D,E,F,h5',G,fun p hp=>by cases hp⟩,fun _ h=>h,fun _ h=>h⟩
section
variable {E:fq} {ops:Array Oper} {Q:df} {rest:List Oper} {D:List Deferred} {L:List (Nat×Value)} {C:List av}
variable {dst:Option Tmp} {d:Nat} {ty:TypeId} {ps:String} {af:Array Edge} {g:Option (Nat×Bool)}
theorem j4 {t kt et:TypeId} {xm:Operand} {b:Nat} {m:List (K×Value)} {A:av} (i:Nat) (hg:jL ops L g=true) (hm:ev L xm=some (.map (some b))) (ht:E.P.underlying t=some (.map kt et)) (hA:C[i]? =some A) (hAf:A.fK b∧ ¬ A.wf b) (hC:iA C (iS kV b m).holds) (hd:Nat.blt d E.n=true)
 (k: ∀ r,RJ E ops Q rest D ((d,.pointer (some ⟨r,0,none⟩))::L) (yX kV r b m m none::C)):RJ E ops Q (⟨some d,.range t xm,ty,ps,af,g⟩::rest) D L C:=by
 intro a w B hs
 have hd':d<E.n:=by rw [← Nat.blt_eq]; exact hd
 unfold sk
 rw [if_pos (ep B hg)]
 obtain ⟨es,c,he,hi⟩:=hs.has hC
 have G:b<w.heap.size:=eC he
 have F:(getObj b).run E.P w= .ok (.map es c) w:=MapKept.run_getObj_map he
 refine g3 (v:= .pointer (some ⟨w.heap.size,0,none⟩)) (w':=w.alloc (.mapIter (some b) c #[] c)) sm ?_ ?_
 ·simp [execOp,Instr.range,B.ev hm,run_underlying ht,F,newObj,Sem.run]
 ·refine k _ _ _ (B.put hd' _) (hs.M4 i hA (ei.alloc no w _) ⟨I,es,c,c,#[],c,?_,hi,heap_alloc_new w _,hi.KR,Nat.le_refl _,Nat.le_refl _,?_,fun p hp=>by cases hp⟩ (fun q hq=>?_))
  ·rw [Below.heap_alloc w _ b G]; exact he
  ·have:leftOf es #[]=es:=by unfold leftOf; exact Array.filter_eq_self.2 sm
   rw [this]; exact hi.list
  ·rcases hq with rfl|rfl
   ·exact .inl (Nat.le_refl _)
   ·refine .inr ⟨hAf.1,hAf.2,fun (e:q=w.heap.size)=>by omega⟩
theorem HV (hinj: ∀ x y,kV x=kV y→x=y) {xi:Operand} {r b:Nat} {m left:List (K×Value)} {cur:Option (K×Value)} (i:Nat) (hg:jL ops L g=true) (hm:ev L xi=some (.pointer (some ⟨r,0,none⟩))) (hC:C[i]? =some (yX kV r b m left cur)) (hd:Nat.blt d E.n=true)
 (k0:left=[]→RJ E ops Q rest D ((d,.tuple [.bool false].toArray)::L) C)
 (k1: ∀ x v,(x,v)∈left→(left.map (·.1)).Nodup→RJ E ops Q rest D ((d,.tuple [.bool true,kV x,v].toArray)::L) (C.set i (yX kV r b m (cH left x) (some (x,v))))):
 RJ E ops Q (⟨some d,.next xi false,ty,ps,af,g⟩::rest) D L C:=by
 intro a w G hs
 have hd':d<E.n:=by rw [← Nat.blt_eq]; exact hd
 unfold sk
 rw [if_pos (ep G hg)]
 obtain ⟨R,es,c,since,seen,st,X,hi,Y,J,V,M,A,_⟩:=hs.holds _ (aT hC)
 rcases run_next_at (P:=E.P) w ty r b since st seen es c Y X J V with ⟨Z,hr⟩|⟨e,he,N,H,hr⟩
 ·refine g3 (v:= .tuple #[.bool false]) (w':=w) sm ?_ ?_
  ·simp [execOp,G.ev hm,hr]
  ·refine k0 ?_ _ _ (G.put hd' _) hs
   have:(leftOf es seen).toList=[]:=by rw [← List.length_eq_zero_iff,Array.length_toList]; exact Z
   rw [this] at A
   exact List.map_eq_nil_iff.1 A.symm
 ·have O:(e.key,e.val)∈left.map (fun p=>(kV p.1,p.2)):=by rw [← A]; exact bX.2 ⟨e,he,rfl⟩
  obtain ⟨p,hp,S⟩:=bX.1 O
  obtain ⟨x,v⟩:=p
  simp only [Prod.mk.injEq] at S
  obtain ⟨hk,hv⟩:=S
  refine g3 (v:= .tuple #[.bool true,e.key,e.val]) (w':=ChangeMaps.setBlock N r (.mapIter (some b) since (seen.push e.born) c)) sm ?_ ?_
  ·simp [execOp,G.ev hm,hr]
  ·rw [← hk,← hv]
   have AA:=wJ hinj hi A
   have F:e∈es.toList:=by unfold leftOf at he; rw [Array.toList_filter] at he; exact (List.mem_filter.1 he).1
   have f:c=c:=rfl
   have B:N.heap=w.heap:=by rcases H with rfl|rfl<;>rfl
   refine k1 x v hp AA _ _ (G.put hd' _) (hs.mv i hC ⟨⟨R,es,c,since,seen.push e.born,c,?_,hi,?_,J,M,M,?_,fun q hq=>?_⟩,?_,fun q hq=> .inl hq,fun q hq=> .inl hq⟩)
   ·show (N.heap.setIfInBounds r _)[b]? =_
    rw [Array.getElem?_setIfInBounds_ne R,B]; exact X
   ·show (N.heap.setIfInBounds r _)[r]? =_
    rw [Array.getElem?_setIfInBounds_self_of_lt (by rw [B]; exact eC Y)]
   ·have T:leftOf es (seen.push e.born)=(leftOf es seen).filter (fun z=> !(z.born==e.born)):=by
     unfold leftOf
     rw [Array.filter_filter]
     congr 1
     funext z
     simp only [Array.contains_push,Bool.not_or]
     rw [Bool.and_comm]
    rw [T,Array.toList_filter]
    have key: ∀ (l:List MapEntry) (ll:List (K×Value)),(∀ z∈l,z∈es.toList)→l.map (fun (e:MapEntry)=>(e.key,e.val))=ll.map (fun p=>(kV p.1,p.2))→
     (l.filter (fun z=> !(z.born==e.born))).map (fun (e:MapEntry)=>(e.key,e.val))=(cH ll x).map (fun p=>(kV p.1,p.2)):=by
     intro l
     induction l with
     |nil=>intro ll _ h; cases ll with
      |nil=>rfl
      |cons p ll=>simp at h
     |cons z l ih=>
      intro ll hz h
      cases ll with
      |nil=>simp at h
      |cons p ll=>
       simp only [List.map_cons,List.cons.injEq,Prod.mk.injEq] at h
       have ih':=ih ll (fun y hy=>hz y (by simp [hy])) h.2
       have AB:(z.born=e.born)↔(p.1=x):=by
        constructor
        ·intro hb
         have:z=e:=DH hi.born (hz z sm) F hb
         rw [this] at h
         have:=h.1.1.symm.trans hk.symm
         exact hinj _ _ this
        ·intro hx
         have W:z.key=e.key:=by rw [h.1.1,hx,hk]
         rw [CG hinj hi (hz z sm) F W]
       unfold cH at ih' ⊢
       by_cases hx:p.1=x
       ·rw [List.filter_cons_of_neg (by simp [AB.2 hx]),List.filter_cons_of_neg (by simp [hx])]; exact ih'
       ·rw [List.filter_cons_of_pos (by simpa using fun hb=>hx (AB.1 hb)),List.filter_cons_of_pos (by simpa using hx)]
        simp only [List.map_cons,h.1.1,h.1.2,ih']
    exact key _ _ (fun z hz=>by unfold leftOf at hz; rw [Array.toList_filter] at hz; exact (List.mem_filter.1 hz).1) A
   ·cases hq
    exact ⟨e,seen,F,U,U,hk.symm,hv.symm⟩
   ·refine ⟨?_,?_,?_,?_,fun q hq hn=>?_⟩
    ·rcases H with rfl|rfl<;>rfl
    ·rcases H with rfl|rfl<;>rfl
    ·rcases H with rfl|rfl<;>rfl
    ·show w.heap.size≤(N.heap.setIfInBounds r _).size
     simp [B]
    ·show (N.heap.setIfInBounds r _)[q]? =_
     rw [Array.getElem?_setIfInBounds_ne (fun e=>hn e.symm),B]
theorem jz {xi:Operand} {r b:Nat} {m left:List (K×Value)} {x:K} {v:Value} (i:Nat) (hg:jL ops L g=true) (hm:ev L xi=some (.pointer (some ⟨r,0,none⟩))) (hC:C[i]? =some (yX kV r b m left (some (x,v)))):
 SD E ops ⟨dst,.entry xi,ty,ps,af,g⟩ D L C (.tuple [kV x,v].toArray):=
 dY hg sm fun a w F hs=>by
  obtain ⟨N,es,c,since,seen,st,J,hi,M,H,O,AA,G,B⟩:=hs.holds _ (aT hC)
  obtain ⟨e,A,he,rfl,rfl,hk,hv⟩:=B _ rfl
  have:=run_entry_at (P:=E.P) w r b since A es st e M J he hi.born
  simp [execOp,F.ev hm,this,hk,hv]
theorem jC (hinj: ∀ x y,kV x=kV y→x=y) {β:Type} {f:β→Value} {xi:Operand} {r b:Nat} {m:List (K×Value)} {ll:List (K×β)} {cur:Option (K×Value)} (i:Nat) (hg:jL ops L g=true) (hm:ev L xi=some (.pointer (some ⟨r,0,none⟩))) (hC:C[i]? =some (yX kV r b m (bW f ll) cur)) (hd:Nat.blt d E.n=true)
 (k0:ll=[]→RJ E ops Q rest D ((d,.tuple [.bool false].toArray)::L) C)
 (k1: ∀ x y,(x,y)∈ll→(ll.map (·.1)).Nodup→RJ E ops Q rest D ((d,.tuple [.bool true,kV x,f y].toArray)::L) (C.set i (yX kV r b m (bW f (cH ll x)) (some (x,f y))))):
 RJ E ops Q (⟨some d,.next xi false,ty,ps,af,g⟩::rest) D L C:=by
 refine HV hinj i hg hm hC hd (fun h=>k0 (List.map_eq_nil_iff.1 h)) (fun x v B hn=>?_)
 obtain ⟨p,hp,A⟩:=bX.1 B
 simp only [Prod.mk.injEq] at A
 obtain ⟨rfl,rfl⟩:=A
 have:=k1 p.1 p.2 hp (by simpa [bW,Function.comp_def] using hn)
 rwa [l4] at this
theorem zu {t kt et:TypeId} {xm xk xv:Operand} {b:Nat} {x:K} {v:Value} {m m':List (K×Value)} {C':List av} (i:Nat) (hg:jL ops L g=true) (hm:ev L xm=some (.map (some b))) (hk:ev L xk=some (kV x)) (hv:ev L xv=some v)
 (ht:E.P.underlying t=some (.map kt et)) (hkt:uX E.P kt kV) (hC:C[i]? =some (iS kV b m)) (hm':e8 m x v=m') (hC':C.set i (iS kV b m')=C') (k:RJ E ops Q rest D L C'):
 RJ E ops Q (⟨none,.insert t xm xk xv,ty,ps,af,g⟩::rest) D L C:=by
 subst hm' hC'
 intro a w A hs
 unfold sk
 rw [if_pos (ep A hg)]
 obtain ⟨es,c,he,hi⟩:=hs.holds _ (aT hC)
 have B:(getObj b).run E.P w= .ok (.map es c) w:=MapKept.run_getObj_map he
 rcases po (P:=E.P) (w:=w) (x:=x) hkt hi with ⟨AA,F⟩|⟨j,N,AA,F,J⟩
 ·refine rY (w':={w with heap:=w.heap.setIfInBounds b (.map (es.push {key:=kV x,val:=v,born:=c}) (c+1))}) sm ?_ ?_
  ·simp [execOp,A.ev hm,A.ev hk,A.ev hv,Instr.mapUpdate,run_underlying ht,B,jg hkt,AA,MapKept.run_setObj_map _ he]
  ·refine k _ _ ⟨A.defers,A.size,A.at_⟩ (hs.DL (b:=b) i hC U U (nu _) (fun _ h=>h) ⟨_,_,pB he,?_⟩)
   have:e8 m x v=m++[(x,v)]:=by unfold e8; rw [F]; rfl
   rw [this]; exact hi.push F v
 ·have M:=hi.size
  have G:j<es.size:=by have:=(aY.1 F).1; omega
  have H:(es[j]).key=kV x:=by
   have:=congrArg (fun l=>l[j]?) hi.list
   simp [G,F] at this
   exact this.1
  refine rY (w':={w with heap:=w.heap.setIfInBounds b (.map (es.modify j fun e=>{e with key:=kV x,val:=v}) c)}) sm ?_ ?_
  ·simp [execOp,A.ev hm,A.ev hk,A.ev hv,Instr.mapUpdate,run_underlying ht,B,jg hkt,AA,MapKept.run_setObj_map _ he,Instr.keyThatStays,G,H,hkt.bits x]
  ·exact k _ _ ⟨A.defers,A.size,A.at_⟩ (hs.DL (b:=b) i hC U U (nu _) (fun _ h=>h) ⟨_,_,pB he,hi.set F J v⟩)
end
end
end
section
open Go.RowKit
def Vg {σ:Type} (w0:World) (P:Program) (l:Nat) (step:σ→List Value→σ→Prop) (J:σ→av→Prop) (Z:av→Prop):Prop:=
 ∀ k x k' A w,step k x k'→J k A→w0.heap.size≤w.heap.size→A.holds w→YieldAt (Fw none) 0 P l x.toArray w fun e w'=>
  (e= .returned (.bool true)∧ ∃ B,J k' B∧Mv A B w w')∨(e= .returned (.bool false)∧ ∃ B,Z B∧Mv A B w w')
def KW {σ:Type} (J:σ→av→Prop) (Z:av→Prop) (fin:σ→Prop) (A0:av) (w0:World) (e:Ending) (w':World):Prop:=
 ∃ v,e= .returned v∧((∃ s B,fin s∧J s B∧Mv A0 B w0 w')∨ ∃ B,Z B∧Mv A0 B w0 w')
structure EG {σ:Type} (P:Program) (f:FuncId) (fi ca:List Value) (Cp:List av) (s0:σ) (step:σ→List Value→σ→Prop) (fin:σ→Prop):Prop where
 go:r9 P f=true
 run: ∀ (l:Nat) (J:σ→av→Prop) (Z:av→Prop) (A0:av) (w:World),Vg w P l step J Z→J s0 A0→A0.holds w→(∀ A∈Cp,A.holds w)→(∀ A∈Cp,DP A0 A.ro)→
  Calls P f (fi++Value.func (.yield l) #[] #[]::ca).toArray w (KW J Z fin A0 w)
theorem Kl {σ:Type} {J:σ→av→Prop} {Z:av→Prop} {n:σ} {fin:σ→Prop} {A0 B:av} {w0 w:World} {C:List av} {v:Value} (i:Nat) (hC:C[i]? =some B) (hfin:fin n) (hJ:J n B) (hF:Fo A0 w0 B) (hs:St ⟨A0.wf,fun _=>True⟩ w0 C w):KW J Z fin A0 w0 (.returned v) w:=
 ⟨v,rfl,.inl ⟨n,B,hfin,hJ,hs.holds B (aT hC),hs.keeps,fun b hb=>(hs.own B (aT hC) b hb).symm,hF⟩⟩
theorem sL {σ:Type} {J:σ→av→Prop} {Z:av→Prop} {fin:σ→Prop} {A0 B:av} {w0 w:World} {C:List av} {v:Value} (i:Nat) (hC:C[i]? =some B) (hJ:Z B) (hF:Fo A0 w0 B) (hs:St ⟨A0.wf,fun _=>True⟩ w0 C w):KW J Z fin A0 w0 (.returned v) w:=
 ⟨v,rfl,.inr ⟨B,hJ,hs.holds B (aT hC),hs.keeps,fun b hb=>(hs.own B (aT hC) b hb).symm,hF⟩⟩
theorem tG {σ:Type} {P:Program} {f:FuncId} {fn:Func} {c:Code} {fi ca:List Value} {Cp:List av} {s0:σ} {step:σ→List Value→σ→Prop} {fin:σ→Prop} (hgo:r9 P f=true) (hf:P.funcs[f]? =some fn) (hb:fn.body=some c) (hn:Nat.ble (fi.length+ca.length+1) fn.ntmps=true)
 (h: ∀ (l:Nat) (J:σ→av→Prop) (Z:av→Prop) (A0:av) (w0:World) (Q:df),Vg w0 P l step J Z→J s0 A0→Fo A0 w0 A0→
  (∀ D L C,LJ ⟨P,none,fn.ntmps,⟨A0.wf,fun _=>True⟩,w0⟩ fn (KW J Z fin A0 w0) D L C→KJ ⟨P,none,fn.ntmps,⟨A0.wf,fun _=>True⟩,w0⟩ (Q .ret) D L C)→
  (∀ D L C,LJ ⟨P,none,fn.ntmps,⟨A0.wf,fun _=>True⟩,w0⟩ fn (KW J Z fin A0 w0) D L C→KJ ⟨P,none,fn.ntmps,⟨A0.wf,fun _=>True⟩,w0⟩ (Q .normal) D L C)→
  WJ ⟨P,none,fn.ntmps,⟨A0.wf,fun _=>True⟩,w0⟩ c Q [] (Qe (fi++Value.func (.yield l) #[] #[]::ca)) (A0::Cp.map av.ro)):EG P f fi ca Cp s0 step fin:=by
 refine ⟨hgo,fun l J Z A0 w hY hJ hA F E=>?_⟩
 refine Ei hf hb (by simpa [Nat.add_assoc] using hn) (h l J Z A0 w · hY hJ (fun b hb=> .inl hb)) ?_
 have G:=ud F
 refine ⟨ei.refl _ _,fun A hA'=>?_,List.Pairwise.cons (fun B hB=>?_) G.sep,fun A hA' b hb=>?_,fun _ _ _ _=> .inr trivial⟩
 ·rcases bu.1 hA' with rfl|hA'
  ·exact hA
  ·exact G.holds A hA'
 ·obtain ⟨B',hB',rfl⟩:=bX.1 hB
  exact E B' hB'
 ·rcases bu.1 hA' with rfl|hA'
  ·exact .inr hb
  ·obtain ⟨B',hB',rfl⟩:=bX.1 hA'
   exact hb.elim
section
variable {E:fq} {ops:Array Oper} {Q:df} {rest:List Oper} {D:List Deferred} {L:List (Nat×Value)} {C:List av}
variable {d:Nat} {ty:TypeId} {ps:String} {af:Array Edge} {g:Option (Nat×Bool)}
/-- a call of yield -/
theorem kS {σ:Type} {fop:Operand} {xs:Array Operand} {ts:Array TypeId} {l:Nat} {k k':σ} {vs:List Value} {step:σ→List Value→σ→Prop} {J:σ→av→Prop} {Z:av→Prop} {A0 A:av} {w1:World} (i:Nat) (hw1:w1.heap.size≤E.w0.heap.size) (hY:Vg w1 E.P l step J Z) (hJ:J k A) (hF:Fo A0 w1 A) (hg:jL ops L g=true) (hf:ev L fop=some (.func (.yield l) #[] #[]))
 (hx:evs L xs.toList=some vs) (hk:step k vs k') (hC:C[i]? =some A) (hd:Nat.blt d E.n=true)
 (k1: ∀ B,J k' B→Fo A0 w1 B→RJ E ops Q rest D ((d,.bool true)::L) (C.set i B))
 (k2: ∀ B,Z B→Fo A0 w1 B→RJ E ops Q rest D ((d,.bool false)::L) (C.set i B)):
 RJ E ops Q (⟨some d,.call {callee:= .value fop,args:=xs,argTypes:=ts},ty,ps,af,g⟩::rest) D L C:=by
 intro a w F hs
 have hd':d<E.n:=by rw [← Nat.blt_eq]; exact hd
 unfold sk
 rw [if_pos (ep F hg)]
 have K:xs.map a.eval=vs.toArray:=by
  have:=F.evs hx
  apply Array.ext'
  simp [this]
 obtain ⟨fn,tmps,assign,body,hy,hr⟩:=hY k vs k' A w hk hJ (Nat.le_trans hw1 hs.keeps.size) (hs.holds A (aT hC))
 have H:(execOp a.eval ⟨some d,.call {callee:= .value fop,args:=xs,argTypes:=ts},ty,ps,af,g⟩).run E.P w= .ok (.round l fn tmps assign body) w:=by
  simp [execOp,resolve,F.ev hf,Deferred.ofValue,invoke,K,hy]
 refine ⟨fun _ _=>trivial,?_⟩
 rw [Oper.semAt_eq _ _ _ sm,H]
 refine ⟨fun h=>by simp at h,?_⟩
 have G: ∀ (B:av) (w':World),Mv A B w w'→Fo A0 w1 B:=fun B w' m b hb=>by
  rcases m.fK b hb with AA|AA
  ·exact hF b AA
  ·exact .inr (Nat.le_trans hw1 (Nat.le_trans hs.keeps.size AA))
 have hr':RoundIn (Fw E.r) 0 E.P l fn tmps assign body w _:=hr
 refine hr'.mono fun e w' he=>?_
 rcases he with ⟨rfl,B,hB,m⟩|⟨rfl,B,hB,m⟩
 ·exact k1 B hB (G B w' m) _ _ (F.put hd' _) (hs.mv i hC m)
 ·exact k2 B hB (G B w' m) _ _ (F.put hd' _) (hs.mv i hC m)
end
theorem nJ {σ:Type} {E:fq} {Q:df} {D:hP} {L L0:dh} {C F:List av} {g:Operand} {ps:Array Tmp} {assign body:Code} {f:FuncId} {fi ca:List Value} {Cp:List av} {s0:σ} {step:σ→List Value→σ→Prop} {fin_:σ→Prop} {ι κ:Type}
 (inv:σ→ι→Prop) (Ci:σ→ι→List av) (invx:Code→κ→Prop) (Cx:Code→κ→List av) (isJ isF:List Nat) (y0:ι)
 (hr:E.r=none) (hg:ev L g=some (.func (.func f) fi.toArray ca.toArray)) (hs:EG E.P f fi ca Cp s0 step fin_)
 (hnd:decide (isJ++isF).Nodup=true) (hJ:kJ C isJ=Ci s0 y0) (hF:kJ C isF=F) (h0:inv s0 y0) (hCp: ∀ A∈Cp,∃ B∈F,MY B A)
 (hps: ∀ k x k',step k x k'→x.length=ps.size) (hpn:ps.toList.all (fun t=>Nat.blt t E.n)=true) (hL:dF L L0)
 (round: ∀ (k:σ) (x:List Value) (k':σ) (y:ι) (l:Nat) (ra rb:Loop) (S:BS) (w0:World) (K:Act→World→Prop) (Qr:df),E.w0.heap.size≤w0.heap.size→step k x k'→inv k y→
  (∀ L' C',WJ ⟨E.P,some l,E.n,S,w0⟩ body Qr [] L' (lM l (.loop rb)::C')→KJ ⟨E.P,some l,E.n,S,w0⟩ K [] L' (lM l (.loop ra)::C'))→
  (∀ y' L' C',inv k' y'→(∀ w,St S w0 C' w→St S w0 (lM l (.loop rb)::Ci k' y') w)→KJ ⟨E.P,some l,E.n,S,w0⟩ (Qr .normal) [] L' C')→
  (∀ id z L' C',invx (.exit id) z→(∀ w,St S w0 C' w→St S w0 (lM l (.loop rb)::Cx (.exit id) z) w)→KJ ⟨E.P,some l,E.n,S,w0⟩ (Qr (.exit id)) [] L' C')→
  (∀ z L' C',invx .ret z→(∀ w,St S w0 C' w→St S w0 (lM l (.loop rb)::Cx .ret z) w)→KJ ⟨E.P,some l,E.n,S,w0⟩ (Qr .ret) [] L' C')→
  WJ ⟨E.P,some l,E.n,S,w0⟩ assign (Exit.then K (fun _ _ _=>False)) [] (Cb ps.toList x L0) (lM l (.loop ra)::Ci k y))
 (fin: ∀ r s y,fin_ s→inv s y→KJ E (Q .normal) (lR r::D) L0 (lM r (.deferred (some []))::(F++Ci s y)))
 (finx: ∀ r id z,invx (.exit id) z→KJ E (Q (.exit id)) (lR r::D) L0 (lM r (.deferred (some []))::(F++Cx (.exit id) z)))
 (finr: ∀ r z,invx .ret z→KJ E (Q .ret) (lR r::D) L0 (lM r (.deferred (some []))::(F++Cx .ret z))):WJ E (.rangeFunc g ps assign body) Q D L C:=by
 intro a w hf q
 refine wpIn_rangeFunc fun fn _=>?_
 show ∃ l lR w₁ d w₁' f args w₂,(Instr.enterLoop fn a.tmps ps assign body E.r).run E.P w= .ok (l,lR) w₁∧_
 rw [hr]
 obtain ⟨rec,G⟩: ∃ rec:LoopState→Option Code→Loop,rec=fun st pe=>{state:=st,pending:=pe,fn,tmps:=a.tmps,params:=ps,assign,body,defers:=w.heap.size}:=⟨_,rfl⟩
 obtain ⟨W1,R⟩: ∃ W1,(w.alloc (.deferred (some []))).alloc (.loop (rec .ready none))=W1:=⟨_,rfl⟩
 have Ap:a.eval g= .func (.func f) fi.toArray ca.toArray:=hf.ev hg
 have p:(Instr.enterLoop fn a.tmps ps assign body none).run E.P w= .ok (w.heap.size+1,[lR w.heap.size]) W1:=by
  rw [← R,G]; exact run_enterLoop_outer _ _ _ _ _
 -- the state with the record and the block
 have u:St E.S E.w0 ((lM (w.heap.size+1) (.loop (rec .ready none))::Ci s0 y0)++(lM w.heap.size (.deferred (some []))::F)) W1:=by
  have X:St E.S E.w0 (Ci s0 y0++F) w:=St.kJ (isJ++isF) hnd (by have X:=hJ; have j:=hF; unfold Go.Proofs.YtlajhejcfcoddaaGreatDoor.kJ at X j ⊢; rw [List.filterMap_append,X,j]) q
  have hn:Nn w W1 [lM (w.heap.size+1) (.loop (rec .ready none)),lM w.heap.size (.deferred (some []))]:=by
   refine ⟨fun A hA=>?_,fun A hA b hb=>?_,?_⟩
   ·rcases bu.1 hA with rfl|hA
    ·show W1.heap[w.heap.size+1]? =_
     rw [← R]; have:=World.alloc_heap_new (w.alloc (.deferred (some []))) (.loop (rec .ready none)); rwa [World.size_alloc] at this
    ·simp only [bH] at hA; subst hA
     show W1.heap[w.heap.size]? =_
     rw [← R]; exact (Below.heap_alloc _ _ _ sm).trans (World.alloc_heap_new w _)
   ·rcases bu.1 hA with rfl|hA
    ·have:b=w.heap.size+1:=hb
     omega
    ·simp only [bH] at hA; subst hA
     have:b=w.heap.size:=hb
     omega
   ·refine List.Pairwise.cons (fun B hB b X j=>?_) (List.pairwise_singleton _ _)
    simp only [bH] at hB; subst hB
    have V:b=w.heap.size+1:=X
    have O:b=w.heap.size:=j
    omega
  have hk:ei no w W1:=by rw [← R]; exact (ei.alloc no w _).trans (ei.alloc no _ _)
  have j:=X.grow hk hn
  refine j.perm ?_
  simp only [List.cons_append,List.nil_append]
  exact List.Perm.cons _ (List.perm_middle.symm)
 have Y:=u.tied
 obtain ⟨H,A4⟩:=List.pairwise_cons.1 Y.sep
 have AS:=Y.holds _ (cq ..)
 let J:σ→av→Prop:=fun k A=> ∃ y,inv k y∧A=br (lM (w.heap.size+1) (.loop (rec .ready none))::Ci k y)
 let Z:av→Prop:=fun A=> ∃ c z,(c= .ret∨ ∃ id,c= .exit id)∧invx c z∧A=br (lM (w.heap.size+1) (.loop (rec .done (some c)))::Cx c z)
 refine ⟨w.heap.size+1,[lR w.heap.size],W1,{target:= .fn (.func f) ca.toArray,args:=fi.toArray++ #[.func (.yield (w.heap.size+1)) #[] #[]]},W1,f,
  (fi++Value.func (.yield (w.heap.size+1)) #[] #[]::ca).toArray,W1,p,?_,fun _ _=>trivial,?_,fun h=>by simp at h,?_⟩
 ·simp only [resolve,Ap]
  simp [Deferred.ofValue,Act.eval]
 ·have:fi.toArray++ #[Value.func (.yield (w.heap.size+1)) #[] #[]]++ca.toArray=(fi++Value.func (.yield (w.heap.size+1)) #[] #[]::ca).toArray:=by simp
  simp [invoke,qa hs.go]
 ·refine (rf E.r (hs.run (w.heap.size+1) J Z _ W1 ?_ ⟨y0,h0,U⟩ AS ?_ ?_)).mono ?_
  ·-- a round
   rintro k x k' A W hx ⟨y,hy,rfl⟩ Ao hA
   have hl:W.heap[w.heap.size+1]? =some (.loop (rec .ready none)):=hA.1 _ (cq ..)
   have AC:=run_yield (P:=E.P) (args:=x.toArray) hl (by rw [G]; simpa using hps k x k' hx)
   rw [G] at AC
   refine ⟨fn,_,assign,body,AC,roundIn_of_wpIn trivial ?_⟩
   let A:av:=br (lM (w.heap.size+1) (.loop (rec .ready none))::Ci k y)
   have A0:Fr E.n [] (Cb ps.toList x L0) {tmps:=(ps.zip x.toArray).foldl (fun tmps (t,a)=>tmps.setIfInBounds t a) a.tmps,defers:=[]}:=by
    have X:=K1 ps.toList x L0 a.tmps (fun t ht=>by have:=cW.1 hpn t ht; rwa [Nat.blt_eq] at this) ⟨rfl,hf.size,fun t v hv=>hf.at_ t v (hL t v hv)⟩
    rw [← Array.foldl_toList]
    simpa using X
   have o: ∀ (c:Option Code) (b:Bool),({rec .busy none with state:=if b then .ready else .done,pending:=c}:Loop)=rec (if b then .ready else .done) c:=fun c b=>by rw [G]
   have T: ∀ (c:Option Code) (N:World) (C':List av) (S:BS),St S W (lM (w.heap.size+1) (.loop (rec .busy none))::C') N→
    ∃ M,(Instr.endRound (w.heap.size+1) c).run E.P N= .ok (.bool c.isNone) M∧St S W (lM (w.heap.size+1) (.loop (rec (if c.isNone then .ready else .done) c))::C') M:=fun c N C' S H=>by
    have AB:N.heap[w.heap.size+1]? =some (.loop (rec .busy none)):=H.holds _ (cq ..)
    refine ⟨_,run_endRound c AB,?_⟩
    have:=H.DL (b:=w.heap.size+1) (A':=lM (w.heap.size+1) (.loop (rec (if c.isNone then .ready else .done) c))) 0 rfl rfl rfl (jE _) (fun _ h=>h) (World.putObj_heap_same (eC AB))
    rw [o]
    exact this
   refine round k x k' y (w.heap.size+1) (rec .ready none) (rec .busy none) ⟨A.wf,A.fK⟩ W _ (roundPost E.P (w.heap.size+1) (fun e w'=>(e= .returned (.bool true)∧ ∃ B,J k' B∧Mv A B W w')∨(e= .returned (.bool false)∧ ∃ B,Z B∧Mv A B W w'))) (Nat.le_trans (Nat.le_trans q.keeps.size (by rw [← R]; simp; omega)) Ao) hx hy ?_ ?_ ?_ ?_ _ _ A0 (St.FR hA)
   ·intro L' C' hW a1 N i H
    have AB:N.heap[w.heap.size+1]? =some (.loop (rec .ready none)):=H.holds _ (cq ..)
    refine ⟨_,run_beginRound AB (by rw [G]),hW _ _ i ?_⟩
    have:=H.DL (b:=w.heap.size+1) (A':=lM (w.heap.size+1) (.loop (rec .busy none))) 0 rfl rfl rfl (jE _) (fun _ h=>h) (World.putObj_heap_same (eC AB))
    have e:({rec .ready none with state:= .busy}:Loop)=rec .busy none:=by rw [G]
    rw [e]; exact this
   ·intro y' L' C' hy' hC' a1 N i H
    obtain ⟨M,V,O⟩:=T none N _ _ (hC' _ H)
    exact ⟨_,M,V,.inl ⟨U,_,⟨y',hy',U⟩,Mv.of O⟩⟩
   ·intro id z L' C' hz hC' a1 N i H
    obtain ⟨M,V,O⟩:=T (some (.exit id)) N _ _ (hC' _ H)
    exact ⟨_,M,V,.inr ⟨U,_,⟨_,z,.inr ⟨id,U⟩,hz,U⟩,Mv.of O⟩⟩
   ·intro z L' C' hz hC' a1 N i H
    obtain ⟨M,V,O⟩:=T (some .ret) N _ _ (hC' _ H)
    exact ⟨_,M,V,.inr ⟨U,_,⟨_,z,.inl U,hz,U⟩,Mv.of O⟩⟩
  ·intro A hA
   obtain ⟨B,hB,hc⟩:=hCp A hA
   exact hc.holds _ (Y.holds B (cV _ (cV _ hB)))
  ·intro A hA b hb hb'
   obtain ⟨B,hB,hc⟩:=hCp A hA
   exact ⟨(H B (cV _ hB) b hb (hc.fK b hb')).1,fun h=>h⟩
  ·rintro e w' ⟨v,rfl,hh⟩
   have AA:Fr E.n (lR w.heap.size::D) L0 {a with defers:=[lR w.heap.size]++a.defers}:=⟨by simp [hf.defers],hf.size,fun t v hv=>hf.at_ t v (hL t v hv)⟩
   have hleave: ∀ (st:LoopState) (c:Option Code) (C':List av),st≠ .busy→Mv (br (lM (w.heap.size+1) (.loop (rec .ready none))::Ci s0 y0)) (br (lM (w.heap.size+1) (.loop (rec st c))::C')) W1 w'→
    ∃ M,(Instr.endLoop (w.heap.size+1)).run E.P w'= .ok c M∧St E.S E.w0 (lM w.heap.size (.deferred (some []))::(F++C')) M:=fun st c C' A2 m=>by
    have X:=(Y.mv 0 rfl m).iK
    have h1':St E.S E.w0 ((lM (w.heap.size+1) (.loop (rec st c))::C')++(lM w.heap.size (.deferred (some []))::F)) w':=X
    have AB:w'.heap[w.heap.size+1]? =some (.loop (rec st c)):=h1'.holds (lM (w.heap.size+1) (.loop (rec st c))) sm
    refine ⟨_,by have:=run_endLoop (P:=E.P) AB (by rw [G]; exact A2); rw [this,G],?_⟩
    have j:=h1'.DL (b:=w.heap.size+1) (A':=lM (w.heap.size+1) (.loop {rec st c with state:= .exhausted})) 0 rfl rfl rfl (jE _) (fun _ h=>h) (World.putObj_heap_same (eC AB))
    have h3:St E.S E.w0 (C'++(lM w.heap.size (.deferred (some []))::F)) _:=j.take (List.sublist_cons_self _ _)
    rw [G] at h3
    refine h3.perm ?_
    exact (List.perm_append_comm).trans sm
   rcases hh with ⟨s,B,A1,⟨y,hy,rfl⟩,m⟩|⟨B,⟨c,z,hc,hz,rfl⟩,m⟩
   ·obtain ⟨M,V,O⟩:=hleave .ready none _ sm m
    exact ⟨none,M,V,fin w.heap.size s y A1 hy _ _ AA O⟩
   ·obtain ⟨M,V,O⟩:=hleave .done (some c) _ sm m
    refine ⟨some c,M,V,?_⟩
    rcases hc with rfl|⟨id,rfl⟩
    ·exact wpIn_ret (finr w.heap.size z hz _ _ AA O)
    ·exact wpIn_exit (finx w.heap.size id z hz _ _ AA O)
end
section
open Go.RowKit
/-- where a row lies, and its capacity -/
abbrev RA:=OA×Nat
/-- what is asked of memory by all elements -/
def aW {M A:Type} (f:M→A→List av):List M→List A→List av
 |m::ms,a::asl=>f m a++aW f ms asl
 |_,_=>[]
theorem bM {M A:Type} {f:M→A→List av}: ∀ {ms:List M} {asl:List A} {k:Nat} {m:M} {a:A} {X:av},ms[k]? =some m→asl[k]? =some a→X∈f m a→X∈aW f ms asl
 |[],_,k,m,a,X,h,_,_=>by simp at h
 |_::_,[],k,m,a,X,_,h,_=>by simp at h
 |x::ms,y::asl,0,m,a,X,h,h2,hX=>by
  simp at h h2; subst h h2
  exact List.mem_append_left _ hX
 |x::ms,y::asl,k+1,m,a,X,h,h2,hX=>List.mem_append_right _ (bM (ms:=ms) (asl:=asl) (k:=k) (by simpa using h) (by simpa using h2) hX)
theorem jJ {M A:Type} {f:M→A→List av}: ∀ {ms:List M} {asl:List A} {X:av},X∈aW f ms asl→ ∃ (k:Nat) (m:M) (a:A),ms[k]? =some m∧asl[k]? =some a∧X∈f m a
 |[],_,X,h=>by cases h
 |_::_,[],X,h=>by cases h
 |x::ms,y::asl,X,h=>by
  rcases dM.1 h with h|h
  ·exact ⟨0,x,y,U,U,h⟩
  ·obtain ⟨k,m,a,B,C,D⟩:=jJ h
   exact ⟨k+1,m,a,by simpa using B,by simpa using C,D⟩
theorem jB {M A:Type} {f:M→A→List av}: ∀ {ms:List M} {asl:List A} {ns:List M} {bs:List A},ms.length=asl.length→aW f (ms++ns) (asl++bs)=aW f ms asl++aW f ns bs
 |[],[],ns,bs,_=>rfl
 |[],_::_,ns,bs,h=>by simp at h
 |_::_,[],ns,bs,h=>by simp at h
 |x::ms,y::asl,ns,bs,h=>by
  simp only [List.cons_append,aW,List.append_assoc]
  rw [jB (by simpa using h)]
theorem dG {M A β:Type} {f:M→A→β} {ms:List M} {asl:List A} {k:Nat} {m:M} {a:A} (h:ms[k]? =some m) (h2:asl[k]? =some a):(List.zipWith f ms asl)[k]? =some (f m a):=by
 rw [List.getElem?_zipWith,h,h2]
theorem dA {C L:List av} {A:av} (i:Nat) (hC:C[i]? =some (e9 L).ro) (hm:A∈L):iA C A.holds:=fun w hw=>hw _ (aT hC) A hm
theorem cY {M A:Type} {f g:M→A→List av} {ms:List M} {asl:List A} {C:List av} (i:Nat) (hC:C[i]? =some (br (aW g ms asl))) (h: ∀ m a w,(∀ X∈g m a,X.holds w)→ ∀ X∈f m a,X.holds w):iA C (e9 (aW f ms asl)).holds:=fun w hw X hX=>by
 have hb:=hw _ (aT hC)
 obtain ⟨k,m,a,B,D,E⟩:=jJ hX
 exact h m a w (fun Y hY=>hb.1 Y (bM B D hY)) X E
/-- a row that is part of another one -/
theorem wx {C:List av} {A:OA} {n k sz:Nat} {es:List (List Value)} (hR:iA C (rd A n sz es).holds) (hk:k≤n):iA C (rd A k sz (es.take k)).holds:=fun w hw=>by
 obtain ⟨D,E,F⟩:=hR w hw
 refine ⟨by rw [List.length_take,D]; omega,fun x hx=>E x (List.mem_of_mem_take hx),fun hp=>?_⟩
 have G:0<k:=Nat.pos_of_mul_pos_right hp
 have hs:0<sz:=Nat.pos_of_mul_pos_left hp
 obtain ⟨ad,hA,B⟩:=F (Nat.mul_pos I hs)
 refine ⟨ad,hA,fun i e j v he hv=>B i e j v ?_ hv⟩
 rw [List.getElem?_take] at he
 split at he
 ·exact he
 ·cases he
section
variable {E:fq} {ops:Array Oper} {Q:df} {rest:List Oper} {D:List Deferred} {L:List (Nat×Value)} {C:List av}
variable {d:Nat} {ty:TypeId} {ps:String} {af:Array Edge} {g:Option (Nat×Bool)}
/-- an element of a slice that is the head of a row -/
theorem Tz (k:Nat) {x ix:Operand} {A:OA} {n n' c sz e t:Nat} {es:List (List Value)} {j:Int} (h:bF E.n ops L d g x ix=some (.slice A n' c,.int .i64 j)) (hR:iA C (rd A n sz es).holds)
 (ht:tE E.P t=some (e,sz)) (hz:0<sz) (hj:j=(k:Int)) (hk:k<n') (hn:n'≤n):SE E ops ⟨some d,.indexAddr t x ix,ty,ps,af,g⟩ D L C (.pointer (lZ A (k*sz))) d:=IA k h (wx hR hn) ht hz hj hk
end
theorem St.tie {S:BS} {w0 w:World} {C:List av} {A:av} {L L':List av} (h:St S w0 (A::br L::C) w) (e:L++[A]=L'):St S w0 (br L'::C) w:=by
 subst e
 have B:St S w0 (br L::A::C) w:=h.perm (List.Perm.swap _ _ _)
 have D:St S w0 (L++(A::C)) w:=B.iK
 have E:St S w0 ((L++[A])++C) w:=by simpa using D
 exact E.tied
theorem St.Qq {S:BS} {w0 w:World} {C:List av} (h:St S w0 C w):St S w0 (br []::C) w:=St.tied (C1:=[]) h
section
variable {E:fq} {Q:df} {D:List Deferred} {L:List (Nat×Value)} {C:List av}
theorem lV {c:Code} (h:WJ E c Q D L (br []::C)):WJ E c Q D L C:=fun a w hf hs=>h a w hf hs.Qq
theorem xb {ops:Array Oper} {rest:List Oper} (h:RJ E ops Q rest D L (br []::C)):RJ E ops Q rest D L C:=fun a w hf hs=>h a w hf hs.Qq
theorem zA {K:Act→World→Prop} {C1:List av} {A:av} {X X':List av} (i j:Nat) (hn:decide (j::i::(List.range C.length).filter fun k=>k != i&&k != j).Nodup=true) (hC:kJ C (j::i::(List.range C.length).filter fun k=>k != i&&k != j)=A::br X::C1) (e:X++[A]=X')
 (h:KJ E K D L (br X'::C1)):KJ E K D L C:=fun a w hf hs=>h a w hf ((St.kJ _ hn hC hs).tie e)
theorem Pd {ops:Array Oper} {rest:List Oper} {C1:List av} {A:av} {X X':List av} (i j:Nat) (hn:decide (j::i::(List.range C.length).filter fun k=>k != i&&k != j).Nodup=true) (hC:kJ C (j::i::(List.range C.length).filter fun k=>k != i&&k != j)=A::br X::C1) (e:X++[A]=X')
 (h:RJ E ops Q rest D L (br X'::C1)):RJ E ops Q rest D L C:=fun a w hf hs=>h a w hf ((St.kJ _ hn hC hs).tie e)
end
end
section
open Go.RowKit
abbrev er:aa→Value:=fun s=>vA (aa.cells s)
abbrev eD:aB→Value:=fun s=>vA (aB.cells s)
abbrev TM:=List (Int×aa)
abbrev FM:=List (aB×Int)
def gT {α:Type} (m:α) (b:Nat):List Value:=[Value.map (some b)]
def sj (m:TM) (b:Nat):List av:=[iS iV b (bW er m)]
def oq (m:FM) (b:Nat):List av:=[iS eD b (bW iV m)]
theorem yx {M A:Type} {f:M→A→List av}: ∀ (m:M) (a:A) (w:World),(∀ X∈f m a,X.holds w)→ ∀ X∈f m a,X.holds w:=fun _ _ _ h=>h
/-- untied -/
theorem N_ {E:fq} {ops:Array Oper} {Q:df} {rest:List Oper} {D:hP} {L:dh} {C X C1:List av} (i:Nat) (hn:decide (i::(List.range C.length).filter fun k=>k != i).Nodup=true) (hC:kJ C (i::(List.range C.length).filter fun k=>k != i)=br X::C1)
 (h:RJ E ops Q rest D L (X++C1)):RJ E ops Q rest D L C:=fun a w hf hs=>h a w hf (St.iK (St.kJ _ hn hC hs))
end
section
def cO (ln:bZ) (rd:d_) (e:List Int) (tms:List TM):bT:=⟨rd.Start,rd.gp,e,tms,ln.cw,ln.dN,(rd.ai.n:Int)⟩
def Pt (o:Int×aa):List Value:=[.int .i64 o.1,.agg (aa.cells o.2).toArray]
structure H0 (w:bT):Prop where
 n:w.n≤6
 times:w.vu.length=w.n
 now:0≤w.Start∧w.Start≤w.gp∧w.gp≤86400000
 least: ∀ x∈w.qg,1≤x∧x≤500000000
 FT: ∀ t∈w.vu,∀ p∈t,(0≤p.1∧p.1≤10)∧0≤p.2.Lo∧p.2.Lo≤p.2.Hi∧p.2.Hi≤86400000
theorem H0.opt {w:bT} (h:H0 w) {b:Nat} {o:Int×aa} (ho:o∈iv w b):(-1≤o.1∧o.1≤10)∧0≤o.2.Lo∧o.2.Lo≤o.2.Hi∧o.2.Hi≤86400000:=by
 unfold iv rV at ho
 rcases bu.1 ho with rfl|ho
 ·have:=h.now; simp only; omega
 ·cases ht:w.vu[b]? with
  |none=>simp [ht] at ho
  |some t=>
   rw [ht] at ho
   have:=h.FT t (aT ht) o ho
   omega
theorem H0.bR {w:bT} (h:H0 w) (b:Nat):0≤bR w b∧bR w b≤500000000:=by
 unfold Go.Proofs.YtlajhejcfcoddaaGreatDoor.bR
 cases ht:w.qg[b]? with
 |none=>simp
 |some x=>have:=h.least x (aT ht); simp only [Option.getD_some]; omega
theorem ve (s:Int):(0≤(fx s).right∧0≤(fx s).e7)∧(fx s).right+(fx s).e7=1:=by unfold fx; split<;>simp
theorem Jw {w:bT} (h:H0 w): ∀ (b:Nat) p,p∈fwd w b→(0≤p.2∧p.2≤86400000)∧(0≤p.1.right∧0≤p.1.e7)∧p.1.right+p.1.e7=(b:Int):=by
 intro b
 induction b with
 |zero=>
  intro p hp
  simp only [fwd,bH] at hp
  subst hp
  have:=h.now; simp only; omega
 |succ b ih=>
  intro q hq
  obtain ⟨p,hp,o,ho,e⟩:=fu.1 hq
  have A:=ih p hp
  have B:=h.opt ho
  have C:=h.bR b
  have D:=h.now
  have E:=ve o.1
  unfold kH at e
  split at e
  ·simp only [Option.some.injEq] at e
   subst e
   simp only [dw]
   omega
  ·cases e
theorem Uw {w:bT} (h:H0 w): ∀ (k:Nat) p,p∈bwd w k→(-(500000000*(k:Int))≤p.2∧p.2≤86400000)∧(0≤p.1.right∧0≤p.1.e7)∧p.1.right+p.1.e7≤(k:Int):=by
 intro k
 induction k with
 |zero=>
  intro p hp
  simp only [bwd,bH] at hp
  subst hp
  have:=h.now; simp only; omega
 |succ k ih=>
  intro q hq
  simp only [bwd,bu,List.mem_flatMap,List.mem_filterMap] at hq
  rcases hq with rfl|⟨p,hp,o,ho,e⟩
  ·have:=h.now; simp only; omega
  ·have A:=ih p hp
   have B:=h.opt ho
   have C:=h.bR (w.n-(k+1))
   have D:=h.now
   have E:=ve o.1
   unfold m_ at e
   split at e
   ·simp only [Option.some.injEq] at e
    subst e
    simp only [dw]
    omega
   ·cases e
theorem Kw {w:bT} (h:H0 w) {b:Nat} {p:aB×Int} (hp:p∈back w b):(-3000000000≤p.2∧p.2≤86400000)∧(0≤p.1.right∧0≤p.1.e7)∧p.1.right+p.1.e7≤6:=by
 have:=Uw h _ _ hp
 have:=h.n
 omega
theorem yg {w:bT} {b:Nat} {t:TM} (ht:w.vu[b]? =some t) {o:Int×aa}:o∈iv w b↔o=(-1,⟨w.Start,w.gp⟩)∨o∈t:=by
 unfold iv rV; rw [ht]; simp
theorem l6 {K β:Type} [DecidableEq K] {l:List (K×β)} {x:K} {y:β} (hn:(l.map (·.1)).Nodup) (hm:(x,y)∈l) {o:K×β} (h:o∈l):o∈cH l x∨o=(x,y):=by
 by_cases e:o.1=x
 ·right
  obtain ⟨k,v⟩:=o
  simp only at e
  subst e
  have B:=(kd hn).1 h
  have A:=(kd hn).1 hm
  rw [B] at A
  cases A; rfl
 ·exact .inl (kp.2 ⟨h,e⟩)
theorem HB {K β:Type} [DecidableEq K] {t l ys:List (K×β)} {x:K} {y:β} (hn:(l.map (·.1)).Nodup) (hm:(x,y)∈l) (h: ∀ o∈t,o∈l∨o∈ys): ∀ o∈t,o∈cH l x∨o∈ys++[(x,y)]:=fun o ho=>by
 rcases h o ho with h|h
 ·rcases l6 hn hm h with h|h
  ·exact .inl h
  ·exact .inr (by simp [h])
 ·exact .inr (by simp [h])
theorem mH {K β:Type} [DecidableEq K] {t l:List (K×β)} {x:K} (h: ∀ o∈l,o∈t): ∀ o∈cH l x,o∈t:=fun o ho=>h o (kp.1 ho).1
theorem LS {w:bT} {m left:List (aB×Int)} (h: ∀ p∈m,p∈left∨j_ w p.1=false) (h0:left=[]):jF w m=false:=by
 unfold jF
 rw [List.any_eq_false]
 intro p hp
 rcases h p hp with q|q
 ·rw [h0] at q; cases q
 ·simp [q]
theorem M6 {w:bT} {m:List (aB×Int)} {p:aB×Int} (hp:p∈m) (h:j_ w p.1=true):jF w m=true:=List.any_eq_true.2 ⟨p,hp,h⟩
theorem I7 {w:bT} {m left:List (aB×Int)} {t:aB} {v:Int} (hn:(left.map (·.1)).Nodup) (hm:(t,v)∈left) (h: ∀ p∈m,p∈left∨j_ w p.1=false) (hf:j_ w t=false): ∀ p∈m,p∈cH left t∨j_ w p.1=false:=fun p hp=>by
 rcases h p hp with q|q
 ·rcases l6 hn hm q with q|q
  ·exact .inl q
  ·right; rw [q]; exact hf
 ·exact .inr q
/-- what the maps of a watch are -/
structure yo (w:bT) (fs:List (List (aB×Int))):Prop where
 len:fs.length=w.n+1
 min: ∀ (b:Nat) m,fs[b]? =some m→tF m (fwd w b)
 keys: ∀ (b:Nat) m,fs[b]? =some m→(m.map (·.1)).Nodup
structure u3 (w:bT) (bs:List (List (aB×Int))):Prop where
 len:bs.length=w.n+1
 max: ∀ (b:Nat) m,bs[b]? =some m→vR m (back w b)
 keys: ∀ (b:Nat) m,bs[b]? =some m→(m.map (·.1)).Nodup
theorem yo.mem {w:bT} {fs:List (List (aB×Int))} (h:yo w fs) {b:Nat} {m:List (aB×Int)} (hm:fs[b]? =some m) {p:aB×Int} (hp:p∈m):p∈fwd w b:=(h.min b m hm).1 _ _ ((fJ (h.keys b m hm)).1 hp)
theorem u3.mem {w:bT} {fs:List (List (aB×Int))} (h:u3 w fs) {b:Nat} {m:List (aB×Int)} (hm:fs[b]? =some m) {p:aB×Int} (hp:p∈m):p∈back w b:=(h.max b m hm).1 _ _ ((fJ (h.keys b m hm)).1 hp)
theorem Iq {w:bT} {b:Nat} {t l ys:List (Int×aa)} (ht:w.vu[b]? =some t) (h: ∀ o∈t,o∈l∨o∈ys) (h0:l=[]) (hs:(-1,(⟨w.Start,w.gp⟩:aa))∈ys): ∀ o∈iv w b,o∈ys:=fun o ho=>by
 rcases (yg ht).1 ho with rfl|ho
 ·exact hs
 ·rcases h o ho with q|q
  ·rw [h0] at q; cases q
  ·exact q
end
section
/-- by these options all is yielded -/
def lT (w:bT) (b:Nat) (mf mb:List (aB×Int)) (os ys:List (Int×aa)):Prop:= ∀ o∈os,∀ p∈mf,∀ u∈mb,∀ q,mN w b p u o=some q→q∈ys
def nP (w:bT) (b:Nat) (mf mb:List (aB×Int)) (o:Int×aa) (left:List (aB×Int)) (ys:List (Int×aa)):Prop:= ∀ p∈mf,p∈left∨ ∀ u∈mb,∀ q,mN w b p u o=some q→q∈ys
def oc (w:bT) (b:Nat) (mb:List (aB×Int)) (o:Int×aa) (p:aB×Int) (left:List (aB×Int)) (ys:List (Int×aa)):Prop:= ∀ u∈mb,u∈left∨ ∀ q,mN w b p u o=some q→q∈ys
variable {w:bT} {b:Nat} {mf mb left:List (aB×Int)} {o x:Int×aa} {os ys:List (Int×aa)} {p u:aB×Int}
theorem lT.nil:lT w b mf mb [] ys:=fun o ho=>by cases ho
theorem lT.app (h:lT w b mf mb os ys):lT w b mf mb os (ys++[x]):=fun o ho p hp u hu q e=>List.mem_append_left _ (h o ho p hp u hu q e)
theorem nP.app (h:nP w b mf mb o left ys):nP w b mf mb o left (ys++[x]):=fun p hp=>(h p hp).imp id fun h u hu q e=>List.mem_append_left _ (h u hu q e)
theorem nP.start:nP w b mf mb o mf ys:=fun p hp=> .inl hp
theorem oc.start:oc w b mb o p mb ys:=fun p hp=> .inl hp
theorem oc.skip {t:aB} {v:Int} (hn:(left.map (·.1)).Nodup) (hm:(t,v)∈left) (h:oc w b mb o p left ys) (he:mN w b p (t,v) o=none):oc w b mb o p (cH left t) ys:=fun u hu=>by
 rcases h u hu with q|q
 ·rcases l6 hn hm q with q|q
  ·exact .inl q
  ·right; intro z hz; rw [q,he] at hz; cases hz
 ·exact .inr q
theorem oc.VR {t:aB} {v:Int} (hn:(left.map (·.1)).Nodup) (hm:(t,v)∈left) (h:oc w b mb o p left ys) (he:mN w b p (t,v) o=some x):oc w b mb o p (cH left t) (ys++[x]):=fun u hu=>by
 rcases h u hu with q|q
 ·rcases l6 hn hm q with q|q
  ·exact .inl q
  ·right; intro z hz; rw [q,he] at hz; cases hz; simp
 ·right; intro z hz; exact List.mem_append_left _ (q z hz)
theorem nP.next {t:aB} {v:Int} {l2:List (aB×Int)} (hn:(left.map (·.1)).Nodup) (hm:(t,v)∈left) (h:nP w b mf mb o left ys) (hq:oc w b mb o (t,v) l2 ys) (h0:l2=[]):nP w b mf mb o (cH left t) ys:=fun p hp=>by
 rcases h p hp with q|q
 ·rcases l6 hn hm q with q|q
  ·exact .inl q
  ·right; intro u hu z hz; subst q
   rcases hq u hu with q|q
   ·rw [h0] at q; cases q
   ·exact q z hz
 ·exact .inr q
theorem lT.next (h:lT w b mf mb os ys) (hp:nP w b mf mb o left ys) (h0:left=[]):lT w b mf mb (os++[o]) ys:=fun o' ho p hp' u hu q e=>by
 rcases dM.1 ho with ho|ho
 ·exact h o' ho p hp' u hu q e
 ·simp only [bH] at ho; subst ho
  rcases hp p hp' with z|z
  ·rw [h0] at z; cases z
  ·exact z u hu q e
theorem lT.fin (h:lT w b mf mb os ys) (ho: ∀ o∈iv w b,o∈os): ∀ q∈qf w b mf mb,q∈ys:=fun q hq=>by
 obtain ⟨o,A,p,B,u,C,e⟩:=gU.1 hq
 exact h o (ho o A) p B u C q e
theorem Hp (h:max (p.2+bR w b) o.2.Lo≤min u.2 o.2.Hi) (h2:j_ w (dw (dw p.1 u.1) (fx o.1))=true):mN w b p u o=some (o.1,⟨max (p.2+bR w b) o.2.Lo,min u.2 o.2.Hi⟩):=by
 unfold mN iQ vC; rw [if_pos ⟨h,h2⟩]
theorem Lq (h: ¬ max (p.2+bR w b) o.2.Lo≤min u.2 o.2.Hi):mN w b p u o=none:=by
 unfold mN iQ; rw [if_neg (fun q=>h q.1)]
theorem It (h2:j_ w (dw (dw p.1 u.1) (fx o.1))=false):mN w b p u o=none:=by
 unfold mN vC; rw [if_neg (fun q=>by rw [h2] at q; exact absurd q.2 dc)]
theorem oa {v:Int} (h:w.qg[b]? =some v):bR w b=v:=by unfold bR; rw [h]; rfl
theorem Bz {t q:aB} {v z y:Int} (hy:w.qg[b]? =some y) (h:max (v+y) o.2.Lo≤min z o.2.Hi) (h2:j_ w (dw (dw t q) (fx o.1))=true):mN w b (t,v) (q,z) o=some (o.1,⟨max (v+y) o.2.Lo,min z o.2.Hi⟩):=by
 have e:=oa hy
 subst e
 exact Hp h h2
theorem Hs {t q:aB} {v z y:Int} (hy:w.qg[b]? =some y) (h: ¬ max (v+y) o.2.Lo≤min z o.2.Hi):mN w b (t,v) (q,z) o=none:=by
 have e:=oa hy
 subst e
 exact Lq h
theorem oE {m:List (aB×Int)} {k:aB} {y:Int} (h:(m.map (·.1)).Nodup):((e8 m k y).map (·.1)).Nodup:=by
 unfold e8
 by_cases hx:(m.lookup k).isSome
 ·rw [if_pos hx,List.map_map]
  have e:m.map ((fun p=>p.1)∘fun p=>if p.1=k then (k,y) else p)=m.map (·.1):=by
   apply List.map_congr_left
   intro p _
   simp only [Function.comp]
   split
   ·rename_i e; exact e.symm
   ·rfl
  rw [e]; exact h
 ·rw [if_neg hx,List.map_append,List.nodup_append]
  refine ⟨h,sm,?_⟩
  intro a ha c hc
  simp only [List.map_cons,List.map_nil,bH] at hc
  rw [hc]
  obtain ⟨p,hp,rfl⟩:=bX.1 ha
  have hn:m.lookup k=none:=by cases h0:m.lookup k with
   |none=>rfl
   |some v=>exact absurd (by rw [h0]; rfl) hx
  exact gZ.1 hn p hp
theorem CF {m:List (aB×Int)} {q:aB×Int} (h:(m.map (·.1)).Nodup):((pA m q).map (·.1)).Nodup:=by
 unfold pA; split
 ·exact oE h
 ·split
  ·exact oE h
  ·exact h
theorem Dl {m:List (aB×Int)} {q:aB×Int} (h:(m.map (·.1)).Nodup):((px m q).map (·.1)).Nodup:=by
 unfold px; split
 ·exact oE h
 ·split
  ·exact oE h
  ·exact h
/-- a map of the first times, on its way -/
structure xQ (w:bT) (b:Nat) (m:List (aB×Int)):Prop where
 snd:vv m (fwd w (b+1))
 keys:(m.map (·.1)).Nodup
structure vZ (w:bT) (b:Nat) (m:List (aB×Int)):Prop where
 snd:vv m (back w b)
 keys:(m.map (·.1)).Nodup
 zero: ∃ v,m.lookup ⟨0,0⟩=some v∧w.gp≤v
theorem IW (h:max (p.2+bR w b) o.2.Lo≤min o.2.Hi w.gp):kH w b p o=some (dw p.1 (fx o.1),max (p.2+bR w b) o.2.Lo):=by unfold kH; rw [if_pos h]
theorem OU (h: ¬ max (p.2+bR w b) o.2.Lo≤min o.2.Hi w.gp):kH w b p o=none:=by unfold kH; rw [if_neg h]
theorem Jy (h:o.2.Lo≤min p.2 o.2.Hi):m_ w b p o=some (dw p.1 (fx o.1),min p.2 o.2.Hi-bR w b):=by unfold m_; rw [if_pos h]
theorem Nv (h: ¬ o.2.Lo≤min p.2 o.2.Hi):m_ w b p o=none:=by unfold m_; rw [if_neg h]
theorem xQ.start:xQ w b []:=⟨fun t v h=>by simp at h,List.nodup_nil⟩
theorem xQ.add {m:List (aB×Int)} {q:aB×Int} (h:xQ w b m) (hp:p∈fwd w b) (ho:o∈iv w b) (he:kH w b p o=some q):xQ w b (pA m q):=⟨H5 h.snd (fu.2 ⟨p,hp,o,ho,he⟩),CF h.keys⟩
theorem vZ.start (hb:b<w.n):vZ w b [(⟨0,0⟩,w.gp)]:=⟨fun t v h=>by
 obtain ⟨rfl,rfl⟩:=py.1 h
 exact (o6 hb).2 (.inl U),sm,w.gp,py.2 ⟨U,U⟩,Int.le_refl _⟩
theorem vZ.add {m:List (aB×Int)} {q:aB×Int} (hb:b<w.n) (h:vZ w b m) (hp:p∈back w (b+1)) (ho:o∈iv w b) (he:m_ w b p o=some q):vZ w b (px m q):=⟨Ih h.snd ((o6 hb).2 (.inr ⟨p,hp,o,ho,he⟩)),Dl h.keys,by
 obtain ⟨v,A,C⟩:=h.zero
 obtain ⟨v',B,D⟩:=qW (q:=q) _ _ A
 exact ⟨v',B,I⟩⟩
theorem jr.none_ {m:List (aB×Int)} (h:jr w b m p os) (he:kH w b p o=none):jr w b m p (os++[o]):=h.add (x8.refl _) fun q hq=>by rw [he] at hq; cases hq
theorem jr.I0 {m:List (aB×Int)} {q:aB×Int} (h:jr w b m p os) (he:kH w b p o=some q):jr w b (pA m q) p (os++[o]):=h.add vx fun q' hq=>by rw [he] at hq; cases hq; exact Hv
theorem jv.none_ {m:List (aB×Int)} (h:jv w b m p os) (he:m_ w b p o=none):jv w b m p (os++[o]):=h.add (wP.refl _) fun q hq=>by rw [he] at hq; cases hq
theorem jv.I0 {m:List (aB×Int)} {q:aB×Int} (h:jv w b m p os) (he:m_ w b p o=some q):jv w b (px m q) p (os++[o]):=h.add qW fun q' hq=>by rw [he] at hq; cases hq; exact Iu
/-- what of a map of the beam before is used already -/
def kh (w:bT) (b:Nat) (mb m left:List (aB×Int)):Prop:= ∀ p∈mb,p∈left∨jr w b m p (iv w b)
def jO (w:bT) (b:Nat) (mb m left:List (aB×Int)):Prop:= ∀ p∈mb,p∈left∨jv w b m p (iv w b)
theorem kh.start {m:List (aB×Int)}:kh w b mb m mb:=fun p hp=> .inl hp
theorem jO.start {m:List (aB×Int)}:jO w b mb m mb:=fun p hp=> .inl hp
theorem kh.lower {m m':List (aB×Int)} (h:kh w b mb m left) (hl:x8 m m'):kh w b mb m' left:=fun p hp=>(h p hp).imp id fun h=>h.lower hl
theorem jO.upper {m m':List (aB×Int)} (h:jO w b mb m left) (hl:wP m m'):jO w b mb m' left:=fun p hp=>(h p hp).imp id fun h=>h.upper hl
theorem kh.next {m:List (aB×Int)} {t:aB} {v:Int} (hn:(left.map (·.1)).Nodup) (hm:(t,v)∈left) (h:kh w b mb m left) (hd:jr w b m (t,v) os) (ho: ∀ o∈iv w b,o∈os):kh w b mb m (cH left t):=fun p hp=>by
 rcases h p hp with q|q
 ·rcases l6 hn hm q with q|q
  ·exact .inl q
  ·right; rw [q]; exact hd.sub ho
 ·exact .inr q
theorem jO.next {m:List (aB×Int)} {t:aB} {v:Int} (hn:(left.map (·.1)).Nodup) (hm:(t,v)∈left) (h:jO w b mb m left) (hd:jv w b m (t,v) os) (ho: ∀ o∈iv w b,o∈os):jO w b mb m (cH left t):=fun p hp=>by
 rcases h p hp with q|q
 ·rcases l6 hn hm q with q|q
  ·exact .inl q
  ·right; rw [q]; exact hd.sub ho
 ·exact .inr q
theorem kh.fin {m:List (aB×Int)} (h:kh w b mb m left) (h0:left=[]): ∀ p∈mb,jr w b m p (iv w b):=fun p hp=>by
 rcases h p hp with q|q
 ·rw [h0] at q; cases q
 ·exact q
theorem jO.fin {m:List (aB×Int)} (h:jO w b mb m left) (h0:left=[]): ∀ p∈mb,jv w b m p (iv w b):=fun p hp=>by
 rcases h p hp with q|q
 ·rw [h0] at q; cases q
 ·exact q
end
section
def mL (a b:aa):aa:=⟨a.Lo+b.Lo,a.Hi+b.Hi⟩
def dJ:aa:=⟨0,0⟩
def kP (a:aa) (l:List aa):aa:=l.foldl mL a
def lO (z:aa):Prop:=(-1000000000≤z.Lo∧z.Lo≤1000000000)∧ -1000000000≤z.Hi∧z.Hi≤1000000000
theorem zz {a:aa} {l:List aa} {i:Nat} {z:aa} (h:l[i]? =some z):kP a (l.take (i+1))=mL (kP a (l.take i)) z:=by
 rw [List.take_add_one,h]; unfold kP; simp
theorem Qs {a:aa} {l:List aa} (ha:lO a) (hl: ∀ z∈l,lO z): ∀ i:Nat,(-1000000000-1000000000*(i:Int)≤(kP a (l.take i)).Lo∧(kP a (l.take i)).Lo≤1000000000+1000000000*(i:Int))∧ -1000000000-1000000000*(i:Int)≤(kP a (l.take i)).Hi∧(kP a (l.take i)).Hi≤1000000000+1000000000*(i:Int):=by
 intro i
 induction i with
 |zero=>unfold lO at ha; simp [kP]; omega
 |succ i ih=>
  cases h:l[i]? with
  |none=>rw [List.take_add_one,h]; simp only [Option.toList_none,List.append_nil]; omega
  |some z=>
   have hz:=hl z (aT h)
   unfold lO at hz
   rw [zz h]
   simp only [mL]
   omega
theorem I_ {a:aa} {l:List aa} {i:Nat} (h:l.length≤i):kP a (l.take i)=kP a l:=by rw [List.take_of_length_le h]
theorem n9 {a z:aa}:vA (aa.cells (kP a [z]))=vA (aa.cells (mL a z)):=rfl
theorem Cc {a y z:aa}:vA (aa.cells (kP a [y,z]))=vA (aa.cells (mL (mL a y) z)):=rfl
/-- how long the run is from one mark, over so many stretches; by how much it falls -/
def eL (ts:List ak) (f:Nat):Nat→aa
 |0=>dJ
 |k+1=>match ts[f+k]? with
  |some x=>mL (eL ts f k) x.kO
  |none=>eL ts f k
def gG (ts:List ak) (f:Nat):Nat→aa
 |0=>dJ
 |k+1=>match ts[f+k]? with
  |some x=>mL (gG ts f k) x.l7
  |none=>gG ts f k
theorem p5 {ts:List ak} {f k:Nat} {x:ak} (h:ts[f+k]? =some x):eL ts f (k+1)=mL (eL ts f k) x.kO:=by simp [eL,h]
theorem pM {ts:List ak} {f k:Nat} {x:ak} (h:ts[f+k]? =some x):gG ts f (k+1)=mL (gG ts f k) x.l7:=by simp [gG,h]
theorem mx {ts:List ak} (ht: ∀ x∈ts,bQ x) (f:Nat): ∀ k:Nat,(0≤(eL ts f k).Lo∧(eL ts f k).Lo≤(eL ts f k).Hi)∧(eL ts f k).Hi≤30000*(k:Int):=by
 intro k
 induction k with
 |zero=>simp [eL,dJ]
 |succ k ih=>
  simp only [eL]
  cases h:ts[f+k]? with
  |none=>simp only; omega
  |some x=>
   have hx:=(ht x (aT h)).2.1
   simp only [eh] at hx
   simp only [mL]
   omega
theorem FF {ts:List ak} (ht: ∀ x∈ts,bQ x) (f:Nat): ∀ k:Nat,(0≤(gG ts f k).Lo∧(gG ts f k).Lo≤(gG ts f k).Hi)∧(gG ts f k).Hi≤5000*(k:Int):=by
 intro k
 induction k with
 |zero=>simp [gG,dJ]
 |succ k ih=>
  simp only [gG]
  cases h:ts[f+k]? with
  |none=>simp only; omega
  |some x=>
   have hx:=(ht x (aT h)).2.2.1
   simp only [eh] at hx
   simp only [mL]
   omega
theorem qO {ts:List ak} (ht: ∀ x∈ts,bQ x) {f k:Nat} (hk:k≤13):lO (eL ts f k):=by
 have:=mx ht f k; unfold lO; omega
theorem yl {ts:List ak} (ht: ∀ x∈ts,bQ x) {f k:Nat} (hk:k≤13):lO (gG ts f k):=by
 have:=FF ht f k; unfold lO; omega
theorem uL {x:ak} (h:bQ x):lO x.kO:=by have:=h.2.1; simp only [eh] at this; unfold lO; omega
theorem uO {x:ak} (h:bQ x):lO x.l7:=by have:=h.2.2.1; simp only [eh] at this; unfold lO; omega
theorem zx {ts:List ak} (h: ¬ (if db ts=true then (0:Int) else 10)=0):db ts=false∧(if db ts=true then (0:Int) else 10)=10:=by
 cases ht:db ts with
 |true=>rw [ht] at h; exact absurd rfl h
 |false=>exact ⟨rfl,rfl⟩
theorem D7 {ts:List ak} (h:(if db ts=true then (0:Int) else 10)=0):db ts=true:=by
 cases ht:db ts with
 |true=>rfl
 |false=>rw [ht] at h; exact absurd h dc
/-- what the iterator of marks yields -/
def ui (ts:List ak) (f:Nat):List (List Value):=(List.range (ts.length-f+1)).map fun (k:Nat)=>[.agg (eL ts f k).cells.toArray,.agg (gG ts f k).cells.toArray]
theorem uo {ts:List ak} {f:Nat}:(ui ts f).length=ts.length-f+1:=by simp [ui]
theorem zC {ts:List ak} {f k:Nat} (h:k≤ts.length-f):(ui ts f)[k]? =some [.agg (eL ts f k).cells.toArray,.agg (gG ts f k).cells.toArray]:=by
 simp [ui,List.getElem?_range (show k<ts.length-f+1 by omega)]
theorem HK {ts:List ak} {f k:Nat} {x:List Value} (h:(ui ts f)[k]? =some x):k≤ts.length-f∧x=[.agg (eL ts f k).cells.toArray,.agg (gG ts f k).cells.toArray]:=by
 have hi:k<ts.length-f+1:=by
  have:=(aY.1 h).1
  simpa [ui] using this
 rw [zC I] at h
 exact ⟨I,(Option.some.inj h).symm⟩
theorem DV {ts:List ak} {f:Nat}: ∀ x∈ui ts f,x.length=2:=fun x hx=>by
 obtain ⟨k,_,rfl⟩:=bX.1 hx; rfl
end
section
def fG (ts:List ak) (s:cN):Prop:=(0≤s.bf∧s.bf<(ts.length:Int))∧ ∃ x,ts[s.bf.toNat]? =some x∧eh s.mS 0 (x.kO.Lo-1)
noncomputable instance (ts:List ak) (s:cN):Decidable (fG ts s):=Classical.propDecidable _
theorem B5 {ts:List ak} {s:cN} {x:ak} (h:0≤s.bf∧s.bf<(ts.length:Int)) (hx:ts[s.bf.toNat]? =some x):fG ts s↔eh s.mS 0 (x.kO.Lo-1):=
 ⟨fun A=>by obtain ⟨y,hy,B⟩:=A.2; rw [hx] at hy; cases hy; exact B,fun A=>⟨h,x,hx,A⟩⟩
theorem CU {ts:List ak} {s:cN} (h: ¬ (0≤s.bf∧s.bf<(ts.length:Int))): ¬ fG ts s:=fun A=>h A.1
theorem AR {ts:List ak} {s:cN} (ht: ∀ x∈ts,bQ x) (h:fG ts s):(0≤s.mS.Lo∧s.mS.Lo≤s.mS.Hi)∧s.mS.Hi≤30000:=by
 obtain ⟨x,hx,A⟩:=h.2
 have:=(ht x (aT hx)).2.1
 simp only [eh] at A this
 omega
theorem D9 {ts:List ak} {a:cN}:vB (decide (∀ s∈[a],fG ts s))=vB (decide (fG ts a)):=congrArg _ (gO.2 sm)
theorem EU {ts:List ak} {a b:cN}:vB (decide (∀ s∈[a,b],fG ts s))=vB (decide (fG ts a∧fG ts b)):=congrArg _ (gO.2 sm)
def oB (z:aa):aa:=⟨-z.Hi,-z.Lo⟩
def M0 (ts:List ak) (s:cN):aa:=mL (eL ts 0 s.bf.toNat) s.mS
noncomputable def FC (ts:List ak) (s:cN):Int:=if db ts=true then (if fG ts s then 0 else 12) else 10
noncomputable def P0 (ts:List ak) (s:cN):aa:=if FC ts s=0 then M0 ts s else dJ
theorem Kk {ts:List ak} {s:cN} (h:db ts=false):FC ts s=10∧P0 ts s=dJ:=by
 have e:FC ts s=10:=by unfold FC; rw [h]; rfl
 exact ⟨e,by unfold P0; rw [e]; rfl⟩
theorem ME {ts:List ak} {s:cN} (h:db ts=true) (h2: ¬ fG ts s):FC ts s=12∧P0 ts s=dJ:=by
 have e:FC ts s=12:=by unfold FC; rw [if_pos h,if_neg h2]
 exact ⟨e,by unfold P0; rw [e]; rfl⟩
theorem yh {ts:List ak} {s:cN} (h:db ts=true) (h2:fG ts s):FC ts s=0∧P0 ts s=M0 ts s:=by
 have e:FC ts s=0:=by unfold FC; rw [if_pos h,if_pos h2]
 exact ⟨e,if_pos e⟩
theorem Fy {ts:List ak} {s:cN} (h:db ts=true):FC ts s=0↔fG ts s:=by
 unfold FC; rw [if_pos h]; split<;>simp [*]
def yw (ts:List ak) (a b:cN):aa:=eL ts (min a.bf b.bf).toNat (max a.bf b.bf-min a.bf b.bf).toNat
def j6 (ts:List ak) (a b:cN):aa:=mL (mL (if b.bf<a.bf then oB (yw ts a b) else yw ts a b) b.mS) (oB a.mS)
noncomputable def lU (ts:List ak) (a b:cN):Int:=if db ts=true then (if fG ts a∧fG ts b then 0 else 12) else 10
noncomputable def kY (ts:List ak) (a b:cN):aa:=if lU ts a b=0 then j6 ts a b else dJ
theorem vd {ts:List ak} {a b:cN} (h:db ts=false):lU ts a b=10∧kY ts a b=dJ:=by
 have e:lU ts a b=10:=by unfold lU; rw [h]; rfl
 exact ⟨e,by unfold kY; rw [e]; rfl⟩
theorem o9 {ts:List ak} {a b:cN} (h:db ts=true) (h2: ¬ (fG ts a∧fG ts b)):lU ts a b=12∧kY ts a b=dJ:=by
 have e:lU ts a b=12:=by unfold lU; rw [if_pos h,if_neg h2]
 exact ⟨e,by unfold kY; rw [e]; rfl⟩
theorem lG {ts:List ak} {a b:cN} (h:db ts=true) (h2:fG ts a∧fG ts b):lU ts a b=0∧kY ts a b=j6 ts a b:=by
 have e:lU ts a b=0:=by unfold lU; rw [if_pos h,if_pos h2]
 exact ⟨e,if_pos e⟩
theorem Ak {z:aa} (h:lO z):lO (oB z):=by unfold lO oB at *; simp only; omega
theorem qT {ts:List ak} {s:cN} (ht: ∀ x∈ts,bQ x) (h:fG ts s):lO s.mS:=by have:=AR ht h; unfold lO; omega
theorem QW {ts:List ak} {a b:cN} (ht: ∀ x∈ts,bQ x) (hl:ts.length≤12) (ha:fG ts a) (hb:fG ts b):(0≤(yw ts a b).Lo∧(yw ts a b).Lo≤(yw ts a b).Hi)∧(yw ts a b).Hi≤360000:=by
 have h:=mx ht (min a.bf b.bf).toNat (max a.bf b.bf-min a.bf b.bf).toNat
 have A:=ha.1
 have B:=hb.1
 unfold yw
 omega
theorem xZ {ts:List ak} {a b:cN} (ht: ∀ x∈ts,bQ x) (hl:ts.length≤12) (ha:fG ts a) (hb:fG ts b):(-400000≤(j6 ts a b).Lo∧(j6 ts a b).Lo≤(j6 ts a b).Hi)∧(j6 ts a b).Hi≤400000:=by
 have h:=QW ht hl ha hb
 have A:=AR ht ha
 have B:=AR ht hb
 unfold j6 mL oB
 split<;>simp only <;>omega
theorem Uh {ts:List ak} {s:cN} (ht: ∀ x∈ts,bQ x) (hl:ts.length≤12) (h:fG ts s):(0≤(M0 ts s).Lo∧(M0 ts s).Lo≤(M0 ts s).Hi)∧(M0 ts s).Hi≤400000:=by
 have A:=mx ht 0 s.bf.toNat
 have B:=AR ht h
 have C:=h.1
 unfold M0 mL
 simp only; omega
theorem H6 {α:Type} {p:Nat→α→Bool} {l:List α}:((l.zipIdx.filter fun q=>p q.2 q.1).map fun q=>(q.2:Int))=[]↔ ∀ (i:Nat) x,l[i]? =some x→p i x=false:=by
 rw [List.map_eq_nil_iff,List.filter_eq_nil_iff]
 constructor
 ·intro h i x hx
  have:=h (x,i) (by rw [List.mem_zipIdx_iff_getElem?]; simpa using hx)
  simpa using this
 ·rintro h ⟨x,i⟩ hm
  rw [List.mem_zipIdx_iff_getElem?] at hm
  simpa using h i x (by simpa using hm)
/-- the places of a list at which something is so -/
def sU {α:Type} (p:Nat→α→Bool) (l:List α) (n:Nat):List Int:=(((l.take n).zipIdx.filter fun q=>p q.2 q.1).map fun q=>(q.2:Int))
theorem Jj {α:Type} {p:Nat→α→Bool} {l:List α} {i:Nat} {x:α} (hx:l[i]? =some x) (h:p i x=true):sU p l (i+1)=sU p l i++[(i:Int)]:=by
 have hi:=(aY.1 hx).1
 unfold sU
 rw [List.take_add_one,hx,List.zipIdx_append,List.filter_append,List.map_append]
 simp [Nat.min_eq_left (Nat.le_of_lt hi),h]
theorem Ni {α:Type} {p:Nat→α→Bool} {l:List α} {i:Nat} {x:α} (hx:l[i]? =some x) (h:p i x=false):sU p l (i+1)=sU p l i:=by
 have hi:=(aY.1 hx).1
 unfold sU
 rw [List.take_add_one,hx,List.zipIdx_append,List.filter_append,List.map_append]
 simp [Nat.min_eq_left (Nat.le_of_lt hi),h]
theorem Dn {α:Type} {p:Nat→α→Bool} {l:List α} {n:Nat}:(sU p l n).length≤n:=by
 unfold sU
 rw [List.length_map]
 refine Nat.le_trans (List.length_filter_le _ _) ?_
 rw [List.length_zipIdx,List.length_take]; omega
def JB {α:Type} (p:Nat→α→Bool) (l:List α):List Int:=sU p l l.length
theorem Ot {α:Type} {p:Nat→α→Bool} {l:List α} {n:Nat} (h:n=l.length):sU p l n=JB p l:=by rw [h]; rfl
theorem Hl {α:Type} {p:Nat→α→Bool} {l:List α}:(JB p l).length=0↔ ∀ (i:Nat) x,l[i]? =some x→p i x=false:=by
 unfold JB sU
 rw [List.length_eq_zero_iff,List.take_length]
 exact H6
end
section
theorem zl (p:Int→Bool) (n:Nat): ∃ r:Int,r=((List.range n).findIdx fun (k:Nat)=>p (k:Int):Nat):=⟨_,rfl⟩
noncomputable def ek (p:Int→Bool) (n:Nat):Int:=Classical.choose (zl p n)
theorem sZ (p:Int→Bool) (n:Nat):ek p n=((List.range n).findIdx fun (k:Nat)=>p (k:Int):Nat):=Classical.choose_spec (zl p n)
theorem hE {p:Int→Bool} {n:Nat}:0≤ek p n∧ek p n≤n:=by
 rw [sZ]
 have:=List.findIdx_le_length (xs:=List.range n) (p:=fun (k:Nat)=>p (k:Int))
 rw [List.length_range] at this
 omega
theorem rX {p:Int→Bool} {n:Nat} {x:Int} (h0:0≤x) (h:x<ek p n):p x=false:=by
 have hb:=hE (p:=p) (n:=n)
 rw [sZ] at h
 have B:x.toNat<(List.range n).findIdx fun (k:Nat)=>p (k:Int):=by omega
 have A:=List.not_of_lt_findIdx B
 simp only [List.getElem_range] at A
 rw [show (x.toNat:Int)=x by omega] at A
 simpa using A
theorem vn {p:Int→Bool} {n:Nat} (h:ek p n<n):p (ek p n)=true:=by
 rw [sZ] at h ⊢
 have A:((List.range n).findIdx fun (k:Nat)=>p (k:Int))<(List.range n).length:=by rw [List.length_range]; omega
 have:=List.findIdx_getElem (w:=A)
 simpa using this
theorem zq {p:Int→Bool} {n:Nat} {r:Int} (h0:0≤r) (hn:r<n) (hr:p r=true) (hb: ∀ x,0≤x→x<r→p x=false):ek p n=r:=by
 have A:=hE (p:=p) (n:=n)
 rcases Int.lt_trichotomy (ek p n) r with h|h|h
 ·have:=hb _ A.1 h
  have e:=vn (p:=p) (n:=n) I
  rw [e] at this; cases this
 ·exact h
 ·have:=rX h0 h
  rw [hr] at this; cases this
end
section
def pC (n by_:Int):Int:=(n+by_-1)/by_
/-- by how much a sync may be off -/
def mZ (c:ao) (at_:Int) (x:bJ):Int:=pC (c.dq*max (at_-x.At) (x.At-at_)) 1000000
def gL (c:ao) (at_:Int) (s:aa) (x:bJ):aa:=⟨max s.Lo (x.dL.Lo-mZ c at_ x),min s.Hi (x.dL.Hi+mZ c at_ x)⟩
def gK (c:ao) (at_:Int) (k:Nat):aa:=(c.aN.take k).foldl (gL c at_) ⟨-1099511627776,1099511627776⟩
def eO (c:ao) (at_:Int):aa:=c.aN.foldl (gL c at_) ⟨-1099511627776,1099511627776⟩
theorem jY {c:ao} {at_:Int} {k:Nat} {x:bJ} (h:c.aN[k]? =some x):gK c at_ (k+1)=gL c at_ (gK c at_ k) x:=by
 unfold gK; rw [List.take_add_one,h,List.foldl_append]; rfl
theorem nT {c:ao} {at_:Int} {k:Nat} (h:c.aN.length≤k):gK c at_ k=eO c at_:=by unfold gK eO; rw [List.take_of_length_le h]
def kD (c:ao) (i:Nat):Int:=if i=0 then-1 else ((c.aN[i-1]?).map (·.At)).getD 0
def fH (c:ao) (i:Nat) (x:bJ):Prop:=(kD c i<x.At∧x.At≤86400000)∧ -10000≤x.dL.Lo∧x.dL.Lo≤x.dL.Hi∧x.dL.Hi≤10000
def nO (c:ao) (x o:bJ):Prop:=x.dL.Lo-o.dL.Hi≤pC (c.dq*(x.At-o.At)) 1000000∧o.dL.Lo-x.dL.Hi≤pC (c.dq*(x.At-o.At)) 1000000
structure fm (c:ao):Prop where
 sB:0≤c.dq∧c.dq≤1000
 len:1≤c.aN.length∧c.aN.length≤5
 sync: ∀ (i:Nat) x,c.aN[i]? =some x→fH c i x
 pair: ∀ (i k:Nat) x o,c.aN[i]? =some x→k<i→c.aN[k]? =some o→nO c x o
noncomputable instance (c:ao):Decidable (fm c):=Classical.propDecidable _
theorem gN {c:ao} {i:Nat} (h:i=0):kD c i= -1:=if_pos h
theorem xj {c:ao} {i:Nat} {y:bJ} (h:0<i) (hy:c.aN[i-1]? =some y):kD c i=y.At:=by unfold kD; rw [if_neg I,hy]; rfl
theorem oK {c:ao} {i:Nat} {y:bJ} (hy:c.aN[i]? =some y):kD c (i+1)=y.At:=by unfold kD; rw [if_neg I,Nat.add_sub_cancel,hy]; rfl
/-- the times of the syncs -/
theorem O4 {c:ao} (h: ∀ (i:Nat) x,c.aN[i]? =some x→fH c i x): ∀ (i:Nat) x,c.aN[i]? =some x→0≤x.At∧ ∀ (k:Nat) o,k<i→c.aN[k]? =some o→o.At<x.At:=by
 intro i
 induction i with
 |zero=>
  intro x hx
  have:=(h 0 x hx).1.1
  rw [gN rfl] at this
  exact ⟨I,fun k o hk=>by omega⟩
 |succ i ih=>
  intro x hx
  have hi:=(aY.1 hx).1
  have hy:c.aN[i]? =some (c.aN[i]'I):=fc I
  have B:=ih _ hy
  have A:=(h (i+1) x hx).1.1
  rw [oK hy] at A
  refine ⟨I,fun k o hk ho=>?_⟩
  by_cases e:k=i
  ·subst e; rw [hy] at ho; cases ho; exact A
  ·have:=B.2 k o I ho; omega
theorem fm.uR {c:ao} (h:fm c) {i:Nat} {x:bJ} (hx:c.aN[i]? =some x):(0≤x.At∧x.At≤86400000)∧ -10000≤x.dL.Lo∧x.dL.Lo≤x.dL.Hi∧x.dL.Hi≤10000:=by
 have A:=h.sync i x hx
 exact ⟨⟨(O4 h.sync i x hx).1,A.1.2⟩,A.2⟩
theorem Gl {d a b:Int} (hd:0≤d∧d≤1000) (ha:0≤a∧a≤90000000) (hb:0≤b∧b≤90000000):0≤d*max (a-b) (b-a)∧d*max (a-b) (b-a)≤90000000000:=by
 have:=Qx (a:=d) (b:=max (a-b) (b-a)) (A:=1000) (B:=90000000) hd.1 hd.2 I I
 omega
theorem uH {c:ao} {at_:Int} {x:bJ} (hd:0≤c.dq∧c.dq≤1000) (ha:0≤at_∧at_≤90000000) (hx:0≤x.At∧x.At≤86400000):0≤mZ c at_ x∧mZ c at_ x≤90001:=by
 have h:=Gl hd ha (show 0≤x.At∧x.At≤90000000 by omega)
 unfold mZ pC; omega
theorem Bs {c:ao} {at_:Int} (h:fm c) (ha:0≤at_∧at_≤90000000): ∀ k:Nat,(-1099511627776≤(gK c at_ k).Lo∧(gK c at_ k).Lo≤10000)∧ -10000≤(gK c at_ k).Hi∧(gK c at_ k).Hi≤1099511627776:=by
 intro k
 induction k with
 |zero=>simp [gK]
 |succ k ih=>
  cases hx:c.aN[k]? with
  |none=>unfold gK at ih ⊢; rw [List.take_add_one,hx]; simpa using ih
  |some x=>
   have hb:=h.uR hx
   have ho:=uH h.sB ha hb.1
   rw [jY hx]
   unfold gL
   simp only
   omega
theorem qX {c:ao} {at_:Int} (h:fm c) (ha:0≤at_∧at_≤90000000):(-110000≤(eO c at_).Lo∧(eO c at_).Lo≤10000)∧ -10000≤(eO c at_).Hi∧(eO c at_).Hi≤110000:=by
 obtain ⟨n,hn⟩: ∃ n,c.aN.length=n+1:=⟨c.aN.length-1,by have:=h.len; omega⟩
 have hx:c.aN[n]? =some (c.aN[n]'I):=fc I
 have hb:=h.uR hx
 have ho:=uH h.sB ha hb.1
 have A:=Bs h ha n
 rw [← nT (k:=n+1) I,jY hx]
 unfold gL
 simp only
 omega
/-- as time goes on, time and what a clock may be ahead, together, never go back -/
theorem Ej {c:ao} (h:fm c) {a b:Int} (ha:0≤a) (hab:a≤b) (hb:b≤90000000): ∀ k:Nat,(a+(gK c a k).Lo≤b+(gK c b k).Lo∨(gK c a k).Lo= -1099511627776)∧a+(gK c a k).Hi≤b+(gK c b k).Hi:=by
 have step: ∀ (x:bJ),0≤x.At∧x.At≤86400000→ ∀ a b:Int,0≤a→a≤b→b≤90000000→mZ c a x≤mZ c b x+(b-a)∧mZ c b x≤mZ c a x+(b-a):=by
  intro x hx a b ha hab hb
  have hd:=h.sB
  have e: ∀ u v:Int,u≤v+1000000*(b-a)→pC u 1000000≤pC v 1000000+(b-a):=by intro u v C; unfold pC; omega
  have m: ∀ p q:Int,p≤q+(b-a)→c.dq*p≤c.dq*q+1000000*(b-a):=by
   intro p q A
   have D:c.dq*p≤c.dq*(q+(b-a)):=Int.mul_le_mul_of_nonneg_left A hd.1
   have E:c.dq*(q+(b-a))=c.dq*q+c.dq*(b-a):=Int.mul_add _ _ _
   have F:c.dq*(b-a)≤1000*(b-a):=Int.mul_le_mul_of_nonneg_right hd.2 I
   omega
  exact ⟨e _ _ (m _ _ I),e _ _ (m _ _ I)⟩
 intro k
 induction k with
 |zero=>simp [gK]; omega
 |succ k ih=>
  cases hx:c.aN[k]? with
  |none=>
   have e: ∀ t,gK c t (k+1)=gK c t k:=fun t=>by unfold gK; rw [List.take_add_one,hx]; simp
   rw [e,e]; exact ih
  |some x=>
   have hs:=h.uR hx
   have:=step x hs.1 a b ha hab hb
   have B:=uH (at_:=a) h.sB ⟨ha,I⟩ hs.1
   rw [jY hx,jY hx]
   unfold gL
   simp only
   omega
theorem oI {c:ao} (h:fm c) {a b:Int} (ha:0≤a) (hab:a≤b) (hb:b≤90000000):a+(eO c a).Lo≤b+(eO c b).Lo∧a+(eO c a).Hi≤b+(eO c b).Hi:=by
 have A:=Ej h ha hab hb c.aN.length
 have B:=qX h (at_:=a) ⟨ha,I⟩
 rw [nT (Nat.le_refl _),nT (Nat.le_refl _)] at A
 omega
noncomputable def lS (l:aX) (i:Nat):Int:=match l.ae[i]? with
 |some b=>if i=0 then (M0 l.aL b.mY).Lo else (match l.ae[i-1]? with
  |some a=>(j6 l.aL a.mY b.mY).Lo
  |none=>0)
 |none=>0
theorem zn {l:aX} {b:bE} (h:l.ae[0]? =some b):lS l 0=(M0 l.aL b.mY).Lo:=by unfold lS; rw [h]; rfl
theorem DB {l:aX} {i:Nat} {a b:bE} (hi:0<i) (h:l.ae[i]? =some b) (ha:l.ae[i-1]? =some a):lS l i=(j6 l.aL a.mY b.mY).Lo:=by unfold lS; rw [h,ha]; simp only; rw [if_neg I]
def j0 (l:aX) (b:bE):Prop:=fG l.aL b.mY∧0≤b.jk∧b.jk<(l.ah.length:Int)
def gE (l:aX):Prop:=(1≤l.gk∧l.gk≤5000)∧(1≤(l.ah.length:Int)∧(l.ah.length:Int)≤4)∧(1≤(l.ae.length:Int)∧(l.ae.length:Int)≤6)∧(0≤l.bU∧l.bU≤(l.ae.length:Int)-1)∧(0≤l.dN∧l.dN≤3)∧0≤l.cw∧l.cw≤3
structure lK (l:aX):Prop where
 head:gE l
 clock: ∀ c∈l.ah,fm c
 td: ∀ b∈l.ae,j0 l b
 Rw: ∀ i,i<l.ae.length→1≤lS l i
noncomputable instance (l:aX):Decidable (lK l):=Classical.propDecidable _
noncomputable def dD (l:aX):Int:=if db l.aL=true then (if lK l then 0 else 50) else 10
theorem zc {l:aX} (h:db l.aL=false):dD l=10:=by unfold dD; rw [h]; rfl
theorem qF {l:aX} (h:db l.aL=true) (h2: ¬ lK l):dD l=50:=by unfold dD; rw [if_pos h,if_neg h2]
theorem xG {l:aX} (h:db l.aL=true) (h2:lK l):dD l=0:=by unfold dD; rw [if_pos h,if_pos h2]
theorem gj {l:aX} (h:dD l=0):db l.aL=true∧lK l:=by
 unfold dD at h
 split at h
 ·split at h
  ·exact ⟨asm,asm⟩
  ·omega
 ·omega
theorem GM {l:aX} (ht:db l.aL=true) (hb: ∀ b∈l.ae,j0 l b) (i:Nat): -400000≤lS l i∧lS l i≤400000:=by
 have A:=ki ht
 have hl:=k6 ht
 unfold lS
 cases h:l.ae[i]? with
 |none=>simp
 |some b=>
  have B:=(hb b (aT h)).1
  simp only
  split
  ·have:=Uh A hl B; omega
  ·cases h2:l.ae[i-1]? with
   |none=>simp
   |some a=>
    have C:=(hb a (aT h2)).1
    have:=xZ A hl C B
    simp only; omega
def mC (l:aX) (s:aK):ao:=((l.ae[s.f_.toNat]?).bind fun b=>l.ah[b.jk.toNat]?).getD ⟨0,[]⟩
def fW (c:ao) (r t:Int):Bool:=decide (r≤t+(eO c t).Hi)
def fU (c:ao) (r t:Int):Bool:=decide (r<t+(eO c t).Lo)
noncomputable def m7 (c:ao) (r:Int):aa:=⟨ek (fW c r) 86400001,ek (fU c r) 86400001-1⟩
noncomputable def cJ (l:aX) (s:aK):aa:=m7 (mC l s) s.Read
noncomputable def dT (l:aX) (i:Nat):Int:=pC (1000*lS l i) l.gk
end
section
open Go.RowKit
def Bp (n:Int):Int:=IntKind.i64.wrap n
theorem Bd {n:Int} (h:rh n):Bp n=n:=oL h
theorem Uo (n:Int): -9223372036854775808≤Bp n∧Bp n≤9223372036854775807:=by
 unfold Bp
 rw [IntKind.wrap_i64]
 omega
section
variable {P:Program} {t:TypeId} {x y:Operand} {a b:Int}
theorem Qg:iI P .add t x y (.int .i64 a) (.int .i64 b) (.int .i64 (Bp (a+b))):=fun w=>by simp [eqGuard_add,binOp_add,Op.intArith,Bp]
theorem KB:iI P .sub t x y (.int .i64 a) (.int .i64 b) (.int .i64 (Bp (a-b))):=fun w=>by simp [eqGuard_sub,binOp_sub,Op.intArith,Bp]
theorem PY:iI P .mul t x y (.int .i64 a) (.int .i64 b) (.int .i64 (Bp (a*b))):=fun w=>by simp [eqGuard_mul,binOp_mul,Op.intArith,Bp]
end
/-- divided, and rounded up, as it comes out -/
def Sr (n by_:Int):Int:=(Bp (Bp (n+by_)-1)).tdiv by_
theorem Rj {a b:Int} (ha: -9223372036854775808≤a∧a≤9223372036854775807) (hb:2≤b):rh (a.tdiv b):=by
 have A:a.tdiv b=a/b+if a % b≠0∧a<0 then 1 else 0:=by
  rcases Int.lt_or_le a 0 with h|h
  ·rw [Int.tdiv_eq_ediv]
   have:b.sign=1:=Int.sign_eq_one_of_pos I
   rw [this]
   by_cases hd:b∣a
   ·have:a % b=0:=Int.emod_eq_zero_of_dvd hd
    simp [hd,this]
   ·have:a % b≠0:=fun e=>hd (Int.dvd_of_emod_eq_zero e)
    have hn: ¬ 0≤a:=by omega
    simp [hd,this,h,hn]
  ·rw [Int.tdiv_eq_ediv_of_nonneg h]
   have: ¬ a<0:=by omega
   simp [this]
 have B:a/b*b+a % b=a:=by rw [Int.mul_comm]; exact Int.mul_ediv_add_emod a b
 have C:0≤a % b:=Int.emod_nonneg _ I
 have D:a % b<b:=Int.emod_lt_of_pos _ I
 have E: -9223372036854775808≤a/b∧a/b≤4611686018427387904:=by
  constructor
  ·refine Int.le_ediv_of_mul_le I ?_
   have:(-9223372036854775808:Int)*b≤ -9223372036854775808*1:=Int.mul_le_mul_of_nonpos_left I I
   omega
  ·refine Int.ediv_le_of_le_mul I ?_
   have:(4611686018427387904:Int)*2≤4611686018427387904*b:=Int.mul_le_mul_of_nonneg_left hb I
   omega
 rw [A]
 unfold rh
 split<;>omega
theorem Qt {n by_:Int} (h0:0≤n) (h1:n≤1000000000000000000) (hb:1≤by_∧by_≤1000000000000):Sr n by_=(n+by_-1)/by_:=by
 unfold Sr
 rw [Bd (show rh (n+by_) from ⟨I,I⟩),Bd (show rh (n+by_-1) from ⟨I,I⟩),Int.tdiv_eq_ediv_of_nonneg I]
end
section
def mq (c:ao) (i:Nat) (x:bJ) (k:Nat):Prop:=fH c i x∧ ∀ (j:Nat) o,j<k→c.aN[j]? =some o→nO c x o
def sX (c:ao) (n:Nat):Prop:= ∀ (i:Nat) x,i<n→c.aN[i]? =some x→mq c i x i
noncomputable instance (c:ao) (i:Nat) (x:bJ) (k:Nat):Decidable (mq c i x k):=Classical.propDecidable _
instance (c:ao) (i:Nat) (x:bJ):Decidable (fH c i x):=by unfold fH; infer_instance
theorem E8 {c:ao} {i:Nat} {x:bJ}:mq c i x 0↔fH c i x:=⟨fun h=>h.1,fun h=>⟨h,fun j o hj=>by omega⟩⟩
theorem sV {c:ao} {i k:Nat} {x o:bJ} (h:c.aN[k]? =some o):mq c i x (k+1)↔mq c i x k∧nO c x o:=by
 constructor
 ·intro hr
  exact ⟨⟨hr.1,fun j o' hj ho=>hr.2 j o' I ho⟩,hr.2 k o I h⟩
 ·rintro ⟨hr,hp⟩
  refine ⟨hr.1,fun j o' hj ho=>?_⟩
  by_cases e:j=k
  ·subst e; rw [h] at ho; cases ho; exact hp
  ·exact hr.2 j o' I ho
theorem He {c:ao}:sX c 0:=fun i x hi=>by omega
theorem Is {c:ao} {i:Nat} {x:bJ} (h:sX c i) (hx:c.aN[i]? =some x) (hr:mq c i x i):sX c (i+1):=fun j y hj hy=>by
 by_cases e:j=i
 ·subst e; rw [hx] at hy; cases hy; exact hr
 ·exact h j y I hy
theorem Mm {c:ao} {i:Nat} {x:bJ} (hx:c.aN[i]? =some x) (h: ¬ mq c i x i): ¬ fm c:=fun hc=>h ⟨hc.sync i x hx,fun j o hj ho=>hc.pair i j x o hx hj ho⟩
theorem H3 {c:ao} (h1:0≤c.dq∧c.dq≤1000) (h2:1≤c.aN.length∧c.aN.length≤5) (h:sX c c.aN.length):fm c:=
 ⟨h1,h2,fun i x hx=>(h i x (aY.1 hx).1 hx).1,fun i k x o hx hk ho=>(h i x (aY.1 hx).1 hx).2 k o hk ho⟩
/-- syncs so far -/
theorem vl {c:ao} {n:Nat} (h: ∀ (i:Nat) x,i<n→c.aN[i]? =some x→fH c i x): ∀ (i:Nat) x,i<n→c.aN[i]? =some x→0≤x.At∧ ∀ (k:Nat) o,k<i→c.aN[k]? =some o→o.At<x.At:=by
 intro i
 induction i with
 |zero=>
  intro x hn hx
  have:=(h 0 x hn hx).1.1
  rw [gN rfl] at this
  exact ⟨I,fun k o hk=>by omega⟩
 |succ i ih=>
  intro x hn hx
  have hi:=(aY.1 hx).1
  have hy:c.aN[i]? =some (c.aN[i]'I):=fc I
  have B:=ih _ I hy
  have A:=(h (i+1) x hn hx).1.1
  rw [oK hy] at A
  refine ⟨I,fun k o hk ho=>?_⟩
  by_cases e:k=i
  ·subst e; rw [hy] at ho; cases ho; exact A
  ·have:=B.2 k o I ho; omega
theorem L7 {c:ao} {i:Nat} (hi:i≤c.aN.length) (h: ∀ (j:Nat) y,j<i→c.aN[j]? =some y→fH c j y): -1≤kD c i∧kD c i≤86400000:=by
 cases i with
 |zero=>rw [gN rfl]; omega
 |succ i=>
  have hy:c.aN[i]? =some (c.aN[i]'I):=fc I
  have A:=(vl (n:=i+1) h i _ I hy).1
  have B:=(h i _ I hy).1.2
  rw [oK hy]; omega
theorem QO {c:ao} {i:Nat} (hi:i≤c.aN.length) (h:sX c i): -1≤kD c i∧kD c i≤86400000:=L7 hi fun j y hj hy=>(h j y hj hy).1
theorem uC {c:ao} {i k:Nat} {x o:bJ} (hs: ∀ (j:Nat) y,j<i→c.aN[j]? =some y→fH c j y) (hx:c.aN[i]? =some x) (hok:fH c i x) (hk:k<i) (ho:c.aN[k]? =some o):
 (0≤o.At∧o.At<x.At∧x.At≤86400000)∧(-10000≤x.dL.Lo∧x.dL.Lo≤x.dL.Hi∧x.dL.Hi≤10000)∧ -10000≤o.dL.Lo∧o.dL.Lo≤o.dL.Hi∧o.dL.Hi≤10000:=by
 have h: ∀ (j:Nat) y,j<i+1→c.aN[j]? =some y→fH c j y:=fun j y hj hy=>by
  by_cases e:j=i
  ·subst e; rw [hx] at hy; cases hy; exact hok
  ·exact hs j y I hy
 have A:=(vl h i x I hx).2 k o hk ho
 have B:=(vl h k o I ho).1
 exact ⟨⟨B,A,hok.1.2⟩,hok.2,(h k o I ho).2⟩
theorem NB {d a b:Int} (hd:0≤d∧d≤1000) (h:0≤b∧b<a∧a≤86400000):Sr (Bp (d*Bp (a-b))) 1000000=pC (d*(a-b)) 1000000:=by
 have C:0≤d*(a-b)∧d*(a-b)≤90000000000:=by
  have:=Qx (a:=d) (b:=a-b) (A:=1000) (B:=90000000) hd.1 hd.2 I I
  omega
 rw [Bd (show rh (a-b) from ⟨I,I⟩),Bd (show rh (d*(a-b)) from ⟨I,I⟩),Qt C.1 I I]
 rfl
/-- what is asked of a line, however wrong it is -/
structure ew (l:aX) (asl:List RA):Prop where
 sw:l.aL.length≤1000000
 side: ∀ x∈l.aL,0≤x.jq∧x.jq≤255
 sr:l.ah.length≤1000000
 oo:asl.length=l.ah.length
 sH:l.ae.length≤1000000
 LL: ∀ (k:Nat) m (a:RA),l.ah[k]? =some m→asl[k]? =some a→m.aN.length≤a.2∧m.aN.length≤1000000
noncomputable instance (l:aX):Decidable (gE l):=by unfold gE; infer_instance
noncomputable instance (l:aX) (b:bE):Decidable (j0 l b):=Classical.propDecidable _
theorem yO {l:aX} (h:gE l) (h2: ∀ c∈l.ah,fm c) (h3: ∀ b∈l.ae,j0 l b) (h4: ∀ i,i<l.ae.length→1≤lS l i):lK l:=⟨h,h2,h3,h4⟩
theorem EO {l:aX}:((!(l.ah.any fun m=> !decide (fm m)))=true)↔ ∀ c∈l.ah,fm c:=by simp
theorem Hx {l:aX}:((!(l.ae.any fun b=> !decide (j0 l b)))=true)↔ ∀ b∈l.ae,j0 l b:=by simp
theorem k9 {c:ao} (h:fm c) {r x:Int} (h0:0≤x) (h1:x<86400001):
 (x<ek (fW c r) 86400001→fW c r x=false)∧(ek (fW c r) 86400001≤x→fW c r x=true)∧(x<ek (fU c r) 86400001→fU c r x=false)∧(ek (fU c r) 86400001≤x→fU c r x=true):=by
 have up: ∀ (q:Int→Bool),(∀ a b,0≤a→a≤b→b<86400001→q a=true→q b=true)→ek q 86400001≤x→q x=true:=fun q hq hx=>by
  have hb:=hE (p:=q) (n:=86400001)
  exact hq _ _ hb.1 hx h1 (vn I)
 refine ⟨rX h0,up _ fun a b ha A hb hq=>?_,rX h0,up _ fun a b ha A hb hq=>?_⟩
 ·have:=oI h ha A I
  simp only [fW,decide_eq_true_eq] at hq ⊢; omega
 ·have:=oI h ha A I
  simp only [fU,decide_eq_true_eq] at hq ⊢; omega
theorem wT {l:aX} {s:aK} {b:bE} {c:ao} (hb:l.ae[s.f_.toNat]? =some b) (hc:l.ah[b.jk.toNat]? =some c):mC l s=c:=by
 unfold mC; rw [hb]; simp only [Option.bind_some]; rw [hc]; rfl
end
section
def m6 (sg:List aK) (i:Nat):aK:=if i=0 then ⟨-1,0⟩ else (sg[i-1]?).getD ⟨-1,0⟩
theorem pH {sg:List aK} {i:Nat} {s:aK} (h:sg[i]? =some s):m6 sg (i+1)=s:=by unfold m6; rw [if_neg I,Nat.add_sub_cancel,h]; rfl
def lE (l:aX) (s:aK):Prop:=(0≤s.f_∧s.f_≤(l.ae.length:Int)-1)∧0≤s.Read∧s.Read≤86400000
def kz (l:aX) (sg:List aK) (i:Nat) (s:aK):Prop:=lE l s∧ ¬ s.f_<(m6 sg i).f_∧ ¬ (s.f_=(m6 sg i).f_∧s.Read≤(m6 sg i).Read)
def qP (l:aX) (sg:List aK) (i:Nat):Prop:= ∀ (j:Nat) s,j<i→sg[j]? =some s→kz l sg j s
structure fD (l:aX) (r:cE):Prop where
 time:0≤r.Start∧r.Start≤r.gp∧r.gp≤86400000
 len:r.ai.length≤10
 sig: ∀ (i:Nat) s,r.ai[i]? =some s→kz l r.ai i s
noncomputable instance (l:aX) (r:cE):Decidable (fD l r):=Classical.propDecidable _
theorem z7 {l:aX} {sg:List aK}:qP l sg 0:=fun j s hj=>absurd hj (Nat.not_lt_zero _)
theorem l3 {l:aX} {sg:List aK} {i:Nat} {s:aK} (h:qP l sg i) (hs:sg[i]? =some s) (ho:kz l sg i s):qP l sg (i+1):=fun j z hj hz=>by
 rcases Nat.lt_or_ge j i with q|q
 ·exact h j z q hz
 ·obtain rfl:j=i:=by omega
  rw [hs] at hz; cases hz; exact ho
theorem CZ {l:aX} {r:cE} {i:Nat} (h1:0≤r.Start∧r.Start≤r.gp∧r.gp≤86400000) (h2:r.ai.length≤10) (h:qP l r.ai i) (hi:r.ai.length≤i):fD l r:=
 ⟨h1,h2,fun j s hs=>h j s (by have:=(aY.1 hs).1; omega) hs⟩
noncomputable def mF (l:aX) (sg:List aK) (b k:Nat):Option (Int×aa):=(sg[k]?).bind fun s=>if s.f_=(b:Int)∧(cJ l s).Lo≤(cJ l s).Hi then some ((k:Int),cJ l s) else none
noncomputable def j3 (l:aX) (sg:List aK) (i b:Nat):TM:=(List.range i).filterMap (mF l sg b)
noncomputable def dW (l:aX) (sg:List aK) (i:Nat):List TM:=(List.range l.ae.length).map (j3 l sg i)
noncomputable def cG (l:aX) (n:Nat):List Int:=(List.range n).map (dT l)
theorem vH {l:aX} {n:Nat}:cG l (n+1)=cG l n++[dT l n]:=by simp [cG,List.range_succ]
theorem dR {l:aX} {n:Nat}:(cG l n).length=n:=by simp [cG]
theorem jD {l:aX} {sg:List aK} {i:Nat}:(dW l sg i).length=l.ae.length:=by simp [dW]
theorem o7 {l:aX} {sg:List aK} {i b:Nat} (h:b<l.ae.length):(dW l sg i)[b]? =some (j3 l sg i b):=by simp [dW,h]
theorem pK {l:aX} {sg:List aK} {b k:Nat} {q:Int×aa}:mF l sg b k=some q↔ ∃ s,sg[k]? =some s∧(s.f_=(b:Int)∧(cJ l s).Lo≤(cJ l s).Hi)∧q=((k:Int),cJ l s):=by
 unfold mF
 cases h:sg[k]? with
 |none=>simp
 |some s=>
  simp only [Option.bind_some,Option.some.injEq]
  by_cases e:s.f_=(b:Int)∧(cJ l s).Lo≤(cJ l s).Hi
  ·rw [if_pos e]
   constructor
   ·intro h; cases h; exact ⟨s,rfl,e,rfl⟩
   ·rintro ⟨s',rfl,_,rfl⟩; rfl
  ·rw [if_neg e]
   constructor
   ·intro h; cases h
   ·rintro ⟨s',rfl,e',_⟩; exact absurd e' e
theorem sR {l:aX} {sg:List aK} {i b:Nat} {q:Int×aa}:q∈j3 l sg i b↔ ∃ k,k<i∧ ∃ s,sg[k]? =some s∧(s.f_=(b:Int)∧(cJ l s).Lo≤(cJ l s).Hi)∧q=((k:Int),cJ l s):=by
 unfold j3
 simp only [List.mem_filterMap,List.mem_range,pK]
theorem lq {l:aX} {sg:List aK} {i b:Nat}:j3 l sg (i+1) b=j3 l sg i b++(mF l sg b i).toList:=by
 unfold j3
 rw [List.range_succ,List.filterMap_append]
 congr 1
theorem EA {l:aX} {sg:List aK}:dW l sg 0=List.replicate l.ae.length []:=by
 unfold dW
 rw [List.eq_replicate_iff]
 refine ⟨sm,fun t ht=>?_⟩
 obtain ⟨b,_,rfl⟩:=bX.1 ht
 rfl
theorem xe {l:aX} {sg:List aK} {i:Nat} {s:aK} (hs:sg[i]? =some s) (h: ¬ (cJ l s).Lo≤(cJ l s).Hi):dW l sg (i+1)=dW l sg i:=by
 unfold dW
 apply List.map_congr_left
 intro b _
 rw [lq]
 have:mF l sg b i=none:=by
  cases e:mF l sg b i with
  |none=>rfl
  |some q=>obtain ⟨s',A,⟨_,B⟩,_⟩:=pK.1 e; rw [hs] at A; cases A; exact absurd B h
 rw [this]; simp
theorem yU {l:aX} {sg:List aK} {i:Nat} {s:aK} (hs:sg[i]? =some s) (hb:0≤s.f_∧s.f_≤(l.ae.length:Int)-1) (h:(cJ l s).Lo≤(cJ l s).Hi) {x:TM} (hx:(dW l sg i)[s.f_.toNat]? =some x):
 (dW l sg i).set s.f_.toNat (e8 x (i:Int) (cJ l s))=dW l sg (i+1):=by
 have A:s.f_.toNat<l.ae.length:=by omega
 rw [o7 A] at hx
 cases hx
 have B:e8 (j3 l sg i s.f_.toNat) (i:Int) (cJ l s)=j3 l sg (i+1) s.f_.toNat:=by
  have hn:(j3 l sg i s.f_.toNat).lookup (i:Int)=none:=gZ.2 fun p hp e=>by
   obtain ⟨k,hk,_,_,_,rfl⟩:=sR.1 hp
   simp only at e; omega
  have ho:mF l sg s.f_.toNat i=some ((i:Int),cJ l s):=pK.2 ⟨s,hs,⟨I,h⟩,rfl⟩
  rw [lq,ho]
  unfold e8; rw [hn]; rfl
 rw [B]
 apply List.ext_getElem?
 intro b
 rw [List.getElem?_set]
 by_cases e:s.f_.toNat=b
 ·rw [if_pos e,jD,← e,if_pos A,o7 A]
 ·rw [if_neg e]
  by_cases hb':b<l.ae.length
  ·rw [o7 hb',o7 hb',lq]
   have:mF l sg b i=none:=by
    cases e2:mF l sg b i with
    |none=>rfl
    |some q=>obtain ⟨s',C,⟨D,_⟩,_⟩:=pK.1 e2; rw [hs] at C; cases C; exact absurd I e
   rw [this]; simp
  ·rw [List.getElem?_eq_none (by rw [jD]; omega),List.getElem?_eq_none (by rw [jD]; omega)]
noncomputable def b_ (l:aX) (r:cE):bT:=⟨r.Start,r.gp,cG l l.ae.length,dW l r.ai r.ai.length,l.cw,l.dN,(r.ai.length:Int)⟩
theorem Lt {l:aX} (ht:db l.aL=true) (h:lK l) {i:Nat} (hi:i<l.ae.length):1≤dT l i∧dT l i≤500000000:=by
 have A:=GM ht h.td i
 have B:=h.Rw i hi
 have C:=h.head.1
 unfold dT pC
 refine ⟨(Int.le_ediv_iff_mul_le I).2 I,?_⟩
 have:(1000*lS l i+l.gk-1)/l.gk≤1000*lS l i+l.gk-1:=Int.ediv_le_self _ I
 omega
theorem Om (l:aX) (s:aK):0≤(cJ l s).Lo∧(cJ l s).Hi≤86400000:=by
 have A:=hE (p:=fW (mC l s) s.Read) (n:=86400001)
 have B:=hE (p:=fU (mC l s) s.Read) (n:=86400001)
 unfold cJ m7
 simp only
 omega
theorem pt {l:aX} {r:cE} (ht:db l.aL=true) (h:lK l) (hr:fD l r):H0 (b_ l r):=by
 have hh:=h.head
 unfold gE at hh
 refine ⟨?_,by simp [b_,jD,bT.n,dR],hr.time,fun x hx=>?_,fun t A p hp=>?_⟩
 ·show (cG l l.ae.length).length≤6
  rw [dR]; omega
 ·obtain ⟨i,hi,rfl⟩:=bX.1 hx
  exact Lt ht h (List.mem_range.1 hi)
 ·obtain ⟨b,hb,rfl⟩:=bX.1 A
  obtain ⟨k,hk,s,hs,⟨_,B⟩,rfl⟩:=sR.1 hp
  have C:=Om l s
  have D:=hr.len
  simp only
  omega
noncomputable def eg (l:aX) (r:cE) (me:Int):Int:=if dD l=0 then (if fD l r then (if me=0 then (if jW (b_ l r)=[] then 8 else 0) else me) else 51) else dD l
theorem oO {l:aX} {r:cE} {me:Int} (h: ¬ dD l=0):eg l r me=dD l:=if_neg h
theorem jy {l:aX} {r:cE} {me:Int} (h:dD l=0) (h2: ¬ fD l r):eg l r me=51:=by unfold eg; rw [if_pos h,if_neg h2]
theorem q6 {l:aX} {r:cE} {me:Int} (h:dD l=0) (h2:fD l r) (h3: ¬ me=0):eg l r me=me:=by unfold eg; rw [if_pos h,if_pos h2,if_neg h3]
theorem p6 {l:aX} {r:cE} {me:Int} (h:dD l=0) (h2:fD l r) (h3:me=0) (h4:jW (b_ l r)=[]):eg l r me=8:=by unfold eg; rw [if_pos h,if_pos h2,if_pos h3,if_pos h4]
theorem lW {l:aX} {r:cE} {me:Int} (h:dD l=0) (h2:fD l r) (h3:me=0) (h4: ¬ jW (b_ l r)=[]):eg l r me=0:=by unfold eg; rw [if_pos h,if_pos h2,if_pos h3,if_neg h4]
theorem j8 {l:aX} {r:cE} {me:Int} (h:eg l r me=0):dD l=0∧fD l r∧me=0∧ ¬ jW (b_ l r)=[]:=by
 unfold eg at h
 split at h
 ·split at h
  ·split at h
   ·split at h
    ·omega
    ·exact ⟨asm,asm,asm,asm⟩
   ·omega
  ·omega
 ·omega
end
section
def xw (l:List Int):Int:=(l.drop 1).foldl min (l.headD 0)
def Fq (l:List Int):Int:=(l.drop 1).foldl max (l.headD 0)
theorem C6: ∀ (l:List Int) (a:Int),(l.foldl min a=a∨l.foldl min a∈l)∧l.foldl min a≤a∧ ∀ x∈l,l.foldl min a≤x
 |[],a=>⟨.inl rfl,sm,sm⟩
 |y::l,a=>by
  obtain ⟨A,C,B⟩:=C6 l (min a y)
  simp only [List.foldl_cons]
  refine ⟨?_,I,?_⟩
  ·rcases A with A|A
   ·rw [A]
    rcases Int.le_total a y with q|q
    ·left; omega
    ·right; rw [show min a y=y by omega]; simp
   ·right; exact cV _ A
  ·intro x hx
   rcases bu.1 hx with rfl|hx
   ·omega
   ·exact B x hx
theorem BG: ∀ (l:List Int) (a:Int),(l.foldl max a=a∨l.foldl max a∈l)∧a≤l.foldl max a∧ ∀ x∈l,x≤l.foldl max a
 |[],a=>⟨.inl rfl,sm,sm⟩
 |y::l,a=>by
  obtain ⟨A,C,B⟩:=BG l (max a y)
  simp only [List.foldl_cons]
  refine ⟨?_,I,?_⟩
  ·rcases A with A|A
   ·rw [A]
    rcases Int.le_total a y with q|q
    ·right; rw [show max a y=y by omega]; simp
    ·left; omega
   ·right; exact cV _ A
  ·intro x hx
   rcases bu.1 hx with rfl|hx
   ·omega
   ·exact B x hx
theorem GU {l:List Int} (h:l≠[]):xw l∈l∧ ∀ x∈l,xw l≤x:=by
 cases l with
 |nil=>exact absurd rfl h
 |cons y ys=>
  obtain ⟨A,B,C⟩:=C6 ys y
  refine ⟨?_,fun x hx=>?_⟩
  ·rcases A with A|A
   ·simp [xw,A]
   ·exact cV _ (by simpa [xw] using A)
  ·rcases bu.1 hx with rfl|hx
   ·simpa [xw] using B
   ·simpa [xw] using C x hx
theorem O9 {l:List Int} (h:l≠[]):Fq l∈l∧ ∀ x∈l,x≤Fq l:=by
 cases l with
 |nil=>exact absurd rfl h
 |cons y ys=>
  obtain ⟨A,B,C⟩:=BG ys y
  refine ⟨?_,fun x hx=>?_⟩
  ·rcases A with A|A
   ·simp [Fq,A]
   ·exact cV _ (by simpa [Fq] using A)
  ·rcases bu.1 hx with rfl|hx
   ·simpa [Fq] using B
   ·simpa [Fq] using C x hx
noncomputable def lu (l:aX) (r:cE):List Int:=if eg l r 0=0 then jW (b_ l r) else []
theorem l9 {l:aX} {r:cE} (h:eg l r 0=0):lu l r=jW (b_ l r):=if_pos h
theorem u9 {l:aX} {r:cE} (h: ¬ eg l r 0=0):lu l r=[]:=if_neg h
theorem uM {l:aX} {r:cE} (h:eg l r 0=0):lu l r≠[]:=by rw [l9 h]; exact (j8 h).2.2.2
noncomputable def ER (l:aX) (r:cE):Int:=if eg l r 0=0 then (if l.bU<xw (lu l r) then 2 else if Fq (lu l r)≤l.bU then 0 else 1) else 0
noncomputable def iP (l:aX) (b:Int):Int:=if 0≤b∧b≤(l.ae.length:Int)-1 then 0 else 2
theorem ye {l:aX} {b:Int} (h:0≤b∧b≤(l.ae.length:Int)-1):iP l b=0:=if_pos h
theorem EW {l:aX} {b:Int} (h:iP l b=0):0≤b∧b≤(l.ae.length:Int)-1:=by
 unfold iP at h
 split at h
 ·assumption
 ·omega
noncomputable def ky (l:aX) (r:cE) (b:Nat):aa:=g6 (eU (b_ l r) b)
noncomputable def de (l:aX) (r:cE) (b:Int):Int:=if eg l r (iP l b)=0 then (if ky l r b.toNat=iT then 6 else 0) else eg l r (iP l b)
noncomputable def dy (l:aX) (r:cE) (b:Int):aa:=if de l r b=0 then ky l r b.toNat else dJ
theorem kb {l:aX} {r:cE} {b:Int} (h: ¬ eg l r (iP l b)=0):de l r b=eg l r (iP l b)∧dy l r b=dJ:=by
 have e:de l r b=eg l r (iP l b):=if_neg h
 exact ⟨e,by unfold dy; rw [if_neg (by rw [e]; exact h)]⟩
theorem lf {l:aX} {r:cE} {b:Nat} (h:eg l r (iP l b)=0) (h2:ky l r b=iT):de l r b=6∧dy l r b=dJ:=by
 have e:de l r b=6:=by unfold de; rw [if_pos h,Int.toNat_natCast,if_pos h2]
 exact ⟨e,by unfold dy; rw [if_neg (by rw [e]; omega)]⟩
theorem iY {l:aX} {r:cE} {b:Nat} (h:eg l r (iP l b)=0) (h2: ¬ ky l r b=iT):de l r b=0∧dy l r b=ky l r b:=by
 have e:de l r b=0:=by unfold de; rw [if_pos h,Int.toNat_natCast,if_neg h2]
 exact ⟨e,by unfold dy; rw [if_pos e,Int.toNat_natCast]⟩
theorem Mk {w:bT} (h:H0 w) {b:Nat} {q:Int×aa} (hq:q∈eU w b):0≤q.2.Lo∧q.2.Lo≤q.2.Hi∧q.2.Hi≤86400000:=by
 have A:=iN hq
 obtain ⟨o,ho,p,hp,u,hu,e⟩:=gU.1 hq
 obtain ⟨_,_,rfl⟩:=iL.1 e
 have B:=h.opt ho
 simp only [iQ] at A ⊢
 omega
theorem tW {l:aX} {r:cE} {b:Int} (h:de l r b=0):0≤(dy l r b).Lo∧(dy l r b).Lo≤(dy l r b).Hi∧(dy l r b).Hi≤86400000:=by
 have ho:eg l r (iP l b)=0:=by
  by_cases e:eg l r (iP l b)=0
  ·exact e
  ·rw [(kb e).1] at h; exact absurd h e
 obtain ⟨B,C,_⟩:=j8 ho
 obtain ⟨ht,A⟩:=gj B
 have hw:=pt ht A C
 have hv:dy l r b=ky l r b.toNat:=by unfold dy; rw [if_pos h]
 have hn:ky l r b.toNat≠iT:=fun e=>by unfold de at h; rw [if_pos ho,if_pos e] at h; omega
 have hh:=qQ (l:=eU (b_ l r) b.toNat) fun q hq=>iN hq
 rw [hv]
 unfold ky at hn ⊢
 rcases hh with ⟨_,e⟩|hh
 ·exact absurd e hn
 ·obtain ⟨x,hx,ex⟩:=hh.lo
  obtain ⟨y,hy,ey⟩:=hh.hi
  have:=Mk hw hx
  have:=Mk hw hy
  have:=hh.le
  omega
noncomputable def se (l:aX) (r:cE):aa:=if de l r l.bU=0 then ⟨(dy l r l.bU).Lo-r.Start,(dy l r l.bU).Hi-r.Start⟩ else dJ
theorem s_ {l:aX} {r:cE} (h:de l r l.bU=0):se l r=⟨(dy l r l.bU).Lo-r.Start,(dy l r l.bU).Hi-r.Start⟩:=if_pos h
theorem Ft {l:aX} {r:cE} (h: ¬ de l r l.bU=0):se l r=dJ:=if_neg h
theorem vL {l:aX} {r:cE} {b:Int} (h:de l r b=0):fD l r:=by
 by_cases e:eg l r (iP l b)=0
 ·exact (j8 e).2.1
 ·rw [(kb e).1] at h; exact absurd h e
theorem zY {k:List (Int×aa)} {h:aa} {q:Int×aa} {z:aa} (hh:kI k h) (hq:q.2.Lo≤q.2.Hi) (hz:mR h q.2=z):kI (k++[q]) z:=by subst hz; exact u_ hh hq
end
section
set_option maxRecDepth 20000
def SF:ak:=⟨1,⟨10000,10200⟩,⟨0,100⟩,⟨0,0⟩,0,0⟩
def yH:ao:=⟨100,[⟨0,⟨0,2⟩⟩,⟨100000,⟨5,6⟩⟩]⟩
def Rv (o:Int):bE:=⟨⟨0,⟨o,o⟩⟩,0⟩
def ov (f:Int):aX:=⟨[SF],2000,[yH],[Rv 1000,Rv 4000,Rv 9000],1,f,1⟩
def mT:cE:=⟨10000,20000,[⟨0,10600⟩,⟨0,11000⟩,⟨1,12600⟩]⟩
theorem Lh:db [SF]=true:=by decide
theorem yq:fm yH:=by
 have hi: ∀ (i:Nat) (x:bJ),yH.aN[i]? =some x→i=0∧x=⟨0,⟨0,2⟩⟩∨i=1∧x=⟨100000,⟨5,6⟩⟩:=fun i x h=>by
  match i with
  |0=>left; simp [yH] at h; exact ⟨rfl,h.symm⟩
  |1=>right; simp [yH] at h; exact ⟨rfl,h.symm⟩
  |n+2=>simp [yH] at h
 refine ⟨dc,dc,fun i x hx=>?_,fun i k x o hx hk ho=>?_⟩
 ·rcases hi i x hx with ⟨rfl,rfl⟩|⟨rfl,rfl⟩<;>(unfold fH; decide)
 ·rcases hi i x hx with ⟨rfl,rfl⟩|⟨rfl,rfl⟩
  ·omega
  ·rcases hi k o ho with ⟨rfl,rfl⟩|⟨rfl,rfl⟩
   ·unfold nO; decide
   ·omega
theorem Ay {o:Int} (h:0≤o∧o<10000):fG [SF] ⟨0,⟨o,o⟩⟩:=⟨sm,SF,rfl,by show o≤o∧0≤o∧o≤10000-1; omega⟩
theorem OR {f:Int} (hf:0≤f∧f≤3):lK (ov f):=by
 refine ⟨?_,fun c hc=>?_,fun b hb=>?_,fun i hi=>?_⟩
 ·unfold gE; simp [ov]; omega
 ·simp [ov] at hc; subst hc; exact yq
 ·simp [ov] at hb
  rcases hb with rfl|rfl|rfl
  ·exact ⟨Ay I,by simp [Rv,ov]⟩
  ·exact ⟨Ay I,by simp [Rv,ov]⟩
  ·exact ⟨Ay I,by simp [Rv,ov]⟩
 ·have A:i<3:=hi
  have:i=0∨i=1∨i=2:=by omega
  rcases this with rfl|rfl|rfl
  ·show (1:Int)≤lS (ov 0) 0; decide
  ·show (1:Int)≤lS (ov 0) 1; decide
  ·show (1:Int)≤lS (ov 0) 2; decide
def nq:aX:=ov 1
theorem Pa:dD nq=0:=xG Lh (OR I)
theorem AI {r x:Int} (h0:0<x) (h1:x≤86400000) (hy:fW yH r x=true) (hn:fW yH r (x-1)=false):ek (fW yH r) 86400001=x:=
 zq I I hy fun z hz A=>by
  cases e:fW yH r z with
  |false=>rfl
  |true=>
   unfold fW at e hn
   have:=(oI yq hz (show z≤x-1 by omega) I).2
   have B:=of_decide_eq_true e
   have C:=of_decide_eq_false hn
   omega
theorem Az {r x:Int} (h0:0<x) (h1:x≤86400000) (hy:fU yH r x=true) (hn:fU yH r (x-1)=false):ek (fU yH r) 86400001=x:=
 zq I I hy fun z hz A=>by
  cases e:fU yH r z with
  |false=>rfl
  |true=>
   unfold fU at e hn
   have:=(oI yq hz (show z≤x-1 by omega) I).1
   have B:=of_decide_eq_true e
   have C:=of_decide_eq_false hn
   omega
theorem RX:m7 yH 10600=⟨10596,10602⟩:=by unfold m7; rw [AI (x:=10596) I I dc dc,Az (x:=10603) I I dc dc]; rfl
theorem T_:m7 yH 11000=⟨10996,11002⟩:=by unfold m7; rw [AI (x:=10996) I I dc dc,Az (x:=11003) I I dc dc]; rfl
theorem Se:m7 yH 12600=⟨12596,12602⟩:=by unfold m7; rw [AI (x:=12596) I I dc dc,Az (x:=12603) I I dc dc]; rfl
def Ug (f:Int):bT:=⟨10000,20000,[500,1500,2500],[[(0,⟨10596,10602⟩),(1,⟨10996,11002⟩)],[(2,⟨12596,12602⟩)],[]],1,f,3⟩
theorem Sn (f:Int):cJ (ov f) ⟨0,10600⟩=⟨10596,10602⟩:=RX
theorem RN (f:Int):cJ (ov f) ⟨0,11000⟩=⟨10996,11002⟩:=T_
theorem Tw (f:Int):cJ (ov f) ⟨1,12600⟩=⟨12596,12602⟩:=Se
theorem KO (f:Int):dW (ov f) mT.ai 3=[[(0,⟨10596,10602⟩),(1,⟨10996,11002⟩)],[(2,⟨12596,12602⟩)],[]]:=by
 have o: ∀ b:Nat,j3 (ov f) mT.ai 3 b=(mF (ov f) mT.ai b 0).toList++((mF (ov f) mT.ai b 1).toList++(mF (ov f) mT.ai b 2).toList):=fun b=>by
  rw [lq,lq,lq]; simp [j3]
 have A: ∀ b:Nat,mF (ov f) mT.ai b 0=if (0:Int)=(b:Int) then some (0,⟨10596,10602⟩) else none:=fun b=>by
  show (if (0:Int)=(b:Int)∧(cJ (ov f) ⟨0,10600⟩).Lo≤(cJ (ov f) ⟨0,10600⟩).Hi then some ((0:Int),cJ (ov f) ⟨0,10600⟩) else none)=_
  rw [Sn]; by_cases h:(0:Int)=(b:Int)
  ·rw [if_pos h,if_pos ⟨h,dc⟩]<;>rfl
  ·rw [if_neg h,if_neg fun q=>h q.1]
 have B: ∀ b:Nat,mF (ov f) mT.ai b 1=if (0:Int)=(b:Int) then some (1,⟨10996,11002⟩) else none:=fun b=>by
  show (if (0:Int)=(b:Int)∧(cJ (ov f) ⟨0,11000⟩).Lo≤(cJ (ov f) ⟨0,11000⟩).Hi then some ((1:Int),cJ (ov f) ⟨0,11000⟩) else none)=_
  rw [RN]; by_cases h:(0:Int)=(b:Int)
  ·rw [if_pos h,if_pos ⟨h,dc⟩]<;>rfl
  ·rw [if_neg h,if_neg fun q=>h q.1]
 have C: ∀ b:Nat,mF (ov f) mT.ai b 2=if (1:Int)=(b:Int) then some (2,⟨12596,12602⟩) else none:=fun b=>by
  show (if (1:Int)=(b:Int)∧(cJ (ov f) ⟨1,12600⟩).Lo≤(cJ (ov f) ⟨1,12600⟩).Hi then some ((2:Int),cJ (ov f) ⟨1,12600⟩) else none)=_
  rw [Tw]; by_cases h:(1:Int)=(b:Int)
  ·rw [if_pos h,if_pos ⟨h,dc⟩]<;>rfl
  ·rw [if_neg h,if_neg fun q=>h q.1]
 show [j3 (ov f) mT.ai 3 0,j3 (ov f) mT.ai 3 1,j3 (ov f) mT.ai 3 2]=_
 rw [o,o,o,A,A,A,B,B,B,C,C,C]
 rfl
theorem Dv (f:Int):b_ (ov f) mT=Ug f:=by
 unfold b_ Ug
 rw [show mT.ai.length=3 from rfl,KO]
 rfl
theorem OS (f:Int):fD (ov f) mT:=by
 refine ⟨dc,dc,fun i s hs=>?_⟩
 match i with
 |0=>simp [mT] at hs; subst hs; unfold kz lE; simp [ov,m6]
 |1=>simp [mT] at hs; subst hs; unfold kz lE; simp [ov,m6,mT]
 |2=>simp [mT] at hs; subst hs; unfold kz lE; simp [ov,m6,mT]
 |n+3=>simp [mT] at hs
theorem JT:jW (b_ nq mT)=[2,3]:=by rw [show b_ nq mT=Ug 1 from Dv 1]; decide
theorem MJ:eg nq mT 0=0:=lW Pa (OS 1) rfl (by rw [JT]; decide)
theorem Lu {b:Nat} (hb:b<3):eg nq mT (iP nq b)=0:=by rw [ye (by show 0≤(b:Int)∧(b:Int)≤3-1; omega)]; exact MJ
theorem No {b:Nat} {z:aa} (hb:b<3) (hz:g6 (eU (Ug 1) b)=z) (hn:z≠iT):de nq mT b=0∧dy nq mT b=z:=by
 have e:ky nq mT b=z:=by unfold ky; rw [show b_ nq mT=Ug 1 from Dv 1]; exact hz
 have h:=iY (Lu hb) (by rw [e]; exact hn)
 exact ⟨h.1,h.2.trans e⟩
theorem wM:de nq mT 1=0∧dy nq mT 1=⟨12596,12602⟩:=No (b:=1) I dc dc
theorem EC:de nq mT nq.bU=0∧se nq mT=⟨2596,2602⟩:=by
 refine ⟨wM.1,?_⟩
 rw [s_ (l:=nq) (r:=mT) wM.1]
 rw [show dy nq mT nq.bU=⟨12596,12602⟩ from wM.2]
 rfl
theorem SQ (f:Int) {a:OA} {c:Nat} (hc:2≤c):ew (ov f) [(a,c)]:=by
 refine ⟨by simp [ov],?_,by simp [ov],U,by simp [ov],fun k m a' hm ha=>?_⟩
 ·intro x hx; simp [ov] at hx; subst hx; simp [SF]
 ·match k with
  |0=>simp [ov] at hm ha; subst hm; subst ha; simp [yH]; exact hc
  |n+1=>simp at ha
end
section
def lX (l:aX):Prop:=(20<(l.aL.length:Int)∨8<(l.ah.length:Int)∨10<(l.ae.length:Int))∨ ∃ c∈l.ah,10<(c.aN.length:Int)
noncomputable instance (l:aX):Decidable (lX l):=Classical.propDecidable _
/-- what is asked of a line that comes in -/
structure pZ (l:aX) (az:List RA):Prop where
 sw:l.aL.length≤9223372036854775807
 side: ∀ x∈l.aL,0≤x.jq∧x.jq≤255
 sr:l.ah.length≤9223372036854775807
 oo:az.length=l.ah.length
 sH:l.ae.length≤9223372036854775807
 LL: ∀ (k:Nat) m (a:RA),l.ah[k]? =some m→az[k]? =some a→m.aN.length≤a.2∧m.aN.length≤9223372036854775807
def Ax (l:aX) (i:Nat):Prop:= ∀ (j:Nat) c,j<i→l.ah[j]? =some c→(c.aN.length:Int)≤10
theorem Mp {l:aX} {i:Nat} (h: ¬ (20<(l.aL.length:Int))∧ ¬ (8<(l.ah.length:Int))∧ ¬ (10<(l.ae.length:Int))) (hi:l.ah.length≤i) (hs:Ax l i): ¬ lX l:=by
 rintro (A|⟨c,hc,B⟩)
 ·omega
 ·obtain ⟨k,hk⟩:=List.getElem?_of_mem hc
  have:=hs k c (by have:=(aY.1 hk).1; omega) hk
  omega
theorem IK {l:aX} {i:Nat} {c:ao} (hc:l.ah[i]? =some c) (h:10<(c.aN.length:Int)):lX l:= .inr ⟨c,aT hc,h⟩
theorem k8 {α:Type} {l:List α} {P:Nat→α→Prop} {i:Nat} {x:α} (h: ∀ (j:Nat) y,j<i→l[j]? =some y→P j y) (hx:l[i]? =some x) (hp:P i x): ∀ (j:Nat) y,j<i+1→l[j]? =some y→P j y:=fun j y hj hy=>by
 by_cases e:j=i
 ·subst e; rw [hx] at hy; cases hy; exact hp
 ·exact h j y I hy
theorem xu {α:Type} {l:List α} {P:Nat→α→Prop} {i:Nat} (hi:l.length≤i) (h: ∀ (j:Nat) y,j<i→l[j]? =some y→P j y): ∀ (j:Nat) y,l[j]? =some y→P j y:=fun j y hy=>h j y (by have:=(aY.1 hy).1; omega) hy
theorem qZ {α:Type} {l:List α} {P:α→Prop} {i:Nat} (hi:l.length≤i) (h: ∀ (j:Nat) y,j<i→l[j]? =some y→P y): ∀ y∈l,P y:=fun y hy=>by
 obtain ⟨k,hk⟩:=List.getElem?_of_mem hy
 exact xu (P:=fun _ y=>P y) hi h k y hk
theorem Dw {l:aX} (h: ¬ lX l):(l.aL.length:Int)≤20∧(l.ah.length:Int)≤8∧(l.ae.length:Int)≤10∧ ∀ c∈l.ah,(c.aN.length:Int)≤10:=by
 unfold lX at h
 rw [not_or] at h
 refine ⟨I,I,I,fun c hc=>?_⟩
 have:=h.2
 rcases Int.lt_or_le 10 (c.aN.length:Int) with q|q
 ·exact absurd ⟨c,hc,q⟩ this
 ·exact q
theorem pZ.small {l:aX} {az:List RA} (h:pZ l az) (hg: ¬ lX l):ew l az:=by
 have A:=Dw hg
 exact ⟨I,h.side,I,h.oo,I,fun k m a hm ha=>⟨(h.LL k m a hm ha).1,by have:=A.2.2.2 m (aT hm); omega⟩⟩
def F6 (c:ao) (x:bJ) (k:Nat):Prop:= ∀ (j:Nat) o,j<k→c.aN[j]? =some o→nO c x o
def um (c:ao) (m:Nat):Prop:= ∀ (i:Nat) x,i<m→c.aN[i]? =some x→F6 c x i
theorem Mi {c:ao} {m:Nat} (h1:0≤c.dq∧c.dq≤1000) (h2:1≤c.aN.length∧c.aN.length≤5) (hs: ∀ (i:Nat) x,c.aN[i]? =some x→fH c i x) (hm:c.aN.length≤m) (hp:um c m):fm c:=
 ⟨h1,h2,hs,fun i k x o hx hk ho=>hp i x (by have:=(aY.1 hx).1; omega) hx k o hk ho⟩
theorem DS {c:ao} {m k:Nat} (h:um c m) (hk: ∀ y,c.aN[m]? =some y→F6 c y k) (e:k=m):um c (m+1):=by
 subst e
 intro i x hi hx
 by_cases e:i=k
 ·subst e; exact hk x hx
 ·exact h i x I hx
noncomputable def kW (c:ao) (at_:Int) (i:Nat):aa:=if i=0 then dJ else gK c at_ i
theorem Fb {c:ao} {at_:Int} {i:Nat} (h:fm c) (hi:c.aN.length≤i):kW c at_ i=eO c at_:=by
 have:=h.len
 unfold kW; rw [if_neg I,nT hi]
theorem Bh {c:ao} {at_:Int} {i:Nat} {x:bJ} (h:fm c) (ha:0≤at_∧at_≤90000000) (hx:c.aN[i]? =some x) (hi:i=0):
 kW c at_ (i+1)=⟨max (x.dL.Lo-mZ c at_ x) (x.dL.Lo-mZ c at_ x),min (x.dL.Hi+mZ c at_ x) (x.dL.Hi+mZ c at_ x)⟩:=by
 subst hi
 have hb:=h.uR hx
 have ho:=uH h.sB ha hb.1
 unfold kW
 rw [if_neg I,jY hx]
 unfold gL gK
 simp only [List.take_zero,List.foldl_nil,aa.mk.injEq]
 omega
theorem CV {c:ao} {at_:Int} {i:Nat} {x:bJ} (hx:c.aN[i]? =some x) (hi: ¬ i=0):kW c at_ (i+1)=⟨max (kW c at_ i).Lo (x.dL.Lo-mZ c at_ x),min (kW c at_ i).Hi (x.dL.Hi+mZ c at_ x)⟩:=by
 unfold kW
 rw [if_neg I,if_neg hi,jY hx]; rfl
def ir (ts:List ak) (n:Nat):List aa:=(List.range n).map fun k=>eL ts 0 k
theorem Dx {ts:List ak} {n:Nat}:ir ts (n+1)=ir ts n++[eL ts 0 n]:=by simp [ir,List.range_succ]
theorem o1 {ts:List ak} {n:Nat}:(ir ts n).length=n:=by simp [ir]
theorem p7 {ts:List ak} {n k:Nat} {x:aa} (h:(ir ts n)[k]? =some x):x=eL ts 0 k:=by
 unfold ir at h
 rw [fB] at h
 cases hk:(List.range n)[k]? with
 |none=>simp [hk] at h
 |some v=>
  have:=aY.1 hk
  simp at this
  simp [hk] at h
  rw [← h,← this.2]
theorem Em {ts:List ak} {a b:cN} (h:b.bf<a.bf):j6 ts a b=oB (j6 ts b a):=by
 unfold j6
 rw [if_pos h,if_neg I]
 unfold yw
 rw [Int.min_comm b.bf a.bf,Int.max_comm b.bf a.bf]
 unfold oB mL
 simp only [aa.mk.injEq]
 omega
theorem qV {ts:List ak} {a b:cN} (h: ¬ b.bf<a.bf):j6 ts a b=mL (mL (eL ts a.bf.toNat (b.bf-a.bf).toNat) b.mS) (oB a.mS):=by
 unfold j6 yw
 rw [if_neg h,Int.min_eq_left I,Int.max_eq_right I]
end
section
def iy (m:List aw) (a:cK):List av:=rd a.1.1 m.length 7 (List.zipWith aw.cells m a.2)::aW aw.gP m a.2
structure PZ (h:List aw) (a:cK):Prop where
 len:h.length≤1000000
 oo:a.2.length=h.length
 sig: ∀ d∈h,d.cv.ai.length≤1000000
structure fp (r:bY) (az:List RA) (ha:List cK):Prop where
 line:ew r.an az
 jd:r.aM.length≤1000000
 draw:r.bK.length≤12
 iW:r.aq.length≤1000000
 has:ha.length=r.aq.length
 m8: ∀ (k:Nat) h (a:cK),r.aq[k]? =some h→ha[k]? =some a→PZ h a
structure oF (r:bY) (az:List RA) (ha:List cK):Prop where
 line:pZ r.an az
 jd:r.aM.length≤9223372036854775807
 draw:r.bK.length≤9223372036854775807
 iW:r.aq.length≤9223372036854775807
 has:ha.length=r.aq.length
 m8: ∀ (k:Nat) h (a:cK),r.aq[k]? =some h→ha[k]? =some a→h.length≤9223372036854775807∧a.2.length=h.length∧ ∀ d∈h,d.cv.ai.length≤9223372036854775807
def o3 (h:List aw):Prop:=8<(h.length:Int)∨ ∃ d∈h,15<(d.cv.ai.length:Int)
def nR (r:bY):Prop:=(lX r.an∨8<(r.aM.length:Int)∨8<(r.bK.length:Int)∨5<(r.aq.length:Int))∨ ∃ h∈r.aq,o3 h
noncomputable instance (r:bY):Decidable (nR r):=Classical.propDecidable _
theorem Gv {r:bY} (h: ¬ nR r): ¬ lX r.an∧(r.aM.length:Int)≤8∧(r.bK.length:Int)≤8∧(r.aq.length:Int)≤5∧ ∀ h∈r.aq,(h.length:Int)≤8∧ ∀ d∈h,(d.cv.ai.length:Int)≤15:=by
 unfold nR at h
 obtain ⟨A,B⟩:=not_or.1 h
 obtain ⟨C,E⟩:=not_or.1 A
 refine ⟨C,I,I,I,fun x hx=>?_⟩
 have hn: ¬ o3 x:=fun q=>B ⟨x,hx,q⟩
 obtain ⟨F,D⟩:=not_or.1 hn
 refine ⟨I,fun d hd=>?_⟩
 rcases Int.lt_or_le 15 (d.cv.ai.length:Int) with q|q
 ·exact absurd ⟨d,hd,q⟩ D
 ·exact q
theorem oF.small {r:bY} {az:List RA} {ha:List cK} (h:oF r az ha) (hg: ¬ nR r):fp r az ha:=by
 have B:=Gv hg
 refine ⟨h.line.small B.1,I,I,I,h.has,fun k x a hx A=>?_⟩
 have C:=B.2.2.2.2 x (aT hx)
 have D:=h.m8 k x a hx A
 exact ⟨I,D.2.1,fun d hd=>by have:=C.2 d hd; omega⟩
def mQ (r:cE):Prop:=r.Start=0∧r.gp=0∧(r.ai.length:Int)=0
instance (r:cE):Decidable (mQ r):=by unfold mQ; infer_instance
def iU (s:aa):Prop:=1≤s.Lo∧s.Lo≤s.Hi∧s.Hi≤600000
instance (s:aa):Decidable (iU s):=by unfold iU; infer_instance
def gV (l:aX) (d:aw):Prop:=if d.Out=true then d.eV=false∧d.Time=dJ∧mQ d.cv else if d.eV=true then iU d.Time∧mQ d.cv else de l d.cv l.bU=0∧d.Time=dJ
noncomputable instance (l:aX) (d:aw):Decidable (gV l d):=Classical.propDecidable _
noncomputable def dE (l:aX) (d:aw):aa:=if d.Out=true∨d.eV=true then d.Time else se l d.cv
/-- which kind a descent is of -/
def o2 (d:aw):Int:=if d.Out=true then 0 else if d.eV=true then 1 else 2
theorem ON {w:bT} (h:H0 w): ∀ (b:Nat) (p:aB×Int),p∈fwd w b→w.Start≤p.2:=by
 have hl: ∀ b,0≤bR w b:=fun b=>by
  unfold bR
  cases e:w.qg[b]? with
  |none=>simp
  |some x=>have:=h.least x (aT e); simp; omega
 intro b
 induction b with
 |zero=>intro p hp; simp only [fwd,bH] at hp; subst hp; exact Int.le_refl _
 |succ b ih=>
  intro q hq
  obtain ⟨p,hp,o,ho,e⟩:=fu.1 hq
  unfold kH at e
  split at e
  ·simp only [Option.some.injEq] at e
   subst e
   have:=ih p hp
   have:=hl b
   simp only; omega
  ·cases e
theorem Oc {l:aX} {r:cE} {b:Int} (h:de l r b=0):r.Start≤(dy l r b).Lo:=by
 have ho:eg l r (iP l b)=0:=by
  by_cases e:eg l r (iP l b)=0
  ·exact e
  ·rw [(kb e).1] at h; exact absurd h e
 obtain ⟨B,C,_⟩:=j8 ho
 obtain ⟨ht,A⟩:=gj B
 have hw:=pt ht A C
 have hv:dy l r b=ky l r b.toNat:=by unfold dy; rw [if_pos h]
 have hn:ky l r b.toNat≠iT:=fun e=>by unfold de at h; rw [if_pos ho,if_pos e] at h; omega
 have hh:=qQ (l:=eU (b_ l r) b.toNat) fun q hq=>iN hq
 rw [hv]
 unfold ky at hn ⊢
 rcases hh with ⟨_,e⟩|hh
 ·exact absurd e hn
 ·obtain ⟨x,hx,ex⟩:=hh.lo
  obtain ⟨o,ho,p,hp,u,hu,e⟩:=gU.1 hx
  obtain ⟨_,_,rfl⟩:=iL.1 e
  have D:r.Start≤p.2:=ON hw _ p hp
  have E:0≤bR (b_ l r) b.toNat:=by
   unfold bR
   cases e:(b_ l r).qg[b.toNat]? with
   |none=>simp
   |some x=>have:=hw.least x (aT e); simp; omega
  simp only [iQ] at ex
  omega
theorem AW {l:aX} {d:aw} (h:gV l d):0≤(dE l d).Lo∧(dE l d).Lo≤(dE l d).Hi∧(dE l d).Hi≤86400000:=by
 unfold gV at h
 unfold dE
 split at h
 ·rename_i q; rw [if_pos (Or.inl q),h.2.1]; simp [dJ]
 ·rename_i q
  split at h
  ·rename_i A
   rw [if_pos (Or.inr A)]
   obtain ⟨⟨B,C,D⟩,_⟩:=h
   omega
  ·rename_i A
   rw [if_neg (fun z=>z.elim q A),s_ h.1]
   have B:=tW h.1
   have C:=(vL h.1).time
   have D:=Oc h.1
   simp only
   omega
theorem FJ {l:aX} {d:aw} (h:d.Out=true):dE l d=d.Time:=if_pos (Or.inl h)
theorem tP {l:aX} {d:aw} (h:d.Out=false∧d.eV=true):dE l d=d.Time:=if_pos (Or.inr h.2)
theorem rq {l:aX} {d:aw} (h:d.Out=false∧d.eV=false):dE l d=se l d.cv:=if_neg (by simp [h])
theorem q8 {l:aX} {d:aw} (h:d.Out=true):gV l d=(d.eV=false∧d.Time=dJ∧mQ d.cv):=if_pos h
theorem qv {l:aX} {d:aw} (h:d.Out=false∧d.eV=true):gV l d=(iU d.Time∧mQ d.cv):=by unfold gV; rw [if_neg (by simp [h]),if_pos h.2]
theorem qD {l:aX} {d:aw} (h:d.Out=false∧d.eV=false):gV l d=(de l d.cv l.bU=0∧d.Time=dJ):=by unfold gV; rw [if_neg (by simp [h]),if_neg (by simp [h])]
structure fj (r:bY):Prop where
 num:1≤(r.aM.length:Int)∧(r.aM.length:Int)≤5
 xL:0≤r.gX∧r.gX≤5
 nh:1≤(r.aq.length:Int)∧(r.aq.length:Int)≤3
 ids: ∀ (i:Nat) x,r.aM[i]? =some x→(0≤x∧x≤9999)∧ ∀ y,0<i→r.aM[i-1]? =some y→y<x
 draw:r.bK.Perm ((List.range r.aM.length).map fun (k:Nat)=>(k:Int))
 m8: ∀ h∈r.aq,h.length=r.aM.length∧ ∀ d∈h,gV r.an d
noncomputable instance (r:bY):Decidable (fj r):=Classical.propDecidable _
noncomputable def cM (r:bY):Int:=if dD r.an=0 then (if fj r then 0 else 60) else dD r.an
end
section
theorem nN {α β:Type} {f g:α→Option β}: ∀ {l:List α},(∀ x∈l,f x=g x)→l.filterMap f=l.filterMap g
 |[],_=>rfl
 |x::l,h=>by simp only [List.filterMap_cons,h x cq,nN (l:=l) (fun y hy=>h y (cV _ hy))]
abbrev g_:=List (Int×aa)
/-- the sum of a sled in some heats, the first ones -/
noncomputable def fI (l:aX) (hs:List (List aw)) (i:Nat):Nat→Option aa
 |0=>some ⟨0,0⟩
 |k+1=>match fI l hs i k,(hs[k]?).bind (·[i]?) with
  |some s,some d=>if d.Out=true then none else some ⟨s.Lo+(dE l d).Lo/10,s.Hi+(dE l d).Hi/10⟩
  |_,_=>none
noncomputable def eE (l:aX) (hs:List (List aw)) (n h i:Nat):g_:=(List.range n).filterMap fun q=>(fI l hs q (if q<i then h+1 else h)).map fun s=>((q:Int),s)
noncomputable def eP (r:bY) (k:Nat):g_:=(List.range r.aM.length).filterMap fun q=>(fI r.an r.aq q k).map fun s=>((q:Int),s)
noncomputable def aF (r:bY):g_:=eP r r.aq.length
section
variable {l:aX} {hs:List (List aw)} {n h i q:Nat} {s:aa} {d:aw}
theorem C7:eE l hs n h 0=(List.range n).filterMap fun q=>(fI l hs q h).map fun s=>((q:Int),s):=by
 unfold eE
 apply nN
 intro q _
 rw [if_neg (Nat.not_lt_zero _)]
theorem NF:eE l hs n h n=eE l hs n (h+1) 0:=by
 rw [C7]
 unfold eE
 apply nN
 intro q hq
 rw [if_pos (List.mem_range.1 hq)]
theorem Ip {x:List aw} (hx:hs[h]? =some x) (hd:x[i]? =some d) (ho:d.Out=true):fI l hs i (h+1)=none:=by
 unfold fI
 rw [hx]
 simp only [Option.bind_some,hd]
 cases fI l hs i h with
 |none=>rfl
 |some s=>simp [ho]
theorem E9 (h0:fI l hs i h=none):fI l hs i (h+1)=none:=by unfold fI; rw [h0]
theorem Fh {x:List aw} (hx:hs[h]? =some x) (hd:x[i]? =some d) (ho: ¬ d.Out=true) (hs0:fI l hs i h=some s):fI l hs i (h+1)=some ⟨s.Lo+(dE l d).Lo/10,s.Hi+(dE l d).Hi/10⟩:=by
 unfold fI
 rw [hx,hs0]
 simp only [Option.bind_some,hd,if_neg ho]
end
section
variable {l:aX} {hs:List (List aw)} {n h i q:Nat} {s t:aa}
theorem Rq {K β:Type} [DecidableEq K] {L Y:List (K×β)} {t:K}:(L++Y).lookup t=match L.lookup t with |some v=>some v|none=>Y.lookup t:=by
 induction L with
 |nil=>rfl
 |cons p L ih=>
  obtain ⟨k,u⟩:=p
  by_cases e:t==k
  ·simp [List.lookup,e]
  ·have:(t==k)=false:=by simpa using e
   simp only [List.cons_append,List.lookup,this,ih]
theorem rN {f:Nat→Option aa}: ∀ (n i:Nat),((List.range n).filterMap fun q=>(f q).map fun s=>((q:Int),s)).lookup (i:Int)=if i<n then f i else none
 |0,i=>by simp
 |n+1,i=>by
  rw [List.range_succ,List.filterMap_append,Rq,rN n i]
  by_cases c:i<n
  ·rw [if_pos c,if_pos I]
   cases e:f i with
   |some s=>rfl
   |none=>
    simp only
    cases e2:f n with
    |none=>simp [e2]
    |some u=>
     have:((i:Int)==(n:Int))=false:=by simp only [beq_eq_false_iff_ne,ne_eq]; omega
     simp [e2,List.lookup,this]
  ·rw [if_neg c]
   simp only
   by_cases A:i=n
   ·subst A
    rw [if_pos I]
    cases e2:f i with
    |none=>simp [e2]
    |some u=>simp [e2]
   ·rw [if_neg I]
    have:((i:Int)==(n:Int))=false:=by simp only [beq_eq_false_iff_ne,ne_eq]; omega
    cases e2:f n with
    |none=>simp [e2]
    |some u=>simp [e2,List.lookup,this]
theorem xd:(eE l hs n h i).lookup (q:Int)=if q<n then fI l hs q (if q<i then h+1 else h) else none:=rN n q
theorem P7 {f g:Nat→Option aa} {n i:Nat} (hi:i<n) {s:aa} (hf:(f i).isSome=true) (hg:g i=some s) (hfg: ∀ q,q≠i→f q=g q):e8 ((List.range n).filterMap fun q=>(f q).map fun s=>((q:Int),s)) (i:Int) s=(List.range n).filterMap fun q=>(g q).map fun s=>((q:Int),s):=by
 unfold e8
 rw [if_pos (by rw [rN,if_pos hi]; exact hf),List.map_filterMap]
 apply nN
 intro q _
 by_cases e:q=i
 ·subst e
  obtain ⟨u,hu⟩:=Option.isSome_iff_exists.1 hf
  rw [hu,hg]; simp
 ·rw [hfg q e]
  cases g q with
  |none=>rfl
  |some u=>
   have: ¬ ((q:Int)=(i:Int)):=by omega
   simp [this]
theorem Qp {f g:Nat→Option aa} {n i:Nat} (hg:g i=none) (hfg: ∀ q,q≠i→f q=g q):cH ((List.range n).filterMap fun q=>(f q).map fun s=>((q:Int),s)) (i:Int)=(List.range n).filterMap fun q=>(g q).map fun s=>((q:Int),s):=by
 unfold cH
 rw [List.filter_filterMap]
 apply nN
 intro q _
 by_cases e:q=i
 ·subst e
  rw [hg]
  cases f q with
  |none=>rfl
  |some u=>simp
 ·rw [hfg q e]
  cases g q with
  |none=>rfl
  |some u=>
   have: ¬ ((q:Int)=(i:Int)):=by omega
   simp [this]
theorem Nr (hi:i<n) (h0:(fI l hs i h).isSome=true) (h1:fI l hs i (h+1)=some s):e8 (eE l hs n h i) (i:Int) s=eE l hs n h (i+1):=by
 unfold eE
 refine P7 hi (by rw [if_neg (Nat.lt_irrefl i)]; exact h0) (by rw [if_pos (Nat.lt_succ_self i)]; exact h1) fun q hq=>?_
 by_cases c:q<i
 ·rw [if_pos c,if_pos I]
 ·rw [if_neg c,if_neg I]
theorem Gx (h1:fI l hs i (h+1)=none):cH (eE l hs n h i) (i:Int)=eE l hs n h (i+1):=by
 unfold eE
 refine Qp (by rw [if_pos (Nat.lt_succ_self i)]; exact h1) fun q hq=>?_
 by_cases c:q<i
 ·rw [if_pos c,if_pos I]
 ·rw [if_neg c,if_neg I]
end
def nc (m:g_) (i:Int):g_:=m.filter fun p=> !decide (p.1=i)
def ij (m:g_) (i n:Int):Nat:=(nc m i).countP fun p=>decide (p.2.Hi<n)
def kv (m:g_) (i n:Int):Nat:=(nc m i).countP fun p=>decide (p.2.Lo<n)
def jU (m:g_) (i:Int) (own:aa):List Int:=own.Lo::((nc m i).flatMap fun p=>[p.2.Lo+1,p.2.Hi+1]).filter fun n=>decide (own.Lo≤n∧n≤own.Hi)
def sS (m:g_) (i:Int) (own:aa) (k:Int):Prop:= ∃ n∈jU m i own,(ij m i n:Int)+1≤k∧k≤(kv m i n:Int)+1
noncomputable instance (m:g_) (i:Int) (own:aa) (k:Int):Decidable (sS m i own k):=Classical.propDecidable _
noncomputable def dI (m:g_) (i:Int) (own:aa):List Int:=((List.range m.length).map fun (k:Nat)=>(k:Int)+1).filter fun k=>decide (sS m i own k)
section
variable {m:g_} {i:Int} {own:aa}
/-- what a point stands for -/
theorem Mt {x:Int} (h1:own.Lo≤x) (h2:x≤own.Hi): ∃ n∈jU m i own,n≤x∧ij m i n=ij m i x∧kv m i n=kv m i x:=by
 -- the greatest point that is no greater
 have key: ∀ (d:Nat) (x:Int),own.Lo≤x→x≤own.Hi→(x-own.Lo).toNat=d→ ∃ n∈jU m i own,n≤x∧ij m i n=ij m i x∧kv m i n=kv m i x:=by
  intro d
  induction d with
  |zero=>
   intro x h1 h2 hd
   have:x=own.Lo:=by omega
   exact ⟨own.Lo,cq ..,I,by rw [this],by rw [this]⟩
  |succ d ih=>
   intro x h1 h2 hd
   by_cases c:x∈jU m i own
   ·exact ⟨x,c,Int.le_refl _,U,U⟩
   ·obtain ⟨n,hn,D,B,C⟩:=ih (x-1) I I I
    have A: ∀ p∈nc m i,p.2.Lo+1≠x∧p.2.Hi+1≠x:=fun p hp=>by
     constructor<;>intro e<;>apply c<;>refine cV _ (List.mem_filter.2 ⟨List.mem_flatMap.2 ⟨p,hp,by rw [← e]; simp⟩,gf ⟨h1,h2⟩⟩)
    refine ⟨n,hn,I,?_,?_⟩
    ·rw [B]
     unfold ij
     apply List.countP_congr
     intro p hp
     have:=(A p hp).2
     rw [decide_eq_true_eq,decide_eq_true_eq]
     omega
    ·rw [C]
     unfold kv
     apply List.countP_congr
     intro p hp
     have:=(A p hp).1
     rw [decide_eq_true_eq,decide_eq_true_eq]
     omega
 exact key _ x h1 h2 U
theorem Lg {n:Int} (ho:own.Lo≤own.Hi) (h:n∈jU m i own):own.Lo≤n∧n≤own.Hi:=by
 rcases bu.1 h with rfl|h
 ·omega
 ·exact of_decide_eq_true (List.mem_filter.1 h).2
/-- a rank comes about at some sum -/
theorem qz (ho:own.Lo≤own.Hi) {k:Int}:sS m i own k↔ ∃ x,own.Lo≤x∧x≤own.Hi∧(ij m i x:Int)+1≤k∧k≤(kv m i x:Int)+1:=by
 constructor
 ·rintro ⟨n,hn,A,B⟩
  have:=Lg ho hn
  exact ⟨n,this.1,this.2,A,B⟩
 ·rintro ⟨x,A,B,E,F⟩
  obtain ⟨n,hn,_,C,D⟩:=Mt (m:=m) (i:=i) A B
  exact ⟨n,hn,by rw [C]; exact E,by rw [D]; exact F⟩
theorem Kq (hi:m.lookup i≠none) {x:Int}:kv m i x+1≤m.length:=by
 unfold kv
 refine Nat.lt_of_le_of_lt List.countP_le_length ?_
 unfold nc
 obtain ⟨v,hv⟩:=Option.ne_none_iff_exists'.1 hi
 have hm: ∃ p∈m,p.1=i:=by
  clear hi
  induction m with
  |nil=>simp at hv
  |cons p m ih=>
   obtain ⟨a,b⟩:=p
   by_cases e:i=a
   ·exact ⟨_,cq ..,e.symm⟩
   ·have:(i==a)=false:=by simpa using e
    simp only [List.lookup,this] at hv
    obtain ⟨p,hp,e⟩:=ih hv
    exact ⟨p,cV _ hp,e⟩
 obtain ⟨p,hp,e⟩:=hm
 refine Nat.lt_of_le_of_ne (List.length_filter_le _ _) fun q=>?_
 have:=(List.filter_eq_self (p:=fun p:Int×aa=> !decide (p.1=i))).1 (List.filter_sublist.eq_of_length q) p hp
 simp [e] at this
theorem rK (hi:m.lookup i≠none) {k:Int}:k∈dI m i own↔sS m i own k:=by
 unfold dI
 rw [List.mem_filter,bX,decide_eq_true_eq]
 constructor
 ·rintro ⟨_,h⟩; exact h
 ·intro h
  refine ⟨?_,h⟩
  obtain ⟨n,_,A,B⟩:=h
  have:=Kq hi (x:=n)
  exact ⟨(k-1).toNat,List.mem_range.2 I,I⟩
end
end
section
def qI (l:List Int):List (List Value):=l.map fun x=>[vI x]
theorem tL {l:List Int}:(qI l).length=l.length:=by simp [qI]
theorem Hn {l:List Int} {k:Nat} {x:Int} (h:l[k]? =some x):(qI l)[k]? =some [vI x]:=by simp [qI,h]
theorem H7 {l:List Int} {k:Nat} {x:List Value} (h:(qI l)[k]? =some x): ∃ y,l[k]? =some y∧x=[vI y]:=by
 simp only [qI,fB,Option.map_eq_some_iff] at h
 obtain ⟨y,hy,rfl⟩:=h
 exact ⟨y,hy,U⟩
theorem Fi {l:List Int}: ∀ x∈qI l,x.length=1:=fun x hx=>by
 simp only [qI,bX] at hx
 obtain ⟨y,_,rfl⟩:=hx
 rfl
theorem yG {l:List Int}:l.take (qI l).length=l:=by rw [tL,List.take_of_length_le (Nat.le_refl _)]
theorem l8 {l:List Int} {k:Nat} {x:Int} (h:l[k]? =some x):l.take (k+1)=l.take k++[x]:=by
 rw [List.take_add_one,h]; rfl
def dB (l:List Int):List Int:=l.mergeSort fun a b=>decide (a≤b)
theorem fT {l:List Int}:(dB l).Perm l:=List.mergeSort_perm _ _
theorem lI {l:List Int}:(dB l).Pairwise (· ≤ ·):=by
 have:=List.pairwise_mergeSort (le:=fun (a b:Int)=>decide (a≤b)) (fun a b c A B=>by simp at A B ⊢; omega) (fun a b=>by simp; omega) l
 exact this.imp fun h=>by simpa using h
@[simp] theorem gI {l:List Int}:(dB l).length=l.length:=fT.length_eq
theorem qs {l m:List Int} (h1:m.Perm l) (h2:m.Pairwise (· ≤ ·)):m=dB l:=sJ (h1.trans fT.symm) h2 lI
end
section
open Go.RowKit
def sC (s:bj):List Value:=[vS s.a s.n s.c]
theorem zB: ∀ s,(sC s).length=1:=fun s=>rfl
theorem Ke (l:List bj): ∀ v∈(l.map sC).flatten,v.oneCell'=true:=mP (fun s=>rfl) l
def Dj (l:List aa) (a:RA):bj:=⟨a.1,l.length,a.2⟩
def E4 (l:List aa) (a:RA):List Value:=[vS a.1 l.length a.2]
def M1 (l:List aa) (a:RA):List av:=[rd a.1 l.length 2 (l.map aa.cells)]
def DM (l:List aa) (a:RA):List av:=[own a.1 a.2 MH 2 (l.map aa.cells)]
theorem yQ {ls:List (List aa)} {az:List RA}:(List.zipWith Dj ls az).map sC=List.zipWith E4 ls az:=by
 rw [List.map_zipWith]; rfl
theorem tJ: ∀ (m:List aa) (a:RA) (w:World),(∀ X∈DM m a,X.holds w)→ ∀ X∈M1 m a,X.holds w:=fun m a w h X hX=>by
 simp only [M1,bH] at hX
 subst hX
 have:=nZ (h _ (bH.2 rfl))
 simpa using this
theorem w5 {l:List (List aa)} {bz:List RA}:(br (aW DM l bz)).wr=true:=by
 show (aW DM l bz).all (·.wr)=true
 rw [cW]
 intro X hX
 obtain ⟨k,m,a,_,_,h⟩:=jJ hX
 simp only [DM,bH] at h
 subst h; rfl
theorem np {ls:List (List aa)} {az:List RA} (h:az.length=ls.length):(List.zipWith E4 ls az).length=ls.length:=by simp [h]
noncomputable def gQ (r:bY) (i:Nat):List (List aa):=(r.aq.take i).map fun h=>h.map (dE r.an)
noncomputable def cT (r:bY):List (List aa):=gQ r r.aq.length
section
variable {r:bY} {i:Nat} {h:List aw} {tz:List RA} {a:RA}
theorem vD (hh:r.aq[i]? =some h):gQ r (i+1)=gQ r i++[h.map (dE r.an)]:=by unfold gQ; rw [List.take_add_one,hh,List.map_append]; rfl
theorem kU (hi:i≤r.aq.length):(gQ r i).length=i:=by unfold gQ; rw [List.length_map,List.length_take]; omega
theorem dQ:(cT r).length=r.aq.length:=kU (Nat.le_refl _)
theorem D3 (hh:r.aq[i]? =some h):(cT r)[i]? =some (h.map (dE r.an)):=by
 unfold cT gQ
 rw [List.take_length,fB,hh]; rfl
theorem zP {m:List aa} (hh:r.aq[i]? =some h) (hm:(cT r)[i]? =some m):m=h.map (dE r.an):=by
 rw [D3 hh] at hm
 exact (Option.some.inj hm).symm
theorem tD (hh:r.aq[i]? =some h) (hl:tz.length=i):List.zipWith Dj (gQ r (i+1)) (tz++[a])=List.zipWith Dj (gQ r i) tz++[Dj (h.map (dE r.an)) a]:=by
 have hi:=(aY.1 hh).1
 rw [vD hh,List.zipWith_append (by rw [kU I,hl])]
 rfl
theorem Co (hh:r.aq[i]? =some h) (hl:tz.length=i):aW DM (gQ r i) tz++[own a.1 a.2 MH 2 ((h.map (dE r.an)).map aa.cells)]=aW DM (gQ r (i+1)) (tz++[a]):=by
 have hi:=(aY.1 hh).1
 rw [vD hh,jB (by rw [kU I,hl])]
 simp [aW,DM]
end
theorem zI {lo hi:Int} {l:List Int}:qi lo hi l=true↔ ∀ x∈l,lo≤x∧x≤hi:=by
 unfold qi
 rw [Bool.not_eq_true',List.any_eq_false]
 constructor
 ·intro h x hx; have:=h x hx; simp only [decide_eq_true_eq] at this; omega
 ·intro h x hx; have:=h x hx; simp only [decide_eq_true_eq]; omega
abbrev GV (n:Nat):List Int:=(List.range n).map fun (k:Nat)=>(k:Int)
theorem xW (n:Nat):(GV n).Pairwise (· ≤ ·):=by
 unfold GV
 rw [List.pairwise_map]
 exact List.pairwise_lt_range.imp fun h=>by omega
theorem vN {l:List Int} {n:Nat} (h:l.Perm (GV n)):dB l=GV n:=(qs h.symm (xW n)).symm
theorem HC {l:List Int} {n:Nat} (hl:l.length=n) (h: ∀ j,j<n→ ∀ x,(dB l)[j]? =some x→x=(j:Int)):l.Perm (GV n):=by
 have e:dB l=GV n:=by
  apply List.ext_getElem
  ·simp [hl]
  ·intro j A B
   have C:j<n:=by simpa using B
   have:=h j C _ (fc A)
   simpa using this
 rw [← e]; exact fT.symm
def rW (r:bY) (i:Nat):Prop:= ∀ j,j<i→(∀ x,(dB r.bK)[j]? =some x→x=(j:Int))∧ ∀ x y,r.aM[j]? =some x→0<j→r.aM[j-1]? =some y→y<x
def EF (r:bY) (h:List aw):Prop:=h.length=r.aM.length∧ ∀ d∈h,gV r.an d
def ks (r:bY) (i:Nat):Prop:= ∀ (j:Nat) h,j<i→r.aq[j]? =some h→EF r h
def oy (l:aX) (h:List aw) (k:Nat):Prop:= ∀ (j:Nat) d,j<k→h[j]? =some d→gV l d
section
variable {r:bY} {i:Nat}
theorem DR:rW r 0:=fun j hj=>absurd hj (Nat.not_lt_zero _)
theorem yb {x:Int} (h:rW r i) (hd:(dB r.bK)[i]? =some x) (e:x=(i:Int)) (hs: ∀ x y,r.aM[i]? =some x→0<i→r.aM[i-1]? =some y→y<x):rW r (i+1):=fun j hj=>by
 rcases Nat.lt_or_ge j i with q|q
 ·exact h j q
 ·obtain rfl:j=i:=by omega
  exact ⟨fun y hy=>by rw [hd] at hy; cases hy; exact e,hs⟩
theorem yv:ks r 0:=fun j h hj=>absurd hj (Nat.not_lt_zero _)
theorem yr {h:List aw} (hh:ks r i) (hx:r.aq[i]? =some h) (ho:EF r h):ks r (i+1):=fun j y hj hy=>by
 rcases Nat.lt_or_ge j i with q|q
 ·exact hh j y q hy
 ·obtain rfl:j=i:=by omega
  rw [hx] at hy; cases hy; exact ho
theorem vY {l:aX} {h:List aw}:oy l h 0:=fun j d hj=>absurd hj (Nat.not_lt_zero _)
theorem vy {l:aX} {h:List aw} {d:aw} (ht:oy l h i) (hx:h[i]? =some d) (ho:gV l d):oy l h (i+1):=fun j y hj hy=>by
 rcases Nat.lt_or_ge j i with q|q
 ·exact ht j y q hy
 ·obtain rfl:j=i:=by omega
  rw [hx] at hy; cases hy; exact ho
theorem GL {h:List aw} (hl:h.length=r.aM.length) (ht:oy r.an h i) (hi:h.length≤i):EF r h:=⟨hl,fun d hd=>by
 obtain ⟨j,hj⟩:=List.getElem?_of_mem hd
 exact ht j d (by have:=(aY.1 hj).1; omega) hj⟩
theorem K_ {n:Nat} (hn:n=r.aM.length) (h1:1≤(r.aM.length:Int)∧(r.aM.length:Int)≤5) (h2:r.bK.length=r.aM.length) (h3:0≤r.gX∧r.gX≤5) (h4:1≤(r.aq.length:Int)∧(r.aq.length:Int)≤3) (h5:qi 0 9999 r.aM=true)
 (h6:rW r n) (h7:ks r i) (hi:r.aq.length≤i):fj r:=by
 subst hn
 refine ⟨h1,h3,h4,fun k x hx=>⟨zI.1 h5 x (aT hx),fun y hk hy=>?_⟩,HC h2 fun j hj=>(h6 j hj).1,fun h hh=>?_⟩
 ·exact (h6 k (aY.1 hx).1).2 x y hx hk hy
 ·obtain ⟨j,hj⟩:=List.getElem?_of_mem hh
  exact h7 j h (by have:=(aY.1 hj).1; omega) hj
theorem fj.yI (h:fj r):r.bK.length=r.aM.length:=by have:=h.draw.length_eq; simpa using this
theorem fj.ins (h:fj r):qi 0 9999 r.aM=true:=zI.2 fun x hx=>by
 obtain ⟨j,hj⟩:=List.getElem?_of_mem hx
 exact (h.ids j x hj).1
theorem fj.drawn (h:fj r) {x:Int} (hx:(dB r.bK)[i]? =some x):x=(i:Int):=by
 rw [vN h.draw] at hx
 have hi:=(aY.1 hx).1
 simp at hi
 rw [fB,List.getElem?_range hi] at hx
 exact (Option.some.inj hx).symm
theorem fj.Ap (h:fj r):ks r i:=fun j x _ hx=>h.m8 x (aT hx)
theorem zM (h: ¬ dD r.an=0):cM r=dD r.an:=if_neg h
theorem kN (h:dD r.an=0) (hn: ¬ fj r):cM r=60:=by unfold cM; rw [if_pos h,if_neg hn]
theorem Cz (h:dD r.an=0) (hn:fj r):cM r=0:=by unfold cM; rw [if_pos h,if_pos hn]
theorem ig (h:cM r=0):dD r.an=0∧fj r:=by
 unfold cM at h
 split at h
 ·split at h
  ·exact ⟨asm,asm⟩
  ·cases h
 ·exact absurd h asm
end
section
variable {r:bY} {k i n h:Nat} {s:aa} {l:aX} {hs:List (List aw)}
theorem Ag: ∀ {k:Nat} {s:aa},ks r k→k≤r.aq.length→fI r.an r.aq i k=some s→0≤s.Lo∧s.Lo≤s.Hi∧s.Hi≤8640000*(k:Int)
 |0,s,_,_,h=>by
  simp only [fI,Option.some.injEq] at h
  subst h; simp
 |k+1,s,hh,hk,h=>by
  unfold fI at h
  split at h
  ·rename_i u d hu hd
   split at h
   ·cases h
   ·cases h
    have A:=Ag (fun j x hj hx=>hh j x I hx) I hu
    obtain ⟨x,hx,hd⟩:=Option.bind_eq_some_iff.1 hd
    have B:=AW ((hh k x I hx).2 d (aT hd))
    simp only
    push_cast
    omega
  ·cases h
theorem Oq:e8 (eE l hs i 0 0) (i:Int) ⟨0,0⟩=eE l hs (i+1) 0 0:=by
 have A:(eE l hs i 0 0).lookup (i:Int)=none:=by rw [xd,if_neg (Nat.lt_irrefl i)]
 unfold e8
 rw [A]
 simp only [Option.isSome_none,Bool.false_eq_true,if_false]
 unfold eE
 rw [List.range_succ,List.filterMap_append]
 simp [fI]
theorem LB (hi:i<n):(eE l hs n h i).lookup (i:Int)=fI l hs i h:=by rw [xd,if_pos hi,if_neg (Nat.lt_irrefl i)]
theorem IG {α β:Type} {f:α→β} {tr:List β} {ht:List α} {x:β} {d:α} (e:tr=ht.map f) (hx:tr[i]? =some x) (hd:ht[i]? =some d):x=f d:=by
 rw [e,fB,hd] at hx
 exact (Option.some.inj hx).symm
theorem N0:eE r.an r.aq r.aM.length h 0=eP r h:=C7
end
end
section
def wb (key:Int→Int) (l:List Int) (x:Int):List Int:=l.takeWhile (fun y=>decide (key y≤key x))++x::l.dropWhile (fun y=>decide (key y≤key x))
def eK (key:Int→Int) (l:List Int):List Int:=l.foldl (wb key) []
def Fp (key:Int→Int) (l:List Int):Prop:=l.Pairwise fun a b=>key a≤key b
section
variable {key:Int→Int} {l A B D:List Int} {x u v:Int} {i j:Nat}
theorem Hg:(wb key l x).Perm (x::l):=by
 unfold wb
 refine List.perm_middle.trans ?_
 rw [List.takeWhile_append_dropWhile]
theorem Pe (hA: ∀ y∈A,key y≤key x) (hB: ∀ y∈B,key x<key y):(A++B).takeWhile (fun y=>decide (key y≤key x))=A∧(A++B).dropWhile (fun y=>decide (key y≤key x))=B:=by
 induction A with
 |nil=>
  cases B with
  |nil=>simp
  |cons b B=>
   have h:=hB b cq
   have:decide (key b≤key x)=false:=ct I
   rw [List.nil_append,List.takeWhile_cons,List.dropWhile_cons,this]
   exact ⟨U,U⟩
 |cons a A ih=>
  have h:=ih fun y hy=>hA y (cV _ hy)
  have:decide (key a≤key x)=true:=gf (hA a cq)
  simp only [List.cons_append,List.takeWhile,List.dropWhile,this]
  exact ⟨by rw [h.1],h.2⟩
theorem xH (hA: ∀ y∈A,key y≤key x) (hB: ∀ y∈B,key x<key y):wb key (A++B) x=A++x::B:=by
 unfold wb
 rw [(Pe hA hB).1,(Pe hA hB).2]
theorem B1 (x:Int): ∀ {l:List Int},Fp key l→ ∃ A B,l=A++B∧(∀ y∈A,key y≤key x)∧ ∀ y∈B,key x<key y
 |[],_=>⟨[],[],rfl,(fun y h=>by cases h),fun y h=>by cases h⟩
 |a::l,h=>by
  unfold Fp at h
  rw [List.pairwise_cons] at h
  by_cases c:key a≤key x
  ·obtain ⟨A,B,e,hA,hB⟩:=B1 x (l:=l) h.2
   refine ⟨a::A,B,by rw [e]; rfl,fun y hy=>?_,hB⟩
   rcases bu.1 hy with rfl|hy
   ·exact c
   ·exact hA y hy
  ·refine ⟨[],a::l,rfl,fun y hy=>(by cases hy),fun y hy=>?_⟩
   rcases bu.1 hy with rfl|hy
   ·omega
   ·have:=h.1 y hy; omega
theorem NN (h:Fp key l):Fp key (wb key l x):=by
 obtain ⟨A,B,rfl,hA,hB⟩:=B1 x h
 rw [xH hA hB]
 unfold Fp at h ⊢
 rw [List.pairwise_append] at h ⊢
 refine ⟨h.1,List.pairwise_cons.2 ⟨fun y hy=>by have:=hB y hy; omega,h.2.1⟩,fun y hy z hz=>?_⟩
 rcases bu.1 hz with rfl|hz
 ·exact hA y hy
 ·exact h.2.2 y hy z hz
theorem BK:eK key (l++[x])=wb key (eK key l) x:=by unfold eK; rw [List.foldl_append]; rfl
theorem C8 (h:l[i]? =some x):eK key (l.take (i+1))=wb key (eK key (l.take i)) x:=by rw [l8 h,BK]
theorem wU: ∀ {l m:List Int},(l.foldl (wb key) m).Perm (m++l)
 |[],m=>by simp
 |x::l,m=>(wU (l:=l) (m:=wb key m x)).trans (((Hg).append_right l).trans (by
  rw [List.cons_append]
  exact List.perm_middle.symm))
theorem qx:(eK key l).Perm l:=by simpa [eK] using wU (key:=key) (l:=l) (m:=[])
theorem DA: ∀ {l m:List Int},Fp key m→Fp key (l.foldl (wb key) m)
 |[],m,h=>h
 |x::l,m,h=>DA (l:=l) (NN h)
theorem uV:Fp key (eK key l):=DA List.Pairwise.nil
theorem kM:(eK key l).length=l.length:=qx.length_eq
def BO (key:Int→Int) (l:List Int) (i j:Nat) (D:List Int):Prop:= ∃ A B x,l[i]? =some x∧A.length=j∧eK key (l.take i)=A++B∧(∀ y∈B,key x<key y)∧D=A++x::(B++l.drop (i+1))
def ur (key:Int→Int) (l:List Int) (i:Nat) (D:List Int):Prop:=D=eK key (l.take i)++l.drop i
theorem IZ (h:0<l.length):ur key l 1 l:=by
 cases l with
 |nil=>simp at h
 |cons a l=>simp [ur,eK,wb]
theorem Kn (hi:l.length≤i) (h:ur key l i D):D=eK key l:=by
 subst h; rw [List.take_of_length_le hi,List.drop_of_length_le hi,List.append_nil]
theorem Fg (hi:i<l.length) (h:ur key l i D):BO key l i i D:=by
 have hx:l[i]? =some l[i]:=fc hi
 refine ⟨eK key (l.take i),[],l[i],hx,by rw [kM,List.length_take]; omega,sm,fun y hy=>(by cases hy),?_⟩
 rw [h,List.nil_append,List.drop_eq_getElem_cons hi]
theorem wK: ∀ {A:List Int},0<A.length→ ∃ A' y,A=A'++[y]:=fun {A} h=>⟨A.dropLast,A.getLast (by intro e; subst e; simp at h),(List.dropLast_concat_getLast _).symm⟩
theorem G4 (hj:0<j) (h:BO key l i j D) (hu:D[j]? =some u) (hv:D[j-1]? =some v) (hlt:key u<key v):BO key l i (j-1) ((D.set j v).set (j-1) u):=by
 obtain ⟨A,B,x,hx,hl,he,hB,rfl⟩:=h
 obtain ⟨A',y,rfl⟩:=wK (A:=A) I
 simp only [List.length_append,List.length_cons,List.length_nil] at hl
 subst hl
 have C:(A'++[y]++x::(B++l.drop (i+1)))=A'++y::x::(B++l.drop (i+1)):=by simp
 rw [C] at hu hv ⊢
 rw [List.getElem?_append_right I,show A'.length+(0+1)-A'.length=1 by omega] at hu
 rw [show A'.length+(0+1)-1=A'.length by omega,List.getElem?_append_right (Nat.le_refl _),Nat.sub_self] at hv
 simp at hu hv
 subst hu hv
 refine ⟨A',y::B,x,hx,I,by rw [he]; simp,fun z hz=>?_,?_⟩
 ·rcases bu.1 hz with rfl|hz
  ·exact hlt
  ·exact hB z hz
 ·rw [show A'.length+(0+1)-1=A'.length by omega,List.set_append_right _ _ I,List.set_append_right _ _ (Nat.le_refl _),show A'.length+(0+1)-A'.length=1 by omega,Nat.sub_self]
  simp
theorem yS (h:BO key l i j D) (hc: ∀ A,A.length=j→(∃ C,D=A++C)→Fp key A→ ∀ x,l[i]? =some x→D[j]? =some x→ ∀ y∈A,key y≤key x):ur key l (i+1) D:=by
 obtain ⟨A,B,x,hx,hl,he,hB,rfl⟩:=h
 unfold ur
 have E:Fp key (A++B):=he▸uV
 rw [C8 hx,he,xH (hc A hl ⟨_,rfl⟩ (by unfold Fp at E ⊢; rw [List.pairwise_append] at E; exact E.1) x hx (by rw [List.getElem?_append_right I,← hl]; simp)) hB]
 simp
theorem zL (hj: ¬ 0<j) (h:BO key l i j D):ur key l (i+1) D:=yS h fun A hl _ _ x _ _ y hy=>by
 have:A=[]:=jX I
 subst this; cases hy
theorem zV (hj:0<j) (h:BO key l i j D) (hu:D[j]? =some u) (hv:D[j-1]? =some v) (hlt: ¬ key u<key v):ur key l (i+1) D:=yS h fun A hl hC hA x hx hd y hy=>by
 obtain ⟨C,hC⟩:=hC
 obtain ⟨A',z,rfl⟩:=wK (A:=A) I
 simp only [List.length_append,List.length_cons,List.length_nil] at hl
 rw [hd] at hu; cases hu
 have e:D[j-1]? =some z:=by
  rw [hC,List.append_assoc,List.getElem?_append_right I,show j-1-A'.length=0 by omega]; simp
 rw [e] at hv; cases hv
 unfold Fp at hA
 rw [List.pairwise_append] at hA
 rcases dM.1 hy with hy|hy
 ·have:=hA.2.2 y hy v sm; omega
 ·rw [bH] at hy; subst hy; omega
end
end
section
def sv (k:Nat) (l:List Int):List Int:=(l.take k).reverse++l.drop k
def HJ (l:List Int) (k i:Nat) (D:List Int):Prop:=D.length=l.length∧ ∀ p,p<l.length→D[p]? =l[if p<k∧(p<i∨k≤p+i) then k-1-p else p]?
section
variable {l D:List Int} {k i j:Nat} {u v:Int}
theorem kl:(sv k l).length=l.length:=by unfold sv; rw [List.length_append,List.length_reverse,List.length_take,List.length_drop]; omega
theorem MP:HJ l k 0 l:=⟨rfl,fun p hp=>by rw [if_neg I]⟩
theorem Jk (hk:k≤l.length) (hij:i<j) (hj:j+i+1=k) (h:HJ l k i D) (hu:D[i]? =some u) (hv:D[j]? =some v):HJ l k (i+1) ((D.set i v).set j u):=by
 refine ⟨by rw [List.length_set,List.length_set]; exact h.1,fun p hp=>?_⟩
 have hl:=h.1
 have hi:=h.2 i I
 have A:=h.2 j I
 rw [hu,if_neg I] at hi
 rw [hv,if_neg I] at A
 by_cases B:p=j
 ·subst B
  rw [List.getElem?_set_self (by rw [List.length_set]; omega),if_pos I,show k-1-p=i by omega,hi]
 ·rw [List.getElem?_set_ne (fun e=>B e.symm)]
  by_cases C:p=i
  ·subst C
   rw [List.getElem?_set_self I,if_pos I,show k-1-p=j by omega,A]
  ·rw [List.getElem?_set_ne (fun e=>C e.symm),h.2 p hp]
   by_cases c:p<k∧(p<i∨k≤p+i)
   ·rw [if_pos c,if_pos I]
   ·rw [if_neg c,if_neg I]
theorem Ou (hk:k≤l.length) (hi:k≤2*i+1) (h:HJ l k i D):D=sv k l:=by
 apply List.ext_getElem?
 intro p
 by_cases hp:p<l.length
 ·rw [h.2 p hp]
  unfold sv
  by_cases c:p<k
  ·rw [List.getElem?_append_left (by rw [List.length_reverse,List.length_take]; omega),List.getElem?_reverse (by rw [List.length_take]; omega),List.length_take,Nat.min_eq_left hk,List.getElem?_take]
   rw [if_pos (show k-1-p<k by omega)]
   by_cases A:p<k∧(p<i∨k≤p+i)
   ·rw [if_pos A]
   ·rw [if_neg A,show k-1-p=p by omega]
  ·rw [if_neg I,List.getElem?_append_right (by rw [List.length_reverse,List.length_take]; omega),List.length_reverse,List.length_take,Nat.min_eq_left hk,List.getElem?_drop,show k+(p-k)=p by omega]
 ·rw [List.getElem?_eq_none (by rw [h.1]; omega),List.getElem?_eq_none (by rw [kl]; omega)]
end
end
end Go.Proofs.YtlajhejcfcoddaaGreatDoor
