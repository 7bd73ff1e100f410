/-
 The statement juryMore_said, part 4 of 8: Short, Grow, Global, RunA, Tab, Run, Comp, Ret, LoopK, MapK, Watch, Passes, Keys, MapR, RangeG, Nest, WMaps, WBounds, PassG, Drop, Spot, First, Line, Wrap, Goes, OpenW, Wheres, LineR, Race, RaceS, Vals, RaceO, RaceV, Jury, JHits, JMore.
 Conditions: none.
-/
import Derived.Test.YtijpnoadncadoaaGreatDoorTv1
import Derived.Test.YtijpnoadncadoaaGreatDoorTv2
import Derived.Test.YtijpnoadncadoaaGreatDoorTv3
import Derived.Test.YtijpnoadncadoaaGreatDoorProg
import Derived.KernelRfl
import Derived.WideKeyRuns
namespace Go.Proofs.YtijpnoadncadoaaGreatDoor
set_option maxRecDepth 100000
set_option maxHeartbeats 4000000
set_option linter.unusedVariables false
section
open Go.RowKit
/-- an operation that hands v to its slot d -/
structure SE (E:fB) (ops:Array Oper) (o:Oper) (D:ib) (L:dD) (C:List aB) (v:Value) (d:Nat):Prop where
 h:SD E ops o D L C v
 o:o.dst=some d
 n:Nat.blt d E.n=true
theorem rS {E:fB} {ops:Array Oper} {Q:dk} {o:Oper} {rest:List Oper} {D:ib} {L:dD} {C:List aB} {v:Value} {d:Nat}
 (h:SE E ops o D L C v d) (k:RJ E ops Q rest D ((d,v)::L) C):RJ E ops Q (o::rest) D L C:=Ts h.h h.o h.n k
theorem dS {E:fB} {ops:Array Oper} {F:dD→Prop} {o:Oper} {rest:List Oper} {D:ib} {L:dD} {C:List aB} {v:Value} {d:Nat}
 (h:SE E ops o D L C v d) (k:DJ E ops D C F rest ((d,v)::L)):DJ E ops D C F (o::rest) L:=Su h.h h.o h.n k
theorem eS {E:fB} {ops:Array Oper} {D:ib} {C' C1:List aB} {F:dD→Prop} {bs:List Bool} {o:Oper} {l rest:List Oper} {L:dD} {v:Value} {d:Nat}
 (hl:l=o::rest) (h:SE E ops o D L C' v d) (k:qx E ops D C' C1 F bs rest ((d,v)::L)):qx E ops D C' C1 F (false::bs) l L:=SA h.h hl h.o h.n k
theorem fS {E:fB} {ops:Array Oper} {D:ib} {C' C1:List aB} {F:dD→Prop} {bs:List Bool} {o:Oper} {l rest:List Oper} {L:dD} {v:Value} {d:Nat}
 (hl:l=o::rest) (h:SE E ops o D L C1 v d) (k:qx E ops D C' C1 F bs rest ((d,v)::L)):qx E ops D C' C1 F (true::bs) l L:=Tn h.h hl h.o h.n k
def gB (n:Nat) (ops:Array Oper) (L:dD) (d:Nat) (g:Option (Nat×Bool)):Bool:=kl ops L g&&Nat.blt d n
theorem Ob {n:Nat} {ops:Array Oper} {L:dD} {d:Nat} {g:Option (Nat×Bool)} (h:gB n ops L d g=true):kl ops L g=true:=by
 unfold gB at h; rw [dg] at h; exact h.1
theorem N5 {n:Nat} {ops:Array Oper} {L:dD} {d:Nat} {g:Option (Nat×Bool)} (h:gB n ops L d g=true):Nat.blt d n=true:=by
 unfold gB at h; rw [dg] at h; exact h.2
def vF (n:Nat) (ops:Array Oper) (L:dD) (d:Nat) (g:Option (Nat×Bool)) (x:Operand):Option Value:=match gB n ops L d g with
 |true=>ev L x
 |false=>none
def bF (n:Nat) (ops:Array Oper) (L:dD) (d:Nat) (g:Option (Nat×Bool)) (x y:Operand):Option (Value×Value):=match gB n ops L d g with
 |true=>match ev L x,ev L y with
  |some u,some v=>some (u,v)
  |_,_=>none
 |false=>none
def pF (n:Nat) (ops:Array Oper) (L:dD) (d:Nat) (g:Option (Nat×Bool)) (c x y:Operand):Option Value:=match gB n ops L d g with
 |true=>match ev L c with
  |some (.bool true)=>ev L x
  |some (.bool false)=>ev L y
  |_=>none
 |false=>none
def xF (n:Nat) (ops:Array Oper) (L:dD) (d:Nat) (g:Option (Nat×Bool)) (x:Operand) (i:Nat):Option Value:=match vF n ops L d g x with
 |some (.tuple vs)=>vs.toList[i]?
 |_=>none
def uF (n:Nat) (ops:Array Oper) (L:dD) (d:Nat) (g:Option (Nat×Bool)) (xs ys:List Operand):Option (List Value×List Value):=match gB n ops L d g with
 |true=>match evs L xs,evs L ys with
  |some u,some v=>some (u,v)
  |_,_=>none
 |false=>none
def cF (n:Nat) (ops:Array Oper) (L:dD) (d:Nat) (g:Option (Nat×Bool)) (fop:Operand) (xs:List Operand):Option (FuncId×List Value):=match gB n ops L d g with
 |true=>match ev L fop,evs L xs with
  |some (.func (.func f) fi ca),some vs=>some (f,fi.toList++vs++ca.toList)
  |_,_=>none
 |false=>none
theorem jG {n:Nat} {ops:Array Oper} {L:dD} {d:Nat} {g:Option (Nat×Bool)} {x:Operand} {v:Value} (h:vF n ops L d g x=some v):kl ops L g=true∧Nat.blt d n=true∧ev L x=some v:=by
 unfold vF at h
 split at h
 ·rename_i hb; exact ⟨Ob hb,N5 hb,h⟩
 ·cases h
theorem uL {n:Nat} {ops:Array Oper} {L:dD} {d:Nat} {g:Option (Nat×Bool)} {x y:Operand} {u v:Value} (h:bF n ops L d g x y=some (u,v)):kl ops L g=true∧Nat.blt d n=true∧ev L x=some u∧ev L y=some v:=by
 unfold bF at h
 split at h
 ·rename_i hb
  split at h
  ·rename_i hx hy; cases h; exact ⟨Ob hb,N5 hb,hx,hy⟩
  ·cases h
 ·cases h
theorem OV {n:Nat} {ops:Array Oper} {L:dD} {d:Nat} {g:Option (Nat×Bool)} {x y:List Operand} {u v:List Value} (h:uF n ops L d g x y=some (u,v)):kl ops L g=true∧Nat.blt d n=true∧evs L x=some u∧evs L y=some v:=by
 unfold uF at h
 split at h
 ·rename_i hb
  split at h
  ·rename_i hx hy; cases h; exact ⟨Ob hb,N5 hb,hx,hy⟩
  ·cases h
 ·cases h
section
variable {E:fB} {ops:Array Oper} {Q:dk} {rest:List Oper} {D:List Deferred} {L:List (Nat×Value)} {C:List aB}
variable {d:Nat} {ty:TypeId} {ps:String} {af:Array Edge} {g:Option (Nat×Bool)}
theorem SX {o:Oper} {v:Value} (h:SD E ops o D L C v) (ho:o.dst=some d) (hd:Nat.blt d E.n=true):SE E ops o D L C v d:=⟨h,ho,hd⟩
theorem MV {x:Operand} {v:Value} (h:vF E.n ops L d g x=some v):SE E ops ⟨some d,.move x,ty,ps,af,g⟩ D L C v d:=by
 obtain ⟨A,B,F⟩:=jG h; exact ⟨FJ A F,rfl,B⟩
theorem AG {x:Operand} {v:Value} (h:vF E.n ops L d g x=some v):SE E ops ⟨some d,.assign x,ty,ps,af,g⟩ D L C v d:=by
 obtain ⟨A,B,F⟩:=jG h; exact ⟨zr A F,rfl,B⟩
theorem OX {op:Op} (h:(CW ops L g&&Nat.blt d E.n)=true):SE E ops ⟨some d,op,ty,ps,af,g⟩ D L C undef d:=by
 rw [dg] at h; exact ⟨Iz h.1,rfl,h.2⟩
theorem NT {xt:TypeId} {x:Operand} {b:Bool} (h:vF E.n ops L d g x=some (.bool b)):SE E ops ⟨some d,.unOp .not xt x,ty,ps,af,g⟩ D L C (.bool !b) d:=by
 obtain ⟨A,B,F⟩:=jG h; exact ⟨Jf A F,rfl,B⟩
theorem NG {xt:TypeId} {x:Operand} {n:Int} (h:vF E.n ops L d g x=some (.int .i64 n)) (hb:qR (-n)):SE E ops ⟨some d,.unOp .neg xt x,ty,ps,af,g⟩ D L C (.int .i64 (-n)) d:=by
 obtain ⟨A,B,F⟩:=jG h; exact ⟨Qe A F hb,rfl,B⟩
theorem PK {c x y:Operand} {v:Value} (h:pF E.n ops L d g c x y=some v):SE E ops ⟨some d,.pick c x y,ty,ps,af,g⟩ D L C v d:=by
 unfold pF at h
 split at h
 ·rename_i hb
  split at h
  ·rename_i hc; exact ⟨yN (Ob hb) hc h,rfl,N5 hb⟩
  ·rename_i hc; exact ⟨zq (Ob hb) hc h,rfl,N5 hb⟩
  ·cases h
 ·cases h
theorem EX {x:Operand} {i:Nat} {v:Value} (h:xF E.n ops L d g x i=some v):SE E ops ⟨some d,.extract x i,ty,ps,af,g⟩ D L C v d:=by
 unfold xF at h
 split at h
 ·rename_i vs hv
  obtain ⟨A,B,F⟩:=jG hv
  exact ⟨wX (vs:=vs.toList) A (by simpa using F) h,U,B⟩
 ·cases h
theorem LN {x:Operand} {t e:TypeId} {A:OA} {n c:Nat} (h:vF E.n ops L d g x=some (.slice A n c)) (ht:E.P.underlying t=some (.slice e)):
 SE E ops ⟨some d,.call {callee:= .builtin .len,args:= #[x],argTypes:= #[t]},ty,ps,af,g⟩ D L C (.int .i64 n) d:=by
 obtain ⟨B,F,G⟩:=jG h; exact ⟨J1 B G ht,rfl,F⟩
theorem BI {op:BinOp} {xt yt:TypeId} {x y:Operand} {u v r:Value} (h:bF E.n ops L d g x y=some (u,v)) (hb:iW E.P op xt x y u v r):SE E ops ⟨some d,.binOp op xt x y yt,ty,ps,af,g⟩ D L C r d:=by
 obtain ⟨A,B,F,G⟩:=uL h; exact ⟨eu A F G hb,rfl,B⟩
theorem MN {x y:Operand} {ts:Array TypeId} {a b:Int} {k:IntKind} (h:bF E.n ops L d g x y=some (.int k a,.int k b)):
 SE E ops ⟨some d,.call {callee:= .builtin .min,args:= #[x,y],argTypes:=ts},ty,ps,af,g⟩ D L C (.int k (min a b)) d:=by
 obtain ⟨A,B,F,G⟩:=uL h; exact ⟨O_ A F G,rfl,B⟩
theorem MX {x y:Operand} {ts:Array TypeId} {a b:Int} {k:IntKind} (h:bF E.n ops L d g x y=some (.int k a,.int k b)):
 SE E ops ⟨some d,.call {callee:= .builtin .max,args:= #[x,y],argTypes:=ts},ty,ps,af,g⟩ D L C (.int k (max a b)) d:=by
 obtain ⟨A,B,F,G⟩:=uL h; exact ⟨OQ A F G,rfl,B⟩
theorem FA (o':Nat) {x:Operand} {b o s f k:Nat} (h:vF E.n ops L d g x=some (.pointer (some ⟨b,o,none⟩))) (hf:uB E.P s f=some k) (ho:o+k=o'):
 SE E ops ⟨some d,.fieldAddr s x f,ty,ps,af,g⟩ D L C (.pointer (some ⟨b,o',none⟩)) d:=by
 obtain ⟨A,B,F⟩:=jG h; exact ⟨N2 A F hf ho,rfl,B⟩
theorem o1 (k':Nat) {x:Operand} {A:OA} {n sz:Nat} {es:List (List Value)} {k0 s f k:Nat} (h:vF E.n ops L d g x=some (.pointer (rh A k0))) (hR:iH C (rd A n sz es).holds) (hn:0<n*sz)
 (hf:uB E.P s f=some k) (ho:k0+k=k'):SE E ops ⟨some d,.fieldAddr s x f,ty,ps,af,g⟩ D L C (.pointer (rh A k')) d:=by
 obtain ⟨B,F,G⟩:=jG h; exact ⟨KA B G hR hn hf ho,rfl,F⟩
theorem IA (k:Nat) {x ix:Operand} {A:OA} {n c sz e t:Nat} {es:List (List Value)} {j:Int} (h:bF E.n ops L d g x ix=some (.slice A n c,.int .i64 j)) (hR:iH C (rd A n sz es).holds)
 (ht:tE E.P t=some (e,sz)) (hz:0<sz) (hj:j=(k:Int)) (hk:k<n):SE E ops ⟨some d,.indexAddr t x ix,ty,ps,af,g⟩ D L C (.pointer (rh A (k*sz))) d:=by
 obtain ⟨B,F,G,H⟩:=uL h; exact ⟨Se B G H hR ht hz hj hk,rfl,F⟩
theorem TB (k o':Nat) {x ix:Operand} {b o n c sz e t:Nat} {j:Int} (h:bF E.n ops L d g x ix=some (.slice (some ⟨b,o,none⟩) n c,.int .i64 j))
 (ht:tE E.P t=some (e,sz)) (hj:j=(k:Int)) (hk:k<n) (ho:o+k*sz=o'):SE E ops ⟨some d,.indexAddr t x ix,ty,ps,af,g⟩ D L C (.pointer (some ⟨b,o',none⟩)) d:=by
 obtain ⟨A,B,F,G⟩:=uL h; exact ⟨Ni A F G ht hj hk ho,rfl,B⟩
/-- the whole of a block, a part of it, one cell -/
theorem LW (i:Nat) {x:Operand} {b t tt n:Nat} {cs:List Value} (h:vF E.n ops L d g x=some (.pointer (some ⟨b,0,none⟩))) (ht:tK E.P t=some (true,n)) (hC:C[i]? =some (cx b tt cs)) (hn:cs.length=n):
 SE E ops ⟨some d,.load t x,ty,ps,af,g⟩ D L C (.agg cs.toArray) d:=by
 obtain ⟨A,B,F⟩:=jG h; exact ⟨x7 A F ht (pI i hC sm) hn,rfl,B⟩
theorem LP (vs:List Value) (i:Nat) {x:Operand} {b o t tt n:Nat} {cs:List Value} (h:vF E.n ops L d g x=some (.pointer (some ⟨b,o,none⟩))) (ht:tK E.P t=some (true,n)) (hC:C[i]? =some (cx b tt cs)) (hv:(cs.drop o).take vs.length=vs) (hn:vs.length=n):
 SE E ops ⟨some d,.load t x,ty,ps,af,g⟩ D L C (.agg vs.toArray) d:=by
 obtain ⟨A,B,F⟩:=jG h; exact ⟨x7 A F ht (pI i hC hv) hn,rfl,B⟩
theorem VZ (vs:List Value) (i:Nat) {x:Operand} {b o t tt n:Nat} {cs:List Value} (h:vF E.n ops L d g x=some (.pointer (some ⟨b,o,none⟩))) (ht:tK E.P t=some (true,n)) (hC:C[i]? =some (cx b tt cs).ro) (hv:(cs.drop o).take vs.length=vs) (hn:vs.length=n):
 SE E ops ⟨some d,.load t x,ty,ps,af,g⟩ D L C (.agg vs.toArray) d:=by
 obtain ⟨A,B,F⟩:=jG h; exact ⟨x7 A F ht (wk i hC hv) hn,rfl,B⟩
theorem L1 (v:Value) (i:Nat) {x:Operand} {b o t tt n:Nat} {cs:List Value} (h:vF E.n ops L d g x=some (.pointer (some ⟨b,o,none⟩))) (ht:tK E.P t=some (false,n)) (hC:C[i]? =some (cx b tt cs)) (hv:(cs.drop o).take 1=[v]):
 SE E ops ⟨some d,.load t x,ty,ps,af,g⟩ D L C v d:=by
 obtain ⟨A,B,F⟩:=jG h; exact ⟨uQ A F ht (pI i hC hv),rfl,B⟩
theorem Kv (v:Value) (i:Nat) {x:Operand} {b o t tt n:Nat} {cs:List Value} (h:vF E.n ops L d g x=some (.pointer (some ⟨b,o,none⟩))) (ht:tK E.P t=some (false,n)) (hC:C[i]? =some (cx b tt cs).ro) (hv:(cs.drop o).take 1=[v]):
 SE E ops ⟨some d,.load t x,ty,ps,af,g⟩ D L C v d:=by
 obtain ⟨A,B,F⟩:=jG h; exact ⟨uQ A F ht (wk i hC hv),rfl,B⟩
theorem Ef (i:Nat) {x:Operand} {b t tt n:Nat} {v:Value} (h:vF E.n ops L d g x=some (.pointer (some ⟨b,0,none⟩))) (ht:tK E.P t=some (false,n)) (hC:C[i]? =some (cx b tt [v])):
 SE E ops ⟨some d,.load t x,ty,ps,af,g⟩ D L C v d:=by
 obtain ⟨A,B,F⟩:=jG h; exact ⟨uQ A F ht (pI i hC rfl),rfl,B⟩
theorem VL (i:Nat) {x:Operand} {b t tt n:Nat} {v:Value} (h:vF E.n ops L d g x=some (.pointer (some ⟨b,0,none⟩))) (ht:tK E.P t=some (false,n)) (hC:C[i]? =some (cx b tt [v]).ro):
 SE E ops ⟨some d,.load t x,ty,ps,af,g⟩ D L C v d:=by
 obtain ⟨A,B,F⟩:=jG h; exact ⟨uQ A F ht (wk i hC rfl),rfl,B⟩
/-- what is read of a row -/
theorem gQ (k o:Nat) (v:Value) {x:Operand} {A:OA} {t m n sz:Nat} {es:List (List Value)} {e:List Value} (h:vF E.n ops L d g x=some (.pointer (rh A m))) {nn:Nat} (ht:tK E.P t=some (false,nn)) (hR:iH C (rd A n sz es).holds) (he:es[k]? =some e) (hm:m=k*sz+o) (hz:0<sz) (hv:(e.drop o).take 1=[v]):
 SE E ops ⟨some d,.load t x,ty,ps,af,g⟩ D L C v d:=by
 obtain ⟨B,F,G⟩:=jG h; exact ⟨uQ B G ht (Of hR he hm hz hv),rfl,F⟩
theorem lS (k o:Nat) (vs:List Value) {x:Operand} {A:OA} {t m n sz:Nat} {es:List (List Value)} {e:List Value} (h:vF E.n ops L d g x=some (.pointer (rh A m))) {nn:Nat} (ht:tK E.P t=some (true,nn)) (hR:iH C (rd A n sz es).holds) (he:es[k]? =some e) (hm:m=k*sz+o) (hz:0<sz) (hv:(e.drop o).take vs.length=vs) (hn:vs.length=nn):
 SE E ops ⟨some d,.load t x,ty,ps,af,g⟩ D L C (.agg vs.toArray) d:=by
 obtain ⟨B,F,G⟩:=jG h; exact ⟨x7 B G ht (Of hR he hm hz hv) hn,rfl,F⟩
theorem CL {fop:Operand} {xs:Array Operand} {ts:Array TypeId} {f:FuncId} {args:List Value} {Cp:List aB} {v:Value} (c:dK E.P f args Cp v) (hC:kE C Cp) (h:cF E.n ops L d g fop xs.toList=some (f,args)):
 SE E ops ⟨some d,.call {callee:= .value fop,args:=xs,argTypes:=ts},ty,ps,af,g⟩ D L C v d:=by
 unfold cF at h
 split at h
 ·rename_i hb
  split at h
  ·rename_i hf hx; cases h; exact ⟨Ff (Ob hb) hf hx rfl c hC,rfl,N5 hb⟩
  ·cases h
 ·cases h
theorem FU {fn:Fn} {xs ys:Array Operand} {us vs:List Value} (h:uF E.n ops L d g xs.toList ys.toList=some (us,vs)):SE E ops ⟨some d,.makeFunc fn xs ys,ty,ps,af,g⟩ D L C (.func fn us.toArray vs.toArray) d:=by
 obtain ⟨A,B,F,G⟩:=OV h; exact ⟨Lu A F G,rfl,B⟩
theorem cX {fop:Operand} {xs:Array Operand} {ts:Array TypeId} {f:FuncId} {args:List Value} {Cp:List aB} {α:Type} {V:α→Value} {p:α→Prop} {N:α→List aB} (c:p9 E.P f args Cp V p N) (hC:kE C Cp)
 (h:cF E.n ops L d g fop xs.toList=some (f,args)) (k: ∀ x,p x→RJ E ops Q rest D ((d,V x)::L) (N x++C)):
 RJ E ops Q (⟨some d,.call {callee:= .value fop,args:=xs,argTypes:=ts},ty,ps,af,g⟩::rest) D L C:=by
 unfold cF at h
 split at h
 ·rename_i hb
  split at h
  ·rename_i hf hx; cases h; exact PD (Ob hb) hf hx rfl c hC (N5 hb) k
  ·cases h
 ·cases h
/-- a box of a struct, of one cell -/
theorem eL {t:TypeId} {x:Operand} {cs:List Value} (h:vF E.n ops L d g x=some (.agg cs.toArray)) (k: ∀ b,RJ E ops Q rest D ((d,.pointer (some ⟨b,0,none⟩))::L) (cx b t cs::C)):
 RJ E ops Q (⟨some d,.box t x,ty,ps,af,g⟩::rest) D L C:=by
 obtain ⟨A,B,F⟩:=jG h; exact NN A F rfl B k
theorem wq {t:TypeId} {x:Operand} {v:Value} (h:vF E.n ops L d g x=some v) (hv:v.cells.toList=[v]) (k: ∀ b,RJ E ops Q rest D ((d,.pointer (some ⟨b,0,none⟩))::L) (cx b t [v]::C)):
 RJ E ops Q (⟨some d,.box t x,ty,ps,af,g⟩::rest) D L C:=by
 obtain ⟨A,B,F⟩:=jG h; exact NN A F hv B k
theorem AL {t:TypeId} {cs:List Value} (h:gB E.n ops L d g=true) (hz:tZ E.P t=some cs) (k: ∀ b,RJ E ops Q rest D ((d,.pointer (some ⟨b,0,none⟩))::L) (cx b t cs::C)):
 RJ E ops Q (⟨some d,.alloc t,ty,ps,af,g⟩::rest) D L C:=FL (Ob h) hz (N5 h) k
/-- a store into the block at the place i of the state -/
def sF (ops:Array Oper) (L:dD) (g:Option (Nat×Bool)) (x y:Operand):Option (Value×Value):=match kl ops L g with
 |true=>match ev L x,ev L y with
  |some u,some v=>some (u,v)
  |_,_=>none
 |false=>none
theorem DY {ops:Array Oper} {L:dD} {g:Option (Nat×Bool)} {x y:Operand} {u v:Value} (h:sF ops L g x y=some (u,v)):kl ops L g=true∧ev L x=some u∧ev L y=some v:=by
 unfold sF at h
 split at h
 ·rename_i hb
  split at h
  ·rename_i hx hy; cases h; exact ⟨hb,hx,hy⟩
  ·cases h
 ·cases h
theorem Lg {t n b o tt:Nat} {x y:Operand} {v:Value} {cs cs':List Value} {C':List aB} (i:Nat) (h:sF ops L g x y=some (.pointer (some ⟨b,o,none⟩),v)) (ht:(tK E.P t).map (·.2)=some n) (hC:C[i]? =some (cx b tt cs))
 (hk:(v.cells.toList.length==n&&v.cells.toList.all Value.oneCell'&&Nat.ble (o+n) cs.length)=true) (hcs:cs.take o++v.cells.toList++cs.drop (o+n)=cs') (hC':C.set i (cx b tt cs')=C') (k:RJ E ops Q rest D L C'):
 RJ E ops Q (⟨none,.store t x y,ty,ps,af,g⟩::rest) D L C:=by
 obtain ⟨A,B,F⟩:=DY h
 simp only [dg,beq_iff_eq] at hk
 exact hE i A B F ht U hk.1.1 hk.1.2 hC hk.2 hcs hC' k
/-- a store of a whole block, by a struct, by one cell -/
theorem Oa {t n b tt:Nat} {x y:Operand} {cs cs':List Value} {C':List aB} (i:Nat) (h:sF ops L g x y=some (.pointer (some ⟨b,0,none⟩),.agg cs'.toArray)) (ht:(tK E.P t).map (·.2)=some n) (hC:C[i]? =some (cx b tt cs))
 (hk:(Nat.beq cs'.length n&&cs'.all Value.oneCell'&&Nat.beq n cs.length)=true) (hC':C.set i (cx b tt cs')=C') (k:RJ E ops Q rest D L C'):
 RJ E ops Q (⟨none,.store t x y,ty,ps,af,g⟩::rest) D L C:=by
 obtain ⟨AA,J,K⟩:=DY h
 simp only [dg] at hk
 obtain ⟨⟨A,B⟩,F⟩:=hk
 have H:=Nat.eq_of_beq_eq_true A
 have G:=Nat.eq_of_beq_eq_true F
 exact hE i AA J K ht U H B hC (by rw [Nat.zero_add,G]; exact Nat.ble_self_eq_true _) (by rw [Nat.zero_add,G,List.take_zero,List.drop_length]; show []++cs'++[]=cs'; simp) hC' k
theorem TA {t n b tt:Nat} {x y:Operand} {v u:Value} {C':List aB} (i:Nat) (h:sF ops L g x y=some (.pointer (some ⟨b,0,none⟩),v)) (ht:(tK E.P t).map (·.2)=some n) (hC:C[i]? =some (cx b tt [u]))
 (hv:v.cells.toList=[v]) (hk:(Nat.beq n 1&&v.oneCell')=true) (hC':C.set i (cx b tt [v])=C') (k:RJ E ops Q rest D L C'):
 RJ E ops Q (⟨none,.store t x y,ty,ps,af,g⟩::rest) D L C:=by
 obtain ⟨G,H,AA⟩:=DY h
 rw [dg] at hk
 obtain ⟨A,B⟩:=hk
 have F:=Nat.eq_of_beq_eq_true A
 subst F
 exact hE i G H AA ht hv U (by simp [B]) hC U U hC' k
theorem fR {t n b tt:Nat} {x y:Operand} {cs cs':List Value} (h:sF ops L g x y=some (.pointer (some ⟨b,0,none⟩),.agg cs'.toArray)) (ht:(tK E.P t).map (·.2)=some n) (hk:(Nat.beq cs'.length n&&cs'.all Value.oneCell'&&Nat.beq n cs.length)=true) (k:RJ E ops Q rest D L (cx b tt cs'::C)):RJ E ops Q (⟨none,.store t x y,ty,ps,af,g⟩::rest) D L (cx b tt cs::C):=Oa 0 h ht rfl hk rfl k
theorem MD {t n b tt:Nat} {x y:Operand} {v u:Value} (h:sF ops L g x y=some (.pointer (some ⟨b,0,none⟩),v)) (ht:(tK E.P t).map (·.2)=some n) (hv:v.cells.toList=[v]) (hk:(Nat.beq n 1&&v.oneCell')=true) (k:RJ E ops Q rest D L (cx b tt [v]::C)):RJ E ops Q (⟨none,.store t x y,ty,ps,af,g⟩::rest) D L (cx b tt [u]::C):=TA 0 h ht rfl hv hk rfl k
theorem qy {t n b tt:Nat} {x y:Operand} {cs cs':List Value} {A0:aB} (h:sF ops L g x y=some (.pointer (some ⟨b,0,none⟩),.agg cs'.toArray)) (ht:(tK E.P t).map (·.2)=some n) (hk:(Nat.beq cs'.length n&&cs'.all Value.oneCell'&&Nat.beq n cs.length)=true) (k:RJ E ops Q rest D L (A0::cx b tt cs'::C)):RJ E ops Q (⟨none,.store t x y,ty,ps,af,g⟩::rest) D L (A0::cx b tt cs::C):=Oa 1 h ht rfl hk rfl k
theorem VQ (cs':List Value) {t n b o tt:Nat} {x y:Operand} {v:Value} {cs:List Value} {A0:aB} (h:sF ops L g x y=some (.pointer (some ⟨b,o,none⟩),v)) (ht:(tK E.P t).map (·.2)=some n) (hk:(v.cells.toList.length==n&&v.cells.toList.all Value.oneCell'&&Nat.ble (o+n) cs.length)=true) (hcs:cs.take o++v.cells.toList++cs.drop (o+n)=cs') (k:RJ E ops Q rest D L (A0::cx b tt cs'::C)):RJ E ops Q (⟨none,.store t x y,ty,ps,af,g⟩::rest) D L (A0::cx b tt cs::C):=Lg 1 h ht rfl hk hcs rfl k
theorem FH {t n b tt:Nat} {x y:Operand} {cs cs':List Value} {A0 A1:aB} (h:sF ops L g x y=some (.pointer (some ⟨b,0,none⟩),.agg cs'.toArray)) (ht:(tK E.P t).map (·.2)=some n) (hk:(Nat.beq cs'.length n&&cs'.all Value.oneCell'&&Nat.beq n cs.length)=true) (k:RJ E ops Q rest D L (A0::A1::cx b tt cs'::C)):RJ E ops Q (⟨none,.store t x y,ty,ps,af,g⟩::rest) D L (A0::A1::cx b tt cs::C):=Oa 2 h ht rfl hk rfl k
theorem RT (cs':List Value) {t n b o tt:Nat} {x y:Operand} {v:Value} {cs:List Value} {A0 A1:aB} (h:sF ops L g x y=some (.pointer (some ⟨b,o,none⟩),v)) (ht:(tK E.P t).map (·.2)=some n) (hk:(v.cells.toList.length==n&&v.cells.toList.all Value.oneCell'&&Nat.ble (o+n) cs.length)=true) (hcs:cs.take o++v.cells.toList++cs.drop (o+n)=cs') (k:RJ E ops Q rest D L (A0::A1::cx b tt cs'::C)):RJ E ops Q (⟨none,.store t x y,ty,ps,af,g⟩::rest) D L (A0::A1::cx b tt cs::C):=Lg 2 h ht rfl hk hcs rfl k
theorem Ty {t n b tt:Nat} {x y:Operand} {cs cs':List Value} {A0 A1 A2:aB} (h:sF ops L g x y=some (.pointer (some ⟨b,0,none⟩),.agg cs'.toArray)) (ht:(tK E.P t).map (·.2)=some n) (hk:(Nat.beq cs'.length n&&cs'.all Value.oneCell'&&Nat.beq n cs.length)=true) (k:RJ E ops Q rest D L (A0::A1::A2::cx b tt cs'::C)):RJ E ops Q (⟨none,.store t x y,ty,ps,af,g⟩::rest) D L (A0::A1::A2::cx b tt cs::C):=Oa 3 h ht rfl hk rfl k
theorem V3 {t n b tt:Nat} {x y:Operand} {v u:Value} {A0 A1 A2:aB} (h:sF ops L g x y=some (.pointer (some ⟨b,0,none⟩),v)) (ht:(tK E.P t).map (·.2)=some n) (hv:v.cells.toList=[v]) (hk:(Nat.beq n 1&&v.oneCell')=true) (k:RJ E ops Q rest D L (A0::A1::A2::cx b tt [v]::C)):RJ E ops Q (⟨none,.store t x y,ty,ps,af,g⟩::rest) D L (A0::A1::A2::cx b tt [u]::C):=TA 3 h ht rfl hv hk rfl k
theorem OT (cs':List Value) {t n b o tt:Nat} {x y:Operand} {v:Value} {cs:List Value} {A0 A1 A2:aB} (h:sF ops L g x y=some (.pointer (some ⟨b,o,none⟩),v)) (ht:(tK E.P t).map (·.2)=some n) (hk:(v.cells.toList.length==n&&v.cells.toList.all Value.oneCell'&&Nat.ble (o+n) cs.length)=true) (hcs:cs.take o++v.cells.toList++cs.drop (o+n)=cs') (k:RJ E ops Q rest D L (A0::A1::A2::cx b tt cs'::C)):RJ E ops Q (⟨none,.store t x y,ty,ps,af,g⟩::rest) D L (A0::A1::A2::cx b tt cs::C):=Lg 3 h ht rfl hk hcs rfl k
theorem Tg {t n b tt:Nat} {x y:Operand} {cs cs':List Value} {A0 A1 A2 A3:aB} (h:sF ops L g x y=some (.pointer (some ⟨b,0,none⟩),.agg cs'.toArray)) (ht:(tK E.P t).map (·.2)=some n) (hk:(Nat.beq cs'.length n&&cs'.all Value.oneCell'&&Nat.beq n cs.length)=true) (k:RJ E ops Q rest D L (A0::A1::A2::A3::cx b tt cs'::C)):RJ E ops Q (⟨none,.store t x y,ty,ps,af,g⟩::rest) D L (A0::A1::A2::A3::cx b tt cs::C):=Oa 4 h ht rfl hk rfl k
theorem V5 {t n b tt:Nat} {x y:Operand} {v u:Value} {A0 A1 A2 A3:aB} (h:sF ops L g x y=some (.pointer (some ⟨b,0,none⟩),v)) (ht:(tK E.P t).map (·.2)=some n) (hv:v.cells.toList=[v]) (hk:(Nat.beq n 1&&v.oneCell')=true) (k:RJ E ops Q rest D L (A0::A1::A2::A3::cx b tt [v]::C)):RJ E ops Q (⟨none,.store t x y,ty,ps,af,g⟩::rest) D L (A0::A1::A2::A3::cx b tt [u]::C):=TA 4 h ht rfl hv hk rfl k
theorem IF {t n b tt:Nat} {x y:Operand} {cs cs':List Value} {A0 A1 A2 A3 A4:aB} (h:sF ops L g x y=some (.pointer (some ⟨b,0,none⟩),.agg cs'.toArray)) (ht:(tK E.P t).map (·.2)=some n) (hk:(Nat.beq cs'.length n&&cs'.all Value.oneCell'&&Nat.beq n cs.length)=true) (k:RJ E ops Q rest D L (A0::A1::A2::A3::A4::cx b tt cs'::C)):RJ E ops Q (⟨none,.store t x y,ty,ps,af,g⟩::rest) D L (A0::A1::A2::A3::A4::cx b tt cs::C):=Oa 5 h ht rfl hk rfl k
theorem VV (cs':List Value) {t n b o tt:Nat} {x y:Operand} {v:Value} {cs:List Value} {A0 A1 A2 A3 A4:aB} (h:sF ops L g x y=some (.pointer (some ⟨b,o,none⟩),v)) (ht:(tK E.P t).map (·.2)=some n) (hk:(v.cells.toList.length==n&&v.cells.toList.all Value.oneCell'&&Nat.ble (o+n) cs.length)=true) (hcs:cs.take o++v.cells.toList++cs.drop (o+n)=cs') (k:RJ E ops Q rest D L (A0::A1::A2::A3::A4::cx b tt cs'::C)):RJ E ops Q (⟨none,.store t x y,ty,ps,af,g⟩::rest) D L (A0::A1::A2::A3::A4::cx b tt cs::C):=Lg 5 h ht rfl hk hcs rfl k
theorem Rj {t n b tt:Nat} {x y:Operand} {cs cs':List Value} {A0 A1 A2 A3 A4 A5:aB} (h:sF ops L g x y=some (.pointer (some ⟨b,0,none⟩),.agg cs'.toArray)) (ht:(tK E.P t).map (·.2)=some n) (hk:(Nat.beq cs'.length n&&cs'.all Value.oneCell'&&Nat.beq n cs.length)=true) (k:RJ E ops Q rest D L (A0::A1::A2::A3::A4::A5::cx b tt cs'::C)):RJ E ops Q (⟨none,.store t x y,ty,ps,af,g⟩::rest) D L (A0::A1::A2::A3::A4::A5::cx b tt cs::C):=Oa 6 h ht rfl hk rfl k
theorem V2 {t n b tt:Nat} {x y:Operand} {v u:Value} {A0 A1 A2 A3 A4 A5:aB} (h:sF ops L g x y=some (.pointer (some ⟨b,0,none⟩),v)) (ht:(tK E.P t).map (·.2)=some n) (hv:v.cells.toList=[v]) (hk:(Nat.beq n 1&&v.oneCell')=true) (k:RJ E ops Q rest D L (A0::A1::A2::A3::A4::A5::cx b tt [v]::C)):RJ E ops Q (⟨none,.store t x y,ty,ps,af,g⟩::rest) D L (A0::A1::A2::A3::A4::A5::cx b tt [u]::C):=TA 6 h ht rfl hv hk rfl k
theorem V4 (cs':List Value) {t n b o tt:Nat} {x y:Operand} {v:Value} {cs:List Value} {A0 A1 A2 A3 A4 A5:aB} (h:sF ops L g x y=some (.pointer (some ⟨b,o,none⟩),v)) (ht:(tK E.P t).map (·.2)=some n) (hk:(v.cells.toList.length==n&&v.cells.toList.all Value.oneCell'&&Nat.ble (o+n) cs.length)=true) (hcs:cs.take o++v.cells.toList++cs.drop (o+n)=cs') (k:RJ E ops Q rest D L (A0::A1::A2::A3::A4::A5::cx b tt cs'::C)):RJ E ops Q (⟨none,.store t x y,ty,ps,af,g⟩::rest) D L (A0::A1::A2::A3::A4::A5::cx b tt cs::C):=Lg 6 h ht rfl hk hcs rfl k
theorem VW (cs':List Value) {t n b o tt:Nat} {x y:Operand} {v:Value} {cs:List Value} {A0 A1 A2 A3 A4 A5 A6:aB} (h:sF ops L g x y=some (.pointer (some ⟨b,o,none⟩),v)) (ht:(tK E.P t).map (·.2)=some n) (hk:(v.cells.toList.length==n&&v.cells.toList.all Value.oneCell'&&Nat.ble (o+n) cs.length)=true) (hcs:cs.take o++v.cells.toList++cs.drop (o+n)=cs') (k:RJ E ops Q rest D L (A0::A1::A2::A3::A4::A5::A6::cx b tt cs'::C)):RJ E ops Q (⟨none,.store t x y,ty,ps,af,g⟩::rest) D L (A0::A1::A2::A3::A4::A5::A6::cx b tt cs::C):=Lg 7 h ht rfl hk hcs rfl k
theorem V1 (cs':List Value) {t n b o tt:Nat} {x y:Operand} {v:Value} {cs:List Value} {A0 A1 A2 A3 A4 A5 A6 A7:aB} (h:sF ops L g x y=some (.pointer (some ⟨b,o,none⟩),v)) (ht:(tK E.P t).map (·.2)=some n) (hk:(v.cells.toList.length==n&&v.cells.toList.all Value.oneCell'&&Nat.ble (o+n) cs.length)=true) (hcs:cs.take o++v.cells.toList++cs.drop (o+n)=cs') (k:RJ E ops Q rest D L (A0::A1::A2::A3::A4::A5::A6::A7::cx b tt cs'::C)):RJ E ops Q (⟨none,.store t x y,ty,ps,af,g⟩::rest) D L (A0::A1::A2::A3::A4::A5::A6::A7::cx b tt cs::C):=Lg 8 h ht rfl hk hcs rfl k
theorem VT (cs':List Value) {t n b o tt:Nat} {x y:Operand} {v:Value} {cs:List Value} {A0 A1 A2 A3 A4 A5 A6 A7 A8:aB} (h:sF ops L g x y=some (.pointer (some ⟨b,o,none⟩),v)) (ht:(tK E.P t).map (·.2)=some n) (hk:(v.cells.toList.length==n&&v.cells.toList.all Value.oneCell'&&Nat.ble (o+n) cs.length)=true) (hcs:cs.take o++v.cells.toList++cs.drop (o+n)=cs') (k:RJ E ops Q rest D L (A0::A1::A2::A3::A4::A5::A6::A7::A8::cx b tt cs'::C)):RJ E ops Q (⟨none,.store t x y,ty,ps,af,g⟩::rest) D L (A0::A1::A2::A3::A4::A5::A6::A7::A8::cx b tt cs::C):=Lg 9 h ht rfl hk hcs rfl k
theorem Vj {t n b tt:Nat} {x y:Operand} {cs cs':List Value} {A0 A1 A2 A3 A4 A5 A6 A7 A8 A9:aB} (h:sF ops L g x y=some (.pointer (some ⟨b,0,none⟩),.agg cs'.toArray)) (ht:(tK E.P t).map (·.2)=some n) (hk:(Nat.beq cs'.length n&&cs'.all Value.oneCell'&&Nat.beq n cs.length)=true) (k:RJ E ops Q rest D L (A0::A1::A2::A3::A4::A5::A6::A7::A8::A9::cx b tt cs'::C)):RJ E ops Q (⟨none,.store t x y,ty,ps,af,g⟩::rest) D L (A0::A1::A2::A3::A4::A5::A6::A7::A8::A9::cx b tt cs::C):=Oa 10 h ht rfl hk rfl k
theorem QE (cs':List Value) {t n b o tt:Nat} {x y:Operand} {v:Value} {cs:List Value} {A0 A1 A2 A3 A4 A5 A6 A7 A8 A9:aB} (h:sF ops L g x y=some (.pointer (some ⟨b,o,none⟩),v)) (ht:(tK E.P t).map (·.2)=some n) (hk:(v.cells.toList.length==n&&v.cells.toList.all Value.oneCell'&&Nat.ble (o+n) cs.length)=true) (hcs:cs.take o++v.cells.toList++cs.drop (o+n)=cs') (k:RJ E ops Q rest D L (A0::A1::A2::A3::A4::A5::A6::A7::A8::A9::cx b tt cs'::C)):RJ E ops Q (⟨none,.store t x y,ty,ps,af,g⟩::rest) D L (A0::A1::A2::A3::A4::A5::A6::A7::A8::A9::cx b tt cs::C):=Lg 10 h ht rfl hk hcs rfl k
theorem Q7 (cs':List Value) {t n b o tt:Nat} {x y:Operand} {v:Value} {cs:List Value} {A0 A1 A2 A3 A4 A5 A6 A7 A8 A9 A10:aB} (h:sF ops L g x y=some (.pointer (some ⟨b,o,none⟩),v)) (ht:(tK E.P t).map (·.2)=some n) (hk:(v.cells.toList.length==n&&v.cells.toList.all Value.oneCell'&&Nat.ble (o+n) cs.length)=true) (hcs:cs.take o++v.cells.toList++cs.drop (o+n)=cs') (k:RJ E ops Q rest D L (A0::A1::A2::A3::A4::A5::A6::A7::A8::A9::A10::cx b tt cs'::C)):RJ E ops Q (⟨none,.store t x y,ty,ps,af,g⟩::rest) D L (A0::A1::A2::A3::A4::A5::A6::A7::A8::A9::A10::cx b tt cs::C):=Lg 11 h ht rfl hk hcs rfl k
end
section
variable {E:fB} {y:Code} {Q:dk} {D:List Deferred} {L:List (Nat×Value)} {C:List aB}
theorem WS {id:Nat} {ops:Array Oper} (h: ∀ K:Act→World→Prop,(∀ D L C,WJ E y Q D L C→KJ E K D L C)→RJ E ops (Exit.then K Q) ops.toList D L C):WJ E (.seq (.region id ops false) y) Q D L C:=aq fun K hK=>aw (h K hK)
theorem RK {ops:Array Oper} {K:Act→World→Prop} {Q':dk} (hK: ∀ D L C,WJ E y Q D L C→KJ E K D L C) (k:WJ E y Q D L C):RJ E ops (Exit.then K Q') [] D L C:=aK (a_ (hK _ _ _ k))
theorem KK {K:Act→World→Prop} {Q':dk} (hK: ∀ D L C,WJ E y Q D L C→KJ E K D L C) (k:WJ E y Q D L C):KJ E (Exit.then K Q' .normal) D L C:=a_ (hK _ _ _ k)
theorem WK {K:Act→World→Prop} {Q':dk} (hK: ∀ D L C,WJ E y Q D L C→KJ E K D L C) (k:WJ E y Q D L C):WJ E .skip (Exit.then K Q') D L C:=cg (a_ (hK _ _ _ k))
end
theorem DT {p:Prop} [Decidable p] (h:decide p=true):p:=of_decide_eq_true h
theorem DF {p:Prop} [Decidable p] (h:decide p=false): ¬ p:=of_decide_eq_false h
theorem XT {p:Prop} [Decidable p] (h:(!decide p)=true): ¬ p:=by simpa using h
theorem XF {p:Prop} [Decidable p] (h:(!decide p)=false):p:=by simpa using h
/-- what a function hands back: one result, two, three, that lie in slots -/
theorem Q1 {E:fB} {fn:Func} {K:Act→World→Prop} {L:dD} {C:List aB} {t:Nat} {u v:Value} (hQ: ∀ D L C,LJ E fn (zO E.w0 v) D L C→KJ E K D L C) (hS:E.S=s8) (hr:fn.results.toList=[.tmp t]) (hl:L.lookup t=some u) (e:u=v):KJ E K [] L C:=
 hQ _ _ _ (jX (vs:=[u]) (by rw [hr]; exact ⟨hl,trivial⟩) fun w hs=>Cq e (by rw [hS] at hs; exact hs))
theorem Q2 {E:fB} {fn:Func} {K:Act→World→Prop} {L:dD} {C:List aB} {t s:Nat} {u x v:Value} (hQ: ∀ D L C,LJ E fn (zO E.w0 v) D L C→KJ E K D L C) (hS:E.S=s8) (hr:fn.results.toList=[.tmp t,.tmp s]) (hl:L.lookup t=some u) (hm:L.lookup s=some x) (e:vT [u,x]=v):KJ E K [] L C:=
 hQ _ _ _ (jX (vs:=[u,x]) (by rw [hr]; exact ⟨hl,hm,trivial⟩) fun w hs=>Cq e (by rw [hS] at hs; exact hs))
theorem Q3 {E:fB} {fn:Func} {K:Act→World→Prop} {L:dD} {C:List aB} {t s r:Nat} {u x y v:Value} (hQ: ∀ D L C,LJ E fn (zO E.w0 v) D L C→KJ E K D L C) (hS:E.S=s8) (hr:fn.results.toList=[.tmp t,.tmp s,.tmp r]) (hl:L.lookup t=some u) (hm:L.lookup s=some x) (hn:L.lookup r=some y) (e:vT [u,x,y]=v):KJ E K [] L C:=
 hQ _ _ _ (jX (vs:=[u,x,y]) (by rw [hr]; exact ⟨hl,hm,hn,trivial⟩) fun w hs=>Cq e (by rw [hS] at hs; exact hs))
theorem N1 {E:fB} {ops:Array Oper} {D:ib} {C' C1:List aB} {F:dD→List aB→Prop} {tb rem:List Nat} {n:Nat} {L:dD} {C:List aB} (i:Nat)
 (h:BZ E ops D C' C1 F tb n (rem.filter (· != i)) i L C) (hm:rem.filter (fun i=>rem.all fun j=> !iZ (qv ops) j i)=[i]:=by kernel_rfl):TN E ops D C' C1 F tb (n+1) rem L C:=mW [i] hm (iR h ql)
theorem NO {E:fB} {ops:Array Oper} {D:ib} {C' C1:List aB} {F:dD→List aB→Prop} {tb rem:List Nat} {n i:Nat} {L:dD} {C:List aB} {o:Oper} (ho:ops[i]? =some o) (ht:tb.contains i=false) (rem':List Nat)
 (h: ∀ K:Act→World→Prop,(∀ L' C'',(∀ w,St E.S E.w0 C'' w→St E.S E.w0 C' w)→TN E ops D C' C1 F tb n rem' L' C''→KJ E K D L' C'')→RJ E ops (NQ K) [o] D L C) (hr:rem=rem':=by kernel_rfl):BZ E ops D C' C1 F tb n rem i L C:=T2 ho hr ht h
theorem RD {E:fB} {ops:Array Oper} {K:Act→World→Prop} {D:ib} {L:dD} {C C':List aB} {X:dD→List aB→Prop} (hT: ∀ L' C'',(∀ w,St E.S E.w0 C'' w→St E.S E.w0 C' w)→X L' C''→KJ E K D L' C'')
 (k:Nat) (h2:C.drop k=C') (h:X L C):RJ E ops (NQ K) [] D L C:=aK (hT _ _ (fun w hs=>h2▸hs.take (List.drop_sublist k C)) h)
theorem bk {L L':dD} (h:L'.map (fun p=>L.lookup p.1)=L'.map (fun p=>some p.2)):dv L L':=by
 induction L' with
 |nil=>exact dv.nil _
 |cons p t ih=>
  simp only [List.map_cons,List.cons.injEq] at h
  exact dv.cons h.1 (ih h.2)
theorem PV {C:List aB} {A A' B B' D D':aB} (i j k:Nat) (h1:C[i]? =some A') (e1:A'.holds=A.holds) (h2:C[j]? =some B') (e2:B'.holds=B.holds) (h3:C[k]? =some D') (e3:D'.holds=D.holds):kE C [A,B,D]:=gj i h1 e1 (gj j h2 e2 (gj k h3 e3 aN))
theorem bV {E:fB} {c:Operand} {x y:Code} {b:Bool} {Q:dk} {D:List Deferred} {L:List (Nat×Value)} {C:List aB} (hc:ev L c=some (.bool b)) (h2:b=false→WJ E y Q D L C) (h1:b=true→WJ E x Q D L C):WJ E (.cond c x y) Q D L C:=cw hc h1 h2
theorem cL {E:fB} {ops:Array Oper} {Q:dk} {rest:List Oper} {D:List Deferred} {L:List (Nat×Value)} {C:List aB} {t:Nat} {b:Bool} (h:L.lookup t=some (.bool b)) (h2:b=false→RJ E ops Q rest D ((t,.bool false)::L) C) (h1:b=true→RJ E ops Q rest D ((t,.bool true)::L) C):RJ E ops Q rest D L C:=bZ h h1 h2
theorem jD {E:fB} {ops:Array Oper} {Q:dk} {rest:List Oper} {D:List Deferred} {L:List (Nat×Value)} {C:List aB} {t:Nat} {b:Bool} {os:List Oper} (h:L.lookup t=some (.bool b)) (h2:b=false→DJ E ops D C (fun L2=>RJ E ops Q rest D L2 C) os ((t,.bool false)::L)) (h1:b=true→DJ E ops D C (fun L2=>RJ E ops Q rest D L2 C) os ((t,.bool true)::L)):DJ E ops D C (fun L2=>RJ E ops Q rest D L2 C) os L:=hO h h1 h2
theorem cK {L:List (Nat×Value)}: ∀ (k:Nat) {L2:List (Nat×Value)} (q:dv L (L2.drop k)) (h:(L2.take k).map (fun p=>L.lookup p.1)=(L2.take k).map (fun p=>some p.2):=by rfl),dv L L2
 |0,_,q,_=>q
 |_+1,[],_,_=>dv.nil _
 |k+1,p::L2,q,h=>by
  obtain ⟨A,B⟩:=List.cons.inj (show L.lookup p.1::(L2.take k).map (fun p=>L.lookup p.1)=some p.2::(L2.take k).map (fun p=>some p.2) from h)
  exact dv.cons (t:=p.1) (v:=p.2) A (cK k q B)
theorem oX {E:fB} {ops:Array Oper} {Q:dk} {rest:List Oper} {D:List Deferred} {L:List (Nat×Value)} {C:List aB} {d:Nat} {ty:TypeId} {ps:String} {af:Array Edge} {g:Option (Nat×Bool)} {op:Op} (k:RJ E ops Q rest D ((d,undef)::L) C) (h:(CW ops L g&&Nat.blt d E.n)=true:=by rfl):RJ E ops Q (⟨some d,op,ty,ps,af,g⟩::rest) D L C:=rS (OX h) k
theorem dX {E:fB} {ops:Array Oper} {F:List (Nat×Value)→Prop} {rest:List Oper} {D:List Deferred} {L:List (Nat×Value)} {C:List aB} {d:Nat} {ty:TypeId} {ps:String} {af:Array Edge} {g:Option (Nat×Bool)} {op:Op} (k:DJ E ops D C F rest ((d,undef)::L)) (h:(CW ops L g&&Nat.blt d E.n)=true:=by rfl):DJ E ops D C F (⟨some d,op,ty,ps,af,g⟩::rest) L:=dS (OX h) k
end
section
open Go.RowKit
section
variable {E:fB} {ops:Array Oper} {Q:dk} {rest:List Oper} {D:List Deferred} {L:List (Nat×Value)} {C:List aB}
variable {d:Nat} {ty:TypeId} {ps:String} {af:Array Edge} {g:Option (Nat×Bool)}
theorem M6 {P:Program} {t e sz:Nat} (h:tE P t=some (e,sz)) (w:World):P.underlying t=some (.slice e)∧(sizeOf e).run P w= .ok sz w:=by
 unfold tE at h
 split at h
 ·rename_i e' hu
  split at h
  ·rename_i i hi
   cases h
   exact ⟨hu,by simp [sizeOf,typeInfo,hi]⟩
  ·cases h
 ·cases h
theorem ET {P:Program} {t e:Nat} (h:P.underlying t=some (.slice e)):P.underlying t=some (.slice (P.elem t)):=by
 rw [h]; simp [Program.elem,h]
theorem Mo {P:Program} {t e:Nat} (h:P.underlying t=some (.slice e)):P.elem t=e:=by simp [Program.elem,h]
/-- s[:k] -/
theorem VU (k:Nat) {x hi:Operand} {t e sz n c:Nat} {A:OA} {j:Int} (h:bF E.n ops L d g x hi=some (.slice A n c,.int .i64 j)) (ht:tE E.P t=some (e,sz)) (hj:j=(k:Int)) (hk:k≤c):
 SE E ops ⟨some d,.slice t x none (some hi) none,ty,ps,af,g⟩ D L C (.slice A k c) d:=by
 obtain ⟨H,AA,J,K⟩:=uL h
 subst hj
 refine ⟨eV H sm fun a w B hs=>?_,U,AA⟩
 obtain ⟨hu,hz⟩:=M6 ht w
 have hr:=run_slice_h (P:=E.P) w t A n c (ET hu) .i64 (k:Int) om om
 rw [Mo hu,hz] at hr
 have G:(if c=0 then A else A.map (·.add (0*sz)))=A:=by
  split
  ·rfl
  ·cases A with
   |none=>rfl
   |some ad=>simp [Addr.add]
 simp only [Result.andThen,Int.toNat_natCast,sliced,G,Nat.sub_zero] at hr
 have F:=run_sliceAt_slice (P:=E.P) w t (.slice A n c) none (some (.int .i64 (k:Int))) none (ET hu)
 simp [execOp,B.ev J,B.ev K,F,hr]
end
theorem Nz {w:World} {a:OA} {c e sz:Nat} {es:List (List Value)} (h:(own a c e sz es).holds w):es.length≤c:=by
 rcases h.2.2 with ⟨A,B⟩|⟨g,cap,cur,hv,_,_,C,_⟩
 ·omega
 ·injection hv with _ _ hc; omega
end
section
open Go.RowKit
/-- an array's length, its elements' type and their size -/
def aE (P:Program) (t:TypeId):Option (Nat×TypeId×Nat):=
 match P.underlying t with
 |some (.array n e)=>match P.info? e with
  |some i=>some (n,e,i.size)
  |none=>none
 |_=>none
theorem EP {P:Program} {t n e sz:Nat} (h:aE P t=some (n,e,sz)) (w:World):P.underlying t=some (.array n e)∧(sizeOf e).run P w= .ok sz w:=by
 unfold aE at h
 split at h
 ·rename_i n' e' hu
  split at h
  ·rename_i i hi
   cases h
   exact ⟨hu,by simp [sizeOf,typeInfo,hi]⟩
  ·cases h
 ·cases h
theorem v7 {P:Program} {t n e sz:Nat} (h:aE P t=some (n,e,sz)) (a:Addr) (w:World):
 (Instr.sliceAt t (.pointer (some a)) none none none).run P w= .ok (.slice (some a) n n) w:=by
 obtain ⟨hu,hz⟩:=EP h w
 have A:a.add 0=a:=by simp [Addr.add]
 simp [Instr.sliceAt,underlying,hu,Instr.sureAddr,Instr.sliceBounds,hz,A]
theorem wi {P:Program} {t n e sz:Nat} (h:aE P t=some (n,e,sz)) (a:Addr) {k:Nat} (hk:k<n) (w:World):
 (Instr.indexAt t (.pointer (some a)) (.int .i64 (k:Int))).run P w= .ok (.pointer (some (a.add (k*sz)))) w:=by
 obtain ⟨hu,hz⟩:=EP h w
 have A: ¬ n≤k:=by omega
 simp [Instr.indexAt,underlying,hu,Instr.sureAddr,asIntOf,hz,A]
 try exact fun h=>absurd h A
 try omega
section
variable {E:fB} {ops:Array Oper} {Q:dk} {rest:List Oper} {D:List Deferred} {L:List (Nat×Value)} {C:List aB}
variable {dst:Option Nat} {ty:TypeId} {ps:String} {af:Array Edge} {g:Option (Nat×Bool)}
theorem DZ {x:Operand} {a:Addr} {t n e sz:Nat} (hg:kl ops L g=true) (hx:ev L x=some (.pointer (some a))) (ht:aE E.P t=some (n,e,sz)):
 SD E ops ⟨dst,.slice t x none none none,ty,ps,af,g⟩ D L C (.slice (some a) n n):=
 eV hg sm fun b w A hs=>by
  simp [execOp,A.ev hx,v7 ht]
theorem Dn {x ix:Operand} {a:Addr} {t n e sz k:Nat} {j:Int} (hg:kl ops L g=true) (hx:ev L x=some (.pointer (some a))) (hi:ev L ix=some (.int .i64 j)) (ht:aE E.P t=some (n,e,sz)) (hj:j=(k:Int)) (hk:k<n):
 SD E ops ⟨dst,.indexAddr t x ix,ty,ps,af,g⟩ D L C (.pointer (rh (some a) (k*sz))):=
 eV hg sm fun b w A hs=>by
  subst hj
  simp [execOp,A.ev hx,A.ev hi,rh,wi ht a hk]
end
end
section
open Go.RowKit
/-- a table of facts on the program's types -/
structure C7 where
 tk:List (Nat×Bool×Nat)
 fo:List (Nat×List (Option Nat))
 sl:List Nat
def QC {α:Type}:List (Nat×α)→Nat→Option α
 |[],_=>none
 |(k,v)::l,t=>match Nat.beq k t with
  |true=>some v
  |false=>QC l t
theorem Ak {α:Type}: ∀ {l:List (Nat×α)} {t:Nat} {v:α},QC l t=some v→(t,v)∈l
 |[],t,v,h=>by simp [QC] at h
 |(k,u)::l,t,v,h=>by
  unfold QC at h
  split at h
  ·rename_i hb
   cases h
   rw [Nat.eq_of_beq_eq_true hb]; exact cH
  ·exact dR _ (Ak h)
def Le:List Nat→Nat→Bool
 |[],_=>false
 |k::l,t=>match Nat.beq k t with
  |true=>true
  |false=>Le l t
theorem AZ: ∀ {l:List Nat} {t:Nat},Le l t=true→t∈l
 |[],t,h=>by simp [Le] at h
 |k::l,t,h=>by
  unfold Le at h
  split at h
  ·rename_i hb
   rw [Nat.eq_of_beq_eq_true hb]; exact cH
  ·exact dR _ (AZ h)
def C7.IP (T:C7) (t:Nat):Option (Bool×Nat):=QC T.tk t
def C7.foF (T:C7) (s f:Nat):Option Nat:=match QC T.fo s with
 |some l=>match l[f]? with
  |some (some k)=>some k
  |_=>none
 |none=>none
structure lM (P:Program) (T:C7):Prop where
 tk: ∀ p∈T.tk,tK P p.1=some p.2
 fo: ∀ p∈T.fo,∀ f k,p.2[f]? =some (some k)→uB P p.1 f=some k
 sl: ∀ t∈T.sl,∃ e,P.underlying t=some (.slice e)
theorem lM.IP {P:Program} {T:C7} (h:lM P T) {t:Nat} {r:Bool×Nat} (e:T.IP t=some r):tK P t=some r:=h.tk _ (Ak e)
theorem lM.foF {P:Program} {T:C7} (h:lM P T) {s f k:Nat} (e:T.foF s f=some k):uB P s f=some k:=by
 unfold C7.foF at e
 split at e
 ·rename_i l hl
  split at e
  ·rename_i k' hk
   cases e
   exact h.fo _ (Ak hl) f k hk
  ·cases e
 ·cases e
def Tv (P:Program) (T:C7):Bool:=(T.tk.all fun p=>decide (tK P p.1=some p.2))&&(T.fo.all fun p=>(List.range p.2.length).all fun f=>match p.2[f]? with
 |some (some k)=>decide (uB P p.1 f=some k)
 |_=>true)&&T.sl.all fun t=>match P.underlying t with
 |some (.slice _)=>true
 |_=>false
theorem PZ {P:Program} {T:C7} (h:Tv P T=true):lM P T:=by
 unfold Tv at h
 rw [dg,dg] at h
 obtain ⟨⟨B,C⟩,D⟩:=h
 refine ⟨fun p hp=>by simpa using de.1 B p hp,fun p hp f k hk=>?_,fun t ht=>?_⟩
 ·have A:=de.1 (de.1 C p hp) f (List.mem_range.2 (aX.1 hk).1)
  rw [hk] at A
  simpa using A
 ·have A:=de.1 D t ht
  split at A
  ·rename_i e he; exact ⟨e,he⟩
  ·cases A
end
section
theorem Dp:tK Tryz.prog 3=some (false,1):=by kernel_rfl
theorem VN:tK Tryz.prog 5=some (false,1):=by kernel_rfl
theorem Rg:tK Tryz.prog 24=some (true,1):=by kernel_rfl
theorem PH:tK Tryz.prog 25=some (false,1):=by kernel_rfl
theorem T1:tK Tryz.prog 26=some (false,1):=by kernel_rfl
theorem VB:tK Tryz.prog 28=some (true,7):=by kernel_rfl
theorem U7:tK Tryz.prog 29=some (false,1):=by kernel_rfl
theorem U_:tK Tryz.prog 30=some (false,1):=by kernel_rfl
theorem U5:tK Tryz.prog 32=some (true,11):=by kernel_rfl
theorem TL:tK Tryz.prog 33=some (false,1):=by kernel_rfl
theorem Ve:tK Tryz.prog 34=some (false,1):=by kernel_rfl
theorem Vg:tK Tryz.prog 36=some (true,15):=by kernel_rfl
theorem Vr:tK Tryz.prog 42=some (false,1):=by kernel_rfl
theorem Uw:tK Tryz.prog 47=some (true,5):=by kernel_rfl
theorem TI:tK Tryz.prog 51=some (false,1):=by kernel_rfl
theorem TG:tK Tryz.prog 53=some (true,2):=by kernel_rfl
theorem UE:tK Tryz.prog 54=some (false,1):=by kernel_rfl
theorem Uy:tK Tryz.prog 56=some (true,3):=by kernel_rfl
theorem TR:tK Tryz.prog 58=some (true,7):=by kernel_rfl
theorem Re:tK Tryz.prog 71=some (false,1):=by kernel_rfl
theorem TO:tK Tryz.prog 73=some (true,2):=by kernel_rfl
theorem Vd:tK Tryz.prog 75=some (true,3):=by kernel_rfl
theorem T_:tK Tryz.prog 78=some (true,2):=by kernel_rfl
theorem Vu:tK Tryz.prog 80=some (true,4):=by kernel_rfl
theorem UK:tK Tryz.prog 93=some (true,15):=by kernel_rfl
theorem S9:tK Tryz.prog 118=some (true,9):=by kernel_rfl
theorem Rm:tK Tryz.prog 120=some (true,3):=by kernel_rfl
theorem Ss:tK Tryz.prog 132=some (true,2):=by kernel_rfl
theorem Sh:tK Tryz.prog 133=some (true,8):=by kernel_rfl
theorem Tm:tK Tryz.prog 137=some (true,4):=by kernel_rfl
theorem SK:tK Tryz.prog 148=some (false,1):=by kernel_rfl
theorem QU:tK Tryz.prog 153=some (false,1):=by kernel_rfl
theorem Ro:tK Tryz.prog 156=some (false,1):=by kernel_rfl
theorem Q6:tK Tryz.prog 158=some (true,2):=by kernel_rfl
theorem Sv:tK Tryz.prog 163=some (false,1):=by kernel_rfl
theorem Th:tK Tryz.prog 175=some (true,1):=by kernel_rfl
theorem Sq:tK Tryz.prog 176=some (true,4):=by kernel_rfl
theorem Sc:tK Tryz.prog 196=some (true,1):=by kernel_rfl
theorem QW:tK Tryz.prog 204=some (false,1):=by kernel_rfl
theorem QO:tK Tryz.prog 250=some (false,1):=by kernel_rfl
theorem SC:tK Tryz.prog 252=some (true,3):=by kernel_rfl
theorem AR:(tK Tryz.prog 3).map (·.2)=some 1:=by rw [Dp]; rfl
theorem Ti:(tK Tryz.prog 24).map (·.2)=some 1:=by rw [Rg]; rfl
theorem US:(tK Tryz.prog 25).map (·.2)=some 1:=by rw [PH]; rfl
theorem UF:(tK Tryz.prog 26).map (·.2)=some 1:=by rw [T1]; rfl
theorem OI:(tK Tryz.prog 28).map (·.2)=some 7:=by rw [VB]; rfl
theorem F9:(tK Tryz.prog 29).map (·.2)=some 1:=by rw [U7]; rfl
theorem Vz:(tK Tryz.prog 30).map (·.2)=some 1:=by rw [U_]; rfl
theorem Rr:(tK Tryz.prog 32).map (·.2)=some 11:=by rw [U5]; rfl
theorem Ug:(tK Tryz.prog 33).map (·.2)=some 1:=by rw [TL]; rfl
theorem Tk:(tK Tryz.prog 34).map (·.2)=some 1:=by rw [Ve]; rfl
theorem Bz:(tK Tryz.prog 36).map (·.2)=some 15:=by rw [Vg]; rfl
theorem UU:(tK Tryz.prog 42).map (·.2)=some 1:=by rw [Vr]; rfl
theorem OP:(tK Tryz.prog 47).map (·.2)=some 5:=by rw [Uw]; rfl
theorem Ui:(tK Tryz.prog 51).map (·.2)=some 1:=by rw [TI]; rfl
theorem c_:(tK Tryz.prog 53).map (·.2)=some 2:=by rw [TG]; rfl
theorem Uk:(tK Tryz.prog 54).map (·.2)=some 1:=by rw [UE]; rfl
theorem Qd:(tK Tryz.prog 56).map (·.2)=some 3:=by rw [Uy]; rfl
theorem Gg:(tK Tryz.prog 58).map (·.2)=some 7:=by rw [TR]; rfl
theorem UL:(tK Tryz.prog 71).map (·.2)=some 1:=by rw [Re]; rfl
theorem Rh:(tK Tryz.prog 73).map (·.2)=some 2:=by rw [TO]; rfl
theorem zK:(tK Tryz.prog 75).map (·.2)=some 3:=by rw [Vd]; rfl
theorem vm:(tK Tryz.prog 78).map (·.2)=some 2:=by rw [T_]; rfl
theorem RM:(tK Tryz.prog 80).map (·.2)=some 4:=by rw [Vu]; rfl
theorem GZ:(tK Tryz.prog 93).map (·.2)=some 15:=by rw [UK]; rfl
theorem JQ:(tK Tryz.prog 118).map (·.2)=some 9:=by rw [S9]; rfl
theorem Oh:(tK Tryz.prog 120).map (·.2)=some 3:=by rw [Rm]; rfl
theorem JH:(tK Tryz.prog 132).map (·.2)=some 2:=by rw [Ss]; rfl
theorem SB:(tK Tryz.prog 133).map (·.2)=some 8:=by rw [Sh]; rfl
theorem mM:(tK Tryz.prog 137).map (·.2)=some 4:=by rw [Tm]; rfl
theorem yV:(tK Tryz.prog 148).map (·.2)=some 1:=by rw [SK]; rfl
theorem EA:(tK Tryz.prog 153).map (·.2)=some 1:=by rw [QU]; rfl
theorem JF:(tK Tryz.prog 156).map (·.2)=some 1:=by rw [Ro]; rfl
theorem sB:(tK Tryz.prog 158).map (·.2)=some 2:=by rw [Q6]; rfl
theorem SH:(tK Tryz.prog 163).map (·.2)=some 1:=by rw [Sv]; rfl
theorem EZ:(tK Tryz.prog 175).map (·.2)=some 1:=by rw [Th]; rfl
theorem Sy:(tK Tryz.prog 176).map (·.2)=some 4:=by rw [Sq]; rfl
theorem JS:(tK Tryz.prog 196).map (·.2)=some 1:=by rw [Sc]; rfl
theorem QI:(tK Tryz.prog 204).map (·.2)=some 1:=by rw [QW]; rfl
theorem Q8:(tK Tryz.prog 250).map (·.2)=some 1:=by rw [QO]; rfl
theorem SU:(tK Tryz.prog 252).map (·.2)=some 3:=by rw [SC]; rfl
theorem zc:aE Tryz.prog 232=some (3,231,2):=by kernel_rfl
theorem JK:uB Tryz.prog 28 2=some 2:=by kernel_rfl
theorem KP:uB Tryz.prog 73 1=some 1:=by kernel_rfl
theorem Vc:sf Tryz.prog 58=true:=by kernel_rfl
theorem nZ (l:List aJ): ∀ v∈(l.map aJ.cells).flatten,v.oneCell'=true:=kR (fun _=>rfl) l
theorem kT (l:List ai): ∀ v∈(l.map ai.cells).flatten,v.oneCell'=true:=kR (fun _=>rfl) l
theorem wg (l:List cQ): ∀ v∈(l.map cQ.cells).flatten,v.oneCell'=true:=kR (fun _=>rfl) l
theorem uv (l:List aI): ∀ v∈(l.map aI.cells).flatten,v.oneCell'=true:=kR (fun _=>rfl) l
theorem vh (l:List aW): ∀ v∈(l.map aW.cells).flatten,v.oneCell'=true:=kR (fun _=>rfl) l
theorem sH (l:List au): ∀ v∈(l.map au.cells).flatten,v.oneCell'=true:=kR (fun _=>rfl) l
theorem we (l:List bK): ∀ v∈(l.map bK.cells).flatten,v.oneCell'=true:=kR (fun _=>rfl) l
theorem U1:tA Tryz.prog 22=some (118,9,72,(Value.agg [(vI 0),(vI 0),(vI 0),(vI 0),(vI 0),(vI 0),(vI 0),(Value.int .u8 0),(vI 0)].toArray)):=by kernel_rfl
theorem UX:tA Tryz.prog 25=some (73,2,32,(Value.agg [(vI 0),(vS none 0 0)].toArray)):=by kernel_rfl
theorem TE:tA Tryz.prog 26=some (122,4,32,(Value.agg [(vI 0),(vI 0),(vI 0),(vI 0)].toArray)):=by kernel_rfl
theorem r8:tA Tryz.prog 29=some (3,1,8,(vI 0)):=by kernel_rfl
theorem Vq:tA Tryz.prog 30=some (51,1,24,(vS none 0 0)):=by kernel_rfl
theorem Um:tA Tryz.prog 33=some (80,4,32,(Value.agg [(Value.int .u8 0),(vI 0),(vI 0),(vI 0)].toArray)):=by kernel_rfl
theorem RI:tA Tryz.prog 34=some (47,5,40,(Value.agg [(vI 0),(vI 0),(vI 0),(vI 0),(vI 0)].toArray)):=by kernel_rfl
theorem Ut:tA Tryz.prog 42=some (29,1,24,(vS none 0 0)):=by kernel_rfl
theorem Uj:tA Tryz.prog 51=some (58,7,64,(Value.agg [(vB false),(vB false),(vI 0),(vI 0),(vI 0),(vI 0),(vS none 0 0)].toArray)):=by kernel_rfl
theorem UO:tA Tryz.prog 54=some (78,2,16,(Value.agg [(vI 0),(vI 0)].toArray)):=by kernel_rfl
theorem TF:tA Tryz.prog 71=some (75,3,24,(Value.agg [(vI 0),(vI 0),(vI 0)].toArray)):=by kernel_rfl
theorem NL:tA Tryz.prog 147=some (153,1,8,(Value.map none)):=by kernel_rfl
theorem Bi:tA Tryz.prog 148=some (156,1,8,(Value.map none)):=by kernel_rfl
theorem N9:tA Tryz.prog 163=some (204,1,24,(vS none 0 0)):=by kernel_rfl
theorem FC:tA Tryz.prog 204=some (53,2,16,(Value.agg [(vI 0),(vI 0)].toArray)):=by kernel_rfl
theorem Oc:tA Tryz.prog 238=some (255,3,72,(Value.agg [(vS none 0 0),(vS none 0 0),(vS none 0 0)].toArray)):=by kernel_rfl
theorem SR:tA Tryz.prog 250=some (4,1,1,(vB false)):=by kernel_rfl
theorem Rx:tB Tryz.prog 24=some ([(vS none 0 0)],[(0,1)]):=by kernel_rfl
theorem Vt:tB Tryz.prog 28=some ([(vS none 0 0),(vI 0),(vS none 0 0),(vS none 0 0),(vI 0),(vI 0),(vI 0)],[(0,1),(1,1),(2,1),(3,1),(4,1),(5,1),(6,1)]):=by kernel_rfl
theorem U9:tB Tryz.prog 32=some ([(vS none 0 0),(vI 0),(vS none 0 0),(vS none 0 0),(vI 0),(vI 0),(vI 0),(vS none 0 0),(vS none 0 0),(vI 0),(vS none 0 0)],[(0,7),(7,1),(8,1),(9,1),(10,1)]):=by kernel_rfl
theorem UD:tB Tryz.prog 36=some ([(vS none 0 0),(vI 0),(vS none 0 0),(vS none 0 0),(vI 0),(vI 0),(vI 0),(vS none 0 0),(vS none 0 0),(vI 0),(vS none 0 0),(vS none 0 0),(vS none 0 0),(vI 0),(vI 0)],[(0,11),(11,1),(12,1),(13,1),(14,1)]):=by kernel_rfl
theorem O5:tB Tryz.prog 47=some ([(vI 0),(vI 0),(vI 0),(vI 0),(vI 0)],[(0,1),(1,1),(2,1),(3,1),(4,1)]):=by kernel_rfl
theorem g4:tB Tryz.prog 53=some ([(vI 0),(vI 0)],[(0,1),(1,1)]):=by kernel_rfl
theorem Uo:tB Tryz.prog 56=some ([(vI 0),(vI 0),(vS none 0 0)],[(0,1),(1,1),(2,1)]):=by kernel_rfl
theorem Sp:tB Tryz.prog 58=some ([(vB false),(vB false),(vI 0),(vI 0),(vI 0),(vI 0),(vS none 0 0)],[(0,1),(1,1),(2,2),(4,3)]):=by kernel_rfl
theorem Vp:tB Tryz.prog 73=some ([(vI 0),(vS none 0 0)],[(0,1),(1,1)]):=by kernel_rfl
theorem QX:tB Tryz.prog 75=some ([(vI 0),(vI 0),(vI 0)],[(0,1),(1,2)]):=by kernel_rfl
theorem Kb:tB Tryz.prog 78=some ([(vI 0),(vI 0)],[(0,1),(1,1)]):=by kernel_rfl
theorem MU:tB Tryz.prog 80=some ([(Value.int .u8 0),(vI 0),(vI 0),(vI 0)],[(0,1),(1,1),(2,1),(3,1)]):=by kernel_rfl
theorem Un:tB Tryz.prog 93=some ([(vS none 0 0),(vI 0),(vS none 0 0),(vS none 0 0),(vI 0),(vI 0),(vI 0),(vS none 0 0),(vS none 0 0),(vI 0),(vS none 0 0),(vS none 0 0),(vS none 0 0),(vI 0),(vI 0)],[(0,15)]):=by kernel_rfl
theorem SY:tB Tryz.prog 118=some ([(vI 0),(vI 0),(vI 0),(vI 0),(vI 0),(vI 0),(vI 0),(Value.int .u8 0),(vI 0)],[(0,1),(1,2),(3,2),(5,2),(7,1),(8,1)]):=by kernel_rfl
theorem KO:tB Tryz.prog 120=some ([(vI 0),(vI 0),(vI 0)],[(0,1),(1,2)]):=by kernel_rfl
theorem ID:tB Tryz.prog 122=some ([(vI 0),(vI 0),(vI 0),(vI 0)],[(0,3),(3,1)]):=by kernel_rfl
theorem Km:tB Tryz.prog 132=some ([Value.nilFunc,Value.nilFunc],[(0,1),(1,1)]):=by kernel_rfl
theorem Rn:tB Tryz.prog 133=some ([Value.nilFunc,Value.nilFunc,Value.nilFunc,Value.nilFunc,Value.nilFunc,Value.nilFunc,Value.nilFunc,Value.nilFunc],[(0,2),(2,2),(4,2),(6,2)]):=by kernel_rfl
theorem Fh:tB Tryz.prog 137=some ([(vI 0),(vI 0),(vB false),(vB false)],[(0,2),(2,1),(3,1)]):=by kernel_rfl
theorem NP:tB Tryz.prog 150=some ([(vS none 0 0),(vI 0),(vS none 0 0),(vS none 0 0),(vI 0),(vI 0),(vI 0),(vI 0),(vI 0),(vS none 0 0),(vS none 0 0),(vS none 0 0),(vS none 0 0),(vS none 0 0)],[(0,7),(7,3),(10,1),(11,1),(12,1),(13,1)]):=by kernel_rfl
theorem BW:tB Tryz.prog 158=some ([(vI 0),(vI 0)],[(0,1),(1,1)]):=by kernel_rfl
theorem Fv:tB Tryz.prog 175=some ([Value.nilFunc],[(0,1)]):=by kernel_rfl
theorem RW:tB Tryz.prog 176=some ([Value.nilFunc,Value.nilFunc,Value.nilFunc,Value.nilFunc],[(0,1),(1,1),(2,1),(3,1)]):=by kernel_rfl
theorem Q_:tB Tryz.prog 196=some ([(vS none 0 0)],[(0,1)]):=by kernel_rfl
theorem S3:tB Tryz.prog 212=some ([(vS none 0 0),(vI 0),(vS none 0 0),(vS none 0 0),(vI 0),(vI 0),(vI 0),(vS none 0 0),(vS none 0 0),(vI 0),(vS none 0 0),(vS none 0 0),(Value.map none)],[(0,11),(11,1),(12,1)]):=by kernel_rfl
theorem Rp:tB Tryz.prog 255=some ([(vS none 0 0),(vS none 0 0),(vS none 0 0)],[(0,1),(1,1),(2,1)]):=by kernel_rfl
theorem yo:tE Tryz.prog 22=some (118,9):=by kernel_rfl
theorem Ae:tE Tryz.prog 25=some (73,2):=by kernel_rfl
theorem v9:tE Tryz.prog 26=some (122,4):=by kernel_rfl
theorem dp:tE Tryz.prog 29=some (3,1):=by kernel_rfl
theorem oQ:tE Tryz.prog 30=some (51,1):=by kernel_rfl
theorem Ap:tE Tryz.prog 33=some (80,4):=by kernel_rfl
theorem yq:tE Tryz.prog 34=some (47,5):=by kernel_rfl
theorem yr:tE Tryz.prog 42=some (29,1):=by kernel_rfl
theorem sh:tE Tryz.prog 51=some (58,7):=by kernel_rfl
theorem yC:tE Tryz.prog 54=some (78,2):=by kernel_rfl
theorem MA:tE Tryz.prog 67=some (36,15):=by kernel_rfl
theorem xU:tE Tryz.prog 71=some (75,3):=by kernel_rfl
theorem NU:tE Tryz.prog 145=some (111,1):=by kernel_rfl
theorem xr:tE Tryz.prog 147=some (153,1):=by kernel_rfl
theorem ou:tE Tryz.prog 148=some (156,1):=by kernel_rfl
theorem HO:tE Tryz.prog 163=some (204,1):=by kernel_rfl
theorem lu:tE Tryz.prog 204=some (53,2):=by kernel_rfl
theorem Jc:tE Tryz.prog 216=some (120,3):=by kernel_rfl
theorem JG:tE Tryz.prog 229=some (231,2):=by kernel_rfl
theorem EU:tE Tryz.prog 238=some (255,3):=by kernel_rfl
theorem N_:tE Tryz.prog 250=some (4,1):=by kernel_rfl
theorem H7:(match Tryz.prog.underlying 53 with |some (.struct fs)=>(fs[0]?).map (fun fl=>tK Tryz.prog fl.type)|_=>none)=some (some (false,1)):=by kernel_rfl
theorem Kh:(match Tryz.prog.underlying 53 with |some (.struct fs)=>(fs[1]?).map (fun fl=>tK Tryz.prog fl.type)|_=>none)=some (some (false,1)):=by kernel_rfl
theorem VK:tV Tryz.prog 3=some (vI 0):=by kernel_rfl
theorem VP:tV Tryz.prog 4=some (vB false):=by kernel_rfl
theorem UN:tV Tryz.prog 53=some (Value.agg [(vI 0),(vI 0)].toArray):=by kernel_rfl
theorem IE:tX Tryz.prog 133=some (4,132):=by kernel_rfl
theorem Fj:tX Tryz.prog 176=some (4,175):=by kernel_rfl
theorem ky:tZ Tryz.prog 3=some [(vI 0)]:=by kernel_rfl
theorem VX:tZ Tryz.prog 4=some [(vB false)]:=by kernel_rfl
theorem U8:tZ Tryz.prog 24=some [(vS none 0 0)]:=by kernel_rfl
theorem RC:tZ Tryz.prog 28=some [(vS none 0 0),(vI 0),(vS none 0 0),(vS none 0 0),(vI 0),(vI 0),(vI 0)]:=by kernel_rfl
theorem QZ:tZ Tryz.prog 29=some [(vS none 0 0)]:=by kernel_rfl
theorem TP:tZ Tryz.prog 32=some [(vS none 0 0),(vI 0),(vS none 0 0),(vS none 0 0),(vI 0),(vI 0),(vI 0),(vS none 0 0),(vS none 0 0),(vI 0),(vS none 0 0)]:=by kernel_rfl
theorem zM:tZ Tryz.prog 36=some [(vS none 0 0),(vI 0),(vS none 0 0),(vS none 0 0),(vI 0),(vI 0),(vI 0),(vS none 0 0),(vS none 0 0),(vI 0),(vS none 0 0),(vS none 0 0),(vS none 0 0),(vI 0),(vI 0)]:=by kernel_rfl
theorem I9:tZ Tryz.prog 47=some [(vI 0),(vI 0),(vI 0),(vI 0),(vI 0)]:=by kernel_rfl
theorem U6:tZ Tryz.prog 51=some [(vS none 0 0)]:=by kernel_rfl
theorem ed:tZ Tryz.prog 53=some [(vI 0),(vI 0)]:=by kernel_rfl
theorem Rt:tZ Tryz.prog 56=some [(vI 0),(vI 0),(vS none 0 0)]:=by kernel_rfl
theorem Cu:tZ Tryz.prog 58=some [(vB false),(vB false),(vI 0),(vI 0),(vI 0),(vI 0),(vS none 0 0)]:=by kernel_rfl
theorem O2:tZ Tryz.prog 73=some [(vI 0),(vS none 0 0)]:=by kernel_rfl
theorem yw:tZ Tryz.prog 75=some [(vI 0),(vI 0),(vI 0)]:=by kernel_rfl
theorem Gz:tZ Tryz.prog 78=some [(vI 0),(vI 0)]:=by kernel_rfl
theorem P5:tZ Tryz.prog 80=some [(Value.int .u8 0),(vI 0),(vI 0),(vI 0)]:=by kernel_rfl
theorem Ht:tZ Tryz.prog 93=some [(vS none 0 0),(vI 0),(vS none 0 0),(vS none 0 0),(vI 0),(vI 0),(vI 0),(vS none 0 0),(vS none 0 0),(vI 0),(vS none 0 0),(vS none 0 0),(vS none 0 0),(vI 0),(vI 0)]:=by kernel_rfl
theorem SN:tZ Tryz.prog 111=some [Value.nilFunc]:=by kernel_rfl
theorem Fy:tZ Tryz.prog 118=some [(vI 0),(vI 0),(vI 0),(vI 0),(vI 0),(vI 0),(vI 0),(Value.int .u8 0),(vI 0)]:=by kernel_rfl
theorem Fk:tZ Tryz.prog 120=some [(vI 0),(vI 0),(vI 0)]:=by kernel_rfl
theorem RG:tZ Tryz.prog 122=some [(vI 0),(vI 0),(vI 0),(vI 0)]:=by kernel_rfl
theorem HQ:tZ Tryz.prog 132=some [Value.nilFunc,Value.nilFunc]:=by kernel_rfl
theorem Rb:tZ Tryz.prog 133=some [Value.nilFunc,Value.nilFunc,Value.nilFunc,Value.nilFunc,Value.nilFunc,Value.nilFunc,Value.nilFunc,Value.nilFunc]:=by kernel_rfl
theorem oq:tZ Tryz.prog 137=some [(vI 0),(vI 0),(vB false),(vB false)]:=by kernel_rfl
theorem SL:tZ Tryz.prog 153=some [(Value.map none)]:=by kernel_rfl
theorem tN:tZ Tryz.prog 158=some [(vI 0),(vI 0)]:=by kernel_rfl
theorem ED:tZ Tryz.prog 175=some [Value.nilFunc]:=by kernel_rfl
theorem SI:tZ Tryz.prog 176=some [Value.nilFunc,Value.nilFunc,Value.nilFunc,Value.nilFunc]:=by kernel_rfl
theorem Je:tZ Tryz.prog 196=some [(vS none 0 0)]:=by kernel_rfl
theorem NM:tZ Tryz.prog 204=some [(vS none 0 0)]:=by kernel_rfl
theorem Ok:tZ Tryz.prog 252=some [(vS none 0 0),(vS none 0 0),(vS none 0 0)]:=by kernel_rfl
theorem Sg:tZ Tryz.prog 255=some [(vS none 0 0),(vS none 0 0),(vS none 0 0)]:=by kernel_rfl
theorem sr:Tryz.prog.underlying 3=some (.int .i64):=by kernel_rfl
theorem VG:Tryz.prog.underlying 4=some .bool:=by kernel_rfl
theorem Mm:Tryz.prog.underlying 5=some (.int .u8):=by kernel_rfl
theorem VY:Tryz.prog.underlying 9=some .string:=by kernel_rfl
theorem Rz:Tryz.prog.underlying 22=some (.slice 118):=by kernel_rfl
theorem Vy:Tryz.prog.underlying 25=some (.slice 73):=by kernel_rfl
theorem OO:Tryz.prog.underlying 26=some (.slice 122):=by kernel_rfl
theorem UR:Tryz.prog.underlying 29=some (.slice 3):=by kernel_rfl
theorem Ua:Tryz.prog.underlying 30=some (.slice 51):=by kernel_rfl
theorem U3:Tryz.prog.underlying 33=some (.slice 80):=by kernel_rfl
theorem UJ:Tryz.prog.underlying 34=some (.slice 47):=by kernel_rfl
theorem Jq:Tryz.prog.underlying 45=some (.map 3 4):=by kernel_rfl
theorem TZ:Tryz.prog.underlying 51=some (.slice 58):=by kernel_rfl
theorem UY:Tryz.prog.underlying 54=some (.slice 78):=by kernel_rfl
theorem Sw:Tryz.prog.underlying 65=some (.int .u32):=by kernel_rfl
theorem Ux:Tryz.prog.underlying 71=some (.slice 75):=by kernel_rfl
theorem sk:Tryz.prog.underlying 153=some (.map 3 53):=by kernel_rfl
theorem o4:Tryz.prog.underlying 156=some (.map 158 3):=by kernel_rfl
theorem SV:Tryz.prog.underlying 245=some (.int .u64):=by kernel_rfl
theorem Q4:Tryz.prog.underlying 266=some (.int .u64):=by kernel_rfl
theorem O8:fL Tryz.prog 53=some [(3,0),(3,1)]:=by kernel_rfl
theorem N7 (d:Nat) (s z:ai) (w:World):(Op.equalIn (d+2) 53 (.agg s.cells.toArray) (.agg z.cells.toArray)).run Tryz.prog w= .ok (decide (s=z)) w:=by
 have hc:(decide (s.Lo=z.Lo)&&(decide (s.Hi=z.Hi)&&true))=decide (s=z):=by rw [Bool.eq_iff_iff]; simp [ai.ext_iff]
 rw [← hc]
 exact sQ (d+1) O8 w (mD w (g0 Dp U w) (g0 Dp U w) (oy _ sr w) (mD w (g0 Dp U w) (g0 Dp U w) (oy _ sr w) (Aq w)))
theorem wR (x y:Operand) (s z:ai):iW Tryz.prog .eql 53 x y (.agg s.cells.toArray) (.agg z.cells.toArray) (.bool (decide (s=z))):=yQ x y (xP O8) fun w=>N7 9998 s z w
theorem QF (x y:Operand) (s z:ai):iW Tryz.prog .neq 53 x y (.agg s.cells.toArray) (.agg z.cells.toArray) (.bool (!decide (s=z))):=Ga x y (xP O8) fun w=>N7 9998 s z w
theorem N3:fL Tryz.prog 158=some [(3,0),(3,1)]:=by kernel_rfl
theorem Pw (d:Nat) (s z:aL) (w:World):(Op.equalIn (d+2) 158 (.agg s.cells.toArray) (.agg z.cells.toArray)).run Tryz.prog w= .ok (decide (s=z)) w:=by
 have hc:(decide (s.right=z.right)&&(decide (s.eW=z.eW)&&true))=decide (s=z):=by rw [Bool.eq_iff_iff]; simp [aL.ext_iff]
 rw [← hc]
 exact sQ (d+1) N3 w (mD w (g0 Dp U w) (g0 Dp U w) (oy _ sr w) (mD w (g0 Dp U w) (g0 Dp U w) (oy _ sr w) (Aq w)))
theorem RY:fL Tryz.prog 80=some [(5,0),(3,1),(3,2),(3,3)]:=by kernel_rfl
theorem S_ (d:Nat) (s z:aW) (w:World):(Op.equalIn (d+2) 80 (.agg s.cells.toArray) (.agg z.cells.toArray)).run Tryz.prog w= .ok (decide (s=z)) w:=by
 have hc:(decide (s.Kind=z.Kind)&&(decide (s.ig=z.ig)&&(decide (s.mE=z.mE)&&(decide (s.To=z.To)&&true))))=decide (s=z):=by rw [Bool.eq_iff_iff]; simp [aW.ext_iff]
 rw [← hc]
 exact sQ (d+1) RY w (mD w (g0 VN U w) (g0 VN U w) (oy _ Mm w) (mD w (g0 Dp U w) (g0 Dp U w) (oy _ sr w) (mD w (g0 Dp U w) (g0 Dp U w) (oy _ sr w) (mD w (g0 Dp U w) (g0 Dp U w) (oy _ sr w) (Aq w)))))
theorem RR (x y:Operand) (s z:aW):iW Tryz.prog .eql 80 x y (.agg s.cells.toArray) (.agg z.cells.toArray) (.bool (decide (s=z))):=yQ x y (xP RY) fun w=>S_ 9998 s z w
theorem cy:Tryz.prog.follows .mixedOrders=true:=by kernel_rfl
def TT:C7:=⟨[(1,false,1),(2,false,1),(3,false,1),(4,false,1),(5,false,1),(6,false,1),(7,true,4),(8,true,4),(12,false,1),(15,false,1),(16,false,1),(17,false,1),(18,true,1),(19,true,1),(21,false,1),(22,false,1),(23,true,1),(24,true,1),(25,false,1),(26,false,1),(27,true,7),(28,true,7),(29,false,1),(30,false,1),(31,true,11),(32,true,11),(33,false,1),(34,false,1),(35,true,15),(36,true,15),(37,false,1),(38,false,1),(39,false,1),(41,false,1),(42,false,1),(44,false,1),(45,false,1),(46,true,5),(47,true,5),(49,false,1),(50,false,1),(51,false,1),(52,true,2),(53,true,2),(54,false,1),(55,true,3),(56,true,3),(57,true,7),(58,true,7),(59,false,1),(61,false,1),(63,false,1),(64,false,1),(65,false,1),(66,false,1),(67,false,1),(68,false,1),(69,false,1),(70,false,1),(71,false,1),(72,true,2),(73,true,2),(74,true,3),(75,true,3),(76,false,1),(77,true,2),(78,true,2),(79,true,4),(80,true,4),(81,false,1),(82,false,1),(83,false,1),(85,false,1),(86,false,1),(87,false,1),(88,false,1),(89,false,1),(90,false,1),(91,false,1),(92,true,15),(93,true,15),(95,false,1),(96,false,1),(97,false,1),(98,false,1),(99,false,1),(100,false,1),(101,false,1),(102,false,1),(103,false,1),(104,false,1),(105,false,1),(106,false,1),(107,false,1),(108,false,1),(110,false,1),(111,false,1),(112,false,1),(113,false,1),(114,false,1),(115,false,1),(116,false,1),(117,true,9),(118,true,9),(119,true,3),(120,true,3),(121,true,4),(122,true,4),(123,false,1),(124,false,1),(125,false,1),(126,false,1),(127,false,1),(128,false,1),(129,false,1),(130,false,1),(131,true,2),(132,true,2),(133,true,8),(134,false,1),(136,true,4),(137,true,4),(138,false,1),(139,false,1),(140,false,1),(141,false,1),(142,false,1),(143,false,1),(144,false,1),(145,false,1),(146,false,1),(147,false,1),(148,false,1),(149,true,14),(150,true,14),(151,false,1),(152,false,1),(153,false,1),(154,false,1),(155,false,1),(156,false,1),(157,true,2),(158,true,2),(159,false,1),(160,false,1),(161,false,1),(162,false,1),(163,false,1),(165,false,1),(166,false,1),(167,false,1),(168,false,1),(169,false,1),(170,false,1),(171,false,1),(172,false,1),(173,false,1),(174,false,1),(175,true,1),(176,true,4),(177,false,1),(178,false,1),(179,false,1),(180,false,1),(181,false,1),(183,false,1),(184,false,1),(186,false,1),(187,false,1),(189,false,1),(190,false,1),(191,false,1),(192,false,1),(193,false,1),(194,false,1),(195,true,1),(196,true,1),(198,false,1),(199,false,1),(201,false,1),(202,false,1),(203,false,1),(204,false,1),(206,false,1),(207,false,1),(208,false,1),(209,false,1),(210,false,1),(211,true,13),(212,true,13),(213,false,1),(214,false,1),(215,false,1),(216,false,1),(217,false,1),(218,false,1),(219,false,1),(220,false,1),(221,false,1),(222,false,1),(223,false,1),(224,false,1),(226,false,1),(227,false,1),(228,false,1),(229,false,1),(230,true,2),(231,true,2),(232,true,6),(233,false,1),(234,false,1),(235,false,1),(236,false,1),(237,false,1),(238,false,1),(240,false,1),(241,false,1),(242,false,1),(243,false,1),(244,false,1),(245,false,1),(246,false,1),(247,false,1),(248,false,1),(249,false,1),(250,false,1),(251,true,3),(252,true,3),(253,false,1),(254,true,3),(255,true,3),(256,false,1),(257,false,1),(259,false,1),(260,false,1),(261,false,1),(262,false,1),(263,false,1),(264,false,1),(265,false,1),(266,false,1),(267,false,1),(268,false,1),(269,false,1),(270,false,1),(271,false,1),(272,false,1),(273,false,1),(274,false,1),(275,false,1),(276,false,1),(277,false,1),(280,true,0),(281,true,0),(282,true,0),(283,false,1),(284,false,1),(285,false,1),(286,false,1),(287,false,1),(288,false,1),(289,false,1),(290,true,11),(291,true,11),(292,false,1),(294,false,1)],[(7,[some 0,some 1,some 2,some 3]),(8,[some 0,some 1,some 2,some 3]),(18,[some 0]),(19,[some 0]),(23,[some 0]),(24,[some 0]),(27,[some 0,some 1,some 2,some 3,some 4,some 5,some 6]),(28,[some 0,some 1,some 2,some 3,some 4,some 5,some 6]),(31,[some 0,some 7,some 8,some 9,some 10]),(32,[some 0,some 7,some 8,some 9,some 10]),(35,[some 0,some 11,some 12,some 13,some 14]),(36,[some 0,some 11,some 12,some 13,some 14]),(46,[some 0,some 1,some 2,some 3,some 4]),(47,[some 0,some 1,some 2,some 3,some 4]),(52,[some 0,some 1]),(53,[some 0,some 1]),(55,[some 0,some 1,some 2]),(56,[some 0,some 1,some 2]),(57,[some 0,some 1,some 2,some 4]),(58,[some 0,some 1,some 2,some 4]),(72,[some 0,some 1]),(73,[some 0,some 1]),(74,[some 0,some 1]),(75,[some 0,some 1]),(77,[some 0,some 1]),(78,[some 0,some 1]),(79,[some 0,some 1,some 2,some 3]),(80,[some 0,some 1,some 2,some 3]),(92,[some 0]),(93,[some 0]),(117,[some 0,some 1,some 3,some 5,some 7,some 8]),(118,[some 0,some 1,some 3,some 5,some 7,some 8]),(119,[some 0,some 1]),(120,[some 0,some 1]),(121,[some 0,some 3]),(122,[some 0,some 3]),(131,[some 0,some 1]),(132,[some 0,some 1]),(136,[some 0,some 2,some 3]),(137,[some 0,some 2,some 3]),(149,[some 0,some 7,some 10,some 11,some 12,some 13]),(150,[some 0,some 7,some 10,some 11,some 12,some 13]),(157,[some 0,some 1]),(158,[some 0,some 1]),(175,[some 0]),(195,[some 0]),(196,[some 0]),(211,[some 0,some 11,some 12]),(212,[some 0,some 11,some 12]),(230,[some 0,some 1]),(231,[some 0,some 1]),(251,[some 0,some 1,some 2]),(252,[some 0,some 1,some 2]),(254,[some 0,some 1,some 2]),(255,[some 0,some 1,some 2]),(290,[some 0,some 1,some 2,some 3,some 4,some 5,some 6,some 7,some 8,some 9,some 10]),(291,[some 0,some 1,some 2,some 3,some 4,some 5,some 6,some 7,some 8,some 9,some 10])],[22,25,26,29,30,33,34,42,51,54,67,71,145,147,148,163,204,216,229,238,250]⟩
theorem qm:lM Tryz.prog TT:=PZ kr
theorem cq {t:TypeId} {x:Bool×Nat} (h:TT.IP t=some x:=by rfl):tK Tryz.prog t=some x:=qm.IP h
theorem fK {s f k:Nat} (h:TT.foF s f=some k:=by rfl):uB Tryz.prog s f=some k:=qm.foF h
end
section
open Go.RowKit
/-- blocks that are read -/
def MM (C:List aB) (M:List (Nat×List Value)):Prop:= ∀ p∈M,∀ o vs,(p.2.drop o).take vs.length=vs→At C (some ⟨p.1,o,none⟩) vs
theorem I {C:List aB}:MM C []:=fun p h=>by cases h
theorem mc {C:List aB} {b t:Nat} {cs:List Value} {M:List (Nat×List Value)} (i:Nat) (hC:C[i]? =some (cx b t cs)) (h:MM C M):MM C ((b,cs)::M):=fun p hp o vs hv=>by
 rcases bW.1 hp with rfl|hp
 ·exact pI i hC hv
 ·exact h p hp o vs hv
theorem mr {C:List aB} {b t:Nat} {cs:List Value} {M:List (Nat×List Value)} (i:Nat) (hC:C[i]? =some (cx b t cs).ro) (h:MM C M):MM C ((b,cs)::M):=fun p hp o vs hv=>by
 rcases bW.1 hp with rfl|hp
 ·exact wk i hC hv
 ·exact h p hp o vs hv
def pK:List Prop→Prop
 |[]=>True
 |p::l=>p∧pK l
theorem kv {p:Prop} {l:List Prop} (h:p) (h2:pK l):pK (p::l):=⟨h,h2⟩
/-- the value of an operation, what it asks for, and what is left of the list of places -/
def pv (T:C7) (ops:Array Oper) (M:List (Nat×List Value)) (L:dD) (hs:List Nat) (g:Option (Nat×Bool)) (op:Op):Option (Value×List Prop×List Nat):=
 match CW ops L g with
 |true=>some (undef,[],hs)
 |false=>match kl ops L g with
  |false=>none
  |true=>match op with
   | .move x=>match ev L x with
    |some v=>some (v,[],hs)
    |none=>none
   | .assign x=>match ev L x with
    |some v=>some (v,[],hs)
    |none=>none
   | .pick c x y=>match ev L c with
    |some (.bool true)=>match ev L x with
     |some v=>some (v,[],hs)
     |none=>none
    |some (.bool false)=>match ev L y with
     |some v=>some (v,[],hs)
     |none=>none
    |_=>none
   | .unOp .not _ x=>match ev L x with
    |some (.bool b)=>some (.bool !b,[],hs)
    |_=>none
   | .extract x i=>match ev L x with
    |some (.tuple vs)=>match vs.toList[i]? with
     |some v=>some (v,[],hs)
     |none=>none
    |_=>none
   | .fieldAddr s x f=>match ev L x with
    |some (.pointer (some ⟨b,o,none⟩))=>match T.foF s f with
     |some k=>some (.pointer (some ⟨b,o+k,none⟩),[],hs)
     |none=>none
    |_=>none
   | .binOp op _ x y _=>match ev L x with
    |some (.int .i64 a)=>match ev L y with
     |some (.int .i64 b)=>match op with
      | .lss=>some (.bool (decide (a<b)),[],hs)
      | .leq=>some (.bool (decide (a≤b)),[],hs)
      | .gtr=>some (.bool (decide (b<a)),[],hs)
      | .geq=>some (.bool (decide (b≤a)),[],hs)
      | .eql=>some (.bool (decide (a=b)),[],hs)
      | .neq=>some (.bool (!decide (a=b)),[],hs)
      | .add=>some (.int .i64 (a+b),[-9223372036854775808≤a+b,a+b≤9223372036854775807],hs)
      | .sub=>some (.int .i64 (a-b),[-9223372036854775808≤a-b,a-b≤9223372036854775807],hs)
      |_=>none
     |_=>none
    |_=>none
   | .load t x=>match ev L x with
    |some (.pointer (some ⟨b,o,none⟩))=>match M[hs.headD 0]? with
     |some (b',cs)=>match T.IP t with
      |some (false,_)=>match cs[o]? with
       |some v=>some (v,[b'=b],hs.tail)
       |none=>none
      |some (true,n)=>match Nat.beq o 0 with
       |true=>match Nat.beq cs.length n with
        |true=>some (.agg cs.toArray,[b'=b],hs.tail)
        |false=>none
       |false=>none
      |none=>none
     |none=>none
    |_=>none
   | .call c=>match c with
    |{callee:= .builtin .len,args:=xs,argTypes:=ts}=>match xs.toList with
     |[x]=>match ts.toList with
      |[t]=>match ev L x with
       |some (.slice A n c)=>match Le T.sl t with
        |true=>some (.int .i64 n,[],hs)
        |false=>none
       |_=>none
      |_=>none
     |_=>none
    |_=>none
   |_=>none
section
variable {E:fB} {T:C7} {ops:Array Oper} {M:List (Nat×List Value)} {D:List Deferred} {L:List (Nat×Value)} {C:List aB} {hs hs':List Nat}
theorem vM {cs:List Value} {o:Nat} {v:Value} (h:cs[o]? =some v):(cs.drop o).take [v].length=[v]:=by
 obtain ⟨hl,rfl⟩:=aX.1 h
 rw [List.drop_eq_getElem_cons hl]; rfl
theorem S5 {o:Oper} {v:Value} {S:List Prop} (hT:lM E.P T) (hM:MM C M) (h:pv T ops M L hs o.guard o.op=some (v,S,hs')) (hS:pK S):SD E ops o D L C v:=by
 obtain ⟨dst,op,ty,ps,af,g⟩:=o
 unfold pv at h
 simp only at h
 split at h
 ·rename_i hg
  cases h
  exact Iz hg
 ·split at h
  ·cases h
  ·rename_i hg
   split at h
   ·split at h
    ·rename_i hx; cases h; exact FJ hg hx
    ·cases h
   ·split at h
    ·rename_i hx; cases h; exact zr hg hx
    ·cases h
   ·split at h
    ·rename_i hc
     split at h
     ·rename_i hx; cases h; exact yN hg hc hx
     ·cases h
    ·rename_i hc
     split at h
     ·rename_i hx; cases h; exact zq hg hc hx
     ·cases h
    ·cases h
   ·split at h
    ·rename_i hx; cases h; exact Jf hg hx
    ·cases h
   ·split at h
    ·rename_i vs hx
     split at h
     ·rename_i v' hv; cases h; exact wX (vs:=vs.toList) hg (by simpa using hx) hv
     ·cases h
    ·cases h
   ·split at h
    ·rename_i hx
     split at h
     ·rename_i hk; cases h; exact N2 hg hx (hT.foF hk) rfl
     ·cases h
    ·cases h
   ·split at h
    ·rename_i hx
     split at h
     ·rename_i hy
      split at h
      ·cases h; exact eu hg hx hy m0
      ·cases h; exact eu hg hx hy Rk
      ·cases h; exact eu hg hx hy EB
      ·cases h; exact eu hg hx hy EI
      ·cases h; exact eu hg hx hy lB
      ·cases h; exact eu hg hx hy xM
      ·cases h; exact eu hg hx hy (mL ⟨hS.1,hS.2.1⟩)
      ·cases h; exact eu hg hx hy (xY ⟨hS.1,hS.2.1⟩)
      ·cases h
     ·cases h
    ·cases h
   ·split at h
    ·rename_i hx
     split at h
     ·rename_i b' cs hm
      have A:=aQ hm
      split at h
      ·rename_i hk
       split at h
       ·rename_i hv
        cases h
        obtain rfl:=hS.1
        exact uQ hg hx (hT.IP hk) (hM _ A _ _ (vM hv))
       ·cases h
      ·rename_i n hk
       split at h
       ·rename_i ho
        split at h
        ·rename_i hn
         cases h
         obtain rfl:=hS.1
         have H:=Nat.eq_of_beq_eq_true ho
         subst H
         exact x7 hg hx (hT.IP hk) (hM _ A 0 cs sm) (Nat.eq_of_beq_eq_true hn)
        ·cases h
       ·cases h
      ·cases h
     ·cases h
    ·cases h
   ·split at h
    ·rename_i xs ts
     split at h
     ·rename_i x G
      split at h
      ·rename_i t F
       split at h
       ·rename_i hx
        split at h
        ·rename_i B
         cases h
         obtain ⟨e,he⟩:=hT.sl t (AZ B)
         have AA:xs= #[x]:=by apply Array.ext'; simpa using G
         have J:ts= #[t]:=by apply Array.ext'; simpa using F
         subst AA J
         exact J1 hg hx he
        ·cases h
       ·cases h
      ·cases h
     ·cases h
    ·cases h
   ·cases h
def pr (T:C7) (n:Nat) (ops:Array Oper) (M:List (Nat×List Value)):Nat→List Nat→dD→List Oper→Option (dD×List Oper×List Prop)
 |0,_,L,rest=>some (L,rest,[])
 |k+1,hs,L,[]=>none
 |k+1,hs,L,o::rest=>match o.dst with
  |none=>none
  |some d=>match Nat.blt d n with
   |false=>none
   |true=>match pv T ops M L hs o.guard o.op with
    |none=>none
    |some (v,S,hs')=>match pr T n ops M k hs' ((d,v)::L) rest with
     |none=>none
     |some (L',rest',S')=>some (L',rest',S++S')
theorem wO: ∀ {S S':List Prop},pK (S++S')→pK S∧pK S'
 |[],S',h=>⟨trivial,h⟩
 |p::S,S',h=>⟨⟨h.1,(wO h.2).1⟩,(wO h.2).2⟩
/-- whatever is closed under single steps -/
theorem HP {J:List Oper→dD→Prop} (hT:lM E.P T) (hM:MM C M) (hJ: ∀ o rest L d v,SD E ops o D L C v→o.dst=some d→Nat.blt d E.n=true→J rest ((d,v)::L)→J (o::rest) L):
 ∀ (k:Nat) (hs:List Nat) (L:dD) (rest:List Oper) {L':dD} {rest':List Oper} {S:List Prop},pr T E.n ops M k hs L rest=some (L',rest',S)→pK S→J rest' L'→J rest L
 |0,hs,L,rest,L',rest',S,h,hS,hj=>by
  unfold pr at h
  cases h
  exact hj
 |k+1,hs,L,[],L',rest',S,h,hS,hj=>by unfold pr at h; cases h
 |k+1,hs,L,o::rest,L',rest',S,h,hS,hj=>by
  unfold pr at h
  split at h
  ·cases h
  ·rename_i d hd
   split at h
   ·cases h
   ·rename_i hn
    split at h
    ·cases h
    ·rename_i v S1 A hv
     split at h
     ·cases h
     ·rename_i L1 G S2 hr
      cases h
      obtain ⟨B,F⟩:=wO hS
      exact hJ o rest L d v (S5 hT hM hv B) hd hn (HP hT hM hJ k A _ rest hr F hj)
variable {Q:dk} {rest rest':List Oper} {L0 L':List (Nat×Value)} {S:List Prop} {F:List (Nat×Value)→Prop}
/-- a run of operations, one after the other -/
theorem rP (k:Nat) (hs:List Nat) (hM:MM C M) (j:RJ E ops Q rest' D L' C) (hT:lM E.P T:=by exact qm) (h:pr T E.n ops M k hs L rest=some (L0,rest',S):=by rfl) (hL:L0=L':=by (try dsimp only)<;>rfl) (hS:pK S:=by repeat' first|exact True.intro |refine kv ?_ ?_ |exact rfl|omega|(dsimp only; omega)):RJ E ops Q rest D L C:=by
 subst hL
 exact HP (J:=fun r L=>RJ E ops Q r D L C) hT hM (fun o rest L d v A B F G=>Ts A B F G) k hs L rest h hS j
theorem dP (k:Nat) (hs:List Nat) (hM:MM C M) (j:DJ E ops D C F rest' L') (hT:lM E.P T:=by exact qm) (h:pr T E.n ops M k hs L rest=some (L0,rest',S):=by rfl) (hL:L0=L':=by (try dsimp only)<;>rfl) (hS:pK S:=by repeat' first|exact True.intro |refine kv ?_ ?_ |exact rfl|omega|(dsimp only; omega)):DJ E ops D C F rest L:=by
 subst hL
 exact HP (J:=fun r L=>DJ E ops D C F r L) hT hM (fun o rest L d v A B G H=>Su A B G H) k hs L rest h hS j
end
section
variable {P:Program} {r:Option Nat} {n:Nat} {B:BS} {w0:World} {ops:Array Oper} {M:List (Nat×List Value)} {D:List Deferred} {L L':List (Nat×Value)} {C:List aB} {Q:dk} {rest rest':List Oper} {S:List Prop} {F:List (Nat×Value)→Prop}
theorem e9 (k:Nat) (hs:List Nat) (hM:MM C M) (h:pr TT n ops M k hs L rest=some (L',rest',S)) (j:RJ ⟨P,r,n,B,w0⟩ ops Q rest' D L' C) (hS:pK S:=by repeat' first|exact True.intro |refine kv ?_ ?_ |exact rfl|omega|(dsimp only; omega)) (hT:lM P TT:=by exact qm):RJ ⟨P,r,n,B,w0⟩ ops Q rest D L C:=rP k hs hM j hT h rfl hS
theorem lR (k:Nat) (hs:List Nat) (hM:MM C M) (h:pr TT n ops M k hs L rest=some (L',rest',S)) (j:DJ ⟨P,r,n,B,w0⟩ ops D C F rest' L') (hS:pK S:=by repeat' first|exact True.intro |refine kv ?_ ?_ |exact rfl|omega|(dsimp only; omega)) (hT:lM P TT:=by exact qm):DJ ⟨P,r,n,B,w0⟩ ops D C F rest L:=dP k hs hM j hT h rfl hS
theorem bE (k:Nat) (h:pr TT n ops [] k [] L rest=some (L',rest',S)) (j:RJ ⟨P,r,n,B,w0⟩ ops Q rest' D L' C) (hS:pK S:=by repeat' first|exact True.intro |refine kv ?_ ?_ |exact rfl|omega|(dsimp only; omega)) (hT:lM P TT:=by exact qm):RJ ⟨P,r,n,B,w0⟩ ops Q rest D L C:=rP k [] I j hT h rfl hS
theorem k6 (k:Nat) (h:pr TT n ops [] k [] L rest=some (L',rest',S)) (j:DJ ⟨P,r,n,B,w0⟩ ops D C F rest' L') (hS:pK S:=by repeat' first|exact True.intro |refine kv ?_ ?_ |exact rfl|omega|(dsimp only; omega)) (hT:lM P TT:=by exact qm):DJ ⟨P,r,n,B,w0⟩ ops D C F rest L:=dP k [] I j hT h rfl hS
end
end
section
open Go.RowKit
/-- parts of a context, reckoned to the end -/
def oj (C:List aB):List Nat→Option (List aB)
 |[]=>some []
 |i::is=>match C[i]? with
  |some A=>match oj C is with
   |some l=>some (A::l)
   |none=>none
  |none=>none
theorem ni {C:List aB}: ∀ {is:List Nat} {C':List aB},oj C is=some C'→jR C is=C'
 |[],C',h=>by cases h; rfl
 |i::is,C',h=>by
  unfold oj at h
  split at h
  ·rename_i A hA
   split at h
   ·rename_i l hl
    cases h
    show List.filterMap (C[·]?) (i::is)=A::l
    rw [List.filterMap_cons_some hA]
    exact congrArg _ (ni hl)
   ·cases h
  ·cases h
/-- a part of a context in place of the whole -/
theorem aP {S:BS} {w0:World} {C C':List aB} (is:List Nat) (hn:decide is.Nodup=true:=by rfl) (hC:jR C is=C':=by rfl): ∀ w,St S w0 C w→St S w0 C' w:=fun w h=>St.jR is hn hC h
theorem QL {S:BS} {w0:World} {C C':List aB} (is:List Nat) (hC:oj C is=some C') (hn:decide is.Nodup=true:=by rfl): ∀ w,St S w0 C w→St S w0 C' w:=fun w h=>St.jR is hn (ni hC) h
def NH (C:List aB) (i:Nat) (B:aB):Option (List aB):=match i,C with
 |0,_::C=>some (B::C)
 |i+1,A::C=>match NH C i B with
  |some l=>some (A::l)
  |none=>none
 |_,[]=>none
theorem EY: ∀ {C:List aB} {i:Nat} {B:aB} {C':List aB},NH C i B=some C'→C.set i B=C'
 |[],0,B,C',h=>by cases h
 |[],i+1,B,C',h=>by cases h
 |A::C,0,B,C',h=>by cases h; rfl
 |A::C,i+1,B,C',h=>by
  unfold NH at h
  split at h
  ·rename_i l hl
   cases h
   exact congrArg _ (EY hl)
  ·cases h
theorem q9 {E:fB} {K:Act→World→Prop} {D:ib} {L:dD} {C C':List aB} {A B:aB} (i:Nat) (hC:C[i]? =some A) (hh:(∀ w,A.holds w→B.holds w)∧(∀ b,B.fE b→A.fE b)∧ ∀ b,B.wf b→A.wf b) (hC':NH C i B=some C') (h:KJ E K D L C'):KJ E K D L C:=IT i hC hh (EY hC') h
/-- the operations of a region but these; marks of some places -/
def Vo (n:Nat) (T:List Nat):List Nat:=(List.range n).filter fun i=> !T.contains i
def VE (k:Nat) (t:List Nat):List Bool:=(List.range k).map fun i=>t.contains i
theorem dM {E:fB} {id:Nat} {ops:Array Oper} {Q:dk} {D:ib} {L:dD} {C:List aB} (hm:E.P.follows .mixedOrders=true) (T fe tb i1 i2:List Nat) {C' C1:List aB} {free:List Nat} {feb tbb:List Bool}
 (h1:oj C i1=some C') (h2:oj C i2=some C1) (hf:free=Vo ops.size T) (hfe:feb=VE free.length fe) (htb:tbb=VE T.length tb)
 (h:qx E ops D C' C1 (fun L'=>TJ E ops D C' C1 (fun L C=>KJ E (Q .normal) D L C) tbb (eZ ops T) L' C) feb (eZ ops free) L)
 (hc:MH ops free T feb tbb=true:=by kernel_rfl) (n1:decide i1.Nodup=true:=by rfl) (n2:decide i2.Nodup=true:=by rfl):WJ E (.region id ops true) Q D L C:=
 Mz hm free T feb tbb C' C1 hc (QL i1 h1 n1) (QL i2 h2 n2) h
end
section
open Go.RowKit
def wj (T:C7) (M:List (Nat×List Value)) (L:dD):List ResultVar→List Nat→Option (List Value×List Prop)
 |[],_=>some ([],[])
 | .tmp t::rs,hs=>match L.lookup t with
  |some v=>match wj T M L rs hs with
   |some (vs,S)=>some (v::vs,S)
   |none=>none
  |none=>none
 | .cell a t::rs,hs=>match L.lookup a with
  |some (.pointer (some ⟨b,o,none⟩))=>match M[hs.headD 0]? with
   |some (b',cs)=>match T.IP t with
    |some (false,_)=>match cs[o]? with
     |some v=>match wj T M L rs hs.tail with
      |some (vs,S)=>some (v::vs,(b'=b)::S)
      |none=>none
     |none=>none
    |some (true,n)=>match Nat.beq o 0 with
     |true=>match Nat.beq cs.length n with
      |true=>match wj T M L rs hs.tail with
       |some (vs,S)=>some (.agg cs.toArray::vs,(b'=b)::S)
       |none=>none
      |false=>none
     |false=>match wj T M L rs hs.tail with
      |some (vs,S)=>some (.agg ((cs.drop o).take n).toArray::vs,(b'=b)::(((cs.drop o).take n).length=n)::S)
      |none=>none
    |none=>none
   |none=>none
  |_=>none
theorem ot {P:Program} {T:C7} {M:List (Nat×List Value)} {L:dD} {C:List aB} (hT:lM P T) (hM:MM C M): ∀ (rs:List ResultVar) (hs:List Nat) {vs:List Value} {S:List Prop},wj T M L rs hs=some (vs,S)→pK S→G3 P L C rs vs
 |[],_,vs,S,h,hS=>by unfold wj at h; cases h; exact trivial
 | .tmp t::rs,hs,vs,S,h,hS=>by
  unfold wj at h
  split at h
  ·rename_i v hv
   split at h
   ·rename_i vs' S' hr
    cases h
    exact ⟨hv,ot hT hM rs hs hr hS⟩
   ·cases h
  ·cases h
 | .cell a t::rs,hs,vs,S,h,hS=>by
  unfold wj at h
  split at h
  ·rename_i b o hl
   split at h
   ·rename_i b' cs hm
    have A:=aQ hm
    split at h
    ·rename_i hk
     split at h
     ·rename_i v hv
      split at h
      ·rename_i vs' S' hr
       cases h
       obtain ⟨rfl,hS⟩:=hS
       exact ⟨⟨_,hl,.inr ⟨_,hT.IP hk,hM _ A _ _ (vM hv)⟩⟩,ot hT hM rs _ hr hS⟩
      ·cases h
     ·cases h
    ·rename_i n hk
     split at h
     ·rename_i ho
      split at h
      ·rename_i hn
       split at h
       ·rename_i vs' S' hr
        cases h
        obtain ⟨rfl,hS⟩:=hS
        have D:=Nat.eq_of_beq_eq_true ho
        subst D
        exact ⟨⟨_,hl,.inl ⟨_,cs,hT.IP hk,hM _ A 0 cs sm,Nat.eq_of_beq_eq_true hn,U⟩⟩,ot hT hM rs _ hr hS⟩
       ·cases h
      ·cases h
     ·split at h
      ·rename_i vs' S' hr
       cases h
       obtain ⟨rfl,B,hS⟩:=hS
       exact ⟨⟨_,hl,.inl ⟨_,_,hT.IP hk,hM _ A o _ (by rw [B]),B,U⟩⟩,ot hT hM rs _ hr hS⟩
      ·cases h
    ·cases h
   ·cases h
  ·cases h
section
variable {P:Program} {n:Nat} {fn:Func} {w0:World} {K:Act→World→Prop} {L:List (Nat×Value)} {C:List aB} {M:List (Nat×List Value)} {vs:List Value} {S:List Prop} {u x v:Value}
theorem C5 (hQ: ∀ D L C,LJ ⟨P,none,n,s8,w0⟩ fn (zO w0 v) D L C→KJ ⟨P,none,n,s8,w0⟩ K D L C) (hs:List Nat) (hM:MM C M) (h:wj TT M L fn.results.toList hs=some ([u],S)) (e:u=v) (hS:pK S:=by repeat' first|exact True.intro |refine kv rfl ?_) (hT:lM P TT:=by exact qm):KJ ⟨P,none,n,s8,w0⟩ K [] L C:=
 hQ _ _ _ (jX (ot hT hM _ _ h hS) fun w hs=>Cq e hs)
theorem mY (hQ: ∀ D L C,LJ ⟨P,none,n,s8,w0⟩ fn (zO w0 v) D L C→KJ ⟨P,none,n,s8,w0⟩ K D L C) (hs:List Nat) (hM:MM C M) (h:wj TT M L fn.results.toList hs=some (u::x::vs,S)) (e:Value.tuple (u::x::vs).toArray=v) (hS:pK S:=by repeat' first|exact True.intro |refine kv rfl ?_) (hT:lM P TT:=by exact qm):KJ ⟨P,none,n,s8,w0⟩ K [] L C:=
 hQ _ _ _ (jX (ot hT hM _ _ h hS) fun w hs=>Cq e hs)
theorem LX {α:Type} {V:α→Value} {p:α→Prop} {N:α→List aB} (hQ: ∀ D L C,LJ ⟨P,none,n,s8,w0⟩ fn (Js w0 V p N) D L C→KJ ⟨P,none,n,s8,w0⟩ K D L C) (x:α) (is hs:List Nat) (hM:MM C M) (h:wj TT M L fn.results.toList hs=some (vs,S)) (hw:(N x).all (·.wr)=true) (hN:jR C is=N x) (hV:Qs vs=V x) (hp:p x) (hn:decide is.Nodup=true:=by rfl) (hS:pK S:=by repeat' first|exact True.intro |refine kv rfl ?_) (hT:lM P TT:=by exact qm):KJ ⟨P,none,n,s8,w0⟩ K [] L C:=
 hQ _ _ _ (jX (ot hT hM _ _ h hS) fun w hs=>PM x is hV hp hn hN hw hs)
theorem LM {A:aB} {α:Type} {V:α→Value} {p:α→Prop} {A':α→aB} (hQ: ∀ D L C,LJ ⟨P,none,n,⟨A.wf,fun _=>True⟩,w0⟩ fn (M9 w0 A V p A') D L C→KJ ⟨P,none,n,⟨A.wf,fun _=>True⟩,w0⟩ K D L C) (x:α) (i:Nat) (hs:List Nat) (hM:MM C M) (h:wj TT M L fn.results.toList hs=some (vs,S)) (hw:(A' x).wr=true) (hC:C[i]? =some (A' x)) (hV:Qs vs=V x) (hp:p x) (hS:pK S:=by repeat' exact True.intro) (hT:lM P TT:=by exact qm):KJ ⟨P,none,n,⟨A.wf,fun _=>True⟩,w0⟩ K [] L C:=
 hQ _ _ _ (jX (ot hT hM _ _ h hS) fun w hs=>Rl x i hV hp hC hw hs)
end
end
section
open Go.RowKit
def Ev {α:Type _}:List α→List α→Option (List α)
 |[],m=>some m
 |a::l,m=>match Ev l m with
  |some r=>some (a::r)
  |none=>none
theorem EO {α:Type _}: ∀ {l m r:List α},Ev l m=some r→l++m=r
 |[],m,r,h=>by cases h; rfl
 |a::l,m,r,h=>by
  unfold Ev at h
  split at h
  ·rename_i r' hr
   cases h
   exact congrArg (a:: ·) (EO hr)
  ·cases h
def Tt (L:dD):List Nat→Option (dD)
 |[]=>some []
 |t::ts=>match L.lookup t with
  |some v=>match Tt L ts with
   |some r=>some ((t,v)::r)
   |none=>none
  |none=>none
theorem FE {L M:dD} (k:dv L M): ∀ {ts:List Nat} {r:dD},Tt L ts=some r→dv L (r++M)
 |[],r,h=>by cases h; exact k
 |t::ts,r,h=>by
  unfold Tt at h
  split at h
  ·rename_i v hv
   split at h
   ·rename_i r' hr
    cases h
    exact dv.cons hv (FE k hr)
   ·cases h
  ·cases h
section
variable {E:fB} {Q:dk} {D:List Deferred} {L L0:List (Nat×Value)} {C C0:List aB} {ι:Type} {Li:ι→List (Nat×Value)} {Ci:ι→List aB}
theorem bQ {c:Code} (kL kC:List Nat) (hL:Tt L kL=some L0) (hC0:oj C kC=some C0) (S:ι→dD) (G:ι→List aB) (hLi: ∀ x,Ev L0 (S x)=some (Li x)) (hCi: ∀ x,Ev C0 (G x)=some (Ci x)) (μ:ι→Nat) (x0:ι)
 (h0:dv L (S x0)) (hC: ∀ w,St E.S E.w0 C w→St E.S E.w0 (Ci x0) w)
 (round: ∀ x (J:Act→World→Prop),(∀ y D' L' C',D'=D→μ y<μ x→dv L' (Li y)→(∀ w,St E.S E.w0 C' w→St E.S E.w0 (Ci y) w)→KJ E J D' L' C')→WJ E c (Exit.then J Q) D (Li x) (Ci x)):WJ E (.loop c) Q D L C:=
 Pv Li Ci μ x0 (EO (hLi x0)▸FE h0 hL) hC round
theorem kS {x y:Code} (kL kC:List Nat) (hL:Tt L kL=some L0) (hC0:oj C kC=some C0) (S:ι→dD) (G:ι→List aB) (hLi: ∀ x,Ev L0 (S x)=some (Li x)) (hCi: ∀ x,Ev C0 (G x)=some (Ci x))
 (hy: ∀ z,WJ E y Q D (Li z) (Ci z)) (h: ∀ K:Act→World→Prop,(∀ z,KJ E K D (Li z) (Ci z))→WJ E x (Exit.then K Q) D L C):WJ E (.seq x y) Q D L C:=Ou Li Ci hy h
end
end
section
open Go.RowKit
set_option linter.unusedSectionVars false
/-- what is asked of keys -/
structure uY (P:Program) (kt:Nat) {K:Type} (kV:K→Value):Prop where
 check: ∀ (e:Bool) (x:K) (w:World),(Instr.checkKey e 10000 kt (kV x)).run P w= .ok () w
 find: ∀ (x:K) (w:World) (es:List MapEntry),(∀ e∈es,∃ k,e.key=kV k)→
  ((Instr.findKey kt (kV x) es).run P w= .ok none w∧ ∀ e∈es,e.key≠kV x)∨ ∃ j e,(Instr.findKey kt (kV x) es).run P w= .ok (some (j,e.val)) w∧es[j]? =some e∧e.key=kV x
 bits: ∀ x,Instr.sameBits 10000 (kV x) (kV x)=true
 inj: ∀ x y,kV x=kV y→x=y
section
variable {K:Type} [DecidableEq K] {kV:K→Value}
def ep {β:Type} (l:List (K×β)) (x:K) (y:β):List (K×β):=if (l.lookup x).isSome then l.map (fun p=>if p.1=x then (x,y) else p) else l++[(x,y)]
def fz {β:Type} (l:List (K×β)) (x:K):List (K×β):=l.filter fun p=> !decide (p.1=x)
def cU {β γ:Type} (f:β→γ) (l:List (K×β)):List (K×γ):=l.map fun p=>(p.1,f p.2)
theorem nk {β γ:Type} (f:β→γ) (x:K): ∀ l:List (K×β),(cU f l).lookup x=(l.lookup x).map f
 |[]=>rfl
 |p::l=>by
  obtain ⟨k,v⟩:=p
  have ih:=nk f x l
  by_cases h:x=k
  ·subst h; simp [cU,List.lookup]
  ·have:(x==k)=false:=by simpa using h
   simp only [cU,List.map_cons,List.lookup,this] at ih ⊢
   exact ih
theorem gP {β γ:Type} (f:β→γ) (l:List (K×β)) (x:K) (y:β):cU f (ep l x y)=ep (cU f l) x (f y):=by
 unfold ep
 rw [nk,Option.isSome_map]
 split
 ·simp only [cU,List.map_map]
  refine List.map_congr_left fun p _=>?_
  simp only [Function.comp]
  split<;>rfl
 ·simp [cU]
theorem n9 {β γ:Type} (f:β→γ) (l:List (K×β)) (x:K):cU f (fz l x)=fz (cU f l) x:=by
 unfold fz cU
 rw [List.filter_map]
 rfl
theorem iz {β:Type} {x:K}: ∀ {l:List (K×β)},l.lookup x=none↔ ∀ p∈l,p.1≠x
 |[]=>by simp
 |p::l=>by
  obtain ⟨k,v⟩:=p
  by_cases h:x=k
  ·subst h; simp [List.lookup]
  ·have hb:(x==k)=false:=by simpa using h
   simp only [List.lookup,hb,bW,forall_eq_or_imp]
   rw [iz (l:=l)]
   exact ⟨fun q=>⟨fun e=>h e.symm,q⟩,fun q=>q.2⟩
theorem lq {β:Type} {x:K} {y:β}: ∀ {l:List (K×β)},(l.map (·.1)).Nodup→((x,y)∈l↔l.lookup x=some y)
 |[],_=>by simp
 |p::l,hn=>by
  obtain ⟨k,v⟩:=p
  simp only [List.map_cons,List.nodup_cons] at hn
  by_cases h:x=k
  ·subst h
   simp only [List.lookup,beq_self_eq_true,bW,Prod.mk.injEq,true_and,Option.some.injEq]
   constructor
   ·rintro (e|e)
    ·exact e.symm
    ·exact absurd (cz.2 ⟨_,e,U⟩) hn.1
   ·intro e; exact .inl e.symm
  ·have hb:(x==k)=false:=by simpa using h
   simp only [List.lookup,hb,bW,Prod.mk.injEq,h,false_and,false_or]
   exact lq hn.2
structure jt (kV:K→Value) (es:Array MapEntry) (c:Nat) (m:List (K×Value)):Prop where
 list:es.toList.map (fun (e:MapEntry)=>(e.key,e.val))=m.map (fun p=>(kV p.1,p.2))
 keys:(m.map (·.1)).Nodup
 KV: ∀ e∈es.toList,e.born<c
 born:(es.toList.map (·.born)).Nodup
def kj (kV:K→Value) (b:Nat) (m:List (K×Value)):aB where
 fE k:=k=b
 wf k:=k=b
 holds w:= ∃ es c,w.heap[b]? =some (.map es c)∧jt kV es c m
 wr:=true
 kz _ h:=h
 whole _ _ h:=h
 lt w h k hk:=by obtain ⟨es,c,he,_⟩:=h; exact hk▸dN he
 oW w w' hk h:=by obtain ⟨es,c,he,hm⟩:=h; exact ⟨es,c,(hk b rfl).trans he,hm⟩
theorem jt.nil:jt kV #[] 0 []:=⟨rfl,List.nodup_nil,sm,List.nodup_nil⟩
theorem jt.size {es:Array MapEntry} {c:Nat} {m:List (K×Value)} (h:jt kV es c m):es.size=m.length:=by
 have:=congrArg List.length h.list
 simpa using this
theorem Ek {P:Program} {kt:Nat} (hk:uY P kt kV) (x:K): ∀ (es:List MapEntry) (m:List (K×Value)),es.map (fun (e:MapEntry)=>(e.key,e.val))=m.map (fun p=>(kV p.1,p.2))→
 ((∀ e∈es,e.key≠kV x)→m.lookup x=none)∧ ∀ (j:Nat) (e:MapEntry),es[j]? =some e→e.key=kV x→m[j]? =some (x,e.val):=by
 intro es m h
 refine ⟨fun hn=>iz.2 fun p hp e=>?_,fun j e he hx=>?_⟩
 ·have:(kV p.1,p.2)∈es.map (fun (e:MapEntry)=>(e.key,e.val)):=by rw [h]; exact cz.2 ⟨p,hp,rfl⟩
  obtain ⟨z,hz,B⟩:=cz.1 this
  simp only [Prod.mk.injEq] at B
  exact hn z hz (by rw [B.1,e])
 ·have A:(es.map (fun (e:MapEntry)=>(e.key,e.val)))[j]? =some (e.key,e.val):=by rw [fX,he]; rfl
  rw [h,fX] at A
  cases hm:m[j]? with
  |none=>simp [hm] at A
  |some p=>
   simp only [hm,Option.map_some,Option.some.injEq,Prod.mk.injEq] at A
   have:=hk.inj _ _ (A.1.trans hx)
   obtain ⟨k,v⟩:=p
   simp only at this A
   rw [this,A.2]
theorem o_ {P:Program} {w:World} {kt:Nat} {x:K} {es:Array MapEntry} {c:Nat} {m:List (K×Value)} (hk:uY P kt kV) (h:jt kV es c m):
 ((Instr.findKey kt (kV x) es.toList).run P w= .ok none w∧m.lookup x=none)∨
 ∃ j v,(Instr.findKey kt (kV x) es.toList).run P w= .ok (some (j,v)) w∧m[j]? =some (x,v)∧m.lookup x=some v:=by
 obtain ⟨D,E⟩:=Ek hk x es.toList m h.list
 rcases hk.find x w es.toList (fun e he=>by
  have:(e.key,e.val)∈m.map (fun p=>(kV p.1,p.2)):=by rw [← h.list]; exact cz.2 ⟨e,he,rfl⟩
  obtain ⟨p,_,hp⟩:=cz.1 this
  simp only [Prod.mk.injEq] at hp
  exact ⟨p.1,hp.1.symm⟩) with ⟨A,B⟩|⟨j,e,A,B,C⟩
 ·exact .inl ⟨A,D B⟩
 ·have:=E j e B C
  exact .inr ⟨j,e.val,A,this,(lq h.keys).1 (aQ this)⟩
theorem jl {P:Program} {w:World} {kt:Nat} {x:K} (hk:uY P kt kV) (e:Bool):(Instr.checkKey e 10000 kt (kV x)).run P w= .ok () w:=hk.check e x w
section
variable {E:fB} {ops:Array Oper} {Q:dk} {rest:List Oper} {D:List Deferred} {L:List (Nat×Value)} {C:List aB}
variable {dst:Option Tmp} {d:Nat} {ty:TypeId} {ps:String} {af:Array Edge} {g:Option (Nat×Bool)}
theorem mG {t:TypeId} (hg:kl ops L g=true) (hd:Nat.blt d E.n=true) (k: ∀ b,RJ E ops Q rest D ((d,.map (some b))::L) (kj kV b []::C)):RJ E ops Q (⟨some d,.makeMap t none,ty,ps,af,g⟩::rest) D L C:=by
 intro a w B hs
 have hd':d<E.n:=by rw [← Nat.blt_eq]; exact hd
 unfold sG
 rw [if_pos (eG B hg)]
 refine jk (v:= .map (some w.heap.size)) (w':=w.alloc (.map #[] 0)) sm ?_ ?_
 ·simp [execOp,Instr.makeMap,newObj,Sem.run]
 ·refine k _ _ _ (B.put hd' _) (hs.grow (dV.alloc no w _) (N:=[kj kV w.heap.size []]) ⟨fun A hA=>?_,fun A hA b hb=>?_,List.pairwise_singleton _ _⟩)
  ·simp at hA; subst hA; exact ⟨#[],0,heap_alloc_new w _,jt.nil⟩
  ·simp at hA; subst hA; exact Nat.le_of_eq (Eq.symm hb)
theorem jt.push {es:Array MapEntry} {c:Nat} {m:List (K×Value)} (h:jt kV es c m) {x:K} (hx:m.lookup x=none) (v:Value):jt kV (es.push {key:=kV x,val:=v,born:=c}) (c+1) (m++[(x,v)]):=by
 refine ⟨by simp [h.list],?_,?_,?_⟩
 ·rw [List.map_append,List.nodup_append]
  refine ⟨h.keys,sm,fun a ha b hb=>?_⟩
  simp at hb; subst hb
  obtain ⟨p,hp,rfl⟩:=cz.1 ha
  exact iz.1 hx p hp
 ·intro e he
  simp only [Array.toList_push,gI,cu] at he
  rcases he with he|rfl
  ·exact Nat.lt_succ_of_lt (h.KV e he)
  ·exact Nat.lt_succ_self _
 ·simp only [Array.toList_push,List.map_append,List.map_cons,List.map_nil]
  rw [List.nodup_append]
  refine ⟨h.born,sm,fun a ha b hb=>?_⟩
  simp at hb; subst hb
  obtain ⟨p,hp,rfl⟩:=cz.1 ha
  exact Nat.ne_of_lt (h.KV p hp)
theorem Mf {m:List (K×Value)} {j:Nat} {x:K} {v0 v:Value} (hn:(m.map (·.1)).Nodup) (hj:m[j]? =some (x,v0)):m.map (fun p=>if p.1=x then (x,v) else p)=m.set j (x,v):=by
 refine List.ext_getElem? fun i=>?_
 rw [fX,List.getElem?_set]
 by_cases e:j=i
 ·subst e
  have hl:=(aX.1 hj).1
  rw [hj]; simp [hl]
 ·rw [if_neg e]
  cases hi:m[i]? with
  |none=>rfl
  |some p=>
   simp only [Option.map_some]
   rw [if_neg]
   intro hp
   have B:(m.map (·.1))[i]? =some x:=by rw [fX,hi]; simp [hp]
   have C:(m.map (·.1))[j]? =some x:=by rw [fX,hj]; rfl
   have A:=(aX.1 B).1
   exact e (((List.getElem?_inj A hn).1 (B.trans C.symm)).symm)
theorem jt.set {es:Array MapEntry} {c:Nat} {m:List (K×Value)} (h:jt kV es c m) {x:K} {j:Nat} {v0:Value} (hj:m[j]? =some (x,v0)) (hx:m.lookup x=some v0) (v:Value):
 jt kV (es.modify j fun e=>{e with key:=kV x,val:=v}) c (ep m x v):=by
 have C:ep m x v=m.set j (x,v):=by unfold ep; rw [hx]; simpa using Mf h.keys hj
 have hl:=(aX.1 hj).1
 have E:=h.size
 have A:j<es.size:=by omega
 have B:(es.modify j fun e=>{e with key:=kV x,val:=v}).toList=es.toList.set j {(es[j]) with key:=kV x,val:=v}:=by
  refine List.ext_getElem? fun i=>?_
  rw [Array.getElem?_toList,Array.getElem?_modify,List.getElem?_set]
  by_cases e:j=i
  ·subst e; simp [A]
  ·simp [e]
 have D:(es.toList.set j {(es[j]) with key:=kV x,val:=v}).map (·.born)=es.toList.map (·.born):=by
  rw [List.map_set]
  refine List.ext_getElem? fun i=>?_
  rw [List.getElem?_set]
  by_cases e:j=i
  ·subst e; simp [A]
  ·rw [if_neg e]
 refine ⟨?_,?_,?_,?_⟩
 ·rw [B,C,List.map_set,List.map_set,h.list]
 ·rw [C,List.map_set]
  have:(m.map (·.1)).set j x=m.map (·.1):=by
   refine List.ext_getElem? fun i=>?_
   rw [List.getElem?_set]
   by_cases e:j=i
   ·subst e; simp [hl]; simpa using (congrArg Prod.fst ((aX.1 hj).2)).symm
   ·rw [if_neg e]
  simp only [this]
  exact h.keys
 ·intro e he
  rw [B] at he
  have hb:e.born∈(es.toList.set j {(es[j]) with key:=kV x,val:=v}).map (·.born):=cz.2 ⟨e,he,rfl⟩
  rw [D] at hb
  obtain ⟨e',he',hq⟩:=cz.1 hb
  rw [← hq]; exact h.KV e' he'
 ·rw [B,D]; exact h.born
/-- m[x] = y -/
theorem jc {t kt et:TypeId} {xm xk xv:Operand} {b:Nat} {x:K} {v:Value} {m m':List (K×Value)} {C':List aB} (i:Nat) (hg:kl ops L g=true) (hm:ev L xm=some (.map (some b))) (hk:ev L xk=some (kV x)) (hv:ev L xv=some v)
 (ht:E.P.underlying t=some (.map kt et)) (hkt:uY E.P kt kV) (hC:C[i]? =some (kj kV b m)) (hm':ep m x v=m') (hC':C.set i (kj kV b m')=C') (k:RJ E ops Q rest D L C'):
 RJ E ops Q (⟨none,.mapUpdate t xm xk xv,ty,ps,af,g⟩::rest) D L C:=by
 subst hm' hC'
 intro a w A hs
 unfold sG
 rw [if_pos (eG A hg)]
 obtain ⟨es,c,he,hi⟩:=hs.holds _ (aQ hC)
 have B:(getObj b).run E.P w= .ok (.map es c) w:=MapKept.run_getObj_map he
 rcases o_ (P:=E.P) (w:=w) (x:=x) hkt hi with ⟨AA,F⟩|⟨j,N,AA,F,J⟩
 ·refine rZ (w':={w with heap:=w.heap.setIfInBounds b (.map (es.push {key:=kV x,val:=v,born:=c}) (c+1))}) sm ?_ ?_
  ·simp [execOp,A.ev hm,A.ev hk,A.ev hv,Instr.mapUpdate,run_underlying ht,B,jl hkt,AA,MapKept.run_setObj_map _ he]
  ·refine k _ _ ⟨A.defers,A.size,A.at_⟩ (hs.ze (b:=b) i hC U U (nD _) (fun _ h=>h) ⟨_,_,pH he,?_⟩)
   have:ep m x v=m++[(x,v)]:=by unfold ep; rw [F]; rfl
   rw [this]; exact hi.push F v
 ·have M:=hi.size
  have G:j<es.size:=by have:=(aX.1 F).1; omega
  have H:(es[j]).key=kV x:=by
   have:=congrArg (fun l=>l[j]?) hi.list
   simp [G,F] at this
   exact this.1
  refine rZ (w':={w with heap:=w.heap.setIfInBounds b (.map (es.modify j fun e=>{e with key:=kV x,val:=v}) c)}) sm ?_ ?_
  ·simp [execOp,A.ev hm,A.ev hk,A.ev hv,Instr.mapUpdate,run_underlying ht,B,jl hkt,AA,MapKept.run_setObj_map _ he,Instr.keyThatStays,G,H,hkt.bits x]
  ·exact k _ _ ⟨A.defers,A.size,A.at_⟩ (hs.ze (b:=b) i hC U U (nD _) (fun _ h=>h) ⟨_,_,pH he,hi.set F J v⟩)
theorem jt.del {es:Array MapEntry} {c:Nat} {m:List (K×Value)} (h:jt kV es c m) {x:K} {j:Nat} {v0:Value} (hj:m[j]? =some (x,v0)):jt kV (es.eraseIdxIfInBounds j) c (fz m x):=by
 have hl:=(aX.1 hj).1
 have D:=h.size
 have A:j<es.size:=by omega
 have B:(es.eraseIdxIfInBounds j).toList=es.toList.eraseIdx j:=by simp [Array.eraseIdxIfInBounds,A]
 have E:fz m x=m.eraseIdx j:=by
  have hn:=h.keys
  clear h D A B
  induction m generalizing j with
  |nil=>simp at hj
  |cons p m ih=>
   obtain ⟨k,v⟩:=p
   simp only [List.map_cons,List.nodup_cons] at hn
   cases j with
   |zero=>
    simp at hj
    obtain ⟨rfl,rfl⟩:=hj
    simp only [fz,List.eraseIdx_zero,List.tail_cons]
    rw [List.filter_cons_of_neg sm]
    refine List.filter_eq_self.2 fun p hp=>?_
    have:p.1≠k:=fun e=>hn.1 (cz.2 ⟨p,hp,e⟩)
    simpa using this
   |succ j=>
    simp only [List.getElem?_cons_succ] at hj
    have C:k≠x:=fun e=>hn.1 (cz.2 ⟨_,aQ hj,e.symm⟩)
    simp only [fz,List.eraseIdx_cons_succ] at ih ⊢
    rw [List.filter_cons_of_pos (by simpa using C),ih hj (by simpa using (aX.1 hj).1) hn.2]
 have sub:(es.eraseIdxIfInBounds j).toList.Sublist es.toList:=by rw [B]; exact List.eraseIdx_sublist _ _
 refine ⟨?_,?_,fun e he=>h.KV e (sub.subset he),h.born.sublist (sub.map _)⟩
 ·rw [B,E,ChangeMaps.map_eraseIdx,ChangeMaps.map_eraseIdx,h.list]
 ·rw [E]; exact h.keys.sublist ((List.eraseIdx_sublist _ _).map _)
theorem D3 {m:List (K×Value)} {x:K} (h:m.lookup x=none):fz m x=m:=List.filter_eq_self.2 fun p hp=>by simpa using iz.1 h p hp
/-- y, ok := m[x] -/
theorem HT {t kt et:TypeId} {xm xk:Operand} {b:Nat} {x:K} {z:Value} {m:List (K×Value)} (hg:kl ops L g=true) (hm:ev L xm=some (.map (some b))) (hk:ev L xk=some (kV x))
 (ht:E.P.underlying t=some (.map kt et)) (hkt:uY E.P kt kV) (hz:tV E.P et=some z) (hC:iH C (kj kV b m).holds):
 SD E ops ⟨dst,.lookup t xm xk true,ty,ps,af,g⟩ D L C (.tuple [(m.lookup x).getD z,.bool (m.lookup x).isSome].toArray):=
 eV hg sm fun a w A hs=>by
  obtain ⟨es,c,he,hi⟩:=hs.has hC
  have B:(getObj b).run E.P w= .ok (.map es c) w:=MapKept.run_getObj_map he
  rcases o_ (P:=E.P) (w:=w) (x:=x) hkt hi with ⟨F,G⟩|⟨j,AA,F,G,H⟩
  ·simp [execOp,Instr.lookup,A.ev hm,A.ev hk,run_underlying ht,B,jl hkt,F,G,Il hz]
  ·simp [execOp,Instr.lookup,A.ev hm,A.ev hk,run_underlying ht,B,jl hkt,F,H]
/-- m[x] -/
theorem GW {t kt et:TypeId} {xm xk:Operand} {b:Nat} {x:K} {z:Value} {m:List (K×Value)} (hg:kl ops L g=true) (hm:ev L xm=some (.map (some b))) (hk:ev L xk=some (kV x))
 (ht:E.P.underlying t=some (.map kt et)) (hkt:uY E.P kt kV) (hz:tV E.P et=some z) (hC:iH C (kj kV b m).holds):
 SD E ops ⟨dst,.lookup t xm xk false,ty,ps,af,g⟩ D L C ((m.lookup x).getD z):=
 eV hg sm fun a w A hs=>by
  obtain ⟨es,c,he,hi⟩:=hs.has hC
  have B:(getObj b).run E.P w= .ok (.map es c) w:=MapKept.run_getObj_map he
  rcases o_ (P:=E.P) (w:=w) (x:=x) hkt hi with ⟨F,G⟩|⟨j,AA,F,G,H⟩
  ·simp [execOp,Instr.lookup,A.ev hm,A.ev hk,run_underlying ht,B,jl hkt,F,G,Il hz]
  ·simp [execOp,Instr.lookup,A.ev hm,A.ev hk,run_underlying ht,B,jl hkt,F,H]
theorem sK {β:Type} {t kt et:TypeId} {xm xk:Operand} {b:Nat} {x:K} {f:β→Value} {z:β} {l:List (K×β)} (hg:kl ops L g=true) (hm:ev L xm=some (.map (some b))) (hk:ev L xk=some (kV x))
 (ht:E.P.underlying t=some (.map kt et)) (hkt:uY E.P kt kV) (hz:tV E.P et=some (f z)) (hC:iH C (kj kV b (cU f l)).holds):
 SD E ops ⟨dst,.lookup t xm xk true,ty,ps,af,g⟩ D L C (.tuple [f ((l.lookup x).getD z),.bool (l.lookup x).isSome].toArray):=by
 have:=HT (dst:=dst) (ty:=ty) (ps:=ps) (af:=af) (D:=D) hg hm hk ht hkt hz hC
 rw [nk] at this
 have A:((l.lookup x).map f).getD (f z)=f ((l.lookup x).getD z):=by cases l.lookup x<;>rfl
 rw [A,Option.isSome_map] at this
 exact this
theorem vE {β:Type} {t kt et:TypeId} {xm xk:Operand} {b:Nat} {x:K} {f:β→Value} {z:β} {l:List (K×β)} (hg:kl ops L g=true) (hm:ev L xm=some (.map (some b))) (hk:ev L xk=some (kV x))
 (ht:E.P.underlying t=some (.map kt et)) (hkt:uY E.P kt kV) (hz:tV E.P et=some (f z)) (hC:iH C (kj kV b (cU f l)).holds):
 SD E ops ⟨dst,.lookup t xm xk false,ty,ps,af,g⟩ D L C (f ((l.lookup x).getD z)):=by
 have:=GW (dst:=dst) (ty:=ty) (ps:=ps) (af:=af) (D:=D) hg hm hk ht hkt hz hC
 rw [nk] at this
 have A:((l.lookup x).map f).getD (f z)=f ((l.lookup x).getD z):=by cases l.lookup x<;>rfl
 rw [A] at this
 exact this
end
theorem mO {β:Type} {x:K} {y:β} {l:List (K×β)} (h:(x,y)∈l):(fz l x).length<l.length:=by
 unfold fz
 exact List.length_filter_lt_length_iff_exists.2 ⟨_,h,sm⟩
theorem yF {β:Type} {x:K} {p:K×β} {l:List (K×β)}:p∈fz l x↔p∈l∧p.1≠x:=by simp [fz]
/-- an iterator over a map: what is left; what came last -/
def AH (kV:K→Value) (r b:Nat) (m left:List (K×Value)) (cur:Option (K×Value)):aB where
 fE k:=k=r∨k=b
 wf k:=k=r∨k=b
 holds w:=r≠b∧ ∃ (es:Array MapEntry) (c since:Nat) (seen:Array Nat) (st:Nat),w.heap[b]? =some (.map es c)∧jt kV es c m∧w.heap[r]? =some (.mapIter (some b) since seen st)∧(∀ e∈es.toList,e.born<since)∧since≤st∧since≤c∧
  (leftOf es seen).toList.map (fun (e:MapEntry)=>(e.key,e.val))=left.map (fun p=>(kV p.1,p.2))∧
  ∀ p,cur=some p→ ∃ (e:MapEntry) (seen0:Array Nat),e∈es.toList∧seen=seen0.push e.born∧st=c∧e.key=kV p.1∧e.val=p.2
 wr:=true
 kz _ h:=h
 whole _ _ h:=h
 lt w h k hk:=by
  obtain ⟨_,es,c,since,seen,st,h1,_,h2,_⟩:=h
  rcases hk with rfl|rfl
  ·exact dN h2
  ·exact dN h1
 oW w w' hk h:=by
  obtain ⟨hne,es,c,since,seen,st,h1,h2,h3,h4⟩:=h
  exact ⟨hne,es,c,since,seen,st,(hk b (.inr rfl)).trans h1,h2,(hk r (.inl rfl)).trans h3,h4⟩
theorem BG {r b:Nat} {m left:List (K×Value)} {cur:Option (K×Value)}:(∀ w,(AH kV r b m left cur).holds w→(AH kV r b m left none).holds w)∧(∀ k,(AH kV r b m left none).fE k→(AH kV r b m left cur).fE k)∧ ∀ k,(AH kV r b m left none).wf k→(AH kV r b m left cur).wf k:=
 ⟨fun w h=>by
  obtain ⟨A,es,c,since,seen,st,B,C,D,E,F,h5',G,_⟩:=h
  exact ⟨A,es,c,since,seen,st,B,C,D,E,F,h5',G,fun p hp=>by cases hp⟩,fun _ h=>h,fun _ h=>h⟩
theorem Kn {r b:Nat} {m left:List (K×Value)} {cur:Option (K×Value)}:(∀ w,(AH kV r b m left cur).holds w→(kj kV b m).holds w)∧(∀ k,(kj kV b m).fE k→(AH kV r b m left cur).fE k)∧ ∀ k,(kj kV b m).wf k→(AH kV r b m left cur).wf k:=
 ⟨fun w h=>by
  obtain ⟨C,es,c,since,seen,st,A,B,_⟩:=h
  exact ⟨es,c,A,B⟩,fun _ h=> .inr h,fun _ h=> .inr h⟩
theorem Cg {es:Array MapEntry} {c:Nat} {m:List (K×Value)} (hinj: ∀ x y,kV x=kV y→x=y) (hi:jt kV es c m) {x y:MapEntry} (hx:x∈es.toList) (hy:y∈es.toList) (e:x.key=y.key):x=y:=by
 have hk:(es.toList.map (·.key))=(m.map (·.1)).map kV:=by
  have:=congrArg (List.map Prod.fst) hi.list
  simpa [Function.comp_def] using this
 have h:(es.toList.map (·.key)).Nodup:=by
  rw [hk,List.nodup_iff_pairwise_ne,List.pairwise_map]
  exact hi.keys.imp (fun B he=>B (hinj _ _ he))
 obtain ⟨i,A⟩:=List.getElem?_of_mem hx
 obtain ⟨j,hj⟩:=List.getElem?_of_mem hy
 have C:(es.toList.map (·.key))[i]? =some x.key:=by rw [fX,A]; rfl
 have D:(es.toList.map (·.key))[j]? =some x.key:=by rw [fX,hj,e]; rfl
 have E:=(List.getElem?_inj (aX.1 C).1 h).1 (C.trans D.symm)
 subst E
 exact Option.some.inj (A.symm.trans hj)
section
variable {E:fB} {ops:Array Oper} {Q:dk} {rest:List Oper} {D:List Deferred} {L:List (Nat×Value)} {C:List aB}
variable {dst:Option Tmp} {d:Nat} {ty:TypeId} {ps:String} {af:Array Edge} {g:Option (Nat×Bool)}
theorem yO {t kt et:TypeId} {xm:Operand} {b:Nat} {m:List (K×Value)} (i:Nat) (hg:kl ops L g=true) (hm:ev L xm=some (.map (some b))) (ht:E.P.underlying t=some (.map kt et)) (hC:C[i]? =some (kj kV b m)) (hd:Nat.blt d E.n=true)
 (k: ∀ r,RJ E ops Q rest D ((d,.pointer (some ⟨r,0,none⟩))::L) (C.set i (AH kV r b m m none))):RJ E ops Q (⟨some d,.range t xm,ty,ps,af,g⟩::rest) D L C:=by
 intro a w A hs
 have hd':d<E.n:=by rw [← Nat.blt_eq]; exact hd
 unfold sG
 rw [if_pos (eG A hg)]
 obtain ⟨es,c,he,hi⟩:=hs.holds _ (aQ hC)
 have F:b<w.heap.size:=dN he
 have B:(getObj b).run E.P w= .ok (.map es c) w:=MapKept.run_getObj_map he
 refine jk (v:= .pointer (some ⟨w.heap.size,0,none⟩)) (w':=w.alloc (.mapIter (some b) c #[] c)) sm ?_ ?_
 ·simp [execOp,Instr.range,A.ev hm,run_underlying ht,B,newObj,Sem.run]
 ·refine k _ _ _ (A.put hd' _) (hs.mv i hC ⟨⟨om,es,c,c,#[],c,?_,hi,heap_alloc_new w _,hi.KV,Nat.le_refl _,Nat.le_refl _,?_,fun p hp=>by cases hp⟩,dV.alloc _ w _,fun q hq=>?_,fun q hq=>?_⟩)
  ·rw [Below.heap_alloc w _ b F]; exact he
  ·have:leftOf es #[]=es:=by unfold leftOf; exact Array.filter_eq_self.2 sm
   rw [this]; exact hi.list
  ·rcases hq with rfl|rfl
   ·exact .inr (Nat.le_refl _)
   ·exact .inl U
  ·rcases hq with rfl|rfl
   ·exact .inr (Nat.le_refl _)
   ·exact .inl U
theorem xK {es:Array MapEntry} {c:Nat} {m left:List (K×Value)} {seen:Array Nat} (hinj: ∀ x y,kV x=kV y→x=y) (hi:jt kV es c m) (h:(leftOf es seen).toList.map (fun (e:MapEntry)=>(e.key,e.val))=left.map (fun p=>(kV p.1,p.2))):(left.map (·.1)).Nodup:=by
 have B:((leftOf es seen).toList.map (·.key)).Sublist (es.toList.map (·.key)):=by
  unfold leftOf; rw [Array.toList_filter]; exact List.filter_sublist.map _
 have D:(es.toList.map (·.key))=(m.map (·.1)).map kV:=by
  have:=congrArg (List.map Prod.fst) hi.list
  simpa [Function.comp_def] using this
 have E:((leftOf es seen).toList.map (·.key))=(left.map (·.1)).map kV:=by
  have:=congrArg (List.map Prod.fst) h
  simpa [Function.comp_def] using this
 rw [D,E] at B
 have F:((m.map (·.1)).map kV).Nodup:=by
  rw [List.nodup_iff_pairwise_ne,List.pairwise_map]
  exact hi.keys.imp (fun A he=>A (hinj _ _ he))
 have C:=F.sublist B
 rw [List.nodup_iff_pairwise_ne,List.pairwise_map] at C
 rw [List.nodup_iff_pairwise_ne]
 exact C.imp (fun A he=>A (by rw [he]))
theorem Jt (hinj: ∀ x y,kV x=kV y→x=y) {xi:Operand} {r b:Nat} {m left:List (K×Value)} {cur:Option (K×Value)} (i:Nat) (hg:kl ops L g=true) (hm:ev L xi=some (.pointer (some ⟨r,0,none⟩))) (hC:C[i]? =some (AH kV r b m left cur)) (hd:Nat.blt d E.n=true)
 (k0:left=[]→RJ E ops Q rest D ((d,.tuple [.bool false].toArray)::L) C)
 (k1: ∀ x v,(x,v)∈left→(left.map (·.1)).Nodup→RJ E ops Q rest D ((d,.tuple [.bool true,kV x,v].toArray)::L) (C.set i (AH kV r b m (fz left x) (some (x,v))))):
 RJ E ops Q (⟨some d,.next xi false,ty,ps,af,g⟩::rest) D L C:=by
 intro a w G hs
 have hd':d<E.n:=by rw [← Nat.blt_eq]; exact hd
 unfold sG
 rw [if_pos (eG G hg)]
 obtain ⟨R,es,c,since,seen,st,X,hi,Y,J,V,M,A,_⟩:=hs.holds _ (aQ hC)
 rcases run_next_at (P:=E.P) w ty r b since st seen es c Y X J V with ⟨Z,hr⟩|⟨e,he,N,H,hr⟩
 ·refine jk (v:= .tuple #[.bool false]) (w':=w) sm ?_ ?_
  ·simp [execOp,G.ev hm,hr]
  ·refine k0 ?_ _ _ (G.put hd' _) hs
   have:(leftOf es seen).toList=[]:=by rw [← List.length_eq_zero_iff,Array.length_toList]; exact Z
   rw [this] at A
   exact List.map_eq_nil_iff.1 A.symm
 ·have O:(e.key,e.val)∈left.map (fun p=>(kV p.1,p.2)):=by rw [← A]; exact cz.2 ⟨e,he,rfl⟩
  obtain ⟨p,hp,S⟩:=cz.1 O
  obtain ⟨x,v⟩:=p
  simp only [Prod.mk.injEq] at S
  obtain ⟨hk,hv⟩:=S
  refine jk (v:= .tuple #[.bool true,e.key,e.val]) (w':=ChangeMaps.setBlock N r (.mapIter (some b) since (seen.push e.born) c)) sm ?_ ?_
  ·simp [execOp,G.ev hm,hr]
  ·rw [← hk,← hv]
   have AA:=xK hinj hi A
   have F:e∈es.toList:=by unfold leftOf at he; rw [Array.toList_filter] at he; exact (List.mem_filter.1 he).1
   have f:c=c:=rfl
   have B:N.heap=w.heap:=by rcases H with rfl|rfl<;>rfl
   refine k1 x v hp AA _ _ (G.put hd' _) (hs.mv i hC ⟨⟨R,es,c,since,seen.push e.born,c,?_,hi,?_,J,M,M,?_,fun q hq=>?_⟩,?_,fun q hq=> .inl hq,fun q hq=> .inl hq⟩)
   ·show (N.heap.setIfInBounds r _)[b]? =_
    rw [Array.getElem?_setIfInBounds_ne R,B]; exact X
   ·show (N.heap.setIfInBounds r _)[r]? =_
    rw [Array.getElem?_setIfInBounds_self_of_lt (by rw [B]; exact dN Y)]
   ·have T:leftOf es (seen.push e.born)=(leftOf es seen).filter (fun z=> !(z.born==e.born)):=by
     unfold leftOf
     rw [Array.filter_filter]
     congr 1
     funext z
     simp only [Array.contains_push,Bool.not_or]
     rw [Bool.and_comm]
    rw [T,Array.toList_filter]
    have key: ∀ (l:List MapEntry) (ll:List (K×Value)),(∀ z∈l,z∈es.toList)→l.map (fun (e:MapEntry)=>(e.key,e.val))=ll.map (fun p=>(kV p.1,p.2))→
     (l.filter (fun z=> !(z.born==e.born))).map (fun (e:MapEntry)=>(e.key,e.val))=(fz ll x).map (fun p=>(kV p.1,p.2)):=by
     intro l
     induction l with
     |nil=>intro ll _ h; cases ll with
      |nil=>rfl
      |cons p ll=>simp at h
     |cons z l ih=>
      intro ll hz h
      cases ll with
      |nil=>simp at h
      |cons p ll=>
       simp only [List.map_cons,List.cons.injEq,Prod.mk.injEq] at h
       have ih':=ih ll (fun y hy=>hz y (by simp [hy])) h.2
       have AB:(z.born=e.born)↔(p.1=x):=by
        constructor
        ·intro hb
         have:z=e:=CY hi.born (hz z sm) F hb
         rw [this] at h
         have:=h.1.1.symm.trans hk.symm
         exact hinj _ _ this
        ·intro hx
         have W:z.key=e.key:=by rw [h.1.1,hx,hk]
         rw [Cg hinj hi (hz z sm) F W]
       unfold fz at ih' ⊢
       by_cases hx:p.1=x
       ·rw [List.filter_cons_of_neg (by simp [AB.2 hx]),List.filter_cons_of_neg (by simp [hx])]; exact ih'
       ·rw [List.filter_cons_of_pos (by simpa using fun hb=>hx (AB.1 hb)),List.filter_cons_of_pos (by simpa using hx)]
        simp only [List.map_cons,h.1.1,h.1.2,ih']
    exact key _ _ (fun z hz=>by unfold leftOf at hz; rw [Array.toList_filter] at hz; exact (List.mem_filter.1 hz).1) A
   ·cases hq
    exact ⟨e,seen,F,U,U,hk.symm,hv.symm⟩
   ·refine ⟨?_,?_,?_,?_,fun q hq hn=>?_⟩
    ·rcases H with rfl|rfl<;>rfl
    ·rcases H with rfl|rfl<;>rfl
    ·rcases H with rfl|rfl<;>rfl
    ·show w.heap.size≤(N.heap.setIfInBounds r _).size
     simp [B]
    ·show (N.heap.setIfInBounds r _)[q]? =_
     rw [Array.getElem?_setIfInBounds_ne (fun e=>hn (.inl e.symm)),B]
theorem xL {xi:Operand} {r b:Nat} {m left:List (K×Value)} {x:K} {v:Value} (i:Nat) (hg:kl ops L g=true) (hm:ev L xi=some (.pointer (some ⟨r,0,none⟩))) (hC:C[i]? =some (AH kV r b m left (some (x,v)))):
 SD E ops ⟨dst,.entry xi,ty,ps,af,g⟩ D L C (.tuple [kV x,v].toArray):=
 eV hg sm fun a w F hs=>by
  obtain ⟨N,es,c,since,seen,st,J,hi,M,H,O,AA,G,B⟩:=hs.holds _ (aQ hC)
  obtain ⟨e,A,he,rfl,rfl,hk,hv⟩:=B _ rfl
  have:=run_entry_at (P:=E.P) w r b since A es st e M J he hi.born
  simp [execOp,F.ev hm,this,hk,hv]
theorem x5 (hinj: ∀ x y,kV x=kV y→x=y) {β:Type} {f:β→Value} {xi:Operand} {r b:Nat} {m:List (K×Value)} {ll:List (K×β)} {cur:Option (K×Value)} (i:Nat) (hg:kl ops L g=true) (hm:ev L xi=some (.pointer (some ⟨r,0,none⟩))) (hC:C[i]? =some (AH kV r b m (cU f ll) cur)) (hd:Nat.blt d E.n=true)
 (k0:ll=[]→RJ E ops Q rest D ((d,.tuple [.bool false].toArray)::L) C)
 (k1: ∀ x y,(x,y)∈ll→(ll.map (·.1)).Nodup→RJ E ops Q rest D ((d,.tuple [.bool true,kV x,f y].toArray)::L) (C.set i (AH kV r b m (cU f (fz ll x)) (some (x,f y))))):
 RJ E ops Q (⟨some d,.next xi false,ty,ps,af,g⟩::rest) D L C:=by
 refine Jt hinj i hg hm hC hd (fun h=>k0 (List.map_eq_nil_iff.1 h)) (fun x v B hn=>?_)
 obtain ⟨p,hp,A⟩:=cz.1 B
 simp only [Prod.mk.injEq] at A
 obtain ⟨rfl,rfl⟩:=A
 have:=k1 p.1 p.2 hp (by simpa [cU,Function.comp_def] using hn)
 rwa [n9] at this
end
end
end
section
structure b_ where
 Start:Int
 gf:Int
 qn:List Int
 vJ:List (List (Int×ai))
 di:Int
 e8:Int
 PY:Int
def b_.n (w:b_):Nat:=w.qn.length
def fJ (s:Int):aL:=if s<0 then ⟨0,1⟩ else ⟨1,0⟩
def dG (a b:aL):aL:=⟨a.right+b.right,a.eW+b.eW⟩
def uw (w:b_) (b:Nat):List (Int×ai):=(w.vJ[b]?).getD []
def iT (w:b_) (b:Nat):List (Int×ai):=(-1,⟨w.Start,w.gf⟩)::uw w b
def cp (w:b_) (b:Nat):Int:=(w.qn[b]?).getD 0
def kW (w:b_) (b:Nat) (p:aL×Int) (o:Int×ai):Option (aL×Int):=if max (p.2+cp w b) o.2.Lo≤min o.2.Hi w.gf then some (dG p.1 (fJ o.1),max (p.2+cp w b) o.2.Lo) else none
def fwd (w:b_):Nat→List (aL×Int)
 |0=>[(⟨0,0⟩,w.Start)]
 |b+1=>(fwd w b).flatMap fun p=>(iT w b).filterMap (kW w b p)
def oh (w:b_) (b:Nat) (p:aL×Int) (o:Int×ai):Option (aL×Int):=if o.2.Lo≤min p.2 o.2.Hi then some (dG p.1 (fJ o.1),min p.2 o.2.Hi-cp w b) else none
def bwd (w:b_):Nat→List (aL×Int)
 |0=>[(⟨0,0⟩,w.gf)]
 |k+1=>(⟨0,0⟩,w.gf)::(bwd w k).flatMap fun p=>(iT w (w.n-(k+1))).filterMap (oh w (w.n-(k+1)) p)
def back (w:b_) (b:Nat):List (aL×Int):=bwd w (w.n-b)
def kO (w:b_) (t:aL):Bool:=decide (t.eW≤w.di∧w.PY-t.right≤w.e8)
theorem gh {w:b_} {b:Nat} {q:aL×Int}:q∈fwd w (b+1)↔ ∃ p∈fwd w b,∃ o∈iT w b,kW w b p o=some q:=by
 simp only [fwd,List.mem_flatMap,List.mem_filterMap]
theorem vp {w:b_} {b:Nat} (h:w.n≤b):back w b=[(⟨0,0⟩,w.gf)]:=by
 unfold back; rw [Nat.sub_eq_zero_of_le h]; rfl
theorem px {w:b_} {b:Nat} (h:b<w.n) {q:aL×Int}:q∈back w b↔q=(⟨0,0⟩,w.gf)∨ ∃ p∈back w (b+1),∃ o∈iT w b,oh w b p o=some q:=by
 unfold back
 have e:w.n-b=(w.n-(b+1))+1:=by omega
 rw [e]
 simp only [bwd,bW,List.mem_flatMap,List.mem_filterMap]
 rw [show w.n-(w.n-(b+1)+1)=b by omega]
def tU (m c:List (aL×Int)):Prop:=(∀ t v,m.lookup t=some v→(t,v)∈c)∧ ∀ t y,(t,y)∈c→ ∃ v,m.lookup t=some v∧v≤y
def vD (m c:List (aL×Int)):Prop:=(∀ t v,m.lookup t=some v→(t,v)∈c)∧ ∀ t y,(t,y)∈c→ ∃ v,m.lookup t=some v∧y≤v
def vU (m c:List (aL×Int)):Prop:= ∀ t v,m.lookup t=some v→(t,v)∈c
theorem lH {K β:Type} [DecidableEq K] {m:List (K×β)} {x t:K} {y:β}:(ep m x y).lookup t=if t=x then some y else m.lookup t:=by
 unfold ep
 by_cases hx:(m.lookup x).isSome
 ·rw [if_pos hx]
  have key: ∀ l:List (K×β),(l.lookup x).isSome∨True→(l.map (fun p=>if p.1=x then (x,y) else p)).lookup t=if t=x then (if (l.lookup x).isSome then some y else none) else l.lookup t:=by
   intro l _
   induction l with
   |nil=>simp
   |cons p l ih=>
    obtain ⟨k,v⟩:=p
    have ih:=ih (.inr trivial)
    by_cases hk:k=x
    ·subst hk
     by_cases ht:t=k
     ·subst ht; simp [List.lookup]
     ·have:(t==k)=false:=by simpa using ht
      simp only [List.map_cons,if_true,List.lookup,this,ih,if_neg ht]
    ·have hk':(x==k)=false:=by simpa using fun e=>hk e.symm
     by_cases ht:t=k
     ·subst ht; simp [List.lookup,hk]
     ·have A:(t==k)=false:=by simpa using ht
      simp only [List.map_cons,if_neg hk,List.lookup,A,ih,hk']
  rw [key m (.inr trivial)]
  by_cases ht:t=x
  ·subst ht
   rw [if_pos rfl,if_pos rfl,if_pos hx]
  ·rw [if_neg ht,if_neg ht]
 ·rw [if_neg hx]
  have hn:m.lookup x=none:=by cases h0:m.lookup x with
   |none=>rfl
   |some v=>exact absurd (by rw [h0]; rfl) hx
  by_cases ht:t=x
  ·subst ht
   rw [if_pos rfl]
   have:=iz.1 hn
   clear hn hx
   induction m with
   |nil=>simp
   |cons p m ih=>
    obtain ⟨k,v⟩:=p
    have hk:(t==k)=false:=by simpa using fun e=>this (k,v) sm e.symm
    simp only [List.cons_append,List.lookup,hk]
    exact ih (fun q hq=>this q (dR _ hq))
  ·rw [if_neg ht]
   clear hn hx
   induction m with
   |nil=>
    have:(t==x)=false:=by simpa using ht
    simp [List.lookup,this]
   |cons p m ih=>
    obtain ⟨k,v⟩:=p
    by_cases hk:t=k
    ·subst hk; simp [List.lookup]
    ·have:(t==k)=false:=by simpa using hk
     simp only [List.cons_append,List.lookup,this]
     exact ih
/-- what a map is after a try -/
def pG (m:List (aL×Int)) (q:aL×Int):List (aL×Int):=match m.lookup q.1 with
 |none=>ep m q.1 q.2
 |some v=>if q.2<v then ep m q.1 q.2 else m
def o8 (m:List (aL×Int)) (q:aL×Int):List (aL×Int):=match m.lookup q.1 with
 |none=>ep m q.1 q.2
 |some v=>if v<q.2 then ep m q.1 q.2 else m
theorem xS {m:List (aL×Int)} {q:aL×Int} {t:aL}:(pG m q).lookup t=if t=q.1 then some (match m.lookup q.1 with |none=>q.2|some v=>min q.2 v) else m.lookup t:=by
 unfold pG
 cases h:m.lookup q.1 with
 |none=>simp only; rw [lH]
 |some v=>
  simp only
  split
  ·rename_i A
   rw [lH,Int.min_eq_left om]
  ·rename_i A
   split
   ·rename_i e; subst e; rw [h,Int.min_eq_right om]
   ·rfl
theorem xz {m:List (aL×Int)} {q:aL×Int} {t:aL}:(o8 m q).lookup t=if t=q.1 then some (match m.lookup q.1 with |none=>q.2|some v=>max q.2 v) else m.lookup t:=by
 unfold o8
 cases h:m.lookup q.1 with
 |none=>simp only; rw [lH]
 |some v=>
  simp only
  split
  ·rename_i A
   rw [lH,Int.max_eq_left om]
  ·rename_i A
   split
   ·rename_i e; subst e; rw [h,Int.max_eq_right om]
   ·rfl
def xG (m m':List (aL×Int)):Prop:= ∀ t v,m.lookup t=some v→ ∃ v',m'.lookup t=some v'∧v'≤v
def ye (m m':List (aL×Int)):Prop:= ∀ t v,m.lookup t=some v→ ∃ v',m'.lookup t=some v'∧v≤v'
theorem xG.refl (m:List (aL×Int)):xG m m:=fun t v h=>⟨v,h,om⟩
theorem ye.refl (m:List (aL×Int)):ye m m:=fun t v h=>⟨v,h,om⟩
theorem vH {m:List (aL×Int)} {q:aL×Int}:xG m (pG m q):=fun t v h=>by
 rw [xS]
 split
 ·rename_i e; subst e; rw [h]; exact ⟨_,rfl,by simp only; omega⟩
 ·exact ⟨v,h,om⟩
theorem qJ {m:List (aL×Int)} {q:aL×Int}:ye m (o8 m q):=fun t v h=>by
 rw [xz]
 split
 ·rename_i e; subst e; rw [h]; exact ⟨_,rfl,by simp only; omega⟩
 ·exact ⟨v,h,om⟩
theorem Hp {m c:List (aL×Int)} {q:aL×Int} (h:vU m c) (hq:q∈c):vU (pG m q) c:=fun t v hv=>by
 rw [xS] at hv
 split at hv
 ·rename_i e
  subst e
  cases hm:m.lookup q.1 with
  |none=>simp only [hm,Option.some.injEq] at hv; subst hv; exact hq
  |some x=>
   simp only [hm,Option.some.injEq] at hv; subst hv
   rcases Int.lt_or_le q.2 x with A|A
   ·rw [Int.min_eq_left om]; exact hq
   ·rw [Int.min_eq_right om]; exact h _ _ hm
 ·exact h t v hv
theorem Gy {m c:List (aL×Int)} {q:aL×Int} (h:vU m c) (hq:q∈c):vU (o8 m q) c:=fun t v hv=>by
 rw [xz] at hv
 split at hv
 ·rename_i e
  subst e
  cases hm:m.lookup q.1 with
  |none=>simp only [hm,Option.some.injEq] at hv; subst hv; exact hq
  |some x=>
   simp only [hm,Option.some.injEq] at hv; subst hv
   rcases Int.lt_or_le q.2 x with A|A
   ·rw [Int.max_eq_right om]; exact h _ _ hm
   ·rw [Int.max_eq_left om]; exact hq
 ·exact h t v hv
theorem Gj {m:List (aL×Int)} {q:aL×Int}: ∃ v,(pG m q).lookup q.1=some v∧v≤q.2:=by
 rw [xS,if_pos rfl]
 refine ⟨_,U,?_⟩
 cases m.lookup q.1<;>simp only <;>omega
theorem Gx {m:List (aL×Int)} {q:aL×Int}: ∃ v,(o8 m q).lookup q.1=some v∧q.2≤v:=by
 rw [xz,if_pos rfl]
 refine ⟨_,U,?_⟩
 cases m.lookup q.1<;>simp only <;>omega
/-- all that comes of one entry, by some options, is held -/
def jx (w:b_) (b:Nat) (m:List (aL×Int)) (p:aL×Int) (os:List (Int×ai)):Prop:= ∀ o∈os,∀ q,kW w b p o=some q→ ∃ v,m.lookup q.1=some v∧v≤q.2
def jy (w:b_) (b:Nat) (m:List (aL×Int)) (p:aL×Int) (os:List (Int×ai)):Prop:= ∀ o∈os,∀ q,oh w b p o=some q→ ∃ v,m.lookup q.1=some v∧q.2≤v
theorem jx.lower {w:b_} {b:Nat} {m m':List (aL×Int)} {p:aL×Int} {os:List (Int×ai)} (h:jx w b m p os) (hl:xG m m'):jx w b m' p os:=fun o ho q hq=>by
 obtain ⟨v,A,C⟩:=h o ho q hq
 obtain ⟨v',B,D⟩:=hl _ _ A
 exact ⟨v',B,om⟩
theorem jy.upper {w:b_} {b:Nat} {m m':List (aL×Int)} {p:aL×Int} {os:List (Int×ai)} (h:jy w b m p os) (hl:ye m m'):jy w b m' p os:=fun o ho q hq=>by
 obtain ⟨v,A,C⟩:=h o ho q hq
 obtain ⟨v',B,D⟩:=hl _ _ A
 exact ⟨v',B,om⟩
theorem jx.sub {w:b_} {b:Nat} {m:List (aL×Int)} {p:aL×Int} {os os':List (Int×ai)} (h:jx w b m p os) (hs: ∀ o∈os',o∈os):jx w b m p os':=fun o ho=>h o (hs o ho)
theorem jy.sub {w:b_} {b:Nat} {m:List (aL×Int)} {p:aL×Int} {os os':List (Int×ai)} (h:jy w b m p os) (hs: ∀ o∈os',o∈os):jy w b m p os':=fun o ho=>h o (hs o ho)
theorem jx.add {w:b_} {b:Nat} {m m':List (aL×Int)} {p:aL×Int} {os:List (Int×ai)} {o:Int×ai} (h:jx w b m p os) (hl:xG m m') (hn: ∀ q,kW w b p o=some q→ ∃ v,m'.lookup q.1=some v∧v≤q.2):jx w b m' p (os++[o]):=fun o' ho q hq=>by
 rcases gI.1 ho with ho|ho
 ·exact h.lower hl o' ho q hq
 ·simp only [cu] at ho; subst ho; exact hn q hq
theorem jy.add {w:b_} {b:Nat} {m m':List (aL×Int)} {p:aL×Int} {os:List (Int×ai)} {o:Int×ai} (h:jy w b m p os) (hl:ye m m') (hn: ∀ q,oh w b p o=some q→ ∃ v,m'.lookup q.1=some v∧q.2≤v):jy w b m' p (os++[o]):=fun o' ho q hq=>by
 rcases gI.1 ho with ho|ho
 ·exact h.upper hl o' ho q hq
 ·simp only [cu] at ho; subst ho; exact hn q hq
theorem fV {m:List (aL×Int)} (hn:(m.map (·.1)).Nodup) {t:aL} {v:Int}:(t,v)∈m↔m.lookup t=some v:=lq hn
theorem pw {z t:aL} {x v:Int}:List.lookup t [(z,x)]=some v↔t=z∧v=x:=by
 by_cases e:t=z
 ·subst e; simp [List.lookup,eq_comm]
 ·have:(t==z)=false:=by simpa using e
  simp [List.lookup,this,e]
theorem GM {w:b_}:tU [(⟨0,0⟩,w.Start)] (fwd w 0):=by
 refine ⟨fun t v h=>?_,fun t y h=>?_⟩
 ·obtain ⟨rfl,rfl⟩:=pw.1 h
  simp [fwd]
 ·simp only [fwd,cu,Prod.mk.injEq] at h
  obtain ⟨rfl,rfl⟩:=h
  exact ⟨w.Start,pw.2 ⟨U,U⟩,Int.le_refl _⟩
theorem Is {w:b_} {b:Nat} {mb m:List (aL×Int)} (hn:(mb.map (·.1)).Nodup) (h:tU mb (fwd w b)) (hs:vU m (fwd w (b+1))) (hd: ∀ p∈mb,jx w b m p (iT w b)):tU m (fwd w (b+1)):=⟨hs,fun t y hy=>by
 obtain ⟨p,hp,o,ho,e⟩:=gh.1 hy
 obtain ⟨v,B,E⟩:=h.2 p.1 p.2 hp
 unfold kW at e
 split at e
 ·rename_i D
  simp only [Option.some.injEq,Prod.mk.injEq] at e
  obtain ⟨v',A,C⟩:=hd (p.1,v) ((fV hn).2 B) o ho (dG p.1 (fJ o.1),max (v+cp w b) o.2.Lo) (by unfold kW; rw [if_pos (by simp only; omega)])
  simp only at A C
  rw [e.1] at A
  exact ⟨v',A,om⟩
 ·cases e⟩
theorem K2 {w:b_} {b:Nat} (hb:w.n≤b):vD [(⟨0,0⟩,w.gf)] (back w b):=by
 rw [vp hb]
 refine ⟨fun t v h=>?_,fun t y h=>?_⟩
 ·obtain ⟨rfl,rfl⟩:=pw.1 h
  simp
 ·simp only [cu,Prod.mk.injEq] at h
  obtain ⟨rfl,rfl⟩:=h
  exact ⟨w.gf,pw.2 ⟨U,U⟩,Int.le_refl _⟩
theorem Jw {w:b_} {b:Nat} (hb:b<w.n) {mb m:List (aL×Int)} (hn:(mb.map (·.1)).Nodup) (h:vD mb (back w (b+1))) (hs:vU m (back w b)) (h0: ∃ v,m.lookup ⟨0,0⟩=some v∧w.gf≤v) (hd: ∀ p∈mb,jy w b m p (iT w b)):vD m (back w b):=⟨hs,fun t y hy=>by
 rcases (px hb).1 hy with e|⟨p,hp,o,ho,e⟩
 ·simp only [Prod.mk.injEq] at e
  obtain ⟨rfl,rfl⟩:=e
  exact h0
 obtain ⟨v,B,E⟩:=h.2 p.1 p.2 hp
 unfold oh at e
 split at e
 ·rename_i D
  simp only [Option.some.injEq,Prod.mk.injEq] at e
  obtain ⟨v',A,C⟩:=hd (p.1,v) ((fV hn).2 B) o ho (dG p.1 (fJ o.1),min v o.2.Hi-cp w b) (by unfold oh; rw [if_pos (by simp only; omega)])
  simp only at A C
  rw [e.1] at A
  exact ⟨v',A,om⟩
 ·cases e⟩
end
section
def jI (w:b_) (b:Nat) (p u:aL×Int) (o:Int×ai):ai:=⟨max (p.2+cp w b) o.2.Lo,min u.2 o.2.Hi⟩
def xE (p u:aL×Int) (o:Int×ai):aL:=dG (dG p.1 u.1) (fJ o.1)
def mQ (w:b_) (b:Nat) (p u:aL×Int) (o:Int×ai):Option (Int×ai):=if (jI w b p u o).Lo≤(jI w b p u o).Hi∧kO w (xE p u o)=true then some (o.1,jI w b p u o) else none
def qt (w:b_) (b:Nat) (mf mb:List (aL×Int)):List (Int×ai):=(iT w b).flatMap fun o=>mf.flatMap fun p=>mb.filterMap fun u=>mQ w b p u o
def mR (w:b_) (b:Nat):List (Int×ai):=qt w b (fwd w b) (back w (b+1))
theorem iJ {w:b_} {b:Nat} {mf mb:List (aL×Int)} {q:Int×ai}:q∈qt w b mf mb↔ ∃ o∈iT w b,∃ p∈mf,∃ u∈mb,mQ w b p u o=some q:=by
 simp only [qt,List.mem_flatMap,List.mem_filterMap]
theorem jH {w:b_} {b:Nat} {p u:aL×Int} {o q:Int×ai}:mQ w b p u o=some q↔(jI w b p u o).Lo≤(jI w b p u o).Hi∧kO w (xE p u o)=true∧q=(o.1,jI w b p u o):=by
 unfold mQ
 split
 ·rename_i h
  simp only [Option.some.injEq]
  exact ⟨fun e=>⟨h.1,h.2,e.symm⟩,fun e=>e.2.2.symm⟩
 ·rename_i h
  simp only [reduceCtorEq,false_iff]
  exact fun e=>h ⟨e.1,e.2.1⟩
theorem nq {w:b_} {b:Nat} {mf mb:List (aL×Int)} {q:Int×ai} (h:q∈qt w b mf mb):q.2.Lo≤q.2.Hi:=by
 obtain ⟨o,_,p,_,u,_,e⟩:=iJ.1 h
 obtain ⟨A,_,rfl⟩:=jH.1 e
 exact A
/-- what the maps tell is what all ways tell -/
theorem Np {w:b_} {b:Nat} {mf mb:List (aL×Int)} (hf:tU mf (fwd w b)) (hb:vD mb (back w (b+1))) (nf:(mf.map (·.1)).Nodup) (nb:(mb.map (·.1)).Nodup) {q:Int×ai} (h:q∈qt w b mf mb):q∈mR w b:=by
 obtain ⟨o,ho,p,hp,u,hu,e⟩:=iJ.1 h
 exact iJ.2 ⟨o,ho,p,hf.1 _ _ ((fV nf).1 hp),u,hb.1 _ _ ((fV nb).1 hu),e⟩
theorem Kw {w:b_} {b:Nat} {mf mb:List (aL×Int)} (hf:tU mf (fwd w b)) (hb:vD mb (back w (b+1))) (nf:(mf.map (·.1)).Nodup) (nb:(mb.map (·.1)).Nodup) {q:Int×ai} (h:q∈mR w b): ∃ q'∈qt w b mf mb,q'.1=q.1∧q'.2.Lo≤q.2.Lo∧q.2.Hi≤q'.2.Hi:=by
 obtain ⟨o,ho,p,hp,u,hu,e⟩:=iJ.1 h
 obtain ⟨A,B,rfl⟩:=jH.1 e
 obtain ⟨v,hv,C⟩:=hf.2 p.1 p.2 hp
 obtain ⟨y,hy,D⟩:=hb.2 u.1 u.2 hu
 simp only [jI] at A
 refine ⟨(o.1,jI w b (p.1,v) (u.1,y) o),iJ.2 ⟨o,ho,(p.1,v),(fV nf).2 hv,(u.1,y),(fV nb).2 hy,jH.2 ⟨?_,B,U⟩⟩,U,?_,?_⟩
 ·simp only [jI]; omega
 ·simp only [jI]; omega
 ·simp only [jI]; omega
def mB:ai:=⟨1,0⟩
def mJ (h x:ai):ai:=if h=mB then x else ⟨min x.Lo h.Lo,max x.Hi h.Hi⟩
def vv (l:List (Int×ai)):ai:=l.foldl (fun h q=>mJ h q.2) mB
structure oU (l:List (Int×ai)) (h:ai):Prop where
 le:h.Lo≤h.Hi
 lo: ∃ x∈l,x.2.Lo=h.Lo
 hi: ∃ x∈l,x.2.Hi=h.Hi
 all: ∀ x∈l,h.Lo≤x.2.Lo∧x.2.Hi≤h.Hi
def kF (l:List (Int×ai)) (h:ai):Prop:=(l=[]∧h=mB)∨oU l h
theorem oU.ne {l:List (Int×ai)} {h:ai} (hh:oU l h):h≠mB:=fun e=>by
 have:=hh.le; rw [e] at this; simp [mB] at this
theorem CB:kF [] mB:= .inl ⟨rfl,rfl⟩
theorem u_ {l:List (Int×ai)} {h:ai} {q:Int×ai} (hh:kF l h) (hq:q.2.Lo≤q.2.Hi):kF (l++[q]) (mJ h q.2):=by
 right
 rcases hh with ⟨rfl,rfl⟩|hh
 ·unfold mJ
  rw [if_pos rfl]
  exact ⟨hq,⟨q,sm,rfl⟩,⟨q,sm,rfl⟩,fun x hx=>by simp at hx; subst hx; exact ⟨Int.le_refl _,Int.le_refl _⟩⟩
 ·unfold mJ
  rw [if_neg hh.ne]
  have A:=hh.le
  obtain ⟨a,ha,ea⟩:=hh.lo
  obtain ⟨c,hc,ec⟩:=hh.hi
  refine ⟨by simp only; omega,?_,?_,fun x hx=>?_⟩
  ·rcases Int.lt_or_le q.2.Lo h.Lo with p|p
   ·exact ⟨q,sm,by simp only; omega⟩
   ·exact ⟨a,by simp [ha],by simp only; omega⟩
  ·rcases Int.lt_or_le h.Hi q.2.Hi with p|p
   ·exact ⟨q,sm,by simp only; omega⟩
   ·exact ⟨c,by simp [hc],by simp only; omega⟩
  ·rcases gI.1 hx with hx|hx
   ·have:=hh.all x hx; simp only; omega
   ·simp at hx; subst hx; simp only; omega
theorem vb {l:List (Int×ai)} (hl: ∀ q∈l,q.2.Lo≤q.2.Hi):kF l (vv l):=by
 have key: ∀ (r d:List (Int×ai)) (h:ai),(∀ q∈r,q.2.Lo≤q.2.Hi)→kF d h→kF (d++r) (r.foldl (fun h q=>mJ h q.2) h):=by
  intro r
  induction r with
  |nil=>intro d h _ hd; simpa using hd
  |cons q r ih=>
   intro d h hr hd
   have:=ih (d++[q]) (mJ h q.2) (fun x hx=>hr x (dR _ hx)) (u_ hd (hr q sm))
   simpa using this
 have:=key l [] mB hl CB
 rw [List.nil_append] at this
 exact this
def Dq (a b:List (Int×ai)):Prop:= ∀ x∈b,∃ y∈a,y.2.Lo≤x.2.Lo∧x.2.Hi≤y.2.Hi
theorem MP {a b:List (Int×ai)} {h k:ai} (ha:kF a h) (hb:kF b k) (hab:Dq a b) (hba:Dq b a):h=k:=by
 rcases ha with ⟨rfl,rfl⟩|ha
 ·rcases hb with ⟨rfl,rfl⟩|hb
  ·rfl
  ·obtain ⟨x,hx,_⟩:=hb.lo
   obtain ⟨y,hy,_⟩:=hab x hx
   cases hy
 ·rcases hb with ⟨rfl,rfl⟩|hb
  ·obtain ⟨x,hx,_⟩:=ha.lo
   obtain ⟨y,hy,_⟩:=hba x hx
   cases hy
  ·have le: ∀ {a b:List (Int×ai)} {h k:ai},oU a h→oU b k→Dq a b→h.Lo≤k.Lo∧k.Hi≤h.Hi:=fun {a b h k} ha hb hab=>by
    obtain ⟨x,hx,ex⟩:=hb.lo
    obtain ⟨z,hz,ez⟩:=hb.hi
    obtain ⟨y,hy,ey⟩:=hab x hx
    obtain ⟨y',hy',ey'⟩:=hab z hz
    have A:=ha.all y hy
    have B:=ha.all y' hy'
    omega
   have A:=le ha hb hab
   have B:=le hb ha hba
   rw [ai.ext_iff]; omega
theorem zl {w:b_} {b:Nat} {mf mb:List (aL×Int)} {l:List (Int×ai)} {h:ai} (hf:tU mf (fwd w b)) (hb:vD mb (back w (b+1))) (nf:(mf.map (·.1)).Nodup) (nb:(mb.map (·.1)).Nodup)
 (hl: ∀ q∈l,q∈qt w b mf mb) (hl2: ∀ q∈qt w b mf mb,q∈l) (hh:kF l h):h=vv (mR w b):=
 MP hh (vb fun q hq=>nq hq) (fun x hx=>by
  obtain ⟨q,hq,_,A,B⟩:=Kw hf hb nf nb hx
  exact ⟨q,hl2 q hq,A,B⟩) (fun x hx=>⟨x,Np hf hb nf nb (hl x hx),Int.le_refl _,Int.le_refl _⟩)
def jE (w:b_) (m:List (aL×Int)):Bool:=m.any fun p=>kO w p.1
theorem By {w:b_} {b:Nat} {m:List (aL×Int)} (h:tU m (fwd w b)) (nf:(m.map (·.1)).Nodup):jE w m=jE w (fwd w b):=by
 unfold jE
 rw [Bool.eq_iff_iff,List.any_eq_true,List.any_eq_true]
 constructor
 ·rintro ⟨p,hp,A⟩
  exact ⟨p,h.1 _ _ ((fV nf).1 hp),A⟩
 ·rintro ⟨p,hp,A⟩
  obtain ⟨v,hv,_⟩:=h.2 p.1 p.2 hp
  exact ⟨(p.1,v),(fV nf).2 hv,A⟩
def kH (w:b_) (k:Nat):List Int:=((List.range k).filter fun i=>jE w (fwd w i)).map fun (i:Nat)=>(i:Int)
def hP (w:b_):List Int:=kH w (w.n+1)
theorem DB {w:b_} {k:Nat} (h:jE w (fwd w k)=true):kH w (k+1)=kH w k++[(k:Int)]:=by simp [kH,List.range_succ,h]
theorem Hd {w:b_} {k:Nat} (h:jE w (fwd w k)=false):kH w (k+1)=kH w k:=by simp [kH,List.range_succ,h]
theorem sW {w:b_} {k:Nat}:(kH w k).length≤k:=by
 unfold kH
 rw [List.length_map]
 exact Nat.le_trans (List.length_filter_le _ _) sm
end
section
open Go.RowKit
theorem Gk {P:Program} {t:Nat} {k:IntKind} (hu:P.underlying t=some (.int k)) (e:Bool) (n:Nat) (v:Value) (w:World):(Instr.checkKey e (n+1) t v).run P w= .ok () w:=by
 unfold Instr.checkKey
 simp only [Sem.run_bind,run_underlying hu,Result.andThen]
 cases v<;>rfl
theorem zN {P:Program} {kt:Nat} {l:List (Nat×Nat)} (hl:fL P kt=some l) (e:Bool) (n:Nat) (cs:Array Value) (w:World)
 (hf: ∀ p∈l,(∃ v,(part p.1 cs p.2).run P w= .ok v w)∧ ∃ k,P.underlying p.1=some (.int k)):(Instr.checkKey e (n+2) kt (.agg cs)).run P w= .ok () w:=by
 unfold fL at hl
 cases hu:P.underlying kt with
 |none=>simp [hu] at hl
 |some d=>
  cases d<;>simp [hu] at hl
  rename_i fs
  obtain ⟨hn,hl⟩:=hl
  rw [show n+2=(n+1)+1 from rfl,Instr.checkKey]
  simp only [Sem.run_bind,run_underlying hu,Result.andThen_ok]
  rw [← Array.forIn_toList]
  have A: ∀ f∈fs.toList,(∃ v,(part f.type cs f.offset).run P w= .ok v w)∧ ∃ k,P.underlying f.type=some (.int k):=fun f hf'=>hf (f.type,f.offset) (by rw [← hl]; exact cz.2 ⟨f,hf',rfl⟩)
  have B: ∀ f∈fs.toList,f.name≠"_":=fun f hf'=>by
   obtain ⟨i,hi,rfl⟩:=List.getElem_of_mem hf'
   exact hn.1.1 i (by simpa using hi)
  clear hl hn hf
  generalize fs.toList=L at A B
  induction L with
  |nil=>simp
  |cons f L ih=>
   obtain ⟨⟨v,hv⟩,k,hk⟩:=A f sm
   have C:=B f sm
   simp only [List.forIn_cons,Sem.run_bind,C,ne_eq,not_false_eq_true,if_true,Result.andThen_ok,hv,Gk hk,Sem.run_pure]
   exact ih (fun y hy=>A y (by simp [hy])) (fun y hy=>B y (by simp [hy]))
theorem CR {P:Program} {kt:Nat} {K:Type} [DecidableEq K] {kV:K→Value} (hw: ∀ (k:Value) (es:List MapEntry) (w:World),(Instr.findKey kt k es).run P w=(Instr.findAsking kt k es).run P w)
 (heq: ∀ x y w,(Op.equal kt (kV x) (kV y)).run P w= .ok (decide (x=y)) w) (inj: ∀ x y,kV x=kV y→x=y) (x:K) (w:World) (es:List MapEntry) (hk: ∀ e∈es,∃ k,e.key=kV k):
 ((Instr.findKey kt (kV x) es).run P w= .ok none w∧ ∀ e∈es,e.key≠kV x)∨ ∃ j e,(Instr.findKey kt (kV x) es).run P w= .ok (some (j,e.val)) w∧es[j]? =some e∧e.key=kV x:=by
 have key: ∀ (es:List MapEntry) (i:Nat),(∀ e∈es,∃ k,e.key=kV k)→((Instr.findAsking kt (kV x) es i).run P w= .ok none w∧ ∀ e∈es,e.key≠kV x)∨ ∃ j e,(Instr.findAsking kt (kV x) es i).run P w= .ok (some (i+j,e.val)) w∧es[j]? =some e∧e.key=kV x:=by
  intro es
  induction es with
  |nil=>intro i _; exact .inl ⟨by simp [Instr.findAsking],sm⟩
  |cons e es ih=>
   intro i B
   obtain ⟨k,A⟩:=B e sm
   by_cases h:x=k
   ·refine .inr ⟨0,e,?_,U,by rw [A,h]⟩
    subst h
    simp [Instr.findAsking,A,heq]
   ·rcases ih (i+1) (fun y hy=>B y (by simp [hy])) with ⟨C,D⟩|⟨j,e',C,D,E⟩
    ·refine .inl ⟨by simp [Instr.findAsking,A,heq,h,C],fun y hy=>?_⟩
     rcases bW.1 hy with rfl|hy
     ·rw [A]; exact fun q=>h (inj _ _ q).symm
     ·exact D y hy
    ·exact .inr ⟨j+1,e',by simp [Instr.findAsking,A,heq,h,C]; omega,by simpa using D,E⟩
 rw [hw]
 rcases key es 0 hk with h|⟨j,e,C,D,E⟩
 ·exact .inl h
 ·exact .inr ⟨j,e,by simpa using C,D,E⟩
theorem De {P:Program} {kt:Nat} {l:List (Nat×Nat)} (hl:fL P kt=some l) (k:Value) (es:List MapEntry) (w:World):(Instr.findKey kt k es).run P w=(Instr.findAsking kt k es).run P w:=by
 refine run_findKey_eq w ?_ k es
 unfold fL at hl
 cases hu:P.underlying kt with
 |none=>simp [hu] at hl
 |some d=>cases d<;>simp [hu] at hl ⊢
theorem MT {P:Program} {kt:Nat} {K:Type} [DecidableEq K] {kV:K→Value} {l:List (Nat×Nat)} (hl:fL P kt=some l) (heq: ∀ x y w,(Op.equal kt (kV x) (kV y)).run P w= .ok (decide (x=y)) w) (inj: ∀ x y,kV x=kV y→x=y)
 (hb: ∀ x,Instr.sameBits 10000 (kV x) (kV x)=true) (hp: ∀ x w,∃ cs,kV x= .agg cs∧ ∀ p∈l,(∃ v,(part p.1 cs p.2).run P w= .ok v w)∧ ∃ k,P.underlying p.1=some (.int k)):uY P kt kV:=
 ⟨fun e x w=>by obtain ⟨cs,A,B⟩:=hp x w; rw [A]; exact zN hl e 9998 cs w B,fun x w es=>CR (De hl) heq inj x w es,hb,inj⟩
end
section
open Go.RowKit
set_option linter.unusedSectionVars false
theorem iK {P:Program} {kt:Nat} (hk:P.underlying kt=some (.int .i64)):uY P kt (Value.int .i64):=by
 refine ⟨fun e x w=>Gl hk e,fun x w es A=>?_,fun x=>by simp [Instr.sameBits],fun x y h=>by injection h⟩
 have key: ∀ (es:List MapEntry) (i:Nat),(∀ e∈es,∃ k:Int,e.key= .int .i64 k)→(Instr.findNow (.int .i64) (.int .i64 x) es i=some none∧ ∀ e∈es,e.key≠ .int .i64 x)∨ ∃ j e,Instr.findNow (.int .i64) (.int .i64 x) es i=some (some (i+j,e.val))∧es[j]? =some e∧e.key= .int .i64 x:=by
  intro es
  induction es with
  |nil=>intro i _; exact .inl ⟨rfl,sm⟩
  |cons e es ih=>
   intro i A
   obtain ⟨k,B⟩:=A e sm
   by_cases h:x=k
   ·subst h
    exact .inr ⟨0,e,by simp [Instr.findNow,Instr.sameNow,B],U,B⟩
   ·have hb:(x==k)=false:=by simpa using h
    rcases ih (i+1) (fun y hy=>A y (by simp [hy])) with ⟨C,D⟩|⟨j,e',C,D,E⟩
    ·refine .inl ⟨by simp [Instr.findNow,Instr.sameNow,B,hb,C],fun y hy=>?_⟩
     rcases bW.1 hy with rfl|hy
     ·rw [B]; intro q; injection q with _ q; exact h q.symm
     ·exact D y hy
    ·refine .inr ⟨j+1,e',?_,by simpa using D,E⟩
     simp only [Instr.findNow,Instr.sameNow,B,hb,if_true,C]
     simp; omega
 rcases key es 0 A with ⟨C,D⟩|⟨j,e,C,D,E⟩
 ·exact .inl ⟨MapKept.run_findKey hk C,D⟩
 ·exact .inr ⟨j,e,MapKept.run_findKey hk (by simpa using C),D,E⟩
theorem St.Lq {S:BS} {w0 w w':World} {C:List aB} {A N:aB} (h:St S w0 C w) (i:Nat) (hA:C[i]? =some A) (k:dV no w w') (hN:N.holds w') (hf: ∀ b,N.fE b→w.heap.size≤b∨A.fE b∧ ¬ A.wf b∧ ¬ N.wf b):St S w0 (N::C) w':=by
 have h':=h.same k
 have G:=aQ hA
 have hi:=(aX.1 hA).1
 have B:C[i]=A:=(aX.1 hA).2
 refine ⟨h'.keeps,fun X hX=>?_,List.Pairwise.cons (fun X hX b hb hb'=>?_) h'.sep,fun X hX b hb=>?_,fun X hX b hb=>?_⟩
 ·rcases bW.1 hX with rfl|hX
  ·exact hN
  ·exact h'.holds X hX
 ·rcases hf b hb with E|⟨E,AA,H⟩
  ·have:=X.lt w (h.holds X hX) b hb'; omega
  ·refine ⟨H,?_⟩
   obtain ⟨j,hj,D⟩:=List.mem_iff_getElem.1 hX
   by_cases e:j=i
   ·subst e; rw [← D,B]; exact AA
   ·rcases Nat.lt_or_gt_of_ne e with F|F
    ·have:=eU.1 h.sep j i hj hi F b (by rw [D]; exact hb') (by rw [B]; exact E)
     rw [← D]; exact this.1
    ·have:=eU.1 h.sep i j hi hj F b (by rw [B]; exact E) (by rw [D]; exact hb')
     rw [← D]; exact this.2
 ·rcases bW.1 hX with rfl|hX
  ·rcases hf b (X.kz b hb) with E|⟨_,_,H⟩
   ·exact .inl (Nat.le_trans h.keeps.size E)
   ·exact absurd hb H
  ·exact h'.own X hX b hb
 ·rcases bW.1 hX with rfl|hX
  ·rcases hf b hb with E|⟨E,_,_⟩
   ·exact .inl (Nat.le_trans h.keeps.size E)
   ·exact h.seen A G b E
  ·exact h'.seen X hX b hb
section
variable {K:Type} [DecidableEq K] {kV:K→Value}
/-- an iterator over a map that is read alone -/
def C4 (kV:K→Value) (r b:Nat) (m left:List (K×Value)) (cur:Option (K×Value)):aB where
 fE k:=k=r∨k=b
 wf k:=k=r
 holds w:=r≠b∧ ∃ (es:Array MapEntry) (c since:Nat) (seen:Array Nat) (st:Nat),w.heap[b]? =some (.map es c)∧jt kV es c m∧w.heap[r]? =some (.mapIter (some b) since seen st)∧(∀ e∈es.toList,e.born<since)∧since≤st∧since≤c∧
  (leftOf es seen).toList.map (fun (e:MapEntry)=>(e.key,e.val))=left.map (fun p=>(kV p.1,p.2))∧
  ∀ p,cur=some p→ ∃ (e:MapEntry) (seen0:Array Nat),e∈es.toList∧seen=seen0.push e.born∧st=c∧e.key=kV p.1∧e.val=p.2
 wr:=false
 kz _ h:= .inl h
 whole h:=by cases h
 lt w h k hk:=by
  obtain ⟨_,es,c,since,seen,st,h1,_,h2,_⟩:=h
  rcases hk with rfl|rfl
  ·exact dN h2
  ·exact dN h1
 oW w w' hk h:=by
  obtain ⟨hne,es,c,since,seen,st,h1,h2,h3,h4⟩:=h
  exact ⟨hne,es,c,since,seen,st,(hk b (.inr rfl)).trans h1,h2,(hk r (.inl rfl)).trans h3,h4⟩
theorem py {r b:Nat} {m left:List (K×Value)} {cur:Option (K×Value)}:(∀ w,(C4 kV r b m left cur).holds w→(C4 kV r b m left none).holds w)∧(∀ k,(C4 kV r b m left none).fE k→(C4 kV r b m left cur).fE k)∧ ∀ k,(C4 kV r b m left none).wf k→(C4 kV r b m left cur).wf k:=
 ⟨fun w h=>by
  obtain ⟨A,es,c,since,seen,st,B,C,D,E,F,h5',G,_⟩:=h
  exact ⟨A,es,c,since,seen,st,B,C,D,E,F,h5',G,fun p hp=>by cases hp⟩,fun _ h=>h,fun _ h=>h⟩
section
variable {E:fB} {ops:Array Oper} {Q:dk} {rest:List Oper} {D:List Deferred} {L:List (Nat×Value)} {C:List aB}
variable {dst:Option Tmp} {d:Nat} {ty:TypeId} {ps:String} {af:Array Edge} {g:Option (Nat×Bool)}
theorem pL {t kt et:TypeId} {xm:Operand} {b:Nat} {m:List (K×Value)} {A:aB} (i:Nat) (hg:kl ops L g=true) (hm:ev L xm=some (.map (some b))) (ht:E.P.underlying t=some (.map kt et)) (hA:C[i]? =some A) (hAf:A.fE b∧ ¬ A.wf b) (hC:iH C (kj kV b m).holds) (hd:Nat.blt d E.n=true)
 (k: ∀ r,RJ E ops Q rest D ((d,.pointer (some ⟨r,0,none⟩))::L) (C4 kV r b m m none::C)):RJ E ops Q (⟨some d,.range t xm,ty,ps,af,g⟩::rest) D L C:=by
 intro a w B hs
 have hd':d<E.n:=by rw [← Nat.blt_eq]; exact hd
 unfold sG
 rw [if_pos (eG B hg)]
 obtain ⟨es,c,he,hi⟩:=hs.has hC
 have G:b<w.heap.size:=dN he
 have F:(getObj b).run E.P w= .ok (.map es c) w:=MapKept.run_getObj_map he
 refine jk (v:= .pointer (some ⟨w.heap.size,0,none⟩)) (w':=w.alloc (.mapIter (some b) c #[] c)) sm ?_ ?_
 ·simp [execOp,Instr.range,B.ev hm,run_underlying ht,F,newObj,Sem.run]
 ·refine k _ _ _ (B.put hd' _) (hs.Lq i hA (dV.alloc no w _) ⟨om,es,c,c,#[],c,?_,hi,heap_alloc_new w _,hi.KV,Nat.le_refl _,Nat.le_refl _,?_,fun p hp=>by cases hp⟩ (fun q hq=>?_))
  ·rw [Below.heap_alloc w _ b G]; exact he
  ·have:leftOf es #[]=es:=by unfold leftOf; exact Array.filter_eq_self.2 sm
   rw [this]; exact hi.list
  ·rcases hq with rfl|rfl
   ·exact .inl (Nat.le_refl _)
   ·refine .inr ⟨hAf.1,hAf.2,fun (e:q=w.heap.size)=>by omega⟩
theorem G7 (hinj: ∀ x y,kV x=kV y→x=y) {xi:Operand} {r b:Nat} {m left:List (K×Value)} {cur:Option (K×Value)} (i:Nat) (hg:kl ops L g=true) (hm:ev L xi=some (.pointer (some ⟨r,0,none⟩))) (hC:C[i]? =some (C4 kV r b m left cur)) (hd:Nat.blt d E.n=true)
 (k0:left=[]→RJ E ops Q rest D ((d,.tuple [.bool false].toArray)::L) C)
 (k1: ∀ x v,(x,v)∈left→(left.map (·.1)).Nodup→RJ E ops Q rest D ((d,.tuple [.bool true,kV x,v].toArray)::L) (C.set i (C4 kV r b m (fz left x) (some (x,v))))):
 RJ E ops Q (⟨some d,.next xi false,ty,ps,af,g⟩::rest) D L C:=by
 intro a w G hs
 have hd':d<E.n:=by rw [← Nat.blt_eq]; exact hd
 unfold sG
 rw [if_pos (eG G hg)]
 obtain ⟨R,es,c,since,seen,st,X,hi,Y,J,V,M,A,_⟩:=hs.holds _ (aQ hC)
 rcases run_next_at (P:=E.P) w ty r b since st seen es c Y X J V with ⟨Z,hr⟩|⟨e,he,N,H,hr⟩
 ·refine jk (v:= .tuple #[.bool false]) (w':=w) sm ?_ ?_
  ·simp [execOp,G.ev hm,hr]
  ·refine k0 ?_ _ _ (G.put hd' _) hs
   have:(leftOf es seen).toList=[]:=by rw [← List.length_eq_zero_iff,Array.length_toList]; exact Z
   rw [this] at A
   exact List.map_eq_nil_iff.1 A.symm
 ·have O:(e.key,e.val)∈left.map (fun p=>(kV p.1,p.2)):=by rw [← A]; exact cz.2 ⟨e,he,rfl⟩
  obtain ⟨p,hp,S⟩:=cz.1 O
  obtain ⟨x,v⟩:=p
  simp only [Prod.mk.injEq] at S
  obtain ⟨hk,hv⟩:=S
  refine jk (v:= .tuple #[.bool true,e.key,e.val]) (w':=ChangeMaps.setBlock N r (.mapIter (some b) since (seen.push e.born) c)) sm ?_ ?_
  ·simp [execOp,G.ev hm,hr]
  ·rw [← hk,← hv]
   have AA:=xK hinj hi A
   have F:e∈es.toList:=by unfold leftOf at he; rw [Array.toList_filter] at he; exact (List.mem_filter.1 he).1
   have f:c=c:=rfl
   have B:N.heap=w.heap:=by rcases H with rfl|rfl<;>rfl
   refine k1 x v hp AA _ _ (G.put hd' _) (hs.mv i hC ⟨⟨R,es,c,since,seen.push e.born,c,?_,hi,?_,J,M,M,?_,fun q hq=>?_⟩,?_,fun q hq=> .inl hq,fun q hq=> .inl hq⟩)
   ·show (N.heap.setIfInBounds r _)[b]? =_
    rw [Array.getElem?_setIfInBounds_ne R,B]; exact X
   ·show (N.heap.setIfInBounds r _)[r]? =_
    rw [Array.getElem?_setIfInBounds_self_of_lt (by rw [B]; exact dN Y)]
   ·have T:leftOf es (seen.push e.born)=(leftOf es seen).filter (fun z=> !(z.born==e.born)):=by
     unfold leftOf
     rw [Array.filter_filter]
     congr 1
     funext z
     simp only [Array.contains_push,Bool.not_or]
     rw [Bool.and_comm]
    rw [T,Array.toList_filter]
    have key: ∀ (l:List MapEntry) (ll:List (K×Value)),(∀ z∈l,z∈es.toList)→l.map (fun (e:MapEntry)=>(e.key,e.val))=ll.map (fun p=>(kV p.1,p.2))→
     (l.filter (fun z=> !(z.born==e.born))).map (fun (e:MapEntry)=>(e.key,e.val))=(fz ll x).map (fun p=>(kV p.1,p.2)):=by
     intro l
     induction l with
     |nil=>intro ll _ h; cases ll with
      |nil=>rfl
      |cons p ll=>simp at h
     |cons z l ih=>
      intro ll hz h
      cases ll with
      |nil=>simp at h
      |cons p ll=>
       simp only [List.map_cons,List.cons.injEq,Prod.mk.injEq] at h
       have ih':=ih ll (fun y hy=>hz y (by simp [hy])) h.2
       have AB:(z.born=e.born)↔(p.1=x):=by
        constructor
        ·intro hb
         have:z=e:=CY hi.born (hz z sm) F hb
         rw [this] at h
         have:=h.1.1.symm.trans hk.symm
         exact hinj _ _ this
        ·intro hx
         have W:z.key=e.key:=by rw [h.1.1,hx,hk]
         rw [Cg hinj hi (hz z sm) F W]
       unfold fz at ih' ⊢
       by_cases hx:p.1=x
       ·rw [List.filter_cons_of_neg (by simp [AB.2 hx]),List.filter_cons_of_neg (by simp [hx])]; exact ih'
       ·rw [List.filter_cons_of_pos (by simpa using fun hb=>hx (AB.1 hb)),List.filter_cons_of_pos (by simpa using hx)]
        simp only [List.map_cons,h.1.1,h.1.2,ih']
    exact key _ _ (fun z hz=>by unfold leftOf at hz; rw [Array.toList_filter] at hz; exact (List.mem_filter.1 hz).1) A
   ·cases hq
    exact ⟨e,seen,F,U,U,hk.symm,hv.symm⟩
   ·refine ⟨?_,?_,?_,?_,fun q hq hn=>?_⟩
    ·rcases H with rfl|rfl<;>rfl
    ·rcases H with rfl|rfl<;>rfl
    ·rcases H with rfl|rfl<;>rfl
    ·show w.heap.size≤(N.heap.setIfInBounds r _).size
     simp [B]
    ·show (N.heap.setIfInBounds r _)[q]? =_
     rw [Array.getElem?_setIfInBounds_ne (fun e=>hn e.symm),B]
theorem oJ {xi:Operand} {r b:Nat} {m left:List (K×Value)} {x:K} {v:Value} (i:Nat) (hg:kl ops L g=true) (hm:ev L xi=some (.pointer (some ⟨r,0,none⟩))) (hC:C[i]? =some (C4 kV r b m left (some (x,v)))):
 SD E ops ⟨dst,.entry xi,ty,ps,af,g⟩ D L C (.tuple [kV x,v].toArray):=
 eV hg sm fun a w F hs=>by
  obtain ⟨N,es,c,since,seen,st,J,hi,M,H,O,AA,G,B⟩:=hs.holds _ (aQ hC)
  obtain ⟨e,A,he,rfl,rfl,hk,hv⟩:=B _ rfl
  have:=run_entry_at (P:=E.P) w r b since A es st e M J he hi.born
  simp [execOp,F.ev hm,this,hk,hv]
theorem ov (hinj: ∀ x y,kV x=kV y→x=y) {β:Type} {f:β→Value} {xi:Operand} {r b:Nat} {m:List (K×Value)} {ll:List (K×β)} {cur:Option (K×Value)} (i:Nat) (hg:kl ops L g=true) (hm:ev L xi=some (.pointer (some ⟨r,0,none⟩))) (hC:C[i]? =some (C4 kV r b m (cU f ll) cur)) (hd:Nat.blt d E.n=true)
 (k0:ll=[]→RJ E ops Q rest D ((d,.tuple [.bool false].toArray)::L) C)
 (k1: ∀ x y,(x,y)∈ll→(ll.map (·.1)).Nodup→RJ E ops Q rest D ((d,.tuple [.bool true,kV x,f y].toArray)::L) (C.set i (C4 kV r b m (cU f (fz ll x)) (some (x,f y))))):
 RJ E ops Q (⟨some d,.next xi false,ty,ps,af,g⟩::rest) D L C:=by
 refine G7 hinj i hg hm hC hd (fun h=>k0 (List.map_eq_nil_iff.1 h)) (fun x v B hn=>?_)
 obtain ⟨p,hp,A⟩:=cz.1 B
 simp only [Prod.mk.injEq] at A
 obtain ⟨rfl,rfl⟩:=A
 have:=k1 p.1 p.2 hp (by simpa [cU,Function.comp_def] using hn)
 rwa [n9] at this
theorem yK {t kt et:TypeId} {xm xk xv:Operand} {b:Nat} {x:K} {v:Value} {m m':List (K×Value)} {C':List aB} (i:Nat) (hg:kl ops L g=true) (hm:ev L xm=some (.map (some b))) (hk:ev L xk=some (kV x)) (hv:ev L xv=some v)
 (ht:E.P.underlying t=some (.map kt et)) (hkt:uY E.P kt kV) (hC:C[i]? =some (kj kV b m)) (hm':ep m x v=m') (hC':C.set i (kj kV b m')=C') (k:RJ E ops Q rest D L C'):
 RJ E ops Q (⟨none,.insert t xm xk xv,ty,ps,af,g⟩::rest) D L C:=by
 subst hm' hC'
 intro a w A hs
 unfold sG
 rw [if_pos (eG A hg)]
 obtain ⟨es,c,he,hi⟩:=hs.holds _ (aQ hC)
 have B:(getObj b).run E.P w= .ok (.map es c) w:=MapKept.run_getObj_map he
 rcases o_ (P:=E.P) (w:=w) (x:=x) hkt hi with ⟨AA,F⟩|⟨j,N,AA,F,J⟩
 ·refine rZ (w':={w with heap:=w.heap.setIfInBounds b (.map (es.push {key:=kV x,val:=v,born:=c}) (c+1))}) sm ?_ ?_
  ·simp [execOp,A.ev hm,A.ev hk,A.ev hv,Instr.mapUpdate,run_underlying ht,B,jl hkt,AA,MapKept.run_setObj_map _ he]
  ·refine k _ _ ⟨A.defers,A.size,A.at_⟩ (hs.ze (b:=b) i hC U U (nD _) (fun _ h=>h) ⟨_,_,pH he,?_⟩)
   have:ep m x v=m++[(x,v)]:=by unfold ep; rw [F]; rfl
   rw [this]; exact hi.push F v
 ·have M:=hi.size
  have G:j<es.size:=by have:=(aX.1 F).1; omega
  have H:(es[j]).key=kV x:=by
   have:=congrArg (fun l=>l[j]?) hi.list
   simp [G,F] at this
   exact this.1
  refine rZ (w':={w with heap:=w.heap.setIfInBounds b (.map (es.modify j fun e=>{e with key:=kV x,val:=v}) c)}) sm ?_ ?_
  ·simp [execOp,A.ev hm,A.ev hk,A.ev hv,Instr.mapUpdate,run_underlying ht,B,jl hkt,AA,MapKept.run_setObj_map _ he,Instr.keyThatStays,G,H,hkt.bits x]
  ·exact k _ _ ⟨A.defers,A.size,A.at_⟩ (hs.ze (b:=b) i hC U U (nD _) (fun _ h=>h) ⟨_,_,pH he,hi.set F J v⟩)
end
end
end
section
open Go.RowKit
def Vv {σ:Type} (w0:World) (P:Program) (l:Nat) (step:σ→List Value→σ→Prop) (J:σ→aB→Prop) (Z:aB→Prop):Prop:=
 ∀ k x k' A w,step k x k'→J k A→w0.heap.size≤w.heap.size→A.holds w→YieldAt (Fw none) 0 P l x.toArray w fun e w'=>
  (e= .returned (.bool true)∧ ∃ B,J k' B∧Mv A B w w')∨(e= .returned (.bool false)∧ ∃ B,Z B∧Mv A B w w')
def B0 {σ:Type} (J:σ→aB→Prop) (Z:aB→Prop) (fin:σ→Prop) (A0:aB) (w0:World) (e:Ending) (w':World):Prop:=
 ∃ v,e= .returned v∧((∃ s B,fin s∧J s B∧Mv A0 B w0 w')∨ ∃ B,Z B∧Mv A0 B w0 w')
structure MF {σ:Type} (P:Program) (f:FuncId) (fi ca:List Value) (Cp:List aB) (s0:σ) (step:σ→List Value→σ→Prop) (fin:σ→Prop):Prop where
 go:sf P f=true
 run: ∀ (l:Nat) (J:σ→aB→Prop) (Z:aB→Prop) (A0:aB) (w:World),Vv w P l step J Z→J s0 A0→A0.holds w→(∀ A∈Cp,A.holds w)→(∀ A∈Cp,CZ A0 A.ro)→
  Calls P f (fi++Value.func (.yield l) #[] #[]::ca).toArray w (B0 J Z fin A0 w)
theorem Pt {σ:Type} {J:σ→aB→Prop} {Z:aB→Prop} {n:σ} {fin:σ→Prop} {A0 B:aB} {w0 w:World} {C:List aB} {v:Value} (i:Nat) (hC:C[i]? =some B) (hfin:fin n) (hJ:J n B) (hF:Fo A0 w0 B) (hs:St ⟨A0.wf,fun _=>True⟩ w0 C w):B0 J Z fin A0 w0 (.returned v) w:=
 ⟨v,rfl,.inl ⟨n,B,hfin,hJ,hs.holds B (aQ hC),hs.keeps,fun b hb=>(hs.own B (aQ hC) b hb).symm,hF⟩⟩
theorem E0 {σ:Type} {J:σ→aB→Prop} {Z:aB→Prop} {fin:σ→Prop} {A0 B:aB} {w0 w:World} {C:List aB} {v:Value} (i:Nat) (hC:C[i]? =some B) (hJ:Z B) (hF:Fo A0 w0 B) (hs:St ⟨A0.wf,fun _=>True⟩ w0 C w):B0 J Z fin A0 w0 (.returned v) w:=
 ⟨v,rfl,.inr ⟨B,hJ,hs.holds B (aQ hC),hs.keeps,fun b hb=>(hs.own B (aQ hC) b hb).symm,hF⟩⟩
theorem EV {σ:Type} {P:Program} {f:FuncId} {fn:Func} {c:Code} {fi ca:List Value} {Cp:List aB} {s0:σ} {step:σ→List Value→σ→Prop} {fin:σ→Prop} (hgo:sf P f=true) (hf:P.funcs[f]? =some fn) (hb:fn.body=some c) (hn:Nat.ble (fi.length+ca.length+1) fn.ntmps=true)
 (h: ∀ (l:Nat) (J:σ→aB→Prop) (Z:aB→Prop) (A0:aB) (w0:World) (Q:dk),Vv w0 P l step J Z→J s0 A0→Fo A0 w0 A0→
  (∀ D L C,LJ ⟨P,none,fn.ntmps,⟨A0.wf,fun _=>True⟩,w0⟩ fn (B0 J Z fin A0 w0) D L C→KJ ⟨P,none,fn.ntmps,⟨A0.wf,fun _=>True⟩,w0⟩ (Q .ret) D L C)→
  (∀ D L C,LJ ⟨P,none,fn.ntmps,⟨A0.wf,fun _=>True⟩,w0⟩ fn (B0 J Z fin A0 w0) D L C→KJ ⟨P,none,fn.ntmps,⟨A0.wf,fun _=>True⟩,w0⟩ (Q .normal) D L C)→
  WJ ⟨P,none,fn.ntmps,⟨A0.wf,fun _=>True⟩,w0⟩ c Q [] (Oj (fi++Value.func (.yield l) #[] #[]::ca)) (A0::Cp.map aB.ro)):MF P f fi ca Cp s0 step fin:=by
 refine ⟨hgo,fun l J Z A0 w hY hJ hA F E=>?_⟩
 refine Ag hf hb (by simpa [Nat.add_assoc] using hn) (h l J Z A0 w · hY hJ (fun b hb=> .inl hb)) ?_
 have G:=qY F
 refine ⟨dV.refl _ _,fun A hA'=>?_,List.Pairwise.cons (fun B hB=>?_) G.sep,fun A hA' b hb=>?_,fun _ _ _ _=> .inr trivial⟩
 ·rcases bW.1 hA' with rfl|hA'
  ·exact hA
  ·exact G.holds A hA'
 ·obtain ⟨B',hB',rfl⟩:=cz.1 hB
  exact E B' hB'
 ·rcases bW.1 hA' with rfl|hA'
  ·exact .inr hb
  ·obtain ⟨B',hB',rfl⟩:=cz.1 hA'
   exact hb.elim
section
variable {E:fB} {ops:Array Oper} {Q:dk} {rest:List Oper} {D:List Deferred} {L:List (Nat×Value)} {C:List aB}
variable {d:Nat} {ty:TypeId} {ps:String} {af:Array Edge} {g:Option (Nat×Bool)}
/-- a call of yield -/
theorem wH {σ:Type} {fop:Operand} {xs:Array Operand} {ts:Array TypeId} {l:Nat} {k k':σ} {vs:List Value} {step:σ→List Value→σ→Prop} {J:σ→aB→Prop} {Z:aB→Prop} {A0 A:aB} {w1:World} (i:Nat) (hw1:w1.heap.size≤E.w0.heap.size) (hY:Vv w1 E.P l step J Z) (hJ:J k A) (hF:Fo A0 w1 A) (hg:kl ops L g=true) (hf:ev L fop=some (.func (.yield l) #[] #[]))
 (hx:evs L xs.toList=some vs) (hk:step k vs k') (hC:C[i]? =some A) (hd:Nat.blt d E.n=true)
 (k1: ∀ B,J k' B→Fo A0 w1 B→RJ E ops Q rest D ((d,.bool true)::L) (C.set i B))
 (k2: ∀ B,Z B→Fo A0 w1 B→RJ E ops Q rest D ((d,.bool false)::L) (C.set i B)):
 RJ E ops Q (⟨some d,.call {callee:= .value fop,args:=xs,argTypes:=ts},ty,ps,af,g⟩::rest) D L C:=by
 intro a w F hs
 have hd':d<E.n:=by rw [← Nat.blt_eq]; exact hd
 unfold sG
 rw [if_pos (eG F hg)]
 have K:xs.map a.eval=vs.toArray:=by
  have:=F.evs hx
  apply Array.ext'
  simp [this]
 obtain ⟨fn,tmps,assign,body,hy,hr⟩:=hY k vs k' A w hk hJ (Nat.le_trans hw1 hs.keeps.size) (hs.holds A (aQ hC))
 have H:(execOp a.eval ⟨some d,.call {callee:= .value fop,args:=xs,argTypes:=ts},ty,ps,af,g⟩).run E.P w= .ok (.round l fn tmps assign body) w:=by
  simp [execOp,resolve,F.ev hf,Deferred.ofValue,invoke,K,hy]
 refine ⟨fun _ _=>trivial,?_⟩
 rw [Oper.semAt_eq _ _ _ sm,H]
 refine ⟨fun h=>by simp at h,?_⟩
 have G: ∀ (B:aB) (w':World),Mv A B w w'→Fo A0 w1 B:=fun B w' m b hb=>by
  rcases m.fE b hb with AA|AA
  ·exact hF b AA
  ·exact .inr (Nat.le_trans hw1 (Nat.le_trans hs.keeps.size AA))
 have hr':RoundIn (Fw E.r) 0 E.P l fn tmps assign body w _:=hr
 refine hr'.mono fun e w' he=>?_
 rcases he with ⟨rfl,B,hB,m⟩|⟨rfl,B,hB,m⟩
 ·exact k1 B hB (G B w' m) _ _ (F.put hd' _) (hs.mv i hC m)
 ·exact k2 B hB (G B w' m) _ _ (F.put hd' _) (hs.mv i hC m)
end
theorem uu {σ:Type} {E:fB} {Q:dk} {D:ib} {L L0:dD} {C F:List aB} {g:Operand} {ps:Array Tmp} {assign body:Code} {f:FuncId} {fi ca:List Value} {Cp:List aB} {s0:σ} {step:σ→List Value→σ→Prop} {fin_:σ→Prop} {ι κ:Type}
 (inv:σ→ι→Prop) (Ci:σ→ι→List aB) (invx:Code→κ→Prop) (Cx:Code→κ→List aB) (isJ isF:List Nat) (y0:ι)
 (hr:E.r=none) (hg:ev L g=some (.func (.func f) fi.toArray ca.toArray)) (hs:MF E.P f fi ca Cp s0 step fin_)
 (hnd:decide (isJ++isF).Nodup=true) (hJ:jR C isJ=Ci s0 y0) (hF:jR C isF=F) (h0:inv s0 y0) (hCp: ∀ A∈Cp,∃ B∈F,K1 B A)
 (hps: ∀ k x k',step k x k'→x.length=ps.size) (hpn:ps.toList.all (fun t=>Nat.blt t E.n)=true) (hL:dv L L0)
 (round: ∀ (k:σ) (x:List Value) (k':σ) (y:ι) (l:Nat) (ra rb:Loop) (S:BS) (w0:World) (K:Act→World→Prop) (Qr:dk),E.w0.heap.size≤w0.heap.size→step k x k'→inv k y→
  (∀ L' C',WJ ⟨E.P,some l,E.n,S,w0⟩ body Qr [] L' (jn l (.loop rb)::C')→KJ ⟨E.P,some l,E.n,S,w0⟩ K [] L' (jn l (.loop ra)::C'))→
  (∀ y' L' C',inv k' y'→(∀ w,St S w0 C' w→St S w0 (jn l (.loop rb)::Ci k' y') w)→KJ ⟨E.P,some l,E.n,S,w0⟩ (Qr .normal) [] L' C')→
  (∀ id z L' C',invx (.exit id) z→(∀ w,St S w0 C' w→St S w0 (jn l (.loop rb)::Cx (.exit id) z) w)→KJ ⟨E.P,some l,E.n,S,w0⟩ (Qr (.exit id)) [] L' C')→
  (∀ z L' C',invx .ret z→(∀ w,St S w0 C' w→St S w0 (jn l (.loop rb)::Cx .ret z) w)→KJ ⟨E.P,some l,E.n,S,w0⟩ (Qr .ret) [] L' C')→
  WJ ⟨E.P,some l,E.n,S,w0⟩ assign (Exit.then K (fun _ _ _=>False)) [] (yx ps.toList x L0) (jn l (.loop ra)::Ci k y))
 (fin: ∀ r s y,fin_ s→inv s y→KJ E (Q .normal) (jT r::D) L0 (jn r (.deferred (some []))::(F++Ci s y)))
 (finx: ∀ r id z,invx (.exit id) z→KJ E (Q (.exit id)) (jT r::D) L0 (jn r (.deferred (some []))::(F++Cx (.exit id) z)))
 (finr: ∀ r z,invx .ret z→KJ E (Q .ret) (jT r::D) L0 (jn r (.deferred (some []))::(F++Cx .ret z))):WJ E (.rangeFunc g ps assign body) Q D L C:=by
 intro a w hf q
 refine wpIn_rangeFunc fun fn _=>?_
 show ∃ l jT w₁ d w₁' f args w₂,(Instr.enterLoop fn a.tmps ps assign body E.r).run E.P w= .ok (l,jT) w₁∧_
 rw [hr]
 obtain ⟨rec,G⟩: ∃ rec:LoopState→Option Code→Loop,rec=fun st pe=>{state:=st,pending:=pe,fn,tmps:=a.tmps,params:=ps,assign,body,defers:=w.heap.size}:=⟨_,rfl⟩
 obtain ⟨W1,R⟩: ∃ W1,(w.alloc (.deferred (some []))).alloc (.loop (rec .ready none))=W1:=⟨_,rfl⟩
 have A0:a.eval g= .func (.func f) fi.toArray ca.toArray:=hf.ev hg
 have p:(Instr.enterLoop fn a.tmps ps assign body none).run E.P w= .ok (w.heap.size+1,[jT w.heap.size]) W1:=by
  rw [← R,G]; exact run_enterLoop_outer _ _ _ _ _
 -- the state with the record and the block
 have u:St E.S E.w0 ((jn (w.heap.size+1) (.loop (rec .ready none))::Ci s0 y0)++(jn w.heap.size (.deferred (some []))::F)) W1:=by
  have X:St E.S E.w0 (Ci s0 y0++F) w:=St.jR (isJ++isF) hnd (by have X:=hJ; have j:=hF; unfold Go.Proofs.YtijpnoadncadoaaGreatDoor.jR at X j ⊢; rw [List.filterMap_append,X,j]) q
  have hn:Lh w W1 [jn (w.heap.size+1) (.loop (rec .ready none)),jn w.heap.size (.deferred (some []))]:=by
   refine ⟨fun A hA=>?_,fun A hA b hb=>?_,?_⟩
   ·rcases bW.1 hA with rfl|hA
    ·show W1.heap[w.heap.size+1]? =_
     rw [← R]; have:=World.alloc_heap_new (w.alloc (.deferred (some []))) (.loop (rec .ready none)); rwa [World.size_alloc] at this
    ·simp only [cu] at hA; subst hA
     show W1.heap[w.heap.size]? =_
     rw [← R]; exact (Below.heap_alloc _ _ _ sm).trans (World.alloc_heap_new w _)
   ·rcases bW.1 hA with rfl|hA
    ·have:b=w.heap.size+1:=hb
     omega
    ·simp only [cu] at hA; subst hA
     have:b=w.heap.size:=hb
     omega
   ·refine List.Pairwise.cons (fun B hB b X j=>?_) (List.pairwise_singleton _ _)
    simp only [cu] at hB; subst hB
    have V:b=w.heap.size+1:=X
    have O:b=w.heap.size:=j
    omega
  have hk:dV no w W1:=by rw [← R]; exact (dV.alloc no w _).trans (dV.alloc no _ _)
  have j:=X.grow hk hn
  refine j.perm ?_
  simp only [List.cons_append,List.nil_append]
  exact List.Perm.cons _ (List.perm_middle.symm)
 have Y:=u.tied
 obtain ⟨H,A5⟩:=List.pairwise_cons.1 Y.sep
 have AO:=Y.holds _ (cH ..)
 let J:σ→aB→Prop:=fun k A=> ∃ y,inv k y∧A=bU (jn (w.heap.size+1) (.loop (rec .ready none))::Ci k y)
 let Z:aB→Prop:=fun A=> ∃ c z,(c= .ret∨ ∃ id,c= .exit id)∧invx c z∧A=bU (jn (w.heap.size+1) (.loop (rec .done (some c)))::Cx c z)
 refine ⟨w.heap.size+1,[jT w.heap.size],W1,{target:= .fn (.func f) ca.toArray,args:=fi.toArray++ #[.func (.yield (w.heap.size+1)) #[] #[]]},W1,f,
  (fi++Value.func (.yield (w.heap.size+1)) #[] #[]::ca).toArray,W1,p,?_,fun _ _=>trivial,?_,fun h=>by simp at h,?_⟩
 ·simp only [resolve,A0]
  simp [Deferred.ofValue,Act.eval]
 ·have:fi.toArray++ #[Value.func (.yield (w.heap.size+1)) #[] #[]]++ca.toArray=(fi++Value.func (.yield (w.heap.size+1)) #[] #[]::ca).toArray:=by simp
  simp [invoke,nc hs.go]
 ·refine (o2 E.r (hs.run (w.heap.size+1) J Z _ W1 ?_ ⟨y0,h0,U⟩ AO ?_ ?_)).mono ?_
  ·-- a round
   rintro k x k' A W hx ⟨y,hy,rfl⟩ Am hA
   have hl:W.heap[w.heap.size+1]? =some (.loop (rec .ready none)):=hA.1 _ (cH ..)
   have AC:=run_yield (P:=E.P) (args:=x.toArray) hl (by rw [G]; simpa using hps k x k' hx)
   rw [G] at AC
   refine ⟨fn,_,assign,body,AC,roundIn_of_wpIn trivial ?_⟩
   let A:aB:=bU (jn (w.heap.size+1) (.loop (rec .ready none))::Ci k y)
   have A1:Fr E.n [] (yx ps.toList x L0) {tmps:=(ps.zip x.toArray).foldl (fun tmps (t,a)=>tmps.setIfInBounds t a) a.tmps,defers:=[]}:=by
    have X:=Es ps.toList x L0 a.tmps (fun t ht=>by have:=de.1 hpn t ht; rwa [Nat.blt_eq] at this) ⟨rfl,hf.size,fun t v hv=>hf.at_ t v (hL t v hv)⟩
    rw [← Array.foldl_toList]
    simpa using X
   have o: ∀ (c:Option Code) (b:Bool),({rec .busy none with state:=if b then .ready else .done,pending:=c}:Loop)=rec (if b then .ready else .done) c:=fun c b=>by rw [G]
   have T: ∀ (c:Option Code) (N:World) (C':List aB) (S:BS),St S W (jn (w.heap.size+1) (.loop (rec .busy none))::C') N→
    ∃ M,(Instr.endRound (w.heap.size+1) c).run E.P N= .ok (.bool c.isNone) M∧St S W (jn (w.heap.size+1) (.loop (rec (if c.isNone then .ready else .done) c))::C') M:=fun c N C' S H=>by
    have AB:N.heap[w.heap.size+1]? =some (.loop (rec .busy none)):=H.holds _ (cH ..)
    refine ⟨_,run_endRound c AB,?_⟩
    have:=H.ze (b:=w.heap.size+1) (A':=jn (w.heap.size+1) (.loop (rec (if c.isNone then .ready else .done) c))) 0 rfl rfl rfl (hH _) (fun _ h=>h) (World.putObj_heap_same (dN AB))
    rw [o]
    exact this
   refine round k x k' y (w.heap.size+1) (rec .ready none) (rec .busy none) ⟨A.wf,A.fE⟩ W _ (roundPost E.P (w.heap.size+1) (fun e w'=>(e= .returned (.bool true)∧ ∃ B,J k' B∧Mv A B W w')∨(e= .returned (.bool false)∧ ∃ B,Z B∧Mv A B W w'))) (Nat.le_trans (Nat.le_trans q.keeps.size (by rw [← R]; simp; omega)) Am) hx hy ?_ ?_ ?_ ?_ _ _ A1 (St.zR hA)
   ·intro L' C' hW a1 N i H
    have AB:N.heap[w.heap.size+1]? =some (.loop (rec .ready none)):=H.holds _ (cH ..)
    refine ⟨_,run_beginRound AB (by rw [G]),hW _ _ i ?_⟩
    have:=H.ze (b:=w.heap.size+1) (A':=jn (w.heap.size+1) (.loop (rec .busy none))) 0 rfl rfl rfl (hH _) (fun _ h=>h) (World.putObj_heap_same (dN AB))
    have e:({rec .ready none with state:= .busy}:Loop)=rec .busy none:=by rw [G]
    rw [e]; exact this
   ·intro y' L' C' hy' hC' a1 N i H
    obtain ⟨M,V,O⟩:=T none N _ _ (hC' _ H)
    exact ⟨_,M,V,.inl ⟨U,_,⟨y',hy',U⟩,Mv.of O⟩⟩
   ·intro id z L' C' hz hC' a1 N i H
    obtain ⟨M,V,O⟩:=T (some (.exit id)) N _ _ (hC' _ H)
    exact ⟨_,M,V,.inr ⟨U,_,⟨_,z,.inr ⟨id,U⟩,hz,U⟩,Mv.of O⟩⟩
   ·intro z L' C' hz hC' a1 N i H
    obtain ⟨M,V,O⟩:=T (some .ret) N _ _ (hC' _ H)
    exact ⟨_,M,V,.inr ⟨U,_,⟨_,z,.inl U,hz,U⟩,Mv.of O⟩⟩
  ·intro A hA
   obtain ⟨B,hB,hc⟩:=hCp A hA
   exact hc.holds _ (Y.holds B (dR _ (dR _ hB)))
  ·intro A hA b hb hb'
   obtain ⟨B,hB,hc⟩:=hCp A hA
   exact ⟨(H B (dR _ hB) b hb (hc.fE b hb')).1,fun h=>h⟩
  ·rintro e w' ⟨v,rfl,hh⟩
   have AA:Fr E.n (jT w.heap.size::D) L0 {a with defers:=[jT w.heap.size]++a.defers}:=⟨by simp [hf.defers],hf.size,fun t v hv=>hf.at_ t v (hL t v hv)⟩
   have hleave: ∀ (st:LoopState) (c:Option Code) (C':List aB),st≠ .busy→Mv (bU (jn (w.heap.size+1) (.loop (rec .ready none))::Ci s0 y0)) (bU (jn (w.heap.size+1) (.loop (rec st c))::C')) W1 w'→
    ∃ M,(Instr.endLoop (w.heap.size+1)).run E.P w'= .ok c M∧St E.S E.w0 (jn w.heap.size (.deferred (some []))::(F++C')) M:=fun st c C' A3 m=>by
    have X:=(Y.mv 0 rfl m).ja
    have h1':St E.S E.w0 ((jn (w.heap.size+1) (.loop (rec st c))::C')++(jn w.heap.size (.deferred (some []))::F)) w':=X
    have AB:w'.heap[w.heap.size+1]? =some (.loop (rec st c)):=h1'.holds (jn (w.heap.size+1) (.loop (rec st c))) sm
    refine ⟨_,by have:=run_endLoop (P:=E.P) AB (by rw [G]; exact A3); rw [this,G],?_⟩
    have j:=h1'.ze (b:=w.heap.size+1) (A':=jn (w.heap.size+1) (.loop {rec st c with state:= .exhausted})) 0 rfl rfl rfl (hH _) (fun _ h=>h) (World.putObj_heap_same (dN AB))
    have h3:St E.S E.w0 (C'++(jn w.heap.size (.deferred (some []))::F)) _:=j.take (List.sublist_cons_self _ _)
    rw [G] at h3
    refine h3.perm ?_
    exact (List.perm_append_comm).trans sm
   rcases hh with ⟨s,B,A2,⟨y,hy,rfl⟩,m⟩|⟨B,⟨c,z,hc,hz,rfl⟩,m⟩
   ·obtain ⟨M,V,O⟩:=hleave .ready none _ sm m
    exact ⟨none,M,V,fin w.heap.size s y A2 hy _ _ AA O⟩
   ·obtain ⟨M,V,O⟩:=hleave .done (some c) _ sm m
    refine ⟨some c,M,V,?_⟩
    rcases hc with rfl|⟨id,rfl⟩
    ·exact wpIn_ret (finr w.heap.size z hz _ _ AA O)
    ·exact wpIn_exit (finx w.heap.size id z hz _ _ AA O)
end
section
open Go.RowKit
/-- where a row lies, and its capacity -/
abbrev RA:=OA×Nat
/-- what is asked of memory by all elements -/
def bo {M A:Type} (f:M→A→List aB):List M→List A→List aB
 |m::ms,a::asl=>f m a++bo f ms asl
 |_,_=>[]
theorem bP {M A:Type} {f:M→A→List aB}: ∀ {ms:List M} {asl:List A} {k:Nat} {m:M} {a:A} {X:aB},ms[k]? =some m→asl[k]? =some a→X∈f m a→X∈bo f ms asl
 |[],_,k,m,a,X,h,_,_=>by simp at h
 |_::_,[],k,m,a,X,_,h,_=>by simp at h
 |x::ms,y::asl,0,m,a,X,h,h2,hX=>by
  simp at h h2; subst h h2
  exact List.mem_append_left _ hX
 |x::ms,y::asl,k+1,m,a,X,h,h2,hX=>List.mem_append_right _ (bP (ms:=ms) (asl:=asl) (k:=k) (by simpa using h) (by simpa using h2) hX)
theorem j_ {M A:Type} {f:M→A→List aB}: ∀ {ms:List M} {asl:List A} {X:aB},X∈bo f ms asl→ ∃ (k:Nat) (m:M) (a:A),ms[k]? =some m∧asl[k]? =some a∧X∈f m a
 |[],_,X,h=>by cases h
 |_::_,[],X,h=>by cases h
 |x::ms,y::asl,X,h=>by
  rcases gI.1 h with h|h
  ·exact ⟨0,x,y,U,U,h⟩
  ·obtain ⟨k,m,a,B,C,D⟩:=j_ h
   exact ⟨k+1,m,a,by simpa using B,by simpa using C,D⟩
theorem jA {M A:Type} {f:M→A→List aB}: ∀ {ms:List M} {asl:List A} {ns:List M} {bs:List A},ms.length=asl.length→bo f (ms++ns) (asl++bs)=bo f ms asl++bo f ns bs
 |[],[],ns,bs,_=>rfl
 |[],_::_,ns,bs,h=>by simp at h
 |_::_,[],ns,bs,h=>by simp at h
 |x::ms,y::asl,ns,bs,h=>by
  simp only [List.cons_append,bo,List.append_assoc]
  rw [jA (by simpa using h)]
theorem dx {M A β:Type} {f:M→A→β} {ms:List M} {asl:List A} {k:Nat} {m:M} {a:A} (h:ms[k]? =some m) (h2:asl[k]? =some a):(List.zipWith f ms asl)[k]? =some (f m a):=by
 rw [List.getElem?_zipWith,h,h2]
theorem cY {C L:List aB} {A:aB} (i:Nat) (hC:C[i]? =some (dU L).ro) (hm:A∈L):iH C A.holds:=fun w hw=>hw _ (aQ hC) A hm
theorem dj {M A:Type} {f g:M→A→List aB} {ms:List M} {asl:List A} {C:List aB} (i:Nat) (hC:C[i]? =some (bU (bo g ms asl))) (h: ∀ m a w,(∀ X∈g m a,X.holds w)→ ∀ X∈f m a,X.holds w):iH C (dU (bo f ms asl)).holds:=fun w hw X hX=>by
 have hb:=hw _ (aQ hC)
 obtain ⟨k,m,a,B,D,E⟩:=j_ hX
 exact h m a w (fun Y hY=>hb.1 Y (bP B D hY)) X E
/-- a row that is part of another one -/
theorem MR {C:List aB} {A:OA} {n k sz:Nat} {es:List (List Value)} (hR:iH C (rd A n sz es).holds) (hk:k≤n):iH C (rd A k sz (es.take k)).holds:=fun w hw=>by
 obtain ⟨D,E,F⟩:=hR w hw
 refine ⟨by rw [List.length_take,D]; omega,fun x hx=>E x (List.mem_of_mem_take hx),fun hp=>?_⟩
 have G:0<k:=Nat.pos_of_mul_pos_right hp
 have hs:0<sz:=Nat.pos_of_mul_pos_left hp
 obtain ⟨ad,hA,B⟩:=F (Nat.mul_pos om hs)
 refine ⟨ad,hA,fun i e j v he hv=>B i e j v ?_ hv⟩
 rw [List.getElem?_take] at he
 split at he
 ·exact he
 ·cases he
section
variable {E:fB} {ops:Array Oper} {Q:dk} {rest:List Oper} {D:List Deferred} {L:List (Nat×Value)} {C:List aB}
variable {d:Nat} {ty:TypeId} {ps:String} {af:Array Edge} {g:Option (Nat×Bool)}
/-- an element of a slice that is the head of a row -/
theorem VS (k:Nat) {x ix:Operand} {A:OA} {n n' c sz e t:Nat} {es:List (List Value)} {j:Int} (h:bF E.n ops L d g x ix=some (.slice A n' c,.int .i64 j)) (hR:iH C (rd A n sz es).holds)
 (ht:tE E.P t=some (e,sz)) (hz:0<sz) (hj:j=(k:Int)) (hk:k<n') (hn:n'≤n):SE E ops ⟨some d,.indexAddr t x ix,ty,ps,af,g⟩ D L C (.pointer (rh A (k*sz))) d:=IA k h (MR hR hn) ht hz hj hk
end
theorem St.tie {S:BS} {w0 w:World} {C:List aB} {A:aB} {L L':List aB} (h:St S w0 (A::bU L::C) w) (e:L++[A]=L'):St S w0 (bU L'::C) w:=by
 subst e
 have B:St S w0 (bU L::A::C) w:=h.perm (List.Perm.swap _ _ _)
 have D:St S w0 (L++(A::C)) w:=B.ja
 have E:St S w0 ((L++[A])++C) w:=by simpa using D
 exact E.tied
theorem St.Pq {S:BS} {w0 w:World} {C:List aB} (h:St S w0 C w):St S w0 (bU []::C) w:=St.tied (C1:=[]) h
section
variable {E:fB} {Q:dk} {D:List Deferred} {L:List (Nat×Value)} {C:List aB}
theorem od {c:Code} (h:WJ E c Q D L (bU []::C)):WJ E c Q D L C:=fun a w hf hs=>h a w hf hs.Pq
theorem xd {ops:Array Oper} {rest:List Oper} (h:RJ E ops Q rest D L (bU []::C)):RJ E ops Q rest D L C:=fun a w hf hs=>h a w hf hs.Pq
theorem xy {K:Act→World→Prop} {C1:List aB} {A:aB} {X X':List aB} (i j:Nat) (hn:decide (j::i::(List.range C.length).filter fun k=>k != i&&k != j).Nodup=true) (hC:jR C (j::i::(List.range C.length).filter fun k=>k != i&&k != j)=A::bU X::C1) (e:X++[A]=X')
 (h:KJ E K D L (bU X'::C1)):KJ E K D L C:=fun a w hf hs=>h a w hf ((St.jR _ hn hC hs).tie e)
theorem NZ {ops:Array Oper} {rest:List Oper} {C1:List aB} {A:aB} {X X':List aB} (i j:Nat) (hn:decide (j::i::(List.range C.length).filter fun k=>k != i&&k != j).Nodup=true) (hC:jR C (j::i::(List.range C.length).filter fun k=>k != i&&k != j)=A::bU X::C1) (e:X++[A]=X')
 (h:RJ E ops Q rest D L (bU X'::C1)):RJ E ops Q rest D L C:=fun a w hf hs=>h a w hf ((St.jR _ hn hC hs).tie e)
end
end
section
open Go.RowKit
abbrev jZ:ai→Value:=fun s=>vA (ai.cells s)
abbrev eD:aL→Value:=fun s=>vA (aL.cells s)
abbrev TM:=List (Int×ai)
abbrev FM:=List (aL×Int)
def gD {α:Type} (m:α) (b:Nat):List Value:=[Value.map (some b)]
def qf (m:TM) (b:Nat):List aB:=[kj iV b (cU jZ m)]
def m6 (m:FM) (b:Nat):List aB:=[kj eD b (cU iV m)]
theorem lE {M A:Type} {f:M→A→List aB}: ∀ (m:M) (a:A) (w:World),(∀ X∈f m a,X.holds w)→ ∀ X∈f m a,X.holds w:=fun _ _ _ h=>h
/-- untied -/
theorem E2 {E:fB} {ops:Array Oper} {Q:dk} {rest:List Oper} {D:ib} {L:dD} {C X C1:List aB} (i:Nat) (hn:decide (i::(List.range C.length).filter fun k=>k != i).Nodup=true) (hC:jR C (i::(List.range C.length).filter fun k=>k != i)=bU X::C1)
 (h:RJ E ops Q rest D L (X++C1)):RJ E ops Q rest D L C:=fun a w hf hs=>h a w hf (St.ja (St.jR _ hn hC hs))
end
section
def cV (ln:ct) (rd:cN) (e:List Int) (tms:List TM):b_:=⟨rd.Start,rd.gf,e,tms,ln.di,ln.e8,(rd.ag.n:Int)⟩
def NK (o:Int×ai):List Value:=[.int .i64 o.1,.agg (ai.cells o.2).toArray]
structure Hy (w:b_):Prop where
 n:w.n≤6
 times:w.vJ.length=w.n
 now:0≤w.Start∧w.Start≤w.gf∧w.gf≤86400000
 least: ∀ x∈w.qn,1≤x∧x≤500000000
 FG: ∀ t∈w.vJ,∀ p∈t,(0≤p.1∧p.1≤10)∧0≤p.2.Lo∧p.2.Lo≤p.2.Hi∧p.2.Hi≤86400000
theorem Hy.opt {w:b_} (h:Hy w) {b:Nat} {o:Int×ai} (ho:o∈iT w b):(-1≤o.1∧o.1≤10)∧0≤o.2.Lo∧o.2.Lo≤o.2.Hi∧o.2.Hi≤86400000:=by
 unfold iT uw at ho
 rcases bW.1 ho with rfl|ho
 ·have:=h.now; simp only; omega
 ·cases ht:w.vJ[b]? with
  |none=>simp [ht] at ho
  |some t=>
   rw [ht] at ho
   have:=h.FG t (aQ ht) o ho
   omega
theorem Hy.cp {w:b_} (h:Hy w) (b:Nat):0≤cp w b∧cp w b≤500000000:=by
 unfold Go.Proofs.YtijpnoadncadoaaGreatDoor.cp
 cases ht:w.qn[b]? with
 |none=>simp
 |some x=>have:=h.least x (aQ ht); simp only [Option.getD_some]; omega
theorem vr (s:Int):(0≤(fJ s).right∧0≤(fJ s).eW)∧(fJ s).right+(fJ s).eW=1:=by unfold fJ; split<;>simp
theorem Ih {w:b_} (h:Hy w): ∀ (b:Nat) p,p∈fwd w b→(0≤p.2∧p.2≤86400000)∧(0≤p.1.right∧0≤p.1.eW)∧p.1.right+p.1.eW=(b:Int):=by
 intro b
 induction b with
 |zero=>
  intro p hp
  simp only [fwd,cu] at hp
  subst hp
  have:=h.now; simp only; omega
 |succ b ih=>
  intro q hq
  obtain ⟨p,hp,o,ho,e⟩:=gh.1 hq
  have A:=ih p hp
  have B:=h.opt ho
  have C:=h.cp b
  have D:=h.now
  have E:=vr o.1
  unfold kW at e
  split at e
  ·simp only [Option.some.injEq] at e
   subst e
   simp only [dG]
   omega
  ·cases e
theorem Sr {w:b_} (h:Hy w): ∀ (k:Nat) p,p∈bwd w k→(-(500000000*(k:Int))≤p.2∧p.2≤86400000)∧(0≤p.1.right∧0≤p.1.eW)∧p.1.right+p.1.eW≤(k:Int):=by
 intro k
 induction k with
 |zero=>
  intro p hp
  simp only [bwd,cu] at hp
  subst hp
  have:=h.now; simp only; omega
 |succ k ih=>
  intro q hq
  simp only [bwd,bW,List.mem_flatMap,List.mem_filterMap] at hq
  rcases hq with rfl|⟨p,hp,o,ho,e⟩
  ·have:=h.now; simp only; omega
  ·have A:=ih p hp
   have B:=h.opt ho
   have C:=h.cp (w.n-(k+1))
   have D:=h.now
   have E:=vr o.1
   unfold oh at e
   split at e
   ·simp only [Option.some.injEq] at e
    subst e
    simp only [dG]
    omega
   ·cases e
theorem I5 {w:b_} (h:Hy w) {b:Nat} {p:aL×Int} (hp:p∈back w b):(-3000000000≤p.2∧p.2≤86400000)∧(0≤p.1.right∧0≤p.1.eW)∧p.1.right+p.1.eW≤6:=by
 have:=Sr h _ _ hp
 have:=h.n
 omega
theorem yk {w:b_} {b:Nat} {t:TM} (ht:w.vJ[b]? =some t) {o:Int×ai}:o∈iT w b↔o=(-1,⟨w.Start,w.gf⟩)∨o∈t:=by
 unfold iT uw; rw [ht]; simp
theorem lZ {K β:Type} [DecidableEq K] {l:List (K×β)} {x:K} {y:β} (hn:(l.map (·.1)).Nodup) (hm:(x,y)∈l) {o:K×β} (h:o∈l):o∈fz l x∨o=(x,y):=by
 by_cases e:o.1=x
 ·right
  obtain ⟨k,v⟩:=o
  simp only at e
  subst e
  have B:=(lq hn).1 h
  have A:=(lq hn).1 hm
  rw [B] at A
  cases A; rfl
 ·exact .inl (yF.2 ⟨h,e⟩)
theorem Hu {K β:Type} [DecidableEq K] {t l ys:List (K×β)} {x:K} {y:β} (hn:(l.map (·.1)).Nodup) (hm:(x,y)∈l) (h: ∀ o∈t,o∈l∨o∈ys): ∀ o∈t,o∈fz l x∨o∈ys++[(x,y)]:=fun o ho=>by
 rcases h o ho with h|h
 ·rcases lZ hn hm h with h|h
  ·exact .inl h
  ·exact .inr (by simp [h])
 ·exact .inr (by simp [h])
theorem mH {K β:Type} [DecidableEq K] {t l:List (K×β)} {x:K} (h: ∀ o∈l,o∈t): ∀ o∈fz l x,o∈t:=fun o ho=>h o (yF.1 ho).1
theorem IL {w:b_} {m left:List (aL×Int)} (h: ∀ p∈m,p∈left∨kO w p.1=false) (h0:left=[]):jE w m=false:=by
 unfold jE
 rw [List.any_eq_false]
 intro p hp
 rcases h p hp with q|q
 ·rw [h0] at q; cases q
 ·simp [q]
theorem Mb {w:b_} {m:List (aL×Int)} {p:aL×Int} (hp:p∈m) (h:kO w p.1=true):jE w m=true:=List.any_eq_true.2 ⟨p,hp,h⟩
theorem J_ {w:b_} {m left:List (aL×Int)} {t:aL} {v:Int} (hn:(left.map (·.1)).Nodup) (hm:(t,v)∈left) (h: ∀ p∈m,p∈left∨kO w p.1=false) (hf:kO w t=false): ∀ p∈m,p∈fz left t∨kO w p.1=false:=fun p hp=>by
 rcases h p hp with q|q
 ·rcases lZ hn hm q with q|q
  ·exact .inl q
  ·right; rw [q]; exact hf
 ·exact .inr q
/-- what the maps of a watch are -/
structure vW (w:b_) (fs:List (List (aL×Int))):Prop where
 len:fs.length=w.n+1
 min: ∀ (b:Nat) m,fs[b]? =some m→tU m (fwd w b)
 keys: ∀ (b:Nat) m,fs[b]? =some m→(m.map (·.1)).Nodup
structure sL (w:b_) (bs:List (List (aL×Int))):Prop where
 len:bs.length=w.n+1
 max: ∀ (b:Nat) m,bs[b]? =some m→vD m (back w b)
 keys: ∀ (b:Nat) m,bs[b]? =some m→(m.map (·.1)).Nodup
theorem vW.mem {w:b_} {fs:List (List (aL×Int))} (h:vW w fs) {b:Nat} {m:List (aL×Int)} (hm:fs[b]? =some m) {p:aL×Int} (hp:p∈m):p∈fwd w b:=(h.min b m hm).1 _ _ ((fV (h.keys b m hm)).1 hp)
theorem sL.mem {w:b_} {fs:List (List (aL×Int))} (h:sL w fs) {b:Nat} {m:List (aL×Int)} (hm:fs[b]? =some m) {p:aL×Int} (hp:p∈m):p∈back w b:=(h.max b m hm).1 _ _ ((fV (h.keys b m hm)).1 hp)
theorem Gq {w:b_} {b:Nat} {t l ys:List (Int×ai)} (ht:w.vJ[b]? =some t) (h: ∀ o∈t,o∈l∨o∈ys) (h0:l=[]) (hs:(-1,(⟨w.Start,w.gf⟩:ai))∈ys): ∀ o∈iT w b,o∈ys:=fun o ho=>by
 rcases (yk ht).1 ho with rfl|ho
 ·exact hs
 ·rcases h o ho with q|q
  ·rw [h0] at q; cases q
  ·exact q
end
section
/-- by these options all is yielded -/
def lV (w:b_) (b:Nat) (mf mb:List (aL×Int)) (os ys:List (Int×ai)):Prop:= ∀ o∈os,∀ p∈mf,∀ u∈mb,∀ q,mQ w b p u o=some q→q∈ys
def ob (w:b_) (b:Nat) (mf mb:List (aL×Int)) (o:Int×ai) (left:List (aL×Int)) (ys:List (Int×ai)):Prop:= ∀ p∈mf,p∈left∨ ∀ u∈mb,∀ q,mQ w b p u o=some q→q∈ys
def nG (w:b_) (b:Nat) (mb:List (aL×Int)) (o:Int×ai) (p:aL×Int) (left:List (aL×Int)) (ys:List (Int×ai)):Prop:= ∀ u∈mb,u∈left∨ ∀ q,mQ w b p u o=some q→q∈ys
variable {w:b_} {b:Nat} {mf mb left:List (aL×Int)} {o x:Int×ai} {os ys:List (Int×ai)} {p u:aL×Int}
theorem lV.nil:lV w b mf mb [] ys:=fun o ho=>by cases ho
theorem lV.app (h:lV w b mf mb os ys):lV w b mf mb os (ys++[x]):=fun o ho p hp u hu q e=>List.mem_append_left _ (h o ho p hp u hu q e)
theorem ob.app (h:ob w b mf mb o left ys):ob w b mf mb o left (ys++[x]):=fun p hp=>(h p hp).imp id fun h u hu q e=>List.mem_append_left _ (h u hu q e)
theorem ob.start:ob w b mf mb o mf ys:=fun p hp=> .inl hp
theorem nG.start:nG w b mb o p mb ys:=fun p hp=> .inl hp
theorem nG.skip {t:aL} {v:Int} (hn:(left.map (·.1)).Nodup) (hm:(t,v)∈left) (h:nG w b mb o p left ys) (he:mQ w b p (t,v) o=none):nG w b mb o p (fz left t) ys:=fun u hu=>by
 rcases h u hu with q|q
 ·rcases lZ hn hm q with q|q
  ·exact .inl q
  ·right; intro z hz; rw [q,he] at hz; cases hz
 ·exact .inr q
theorem nG.TQ {t:aL} {v:Int} (hn:(left.map (·.1)).Nodup) (hm:(t,v)∈left) (h:nG w b mb o p left ys) (he:mQ w b p (t,v) o=some x):nG w b mb o p (fz left t) (ys++[x]):=fun u hu=>by
 rcases h u hu with q|q
 ·rcases lZ hn hm q with q|q
  ·exact .inl q
  ·right; intro z hz; rw [q,he] at hz; cases hz; simp
 ·right; intro z hz; exact List.mem_append_left _ (q z hz)
theorem ob.next {t:aL} {v:Int} {l2:List (aL×Int)} (hn:(left.map (·.1)).Nodup) (hm:(t,v)∈left) (h:ob w b mf mb o left ys) (hq:nG w b mb o (t,v) l2 ys) (h0:l2=[]):ob w b mf mb o (fz left t) ys:=fun p hp=>by
 rcases h p hp with q|q
 ·rcases lZ hn hm q with q|q
  ·exact .inl q
  ·right; intro u hu z hz; subst q
   rcases hq u hu with q|q
   ·rw [h0] at q; cases q
   ·exact q z hz
 ·exact .inr q
theorem lV.next (h:lV w b mf mb os ys) (hp:ob w b mf mb o left ys) (h0:left=[]):lV w b mf mb (os++[o]) ys:=fun o' ho p hp' u hu q e=>by
 rcases gI.1 ho with ho|ho
 ·exact h o' ho p hp' u hu q e
 ·simp only [cu] at ho; subst ho
  rcases hp p hp' with z|z
  ·rw [h0] at z; cases z
  ·exact z u hu q e
theorem lV.fin (h:lV w b mf mb os ys) (ho: ∀ o∈iT w b,o∈os): ∀ q∈qt w b mf mb,q∈ys:=fun q hq=>by
 obtain ⟨o,A,p,B,u,C,e⟩:=iJ.1 hq
 exact h o (ho o A) p B u C q e
theorem FW (h:max (p.2+cp w b) o.2.Lo≤min u.2 o.2.Hi) (h2:kO w (dG (dG p.1 u.1) (fJ o.1))=true):mQ w b p u o=some (o.1,⟨max (p.2+cp w b) o.2.Lo,min u.2 o.2.Hi⟩):=by
 unfold mQ jI xE; rw [if_pos ⟨h,h2⟩]
theorem KS (h: ¬ max (p.2+cp w b) o.2.Lo≤min u.2 o.2.Hi):mQ w b p u o=none:=by
 unfold mQ jI; rw [if_neg (fun q=>h q.1)]
theorem F2 (h2:kO w (dG (dG p.1 u.1) (fJ o.1))=false):mQ w b p u o=none:=by
 unfold mQ xE; rw [if_neg (fun q=>by rw [h2] at q; exact absurd q.2 dc)]
theorem oe {v:Int} (h:w.qn[b]? =some v):cp w b=v:=by unfold cp; rw [h]; rfl
theorem Cy {t q:aL} {v z y:Int} (hy:w.qn[b]? =some y) (h:max (v+y) o.2.Lo≤min z o.2.Hi) (h2:kO w (dG (dG t q) (fJ o.1))=true):mQ w b (t,v) (q,z) o=some (o.1,⟨max (v+y) o.2.Lo,min z o.2.Hi⟩):=by
 have e:=oe hy
 subst e
 exact FW h h2
theorem Hk {t q:aL} {v z y:Int} (hy:w.qn[b]? =some y) (h: ¬ max (v+y) o.2.Lo≤min z o.2.Hi):mQ w b (t,v) (q,z) o=none:=by
 have e:=oe hy
 subst e
 exact KS h
theorem oo {m:List (aL×Int)} {k:aL} {y:Int} (h:(m.map (·.1)).Nodup):((ep m k y).map (·.1)).Nodup:=by
 unfold ep
 by_cases hx:(m.lookup k).isSome
 ·rw [if_pos hx,List.map_map]
  have e:m.map ((fun p=>p.1)∘fun p=>if p.1=k then (k,y) else p)=m.map (·.1):=by
   apply List.map_congr_left
   intro p _
   simp only [Function.comp]
   split
   ·rename_i e; exact e.symm
   ·rfl
  rw [e]; exact h
 ·rw [if_neg hx,List.map_append,List.nodup_append]
  refine ⟨h,sm,?_⟩
  intro a ha c hc
  simp only [List.map_cons,List.map_nil,cu] at hc
  rw [hc]
  obtain ⟨p,hp,rfl⟩:=cz.1 ha
  have hn:m.lookup k=none:=by cases h0:m.lookup k with
   |none=>rfl
   |some v=>exact absurd (by rw [h0]; rfl) hx
  exact iz.1 hn p hp
theorem CG {m:List (aL×Int)} {q:aL×Int} (h:(m.map (·.1)).Nodup):((pG m q).map (·.1)).Nodup:=by
 unfold pG; split
 ·exact oo h
 ·split
  ·exact oo h
  ·exact h
theorem CS {m:List (aL×Int)} {q:aL×Int} (h:(m.map (·.1)).Nodup):((o8 m q).map (·.1)).Nodup:=by
 unfold o8; split
 ·exact oo h
 ·split
  ·exact oo h
  ·exact h
/-- a map of the first times, on its way -/
structure xg (w:b_) (b:Nat) (m:List (aL×Int)):Prop where
 snd:vU m (fwd w (b+1))
 keys:(m.map (·.1)).Nodup
structure wh (w:b_) (b:Nat) (m:List (aL×Int)):Prop where
 snd:vU m (back w b)
 keys:(m.map (·.1)).Nodup
 zero: ∃ v,m.lookup ⟨0,0⟩=some v∧w.gf≤v
theorem IX (h:max (p.2+cp w b) o.2.Lo≤min o.2.Hi w.gf):kW w b p o=some (dG p.1 (fJ o.1),max (p.2+cp w b) o.2.Lo):=by unfold kW; rw [if_pos h]
theorem LF (h: ¬ max (p.2+cp w b) o.2.Lo≤min o.2.Hi w.gf):kW w b p o=none:=by unfold kW; rw [if_neg h]
theorem KX (h:o.2.Lo≤min p.2 o.2.Hi):oh w b p o=some (dG p.1 (fJ o.1),min p.2 o.2.Hi-cp w b):=by unfold oh; rw [if_pos h]
theorem Na (h: ¬ o.2.Lo≤min p.2 o.2.Hi):oh w b p o=none:=by unfold oh; rw [if_neg h]
theorem xg.start:xg w b []:=⟨fun t v h=>by simp at h,List.nodup_nil⟩
theorem xg.add {m:List (aL×Int)} {q:aL×Int} (h:xg w b m) (hp:p∈fwd w b) (ho:o∈iT w b) (he:kW w b p o=some q):xg w b (pG m q):=⟨Hp h.snd (gh.2 ⟨p,hp,o,ho,he⟩),CG h.keys⟩
theorem wh.start (hb:b<w.n):wh w b [(⟨0,0⟩,w.gf)]:=⟨fun t v h=>by
 obtain ⟨rfl,rfl⟩:=pw.1 h
 exact (px hb).2 (.inl U),sm,w.gf,pw.2 ⟨U,U⟩,Int.le_refl _⟩
theorem wh.add {m:List (aL×Int)} {q:aL×Int} (hb:b<w.n) (h:wh w b m) (hp:p∈back w (b+1)) (ho:o∈iT w b) (he:oh w b p o=some q):wh w b (o8 m q):=⟨Gy h.snd ((px hb).2 (.inr ⟨p,hp,o,ho,he⟩)),CS h.keys,by
 obtain ⟨v,A,C⟩:=h.zero
 obtain ⟨v',B,D⟩:=qJ (q:=q) _ _ A
 exact ⟨v',B,om⟩⟩
theorem jx.none_ {m:List (aL×Int)} (h:jx w b m p os) (he:kW w b p o=none):jx w b m p (os++[o]):=h.add (xG.refl _) fun q hq=>by rw [he] at hq; cases hq
theorem jx.Iw {m:List (aL×Int)} {q:aL×Int} (h:jx w b m p os) (he:kW w b p o=some q):jx w b (pG m q) p (os++[o]):=h.add vH fun q' hq=>by rw [he] at hq; cases hq; exact Gj
theorem jy.none_ {m:List (aL×Int)} (h:jy w b m p os) (he:oh w b p o=none):jy w b m p (os++[o]):=h.add (ye.refl _) fun q hq=>by rw [he] at hq; cases hq
theorem jy.Iw {m:List (aL×Int)} {q:aL×Int} (h:jy w b m p os) (he:oh w b p o=some q):jy w b (o8 m q) p (os++[o]):=h.add qJ fun q' hq=>by rw [he] at hq; cases hq; exact Gx
/-- what of a map of the beam before is used already -/
def ke (w:b_) (b:Nat) (mb m left:List (aL×Int)):Prop:= ∀ p∈mb,p∈left∨jx w b m p (iT w b)
def jQ (w:b_) (b:Nat) (mb m left:List (aL×Int)):Prop:= ∀ p∈mb,p∈left∨jy w b m p (iT w b)
theorem ke.start {m:List (aL×Int)}:ke w b mb m mb:=fun p hp=> .inl hp
theorem jQ.start {m:List (aL×Int)}:jQ w b mb m mb:=fun p hp=> .inl hp
theorem ke.lower {m m':List (aL×Int)} (h:ke w b mb m left) (hl:xG m m'):ke w b mb m' left:=fun p hp=>(h p hp).imp id fun h=>h.lower hl
theorem jQ.upper {m m':List (aL×Int)} (h:jQ w b mb m left) (hl:ye m m'):jQ w b mb m' left:=fun p hp=>(h p hp).imp id fun h=>h.upper hl
theorem ke.next {m:List (aL×Int)} {t:aL} {v:Int} (hn:(left.map (·.1)).Nodup) (hm:(t,v)∈left) (h:ke w b mb m left) (hd:jx w b m (t,v) os) (ho: ∀ o∈iT w b,o∈os):ke w b mb m (fz left t):=fun p hp=>by
 rcases h p hp with q|q
 ·rcases lZ hn hm q with q|q
  ·exact .inl q
  ·right; rw [q]; exact hd.sub ho
 ·exact .inr q
theorem jQ.next {m:List (aL×Int)} {t:aL} {v:Int} (hn:(left.map (·.1)).Nodup) (hm:(t,v)∈left) (h:jQ w b mb m left) (hd:jy w b m (t,v) os) (ho: ∀ o∈iT w b,o∈os):jQ w b mb m (fz left t):=fun p hp=>by
 rcases h p hp with q|q
 ·rcases lZ hn hm q with q|q
  ·exact .inl q
  ·right; rw [q]; exact hd.sub ho
 ·exact .inr q
theorem ke.fin {m:List (aL×Int)} (h:ke w b mb m left) (h0:left=[]): ∀ p∈mb,jx w b m p (iT w b):=fun p hp=>by
 rcases h p hp with q|q
 ·rw [h0] at q; cases q
 ·exact q
theorem jQ.fin {m:List (aL×Int)} (h:jQ w b mb m left) (h0:left=[]): ∀ p∈mb,jy w b m p (iT w b):=fun p hp=>by
 rcases h p hp with q|q
 ·rw [h0] at q; cases q
 ·exact q
end
section
def mN (a b:ai):ai:=⟨a.Lo+b.Lo,a.Hi+b.Hi⟩
def gS:ai:=⟨0,0⟩
def kI (a:ai) (l:List ai):ai:=l.foldl mN a
def lT (z:ai):Prop:=(-1000000000≤z.Lo∧z.Lo≤1000000000)∧ -1000000000≤z.Hi∧z.Hi≤1000000000
theorem yJ {a:ai} {l:List ai} {i:Nat} {z:ai} (h:l[i]? =some z):kI a (l.take (i+1))=mN (kI a (l.take i)) z:=by
 rw [List.take_add_one,h]; unfold kI; simp
theorem OJ {a:ai} {l:List ai} (ha:lT a) (hl: ∀ z∈l,lT z): ∀ i:Nat,(-1000000000-1000000000*(i:Int)≤(kI a (l.take i)).Lo∧(kI a (l.take i)).Lo≤1000000000+1000000000*(i:Int))∧ -1000000000-1000000000*(i:Int)≤(kI a (l.take i)).Hi∧(kI a (l.take i)).Hi≤1000000000+1000000000*(i:Int):=by
 intro i
 induction i with
 |zero=>unfold lT at ha; simp [kI]; omega
 |succ i ih=>
  cases h:l[i]? with
  |none=>rw [List.take_add_one,h]; simp only [Option.toList_none,List.append_nil]; omega
  |some z=>
   have hz:=hl z (aQ h)
   unfold lT at hz
   rw [yJ h]
   simp only [mN]
   omega
theorem JW {a:ai} {l:List ai} {i:Nat} (h:l.length≤i):kI a (l.take i)=kI a l:=by rw [List.take_of_length_le h]
theorem nO {a z:ai}:vA (ai.cells (kI a [z]))=vA (ai.cells (mN a z)):=rfl
theorem BM {a y z:ai}:vA (ai.cells (kI a [y,z]))=vA (ai.cells (mN (mN a y) z)):=rfl
/-- how long the run is from one mark, over so many stretches; by how much it falls -/
def eK (ts:List au) (f:Nat):Nat→ai
 |0=>gS
 |k+1=>match ts[f+k]? with
  |some x=>mN (eK ts f k) x.kJ
  |none=>eK ts f k
def gK (ts:List au) (f:Nat):Nat→ai
 |0=>gS
 |k+1=>match ts[f+k]? with
  |some x=>mN (gK ts f k) x.l0
  |none=>gK ts f k
theorem qb {ts:List au} {f k:Nat} {x:au} (h:ts[f+k]? =some x):eK ts f (k+1)=mN (eK ts f k) x.kJ:=by simp [eK,h]
theorem pZ {ts:List au} {f k:Nat} {x:au} (h:ts[f+k]? =some x):gK ts f (k+1)=mN (gK ts f k) x.l0:=by simp [gK,h]
theorem mw {ts:List au} (ht: ∀ x∈ts,bX x) (f:Nat): ∀ k:Nat,(0≤(eK ts f k).Lo∧(eK ts f k).Lo≤(eK ts f k).Hi)∧(eK ts f k).Hi≤30000*(k:Int):=by
 intro k
 induction k with
 |zero=>simp [eK,gS]
 |succ k ih=>
  simp only [eK]
  cases h:ts[f+k]? with
  |none=>simp only; omega
  |some x=>
   have hx:=(ht x (aQ h)).2.1
   simp only [eh] at hx
   simp only [mN]
   omega
theorem Ex {ts:List au} (ht: ∀ x∈ts,bX x) (f:Nat): ∀ k:Nat,(0≤(gK ts f k).Lo∧(gK ts f k).Lo≤(gK ts f k).Hi)∧(gK ts f k).Hi≤5000*(k:Int):=by
 intro k
 induction k with
 |zero=>simp [gK,gS]
 |succ k ih=>
  simp only [gK]
  cases h:ts[f+k]? with
  |none=>simp only; omega
  |some x=>
   have hx:=(ht x (aQ h)).2.2.1
   simp only [eh] at hx
   simp only [mN]
   omega
theorem re {ts:List au} (ht: ∀ x∈ts,bX x) {f k:Nat} (hk:k≤13):lT (eK ts f k):=by
 have:=mw ht f k; unfold lT; omega
theorem wG {ts:List au} (ht: ∀ x∈ts,bX x) {f k:Nat} (hk:k≤13):lT (gK ts f k):=by
 have:=Ex ht f k; unfold lT; omega
theorem vu {x:au} (h:bX x):lT x.kJ:=by have:=h.2.1; simp only [eh] at this; unfold lT; omega
theorem u3 {x:au} (h:bX x):lT x.l0:=by have:=h.2.2.1; simp only [eh] at this; unfold lT; omega
theorem y7 {ts:List au} (h: ¬ (if dq ts=true then (0:Int) else 10)=0):dq ts=false∧(if dq ts=true then (0:Int) else 10)=10:=by
 cases ht:dq ts with
 |true=>rw [ht] at h; exact absurd rfl h
 |false=>exact ⟨rfl,rfl⟩
theorem D7 {ts:List au} (h:(if dq ts=true then (0:Int) else 10)=0):dq ts=true:=by
 cases ht:dq ts with
 |true=>rfl
 |false=>rw [ht] at h; exact absurd h dc
/-- what the iterator of marks yields -/
def uh (ts:List au) (f:Nat):List (List Value):=(List.range (ts.length-f+1)).map fun (k:Nat)=>[.agg (eK ts f k).cells.toArray,.agg (gK ts f k).cells.toArray]
theorem tv {ts:List au} {f:Nat}:(uh ts f).length=ts.length-f+1:=by simp [uh]
theorem zm {ts:List au} {f k:Nat} (h:k≤ts.length-f):(uh ts f)[k]? =some [.agg (eK ts f k).cells.toArray,.agg (gK ts f k).cells.toArray]:=by
 simp [uh,List.getElem?_range (show k<ts.length-f+1 by omega)]
theorem FT {ts:List au} {f k:Nat} {x:List Value} (h:(uh ts f)[k]? =some x):k≤ts.length-f∧x=[.agg (eK ts f k).cells.toArray,.agg (gK ts f k).cells.toArray]:=by
 have hi:k<ts.length-f+1:=by
  have:=(aX.1 h).1
  simpa [uh] using this
 rw [zm om] at h
 exact ⟨om,(Option.some.inj h).symm⟩
theorem DP {ts:List au} {f:Nat}: ∀ x∈uh ts f,x.length=2:=fun x hx=>by
 obtain ⟨k,_,rfl⟩:=cz.1 hx; rfl
end
section
def fO (ts:List au) (s:cG):Prop:=(0≤s.bB∧s.bB<(ts.length:Int))∧ ∃ x,ts[s.bB.toNat]? =some x∧eh s.mU 0 (x.kJ.Lo-1)
noncomputable instance (ts:List au) (s:cG):Decidable (fO ts s):=Classical.propDecidable _
theorem BC {ts:List au} {s:cG} {x:au} (h:0≤s.bB∧s.bB<(ts.length:Int)) (hx:ts[s.bB.toNat]? =some x):fO ts s↔eh s.mU 0 (x.kJ.Lo-1):=
 ⟨fun A=>by obtain ⟨y,hy,B⟩:=A.2; rw [hx] at hy; cases hy; exact B,fun A=>⟨h,x,hx,A⟩⟩
theorem Cf {ts:List au} {s:cG} (h: ¬ (0≤s.bB∧s.bB<(ts.length:Int))): ¬ fO ts s:=fun A=>h A.1
theorem Au {ts:List au} {s:cG} (ht: ∀ x∈ts,bX x) (h:fO ts s):(0≤s.mU.Lo∧s.mU.Lo≤s.mU.Hi)∧s.mU.Hi≤30000:=by
 obtain ⟨x,hx,A⟩:=h.2
 have:=(ht x (aQ hx)).2.1
 simp only [eh] at A this
 omega
theorem En {ts:List au} {a:cG}:vB (decide (∀ s∈[a],fO ts s))=vB (decide (fO ts a)):=congrArg _ (gY.2 sm)
theorem DI {ts:List au} {a b:cG}:vB (decide (∀ s∈[a,b],fO ts s))=vB (decide (fO ts a∧fO ts b)):=congrArg _ (gY.2 sm)
def oE (z:ai):ai:=⟨-z.Hi,-z.Lo⟩
def Ll (ts:List au) (s:cG):ai:=mN (eK ts 0 s.bB.toNat) s.mU
noncomputable def E4 (ts:List au) (s:cG):Int:=if dq ts=true then (if fO ts s then 0 else 12) else 10
noncomputable def OD (ts:List au) (s:cG):ai:=if E4 ts s=0 then Ll ts s else gS
theorem JU {ts:List au} {s:cG} (h:dq ts=false):E4 ts s=10∧OD ts s=gS:=by
 have e:E4 ts s=10:=by unfold E4; rw [h]; rfl
 exact ⟨e,by unfold OD; rw [e]; rfl⟩
theorem KD {ts:List au} {s:cG} (h:dq ts=true) (h2: ¬ fO ts s):E4 ts s=12∧OD ts s=gS:=by
 have e:E4 ts s=12:=by unfold E4; rw [if_pos h,if_neg h2]
 exact ⟨e,by unfold OD; rw [e]; rfl⟩
theorem xh {ts:List au} {s:cG} (h:dq ts=true) (h2:fO ts s):E4 ts s=0∧OD ts s=Ll ts s:=by
 have e:E4 ts s=0:=by unfold E4; rw [if_pos h,if_pos h2]
 exact ⟨e,if_pos e⟩
theorem FF {ts:List au} {s:cG} (h:dq ts=true):E4 ts s=0↔fO ts s:=by
 unfold E4; rw [if_pos h]; split<;>simp [*]
def yf (ts:List au) (a b:cG):ai:=eK ts (min a.bB b.bB).toNat (max a.bB b.bB-min a.bB b.bB).toNat
def j4 (ts:List au) (a b:cG):ai:=mN (mN (if b.bB<a.bB then oE (yf ts a b) else yf ts a b) b.mU) (oE a.mU)
noncomputable def l9 (ts:List au) (a b:cG):Int:=if dq ts=true then (if fO ts a∧fO ts b then 0 else 12) else 10
noncomputable def k7 (ts:List au) (a b:cG):ai:=if l9 ts a b=0 then j4 ts a b else gS
theorem uX {ts:List au} {a b:cG} (h:dq ts=false):l9 ts a b=10∧k7 ts a b=gS:=by
 have e:l9 ts a b=10:=by unfold l9; rw [h]; rfl
 exact ⟨e,by unfold k7; rw [e]; rfl⟩
theorem pq {ts:List au} {a b:cG} (h:dq ts=true) (h2: ¬ (fO ts a∧fO ts b)):l9 ts a b=12∧k7 ts a b=gS:=by
 have e:l9 ts a b=12:=by unfold l9; rw [if_pos h,if_neg h2]
 exact ⟨e,by unfold k7; rw [e]; rfl⟩
theorem lK {ts:List au} {a b:cG} (h:dq ts=true) (h2:fO ts a∧fO ts b):l9 ts a b=0∧k7 ts a b=j4 ts a b:=by
 have e:l9 ts a b=0:=by unfold l9; rw [if_pos h,if_pos h2]
 exact ⟨e,if_pos e⟩
theorem zF {z:ai} (h:lT z):lT (oE z):=by unfold lT oE at *; simp only; omega
theorem qD {ts:List au} {s:cG} (ht: ∀ x∈ts,bX x) (h:fO ts s):lT s.mU:=by have:=Au ht h; unfold lT; omega
theorem P3 {ts:List au} {a b:cG} (ht: ∀ x∈ts,bX x) (hl:ts.length≤12) (ha:fO ts a) (hb:fO ts b):(0≤(yf ts a b).Lo∧(yf ts a b).Lo≤(yf ts a b).Hi)∧(yf ts a b).Hi≤360000:=by
 have h:=mw ht (min a.bB b.bB).toNat (max a.bB b.bB-min a.bB b.bB).toNat
 have A:=ha.1
 have B:=hb.1
 unfold yf
 omega
theorem xH {ts:List au} {a b:cG} (ht: ∀ x∈ts,bX x) (hl:ts.length≤12) (ha:fO ts a) (hb:fO ts b):(-400000≤(j4 ts a b).Lo∧(j4 ts a b).Lo≤(j4 ts a b).Hi)∧(j4 ts a b).Hi≤400000:=by
 have h:=P3 ht hl ha hb
 have A:=Au ht ha
 have B:=Au ht hb
 unfold j4 mN oE
 split<;>simp only <;>omega
theorem Td {ts:List au} {s:cG} (ht: ∀ x∈ts,bX x) (hl:ts.length≤12) (h:fO ts s):(0≤(Ll ts s).Lo∧(Ll ts s).Lo≤(Ll ts s).Hi)∧(Ll ts s).Hi≤400000:=by
 have A:=mw ht 0 s.bB.toNat
 have B:=Au ht h
 have C:=h.1
 unfold Ll mN
 simp only; omega
theorem Hg {α:Type} {p:Nat→α→Bool} {l:List α}:((l.zipIdx.filter fun q=>p q.2 q.1).map fun q=>(q.2:Int))=[]↔ ∀ (i:Nat) x,l[i]? =some x→p i x=false:=by
 rw [List.map_eq_nil_iff,List.filter_eq_nil_iff]
 constructor
 ·intro h i x hx
  have:=h (x,i) (by rw [List.mem_zipIdx_iff_getElem?]; simpa using hx)
  simpa using this
 ·rintro h ⟨x,i⟩ hm
  rw [List.mem_zipIdx_iff_getElem?] at hm
  simpa using h i x (by simpa using hm)
/-- the places of a list at which something is so -/
def sX {α:Type} (p:Nat→α→Bool) (l:List α) (n:Nat):List Int:=(((l.take n).zipIdx.filter fun q=>p q.2 q.1).map fun q=>(q.2:Int))
theorem Ky {α:Type} {p:Nat→α→Bool} {l:List α} {i:Nat} {x:α} (hx:l[i]? =some x) (h:p i x=true):sX p l (i+1)=sX p l i++[(i:Int)]:=by
 have hi:=(aX.1 hx).1
 unfold sX
 rw [List.take_add_one,hx,List.zipIdx_append,List.filter_append,List.map_append]
 simp [Nat.min_eq_left (Nat.le_of_lt hi),h]
theorem Mu {α:Type} {p:Nat→α→Bool} {l:List α} {i:Nat} {x:α} (hx:l[i]? =some x) (h:p i x=false):sX p l (i+1)=sX p l i:=by
 have hi:=(aX.1 hx).1
 unfold sX
 rw [List.take_add_one,hx,List.zipIdx_append,List.filter_append,List.map_append]
 simp [Nat.min_eq_left (Nat.le_of_lt hi),h]
theorem AV {α:Type} {p:Nat→α→Bool} {l:List α} {n:Nat}:(sX p l n).length≤n:=by
 unfold sX
 rw [List.length_map]
 refine Nat.le_trans (List.length_filter_le _ _) ?_
 rw [List.length_zipIdx,List.length_take]; omega
def KU {α:Type} (p:Nat→α→Bool) (l:List α):List Int:=sX p l l.length
theorem MI {α:Type} {p:Nat→α→Bool} {l:List α} {n:Nat} (h:n=l.length):sX p l n=KU p l:=by rw [h]; rfl
theorem GI {α:Type} {p:Nat→α→Bool} {l:List α}:(KU p l).length=0↔ ∀ (i:Nat) x,l[i]? =some x→p i x=false:=by
 unfold KU sX
 rw [List.length_eq_zero_iff,List.take_length]
 exact Hg
end
section
theorem yW (p:Int→Bool) (n:Nat): ∃ r:Int,r=((List.range n).findIdx fun (k:Nat)=>p (k:Int):Nat):=⟨_,rfl⟩
noncomputable def fQ (p:Int→Bool) (n:Nat):Int:=Classical.choose (yW p n)
theorem sP (p:Int→Bool) (n:Nat):fQ p n=((List.range n).findIdx fun (k:Nat)=>p (k:Int):Nat):=Classical.choose_spec (yW p n)
theorem iO {p:Int→Bool} {n:Nat}:0≤fQ p n∧fQ p n≤n:=by
 rw [sP]
 have:=List.findIdx_le_length (xs:=List.range n) (p:=fun (k:Nat)=>p (k:Int))
 rw [List.length_range] at this
 omega
theorem uK {p:Int→Bool} {n:Nat} {x:Int} (h0:0≤x) (h:x<fQ p n):p x=false:=by
 have hb:=iO (p:=p) (n:=n)
 rw [sP] at h
 have B:x.toNat<(List.range n).findIdx fun (k:Nat)=>p (k:Int):=by omega
 have A:=List.not_of_lt_findIdx B
 simp only [List.getElem_range] at A
 rw [show (x.toNat:Int)=x by omega] at A
 simpa using A
theorem zh {p:Int→Bool} {n:Nat} (h:fQ p n<n):p (fQ p n)=true:=by
 rw [sP] at h ⊢
 have A:((List.range n).findIdx fun (k:Nat)=>p (k:Int))<(List.range n).length:=by rw [List.length_range]; omega
 have:=List.findIdx_getElem (w:=A)
 simpa using this
theorem zf {p:Int→Bool} {n:Nat} {r:Int} (h0:0≤r) (hn:r<n) (hr:p r=true) (hb: ∀ x,0≤x→x<r→p x=false):fQ p n=r:=by
 have A:=iO (p:=p) (n:=n)
 rcases Int.lt_trichotomy (fQ p n) r with h|h|h
 ·have:=hb _ A.1 h
  have e:=zh (p:=p) (n:=n) om
  rw [e] at this; cases this
 ·exact h
 ·have:=uK h0 h
  rw [hr] at this; cases this
end
section
def o0 (n by_:Int):Int:=(n+by_-1)/by_
/-- by how much a sync may be off -/
def sR (c:ay) (at_:Int) (x:cQ):Int:=o0 (c.dF*max (at_-x.At) (x.At-at_)) 1000000
def l5 (c:ay) (at_:Int) (s:ai) (x:cQ):ai:=⟨max s.Lo (x.eJ.Lo-sR c at_ x),min s.Hi (x.eJ.Hi+sR c at_ x)⟩
def gO (c:ay) (at_:Int) (k:Nat):ai:=(c.bI.take k).foldl (l5 c at_) ⟨-1099511627776,1099511627776⟩
def iQ (c:ay) (at_:Int):ai:=c.bI.foldl (l5 c at_) ⟨-1099511627776,1099511627776⟩
theorem j6 {c:ay} {at_:Int} {k:Nat} {x:cQ} (h:c.bI[k]? =some x):gO c at_ (k+1)=l5 c at_ (gO c at_ k) x:=by
 unfold gO; rw [List.take_add_one,h,List.foldl_append]; rfl
theorem nR {c:ay} {at_:Int} {k:Nat} (h:c.bI.length≤k):gO c at_ k=iQ c at_:=by unfold gO iQ; rw [List.take_of_length_le h]
def kG (c:ay) (i:Nat):Int:=if i=0 then-1 else ((c.bI[i-1]?).map (·.At)).getD 0
def fT (c:ay) (i:Nat) (x:cQ):Prop:=(kG c i<x.At∧x.At≤86400000)∧ -10000≤x.eJ.Lo∧x.eJ.Lo≤x.eJ.Hi∧x.eJ.Hi≤10000
def nJ (c:ay) (x o:cQ):Prop:=x.eJ.Lo-o.eJ.Hi≤o0 (c.dF*(x.At-o.At)) 1000000∧o.eJ.Lo-x.eJ.Hi≤o0 (c.dF*(x.At-o.At)) 1000000
structure fr (c:ay):Prop where
 sE:0≤c.dF∧c.dF≤1000
 len:1≤c.bI.length∧c.bI.length≤5
 sync: ∀ (i:Nat) x,c.bI[i]? =some x→fT c i x
 pair: ∀ (i k:Nat) x o,c.bI[i]? =some x→k<i→c.bI[k]? =some o→nJ c x o
noncomputable instance (c:ay):Decidable (fr c):=Classical.propDecidable _
theorem gT {c:ay} {i:Nat} (h:i=0):kG c i= -1:=if_pos h
theorem wT {c:ay} {i:Nat} {y:cQ} (h:0<i) (hy:c.bI[i-1]? =some y):kG c i=y.At:=by unfold kG; rw [if_neg om,hy]; rfl
theorem oK {c:ay} {i:Nat} {y:cQ} (hy:c.bI[i]? =some y):kG c (i+1)=y.At:=by unfold kG; rw [if_neg om,Nat.add_sub_cancel,hy]; rfl
/-- the times of the syncs -/
theorem Nx {c:ay} (h: ∀ (i:Nat) x,c.bI[i]? =some x→fT c i x): ∀ (i:Nat) x,c.bI[i]? =some x→0≤x.At∧ ∀ (k:Nat) o,k<i→c.bI[k]? =some o→o.At<x.At:=by
 intro i
 induction i with
 |zero=>
  intro x hx
  have:=(h 0 x hx).1.1
  rw [gT rfl] at this
  exact ⟨om,fun k o hk=>by omega⟩
 |succ i ih=>
  intro x hx
  have hi:=(aX.1 hx).1
  have hy:c.bI[i]? =some (c.bI[i]'om):=eN om
  have B:=ih _ hy
  have A:=(h (i+1) x hx).1.1
  rw [oK hy] at A
  refine ⟨om,fun k o hk ho=>?_⟩
  by_cases e:k=i
  ·subst e; rw [hy] at ho; cases ho; exact A
  ·have:=B.2 k o om ho; omega
theorem fr.vo {c:ay} (h:fr c) {i:Nat} {x:cQ} (hx:c.bI[i]? =some x):(0≤x.At∧x.At≤86400000)∧ -10000≤x.eJ.Lo∧x.eJ.Lo≤x.eJ.Hi∧x.eJ.Hi≤10000:=by
 have A:=h.sync i x hx
 exact ⟨⟨(Nx h.sync i x hx).1,A.1.2⟩,A.2⟩
theorem EG {d a b:Int} (hd:0≤d∧d≤1000) (ha:0≤a∧a≤90000000) (hb:0≤b∧b≤90000000):0≤d*max (a-b) (b-a)∧d*max (a-b) (b-a)≤90000000000:=by
 have:=Qo (a:=d) (b:=max (a-b) (b-a)) (A:=1000) (B:=90000000) hd.1 hd.2 om om
 omega
theorem ve {c:ay} {at_:Int} {x:cQ} (hd:0≤c.dF∧c.dF≤1000) (ha:0≤at_∧at_≤90000000) (hx:0≤x.At∧x.At≤86400000):0≤sR c at_ x∧sR c at_ x≤90001:=by
 have h:=EG hd ha (show 0≤x.At∧x.At≤90000000 by omega)
 unfold sR o0; omega
theorem Bh {c:ay} {at_:Int} (h:fr c) (ha:0≤at_∧at_≤90000000): ∀ k:Nat,(-1099511627776≤(gO c at_ k).Lo∧(gO c at_ k).Lo≤10000)∧ -10000≤(gO c at_ k).Hi∧(gO c at_ k).Hi≤1099511627776:=by
 intro k
 induction k with
 |zero=>simp [gO]
 |succ k ih=>
  cases hx:c.bI[k]? with
  |none=>unfold gO at ih ⊢; rw [List.take_add_one,hx]; simpa using ih
  |some x=>
   have hb:=h.vo hx
   have ho:=ve h.sE ha hb.1
   rw [j6 hx]
   unfold l5
   simp only
   omega
theorem qH {c:ay} {at_:Int} (h:fr c) (ha:0≤at_∧at_≤90000000):(-110000≤(iQ c at_).Lo∧(iQ c at_).Lo≤10000)∧ -10000≤(iQ c at_).Hi∧(iQ c at_).Hi≤110000:=by
 obtain ⟨n,hn⟩: ∃ n,c.bI.length=n+1:=⟨c.bI.length-1,by have:=h.len; omega⟩
 have hx:c.bI[n]? =some (c.bI[n]'om):=eN om
 have hb:=h.vo hx
 have ho:=ve h.sE ha hb.1
 have A:=Bh h ha n
 rw [← nR (k:=n+1) om,j6 hx]
 unfold l5
 simp only
 omega
/-- as time goes on, time and what a clock may be ahead, together, never go back -/
theorem Dj {c:ay} (h:fr c) {a b:Int} (ha:0≤a) (hab:a≤b) (hb:b≤90000000): ∀ k:Nat,(a+(gO c a k).Lo≤b+(gO c b k).Lo∨(gO c a k).Lo= -1099511627776)∧a+(gO c a k).Hi≤b+(gO c b k).Hi:=by
 have step: ∀ (x:cQ),0≤x.At∧x.At≤86400000→ ∀ a b:Int,0≤a→a≤b→b≤90000000→sR c a x≤sR c b x+(b-a)∧sR c b x≤sR c a x+(b-a):=by
  intro x hx a b ha hab hb
  have hd:=h.sE
  have e: ∀ u v:Int,u≤v+1000000*(b-a)→o0 u 1000000≤o0 v 1000000+(b-a):=by intro u v C; unfold o0; omega
  have m: ∀ p q:Int,p≤q+(b-a)→c.dF*p≤c.dF*q+1000000*(b-a):=by
   intro p q A
   have D:c.dF*p≤c.dF*(q+(b-a)):=Int.mul_le_mul_of_nonneg_left A hd.1
   have E:c.dF*(q+(b-a))=c.dF*q+c.dF*(b-a):=Int.mul_add _ _ _
   have F:c.dF*(b-a)≤1000*(b-a):=Int.mul_le_mul_of_nonneg_right hd.2 om
   omega
  exact ⟨e _ _ (m _ _ om),e _ _ (m _ _ om)⟩
 intro k
 induction k with
 |zero=>simp [gO]; omega
 |succ k ih=>
  cases hx:c.bI[k]? with
  |none=>
   have e: ∀ t,gO c t (k+1)=gO c t k:=fun t=>by unfold gO; rw [List.take_add_one,hx]; simp
   rw [e,e]; exact ih
  |some x=>
   have hs:=h.vo hx
   have:=step x hs.1 a b ha hab hb
   have B:=ve (at_:=a) h.sE ⟨ha,om⟩ hs.1
   rw [j6 hx,j6 hx]
   unfold l5
   simp only
   omega
theorem oF {c:ay} (h:fr c) {a b:Int} (ha:0≤a) (hab:a≤b) (hb:b≤90000000):a+(iQ c a).Lo≤b+(iQ c b).Lo∧a+(iQ c a).Hi≤b+(iQ c b).Hi:=by
 have A:=Dj h ha hab hb c.bI.length
 have B:=qH h (at_:=a) ⟨ha,om⟩
 rw [nR (Nat.le_refl _),nR (Nat.le_refl _)] at A
 omega
noncomputable def lz (l:br) (i:Nat):Int:=match l.aa[i]? with
 |some b=>if i=0 then (Ll l.aS b.mV).Lo else (match l.aa[i-1]? with
  |some a=>(j4 l.aS a.mV b.mV).Lo
  |none=>0)
 |none=>0
theorem yT {l:br} {b:bK} (h:l.aa[0]? =some b):lz l 0=(Ll l.aS b.mV).Lo:=by unfold lz; rw [h]; rfl
theorem Cv {l:br} {i:Nat} {a b:bK} (hi:0<i) (h:l.aa[i]? =some b) (ha:l.aa[i-1]? =some a):lz l i=(j4 l.aS a.mV b.mV).Lo:=by unfold lz; rw [h,ha]; simp only; rw [if_neg om]
def j5 (l:br) (b:bK):Prop:=fO l.aS b.mV∧0≤b.kh∧b.kh<(l.aj.length:Int)
def fp (l:br):Prop:=(1≤l.hG∧l.hG≤5000)∧(1≤(l.aj.length:Int)∧(l.aj.length:Int)≤4)∧(1≤(l.aa.length:Int)∧(l.aa.length:Int)≤6)∧(0≤l.cf∧l.cf≤(l.aa.length:Int)-1)∧(0≤l.e8∧l.e8≤3)∧0≤l.di∧l.di≤3
structure lF (l:br):Prop where
 head:fp l
 clock: ∀ c∈l.aj,fr c
 tW: ∀ b∈l.aa,j5 l b
 PA: ∀ i,i<l.aa.length→1≤lz l i
noncomputable instance (l:br):Decidable (lF l):=Classical.propDecidable _
noncomputable def dJ (l:br):Int:=if dq l.aS=true then (if lF l then 0 else 50) else 10
theorem zu {l:br} (h:dq l.aS=false):dJ l=10:=by unfold dJ; rw [h]; rfl
theorem q6 {l:br} (h:dq l.aS=true) (h2: ¬ lF l):dJ l=50:=by unfold dJ; rw [if_pos h,if_neg h2]
theorem xX {l:br} (h:dq l.aS=true) (h2:lF l):dJ l=0:=by unfold dJ; rw [if_pos h,if_pos h2]
theorem dZ {l:br} (h:dJ l=0):dq l.aS=true∧lF l:=by
 unfold dJ at h
 split at h
 ·split at h
  ·exact ⟨asm,asm⟩
  ·omega
 ·omega
theorem AX {l:br} (ht:dq l.aS=true) (hb: ∀ b∈l.aa,j5 l b) (i:Nat): -400000≤lz l i∧lz l i≤400000:=by
 have A:=j9 ht
 have hl:=kX ht
 unfold lz
 cases h:l.aa[i]? with
 |none=>simp
 |some b=>
  have B:=(hb b (aQ h)).1
  simp only
  split
  ·have:=Td A hl B; omega
  ·cases h2:l.aa[i-1]? with
   |none=>simp
   |some a=>
    have C:=(hb a (aQ h2)).1
    have:=xH A hl C B
    simp only; omega
def qi (l:br) (s:aI):ay:=((l.aa[s.fI.toNat]?).bind fun b=>l.aj[b.kh.toNat]?).getD ⟨0,[]⟩
def gJ (c:ay) (r t:Int):Bool:=decide (r≤t+(iQ c t).Hi)
def gH (c:ay) (r t:Int):Bool:=decide (r<t+(iQ c t).Lo)
noncomputable def qQ (c:ay) (r:Int):ai:=⟨fQ (gJ c r) 86400001,fQ (gH c r) 86400001-1⟩
noncomputable def cS (l:br) (s:aI):ai:=qQ (qi l s) s.Read
noncomputable def ej (l:br) (i:Nat):Int:=o0 (1000*lz l i) l.hG
end
section
open Go.RowKit
def AQ (n:Int):Int:=IntKind.i64.wrap n
theorem z9 {n:Int} (h:qR n):AQ n=n:=m_ h
theorem QN (n:Int): -9223372036854775808≤AQ n∧AQ n≤9223372036854775807:=by
 unfold AQ
 rw [IntKind.wrap_i64]
 omega
section
variable {P:Program} {t:TypeId} {x y:Operand} {a b:Int}
theorem Pc:iW P .add t x y (.int .i64 a) (.int .i64 b) (.int .i64 (AQ (a+b))):=fun w=>by simp [eqGuard_add,binOp_add,Op.intArith,AQ]
theorem Ki:iW P .sub t x y (.int .i64 a) (.int .i64 b) (.int .i64 (AQ (a-b))):=fun w=>by simp [eqGuard_sub,binOp_sub,Op.intArith,AQ]
theorem Qq:iW P .mul t x y (.int .i64 a) (.int .i64 b) (.int .i64 (AQ (a*b))):=fun w=>by simp [eqGuard_mul,binOp_mul,Op.intArith,AQ]
end
/-- divided, and rounded up, as it comes out -/
def SG (n by_:Int):Int:=(AQ (AQ (n+by_)-1)).tdiv by_
theorem Oy {a b:Int} (ha: -9223372036854775808≤a∧a≤9223372036854775807) (hb:2≤b):qR (a.tdiv b):=by
 have A:a.tdiv b=a/b+if a % b≠0∧a<0 then 1 else 0:=by
  rcases Int.lt_or_le a 0 with h|h
  ·rw [Int.tdiv_eq_ediv]
   have:b.sign=1:=Int.sign_eq_one_of_pos om
   rw [this]
   by_cases hd:b∣a
   ·have:a % b=0:=Int.emod_eq_zero_of_dvd hd
    simp [hd,this]
   ·have:a % b≠0:=fun e=>hd (Int.dvd_of_emod_eq_zero e)
    have hn: ¬ 0≤a:=by omega
    simp [hd,this,h,hn]
  ·rw [Int.tdiv_eq_ediv_of_nonneg h]
   have: ¬ a<0:=by omega
   simp [this]
 have B:a/b*b+a % b=a:=by rw [Int.mul_comm]; exact Int.mul_ediv_add_emod a b
 have C:0≤a % b:=Int.emod_nonneg _ om
 have D:a % b<b:=Int.emod_lt_of_pos _ om
 have E: -9223372036854775808≤a/b∧a/b≤4611686018427387904:=by
  constructor
  ·refine Int.le_ediv_of_mul_le om ?_
   have:(-9223372036854775808:Int)*b≤ -9223372036854775808*1:=Int.mul_le_mul_of_nonpos_left om om
   omega
  ·refine Int.ediv_le_of_le_mul om ?_
   have:(4611686018427387904:Int)*2≤4611686018427387904*b:=Int.mul_le_mul_of_nonneg_left hb om
   omega
 rw [A]
 unfold qR
 split<;>omega
theorem Qi {n by_:Int} (h0:0≤n) (h1:n≤1000000000000000000) (hb:1≤by_∧by_≤1000000000000):SG n by_=(n+by_-1)/by_:=by
 unfold SG
 rw [z9 (show qR (n+by_) from ⟨om,om⟩),z9 (show qR (n+by_-1) from ⟨om,om⟩),Int.tdiv_eq_ediv_of_nonneg om]
end
section
def mz (c:ay) (i:Nat) (x:cQ) (k:Nat):Prop:=fT c i x∧ ∀ (j:Nat) o,j<k→c.bI[j]? =some o→nJ c x o
def sN (c:ay) (n:Nat):Prop:= ∀ (i:Nat) x,i<n→c.bI[i]? =some x→mz c i x i
noncomputable instance (c:ay) (i:Nat) (x:cQ) (k:Nat):Decidable (mz c i x k):=Classical.propDecidable _
instance (c:ay) (i:Nat) (x:cQ):Decidable (fT c i x):=by unfold fT; infer_instance
theorem D_ {c:ay} {i:Nat} {x:cQ}:mz c i x 0↔fT c i x:=⟨fun h=>h.1,fun h=>⟨h,fun j o hj=>by omega⟩⟩
theorem sI {c:ay} {i k:Nat} {x o:cQ} (h:c.bI[k]? =some o):mz c i x (k+1)↔mz c i x k∧nJ c x o:=by
 constructor
 ·intro hr
  exact ⟨⟨hr.1,fun j o' hj ho=>hr.2 j o' om ho⟩,hr.2 k o om h⟩
 ·rintro ⟨hr,hp⟩
  refine ⟨hr.1,fun j o' hj ho=>?_⟩
  by_cases e:j=k
  ·subst e; rw [h] at ho; cases ho; exact hp
  ·exact hr.2 j o' om ho
theorem G0 {c:ay}:sN c 0:=fun i x hi=>by omega
theorem Ha {c:ay} {i:Nat} {x:cQ} (h:sN c i) (hx:c.bI[i]? =some x) (hr:mz c i x i):sN c (i+1):=fun j y hj hy=>by
 by_cases e:j=i
 ·subst e; rw [hx] at hy; cases hy; exact hr
 ·exact h j y om hy
theorem Kl {c:ay} {i:Nat} {x:cQ} (hx:c.bI[i]? =some x) (h: ¬ mz c i x i): ¬ fr c:=fun hc=>h ⟨hc.sync i x hx,fun j o hj ho=>hc.pair i j x o hx hj ho⟩
theorem Gb {c:ay} (h1:0≤c.dF∧c.dF≤1000) (h2:1≤c.bI.length∧c.bI.length≤5) (h:sN c c.bI.length):fr c:=
 ⟨h1,h2,fun i x hx=>(h i x (aX.1 hx).1 hx).1,fun i k x o hx hk ho=>(h i x (aX.1 hx).1 hx).2 k o hk ho⟩
/-- syncs so far -/
theorem uT {c:ay} {n:Nat} (h: ∀ (i:Nat) x,i<n→c.bI[i]? =some x→fT c i x): ∀ (i:Nat) x,i<n→c.bI[i]? =some x→0≤x.At∧ ∀ (k:Nat) o,k<i→c.bI[k]? =some o→o.At<x.At:=by
 intro i
 induction i with
 |zero=>
  intro x hn hx
  have:=(h 0 x hn hx).1.1
  rw [gT rfl] at this
  exact ⟨om,fun k o hk=>by omega⟩
 |succ i ih=>
  intro x hn hx
  have hi:=(aX.1 hx).1
  have hy:c.bI[i]? =some (c.bI[i]'om):=eN om
  have B:=ih _ om hy
  have A:=(h (i+1) x hn hx).1.1
  rw [oK hy] at A
  refine ⟨om,fun k o hk ho=>?_⟩
  by_cases e:k=i
  ·subst e; rw [hy] at ho; cases ho; exact A
  ·have:=B.2 k o om ho; omega
theorem JJ {c:ay} {i:Nat} (hi:i≤c.bI.length) (h: ∀ (j:Nat) y,j<i→c.bI[j]? =some y→fT c j y): -1≤kG c i∧kG c i≤86400000:=by
 cases i with
 |zero=>rw [gT rfl]; omega
 |succ i=>
  have hy:c.bI[i]? =some (c.bI[i]'om):=eN om
  have A:=(uT (n:=i+1) h i _ om hy).1
  have B:=(h i _ om hy).1.2
  rw [oK hy]; omega
theorem Pn {c:ay} {i:Nat} (hi:i≤c.bI.length) (h:sN c i): -1≤kG c i∧kG c i≤86400000:=JJ hi fun j y hj hy=>(h j y hj hy).1
theorem uH {c:ay} {i k:Nat} {x o:cQ} (hs: ∀ (j:Nat) y,j<i→c.bI[j]? =some y→fT c j y) (hx:c.bI[i]? =some x) (hok:fT c i x) (hk:k<i) (ho:c.bI[k]? =some o):
 (0≤o.At∧o.At<x.At∧x.At≤86400000)∧(-10000≤x.eJ.Lo∧x.eJ.Lo≤x.eJ.Hi∧x.eJ.Hi≤10000)∧ -10000≤o.eJ.Lo∧o.eJ.Lo≤o.eJ.Hi∧o.eJ.Hi≤10000:=by
 have h: ∀ (j:Nat) y,j<i+1→c.bI[j]? =some y→fT c j y:=fun j y hj hy=>by
  by_cases e:j=i
  ·subst e; rw [hx] at hy; cases hy; exact hok
  ·exact hs j y om hy
 have A:=(uT h i x om hx).2 k o hk ho
 have B:=(uT h k o om ho).1
 exact ⟨⟨B,A,hok.1.2⟩,hok.2,(h k o om ho).2⟩
theorem Mw {d a b:Int} (hd:0≤d∧d≤1000) (h:0≤b∧b<a∧a≤86400000):SG (AQ (d*AQ (a-b))) 1000000=o0 (d*(a-b)) 1000000:=by
 have C:0≤d*(a-b)∧d*(a-b)≤90000000000:=by
  have:=Qo (a:=d) (b:=a-b) (A:=1000) (B:=90000000) hd.1 hd.2 om om
  omega
 rw [z9 (show qR (a-b) from ⟨om,om⟩),z9 (show qR (d*(a-b)) from ⟨om,om⟩),Qi C.1 om om]
 rfl
/-- what is asked of a line, however wrong it is -/
structure eo (l:br) (asl:List RA):Prop where
 se:l.aS.length≤1000000
 side: ∀ x∈l.aS,0≤x.jm∧x.jm≤255
 sb:l.aj.length≤1000000
 nP:asl.length=l.aj.length
 r9:l.aa.length≤1000000
 Qv: ∀ (k:Nat) m (a:RA),l.aj[k]? =some m→asl[k]? =some a→m.bI.length≤a.2∧m.bI.length≤1000000
noncomputable instance (l:br):Decidable (fp l):=by unfold fp; infer_instance
noncomputable instance (l:br) (b:bK):Decidable (j5 l b):=Classical.propDecidable _
theorem yM {l:br} (h:fp l) (h2: ∀ c∈l.aj,fr c) (h3: ∀ b∈l.aa,j5 l b) (h4: ∀ i,i<l.aa.length→1≤lz l i):lF l:=⟨h,h2,h3,h4⟩
theorem DU {l:br}:((!(l.aj.any fun m=> !decide (fr m)))=true)↔ ∀ c∈l.aj,fr c:=by simp
theorem GN {l:br}:((!(l.aa.any fun b=> !decide (j5 l b)))=true)↔ ∀ b∈l.aa,j5 l b:=by simp
theorem lh {c:ay} (h:fr c) {r x:Int} (h0:0≤x) (h1:x<86400001):
 (x<fQ (gJ c r) 86400001→gJ c r x=false)∧(fQ (gJ c r) 86400001≤x→gJ c r x=true)∧(x<fQ (gH c r) 86400001→gH c r x=false)∧(fQ (gH c r) 86400001≤x→gH c r x=true):=by
 have up: ∀ (q:Int→Bool),(∀ a b,0≤a→a≤b→b<86400001→q a=true→q b=true)→fQ q 86400001≤x→q x=true:=fun q hq hx=>by
  have hb:=iO (p:=q) (n:=86400001)
  exact hq _ _ hb.1 hx h1 (zh om)
 refine ⟨uK h0,up _ fun a b ha A hb hq=>?_,uK h0,up _ fun a b ha A hb hq=>?_⟩
 ·have:=oF h ha A om
  simp only [gJ,decide_eq_true_eq] at hq ⊢; omega
 ·have:=oF h ha A om
  simp only [gH,decide_eq_true_eq] at hq ⊢; omega
theorem wK {l:br} {s:aI} {b:bK} {c:ay} (hb:l.aa[s.fI.toNat]? =some b) (hc:l.aj[b.kh.toNat]? =some c):qi l s=c:=by
 unfold qi; rw [hb]; simp only [Option.bind_some]; rw [hc]; rfl
end
section
def kP (sg:List aI) (i:Nat):aI:=if i=0 then ⟨-1,0⟩ else (sg[i-1]?).getD ⟨-1,0⟩
theorem kg {sg:List aI} {i:Nat} {s:aI} (h:sg[i]? =some s):kP sg (i+1)=s:=by unfold kP; rw [if_neg om,Nat.add_sub_cancel,h]; rfl
def iA (l:br) (s:aI):Prop:=(0≤s.fI∧s.fI≤(l.aa.length:Int)-1)∧0≤s.Read∧s.Read≤86400000
def h_ (l:br) (sg:List aI) (i:Nat) (s:aI):Prop:=iA l s∧ ¬ s.fI<(kP sg i).fI∧ ¬ (s.fI=(kP sg i).fI∧s.Read≤(kP sg i).Read)
def oS (l:br) (sg:List aI) (i:Nat):Prop:= ∀ (j:Nat) s,j<i→sg[j]? =some s→h_ l sg j s
structure eg (l:br) (r:cD):Prop where
 time:0≤r.Start∧r.Start≤r.gf∧r.gf≤86400000
 len:r.ag.length≤10
 sig: ∀ (i:Nat) s,r.ag[i]? =some s→h_ l r.ag i s
noncomputable instance (l:br) (r:cD):Decidable (eg l r):=Classical.propDecidable _
theorem vi {l:br} {sg:List aI}:oS l sg 0:=fun j s hj=>absurd hj (Nat.not_lt_zero _)
theorem ju {l:br} {sg:List aI} {i:Nat} {s:aI} (h:oS l sg i) (hs:sg[i]? =some s) (ho:h_ l sg i s):oS l sg (i+1):=fun j z hj hz=>by
 rcases Nat.lt_or_ge j i with q|q
 ·exact h j z q hz
 ·obtain rfl:j=i:=by omega
  rw [hs] at hz; cases hz; exact ho
theorem wZ {l:br} {r:cD} {i:Nat} (h1:0≤r.Start∧r.Start≤r.gf∧r.gf≤86400000) (h2:r.ag.length≤10) (h:oS l r.ag i) (hi:r.ag.length≤i):eg l r:=
 ⟨h1,h2,fun j s hs=>h j s (by have:=(aX.1 hs).1; omega) hs⟩
noncomputable def oc (l:br) (sg:List aI) (b k:Nat):Option (Int×ai):=(sg[k]?).bind fun s=>if s.fI=(b:Int)∧(cS l s).Lo≤(cS l s).Hi then some ((k:Int),cS l s) else none
noncomputable def lg (l:br) (sg:List aI) (i b:Nat):TM:=(List.range i).filterMap (oc l sg b)
noncomputable def cO (l:br) (sg:List aI) (i:Nat):List TM:=(List.range l.aa.length).map (lg l sg i)
noncomputable def cr (l:br) (n:Nat):List Int:=(List.range n).map (ej l)
theorem q_ {l:br} {n:Nat}:cr l (n+1)=cr l n++[ej l n]:=by simp [cr,List.range_succ]
theorem cW {l:br} {n:Nat}:(cr l n).length=n:=by simp [cr]
theorem gN {l:br} {sg:List aI} {i:Nat}:(cO l sg i).length=l.aa.length:=by simp [cO]
theorem po {l:br} {sg:List aI} {i b:Nat} (h:b<l.aa.length):(cO l sg i)[b]? =some (lg l sg i b):=by simp [cO,h]
theorem p7 {l:br} {sg:List aI} {b k:Nat} {q:Int×ai}:oc l sg b k=some q↔ ∃ s,sg[k]? =some s∧(s.fI=(b:Int)∧(cS l s).Lo≤(cS l s).Hi)∧q=((k:Int),cS l s):=by
 unfold oc
 cases h:sg[k]? with
 |none=>simp
 |some s=>
  simp only [Option.bind_some,Option.some.injEq]
  by_cases e:s.fI=(b:Int)∧(cS l s).Lo≤(cS l s).Hi
  ·rw [if_pos e]
   constructor
   ·intro h; cases h; exact ⟨s,rfl,e,rfl⟩
   ·rintro ⟨s',rfl,_,rfl⟩; rfl
  ·rw [if_neg e]
   constructor
   ·intro h; cases h
   ·rintro ⟨s',rfl,e',_⟩; exact absurd e' e
theorem sV {l:br} {sg:List aI} {i b:Nat} {q:Int×ai}:q∈lg l sg i b↔ ∃ k,k<i∧ ∃ s,sg[k]? =some s∧(s.fI=(b:Int)∧(cS l s).Lo≤(cS l s).Hi)∧q=((k:Int),cS l s):=by
 unfold lg
 simp only [List.mem_filterMap,List.mem_range,p7]
theorem lv {l:br} {sg:List aI} {i b:Nat}:lg l sg (i+1) b=lg l sg i b++(oc l sg b i).toList:=by
 unfold lg
 rw [List.range_succ,List.filterMap_append]
 congr 1
theorem wU {l:br} {sg:List aI}:cO l sg 0=List.replicate l.aa.length []:=by
 unfold cO
 rw [List.eq_replicate_iff]
 refine ⟨sm,fun t ht=>?_⟩
 obtain ⟨b,_,rfl⟩:=cz.1 ht
 rfl
theorem pX {l:br} {sg:List aI} {i:Nat} {s:aI} (hs:sg[i]? =some s) (h: ¬ (cS l s).Lo≤(cS l s).Hi):cO l sg (i+1)=cO l sg i:=by
 unfold cO
 apply List.map_congr_left
 intro b _
 rw [lv]
 have:oc l sg b i=none:=by
  cases e:oc l sg b i with
  |none=>rfl
  |some q=>obtain ⟨s',A,⟨_,B⟩,_⟩:=p7.1 e; rw [hs] at A; cases A; exact absurd B h
 rw [this]; simp
theorem rT {l:br} {sg:List aI} {i:Nat} {s:aI} (hs:sg[i]? =some s) (hb:0≤s.fI∧s.fI≤(l.aa.length:Int)-1) (h:(cS l s).Lo≤(cS l s).Hi) {x:TM} (hx:(cO l sg i)[s.fI.toNat]? =some x):
 (cO l sg i).set s.fI.toNat (ep x (i:Int) (cS l s))=cO l sg (i+1):=by
 have A:s.fI.toNat<l.aa.length:=by omega
 rw [po A] at hx
 cases hx
 have B:ep (lg l sg i s.fI.toNat) (i:Int) (cS l s)=lg l sg (i+1) s.fI.toNat:=by
  have hn:(lg l sg i s.fI.toNat).lookup (i:Int)=none:=iz.2 fun p hp e=>by
   obtain ⟨k,hk,_,_,_,rfl⟩:=sV.1 hp
   simp only at e; omega
  have ho:oc l sg s.fI.toNat i=some ((i:Int),cS l s):=p7.2 ⟨s,hs,⟨om,h⟩,rfl⟩
  rw [lv,ho]
  unfold ep; rw [hn]; rfl
 rw [B]
 apply List.ext_getElem?
 intro b
 rw [List.getElem?_set]
 by_cases e:s.fI.toNat=b
 ·rw [if_pos e,gN,← e,if_pos A,po A]
 ·rw [if_neg e]
  by_cases hb':b<l.aa.length
  ·rw [po hb',po hb',lv]
   have:oc l sg b i=none:=by
    cases e2:oc l sg b i with
    |none=>rfl
    |some q=>obtain ⟨s',C,⟨D,_⟩,_⟩:=p7.1 e2; rw [hs] at C; cases C; exact absurd om e
   rw [this]; simp
  ·rw [List.getElem?_eq_none (by rw [gN]; omega),List.getElem?_eq_none (by rw [gN]; omega)]
noncomputable def cm (l:br) (r:cD):b_:=⟨r.Start,r.gf,cr l l.aa.length,cO l r.ag r.ag.length,l.di,l.e8,(r.ag.length:Int)⟩
theorem I6 {l:br} (ht:dq l.aS=true) (h:lF l) {i:Nat} (hi:i<l.aa.length):1≤ej l i∧ej l i≤500000000:=by
 have A:=AX ht h.tW i
 have B:=h.PA i hi
 have C:=h.head.1
 unfold ej o0
 refine ⟨(Int.le_ediv_iff_mul_le om).2 om,?_⟩
 have:(1000*lz l i+l.hG-1)/l.hG≤1000*lz l i+l.hG-1:=Int.ediv_le_self _ om
 omega
theorem Nr (l:br) (s:aI):0≤(cS l s).Lo∧(cS l s).Hi≤86400000:=by
 have A:=iO (p:=gJ (qi l s) s.Read) (n:=86400001)
 have B:=iO (p:=gH (qi l s) s.Read) (n:=86400001)
 unfold cS qQ
 simp only
 omega
theorem lG {l:br} {r:cD} (ht:dq l.aS=true) (h:lF l) (hr:eg l r):Hy (cm l r):=by
 have hh:=h.head
 unfold fp at hh
 refine ⟨?_,by simp [cm,gN,b_.n,cW],hr.time,fun x hx=>?_,fun t A p hp=>?_⟩
 ·show (cr l l.aa.length).length≤6
  rw [cW]; omega
 ·obtain ⟨i,hi,rfl⟩:=cz.1 hx
  exact I6 ht h (List.mem_range.1 hi)
 ·obtain ⟨b,hb,rfl⟩:=cz.1 A
  obtain ⟨k,hk,s,hs,⟨_,B⟩,rfl⟩:=sV.1 hp
  have C:=Nr l s
  have D:=hr.len
  simp only
  omega
noncomputable def dW (l:br) (r:cD) (me:Int):Int:=if dJ l=0 then (if eg l r then (if me=0 then (if hP (cm l r)=[] then 8 else 0) else me) else 51) else dJ l
theorem gE {l:br} {r:cD} {me:Int} (h: ¬ dJ l=0):dW l r me=dJ l:=if_neg h
theorem dh {l:br} {r:cD} {me:Int} (h:dJ l=0) (h2: ¬ eg l r):dW l r me=51:=by unfold dW; rw [if_pos h,if_neg h2]
theorem rm {l:br} {r:cD} {me:Int} (h:dJ l=0) (h2:eg l r) (h3: ¬ me=0):dW l r me=me:=by unfold dW; rw [if_pos h,if_pos h2,if_neg h3]
theorem g5 {l:br} {r:cD} {me:Int} (h:dJ l=0) (h2:eg l r) (h3:me=0) (h4:hP (cm l r)=[]):dW l r me=8:=by unfold dW; rw [if_pos h,if_pos h2,if_pos h3,if_pos h4]
theorem lj {l:br} {r:cD} {me:Int} (h:dJ l=0) (h2:eg l r) (h3:me=0) (h4: ¬ hP (cm l r)=[]):dW l r me=0:=by unfold dW; rw [if_pos h,if_pos h2,if_pos h3,if_neg h4]
theorem iM {l:br} {r:cD} {me:Int} (h:dW l r me=0):dJ l=0∧eg l r∧me=0∧ ¬ hP (cm l r)=[]:=by
 unfold dW at h
 split at h
 ·split at h
  ·split at h
   ·split at h
    ·omega
    ·exact ⟨asm,asm,asm,asm⟩
   ·omega
  ·omega
 ·omega
end
section
def nI (l:List Int):Int:=(l.drop 1).foldl min (l.headD 0)
theorem IM {l:List Int} {i:Nat} {x:Int} (h:l[i]? =some x) (hi:1≤i):nI (l.take (i+1))=min (nI (l.take i)) x:=by
 have e:l.take (i+1)=l.take i++[x]:=by rw [List.take_add_one,h]; rfl
 have hl:1≤(l.take i).length:=by have:=(aX.1 h).1; rw [List.length_take]; omega
 rw [e]
 cases ht:l.take i with
 |nil=>rw [ht] at hl; simp at hl
 |cons y ys=>simp [nI,List.foldl_append]
theorem Hj {l:List Int} {x:Int} (h:l[0]? =some x):nI (l.take 1)=x:=by
 cases l with
 |nil=>simp at h
 |cons y ys=>simp at h; subst h; simp [nI]
theorem BX: ∀ (l:List Int) (a:Int),(l.foldl min a=a∨l.foldl min a∈l)∧l.foldl min a≤a∧ ∀ x∈l,l.foldl min a≤x
 |[],a=>⟨.inl rfl,sm,sm⟩
 |y::l,a=>by
  obtain ⟨A,C,B⟩:=BX l (min a y)
  simp only [List.foldl_cons]
  refine ⟨?_,om,?_⟩
  ·rcases A with A|A
   ·rw [A]
    rcases Int.le_total a y with q|q
    ·left; omega
    ·right; rw [show min a y=y by omega]; simp
   ·right; exact dR _ A
  ·intro x hx
   rcases bW.1 hx with rfl|hx
   ·omega
   ·exact B x hx
theorem FN {l:List Int} (h:l≠[]):nI l∈l∧ ∀ x∈l,nI l≤x:=by
 cases l with
 |nil=>exact absurd rfl h
 |cons y ys=>
  obtain ⟨A,B,C⟩:=BX ys y
  refine ⟨?_,fun x hx=>?_⟩
  ·rcases A with A|A
   ·simp [nI,A]
   ·exact dR _ (by simpa [nI] using A)
  ·rcases bW.1 hx with rfl|hx
   ·simpa [nI] using B
   ·simpa [nI] using C x hx
noncomputable def hU (l:br) (r:cD):List Int:=if dW l r 0=0 then hP (cm l r) else []
theorem kp {l:br} {r:cD} (h:dW l r 0=0):hU l r=hP (cm l r):=if_pos h
theorem nE {l:br} {r:cD} (h: ¬ dW l r 0=0):hU l r=[]:=if_neg h
theorem vg {l:br} {r:cD} (h:dW l r 0=0):hU l r≠[]:=by rw [kp h]; exact (iM h).2.2.2
theorem Dx {l:br} {r:cD} (h:dW l r 0=0):1≤(hU l r).length:=List.length_pos_iff.2 (vg h)
theorem Dy {l:br} {r:cD}:(hU l r).length≤100:=by
 unfold hU
 split
 ·rename_i h
  obtain ⟨A,B,_⟩:=iM h
  obtain ⟨ht,ho⟩:=dZ A
  have:=(lG ht ho B).n
  have C:=sW (w:=cm l r) (k:=(cm l r).n+1)
  unfold hP; omega
 ·simp
noncomputable def jB (l:br) (b:Int):Int:=if 0≤b∧b≤(l.aa.length:Int)-1 then 0 else 2
theorem um {l:br} {b:Int} (h:0≤b∧b≤(l.aa.length:Int)-1):jB l b=0:=if_pos h
theorem D0 {l:br} {b:Int} (h:jB l b=0):0≤b∧b≤(l.aa.length:Int)-1:=by
 unfold jB at h
 split at h
 ·assumption
 ·omega
noncomputable def mF (l:br) (r:cD) (b:Nat):ai:=vv (mR (cm l r) b)
noncomputable def dY (l:br) (r:cD) (b:Int):Int:=if dW l r (jB l b)=0 then (if mF l r b.toNat=mB then 6 else 0) else dW l r (jB l b)
noncomputable def dQ (l:br) (r:cD) (b:Int):ai:=if dY l r b=0 then mF l r b.toNat else gS
theorem l4 {l:br} {r:cD} {b:Int} (h: ¬ dW l r (jB l b)=0):dY l r b=dW l r (jB l b)∧dQ l r b=gS:=by
 have e:dY l r b=dW l r (jB l b):=if_neg h
 exact ⟨e,by unfold dQ; rw [if_neg (by rw [e]; exact h)]⟩
theorem qW {l:br} {r:cD} {b:Nat} (h:dW l r (jB l b)=0) (h2:mF l r b=mB):dY l r b=6∧dQ l r b=gS:=by
 have e:dY l r b=6:=by unfold dY; rw [if_pos h,Int.toNat_natCast,if_pos h2]
 exact ⟨e,by unfold dQ; rw [if_neg (by rw [e]; omega)]⟩
theorem oH {l:br} {r:cD} {b:Nat} (h:dW l r (jB l b)=0) (h2: ¬ mF l r b=mB):dY l r b=0∧dQ l r b=mF l r b:=by
 have e:dY l r b=0:=by unfold dY; rw [if_pos h,Int.toNat_natCast,if_neg h2]
 exact ⟨e,by unfold dQ; rw [if_pos e,Int.toNat_natCast]⟩
theorem Kc {w:b_} (h:Hy w) {b:Nat} {q:Int×ai} (hq:q∈mR w b):0≤q.2.Lo∧q.2.Lo≤q.2.Hi∧q.2.Hi≤86400000:=by
 have A:=nq hq
 obtain ⟨o,ho,p,hp,u,hu,e⟩:=iJ.1 hq
 obtain ⟨_,_,rfl⟩:=jH.1 e
 have B:=h.opt ho
 simp only [jI] at A ⊢
 omega
theorem t_ {l:br} {r:cD} {b:Int} (h:dY l r b=0):0≤(dQ l r b).Lo∧(dQ l r b).Lo≤(dQ l r b).Hi∧(dQ l r b).Hi≤86400000:=by
 have ho:dW l r (jB l b)=0:=by
  by_cases e:dW l r (jB l b)=0
  ·exact e
  ·rw [(l4 e).1] at h; exact absurd h e
 obtain ⟨B,C,_⟩:=iM ho
 obtain ⟨ht,A⟩:=dZ B
 have hw:=lG ht A C
 have hv:dQ l r b=mF l r b.toNat:=by unfold dQ; rw [if_pos h]
 have hn:mF l r b.toNat≠mB:=fun e=>by unfold dY at h; rw [if_pos ho,if_pos e] at h; omega
 have hh:=vb (l:=mR (cm l r) b.toNat) fun q hq=>nq hq
 rw [hv]
 unfold mF at hn ⊢
 rcases hh with ⟨_,e⟩|hh
 ·exact absurd e hn
 ·obtain ⟨x,hx,ex⟩:=hh.lo
  obtain ⟨y,hy,ey⟩:=hh.hi
  have:=Kc hw hx
  have:=Kc hw hy
  have:=hh.le
  omega
noncomputable def zS (l:br) (r:cD):ai:=if dY l r l.cf=0 then ⟨(dQ l r l.cf).Lo-r.Start,(dQ l r l.cf).Hi-r.Start⟩ else gS
theorem Aw {l:br} {r:cD} (h:dY l r l.cf=0):zS l r=⟨(dQ l r l.cf).Lo-r.Start,(dQ l r l.cf).Hi-r.Start⟩:=if_pos h
theorem Dr {l:br} {r:cD} (h: ¬ dY l r l.cf=0):zS l r=gS:=if_neg h
theorem vG {l:br} {r:cD} {b:Int} (h:dY l r b=0):eg l r:=by
 by_cases e:dW l r (jB l b)=0
 ·exact (iM e).2.1
 ·rw [(l4 e).1] at h; exact absurd h e
theorem yX {k:List (Int×ai)} {h:ai} {q:Int×ai} {z:ai} (hh:kF k h) (hq:q.2.Lo≤q.2.Hi) (hz:mJ h q.2=z):kF (k++[q]) z:=by subst hz; exact u_ hh hq
end
section
def mo (l:br):Prop:=(20<(l.aS.length:Int)∨8<(l.aj.length:Int)∨10<(l.aa.length:Int))∨ ∃ c∈l.aj,10<(c.bI.length:Int)
noncomputable instance (l:br):Decidable (mo l):=Classical.propDecidable _
/-- what is asked of a line that comes in -/
structure s9 (l:br) (az:List RA):Prop where
 se:l.aS.length≤9223372036854775807
 side: ∀ x∈l.aS,0≤x.jm∧x.jm≤255
 sb:l.aj.length≤9223372036854775807
 nP:az.length=l.aj.length
 r9:l.aa.length≤9223372036854775807
 Qv: ∀ (k:Nat) m (a:RA),l.aj[k]? =some m→az[k]? =some a→m.bI.length≤a.2∧m.bI.length≤9223372036854775807
def zP (l:br) (i:Nat):Prop:= ∀ (j:Nat) c,j<i→l.aj[j]? =some c→(c.bI.length:Int)≤10
theorem Jb {l:br} {i:Nat} (h: ¬ (20<(l.aS.length:Int))∧ ¬ (8<(l.aj.length:Int))∧ ¬ (10<(l.aa.length:Int))) (hi:l.aj.length≤i) (hs:zP l i): ¬ mo l:=by
 rintro (A|⟨c,hc,B⟩)
 ·omega
 ·obtain ⟨k,hk⟩:=List.getElem?_of_mem hc
  have:=hs k c (by have:=(aX.1 hk).1; omega) hk
  omega
theorem Ka {l:br} {i:Nat} {c:ay} (hc:l.aj[i]? =some c) (h:10<(c.bI.length:Int)):mo l:= .inr ⟨c,aQ hc,h⟩
theorem lX {α:Type} {l:List α} {P:Nat→α→Prop} {i:Nat} {x:α} (h: ∀ (j:Nat) y,j<i→l[j]? =some y→P j y) (hx:l[i]? =some x) (hp:P i x): ∀ (j:Nat) y,j<i+1→l[j]? =some y→P j y:=fun j y hj hy=>by
 by_cases e:j=i
 ·subst e; rw [hx] at hy; cases hy; exact hp
 ·exact h j y om hy
theorem x3 {α:Type} {l:List α} {P:Nat→α→Prop} {i:Nat} (hi:l.length≤i) (h: ∀ (j:Nat) y,j<i→l[j]? =some y→P j y): ∀ (j:Nat) y,l[j]? =some y→P j y:=fun j y hy=>h j y (by have:=(aX.1 hy).1; omega) hy
theorem xD {α:Type} {l:List α} {P:α→Prop} {i:Nat} (hi:l.length≤i) (h: ∀ (j:Nat) y,j<i→l[j]? =some y→P y): ∀ y∈l,P y:=fun y hy=>by
 obtain ⟨k,hk⟩:=List.getElem?_of_mem hy
 exact x3 (P:=fun _ y=>P y) hi h k y hk
theorem Bl {l:br} (h: ¬ mo l):(l.aS.length:Int)≤20∧(l.aj.length:Int)≤8∧(l.aa.length:Int)≤10∧ ∀ c∈l.aj,(c.bI.length:Int)≤10:=by
 unfold mo at h
 rw [not_or] at h
 refine ⟨om,om,om,fun c hc=>?_⟩
 have:=h.2
 rcases Int.lt_or_le 10 (c.bI.length:Int) with q|q
 ·exact absurd ⟨c,hc,q⟩ this
 ·exact q
theorem s9.small {l:br} {az:List RA} (h:s9 l az) (hg: ¬ mo l):eo l az:=by
 have A:=Bl hg
 exact ⟨om,h.side,om,h.nP,om,fun k m a hm ha=>⟨(h.Qv k m a hm ha).1,by have:=A.2.2.2 m (aQ hm); omega⟩⟩
def EE (c:ay) (x:cQ) (k:Nat):Prop:= ∀ (j:Nat) o,j<k→c.bI[j]? =some o→nJ c x o
def ti (c:ay) (m:Nat):Prop:= ∀ (i:Nat) x,i<m→c.bI[i]? =some x→EE c x i
theorem HI {c:ay} {m:Nat} (h1:0≤c.dF∧c.dF≤1000) (h2:1≤c.bI.length∧c.bI.length≤5) (hs: ∀ (i:Nat) x,c.bI[i]? =some x→fT c i x) (hm:c.bI.length≤m) (hp:ti c m):fr c:=
 ⟨h1,h2,hs,fun i k x o hx hk ho=>hp i x (by have:=(aX.1 hx).1; omega) hx k o hk ho⟩
theorem Dw {c:ay} {m k:Nat} (h:ti c m) (hk: ∀ y,c.bI[m]? =some y→EE c y k) (e:k=m):ti c (m+1):=by
 subst e
 intro i x hi hx
 by_cases e:i=k
 ·subst e; exact hk x hx
 ·exact h i x om hx
noncomputable def k8 (c:ay) (at_:Int) (i:Nat):ai:=if i=0 then gS else gO c at_ i
theorem DS {c:ay} {at_:Int} {i:Nat} (h:fr c) (hi:c.bI.length≤i):k8 c at_ i=iQ c at_:=by
 have:=h.len
 unfold k8; rw [if_neg om,nR hi]
theorem zx {c:ay} {at_:Int} {i:Nat} {x:cQ} (h:fr c) (ha:0≤at_∧at_≤90000000) (hx:c.bI[i]? =some x) (hi:i=0):
 k8 c at_ (i+1)=⟨max (x.eJ.Lo-sR c at_ x) (x.eJ.Lo-sR c at_ x),min (x.eJ.Hi+sR c at_ x) (x.eJ.Hi+sR c at_ x)⟩:=by
 subst hi
 have hb:=h.vo hx
 have ho:=ve h.sE ha hb.1
 unfold k8
 rw [if_neg om,j6 hx]
 unfold l5 gO
 simp only [List.take_zero,List.foldl_nil,ai.mk.injEq]
 omega
theorem Bq {c:ay} {at_:Int} {i:Nat} {x:cQ} (hx:c.bI[i]? =some x) (hi: ¬ i=0):k8 c at_ (i+1)=⟨max (k8 c at_ i).Lo (x.eJ.Lo-sR c at_ x),min (k8 c at_ i).Hi (x.eJ.Hi+sR c at_ x)⟩:=by
 unfold k8
 rw [if_neg om,if_neg hi,j6 hx]; rfl
def iw (ts:List au) (n:Nat):List ai:=(List.range n).map fun k=>eK ts 0 k
theorem B7 {ts:List au} {n:Nat}:iw ts (n+1)=iw ts n++[eK ts 0 n]:=by simp [iw,List.range_succ]
theorem oV {ts:List au} {n:Nat}:(iw ts n).length=n:=by simp [iw]
theorem p_ {ts:List au} {n k:Nat} {x:ai} (h:(iw ts n)[k]? =some x):x=eK ts 0 k:=by
 unfold iw at h
 rw [fX] at h
 cases hk:(List.range n)[k]? with
 |none=>simp [hk] at h
 |some v=>
  have:=aX.1 hk
  simp at this
  simp [hk] at h
  rw [← h,← this.2]
theorem DQ {ts:List au} {a b:cG} (h:b.bB<a.bB):j4 ts a b=oE (j4 ts b a):=by
 unfold j4
 rw [if_pos h,if_neg om]
 unfold yf
 rw [Int.min_comm b.bB a.bB,Int.max_comm b.bB a.bB]
 unfold oE mN
 simp only [ai.mk.injEq]
 omega
theorem qL {ts:List au} {a b:cG} (h: ¬ b.bB<a.bB):j4 ts a b=mN (mN (eK ts a.bB.toNat (b.bB-a.bB).toNat) b.mU) (oE a.mU):=by
 unfold j4 yf
 rw [if_neg h,Int.min_eq_left om,Int.max_eq_right om]
end
section
def fg (m:List aC) (a:cZ):List aB:=rd a.1.1 m.length 7 (List.zipWith aC.cells m a.2)::bo aC.gn m a.2
structure Ox (h:List aC) (a:cZ):Prop where
 len:h.length≤1000000
 nP:a.2.length=h.length
 sig: ∀ d∈h,d.bD.ag.length≤1000000
structure ld (r:e7) (az:List RA) (ha:List cZ):Prop where
 line:eo r.ar az
 iB:r.aY.length≤1000000
 draw:r.cd.length≤12
 iE:r.aD.length≤1000000
 has:ha.length=r.aD.length
 gL: ∀ (k:Nat) h (a:cZ),r.aD[k]? =some h→ha[k]? =some a→Ox h a
structure rL (r:e7) (az:List RA) (ha:List cZ):Prop where
 line:s9 r.ar az
 iB:r.aY.length≤9223372036854775807
 draw:r.cd.length≤9223372036854775807
 iE:r.aD.length≤9223372036854775807
 has:ha.length=r.aD.length
 gL: ∀ (k:Nat) h (a:cZ),r.aD[k]? =some h→ha[k]? =some a→h.length≤9223372036854775807∧a.2.length=h.length∧ ∀ d∈h,d.bD.ag.length≤9223372036854775807
def pf (h:List aC):Prop:=8<(h.length:Int)∨ ∃ d∈h,15<(d.bD.ag.length:Int)
def l7 (r:e7):Prop:=(mo r.ar∨8<(r.aY.length:Int)∨8<(r.cd.length:Int)∨5<(r.aD.length:Int))∨ ∃ h∈r.aD,pf h
noncomputable instance (r:e7):Decidable (l7 r):=Classical.propDecidable _
theorem E_ {r:e7} (h: ¬ l7 r): ¬ mo r.ar∧(r.aY.length:Int)≤8∧(r.cd.length:Int)≤8∧(r.aD.length:Int)≤5∧ ∀ h∈r.aD,(h.length:Int)≤8∧ ∀ d∈h,(d.bD.ag.length:Int)≤15:=by
 unfold l7 at h
 obtain ⟨A,B⟩:=not_or.1 h
 obtain ⟨C,E⟩:=not_or.1 A
 refine ⟨C,om,om,om,fun x hx=>?_⟩
 have hn: ¬ pf x:=fun q=>B ⟨x,hx,q⟩
 obtain ⟨F,D⟩:=not_or.1 hn
 refine ⟨om,fun d hd=>?_⟩
 rcases Int.lt_or_le 15 (d.bD.ag.length:Int) with q|q
 ·exact absurd ⟨d,hd,q⟩ D
 ·exact q
theorem rL.small {r:e7} {az:List RA} {ha:List cZ} (h:rL r az ha) (hg: ¬ l7 r):ld r az ha:=by
 have B:=E_ hg
 refine ⟨h.line.small B.1,om,om,om,h.has,fun k x a hx A=>?_⟩
 have C:=B.2.2.2.2 x (aQ hx)
 have D:=h.gL k x a hx A
 exact ⟨om,D.2.1,fun d hd=>by have:=C.2 d hd; omega⟩
def m8 (r:cD):Prop:=r.Start=0∧r.gf=0∧(r.ag.length:Int)=0
instance (r:cD):Decidable (m8 r):=by unfold m8; infer_instance
def mh (s:ai):Prop:=1≤s.Lo∧s.Lo≤s.Hi∧s.Hi≤600000
instance (s:ai):Decidable (mh s):=by unfold mh; infer_instance
def iX (l:br) (d:aC):Prop:=if d.Out=true then d.dB=false∧d.Time=gS∧m8 d.bD else if d.dB=true then mh d.Time∧m8 d.bD else dY l d.bD l.cf=0∧d.Time=gS
noncomputable instance (l:br) (d:aC):Decidable (iX l d):=Classical.propDecidable _
noncomputable def gl (l:br) (d:aC):ai:=if d.Out=true∨d.dB=true then d.Time else zS l d.bD
/-- which kind a descent is of -/
def oY (d:aC):Int:=if d.Out=true then 0 else if d.dB=true then 1 else 2
theorem M8 {w:b_} (h:Hy w): ∀ (b:Nat) (p:aL×Int),p∈fwd w b→w.Start≤p.2:=by
 have hl: ∀ b,0≤cp w b:=fun b=>by
  unfold cp
  cases e:w.qn[b]? with
  |none=>simp
  |some x=>have:=h.least x (aQ e); simp; omega
 intro b
 induction b with
 |zero=>intro p hp; simp only [fwd,cu] at hp; subst hp; exact Int.le_refl _
 |succ b ih=>
  intro q hq
  obtain ⟨p,hp,o,ho,e⟩:=gh.1 hq
  unfold kW at e
  split at e
  ·simp only [Option.some.injEq] at e
   subst e
   have:=ih p hp
   have:=hl b
   simp only; omega
  ·cases e
theorem MW {l:br} {r:cD} {b:Int} (h:dY l r b=0):r.Start≤(dQ l r b).Lo:=by
 have ho:dW l r (jB l b)=0:=by
  by_cases e:dW l r (jB l b)=0
  ·exact e
  ·rw [(l4 e).1] at h; exact absurd h e
 obtain ⟨B,C,_⟩:=iM ho
 obtain ⟨ht,A⟩:=dZ B
 have hw:=lG ht A C
 have hv:dQ l r b=mF l r b.toNat:=by unfold dQ; rw [if_pos h]
 have hn:mF l r b.toNat≠mB:=fun e=>by unfold dY at h; rw [if_pos ho,if_pos e] at h; omega
 have hh:=vb (l:=mR (cm l r) b.toNat) fun q hq=>nq hq
 rw [hv]
 unfold mF at hn ⊢
 rcases hh with ⟨_,e⟩|hh
 ·exact absurd e hn
 ·obtain ⟨x,hx,ex⟩:=hh.lo
  obtain ⟨o,ho,p,hp,u,hu,e⟩:=iJ.1 hx
  obtain ⟨_,_,rfl⟩:=jH.1 e
  have D:r.Start≤p.2:=M8 hw _ p hp
  have E:0≤cp (cm l r) b.toNat:=by
   unfold cp
   cases e:(cm l r).qn[b.toNat]? with
   |none=>simp
   |some x=>have:=hw.least x (aQ e); simp; omega
  simp only [jI] at ex
  omega
theorem E7 {l:br} {d:aC} (h:iX l d):0≤(gl l d).Lo∧(gl l d).Lo≤(gl l d).Hi∧(gl l d).Hi≤86400000:=by
 unfold iX at h
 unfold gl
 split at h
 ·rename_i q; rw [if_pos (Or.inl q),h.2.1]; simp [gS]
 ·rename_i q
  split at h
  ·rename_i A
   rw [if_pos (Or.inr A)]
   obtain ⟨⟨B,C,D⟩,_⟩:=h
   omega
  ·rename_i A
   rw [if_neg (fun z=>z.elim q A),Aw h.1]
   have B:=t_ h.1
   have C:=(vG h.1).time
   have D:=MW h.1
   simp only
   omega
theorem ER {l:br} {d:aC} (h:d.Out=true):gl l d=d.Time:=if_pos (Or.inl h)
theorem Fl {l:br} {d:aC} (h:d.Out=false∧d.dB=true):gl l d=d.Time:=if_pos (Or.inr h.2)
theorem EN {l:br} {d:aC} (h:d.Out=false∧d.dB=false):gl l d=zS l d.bD:=if_neg (by simp [h])
theorem qU {l:br} {d:aC} (h:d.Out=true):iX l d=(d.dB=false∧d.Time=gS∧m8 d.bD):=if_pos h
theorem ui {l:br} {d:aC} (h:d.Out=false∧d.dB=true):iX l d=(mh d.Time∧m8 d.bD):=by unfold iX; rw [if_neg (by simp [h]),if_pos h.2]
theorem tJ {l:br} {d:aC} (h:d.Out=false∧d.dB=false):iX l d=(dY l d.bD l.cf=0∧d.Time=gS):=by unfold iX; rw [if_neg (by simp [h]),if_neg (by simp [h])]
structure fU (r:e7):Prop where
 num:1≤(r.aY.length:Int)∧(r.aY.length:Int)≤5
 zY:0≤r.j2∧r.j2≤5
 nh:1≤(r.aD.length:Int)∧(r.aD.length:Int)≤3
 ids: ∀ (i:Nat) x,r.aY[i]? =some x→(0≤x∧x≤9999)∧ ∀ y,0<i→r.aY[i-1]? =some y→y<x
 draw:r.cd.Perm ((List.range r.aY.length).map fun (k:Nat)=>(k:Int))
 gL: ∀ h∈r.aD,h.length=r.aY.length∧ ∀ d∈h,iX r.ar d
noncomputable instance (r:e7):Decidable (fU r):=Classical.propDecidable _
noncomputable def jN (r:e7):Int:=if dJ r.ar=0 then (if fU r then 0 else 60) else dJ r.ar
end
section
theorem nH {α β:Type} {f g:α→Option β}: ∀ {l:List α},(∀ x∈l,f x=g x)→l.filterMap f=l.filterMap g
 |[],_=>rfl
 |x::l,h=>by simp only [List.filterMap_cons,h x cH,nH (l:=l) (fun y hy=>h y (dR _ hy))]
abbrev sT:=List (Int×ai)
/-- the sum of a sled in some heats, the first ones -/
noncomputable def j1 (l:br) (hs:List (List aC)) (i:Nat):Nat→Option ai
 |0=>some ⟨0,0⟩
 |k+1=>match j1 l hs i k,(hs[k]?).bind (·[i]?) with
  |some s,some d=>if d.Out=true then none else some ⟨s.Lo+(gl l d).Lo/10,s.Hi+(gl l d).Hi/10⟩
  |_,_=>none
noncomputable def eH (l:br) (hs:List (List aC)) (n h i:Nat):sT:=(List.range n).filterMap fun q=>(j1 l hs q (if q<i then h+1 else h)).map fun s=>((q:Int),s)
noncomputable def BK (r:e7) (k:Nat):sT:=(List.range r.aY.length).filterMap fun q=>(j1 r.ar r.aD q k).map fun s=>((q:Int),s)
noncomputable def Ol (r:e7):sT:=BK r r.aD.length
section
variable {l:br} {hs:List (List aC)} {n h i q:Nat} {s:ai} {d:aC}
theorem Bv:eH l hs n h 0=(List.range n).filterMap fun q=>(j1 l hs q h).map fun s=>((q:Int),s):=by
 unfold eH
 apply nH
 intro q _
 rw [if_neg (Nat.not_lt_zero _)]
theorem L8:eH l hs n h n=eH l hs n (h+1) 0:=by
 rw [Bv]
 unfold eH
 apply nH
 intro q hq
 rw [if_pos (List.mem_range.1 hq)]
theorem HA {x:List aC} (hx:hs[h]? =some x) (hd:x[i]? =some d) (ho:d.Out=true):j1 l hs i (h+1)=none:=by
 unfold j1
 rw [hx]
 simp only [Option.bind_some,hd]
 cases j1 l hs i h with
 |none=>rfl
 |some s=>simp [ho]
theorem Dh (h0:j1 l hs i h=none):j1 l hs i (h+1)=none:=by unfold j1; rw [h0]
theorem Dl {x:List aC} (hx:hs[h]? =some x) (hd:x[i]? =some d) (ho: ¬ d.Out=true) (hs0:j1 l hs i h=some s):j1 l hs i (h+1)=some ⟨s.Lo+(gl l d).Lo/10,s.Hi+(gl l d).Hi/10⟩:=by
 unfold j1
 rw [hx,hs0]
 simp only [Option.bind_some,hd,if_neg ho]
end
section
variable {l:br} {hs:List (List aC)} {n h i q:Nat} {s t:ai}
theorem Qt {K β:Type} [DecidableEq K] {L Y:List (K×β)} {t:K}:(L++Y).lookup t=match L.lookup t with |some v=>some v|none=>Y.lookup t:=by
 induction L with
 |nil=>rfl
 |cons p L ih=>
  obtain ⟨k,u⟩:=p
  by_cases e:t==k
  ·simp [List.lookup,e]
  ·have:(t==k)=false:=by simpa using e
   simp only [List.cons_append,List.lookup,this,ih]
theorem u0 {f:Nat→Option ai}: ∀ (n i:Nat),((List.range n).filterMap fun q=>(f q).map fun s=>((q:Int),s)).lookup (i:Int)=if i<n then f i else none
 |0,i=>by simp
 |n+1,i=>by
  rw [List.range_succ,List.filterMap_append,Qt,u0 n i]
  by_cases c:i<n
  ·rw [if_pos c,if_pos om]
   cases e:f i with
   |some s=>rfl
   |none=>
    simp only
    cases e2:f n with
    |none=>simp [e2]
    |some u=>
     have:((i:Int)==(n:Int))=false:=by simp only [beq_eq_false_iff_ne,ne_eq]; omega
     simp [e2,List.lookup,this]
  ·rw [if_neg c]
   simp only
   by_cases A:i=n
   ·subst A
    rw [if_pos om]
    cases e2:f i with
    |none=>simp [e2]
    |some u=>simp [e2]
   ·rw [if_neg om]
    have:((i:Int)==(n:Int))=false:=by simp only [beq_eq_false_iff_ne,ne_eq]; omega
    cases e2:f n with
    |none=>simp [e2]
    |some u=>simp [e2,List.lookup,this]
theorem xe:(eH l hs n h i).lookup (q:Int)=if q<n then j1 l hs q (if q<i then h+1 else h) else none:=u0 n q
theorem O4 {f g:Nat→Option ai} {n i:Nat} (hi:i<n) {s:ai} (hf:(f i).isSome=true) (hg:g i=some s) (hfg: ∀ q,q≠i→f q=g q):ep ((List.range n).filterMap fun q=>(f q).map fun s=>((q:Int),s)) (i:Int) s=(List.range n).filterMap fun q=>(g q).map fun s=>((q:Int),s):=by
 unfold ep
 rw [if_pos (by rw [u0,if_pos hi]; exact hf),List.map_filterMap]
 apply nH
 intro q _
 by_cases e:q=i
 ·subst e
  obtain ⟨u,hu⟩:=Option.isSome_iff_exists.1 hf
  rw [hu,hg]; simp
 ·rw [hfg q e]
  cases g q with
  |none=>rfl
  |some u=>
   have: ¬ ((q:Int)=(i:Int)):=by omega
   simp [this]
theorem Pm {f g:Nat→Option ai} {n i:Nat} (hg:g i=none) (hfg: ∀ q,q≠i→f q=g q):fz ((List.range n).filterMap fun q=>(f q).map fun s=>((q:Int),s)) (i:Int)=(List.range n).filterMap fun q=>(g q).map fun s=>((q:Int),s):=by
 unfold fz
 rw [List.filter_filterMap]
 apply nH
 intro q _
 by_cases e:q=i
 ·subst e
  rw [hg]
  cases f q with
  |none=>rfl
  |some u=>simp
 ·rw [hfg q e]
  cases g q with
  |none=>rfl
  |some u=>
   have: ¬ ((q:Int)=(i:Int)):=by omega
   simp [this]
theorem LZ (hi:i<n) (h0:(j1 l hs i h).isSome=true) (h1:j1 l hs i (h+1)=some s):ep (eH l hs n h i) (i:Int) s=eH l hs n h (i+1):=by
 unfold eH
 refine O4 hi (by rw [if_neg (Nat.lt_irrefl i)]; exact h0) (by rw [if_pos (Nat.lt_succ_self i)]; exact h1) fun q hq=>?_
 by_cases c:q<i
 ·rw [if_pos c,if_pos om]
 ·rw [if_neg c,if_neg om]
theorem Fp (h1:j1 l hs i (h+1)=none):fz (eH l hs n h i) (i:Int)=eH l hs n h (i+1):=by
 unfold eH
 refine Pm (by rw [if_pos (Nat.lt_succ_self i)]; exact h1) fun q hq=>?_
 by_cases c:q<i
 ·rw [if_pos c,if_pos om]
 ·rw [if_neg c,if_neg om]
end
def An (m:sT) (i:Int):sT:=m.filter fun p=> !decide (p.1=i)
def Sx (m:sT) (i n:Int):Nat:=(An m i).countP fun p=>decide (p.2.Hi<n)
def TD (m:sT) (i n:Int):Nat:=(An m i).countP fun p=>decide (p.2.Lo<n)
def LV (m:sT) (i:Int) (own:ai):List Int:=own.Lo::((An m i).flatMap fun p=>[p.2.Lo+1,p.2.Hi+1]).filter fun n=>decide (own.Lo≤n∧n≤own.Hi)
def PN (m:sT) (i:Int) (own:ai) (k:Int):Prop:= ∃ n∈LV m i own,(Sx m i n:Int)+1≤k∧k≤(TD m i n:Int)+1
noncomputable instance (m:sT) (i:Int) (own:ai) (k:Int):Decidable (PN m i own k):=Classical.propDecidable _
section
variable {m:sT} {i:Int} {own:ai}
end
end
section
def qV (l:List Int):List (List Value):=l.map fun x=>[vI x]
theorem th {l:List Int}:(qV l).length=l.length:=by simp [qV]
theorem Hm {l:List Int} {k:Nat} {x:Int} (h:l[k]? =some x):(qV l)[k]? =some [vI x]:=by simp [qV,h]
theorem GU {l:List Int} {k:Nat} {x:List Value} (h:(qV l)[k]? =some x): ∃ y,l[k]? =some y∧x=[vI y]:=by
 simp only [qV,fX,Option.map_eq_some_iff] at h
 obtain ⟨y,hy,rfl⟩:=h
 exact ⟨y,hy,U⟩
theorem Eb {l:List Int}: ∀ x∈qV l,x.length=1:=fun x hx=>by
 simp only [qV,cz] at hx
 obtain ⟨y,_,rfl⟩:=hx
 rfl
theorem yp {l:List Int}:l.take (qV l).length=l:=by rw [th,List.take_of_length_le (Nat.le_refl _)]
theorem w8 {l:List Int} {k:Nat} {x:Int} (h:l[k]? =some x):l.take (k+1)=l.take k++[x]:=by
 rw [List.take_add_one,h]; rfl
def nS (l:List Int):List Int:=l.mergeSort fun a b=>decide (a≤b)
theorem l3 {l:List Int}:(nS l).Perm l:=List.mergeSort_perm _ _
theorem tx {l:List Int}:(nS l).Pairwise (· ≤ ·):=by
 have:=List.pairwise_mergeSort (le:=fun (a b:Int)=>decide (a≤b)) (fun a b c A B=>by simp at A B ⊢; omega) (fun a b=>by simp; omega) l
 exact this.imp fun h=>by simpa using h
@[simp] theorem tS {l:List Int}:(nS l).length=l.length:=l3.length_eq
theorem CU {l m:List Int} (h1:m.Perm l) (h2:m.Pairwise (· ≤ ·)):m=nS l:=sw (h1.trans l3.symm) h2 tx
end
section
open Go.RowKit
def sC (s:bx):List Value:=[vS s.a s.n s.c]
theorem zd: ∀ s,(sC s).length=1:=fun s=>rfl
theorem IU (l:List bx): ∀ v∈(l.map sC).flatten,v.oneCell'=true:=kR (fun s=>rfl) l
def CJ (l:List ai) (a:RA):bx:=⟨a.1,l.length,a.2⟩
def MJ (l:List ai) (a:RA):List Value:=[vS a.1 l.length a.2]
def Qz (l:List ai) (a:RA):List aB:=[rd a.1 l.length 2 (l.map ai.cells)]
def E6 (l:List ai) (a:RA):List aB:=[own a.1 a.2 I8 2 (l.map ai.cells)]
theorem zj {ls:List (List ai)} {az:List RA}:(List.zipWith CJ ls az).map sC=List.zipWith MJ ls az:=by
 rw [List.map_zipWith]; rfl
theorem Tb: ∀ (m:List ai) (a:RA) (w:World),(∀ X∈E6 m a,X.holds w)→ ∀ X∈Qz m a,X.holds w:=fun m a w h X hX=>by
 simp only [Qz,cu] at hX
 subst hX
 have:=nU (h _ (cu.2 rfl))
 simpa using this
theorem Ej {l:List (List ai)} {bz:List RA}:(bU (bo E6 l bz)).wr=true:=by
 show (bo E6 l bz).all (·.wr)=true
 rw [de]
 intro X hX
 obtain ⟨k,m,a,_,_,h⟩:=j_ hX
 simp only [E6,cu] at h
 subst h; rfl
theorem LL {ls:List (List ai)} {az:List RA} (h:az.length=ls.length):(List.zipWith MJ ls az).length=ls.length:=by simp [h]
noncomputable def gW (r:e7) (i:Nat):List (List ai):=(r.aD.take i).map fun h=>h.map (gl r.ar)
noncomputable def fY (r:e7):List (List ai):=gW r r.aD.length
section
variable {r:e7} {i:Nat} {h:List aC} {tz:List RA} {a:RA}
theorem vN (hh:r.aD[i]? =some h):gW r (i+1)=gW r i++[h.map (gl r.ar)]:=by unfold gW; rw [List.take_add_one,hh,List.map_append]; rfl
theorem lf (hi:i≤r.aD.length):(gW r i).length=i:=by unfold gW; rw [List.length_map,List.length_take]; omega
theorem j7:(fY r).length=r.aD.length:=lf (Nat.le_refl _)
theorem D4 (hh:r.aD[i]? =some h):(fY r)[i]? =some (h.map (gl r.ar)):=by
 unfold fY gW
 rw [List.take_length,fX,hh]; rfl
theorem Hf {m:List ai} (hh:r.aD[i]? =some h) (hm:(fY r)[i]? =some m):m=h.map (gl r.ar):=by
 rw [D4 hh] at hm
 exact (Option.some.inj hm).symm
theorem ug (hh:r.aD[i]? =some h) (hl:tz.length=i):List.zipWith CJ (gW r (i+1)) (tz++[a])=List.zipWith CJ (gW r i) tz++[CJ (h.map (gl r.ar)) a]:=by
 have hi:=(aX.1 hh).1
 rw [vN hh,List.zipWith_append (by rw [lf om,hl])]
 rfl
theorem CD (hh:r.aD[i]? =some h) (hl:tz.length=i):bo E6 (gW r i) tz++[own a.1 a.2 I8 2 ((h.map (gl r.ar)).map ai.cells)]=bo E6 (gW r (i+1)) (tz++[a]):=by
 have hi:=(aX.1 hh).1
 rw [vN hh,jA (by rw [lf om,hl])]
 simp [bo,E6]
end
theorem zn {lo hi:Int} {l:List Int}:qs lo hi l=true↔ ∀ x∈l,lo≤x∧x≤hi:=by
 unfold qs
 rw [Bool.not_eq_true',List.any_eq_false]
 constructor
 ·intro h x hx; have:=h x hx; simp only [decide_eq_true_eq] at this; omega
 ·intro h x hx; have:=h x hx; simp only [decide_eq_true_eq]; omega
abbrev FX (n:Nat):List Int:=(List.range n).map fun (k:Nat)=>(k:Int)
theorem wI (n:Nat):(FX n).Pairwise (· ≤ ·):=by
 unfold FX
 rw [List.pairwise_map]
 exact List.pairwise_lt_range.imp fun h=>by omega
theorem BL {l:List Int} {n:Nat} (h:l.Perm (FX n)):nS l=FX n:=(CU h.symm (wI n)).symm
theorem Hz {l:List Int} {n:Nat} (hl:l.length=n) (h: ∀ j,j<n→ ∀ x,(nS l)[j]? =some x→x=(j:Int)):l.Perm (FX n):=by
 have e:nS l=FX n:=by
  apply List.ext_getElem
  ·simp [hl]
  ·intro j A B
   have C:j<n:=by simpa using B
   have:=h j C _ (eN A)
   simpa using this
 rw [← e]; exact l3.symm
def rn (r:e7) (i:Nat):Prop:= ∀ j,j<i→(∀ x,(nS r.cd)[j]? =some x→x=(j:Int))∧ ∀ x y,r.aY[j]? =some x→0<j→r.aY[j-1]? =some y→y<x
def Eo (r:e7) (h:List aC):Prop:=h.length=r.aY.length∧ ∀ d∈h,iX r.ar d
def km (r:e7) (i:Nat):Prop:= ∀ (j:Nat) h,j<i→r.aD[j]? =some h→Eo r h
def oI (l:br) (h:List aC) (k:Nat):Prop:= ∀ (j:Nat) d,j<k→h[j]? =some d→iX l d
section
variable {r:e7} {i:Nat}
theorem Dv:rn r 0:=fun j hj=>absurd hj (Nat.not_lt_zero _)
theorem x8 {x:Int} (h:rn r i) (hd:(nS r.cd)[i]? =some x) (e:x=(i:Int)) (hs: ∀ x y,r.aY[i]? =some x→0<i→r.aY[i-1]? =some y→y<x):rn r (i+1):=fun j hj=>by
 rcases Nat.lt_or_ge j i with q|q
 ·exact h j q
 ·obtain rfl:j=i:=by omega
  exact ⟨fun y hy=>by rw [hd] at hy; cases hy; exact e,hs⟩
theorem x_:km r 0:=fun j h hj=>absurd hj (Nat.not_lt_zero _)
theorem xo {h:List aC} (hh:km r i) (hx:r.aD[i]? =some h) (ho:Eo r h):km r (i+1):=fun j y hj hy=>by
 rcases Nat.lt_or_ge j i with q|q
 ·exact hh j y q hy
 ·obtain rfl:j=i:=by omega
  rw [hx] at hy; cases hy; exact ho
theorem vy {l:br} {h:List aC}:oI l h 0:=fun j d hj=>absurd hj (Nat.not_lt_zero _)
theorem vx {l:br} {h:List aC} {d:aC} (ht:oI l h i) (hx:h[i]? =some d) (ho:iX l d):oI l h (i+1):=fun j y hj hy=>by
 rcases Nat.lt_or_ge j i with q|q
 ·exact ht j y q hy
 ·obtain rfl:j=i:=by omega
  rw [hx] at hy; cases hy; exact ho
theorem E8 {h:List aC} (hl:h.length=r.aY.length) (ht:oI r.ar h i) (hi:h.length≤i):Eo r h:=⟨hl,fun d hd=>by
 obtain ⟨j,hj⟩:=List.getElem?_of_mem hd
 exact ht j d (by have:=(aX.1 hj).1; omega) hj⟩
theorem IS {n:Nat} (hn:n=r.aY.length) (h1:1≤(r.aY.length:Int)∧(r.aY.length:Int)≤5) (h2:r.cd.length=r.aY.length) (h3:0≤r.j2∧r.j2≤5) (h4:1≤(r.aD.length:Int)∧(r.aD.length:Int)≤3) (h5:qs 0 9999 r.aY=true)
 (h6:rn r n) (h7:km r i) (hi:r.aD.length≤i):fU r:=by
 subst hn
 refine ⟨h1,h3,h4,fun k x hx=>⟨zn.1 h5 x (aQ hx),fun y hk hy=>?_⟩,Hz h2 fun j hj=>(h6 j hj).1,fun h hh=>?_⟩
 ·exact (h6 k (aX.1 hx).1).2 x y hx hk hy
 ·obtain ⟨j,hj⟩:=List.getElem?_of_mem hh
  exact h7 j h (by have:=(aX.1 hj).1; omega) hj
theorem fU.z8 (h:fU r):r.cd.length=r.aY.length:=by have:=h.draw.length_eq; simpa using this
theorem fU.ins (h:fU r):qs 0 9999 r.aY=true:=zn.2 fun x hx=>by
 obtain ⟨j,hj⟩:=List.getElem?_of_mem hx
 exact (h.ids j x hj).1
theorem fU.drawn (h:fU r) {x:Int} (hx:(nS r.cd)[i]? =some x):x=(i:Int):=by
 rw [BL h.draw] at hx
 have hi:=(aX.1 hx).1
 simp at hi
 rw [fX,List.getElem?_range hi] at hx
 exact (Option.some.inj hx).symm
theorem fU.L5 (h:fU r):km r i:=fun j x _ hx=>h.gL x (aQ hx)
theorem zk (h: ¬ dJ r.ar=0):jN r=dJ r.ar:=if_neg h
theorem kN (h:dJ r.ar=0) (hn: ¬ fU r):jN r=60:=by unfold jN; rw [if_pos h,if_neg hn]
theorem BO (h:dJ r.ar=0) (hn:fU r):jN r=0:=by unfold jN; rw [if_pos h,if_pos hn]
theorem eX (h:jN r=0):dJ r.ar=0∧fU r:=by
 unfold jN at h
 split at h
 ·split at h
  ·exact ⟨asm,asm⟩
  ·cases h
 ·exact absurd h asm
end
section
variable {r:e7} {k i n h:Nat} {s:ai} {l:br} {hs:List (List aC)}
theorem Ey: ∀ {k:Nat} {s:ai},km r k→k≤r.aD.length→j1 r.ar r.aD i k=some s→0≤s.Lo∧s.Lo≤s.Hi∧s.Hi≤8640000*(k:Int)
 |0,s,_,_,h=>by
  simp only [j1,Option.some.injEq] at h
  subst h; simp
 |k+1,s,hh,hk,h=>by
  unfold j1 at h
  split at h
  ·rename_i u d hu hd
   split at h
   ·cases h
   ·cases h
    have A:=Ey (fun j x hj hx=>hh j x om hx) om hu
    obtain ⟨x,hx,hd⟩:=Option.bind_eq_some_iff.1 hd
    have B:=E7 ((hh k x om hx).2 d (aQ hd))
    simp only
    push_cast
    omega
  ·cases h
theorem MB:ep (eH l hs i 0 0) (i:Int) ⟨0,0⟩=eH l hs (i+1) 0 0:=by
 have A:(eH l hs i 0 0).lookup (i:Int)=none:=by rw [xe,if_neg (Nat.lt_irrefl i)]
 unfold ep
 rw [A]
 simp only [Option.isSome_none,Bool.false_eq_true,if_false]
 unfold eH
 rw [List.range_succ,List.filterMap_append]
 simp [j1]
theorem JX (hi:i<n):(eH l hs n h i).lookup (i:Int)=j1 l hs i h:=by rw [xe,if_pos hi,if_neg (Nat.lt_irrefl i)]
theorem O6 {α β:Type} {f:α→β} {tr:List β} {ht:List α} {x:β} {d:α} (e:tr=ht.map f) (hx:tr[i]? =some x) (hd:ht[i]? =some d):x=f d:=by
 rw [e,fX,hd] at hx
 exact (Option.some.inj hx).symm
theorem Nm:eH r.ar r.aD r.aY.length h 0=BK r h:=Bv
end
end
section
def qz (r:e7) (i:Int):Prop:=0≤i∧i≤(r.aY.length:Int)-1
instance (r:e7) (i:Int):Decidable (qz r i):=by unfold qz; infer_instance
section
variable {r:e7} {i a b:Int}
end
end
section
def nW (d:aC):Prop:=d.Out=false∧d.dB=false
instance (d:aC):Decidable (nW d):=by unfold nW; infer_instance
def eY (l:br) (f:aW):Prop:=(1≤f.Kind∧f.Kind≤3)∧(0≤f.mE∧f.mE≤f.To∧f.To≤86400000)∧0≤f.ig∧f.ig≤(if f.Kind=1 then 0 else l.cf)
instance (l:br) (f:aW):Decidable (eY l f):=by unfold eY; infer_instance
/-- the descent that a protest is of -/
def nT (j:bS) (p:aJ):Option aC:=(j.Race.aD[p.fj.toNat]?).bind (·[p.eO.toNat]?)
structure vf (j:bS) (i:Nat) (p:aJ):Prop where
 id:0≤p.Id∧p.Id≤9999
 up: ∀ q,0<i→j.ao[i-1]? =some q→q.Id<p.Id
 ly:qz j.Race p.eO
 gL:0≤p.fj∧p.fj≤(j.Race.aD.length:Int)-1
 fault:0≤p.ew∧p.ew≤(j.aA.length:Int)-1
 jS: ∃ d,nT j p=some d∧nW d∧d.bD.Start≤p.At∧p.At≤86400000
structure qg (j:bS):Prop where
 nf:(j.aA.length:Int)≤5
 fault: ∀ f∈j.aA,eY j.Race.ar f
 min_:0≤j.bJ∧j.bJ≤60
 kY:0≤j.kU∧j.kU≤100000
 np:(j.ao.length:Int)≤8
 gU: ∀ (i:Nat) p,j.ao[i]? =some p→vf j i p
noncomputable instance (j:bS):Decidable (qg j):=Classical.propDecidable _
noncomputable def db (j:bS):Int:=if jN j.Race=0 then (if qg j then 0 else 70) else jN j.Race
theorem yP {j:bS} (h: ¬ jN j.Race=0):db j=jN j.Race:=if_neg h
theorem jO {j:bS} (h:jN j.Race=0) (hn: ¬ qg j):db j=70:=by unfold db; rw [if_pos h,if_neg hn]
theorem wJ {j:bS} (h:jN j.Race=0) (hn:qg j):db j=0:=by unfold db; rw [if_pos h,if_pos hn]
theorem eE {j:bS} (h:db j=0):jN j.Race=0∧qg j:=by
 unfold db at h
 split at h
 ·split at h
  ·exact ⟨asm,asm⟩
  ·cases h
 ·rename_i q; exact absurd h q
structure yH where
 Lo:Int
 Hi:Int
 each:Bool
 never:Bool
/-- whether it passed the beam in each truth -/
noncomputable def tg (l:br) (r:cD) (b:Int):Bool:=(hU l r).all fun n=>decide (b<n)
noncomputable def cR (l:br) (r:cD) (b:Int):yH:=
 if b<0 then ⟨r.Start,r.Start,true,false⟩
 else if dY l r b=0 then ⟨(dQ l r b).Lo,if tg l r b=true then (dQ l r b).Hi else 86400000,tg l r b,false⟩
 else ⟨86400000,86400000,false,true⟩
def yL (f:aW):Int:=if f.Kind=1 then-1 else if f.Kind=2 then f.ig-1 else f.ig
def Qu (l:br) (f:aW):Int:=if f.Kind=1 then l.cf else f.ig
def uy (f:aW) (a b:yH):Prop:=if f.Kind=3 then f.mE≤a.Lo∧a.Hi≤f.To else a.Hi≤f.To∧f.mE≤b.Lo
instance (f:aW) (a b:yH):Decidable (uy f a b):=by unfold uy; infer_instance
def n7 (f:aW) (a b:yH):Int:=if a.never=true∨f.To<a.Lo∨b.Hi<f.mE then 0 else if a.each=true∧uy f a b then 2 else 1
noncomputable def g6 (l:br) (f:aW) (d:aC):Int:=if nW d then n7 f (cR l d.bD (yL f)) (cR l d.bD (Qu l f)) else 0
theorem rW {l:br} {f:aW} {d:aC} (h: ¬ nW d):g6 l f d=0:=if_neg h
def ml (P:Nat→Bool) (n:Nat):List Int:=((List.range n).filter P).map fun (i:Nat)=>(i:Int)
section
variable {P:Nat→Bool} {n q:Nat} {x:Int}
theorem xu (h:P n=true):ml P (n+1)=ml P n++[(n:Int)]:=by unfold ml; rw [List.range_succ,List.filter_append,List.map_append]; simp [h]
theorem su (h:P n=false):ml P (n+1)=ml P n:=by unfold ml; rw [List.range_succ,List.filter_append,List.map_append]; simp [h]
theorem oZ:(ml P n).length≤n:=by unfold ml; rw [List.length_map]; exact Nat.le_trans (List.length_filter_le _ _) (by rw [List.length_range]; exact Nat.le_refl _)
theorem Av:x∈ml P n↔ ∃ i:Nat,i<n∧x=(i:Int)∧P i=true:=by
 unfold ml
 simp only [cz,List.mem_filter,List.mem_range]
 constructor
 ·rintro ⟨i,⟨A,B⟩,rfl⟩; exact ⟨i,A,rfl,B⟩
 ·rintro ⟨i,A,rfl,B⟩; exact ⟨i,⟨A,B⟩,rfl⟩
end
noncomputable def lQ (j:bS) (p:aJ):Int:=match nT j p with
 |some d=>if p.At≤(cR j.Race.ar d.bD j.Race.ar.cf).Lo+60000*j.bJ then 0 else if p.At≤(cR j.Race.ar d.bD j.Race.ar.cf).Hi+60000*j.bJ then 1 else 2
 |none=>2
noncomputable def f_ (j:bS) (p:aJ):Bool:=match nT j p,j.aA[p.ew.toNat]? with
 |some d,some f=>decide (lQ j p≠2)&&decide (g6 j.Race.ar f d≠0)
 |_,_=>false
/-- which protests are granted, so far -/
noncomputable def ux (j:bS) (n:Nat):List Int:=ml (fun i=>(j.ao[i]?).any (f_ j)) n
noncomputable def iy (j:bS):List Int:=ux j j.ao.length
theorem p6 {j:bS} {n:Nat} {x:Int}:x∈ux j n↔ ∃ i:Nat,i<n∧x=(i:Int)∧ ∃ p,j.ao[i]? =some p∧f_ j p=true:=by
 unfold ux
 rw [Av]
 refine exists_congr fun i=>and_congr Iff.rfl (and_congr Iff.rfl ?_)
 cases h:j.ao[i]? with
 |none=>simp
 |some p=>simp
/-- by faults of which something is so -/
def HG (l:br) (F:aW→Prop) (fs:List aW) (d:aC):Prop:= ∃ f∈fs,F f∧ ¬ g6 l f d=0
noncomputable def tF (l:br) (F:aW→Prop) (fs:List aW) (h:List aC) (n:Nat):List Int:=ml (fun s=>(h[s]?).any fun d=> @decide (HG l F fs d) (Classical.propDecidable _)) n
noncomputable def ij (j:bS) (F:aW→Prop):List (List Int):=j.Race.aD.map fun h=>tF j.Race.ar F j.aA h h.length
/-- about which a protest is granted -/
def my (j:bS) (f:aW):Prop:= ∃ (i:Nat) (p:aJ),j.ao[i]? =some p∧f_ j p=true∧j.aA[p.ew.toNat]? =some f
noncomputable def jv (j:bS):List (List Int):=ij j (my j)
noncomputable def Jv (j:bS) (s:Int) (n:Nat):Nat:=(List.range n).countP fun i=>(j.ao[i]?).any fun p=>decide (p.eO=s)&& !f_ j p
noncomputable def DL (j:bS) (s:Int):Int:= -(Jv j s j.ao.length:Int)*j.kU
noncomputable def yR (j:bS):Int:=((iy j).length:Int)*j.kU
noncomputable def E5 (j:bS):Int:=(j.ao.length:Int)*j.kU-yR j
end
section
/-- the places of which something is so; from the k-th on, all of them -/
def im (P:Nat→Bool) (n k:Nat):List (Int×Bool):=((List.range n).filter fun q=>decide (k≤q)||P q).map fun (q:Nat)=>((q:Int),true)
section
variable {P:Nat→Bool} {n k q:Nat}
theorem xT {p:Int×Bool}:p∈im P n k↔ ∃ q:Nat,q<n∧(k≤q∨P q=true)∧p=((q:Int),true):=by
 unfold im
 simp only [cz,List.mem_filter,List.mem_range,Bool.or_eq_true,decide_eq_true_eq]
 constructor
 ·rintro ⟨q,⟨A,B⟩,rfl⟩; exact ⟨q,A,B,rfl⟩
 ·rintro ⟨q,A,B,rfl⟩; exact ⟨q,⟨A,B⟩,rfl⟩
theorem FY:((im P n k).map (·.1)).Nodup:=by
 unfold im
 rw [List.map_map,List.nodup_iff_pairwise_ne,List.pairwise_map]
 have h:(List.range n).Pairwise (· ≠ ·):=by rw [← List.nodup_iff_pairwise_ne]; exact List.nodup_range
 exact (h.sublist List.filter_sublist).imp fun {a b} A e=>A (by have B:(a:Int)=(b:Int):=e; omega)
theorem Ks:ep (im P n 0) (n:Int) true=im P (n+1) 0:=by
 have A:(im P n 0).lookup (n:Int)=none:=iz.2 fun p hp e=>by
  obtain ⟨q,B,_,rfl⟩:=xT.1 hp
  simp only at e; omega
 unfold ep
 rw [A]
 show im P n 0++[((n:Int),true)]=_
 unfold im
 rw [List.range_succ,List.filter_append,List.map_append]
 simp
theorem H5 (h:P k=false):fz (im P n k) (k:Int)=im P n (k+1):=by
 unfold fz im
 rw [List.filter_map,List.filter_filter]
 congr 1
 apply List.filter_congr
 intro q _
 by_cases e:q=k
 ·subst e; simp [h]
 ·have A:decide ((q:Int)=(k:Int))=false:=bH om
  have B:decide (k≤q)=decide (k+1≤q):=gY.2 om
  simp only [Function.comp_def,A,B,Bool.not_false,Bool.true_and]
theorem F5 (h:P k=true):im P n k=im P n (k+1):=by
 unfold im
 congr 1
 apply List.filter_congr
 intro q _
 by_cases e:q=k
 ·subst e; simp [h]
 ·have A:decide (k≤q)=decide (k+1≤q):=gY.2 om
  rw [A]
theorem yS (hq:q<n):((im P n n).lookup (q:Int)).getD false=P q:=by
 cases h:P q with
 |true=>
  have:((q:Int),true)∈im P n n:=xT.2 ⟨q,hq,.inr h,rfl⟩
  rw [(lq FY).1 this]; rfl
 |false=>
  have:(im P n n).lookup (q:Int)=none:=iz.2 fun p hp e=>by
   obtain ⟨u,B,A,rfl⟩:=xT.1 hp
   simp only at e
   obtain rfl:u=q:=by omega
   rcases A with A|A
   ·omega
   ·rw [h] at A; cases A
  rw [this]; rfl
end
end
section
section
variable {j j':bS} {p:aJ} {l:br} {F G:aW→Prop} {fs:List aW} {h:List aC} {n:Nat} {x:Int}
theorem CF (hr:j'.Race=j.Race) (hf:j'.aA=j.aA) (hm:j'.bJ=j.bJ):f_ j' p=f_ j p:=by
 unfold f_ lQ nT; rw [hr,hf,hm]
/-- with more minutes no grant is lost -/
theorem FV (hr:j'.Race=j.Race) (hf:j'.aA=j.aA) (hm:j.bJ≤j'.bJ) (hg:f_ j p=true):f_ j' p=true:=by
 unfold f_ nT at hg ⊢
 rw [hr,hf]
 cases e1:(j.Race.aD[p.fj.toNat]?).bind (·[p.eO.toNat]?) with
 |none=>rw [e1] at hg; simp at hg
 |some d=>
  cases e2:j.aA[p.ew.toNat]? with
  |none=>rw [e1,e2] at hg; simp at hg
  |some f=>
   rw [e1,e2] at hg
   simp only [dg,decide_eq_true_eq] at hg ⊢
   refine ⟨fun q=>hg.1 ?_,hg.2⟩
   unfold lQ nT at q ⊢
   rw [hr,e1] at q
   rw [e1]
   simp only at q ⊢
   split at q
   ·cases q
   ·split at q
    ·cases q
    ·rw [if_neg om,if_neg om]
theorem I0 (hFG: ∀ f∈fs,F f→G f) (hx:x∈tF l F fs h n):x∈tF l G fs h n:=by
 unfold tF at hx ⊢
 rw [Av] at hx ⊢
 obtain ⟨i,C,D,A⟩:=hx
 refine ⟨i,C,D,?_⟩
 cases e:h[i]? with
 |none=>rw [e] at A; simp at A
 |some d=>
  rw [e] at A
  simp only [Option.any_some,decide_eq_true_eq] at A ⊢
  obtain ⟨f,B,E,H⟩:=A
  exact ⟨f,B,hFG f B E,H⟩
theorem GG (hFG: ∀ f∈fs,(F f↔G f)):tF l F fs h n=tF l G fs h n:=by
 unfold tF
 congr 1
 funext s
 cases e:h[s]? with
 |none=>rfl
 |some d=>
  simp only [Option.any_some]
  rw [gY]
  exact ⟨fun ⟨f,A,B,C⟩=>⟨f,A,(hFG f A).1 B,C⟩,fun ⟨f,A,B,C⟩=>⟨f,A,(hFG f A).2 B,C⟩⟩
theorem wE {k:Nat} {h:List aC} (hh:j.Race.aD[k]? =some h):(ij j F)[k]? =some (tF j.Race.ar F j.aA h h.length):=by unfold ij; rw [fX,hh]; rfl
theorem rj:(ij j F).length=j.Race.aD.length:=by unfold ij; rw [List.length_map]
end
end
end Go.Proofs.YtijpnoadncadoaaGreatDoor
