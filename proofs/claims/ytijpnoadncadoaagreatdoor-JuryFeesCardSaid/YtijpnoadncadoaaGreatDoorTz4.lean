/-
 The statement juryFees_said, part 4 of 8: Short, Grow, Global, RunA, Tab, Run, Comp, Ret, LoopK, MapK, Watch, Passes, Keys, MapR, RangeG, Nest, WMaps, WBounds, PassG, Drop, Spot, First, Line, Wrap, Goes, OpenW, Wheres, LineR, Race, RaceS, Vals, RaceO, RaceV, Jury, JHits, JMore, JMem.
 Conditions: none.
-/
import Derived.Test.YtijpnoadncadoaaGreatDoorTz1
import Derived.Test.YtijpnoadncadoaaGreatDoorTz2
import Derived.Test.YtijpnoadncadoaaGreatDoorTz3
import Derived.Test.YtijpnoadncadoaaGreatDoorProg
import Derived.KernelRfl
import Derived.WideKeyRuns
namespace Go.Proofs.YtijpnoadncadoaaGreatDoor
set_option maxRecDepth 100000
set_option maxHeartbeats 4000000
set_option linter.unusedVariables false
section
open Go.RowKit
/-- an operation that hands v to its slot d -/
structure SE (E:e9) (ops:Array Oper) (o:Oper) (D:ig) (L:dA) (C:List aw) (v:Value) (d:Nat):Prop where
 h:SD E ops o D L C v
 o:o.dst=some d
 n:Nat.blt d E.n=true
theorem rS {E:e9} {ops:Array Oper} {Q:dq} {o:Oper} {rest:List Oper} {D:ig} {L:dA} {C:List aw} {v:Value} {d:Nat}
 (h:SE E ops o D L C v d) (k:RJ E ops Q rest D ((d,v)::L) C):RJ E ops Q (o::rest) D L C:=Rl h.h h.o h.n k
theorem dS {E:e9} {ops:Array Oper} {F:dA→Prop} {o:Oper} {rest:List Oper} {D:ig} {L:dA} {C:List aw} {v:Value} {d:Nat}
 (h:SE E ops o D L C v d) (k:DJ E ops D C F rest ((d,v)::L)):DJ E ops D C F (o::rest) L:=QA h.h h.o h.n k
theorem eS {E:e9} {ops:Array Oper} {D:ig} {C' C1:List aw} {F:dA→Prop} {bs:List Bool} {o:Oper} {l rest:List Oper} {L:dA} {v:Value} {d:Nat}
 (hl:l=o::rest) (h:SE E ops o D L C' v d) (k:qD E ops D C' C1 F bs rest ((d,v)::L)):qD E ops D C' C1 F (false::bs) l L:=QG h.h hl h.o h.n k
theorem fS {E:e9} {ops:Array Oper} {D:ig} {C' C1:List aw} {F:dA→Prop} {bs:List Bool} {o:Oper} {l rest:List Oper} {L:dA} {v:Value} {d:Nat}
 (hl:l=o::rest) (h:SE E ops o D L C1 v d) (k:qD E ops D C' C1 F bs rest ((d,v)::L)):qD E ops D C' C1 F (true::bs) l L:=Qf h.h hl h.o h.n k
def gB (n:Nat) (ops:Array Oper) (L:dA) (d:Nat) (g:Option (Nat×Bool)):Bool:=kj ops L g&&Nat.blt d n
theorem M7 {n:Nat} {ops:Array Oper} {L:dA} {d:Nat} {g:Option (Nat×Bool)} (h:gB n ops L d g=true):kj ops L g=true:=by
 unfold gB at h; rw [dg] at h; exact h.1
theorem Nm {n:Nat} {ops:Array Oper} {L:dA} {d:Nat} {g:Option (Nat×Bool)} (h:gB n ops L d g=true):Nat.blt d n=true:=by
 unfold gB at h; rw [dg] at h; exact h.2
def vF (n:Nat) (ops:Array Oper) (L:dA) (d:Nat) (g:Option (Nat×Bool)) (x:Operand):Option Value:=match gB n ops L d g with
 |true=>ev L x
 |false=>none
def bF (n:Nat) (ops:Array Oper) (L:dA) (d:Nat) (g:Option (Nat×Bool)) (x y:Operand):Option (Value×Value):=match gB n ops L d g with
 |true=>match ev L x,ev L y with
  |some u,some v=>some (u,v)
  |_,_=>none
 |false=>none
def pF (n:Nat) (ops:Array Oper) (L:dA) (d:Nat) (g:Option (Nat×Bool)) (c x y:Operand):Option Value:=match gB n ops L d g with
 |true=>match ev L c with
  |some (.bool true)=>ev L x
  |some (.bool false)=>ev L y
  |_=>none
 |false=>none
def xF (n:Nat) (ops:Array Oper) (L:dA) (d:Nat) (g:Option (Nat×Bool)) (x:Operand) (i:Nat):Option Value:=match vF n ops L d g x with
 |some (.tuple vs)=>vs.toList[i]?
 |_=>none
def uF (n:Nat) (ops:Array Oper) (L:dA) (d:Nat) (g:Option (Nat×Bool)) (xs ys:List Operand):Option (List Value×List Value):=match gB n ops L d g with
 |true=>match evs L xs,evs L ys with
  |some u,some v=>some (u,v)
  |_,_=>none
 |false=>none
def cF (n:Nat) (ops:Array Oper) (L:dA) (d:Nat) (g:Option (Nat×Bool)) (fop:Operand) (xs:List Operand):Option (FuncId×List Value):=match gB n ops L d g with
 |true=>match ev L fop,evs L xs with
  |some (.func (.func f) fi ca),some vs=>some (f,fi.toList++vs++ca.toList)
  |_,_=>none
 |false=>none
theorem jJ {n:Nat} {ops:Array Oper} {L:dA} {d:Nat} {g:Option (Nat×Bool)} {x:Operand} {v:Value} (h:vF n ops L d g x=some v):kj ops L g=true∧Nat.blt d n=true∧ev L x=some v:=by
 unfold vF at h
 split at h
 ·rename_i hb; exact ⟨M7 hb,Nm hb,h⟩
 ·cases h
theorem vl {n:Nat} {ops:Array Oper} {L:dA} {d:Nat} {g:Option (Nat×Bool)} {x y:Operand} {u v:Value} (h:bF n ops L d g x y=some (u,v)):kj ops L g=true∧Nat.blt d n=true∧ev L x=some u∧ev L y=some v:=by
 unfold bF at h
 split at h
 ·rename_i hb
  split at h
  ·rename_i hx hy; cases h; exact ⟨M7 hb,Nm hb,hx,hy⟩
  ·cases h
 ·cases h
theorem Ov {n:Nat} {ops:Array Oper} {L:dA} {d:Nat} {g:Option (Nat×Bool)} {x y:List Operand} {u v:List Value} (h:uF n ops L d g x y=some (u,v)):kj ops L g=true∧Nat.blt d n=true∧evs L x=some u∧evs L y=some v:=by
 unfold uF at h
 split at h
 ·rename_i hb
  split at h
  ·rename_i hx hy; cases h; exact ⟨M7 hb,Nm hb,hx,hy⟩
  ·cases h
 ·cases h
section
variable {E:e9} {ops:Array Oper} {Q:dq} {rest:List Oper} {D:List Deferred} {L:List (Nat×Value)} {C:List aw}
variable {d:Nat} {ty:TypeId} {ps:String} {af:Array Edge} {g:Option (Nat×Bool)}
theorem SX {o:Oper} {v:Value} (h:SD E ops o D L C v) (ho:o.dst=some d) (hd:Nat.blt d E.n=true):SE E ops o D L C v d:=⟨h,ho,hd⟩
theorem MV {x:Operand} {v:Value} (h:vF E.n ops L d g x=some v):SE E ops ⟨some d,.move x,ty,ps,af,g⟩ D L C v d:=by
 obtain ⟨A,B,F⟩:=jJ h; exact ⟨Ep A F,rfl,B⟩
theorem AG {x:Operand} {v:Value} (h:vF E.n ops L d g x=some v):SE E ops ⟨some d,.assign x,ty,ps,af,g⟩ D L C v d:=by
 obtain ⟨A,B,F⟩:=jJ h; exact ⟨yO A F,rfl,B⟩
theorem OX {op:Op} (h:(Cl ops L g&&Nat.blt d E.n)=true):SE E ops ⟨some d,op,ty,ps,af,g⟩ D L C undef d:=by
 rw [dg] at h; exact ⟨H2 h.1,rfl,h.2⟩
theorem NT {xt:TypeId} {x:Operand} {b:Bool} (h:vF E.n ops L d g x=some (.bool b)):SE E ops ⟨some d,.unOp .not xt x,ty,ps,af,g⟩ D L C (.bool !b) d:=by
 obtain ⟨A,B,F⟩:=jJ h; exact ⟨Jk A F,rfl,B⟩
theorem NG {xt:TypeId} {x:Operand} {n:Int} (h:vF E.n ops L d g x=some (.int .i64 n)) (hb:qW (-n)):SE E ops ⟨some d,.unOp .neg xt x,ty,ps,af,g⟩ D L C (.int .i64 (-n)) d:=by
 obtain ⟨A,B,F⟩:=jJ h; exact ⟨OS A F hb,rfl,B⟩
theorem PK {c x y:Operand} {v:Value} (h:pF E.n ops L d g c x y=some v):SE E ops ⟨some d,.pick c x y,ty,ps,af,g⟩ D L C v d:=by
 unfold pF at h
 split at h
 ·rename_i hb
  split at h
  ·rename_i hc; exact ⟨zj (M7 hb) hc h,rfl,Nm hb⟩
  ·rename_i hc; exact ⟨yP (M7 hb) hc h,rfl,Nm hb⟩
  ·cases h
 ·cases h
theorem EX {x:Operand} {i:Nat} {v:Value} (h:xF E.n ops L d g x i=some v):SE E ops ⟨some d,.extract x i,ty,ps,af,g⟩ D L C v d:=by
 unfold xF at h
 split at h
 ·rename_i vs hv
  obtain ⟨A,B,F⟩:=jJ hv
  exact ⟨xA (vs:=vs.toList) A (by simpa using F) h,U,B⟩
 ·cases h
theorem LN {x:Operand} {t e:TypeId} {A:OA} {n c:Nat} (h:vF E.n ops L d g x=some (.slice A n c)) (ht:E.P.underlying t=some (.slice e)):
 SE E ops ⟨some d,.call {callee:= .builtin .len,args:= #[x],argTypes:= #[t]},ty,ps,af,g⟩ D L C (.int .i64 n) d:=by
 obtain ⟨B,F,G⟩:=jJ h; exact ⟨JP B G ht,rfl,F⟩
theorem BI {op:BinOp} {xt yt:TypeId} {x y:Operand} {u v r:Value} (h:bF E.n ops L d g x y=some (u,v)) (hb:iX E.P op xt x y u v r):SE E ops ⟨some d,.binOp op xt x y yt,ty,ps,af,g⟩ D L C r d:=by
 obtain ⟨A,B,F,G⟩:=vl h; exact ⟨gn A F G hb,rfl,B⟩
theorem MN {x y:Operand} {ts:Array TypeId} {a b:Int} {k:IntKind} (h:bF E.n ops L d g x y=some (.int k a,.int k b)):
 SE E ops ⟨some d,.call {callee:= .builtin .min,args:= #[x,y],argTypes:=ts},ty,ps,af,g⟩ D L C (.int k (min a b)) d:=by
 obtain ⟨A,B,F,G⟩:=vl h; exact ⟨Nq A F G,rfl,B⟩
theorem MX {x y:Operand} {ts:Array TypeId} {a b:Int} {k:IntKind} (h:bF E.n ops L d g x y=some (.int k a,.int k b)):
 SE E ops ⟨some d,.call {callee:= .builtin .max,args:= #[x,y],argTypes:=ts},ty,ps,af,g⟩ D L C (.int k (max a b)) d:=by
 obtain ⟨A,B,F,G⟩:=vl h; exact ⟨OK A F G,rfl,B⟩
theorem FA (o':Nat) {x:Operand} {b o s f k:Nat} (h:vF E.n ops L d g x=some (.pointer (some ⟨b,o,none⟩))) (hf:wg E.P s f=some k) (ho:o+k=o'):
 SE E ops ⟨some d,.fieldAddr s x f,ty,ps,af,g⟩ D L C (.pointer (some ⟨b,o',none⟩)) d:=by
 obtain ⟨A,B,F⟩:=jJ h; exact ⟨MU A F hf ho,rfl,B⟩
theorem qA (k':Nat) {x:Operand} {A:OA} {n sz:Nat} {es:List (List Value)} {k0 s f k:Nat} (h:vF E.n ops L d g x=some (.pointer (q8 A k0))) (hR:js C (rd A n sz es).holds) (hn:0<n*sz)
 (hf:wg E.P s f=some k) (ho:k0+k=k'):SE E ops ⟨some d,.fieldAddr s x f,ty,ps,af,g⟩ D L C (.pointer (q8 A k')) d:=by
 obtain ⟨B,F,G⟩:=jJ h; exact ⟨Hs B G hR hn hf ho,rfl,F⟩
theorem IA (k:Nat) {x ix:Operand} {A:OA} {n c sz e t:Nat} {es:List (List Value)} {j:Int} (h:bF E.n ops L d g x ix=some (.slice A n c,.int .i64 j)) (hR:js C (rd A n sz es).holds)
 (ht:tE E.P t=some (e,sz)) (hz:0<sz) (hj:j=(k:Int)) (hk:k<n):SE E ops ⟨some d,.indexAddr t x ix,ty,ps,af,g⟩ D L C (.pointer (q8 A (k*sz))) d:=by
 obtain ⟨B,F,G,H⟩:=vl h; exact ⟨QZ B G H hR ht hz hj hk,rfl,F⟩
theorem Uw (k o':Nat) {x ix:Operand} {b o n c sz e t:Nat} {j:Int} (h:bF E.n ops L d g x ix=some (.slice (some ⟨b,o,none⟩) n c,.int .i64 j))
 (ht:tE E.P t=some (e,sz)) (hj:j=(k:Int)) (hk:k<n) (ho:o+k*sz=o'):SE E ops ⟨some d,.indexAddr t x ix,ty,ps,af,g⟩ D L C (.pointer (some ⟨b,o',none⟩)) d:=by
 obtain ⟨A,B,F,G⟩:=vl h; exact ⟨Mp A F G ht hj hk ho,rfl,B⟩
/-- the whole of a block, a part of it, one cell -/
theorem LW (i:Nat) {x:Operand} {b t tt n:Nat} {cs:List Value} (h:vF E.n ops L d g x=some (.pointer (some ⟨b,0,none⟩))) (ht:tK E.P t=some (true,n)) (hC:C[i]? =some (cw b tt cs)) (hn:cs.length=n):
 SE E ops ⟨some d,.load t x,ty,ps,af,g⟩ D L C (.agg cs.toArray) d:=by
 obtain ⟨A,B,F⟩:=jJ h; exact ⟨x_ A F ht (p8 i hC sm) hn,rfl,B⟩
theorem LP (vs:List Value) (i:Nat) {x:Operand} {b o t tt n:Nat} {cs:List Value} (h:vF E.n ops L d g x=some (.pointer (some ⟨b,o,none⟩))) (ht:tK E.P t=some (true,n)) (hC:C[i]? =some (cw b tt cs)) (hv:(cs.drop o).take vs.length=vs) (hn:vs.length=n):
 SE E ops ⟨some d,.load t x,ty,ps,af,g⟩ D L C (.agg vs.toArray) d:=by
 obtain ⟨A,B,F⟩:=jJ h; exact ⟨x_ A F ht (p8 i hC hv) hn,rfl,B⟩
theorem UB (vs:List Value) (i:Nat) {x:Operand} {b o t tt n:Nat} {cs:List Value} (h:vF E.n ops L d g x=some (.pointer (some ⟨b,o,none⟩))) (ht:tK E.P t=some (true,n)) (hC:C[i]? =some (cw b tt cs).ro) (hv:(cs.drop o).take vs.length=vs) (hn:vs.length=n):
 SE E ops ⟨some d,.load t x,ty,ps,af,g⟩ D L C (.agg vs.toArray) d:=by
 obtain ⟨A,B,F⟩:=jJ h; exact ⟨x_ A F ht (wj i hC hv) hn,rfl,B⟩
theorem L1 (v:Value) (i:Nat) {x:Operand} {b o t tt n:Nat} {cs:List Value} (h:vF E.n ops L d g x=some (.pointer (some ⟨b,o,none⟩))) (ht:tK E.P t=some (false,n)) (hC:C[i]? =some (cw b tt cs)) (hv:(cs.drop o).take 1=[v]):
 SE E ops ⟨some d,.load t x,ty,ps,af,g⟩ D L C v d:=by
 obtain ⟨A,B,F⟩:=jJ h; exact ⟨uO A F ht (p8 i hC hv),rfl,B⟩
theorem HI (v:Value) (i:Nat) {x:Operand} {b o t tt n:Nat} {cs:List Value} (h:vF E.n ops L d g x=some (.pointer (some ⟨b,o,none⟩))) (ht:tK E.P t=some (false,n)) (hC:C[i]? =some (cw b tt cs).ro) (hv:(cs.drop o).take 1=[v]):
 SE E ops ⟨some d,.load t x,ty,ps,af,g⟩ D L C v d:=by
 obtain ⟨A,B,F⟩:=jJ h; exact ⟨uO A F ht (wj i hC hv),rfl,B⟩
theorem CA (i:Nat) {x:Operand} {b t tt n:Nat} {v:Value} (h:vF E.n ops L d g x=some (.pointer (some ⟨b,0,none⟩))) (ht:tK E.P t=some (false,n)) (hC:C[i]? =some (cw b tt [v])):
 SE E ops ⟨some d,.load t x,ty,ps,af,g⟩ D L C v d:=by
 obtain ⟨A,B,F⟩:=jJ h; exact ⟨uO A F ht (p8 i hC rfl),rfl,B⟩
theorem Uo (i:Nat) {x:Operand} {b t tt n:Nat} {v:Value} (h:vF E.n ops L d g x=some (.pointer (some ⟨b,0,none⟩))) (ht:tK E.P t=some (false,n)) (hC:C[i]? =some (cw b tt [v]).ro):
 SE E ops ⟨some d,.load t x,ty,ps,af,g⟩ D L C v d:=by
 obtain ⟨A,B,F⟩:=jJ h; exact ⟨uO A F ht (wj i hC rfl),rfl,B⟩
/-- what is read of a row -/
theorem iK (k o:Nat) (v:Value) {x:Operand} {A:OA} {t m n sz:Nat} {es:List (List Value)} {e:List Value} (h:vF E.n ops L d g x=some (.pointer (q8 A m))) {nn:Nat} (ht:tK E.P t=some (false,nn)) (hR:js C (rd A n sz es).holds) (he:es[k]? =some e) (hm:m=k*sz+o) (hz:0<sz) (hv:(e.drop o).take 1=[v]):
 SE E ops ⟨some d,.load t x,ty,ps,af,g⟩ D L C v d:=by
 obtain ⟨B,F,G⟩:=jJ h; exact ⟨uO B G ht (MY hR he hm hz hv),rfl,F⟩
theorem lQ (k o:Nat) (vs:List Value) {x:Operand} {A:OA} {t m n sz:Nat} {es:List (List Value)} {e:List Value} (h:vF E.n ops L d g x=some (.pointer (q8 A m))) {nn:Nat} (ht:tK E.P t=some (true,nn)) (hR:js C (rd A n sz es).holds) (he:es[k]? =some e) (hm:m=k*sz+o) (hz:0<sz) (hv:(e.drop o).take vs.length=vs) (hn:vs.length=nn):
 SE E ops ⟨some d,.load t x,ty,ps,af,g⟩ D L C (.agg vs.toArray) d:=by
 obtain ⟨B,F,G⟩:=jJ h; exact ⟨x_ B G ht (MY hR he hm hz hv) hn,rfl,F⟩
theorem CL {fop:Operand} {xs:Array Operand} {ts:Array TypeId} {f:FuncId} {args:List Value} {Cp:List aw} {v:Value} (c:dH E.P f args Cp v) (hC:kF C Cp) (h:cF E.n ops L d g fop xs.toList=some (f,args)):
 SE E ops ⟨some d,.call {callee:= .value fop,args:=xs,argTypes:=ts},ty,ps,af,g⟩ D L C v d:=by
 unfold cF at h
 split at h
 ·rename_i hb
  split at h
  ·rename_i hf hx; cases h; exact ⟨EH (M7 hb) hf hx rfl c hC,rfl,Nm hb⟩
  ·cases h
 ·cases h
theorem FU {fn:Fn} {xs ys:Array Operand} {us vs:List Value} (h:uF E.n ops L d g xs.toList ys.toList=some (us,vs)):SE E ops ⟨some d,.makeFunc fn xs ys,ty,ps,af,g⟩ D L C (.func fn us.toArray vs.toArray) d:=by
 obtain ⟨A,B,F,G⟩:=Ov h; exact ⟨KS A F G,rfl,B⟩
theorem cX {fop:Operand} {xs:Array Operand} {ts:Array TypeId} {f:FuncId} {args:List Value} {Cp:List aw} {α:Type} {V:α→Value} {p:α→Prop} {N:α→List aw} (c:rU E.P f args Cp V p N) (hC:kF C Cp)
 (h:cF E.n ops L d g fop xs.toList=some (f,args)) (k: ∀ x,p x→RJ E ops Q rest D ((d,V x)::L) (N x++C)):
 RJ E ops Q (⟨some d,.call {callee:= .value fop,args:=xs,argTypes:=ts},ty,ps,af,g⟩::rest) D L C:=by
 unfold cF at h
 split at h
 ·rename_i hb
  split at h
  ·rename_i hf hx; cases h; exact N8 (M7 hb) hf hx rfl c hC (Nm hb) k
  ·cases h
 ·cases h
/-- a box of a struct, of one cell -/
theorem eK {t:TypeId} {x:Operand} {cs:List Value} (h:vF E.n ops L d g x=some (.agg cs.toArray)) (k: ∀ b,RJ E ops Q rest D ((d,.pointer (some ⟨b,0,none⟩))::L) (cw b t cs::C)):
 RJ E ops Q (⟨some d,.box t x,ty,ps,af,g⟩::rest) D L C:=by
 obtain ⟨A,B,F⟩:=jJ h; exact No A F rfl B k
theorem wu {t:TypeId} {x:Operand} {v:Value} (h:vF E.n ops L d g x=some v) (hv:v.cells.toList=[v]) (k: ∀ b,RJ E ops Q rest D ((d,.pointer (some ⟨b,0,none⟩))::L) (cw b t [v]::C)):
 RJ E ops Q (⟨some d,.box t x,ty,ps,af,g⟩::rest) D L C:=by
 obtain ⟨A,B,F⟩:=jJ h; exact No A F hv B k
theorem AL {t:TypeId} {cs:List Value} (h:gB E.n ops L d g=true) (hz:tZ E.P t=some cs) (k: ∀ b,RJ E ops Q rest D ((d,.pointer (some ⟨b,0,none⟩))::L) (cw b t cs::C)):
 RJ E ops Q (⟨some d,.alloc t,ty,ps,af,g⟩::rest) D L C:=Mt (M7 h) hz (Nm h) k
/-- a store into the block at the place i of the state -/
def sF (ops:Array Oper) (L:dA) (g:Option (Nat×Bool)) (x y:Operand):Option (Value×Value):=match kj ops L g with
 |true=>match ev L x,ev L y with
  |some u,some v=>some (u,v)
  |_,_=>none
 |false=>none
theorem Db {ops:Array Oper} {L:dA} {g:Option (Nat×Bool)} {x y:Operand} {u v:Value} (h:sF ops L g x y=some (u,v)):kj ops L g=true∧ev L x=some u∧ev L y=some v:=by
 unfold sF at h
 split at h
 ·rename_i hb
  split at h
  ·rename_i hx hy; cases h; exact ⟨hb,hx,hy⟩
  ·cases h
 ·cases h
theorem PG {t n b o tt:Nat} {x y:Operand} {v:Value} {cs cs':List Value} {C':List aw} (i:Nat) (h:sF ops L g x y=some (.pointer (some ⟨b,o,none⟩),v)) (ht:(tK E.P t).map (·.2)=some n) (hC:C[i]? =some (cw b tt cs))
 (hk:(v.cells.toList.length==n&&v.cells.toList.all Value.oneCell'&&Nat.ble (o+n) cs.length)=true) (hcs:cs.take o++v.cells.toList++cs.drop (o+n)=cs') (hC':C.set i (cw b tt cs')=C') (k:RJ E ops Q rest D L C'):
 RJ E ops Q (⟨none,.store t x y,ty,ps,af,g⟩::rest) D L C:=by
 obtain ⟨A,B,F⟩:=Db h
 simp only [dg,beq_iff_eq] at hk
 exact iD i A B F ht U hk.1.1 hk.1.2 hC hk.2 hcs hC' k
/-- a store of a whole block, by a struct, by one cell -/
theorem OD {t n b tt:Nat} {x y:Operand} {cs cs':List Value} {C':List aw} (i:Nat) (h:sF ops L g x y=some (.pointer (some ⟨b,0,none⟩),.agg cs'.toArray)) (ht:(tK E.P t).map (·.2)=some n) (hC:C[i]? =some (cw b tt cs))
 (hk:(Nat.beq cs'.length n&&cs'.all Value.oneCell'&&Nat.beq n cs.length)=true) (hC':C.set i (cw b tt cs')=C') (k:RJ E ops Q rest D L C'):
 RJ E ops Q (⟨none,.store t x y,ty,ps,af,g⟩::rest) D L C:=by
 obtain ⟨AA,J,K⟩:=Db h
 simp only [dg] at hk
 obtain ⟨⟨A,B⟩,F⟩:=hk
 have H:=Nat.eq_of_beq_eq_true A
 have G:=Nat.eq_of_beq_eq_true F
 exact iD i AA J K ht U H B hC (by rw [Nat.zero_add,G]; exact Nat.ble_self_eq_true _) (by rw [Nat.zero_add,G,List.take_zero,List.drop_length]; show []++cs'++[]=cs'; simp) hC' k
theorem Sg {t n b tt:Nat} {x y:Operand} {v u:Value} {C':List aw} (i:Nat) (h:sF ops L g x y=some (.pointer (some ⟨b,0,none⟩),v)) (ht:(tK E.P t).map (·.2)=some n) (hC:C[i]? =some (cw b tt [u]))
 (hv:v.cells.toList=[v]) (hk:(Nat.beq n 1&&v.oneCell')=true) (hC':C.set i (cw b tt [v])=C') (k:RJ E ops Q rest D L C'):
 RJ E ops Q (⟨none,.store t x y,ty,ps,af,g⟩::rest) D L C:=by
 obtain ⟨G,H,AA⟩:=Db h
 rw [dg] at hk
 obtain ⟨A,B⟩:=hk
 have F:=Nat.eq_of_beq_eq_true A
 subst F
 exact iD i G H AA ht hv U (by simp [B]) hC U U hC' k
theorem fK {t n b tt:Nat} {x y:Operand} {cs cs':List Value} (h:sF ops L g x y=some (.pointer (some ⟨b,0,none⟩),.agg cs'.toArray)) (ht:(tK E.P t).map (·.2)=some n) (hk:(Nat.beq cs'.length n&&cs'.all Value.oneCell'&&Nat.beq n cs.length)=true) (k:RJ E ops Q rest D L (cw b tt cs'::C)):RJ E ops Q (⟨none,.store t x y,ty,ps,af,g⟩::rest) D L (cw b tt cs::C):=OD 0 h ht rfl hk rfl k
theorem KD {t n b tt:Nat} {x y:Operand} {v u:Value} (h:sF ops L g x y=some (.pointer (some ⟨b,0,none⟩),v)) (ht:(tK E.P t).map (·.2)=some n) (hv:v.cells.toList=[v]) (hk:(Nat.beq n 1&&v.oneCell')=true) (k:RJ E ops Q rest D L (cw b tt [v]::C)):RJ E ops Q (⟨none,.store t x y,ty,ps,af,g⟩::rest) D L (cw b tt [u]::C):=Sg 0 h ht rfl hv hk rfl k
theorem sr {t n b tt:Nat} {x y:Operand} {cs cs':List Value} {A0:aw} (h:sF ops L g x y=some (.pointer (some ⟨b,0,none⟩),.agg cs'.toArray)) (ht:(tK E.P t).map (·.2)=some n) (hk:(Nat.beq cs'.length n&&cs'.all Value.oneCell'&&Nat.beq n cs.length)=true) (k:RJ E ops Q rest D L (A0::cw b tt cs'::C)):RJ E ops Q (⟨none,.store t x y,ty,ps,af,g⟩::rest) D L (A0::cw b tt cs::C):=OD 1 h ht rfl hk rfl k
theorem Uv (cs':List Value) {t n b o tt:Nat} {x y:Operand} {v:Value} {cs:List Value} {A0:aw} (h:sF ops L g x y=some (.pointer (some ⟨b,o,none⟩),v)) (ht:(tK E.P t).map (·.2)=some n) (hk:(v.cells.toList.length==n&&v.cells.toList.all Value.oneCell'&&Nat.ble (o+n) cs.length)=true) (hcs:cs.take o++v.cells.toList++cs.drop (o+n)=cs') (k:RJ E ops Q rest D L (A0::cw b tt cs'::C)):RJ E ops Q (⟨none,.store t x y,ty,ps,af,g⟩::rest) D L (A0::cw b tt cs::C):=PG 1 h ht rfl hk hcs rfl k
theorem G3 {t n b tt:Nat} {x y:Operand} {cs cs':List Value} {A0 A1:aw} (h:sF ops L g x y=some (.pointer (some ⟨b,0,none⟩),.agg cs'.toArray)) (ht:(tK E.P t).map (·.2)=some n) (hk:(Nat.beq cs'.length n&&cs'.all Value.oneCell'&&Nat.beq n cs.length)=true) (k:RJ E ops Q rest D L (A0::A1::cw b tt cs'::C)):RJ E ops Q (⟨none,.store t x y,ty,ps,af,g⟩::rest) D L (A0::A1::cw b tt cs::C):=OD 2 h ht rfl hk rfl k
theorem Uz (cs':List Value) {t n b o tt:Nat} {x y:Operand} {v:Value} {cs:List Value} {A0 A1:aw} (h:sF ops L g x y=some (.pointer (some ⟨b,o,none⟩),v)) (ht:(tK E.P t).map (·.2)=some n) (hk:(v.cells.toList.length==n&&v.cells.toList.all Value.oneCell'&&Nat.ble (o+n) cs.length)=true) (hcs:cs.take o++v.cells.toList++cs.drop (o+n)=cs') (k:RJ E ops Q rest D L (A0::A1::cw b tt cs'::C)):RJ E ops Q (⟨none,.store t x y,ty,ps,af,g⟩::rest) D L (A0::A1::cw b tt cs::C):=PG 2 h ht rfl hk hcs rfl k
theorem Sh {t n b tt:Nat} {x y:Operand} {cs cs':List Value} {A0 A1 A2:aw} (h:sF ops L g x y=some (.pointer (some ⟨b,0,none⟩),.agg cs'.toArray)) (ht:(tK E.P t).map (·.2)=some n) (hk:(Nat.beq cs'.length n&&cs'.all Value.oneCell'&&Nat.beq n cs.length)=true) (k:RJ E ops Q rest D L (A0::A1::A2::cw b tt cs'::C)):RJ E ops Q (⟨none,.store t x y,ty,ps,af,g⟩::rest) D L (A0::A1::A2::cw b tt cs::C):=OD 3 h ht rfl hk rfl k
theorem Uy {t n b tt:Nat} {x y:Operand} {v u:Value} {A0 A1 A2:aw} (h:sF ops L g x y=some (.pointer (some ⟨b,0,none⟩),v)) (ht:(tK E.P t).map (·.2)=some n) (hv:v.cells.toList=[v]) (hk:(Nat.beq n 1&&v.oneCell')=true) (k:RJ E ops Q rest D L (A0::A1::A2::cw b tt [v]::C)):RJ E ops Q (⟨none,.store t x y,ty,ps,af,g⟩::rest) D L (A0::A1::A2::cw b tt [u]::C):=Sg 3 h ht rfl hv hk rfl k
theorem QL (cs':List Value) {t n b o tt:Nat} {x y:Operand} {v:Value} {cs:List Value} {A0 A1 A2:aw} (h:sF ops L g x y=some (.pointer (some ⟨b,o,none⟩),v)) (ht:(tK E.P t).map (·.2)=some n) (hk:(v.cells.toList.length==n&&v.cells.toList.all Value.oneCell'&&Nat.ble (o+n) cs.length)=true) (hcs:cs.take o++v.cells.toList++cs.drop (o+n)=cs') (k:RJ E ops Q rest D L (A0::A1::A2::cw b tt cs'::C)):RJ E ops Q (⟨none,.store t x y,ty,ps,af,g⟩::rest) D L (A0::A1::A2::cw b tt cs::C):=PG 3 h ht rfl hk hcs rfl k
theorem PH {t n b tt:Nat} {x y:Operand} {cs cs':List Value} {A0 A1 A2 A3:aw} (h:sF ops L g x y=some (.pointer (some ⟨b,0,none⟩),.agg cs'.toArray)) (ht:(tK E.P t).map (·.2)=some n) (hk:(Nat.beq cs'.length n&&cs'.all Value.oneCell'&&Nat.beq n cs.length)=true) (k:RJ E ops Q rest D L (A0::A1::A2::A3::cw b tt cs'::C)):RJ E ops Q (⟨none,.store t x y,ty,ps,af,g⟩::rest) D L (A0::A1::A2::A3::cw b tt cs::C):=OD 4 h ht rfl hk rfl k
theorem Ur {t n b tt:Nat} {x y:Operand} {v u:Value} {A0 A1 A2 A3:aw} (h:sF ops L g x y=some (.pointer (some ⟨b,0,none⟩),v)) (ht:(tK E.P t).map (·.2)=some n) (hv:v.cells.toList=[v]) (hk:(Nat.beq n 1&&v.oneCell')=true) (k:RJ E ops Q rest D L (A0::A1::A2::A3::cw b tt [v]::C)):RJ E ops Q (⟨none,.store t x y,ty,ps,af,g⟩::rest) D L (A0::A1::A2::A3::cw b tt [u]::C):=Sg 4 h ht rfl hv hk rfl k
theorem HQ {t n b tt:Nat} {x y:Operand} {cs cs':List Value} {A0 A1 A2 A3 A4:aw} (h:sF ops L g x y=some (.pointer (some ⟨b,0,none⟩),.agg cs'.toArray)) (ht:(tK E.P t).map (·.2)=some n) (hk:(Nat.beq cs'.length n&&cs'.all Value.oneCell'&&Nat.beq n cs.length)=true) (k:RJ E ops Q rest D L (A0::A1::A2::A3::A4::cw b tt cs'::C)):RJ E ops Q (⟨none,.store t x y,ty,ps,af,g⟩::rest) D L (A0::A1::A2::A3::A4::cw b tt cs::C):=OD 5 h ht rfl hk rfl k
theorem Sc {t n b tt:Nat} {x y:Operand} {cs cs':List Value} {A0 A1 A2 A3 A4 A5:aw} (h:sF ops L g x y=some (.pointer (some ⟨b,0,none⟩),.agg cs'.toArray)) (ht:(tK E.P t).map (·.2)=some n) (hk:(Nat.beq cs'.length n&&cs'.all Value.oneCell'&&Nat.beq n cs.length)=true) (k:RJ E ops Q rest D L (A0::A1::A2::A3::A4::A5::cw b tt cs'::C)):RJ E ops Q (⟨none,.store t x y,ty,ps,af,g⟩::rest) D L (A0::A1::A2::A3::A4::A5::cw b tt cs::C):=OD 6 h ht rfl hk rfl k
theorem Ut {t n b tt:Nat} {x y:Operand} {v u:Value} {A0 A1 A2 A3 A4 A5:aw} (h:sF ops L g x y=some (.pointer (some ⟨b,0,none⟩),v)) (ht:(tK E.P t).map (·.2)=some n) (hv:v.cells.toList=[v]) (hk:(Nat.beq n 1&&v.oneCell')=true) (k:RJ E ops Q rest D L (A0::A1::A2::A3::A4::A5::cw b tt [v]::C)):RJ E ops Q (⟨none,.store t x y,ty,ps,af,g⟩::rest) D L (A0::A1::A2::A3::A4::A5::cw b tt [u]::C):=Sg 6 h ht rfl hv hk rfl k
theorem Ts (cs':List Value) {t n b o tt:Nat} {x y:Operand} {v:Value} {cs:List Value} {A0 A1 A2 A3 A4 A5 A6 A7 A8 A9:aw} (h:sF ops L g x y=some (.pointer (some ⟨b,o,none⟩),v)) (ht:(tK E.P t).map (·.2)=some n) (hk:(v.cells.toList.length==n&&v.cells.toList.all Value.oneCell'&&Nat.ble (o+n) cs.length)=true) (hcs:cs.take o++v.cells.toList++cs.drop (o+n)=cs') (k:RJ E ops Q rest D L (A0::A1::A2::A3::A4::A5::A6::A7::A8::A9::cw b tt cs'::C)):RJ E ops Q (⟨none,.store t x y,ty,ps,af,g⟩::rest) D L (A0::A1::A2::A3::A4::A5::A6::A7::A8::A9::cw b tt cs::C):=PG 10 h ht rfl hk hcs rfl k
theorem TY (cs':List Value) {t n b o tt:Nat} {x y:Operand} {v:Value} {cs:List Value} {A0 A1 A2 A3 A4 A5 A6 A7 A8 A9 A10:aw} (h:sF ops L g x y=some (.pointer (some ⟨b,o,none⟩),v)) (ht:(tK E.P t).map (·.2)=some n) (hk:(v.cells.toList.length==n&&v.cells.toList.all Value.oneCell'&&Nat.ble (o+n) cs.length)=true) (hcs:cs.take o++v.cells.toList++cs.drop (o+n)=cs') (k:RJ E ops Q rest D L (A0::A1::A2::A3::A4::A5::A6::A7::A8::A9::A10::cw b tt cs'::C)):RJ E ops Q (⟨none,.store t x y,ty,ps,af,g⟩::rest) D L (A0::A1::A2::A3::A4::A5::A6::A7::A8::A9::A10::cw b tt cs::C):=PG 11 h ht rfl hk hcs rfl k
end
section
variable {E:e9} {y:Code} {Q:dq} {D:List Deferred} {L:List (Nat×Value)} {C:List aw}
theorem WS {id:Nat} {ops:Array Oper} (h: ∀ K:Act→World→Prop,(∀ D L C,WJ E y Q D L C→KJ E K D L C)→RJ E ops (Exit.then K Q) ops.toList D L C):WJ E (.seq (.region id ops false) y) Q D L C:=ao fun K hK=>av (h K hK)
theorem RK {ops:Array Oper} {K:Act→World→Prop} {Q':dq} (hK: ∀ D L C,WJ E y Q D L C→KJ E K D L C) (k:WJ E y Q D L C):RJ E ops (Exit.then K Q') [] D L C:=aH (bp (hK _ _ _ k))
theorem KK {K:Act→World→Prop} {Q':dq} (hK: ∀ D L C,WJ E y Q D L C→KJ E K D L C) (k:WJ E y Q D L C):KJ E (Exit.then K Q' .normal) D L C:=bp (hK _ _ _ k)
theorem WK {K:Act→World→Prop} {Q':dq} (hK: ∀ D L C,WJ E y Q D L C→KJ E K D L C) (k:WJ E y Q D L C):WJ E .skip (Exit.then K Q') D L C:=ct (bp (hK _ _ _ k))
end
theorem DT {p:Prop} [Decidable p] (h:decide p=true):p:=of_decide_eq_true h
theorem DF {p:Prop} [Decidable p] (h:decide p=false): ¬ p:=of_decide_eq_false h
theorem XT {p:Prop} [Decidable p] (h:(!decide p)=true): ¬ p:=by simpa using h
theorem XF {p:Prop} [Decidable p] (h:(!decide p)=false):p:=by simpa using h
/-- what a function hands back: one result, two, three, that lie in slots -/
theorem Q1 {E:e9} {fn:Func} {K:Act→World→Prop} {L:dA} {C:List aw} {t:Nat} {u v:Value} (hQ: ∀ D L C,LJ E fn (Aj E.w0 v) D L C→KJ E K D L C) (hS:E.S=td) (hr:fn.results.toList=[.tmp t]) (hl:L.lookup t=some u) (e:u=v):KJ E K [] L C:=
 hQ _ _ _ (jZ (vs:=[u]) (by rw [hr]; exact ⟨hl,trivial⟩) fun w hs=>AE e (by rw [hS] at hs; exact hs))
theorem Q2 {E:e9} {fn:Func} {K:Act→World→Prop} {L:dA} {C:List aw} {t s:Nat} {u x v:Value} (hQ: ∀ D L C,LJ E fn (Aj E.w0 v) D L C→KJ E K D L C) (hS:E.S=td) (hr:fn.results.toList=[.tmp t,.tmp s]) (hl:L.lookup t=some u) (hm:L.lookup s=some x) (e:vT [u,x]=v):KJ E K [] L C:=
 hQ _ _ _ (jZ (vs:=[u,x]) (by rw [hr]; exact ⟨hl,hm,trivial⟩) fun w hs=>AE e (by rw [hS] at hs; exact hs))
theorem Q3 {E:e9} {fn:Func} {K:Act→World→Prop} {L:dA} {C:List aw} {t s r:Nat} {u x y v:Value} (hQ: ∀ D L C,LJ E fn (Aj E.w0 v) D L C→KJ E K D L C) (hS:E.S=td) (hr:fn.results.toList=[.tmp t,.tmp s,.tmp r]) (hl:L.lookup t=some u) (hm:L.lookup s=some x) (hn:L.lookup r=some y) (e:vT [u,x,y]=v):KJ E K [] L C:=
 hQ _ _ _ (jZ (vs:=[u,x,y]) (by rw [hr]; exact ⟨hl,hm,hn,trivial⟩) fun w hs=>AE e (by rw [hS] at hs; exact hs))
theorem N1 {E:e9} {ops:Array Oper} {D:ig} {C' C1:List aw} {F:dA→List aw→Prop} {tb rem:List Nat} {n:Nat} {L:dA} {C:List aw} (i:Nat)
 (h:B2 E ops D C' C1 F tb n (rem.filter (· != i)) i L C) (hm:rem.filter (fun i=>rem.all fun j=> !iY (qz ops) j i)=[i]:=by kernel_rfl):TN E ops D C' C1 F tb (n+1) rem L C:=mS [i] hm (iO h qm)
theorem NO {E:e9} {ops:Array Oper} {D:ig} {C' C1:List aw} {F:dA→List aw→Prop} {tb rem:List Nat} {n i:Nat} {L:dA} {C:List aw} {o:Oper} (ho:ops[i]? =some o) (ht:tb.contains i=false) (rem':List Nat)
 (h: ∀ K:Act→World→Prop,(∀ L' C'',(∀ w,St E.S E.w0 C'' w→St E.S E.w0 C' w)→TN E ops D C' C1 F tb n rem' L' C''→KJ E K D L' C'')→RJ E ops (NQ K) [o] D L C) (hr:rem=rem':=by kernel_rfl):B2 E ops D C' C1 F tb n rem i L C:=S5 ho hr ht h
theorem RD {E:e9} {ops:Array Oper} {K:Act→World→Prop} {D:ig} {L:dA} {C C':List aw} {X:dA→List aw→Prop} (hT: ∀ L' C'',(∀ w,St E.S E.w0 C'' w→St E.S E.w0 C' w)→X L' C''→KJ E K D L' C'')
 (k:Nat) (h2:C.drop k=C') (h:X L C):RJ E ops (NQ K) [] D L C:=aH (hT _ _ (fun w hs=>h2▸hs.take (List.drop_sublist k C)) h)
theorem bE {L L':dA} (h:L'.map (fun p=>L.lookup p.1)=L'.map (fun p=>some p.2)):dG L L':=by
 induction L' with
 |nil=>exact dG.nil _
 |cons p t ih=>
  simp only [List.map_cons,List.cons.injEq] at h
  exact dG.cons h.1 (ih h.2)
theorem On {C:List aw} {A A' B B' D D':aw} (i j k:Nat) (h1:C[i]? =some A') (e1:A'.holds=A.holds) (h2:C[j]? =some B') (e2:B'.holds=B.holds) (h3:C[k]? =some D') (e3:D'.holds=D.holds):kF C [A,B,D]:=g_ i h1 e1 (g_ j h2 e2 (g_ k h3 e3 aK))
theorem bV {E:e9} {c:Operand} {x y:Code} {b:Bool} {Q:dq} {D:List Deferred} {L:List (Nat×Value)} {C:List aw} (hc:ev L c=some (.bool b)) (h2:b=false→WJ E y Q D L C) (h1:b=true→WJ E x Q D L C):WJ E (.cond c x y) Q D L C:=cH hc h1 h2
theorem cM {E:e9} {ops:Array Oper} {Q:dq} {rest:List Oper} {D:List Deferred} {L:List (Nat×Value)} {C:List aw} {t:Nat} {b:Bool} (h:L.lookup t=some (.bool b)) (h2:b=false→RJ E ops Q rest D ((t,.bool false)::L) C) (h1:b=true→RJ E ops Q rest D ((t,.bool true)::L) C):RJ E ops Q rest D L C:=cg h h1 h2
theorem jM {E:e9} {ops:Array Oper} {Q:dq} {rest:List Oper} {D:List Deferred} {L:List (Nat×Value)} {C:List aw} {t:Nat} {b:Bool} {os:List Oper} (h:L.lookup t=some (.bool b)) (h2:b=false→DJ E ops D C (fun L2=>RJ E ops Q rest D L2 C) os ((t,.bool false)::L)) (h1:b=true→DJ E ops D C (fun L2=>RJ E ops Q rest D L2 C) os ((t,.bool true)::L)):DJ E ops D C (fun L2=>RJ E ops Q rest D L2 C) os L:=ia h h1 h2
theorem cY {L:List (Nat×Value)}: ∀ (k:Nat) {L2:List (Nat×Value)} (q:dG L (L2.drop k)) (h:(L2.take k).map (fun p=>L.lookup p.1)=(L2.take k).map (fun p=>some p.2):=by rfl),dG L L2
 |0,_,q,_=>q
 |_+1,[],_,_=>dG.nil _
 |k+1,p::L2,q,h=>by
  obtain ⟨A,B⟩:=List.cons.inj (show L.lookup p.1::(L2.take k).map (fun p=>L.lookup p.1)=some p.2::(L2.take k).map (fun p=>some p.2) from h)
  exact dG.cons (t:=p.1) (v:=p.2) A (cY k q B)
theorem oX {E:e9} {ops:Array Oper} {Q:dq} {rest:List Oper} {D:List Deferred} {L:List (Nat×Value)} {C:List aw} {d:Nat} {ty:TypeId} {ps:String} {af:Array Edge} {g:Option (Nat×Bool)} {op:Op} (k:RJ E ops Q rest D ((d,undef)::L) C) (h:(Cl ops L g&&Nat.blt d E.n)=true:=by rfl):RJ E ops Q (⟨some d,op,ty,ps,af,g⟩::rest) D L C:=rS (OX h) k
theorem dX {E:e9} {ops:Array Oper} {F:List (Nat×Value)→Prop} {rest:List Oper} {D:List Deferred} {L:List (Nat×Value)} {C:List aw} {d:Nat} {ty:TypeId} {ps:String} {af:Array Edge} {g:Option (Nat×Bool)} {op:Op} (k:DJ E ops D C F rest ((d,undef)::L)) (h:(Cl ops L g&&Nat.blt d E.n)=true:=by rfl):DJ E ops D C F (⟨some d,op,ty,ps,af,g⟩::rest) L:=dS (OX h) k
end
section
open Go.RowKit
section
variable {E:e9} {ops:Array Oper} {Q:dq} {rest:List Oper} {D:List Deferred} {L:List (Nat×Value)} {C:List aw}
variable {d:Nat} {ty:TypeId} {ps:String} {af:Array Edge} {g:Option (Nat×Bool)}
theorem Lw {P:Program} {t e sz:Nat} (h:tE P t=some (e,sz)) (w:World):P.underlying t=some (.slice e)∧(sizeOf e).run P w= .ok sz w:=by
 unfold tE at h
 split at h
 ·rename_i e' hu
  split at h
  ·rename_i i hi
   cases h
   exact ⟨hu,by simp [sizeOf,typeInfo,hi]⟩
  ·cases h
 ·cases h
theorem Eh {P:Program} {t e:Nat} (h:P.underlying t=some (.slice e)):P.underlying t=some (.slice (P.elem t)):=by
 rw [h]; simp [Program.elem,h]
theorem LV {P:Program} {t e:Nat} (h:P.underlying t=some (.slice e)):P.elem t=e:=by simp [Program.elem,h]
/-- s[:k] -/
theorem Ux (k:Nat) {x hi:Operand} {t e sz n c:Nat} {A:OA} {j:Int} (h:bF E.n ops L d g x hi=some (.slice A n c,.int .i64 j)) (ht:tE E.P t=some (e,sz)) (hj:j=(k:Int)) (hk:k≤c):
 SE E ops ⟨some d,.slice t x none (some hi) none,ty,ps,af,g⟩ D L C (.slice A k c) d:=by
 obtain ⟨H,AA,J,K⟩:=vl h
 subst hj
 refine ⟨eN H sm fun a w B hs=>?_,U,AA⟩
 obtain ⟨hu,hz⟩:=Lw ht w
 have hr:=run_slice_h (P:=E.P) w t A n c (Eh hu) .i64 (k:Int) I I
 rw [LV hu,hz] at hr
 have G:(if c=0 then A else A.map (·.add (0*sz)))=A:=by
  split
  ·rfl
  ·cases A with
   |none=>rfl
   |some ad=>simp [Addr.add]
 simp only [Result.andThen,Int.toNat_natCast,sliced,G,Nat.sub_zero] at hr
 have F:=run_sliceAt_slice (P:=E.P) w t (.slice A n c) none (some (.int .i64 (k:Int))) none (Eh hu)
 simp [execOp,B.ev J,B.ev K,F,hr]
end
end
section
open Go.RowKit
/-- an array's length, its elements' type and their size -/
def aE (P:Program) (t:TypeId):Option (Nat×TypeId×Nat):=
 match P.underlying t with
 |some (.array n e)=>match P.info? e with
  |some i=>some (n,e,i.size)
  |none=>none
 |_=>none
theorem D2 {P:Program} {t n e sz:Nat} (h:aE P t=some (n,e,sz)) (w:World):P.underlying t=some (.array n e)∧(sizeOf e).run P w= .ok sz w:=by
 unfold aE at h
 split at h
 ·rename_i n' e' hu
  split at h
  ·rename_i i hi
   cases h
   exact ⟨hu,by simp [sizeOf,typeInfo,hi]⟩
  ·cases h
 ·cases h
theorem vZ {P:Program} {t n e sz:Nat} (h:aE P t=some (n,e,sz)) (a:Addr) (w:World):
 (Instr.sliceAt t (.pointer (some a)) none none none).run P w= .ok (.slice (some a) n n) w:=by
 obtain ⟨hu,hz⟩:=D2 h w
 have A:a.add 0=a:=by simp [Addr.add]
 simp [Instr.sliceAt,underlying,hu,Instr.sureAddr,Instr.sliceBounds,hz,A]
theorem v7 {P:Program} {t n e sz:Nat} (h:aE P t=some (n,e,sz)) (a:Addr) {k:Nat} (hk:k<n) (w:World):
 (Instr.indexAt t (.pointer (some a)) (.int .i64 (k:Int))).run P w= .ok (.pointer (some (a.add (k*sz)))) w:=by
 obtain ⟨hu,hz⟩:=D2 h w
 have A: ¬ n≤k:=by omega
 simp [Instr.indexAt,underlying,hu,Instr.sureAddr,asIntOf,hz,A]
 try exact fun h=>absurd h A
 try omega
section
variable {E:e9} {ops:Array Oper} {Q:dq} {rest:List Oper} {D:List Deferred} {L:List (Nat×Value)} {C:List aw}
variable {dst:Option Nat} {ty:TypeId} {ps:String} {af:Array Edge} {g:Option (Nat×Bool)}
theorem Dt {x:Operand} {a:Addr} {t n e sz:Nat} (hg:kj ops L g=true) (hx:ev L x=some (.pointer (some a))) (ht:aE E.P t=some (n,e,sz)):
 SD E ops ⟨dst,.slice t x none none none,ty,ps,af,g⟩ D L C (.slice (some a) n n):=
 eN hg sm fun b w A hs=>by
  simp [execOp,A.ev hx,vZ ht]
theorem Dy {x ix:Operand} {a:Addr} {t n e sz k:Nat} {j:Int} (hg:kj ops L g=true) (hx:ev L x=some (.pointer (some a))) (hi:ev L ix=some (.int .i64 j)) (ht:aE E.P t=some (n,e,sz)) (hj:j=(k:Int)) (hk:k<n):
 SD E ops ⟨dst,.indexAddr t x ix,ty,ps,af,g⟩ D L C (.pointer (q8 (some a) (k*sz))):=
 eN hg sm fun b w A hs=>by
  subst hj
  simp [execOp,A.ev hx,A.ev hi,q8,v7 ht a hk]
end
end
section
open Go.RowKit
/-- a table of facts on the program's types -/
structure Cu where
 tk:List (Nat×Bool×Nat)
 fo:List (Nat×List (Option Nat))
 sl:List Nat
def Py {α:Type}:List (Nat×α)→Nat→Option α
 |[],_=>none
 |(k,v)::l,t=>match Nat.beq k t with
  |true=>some v
  |false=>Py l t
theorem zu {α:Type}: ∀ {l:List (Nat×α)} {t:Nat} {v:α},Py l t=some v→(t,v)∈l
 |[],t,v,h=>by simp [Py] at h
 |(k,u)::l,t,v,h=>by
  unfold Py at h
  split at h
  ·rename_i hb
   cases h
   rw [Nat.eq_of_beq_eq_true hb]; exact cJ
  ·exact dW _ (zu h)
def Km:List Nat→Nat→Bool
 |[],_=>false
 |k::l,t=>match Nat.beq k t with
  |true=>true
  |false=>Km l t
theorem AY: ∀ {l:List Nat} {t:Nat},Km l t=true→t∈l
 |[],t,h=>by simp [Km] at h
 |k::l,t,h=>by
  unfold Km at h
  split at h
  ·rename_i hb
   rw [Nat.eq_of_beq_eq_true hb]; exact cJ
  ·exact dW _ (AY h)
def Cu.Kh (T:Cu) (t:Nat):Option (Bool×Nat):=Py T.tk t
def Cu.foF (T:Cu) (s f:Nat):Option Nat:=match Py T.fo s with
 |some l=>match l[f]? with
  |some (some k)=>some k
  |_=>none
 |none=>none
structure lB (P:Program) (T:Cu):Prop where
 tk: ∀ p∈T.tk,tK P p.1=some p.2
 fo: ∀ p∈T.fo,∀ f k,p.2[f]? =some (some k)→wg P p.1 f=some k
 sl: ∀ t∈T.sl,∃ e,P.underlying t=some (.slice e)
theorem lB.Kh {P:Program} {T:Cu} (h:lB P T) {t:Nat} {r:Bool×Nat} (e:T.Kh t=some r):tK P t=some r:=h.tk _ (zu e)
theorem lB.foF {P:Program} {T:Cu} (h:lB P T) {s f k:Nat} (e:T.foF s f=some k):wg P s f=some k:=by
 unfold Cu.foF at e
 split at e
 ·rename_i l hl
  split at e
  ·rename_i k' hk
   cases e
   exact h.fo _ (zu hl) f k hk
  ·cases e
 ·cases e
def RZ (P:Program) (T:Cu):Bool:=(T.tk.all fun p=>decide (tK P p.1=some p.2))&&(T.fo.all fun p=>(List.range p.2.length).all fun f=>match p.2[f]? with
 |some (some k)=>decide (wg P p.1 f=some k)
 |_=>true)&&T.sl.all fun t=>match P.underlying t with
 |some (.slice _)=>true
 |_=>false
theorem Pd {P:Program} {T:Cu} (h:RZ P T=true):lB P T:=by
 unfold RZ at h
 rw [dg,dg] at h
 obtain ⟨⟨B,C⟩,D⟩:=h
 refine ⟨fun p hp=>by simpa using de.1 B p hp,fun p hp f k hk=>?_,fun t ht=>?_⟩
 ·have A:=de.1 (de.1 C p hp) f (List.mem_range.2 (aY.1 hk).1)
  rw [hk] at A
  simpa using A
 ·have A:=de.1 D t ht
  split at A
  ·rename_i e he; exact ⟨e,he⟩
  ·cases A
end
section
theorem Dk:tK Tryz.prog 3=some (false,1):=by kernel_rfl
theorem Uk:tK Tryz.prog 5=some (false,1):=by kernel_rfl
theorem Tn:tK Tryz.prog 28=some (true,7):=by kernel_rfl
theorem S8:tK Tryz.prog 29=some (false,1):=by kernel_rfl
theorem TW:tK Tryz.prog 36=some (true,15):=by kernel_rfl
theorem Sq:tK Tryz.prog 42=some (false,1):=by kernel_rfl
theorem S3:tK Tryz.prog 47=some (true,5):=by kernel_rfl
theorem TZ:tK Tryz.prog 53=some (true,2):=by kernel_rfl
theorem TI:tK Tryz.prog 56=some (true,3):=by kernel_rfl
theorem SG:tK Tryz.prog 58=some (true,7):=by kernel_rfl
theorem Td:tK Tryz.prog 73=some (true,2):=by kernel_rfl
theorem Sn:tK Tryz.prog 75=some (true,3):=by kernel_rfl
theorem Sp:tK Tryz.prog 78=some (true,2):=by kernel_rfl
theorem SU:tK Tryz.prog 80=some (true,4):=by kernel_rfl
theorem TD:tK Tryz.prog 93=some (true,15):=by kernel_rfl
theorem PC:tK Tryz.prog 118=some (true,9):=by kernel_rfl
theorem Q9:tK Tryz.prog 120=some (true,3):=by kernel_rfl
theorem PX:tK Tryz.prog 132=some (true,2):=by kernel_rfl
theorem RV:tK Tryz.prog 133=some (true,8):=by kernel_rfl
theorem P7:tK Tryz.prog 137=some (true,4):=by kernel_rfl
theorem Q5:tK Tryz.prog 148=some (false,1):=by kernel_rfl
theorem Q8:tK Tryz.prog 153=some (false,1):=by kernel_rfl
theorem RM:tK Tryz.prog 156=some (false,1):=by kernel_rfl
theorem Qt:tK Tryz.prog 158=some (true,2):=by kernel_rfl
theorem PV:tK Tryz.prog 163=some (false,1):=by kernel_rfl
theorem PW:tK Tryz.prog 175=some (true,1):=by kernel_rfl
theorem Rd:tK Tryz.prog 176=some (true,4):=by kernel_rfl
theorem RB:tK Tryz.prog 196=some (true,1):=by kernel_rfl
theorem Qk:tK Tryz.prog 204=some (false,1):=by kernel_rfl
theorem P9:tK Tryz.prog 250=some (false,1):=by kernel_rfl
theorem PZ:tK Tryz.prog 252=some (true,3):=by kernel_rfl
theorem Eg:(tK Tryz.prog 3).map (·.2)=some 1:=by rw [Dk]; rfl
theorem TX:(tK Tryz.prog 28).map (·.2)=some 7:=by rw [Tn]; rfl
theorem Mj:(tK Tryz.prog 29).map (·.2)=some 1:=by rw [S8]; rfl
theorem Tm:(tK Tryz.prog 36).map (·.2)=some 15:=by rw [TW]; rfl
theorem Sw:(tK Tryz.prog 42).map (·.2)=some 1:=by rw [Sq]; rfl
theorem LY:(tK Tryz.prog 47).map (·.2)=some 5:=by rw [S3]; rfl
theorem c_:(tK Tryz.prog 53).map (·.2)=some 2:=by rw [TZ]; rfl
theorem S6:(tK Tryz.prog 56).map (·.2)=some 3:=by rw [TI]; rfl
theorem Gv:(tK Tryz.prog 58).map (·.2)=some 7:=by rw [SG]; rfl
theorem QP:(tK Tryz.prog 73).map (·.2)=some 2:=by rw [Td]; rfl
theorem zL:(tK Tryz.prog 75).map (·.2)=some 3:=by rw [Sn]; rfl
theorem vb:(tK Tryz.prog 78).map (·.2)=some 2:=by rw [Sp]; rfl
theorem Qp:(tK Tryz.prog 80).map (·.2)=some 4:=by rw [SU]; rfl
theorem FB:(tK Tryz.prog 93).map (·.2)=some 15:=by rw [TD]; rfl
theorem Ke:(tK Tryz.prog 118).map (·.2)=some 9:=by rw [PC]; rfl
theorem MQ:(tK Tryz.prog 120).map (·.2)=some 3:=by rw [Q9]; rfl
theorem I5:(tK Tryz.prog 132).map (·.2)=some 2:=by rw [PX]; rfl
theorem P1:(tK Tryz.prog 133).map (·.2)=some 8:=by rw [RV]; rfl
theorem mG:(tK Tryz.prog 137).map (·.2)=some 4:=by rw [P7]; rfl
theorem zi:(tK Tryz.prog 148).map (·.2)=some 1:=by rw [Q5]; rfl
theorem Ei:(tK Tryz.prog 153).map (·.2)=some 1:=by rw [Q8]; rfl
theorem Hd:(tK Tryz.prog 156).map (·.2)=some 1:=by rw [RM]; rfl
theorem sB:(tK Tryz.prog 158).map (·.2)=some 2:=by rw [Qt]; rfl
theorem Rs:(tK Tryz.prog 163).map (·.2)=some 1:=by rw [PV]; rfl
theorem En:(tK Tryz.prog 175).map (·.2)=some 1:=by rw [PW]; rfl
theorem PR:(tK Tryz.prog 176).map (·.2)=some 4:=by rw [Rd]; rfl
theorem JL:(tK Tryz.prog 196).map (·.2)=some 1:=by rw [RB]; rfl
theorem PE:(tK Tryz.prog 204).map (·.2)=some 1:=by rw [Qk]; rfl
theorem PO:(tK Tryz.prog 250).map (·.2)=some 1:=by rw [P9]; rfl
theorem RO:(tK Tryz.prog 252).map (·.2)=some 3:=by rw [PZ]; rfl
theorem zf:aE Tryz.prog 232=some (3,231,2):=by kernel_rfl
theorem kU (l:List ag): ∀ v∈(l.map ag.cells).flatten,v.oneCell'=true:=t_ (fun _=>rfl) l
theorem tx:tA Tryz.prog 29=some (3,1,8,(vI 0)):=by kernel_rfl
theorem Ty:tA Tryz.prog 42=some (29,1,24,(vS none 0 0)):=by kernel_rfl
theorem Nn:tA Tryz.prog 147=some (153,1,8,(Value.map none)):=by kernel_rfl
theorem Aw:tA Tryz.prog 148=some (156,1,8,(Value.map none)):=by kernel_rfl
theorem M6:tA Tryz.prog 163=some (204,1,24,(vS none 0 0)):=by kernel_rfl
theorem EK:tA Tryz.prog 204=some (53,2,16,(Value.agg [(vI 0),(vI 0)].toArray)):=by kernel_rfl
theorem Nd:tA Tryz.prog 238=some (255,3,72,(Value.agg [(vS none 0 0),(vS none 0 0),(vS none 0 0)].toArray)):=by kernel_rfl
theorem QC:tA Tryz.prog 250=some (4,1,1,(vB false)):=by kernel_rfl
theorem Ua:tB Tryz.prog 24=some ([(vS none 0 0)],[(0,1)]):=by kernel_rfl
theorem T_:tB Tryz.prog 28=some ([(vS none 0 0),(vI 0),(vS none 0 0),(vS none 0 0),(vI 0),(vI 0),(vI 0)],[(0,1),(1,1),(2,1),(3,1),(4,1),(5,1),(6,1)]):=by kernel_rfl
theorem Tv:tB Tryz.prog 32=some ([(vS none 0 0),(vI 0),(vS none 0 0),(vS none 0 0),(vI 0),(vI 0),(vI 0),(vS none 0 0),(vS none 0 0),(vI 0),(vS none 0 0)],[(0,7),(7,1),(8,1),(9,1),(10,1)]):=by kernel_rfl
theorem Sx:tB Tryz.prog 36=some ([(vS none 0 0),(vI 0),(vS none 0 0),(vS none 0 0),(vI 0),(vI 0),(vI 0),(vS none 0 0),(vS none 0 0),(vI 0),(vS none 0 0),(vS none 0 0),(vS none 0 0),(vI 0),(vI 0)],[(0,11),(11,1),(12,1),(13,1),(14,1)]):=by kernel_rfl
theorem Oi:tB Tryz.prog 47=some ([(vI 0),(vI 0),(vI 0),(vI 0),(vI 0)],[(0,1),(1,1),(2,1),(3,1),(4,1)]):=by kernel_rfl
theorem gZ:tB Tryz.prog 53=some ([(vI 0),(vI 0)],[(0,1),(1,1)]):=by kernel_rfl
theorem SK:tB Tryz.prog 56=some ([(vI 0),(vI 0),(vS none 0 0)],[(0,1),(1,1),(2,1)]):=by kernel_rfl
theorem Q0:tB Tryz.prog 58=some ([(vB false),(vB false),(vI 0),(vI 0),(vI 0),(vI 0),(vS none 0 0)],[(0,1),(1,1),(2,2),(4,3)]):=by kernel_rfl
theorem S0:tB Tryz.prog 73=some ([(vI 0),(vS none 0 0)],[(0,1),(1,1)]):=by kernel_rfl
theorem RG:tB Tryz.prog 75=some ([(vI 0),(vI 0),(vI 0)],[(0,1),(1,2)]):=by kernel_rfl
theorem Kg:tB Tryz.prog 78=some ([(vI 0),(vI 0)],[(0,1),(1,1)]):=by kernel_rfl
theorem KU:tB Tryz.prog 80=some ([(Value.int .u8 0),(vI 0),(vI 0),(vI 0)],[(0,1),(1,1),(2,1),(3,1)]):=by kernel_rfl
theorem SR:tB Tryz.prog 93=some ([(vS none 0 0),(vI 0),(vS none 0 0),(vS none 0 0),(vI 0),(vI 0),(vI 0),(vS none 0 0),(vS none 0 0),(vI 0),(vS none 0 0),(vS none 0 0),(vS none 0 0),(vI 0),(vI 0)],[(0,15)]):=by kernel_rfl
theorem Qd:tB Tryz.prog 118=some ([(vI 0),(vI 0),(vI 0),(vI 0),(vI 0),(vI 0),(vI 0),(Value.int .u8 0),(vI 0)],[(0,1),(1,2),(3,2),(5,2),(7,1),(8,1)]):=by kernel_rfl
theorem JY:tB Tryz.prog 120=some ([(vI 0),(vI 0),(vI 0)],[(0,1),(1,2)]):=by kernel_rfl
theorem Iq:tB Tryz.prog 122=some ([(vI 0),(vI 0),(vI 0),(vI 0)],[(0,3),(3,1)]):=by kernel_rfl
theorem JU:tB Tryz.prog 132=some ([Value.nilFunc,Value.nilFunc],[(0,1),(1,1)]):=by kernel_rfl
theorem RR:tB Tryz.prog 133=some ([Value.nilFunc,Value.nilFunc,Value.nilFunc,Value.nilFunc,Value.nilFunc,Value.nilFunc,Value.nilFunc,Value.nilFunc],[(0,2),(2,2),(4,2),(6,2)]):=by kernel_rfl
theorem EU:tB Tryz.prog 137=some ([(vI 0),(vI 0),(vB false),(vB false)],[(0,2),(2,1),(3,1)]):=by kernel_rfl
theorem M1:tB Tryz.prog 150=some ([(vS none 0 0),(vI 0),(vS none 0 0),(vS none 0 0),(vI 0),(vI 0),(vI 0),(vI 0),(vI 0),(vS none 0 0),(vS none 0 0),(vS none 0 0),(vS none 0 0),(vS none 0 0)],[(0,7),(7,3),(10,1),(11,1),(12,1),(13,1)]):=by kernel_rfl
theorem AF:tB Tryz.prog 158=some ([(vI 0),(vI 0)],[(0,1),(1,1)]):=by kernel_rfl
theorem Ey:tB Tryz.prog 175=some ([Value.nilFunc],[(0,1)]):=by kernel_rfl
theorem RW:tB Tryz.prog 176=some ([Value.nilFunc,Value.nilFunc,Value.nilFunc,Value.nilFunc],[(0,1),(1,1),(2,1),(3,1)]):=by kernel_rfl
theorem Rm:tB Tryz.prog 196=some ([(vS none 0 0)],[(0,1)]):=by kernel_rfl
theorem Rb:tB Tryz.prog 212=some ([(vS none 0 0),(vI 0),(vS none 0 0),(vS none 0 0),(vI 0),(vI 0),(vI 0),(vS none 0 0),(vS none 0 0),(vI 0),(vS none 0 0),(vS none 0 0),(Value.map none)],[(0,11),(11,1),(12,1)]):=by kernel_rfl
theorem QN:tB Tryz.prog 255=some ([(vS none 0 0),(vS none 0 0),(vS none 0 0)],[(0,1),(1,1),(2,1)]):=by kernel_rfl
theorem zB:tE Tryz.prog 22=some (118,9):=by kernel_rfl
theorem Ga:tE Tryz.prog 25=some (73,2):=by kernel_rfl
theorem xQ:tE Tryz.prog 26=some (122,4):=by kernel_rfl
theorem dD:tE Tryz.prog 29=some (3,1):=by kernel_rfl
theorem sT:tE Tryz.prog 30=some (51,1):=by kernel_rfl
theorem BC:tE Tryz.prog 33=some (80,4):=by kernel_rfl
theorem Ar:tE Tryz.prog 34=some (47,5):=by kernel_rfl
theorem K7:tE Tryz.prog 42=some (29,1):=by kernel_rfl
theorem vn:tE Tryz.prog 51=some (58,7):=by kernel_rfl
theorem zK:tE Tryz.prog 54=some (78,2):=by kernel_rfl
theorem yq:tE Tryz.prog 71=some (75,3):=by kernel_rfl
theorem MK:tE Tryz.prog 145=some (111,1):=by kernel_rfl
theorem xP:tE Tryz.prog 147=some (153,1):=by kernel_rfl
theorem ov:tE Tryz.prog 148=some (156,1):=by kernel_rfl
theorem Il:tE Tryz.prog 163=some (204,1):=by kernel_rfl
theorem lk:tE Tryz.prog 204=some (53,2):=by kernel_rfl
theorem H3:tE Tryz.prog 216=some (120,3):=by kernel_rfl
theorem JD:tE Tryz.prog 229=some (231,2):=by kernel_rfl
theorem E4:tE Tryz.prog 238=some (255,3):=by kernel_rfl
theorem MI:tE Tryz.prog 250=some (4,1):=by kernel_rfl
theorem IN:(match Tryz.prog.underlying 53 with |some (.struct fs)=>(fs[0]?).map (fun fl=>tK Tryz.prog fl.type)|_=>none)=some (some (false,1)):=by kernel_rfl
theorem G_:(match Tryz.prog.underlying 53 with |some (.struct fs)=>(fs[1]?).map (fun fl=>tK Tryz.prog fl.type)|_=>none)=some (some (false,1)):=by kernel_rfl
theorem Uf:tV Tryz.prog 3=some (vI 0):=by kernel_rfl
theorem Uj:tV Tryz.prog 4=some (vB false):=by kernel_rfl
theorem Th:tV Tryz.prog 53=some (Value.agg [(vI 0),(vI 0)].toArray):=by kernel_rfl
theorem Hw:tX Tryz.prog 133=some (4,132):=by kernel_rfl
theorem E9:tX Tryz.prog 176=some (4,175):=by kernel_rfl
theorem kl:tZ Tryz.prog 3=some [(vI 0)]:=by kernel_rfl
theorem Uq:tZ Tryz.prog 4=some [(vB false)]:=by kernel_rfl
theorem Sj:tZ Tryz.prog 28=some [(vS none 0 0),(vI 0),(vS none 0 0),(vS none 0 0),(vI 0),(vI 0),(vI 0)]:=by kernel_rfl
theorem QJ:tZ Tryz.prog 29=some [(vS none 0 0)]:=by kernel_rfl
theorem SB:tZ Tryz.prog 36=some [(vS none 0 0),(vI 0),(vS none 0 0),(vS none 0 0),(vI 0),(vI 0),(vI 0),(vS none 0 0),(vS none 0 0),(vI 0),(vS none 0 0),(vS none 0 0),(vS none 0 0),(vI 0),(vI 0)]:=by kernel_rfl
theorem I3:tZ Tryz.prog 47=some [(vI 0),(vI 0),(vI 0),(vI 0),(vI 0)]:=by kernel_rfl
theorem Su:tZ Tryz.prog 51=some [(vS none 0 0)]:=by kernel_rfl
theorem ed:tZ Tryz.prog 53=some [(vI 0),(vI 0)]:=by kernel_rfl
theorem Ti:tZ Tryz.prog 56=some [(vI 0),(vI 0),(vS none 0 0)]:=by kernel_rfl
theorem AU:tZ Tryz.prog 58=some [(vB false),(vB false),(vI 0),(vI 0),(vI 0),(vI 0),(vS none 0 0)]:=by kernel_rfl
theorem Og:tZ Tryz.prog 73=some [(vI 0),(vS none 0 0)]:=by kernel_rfl
theorem yk:tZ Tryz.prog 75=some [(vI 0),(vI 0),(vI 0)]:=by kernel_rfl
theorem Gw:tZ Tryz.prog 78=some [(vI 0),(vI 0)]:=by kernel_rfl
theorem Oe:tZ Tryz.prog 80=some [(Value.int .u8 0),(vI 0),(vI 0),(vI 0)]:=by kernel_rfl
theorem GU:tZ Tryz.prog 93=some [(vS none 0 0),(vI 0),(vS none 0 0),(vS none 0 0),(vI 0),(vI 0),(vI 0),(vS none 0 0),(vS none 0 0),(vI 0),(vS none 0 0),(vS none 0 0),(vS none 0 0),(vI 0),(vI 0)]:=by kernel_rfl
theorem Qa:tZ Tryz.prog 111=some [Value.nilFunc]:=by kernel_rfl
theorem Eu:tZ Tryz.prog 118=some [(vI 0),(vI 0),(vI 0),(vI 0),(vI 0),(vI 0),(vI 0),(Value.int .u8 0),(vI 0)]:=by kernel_rfl
theorem Fb:tZ Tryz.prog 120=some [(vI 0),(vI 0),(vI 0)]:=by kernel_rfl
theorem RU:tZ Tryz.prog 122=some [(vI 0),(vI 0),(vI 0),(vI 0)]:=by kernel_rfl
theorem JZ:tZ Tryz.prog 132=some [Value.nilFunc,Value.nilFunc]:=by kernel_rfl
theorem Ro:tZ Tryz.prog 133=some [Value.nilFunc,Value.nilFunc,Value.nilFunc,Value.nilFunc,Value.nilFunc,Value.nilFunc,Value.nilFunc,Value.nilFunc]:=by kernel_rfl
theorem og:tZ Tryz.prog 137=some [(vI 0),(vI 0),(vB false),(vB false)]:=by kernel_rfl
theorem Qv:tZ Tryz.prog 153=some [(Value.map none)]:=by kernel_rfl
theorem tg:tZ Tryz.prog 158=some [(vI 0),(vI 0)]:=by kernel_rfl
theorem Es:tZ Tryz.prog 175=some [Value.nilFunc]:=by kernel_rfl
theorem Rg:tZ Tryz.prog 176=some [Value.nilFunc,Value.nilFunc,Value.nilFunc,Value.nilFunc]:=by kernel_rfl
theorem JM:tZ Tryz.prog 196=some [(vS none 0 0)]:=by kernel_rfl
theorem M8:tZ Tryz.prog 204=some [(vS none 0 0)]:=by kernel_rfl
theorem MP:tZ Tryz.prog 252=some [(vS none 0 0),(vS none 0 0),(vS none 0 0)]:=by kernel_rfl
theorem P3:tZ Tryz.prog 255=some [(vS none 0 0),(vS none 0 0),(vS none 0 0)]:=by kernel_rfl
theorem s9:Tryz.prog.underlying 3=some (.int .i64):=by kernel_rfl
theorem Ul:Tryz.prog.underlying 4=some .bool:=by kernel_rfl
theorem OW:Tryz.prog.underlying 5=some (.int .u8):=by kernel_rfl
theorem UA:Tryz.prog.underlying 9=some .string:=by kernel_rfl
theorem Qs:Tryz.prog.underlying 22=some (.slice 118):=by kernel_rfl
theorem Tr:Tryz.prog.underlying 25=some (.slice 73):=by kernel_rfl
theorem OO:Tryz.prog.underlying 26=some (.slice 122):=by kernel_rfl
theorem SF:Tryz.prog.underlying 29=some (.slice 3):=by kernel_rfl
theorem Sl:Tryz.prog.underlying 30=some (.slice 51):=by kernel_rfl
theorem S_:Tryz.prog.underlying 33=some (.slice 80):=by kernel_rfl
theorem Sv:Tryz.prog.underlying 34=some (.slice 47):=by kernel_rfl
theorem HG:Tryz.prog.underlying 45=some (.map 3 4):=by kernel_rfl
theorem TQ:Tryz.prog.underlying 51=some (.slice 58):=by kernel_rfl
theorem Tz:Tryz.prog.underlying 54=some (.slice 78):=by kernel_rfl
theorem Tt:Tryz.prog.underlying 71=some (.slice 75):=by kernel_rfl
theorem su:Tryz.prog.underlying 153=some (.map 3 53):=by kernel_rfl
theorem o8:Tryz.prog.underlying 156=some (.map 158 3):=by kernel_rfl
theorem QF:Tryz.prog.underlying 245=some (.int .u64):=by kernel_rfl
theorem Qw:Tryz.prog.underlying 266=some (.int .u64):=by kernel_rfl
theorem NA:fL Tryz.prog 53=some [(3,0),(3,1)]:=by kernel_rfl
theorem Nj (d:Nat) (s z:ag) (w:World):(Op.equalIn (d+2) 53 (.agg s.cells.toArray) (.agg z.cells.toArray)).run Tryz.prog w= .ok (decide (s=z)) w:=by
 have hc:(decide (s.Lo=z.Lo)&&(decide (s.Hi=z.Hi)&&true))=decide (s=z):=by rw [Bool.eq_iff_iff]; simp [ag.ext_iff]
 rw [← hc]
 exact sO (d+1) NA w (mI w (gY Dk U w) (gY Dk U w) (oq _ s9 w) (mI w (gY Dk U w) (gY Dk U w) (oq _ s9 w) (zk w)))
theorem xb (x y:Operand) (s z:ag):iX Tryz.prog .eql 53 x y (.agg s.cells.toArray) (.agg z.cells.toArray) (.bool (decide (s=z))):=yY x y (xd NA) fun w=>Nj 9998 s z w
theorem Rc (x y:Operand) (s z:ag):iX Tryz.prog .neq 53 x y (.agg s.cells.toArray) (.agg z.cells.toArray) (.bool (!decide (s=z))):=GB x y (xd NA) fun w=>Nj 9998 s z w
theorem MH:fL Tryz.prog 158=some [(3,0),(3,1)]:=by kernel_rfl
theorem Ox (d:Nat) (s z:aD) (w:World):(Op.equalIn (d+2) 158 (.agg s.cells.toArray) (.agg z.cells.toArray)).run Tryz.prog w= .ok (decide (s=z)) w:=by
 have hc:(decide (s.right=z.right)&&(decide (s.eQ=z.eQ)&&true))=decide (s=z):=by rw [Bool.eq_iff_iff]; simp [aD.ext_iff]
 rw [← hc]
 exact sO (d+1) MH w (mI w (gY Dk U w) (gY Dk U w) (oq _ s9 w) (mI w (gY Dk U w) (gY Dk U w) (oq _ s9 w) (zk w)))
theorem Pz:fL Tryz.prog 80=some [(5,0),(3,1),(3,2),(3,3)]:=by kernel_rfl
theorem PA (d:Nat) (s z:aX) (w:World):(Op.equalIn (d+2) 80 (.agg s.cells.toArray) (.agg z.cells.toArray)).run Tryz.prog w= .ok (decide (s=z)) w:=by
 have hc:(decide (s.Kind=z.Kind)&&(decide (s.ik=z.ik)&&(decide (s.my=z.my)&&(decide (s.To=z.To)&&true))))=decide (s=z):=by rw [Bool.eq_iff_iff]; simp [aX.ext_iff]
 rw [← hc]
 exact sO (d+1) Pz w (mI w (gY Uk U w) (gY Uk U w) (oq _ OW w) (mI w (gY Dk U w) (gY Dk U w) (oq _ s9 w) (mI w (gY Dk U w) (gY Dk U w) (oq _ s9 w) (mI w (gY Dk U w) (gY Dk U w) (oq _ s9 w) (zk w)))))
theorem Q7 (x y:Operand) (s z:aX):iX Tryz.prog .eql 80 x y (.agg s.cells.toArray) (.agg z.cells.toArray) (.bool (decide (s=z))):=yY x y (xd Pz) fun w=>PA 9998 s z w
theorem cx:Tryz.prog.follows .mixedOrders=true:=by kernel_rfl
def TT:Cu:=⟨[(1,false,1),(2,false,1),(3,false,1),(4,false,1),(5,false,1),(6,false,1),(7,true,4),(8,true,4),(12,false,1),(15,false,1),(16,false,1),(17,false,1),(18,true,1),(19,true,1),(21,false,1),(22,false,1),(23,true,1),(24,true,1),(25,false,1),(26,false,1),(27,true,7),(28,true,7),(29,false,1),(30,false,1),(31,true,11),(32,true,11),(33,false,1),(34,false,1),(35,true,15),(36,true,15),(37,false,1),(38,false,1),(39,false,1),(41,false,1),(42,false,1),(44,false,1),(45,false,1),(46,true,5),(47,true,5),(49,false,1),(50,false,1),(51,false,1),(52,true,2),(53,true,2),(54,false,1),(55,true,3),(56,true,3),(57,true,7),(58,true,7),(59,false,1),(61,false,1),(63,false,1),(64,false,1),(65,false,1),(66,false,1),(67,false,1),(68,false,1),(69,false,1),(70,false,1),(71,false,1),(72,true,2),(73,true,2),(74,true,3),(75,true,3),(76,false,1),(77,true,2),(78,true,2),(79,true,4),(80,true,4),(81,false,1),(82,false,1),(83,false,1),(85,false,1),(86,false,1),(87,false,1),(88,false,1),(89,false,1),(90,false,1),(91,false,1),(92,true,15),(93,true,15),(95,false,1),(96,false,1),(97,false,1),(98,false,1),(99,false,1),(100,false,1),(101,false,1),(102,false,1),(103,false,1),(104,false,1),(105,false,1),(106,false,1),(107,false,1),(108,false,1),(110,false,1),(111,false,1),(112,false,1),(113,false,1),(114,false,1),(115,false,1),(116,false,1),(117,true,9),(118,true,9),(119,true,3),(120,true,3),(121,true,4),(122,true,4),(123,false,1),(124,false,1),(125,false,1),(126,false,1),(127,false,1),(128,false,1),(129,false,1),(130,false,1),(131,true,2),(132,true,2),(133,true,8),(134,false,1),(136,true,4),(137,true,4),(138,false,1),(139,false,1),(140,false,1),(141,false,1),(142,false,1),(143,false,1),(144,false,1),(145,false,1),(146,false,1),(147,false,1),(148,false,1),(149,true,14),(150,true,14),(151,false,1),(152,false,1),(153,false,1),(154,false,1),(155,false,1),(156,false,1),(157,true,2),(158,true,2),(159,false,1),(160,false,1),(161,false,1),(162,false,1),(163,false,1),(165,false,1),(166,false,1),(167,false,1),(168,false,1),(169,false,1),(170,false,1),(171,false,1),(172,false,1),(173,false,1),(174,false,1),(175,true,1),(176,true,4),(177,false,1),(178,false,1),(179,false,1),(180,false,1),(181,false,1),(183,false,1),(184,false,1),(186,false,1),(187,false,1),(189,false,1),(190,false,1),(191,false,1),(192,false,1),(193,false,1),(194,false,1),(195,true,1),(196,true,1),(198,false,1),(199,false,1),(201,false,1),(202,false,1),(203,false,1),(204,false,1),(206,false,1),(207,false,1),(208,false,1),(209,false,1),(210,false,1),(211,true,13),(212,true,13),(213,false,1),(214,false,1),(215,false,1),(216,false,1),(217,false,1),(218,false,1),(219,false,1),(220,false,1),(221,false,1),(222,false,1),(223,false,1),(224,false,1),(226,false,1),(227,false,1),(228,false,1),(229,false,1),(230,true,2),(231,true,2),(232,true,6),(233,false,1),(234,false,1),(235,false,1),(236,false,1),(237,false,1),(238,false,1),(240,false,1),(241,false,1),(242,false,1),(243,false,1),(244,false,1),(245,false,1),(246,false,1),(247,false,1),(248,false,1),(249,false,1),(250,false,1),(251,true,3),(252,true,3),(253,false,1),(254,true,3),(255,true,3),(256,false,1),(257,false,1),(259,false,1),(260,false,1),(261,false,1),(262,false,1),(263,false,1),(264,false,1),(265,false,1),(266,false,1),(267,false,1),(268,false,1),(269,false,1),(270,false,1),(271,false,1),(272,false,1),(273,false,1),(274,false,1),(275,false,1),(276,false,1),(277,false,1),(280,true,0),(281,true,0),(282,true,0),(283,false,1),(284,false,1),(285,false,1),(286,false,1),(287,false,1),(288,false,1),(289,false,1),(290,true,11),(291,true,11),(292,false,1),(294,false,1)],[(7,[some 0,some 1,some 2,some 3]),(8,[some 0,some 1,some 2,some 3]),(18,[some 0]),(19,[some 0]),(23,[some 0]),(24,[some 0]),(27,[some 0,some 1,some 2,some 3,some 4,some 5,some 6]),(28,[some 0,some 1,some 2,some 3,some 4,some 5,some 6]),(31,[some 0,some 7,some 8,some 9,some 10]),(32,[some 0,some 7,some 8,some 9,some 10]),(35,[some 0,some 11,some 12,some 13,some 14]),(36,[some 0,some 11,some 12,some 13,some 14]),(46,[some 0,some 1,some 2,some 3,some 4]),(47,[some 0,some 1,some 2,some 3,some 4]),(52,[some 0,some 1]),(53,[some 0,some 1]),(55,[some 0,some 1,some 2]),(56,[some 0,some 1,some 2]),(57,[some 0,some 1,some 2,some 4]),(58,[some 0,some 1,some 2,some 4]),(72,[some 0,some 1]),(73,[some 0,some 1]),(74,[some 0,some 1]),(75,[some 0,some 1]),(77,[some 0,some 1]),(78,[some 0,some 1]),(79,[some 0,some 1,some 2,some 3]),(80,[some 0,some 1,some 2,some 3]),(92,[some 0]),(93,[some 0]),(117,[some 0,some 1,some 3,some 5,some 7,some 8]),(118,[some 0,some 1,some 3,some 5,some 7,some 8]),(119,[some 0,some 1]),(120,[some 0,some 1]),(121,[some 0,some 3]),(122,[some 0,some 3]),(131,[some 0,some 1]),(132,[some 0,some 1]),(136,[some 0,some 2,some 3]),(137,[some 0,some 2,some 3]),(149,[some 0,some 7,some 10,some 11,some 12,some 13]),(150,[some 0,some 7,some 10,some 11,some 12,some 13]),(157,[some 0,some 1]),(158,[some 0,some 1]),(175,[some 0]),(195,[some 0]),(196,[some 0]),(211,[some 0,some 11,some 12]),(212,[some 0,some 11,some 12]),(230,[some 0,some 1]),(231,[some 0,some 1]),(251,[some 0,some 1,some 2]),(252,[some 0,some 1,some 2]),(254,[some 0,some 1,some 2]),(255,[some 0,some 1,some 2]),(290,[some 0,some 1,some 2,some 3,some 4,some 5,some 6,some 7,some 8,some 9,some 10]),(291,[some 0,some 1,some 2,some 3,some 4,some 5,some 6,some 7,some 8,some 9,some 10])],[22,25,26,29,30,33,34,42,51,54,67,71,145,147,148,163,204,216,229,238,250]⟩
theorem qt:lB Tryz.prog TT:=Pd kr
theorem cq {t:TypeId} {x:Bool×Nat} (h:TT.Kh t=some x:=by rfl):tK Tryz.prog t=some x:=qt.Kh h
theorem fT {s f k:Nat} (h:TT.foF s f=some k:=by rfl):wg Tryz.prog s f=some k:=qt.foF h
end
section
open Go.RowKit
/-- blocks that are read -/
def MM (C:List aw) (M:List (Nat×List Value)):Prop:= ∀ p∈M,∀ o vs,(p.2.drop o).take vs.length=vs→At C (some ⟨p.1,o,none⟩) vs
theorem mn {C:List aw}:MM C []:=fun p h=>by cases h
theorem mc {C:List aw} {b t:Nat} {cs:List Value} {M:List (Nat×List Value)} (i:Nat) (hC:C[i]? =some (cw b t cs)) (h:MM C M):MM C ((b,cs)::M):=fun p hp o vs hv=>by
 rcases bR.1 hp with rfl|hp
 ·exact p8 i hC hv
 ·exact h p hp o vs hv
theorem mr {C:List aw} {b t:Nat} {cs:List Value} {M:List (Nat×List Value)} (i:Nat) (hC:C[i]? =some (cw b t cs).ro) (h:MM C M):MM C ((b,cs)::M):=fun p hp o vs hv=>by
 rcases bR.1 hp with rfl|hp
 ·exact wj i hC hv
 ·exact h p hp o vs hv
def qd:List Prop→Prop
 |[]=>True
 |p::l=>p∧qd l
theorem kv {p:Prop} {l:List Prop} (h:p) (h2:qd l):qd (p::l):=⟨h,h2⟩
/-- the value of an operation, what it asks for, and what is left of the list of places -/
def pv (T:Cu) (ops:Array Oper) (M:List (Nat×List Value)) (L:dA) (hs:List Nat) (g:Option (Nat×Bool)) (op:Op):Option (Value×List Prop×List Nat):=
 match Cl ops L g with
 |true=>some (undef,[],hs)
 |false=>match kj ops L g with
  |false=>none
  |true=>match op with
   | .move x=>match ev L x with
    |some v=>some (v,[],hs)
    |none=>none
   | .assign x=>match ev L x with
    |some v=>some (v,[],hs)
    |none=>none
   | .pick c x y=>match ev L c with
    |some (.bool true)=>match ev L x with
     |some v=>some (v,[],hs)
     |none=>none
    |some (.bool false)=>match ev L y with
     |some v=>some (v,[],hs)
     |none=>none
    |_=>none
   | .unOp .not _ x=>match ev L x with
    |some (.bool b)=>some (.bool !b,[],hs)
    |_=>none
   | .extract x i=>match ev L x with
    |some (.tuple vs)=>match vs.toList[i]? with
     |some v=>some (v,[],hs)
     |none=>none
    |_=>none
   | .fieldAddr s x f=>match ev L x with
    |some (.pointer (some ⟨b,o,none⟩))=>match T.foF s f with
     |some k=>some (.pointer (some ⟨b,o+k,none⟩),[],hs)
     |none=>none
    |_=>none
   | .binOp op _ x y _=>match ev L x with
    |some (.int .i64 a)=>match ev L y with
     |some (.int .i64 b)=>match op with
      | .lss=>some (.bool (decide (a<b)),[],hs)
      | .leq=>some (.bool (decide (a≤b)),[],hs)
      | .gtr=>some (.bool (decide (b<a)),[],hs)
      | .geq=>some (.bool (decide (b≤a)),[],hs)
      | .eql=>some (.bool (decide (a=b)),[],hs)
      | .neq=>some (.bool (!decide (a=b)),[],hs)
      | .add=>some (.int .i64 (a+b),[-9223372036854775808≤a+b,a+b≤9223372036854775807],hs)
      | .sub=>some (.int .i64 (a-b),[-9223372036854775808≤a-b,a-b≤9223372036854775807],hs)
      |_=>none
     |_=>none
    |_=>none
   | .load t x=>match ev L x with
    |some (.pointer (some ⟨b,o,none⟩))=>match M[hs.headD 0]? with
     |some (b',cs)=>match T.Kh t with
      |some (false,_)=>match cs[o]? with
       |some v=>some (v,[b'=b],hs.tail)
       |none=>none
      |some (true,n)=>match Nat.beq o 0 with
       |true=>match Nat.beq cs.length n with
        |true=>some (.agg cs.toArray,[b'=b],hs.tail)
        |false=>none
       |false=>none
      |none=>none
     |none=>none
    |_=>none
   | .call c=>match c with
    |{callee:= .builtin .len,args:=xs,argTypes:=ts}=>match xs.toList with
     |[x]=>match ts.toList with
      |[t]=>match ev L x with
       |some (.slice A n c)=>match Km T.sl t with
        |true=>some (.int .i64 n,[],hs)
        |false=>none
       |_=>none
      |_=>none
     |_=>none
    |_=>none
   |_=>none
section
variable {E:e9} {T:Cu} {ops:Array Oper} {M:List (Nat×List Value)} {D:List Deferred} {L:List (Nat×Value)} {C:List aw} {hs hs':List Nat}
theorem vR {cs:List Value} {o:Nat} {v:Value} (h:cs[o]? =some v):(cs.drop o).take [v].length=[v]:=by
 obtain ⟨hl,rfl⟩:=aY.1 h
 rw [List.drop_eq_getElem_cons hl]; rfl
theorem Qy {o:Oper} {v:Value} {S:List Prop} (hT:lB E.P T) (hM:MM C M) (h:pv T ops M L hs o.guard o.op=some (v,S,hs')) (hS:qd S):SD E ops o D L C v:=by
 obtain ⟨dst,op,ty,ps,af,g⟩:=o
 unfold pv at h
 simp only at h
 split at h
 ·rename_i hg
  cases h
  exact H2 hg
 ·split at h
  ·cases h
  ·rename_i hg
   split at h
   ·split at h
    ·rename_i hx; cases h; exact Ep hg hx
    ·cases h
   ·split at h
    ·rename_i hx; cases h; exact yO hg hx
    ·cases h
   ·split at h
    ·rename_i hc
     split at h
     ·rename_i hx; cases h; exact zj hg hc hx
     ·cases h
    ·rename_i hc
     split at h
     ·rename_i hx; cases h; exact yP hg hc hx
     ·cases h
    ·cases h
   ·split at h
    ·rename_i hx; cases h; exact Jk hg hx
    ·cases h
   ·split at h
    ·rename_i vs hx
     split at h
     ·rename_i v' hv; cases h; exact xA (vs:=vs.toList) hg (by simpa using hx) hv
     ·cases h
    ·cases h
   ·split at h
    ·rename_i hx
     split at h
     ·rename_i hk; cases h; exact MU hg hx (hT.foF hk) rfl
     ·cases h
    ·cases h
   ·split at h
    ·rename_i hx
     split at h
     ·rename_i hy
      split at h
      ·cases h; exact gn hg hx hy qq
      ·cases h; exact gn hg hx hy QV
      ·cases h; exact gn hg hx hy QE
      ·cases h; exact gn hg hx hy Et
      ·cases h; exact gn hg hx hy mX
      ·cases h; exact gn hg hx hy xV
      ·cases h; exact gn hg hx hy (ox ⟨hS.1,hS.2.1⟩)
      ·cases h; exact gn hg hx hy (xL ⟨hS.1,hS.2.1⟩)
      ·cases h
     ·cases h
    ·cases h
   ·split at h
    ·rename_i hx
     split at h
     ·rename_i b' cs hm
      have A:=aP hm
      split at h
      ·rename_i hk
       split at h
       ·rename_i hv
        cases h
        obtain rfl:=hS.1
        exact uO hg hx (hT.Kh hk) (hM _ A _ _ (vR hv))
       ·cases h
      ·rename_i n hk
       split at h
       ·rename_i ho
        split at h
        ·rename_i hn
         cases h
         obtain rfl:=hS.1
         have H:=Nat.eq_of_beq_eq_true ho
         subst H
         exact x_ hg hx (hT.Kh hk) (hM _ A 0 cs sm) (Nat.eq_of_beq_eq_true hn)
        ·cases h
       ·cases h
      ·cases h
     ·cases h
    ·cases h
   ·split at h
    ·rename_i xs ts
     split at h
     ·rename_i x G
      split at h
      ·rename_i t F
       split at h
       ·rename_i hx
        split at h
        ·rename_i B
         cases h
         obtain ⟨e,he⟩:=hT.sl t (AY B)
         have AA:xs= #[x]:=by apply Array.ext'; simpa using G
         have J:ts= #[t]:=by apply Array.ext'; simpa using F
         subst AA J
         exact JP hg hx he
        ·cases h
       ·cases h
      ·cases h
     ·cases h
    ·cases h
   ·cases h
def pr (T:Cu) (n:Nat) (ops:Array Oper) (M:List (Nat×List Value)):Nat→List Nat→dA→List Oper→Option (dA×List Oper×List Prop)
 |0,_,L,rest=>some (L,rest,[])
 |k+1,hs,L,[]=>none
 |k+1,hs,L,o::rest=>match o.dst with
  |none=>none
  |some d=>match Nat.blt d n with
   |false=>none
   |true=>match pv T ops M L hs o.guard o.op with
    |none=>none
    |some (v,S,hs')=>match pr T n ops M k hs' ((d,v)::L) rest with
     |none=>none
     |some (L',rest',S')=>some (L',rest',S++S')
theorem wK: ∀ {S S':List Prop},qd (S++S')→qd S∧qd S'
 |[],S',h=>⟨trivial,h⟩
 |p::S,S',h=>⟨⟨h.1,(wK h.2).1⟩,(wK h.2).2⟩
/-- whatever is closed under single steps -/
theorem HZ {J:List Oper→dA→Prop} (hT:lB E.P T) (hM:MM C M) (hJ: ∀ o rest L d v,SD E ops o D L C v→o.dst=some d→Nat.blt d E.n=true→J rest ((d,v)::L)→J (o::rest) L):
 ∀ (k:Nat) (hs:List Nat) (L:dA) (rest:List Oper) {L':dA} {rest':List Oper} {S:List Prop},pr T E.n ops M k hs L rest=some (L',rest',S)→qd S→J rest' L'→J rest L
 |0,hs,L,rest,L',rest',S,h,hS,hj=>by
  unfold pr at h
  cases h
  exact hj
 |k+1,hs,L,[],L',rest',S,h,hS,hj=>by unfold pr at h; cases h
 |k+1,hs,L,o::rest,L',rest',S,h,hS,hj=>by
  unfold pr at h
  split at h
  ·cases h
  ·rename_i d hd
   split at h
   ·cases h
   ·rename_i hn
    split at h
    ·cases h
    ·rename_i v S1 A hv
     split at h
     ·cases h
     ·rename_i L1 G S2 hr
      cases h
      obtain ⟨B,F⟩:=wK hS
      exact hJ o rest L d v (Qy hT hM hv B) hd hn (HZ hT hM hJ k A _ rest hr F hj)
variable {Q:dq} {rest rest':List Oper} {L0 L':List (Nat×Value)} {S:List Prop} {F:List (Nat×Value)→Prop}
/-- a run of operations, one after the other -/
theorem rP (k:Nat) (hs:List Nat) (hM:MM C M) (j:RJ E ops Q rest' D L' C) (hT:lB E.P T:=by exact qt) (h:pr T E.n ops M k hs L rest=some (L0,rest',S):=by rfl) (hL:L0=L':=by (try dsimp only)<;>rfl) (hS:qd S:=by repeat' first|exact True.intro |refine kv ?_ ?_ |exact rfl|omega|(dsimp only; omega)):RJ E ops Q rest D L C:=by
 subst hL
 exact HZ (J:=fun r L=>RJ E ops Q r D L C) hT hM (fun o rest L d v A B F G=>Rl A B F G) k hs L rest h hS j
theorem dP (k:Nat) (hs:List Nat) (hM:MM C M) (j:DJ E ops D C F rest' L') (hT:lB E.P T:=by exact qt) (h:pr T E.n ops M k hs L rest=some (L0,rest',S):=by rfl) (hL:L0=L':=by (try dsimp only)<;>rfl) (hS:qd S:=by repeat' first|exact True.intro |refine kv ?_ ?_ |exact rfl|omega|(dsimp only; omega)):DJ E ops D C F rest L:=by
 subst hL
 exact HZ (J:=fun r L=>DJ E ops D C F r L) hT hM (fun o rest L d v A B G H=>QA A B G H) k hs L rest h hS j
end
section
variable {P:Program} {r:Option Nat} {n:Nat} {B:BS} {w0:World} {ops:Array Oper} {M:List (Nat×List Value)} {D:List Deferred} {L L':List (Nat×Value)} {C:List aw} {Q:dq} {rest rest':List Oper} {S:List Prop} {F:List (Nat×Value)→Prop}
theorem e7 (k:Nat) (hs:List Nat) (hM:MM C M) (h:pr TT n ops M k hs L rest=some (L',rest',S)) (j:RJ ⟨P,r,n,B,w0⟩ ops Q rest' D L' C) (hS:qd S:=by repeat' first|exact True.intro |refine kv ?_ ?_ |exact rfl|omega|(dsimp only; omega)) (hT:lB P TT:=by exact qt):RJ ⟨P,r,n,B,w0⟩ ops Q rest D L C:=rP k hs hM j hT h rfl hS
theorem lU (k:Nat) (hs:List Nat) (hM:MM C M) (h:pr TT n ops M k hs L rest=some (L',rest',S)) (j:DJ ⟨P,r,n,B,w0⟩ ops D C F rest' L') (hS:qd S:=by repeat' first|exact True.intro |refine kv ?_ ?_ |exact rfl|omega|(dsimp only; omega)) (hT:lB P TT:=by exact qt):DJ ⟨P,r,n,B,w0⟩ ops D C F rest L:=dP k hs hM j hT h rfl hS
theorem bI (k:Nat) (h:pr TT n ops [] k [] L rest=some (L',rest',S)) (j:RJ ⟨P,r,n,B,w0⟩ ops Q rest' D L' C) (hS:qd S:=by repeat' first|exact True.intro |refine kv ?_ ?_ |exact rfl|omega|(dsimp only; omega)) (hT:lB P TT:=by exact qt):RJ ⟨P,r,n,B,w0⟩ ops Q rest D L C:=rP k [] mn j hT h rfl hS
theorem k7 (k:Nat) (h:pr TT n ops [] k [] L rest=some (L',rest',S)) (j:DJ ⟨P,r,n,B,w0⟩ ops D C F rest' L') (hS:qd S:=by repeat' first|exact True.intro |refine kv ?_ ?_ |exact rfl|omega|(dsimp only; omega)) (hT:lB P TT:=by exact qt):DJ ⟨P,r,n,B,w0⟩ ops D C F rest L:=dP k [] mn j hT h rfl hS
end
end
section
open Go.RowKit
/-- parts of a context, reckoned to the end -/
def pH (C:List aw):List Nat→Option (List aw)
 |[]=>some []
 |i::is=>match C[i]? with
  |some A=>match pH C is with
   |some l=>some (A::l)
   |none=>none
  |none=>none
theorem p_ {C:List aw}: ∀ {is:List Nat} {C':List aw},pH C is=some C'→kG C is=C'
 |[],C',h=>by cases h; rfl
 |i::is,C',h=>by
  unfold pH at h
  split at h
  ·rename_i A hA
   split at h
   ·rename_i l hl
    cases h
    show List.filterMap (C[·]?) (i::is)=A::l
    rw [List.filterMap_cons_some hA]
    exact congrArg _ (p_ hl)
   ·cases h
  ·cases h
/-- a part of a context in place of the whole -/
theorem aU {S:BS} {w0:World} {C C':List aw} (is:List Nat) (hn:decide is.Nodup=true:=by rfl) (hC:kG C is=C':=by rfl): ∀ w,St S w0 C w→St S w0 C' w:=fun w h=>St.kG is hn hC h
theorem PY {S:BS} {w0:World} {C C':List aw} (is:List Nat) (hC:pH C is=some C') (hn:decide is.Nodup=true:=by rfl): ∀ w,St S w0 C w→St S w0 C' w:=fun w h=>St.kG is hn (p_ hC) h
def MF (C:List aw) (i:Nat) (B:aw):Option (List aw):=match i,C with
 |0,_::C=>some (B::C)
 |i+1,A::C=>match MF C i B with
  |some l=>some (A::l)
  |none=>none
 |_,[]=>none
theorem EA: ∀ {C:List aw} {i:Nat} {B:aw} {C':List aw},MF C i B=some C'→C.set i B=C'
 |[],0,B,C',h=>by cases h
 |[],i+1,B,C',h=>by cases h
 |A::C,0,B,C',h=>by cases h; rfl
 |A::C,i+1,B,C',h=>by
  unfold MF at h
  split at h
  ·rename_i l hl
   cases h
   exact congrArg _ (EA hl)
  ·cases h
theorem ry {E:e9} {K:Act→World→Prop} {D:ig} {L:dA} {C C':List aw} {A B:aw} (i:Nat) (hC:C[i]? =some A) (hh:(∀ w,A.holds w→B.holds w)∧(∀ b,B.fr b→A.fr b)∧ ∀ b,B.wf b→A.wf b) (hC':MF C i B=some C') (h:KJ E K D L C'):KJ E K D L C:=Jg i hC hh (EA hC') h
/-- the operations of a region but these; marks of some places -/
def Sm (n:Nat) (T:List Nat):List Nat:=(List.range n).filter fun i=> !T.contains i
def Un (k:Nat) (t:List Nat):List Bool:=(List.range k).map fun i=>t.contains i
theorem dV {E:e9} {id:Nat} {ops:Array Oper} {Q:dq} {D:ig} {L:dA} {C:List aw} (hm:E.P.follows .mixedOrders=true) (T fe tb i1 i2:List Nat) {C' C1:List aw} {free:List Nat} {feb tbb:List Bool}
 (h1:pH C i1=some C') (h2:pH C i2=some C1) (hf:free=Sm ops.size T) (hfe:feb=Un free.length fe) (htb:tbb=Un T.length tb)
 (h:qD E ops D C' C1 (fun L'=>TJ E ops D C' C1 (fun L C=>KJ E (Q .normal) D L C) tbb (eU ops T) L' C) feb (eU ops free) L)
 (hc:KZ ops free T feb tbb=true:=by kernel_rfl) (n1:decide i1.Nodup=true:=by rfl) (n2:decide i2.Nodup=true:=by rfl):WJ E (.region id ops true) Q D L C:=
 LZ hm free T feb tbb C' C1 hc (PY i1 h1 n1) (PY i2 h2 n2) h
end
section
open Go.RowKit
def we (T:Cu) (M:List (Nat×List Value)) (L:dA):List ResultVar→List Nat→Option (List Value×List Prop)
 |[],_=>some ([],[])
 | .tmp t::rs,hs=>match L.lookup t with
  |some v=>match we T M L rs hs with
   |some (vs,S)=>some (v::vs,S)
   |none=>none
  |none=>none
 | .cell a t::rs,hs=>match L.lookup a with
  |some (.pointer (some ⟨b,o,none⟩))=>match M[hs.headD 0]? with
   |some (b',cs)=>match T.Kh t with
    |some (false,_)=>match cs[o]? with
     |some v=>match we T M L rs hs.tail with
      |some (vs,S)=>some (v::vs,(b'=b)::S)
      |none=>none
     |none=>none
    |some (true,n)=>match Nat.beq o 0 with
     |true=>match Nat.beq cs.length n with
      |true=>match we T M L rs hs.tail with
       |some (vs,S)=>some (.agg cs.toArray::vs,(b'=b)::S)
       |none=>none
      |false=>none
     |false=>match we T M L rs hs.tail with
      |some (vs,S)=>some (.agg ((cs.drop o).take n).toArray::vs,(b'=b)::(((cs.drop o).take n).length=n)::S)
      |none=>none
    |none=>none
   |none=>none
  |_=>none
theorem oE {P:Program} {T:Cu} {M:List (Nat×List Value)} {L:dA} {C:List aw} (hT:lB P T) (hM:MM C M): ∀ (rs:List ResultVar) (hs:List Nat) {vs:List Value} {S:List Prop},we T M L rs hs=some (vs,S)→qd S→Gd P L C rs vs
 |[],_,vs,S,h,hS=>by unfold we at h; cases h; exact trivial
 | .tmp t::rs,hs,vs,S,h,hS=>by
  unfold we at h
  split at h
  ·rename_i v hv
   split at h
   ·rename_i vs' S' hr
    cases h
    exact ⟨hv,oE hT hM rs hs hr hS⟩
   ·cases h
  ·cases h
 | .cell a t::rs,hs,vs,S,h,hS=>by
  unfold we at h
  split at h
  ·rename_i b o hl
   split at h
   ·rename_i b' cs hm
    have A:=aP hm
    split at h
    ·rename_i hk
     split at h
     ·rename_i v hv
      split at h
      ·rename_i vs' S' hr
       cases h
       obtain ⟨rfl,hS⟩:=hS
       exact ⟨⟨_,hl,.inr ⟨_,hT.Kh hk,hM _ A _ _ (vR hv)⟩⟩,oE hT hM rs _ hr hS⟩
      ·cases h
     ·cases h
    ·rename_i n hk
     split at h
     ·rename_i ho
      split at h
      ·rename_i hn
       split at h
       ·rename_i vs' S' hr
        cases h
        obtain ⟨rfl,hS⟩:=hS
        have D:=Nat.eq_of_beq_eq_true ho
        subst D
        exact ⟨⟨_,hl,.inl ⟨_,cs,hT.Kh hk,hM _ A 0 cs sm,Nat.eq_of_beq_eq_true hn,U⟩⟩,oE hT hM rs _ hr hS⟩
       ·cases h
      ·cases h
     ·split at h
      ·rename_i vs' S' hr
       cases h
       obtain ⟨rfl,B,hS⟩:=hS
       exact ⟨⟨_,hl,.inl ⟨_,_,hT.Kh hk,hM _ A o _ (by rw [B]),B,U⟩⟩,oE hT hM rs _ hr hS⟩
      ·cases h
    ·cases h
   ·cases h
  ·cases h
section
variable {P:Program} {n:Nat} {fn:Func} {w0:World} {K:Act→World→Prop} {L:List (Nat×Value)} {C:List aw} {M:List (Nat×List Value)} {vs:List Value} {S:List Prop} {u x v:Value}
theorem Cs (hQ: ∀ D L C,LJ ⟨P,none,n,td,w0⟩ fn (Aj w0 v) D L C→KJ ⟨P,none,n,td,w0⟩ K D L C) (hs:List Nat) (hM:MM C M) (h:we TT M L fn.results.toList hs=some ([u],S)) (e:u=v) (hS:qd S:=by repeat' first|exact True.intro |refine kv rfl ?_) (hT:lB P TT:=by exact qt):KJ ⟨P,none,n,td,w0⟩ K [] L C:=
 hQ _ _ _ (jZ (oE hT hM _ _ h hS) fun w hs=>AE e hs)
theorem mQ (hQ: ∀ D L C,LJ ⟨P,none,n,td,w0⟩ fn (Aj w0 v) D L C→KJ ⟨P,none,n,td,w0⟩ K D L C) (hs:List Nat) (hM:MM C M) (h:we TT M L fn.results.toList hs=some (u::x::vs,S)) (e:Value.tuple (u::x::vs).toArray=v) (hS:qd S:=by repeat' first|exact True.intro |refine kv rfl ?_) (hT:lB P TT:=by exact qt):KJ ⟨P,none,n,td,w0⟩ K [] L C:=
 hQ _ _ _ (jZ (oE hT hM _ _ h hS) fun w hs=>AE e hs)
theorem LX {α:Type} {V:α→Value} {p:α→Prop} {N:α→List aw} (hQ: ∀ D L C,LJ ⟨P,none,n,td,w0⟩ fn (Hk w0 V p N) D L C→KJ ⟨P,none,n,td,w0⟩ K D L C) (x:α) (is hs:List Nat) (hM:MM C M) (h:we TT M L fn.results.toList hs=some (vs,S)) (hw:(N x).all (·.wr)=true) (hN:kG C is=N x) (hV:Pq vs=V x) (hp:p x) (hn:decide is.Nodup=true:=by rfl) (hS:qd S:=by repeat' first|exact True.intro |refine kv rfl ?_) (hT:lB P TT:=by exact qt):KJ ⟨P,none,n,td,w0⟩ K [] L C:=
 hQ _ _ _ (jZ (oE hT hM _ _ h hS) fun w hs=>OZ x is hV hp hn hN hw hs)
theorem LM {A:aw} {α:Type} {V:α→Value} {p:α→Prop} {A':α→aw} (hQ: ∀ D L C,LJ ⟨P,none,n,⟨A.wf,fun _=>True⟩,w0⟩ fn (Lh w0 A V p A') D L C→KJ ⟨P,none,n,⟨A.wf,fun _=>True⟩,w0⟩ K D L C) (x:α) (i:Nat) (hs:List Nat) (hM:MM C M) (h:we TT M L fn.results.toList hs=some (vs,S)) (hw:(A' x).wr=true) (hC:C[i]? =some (A' x)) (hV:Pq vs=V x) (hp:p x) (hS:qd S:=by repeat' exact True.intro) (hT:lB P TT:=by exact qt):KJ ⟨P,none,n,⟨A.wf,fun _=>True⟩,w0⟩ K [] L C:=
 hQ _ _ _ (jZ (oE hT hM _ _ h hS) fun w hs=>Ri x i hV hp hC hw hs)
end
end
section
open Go.RowKit
def D1 {α:Type _}:List α→List α→Option (List α)
 |[],m=>some m
 |a::l,m=>match D1 l m with
  |some r=>some (a::r)
  |none=>none
theorem Eb {α:Type _}: ∀ {l m r:List α},D1 l m=some r→l++m=r
 |[],m,r,h=>by cases h; rfl
 |a::l,m,r,h=>by
  unfold D1 at h
  split at h
  ·rename_i r' hr
   cases h
   exact congrArg (a:: ·) (Eb hr)
  ·cases h
def R_ (L:dA):List Nat→Option (dA)
 |[]=>some []
 |t::ts=>match L.lookup t with
  |some v=>match R_ L ts with
   |some r=>some ((t,v)::r)
   |none=>none
  |none=>none
theorem Ex {L M:dA} (k:dG L M): ∀ {ts:List Nat} {r:dA},R_ L ts=some r→dG L (r++M)
 |[],r,h=>by cases h; exact k
 |t::ts,r,h=>by
  unfold R_ at h
  split at h
  ·rename_i v hv
   split at h
   ·rename_i r' hr
    cases h
    exact dG.cons hv (Ex k hr)
   ·cases h
  ·cases h
section
variable {E:e9} {Q:dq} {D:List Deferred} {L L0:List (Nat×Value)} {C C0:List aw} {ι:Type} {Li:ι→List (Nat×Value)} {Ci:ι→List aw}
theorem bZ {c:Code} (kL kC:List Nat) (hL:R_ L kL=some L0) (hC0:pH C kC=some C0) (S:ι→dA) (G:ι→List aw) (hLi: ∀ x,D1 L0 (S x)=some (Li x)) (hCi: ∀ x,D1 C0 (G x)=some (Ci x)) (μ:ι→Nat) (x0:ι)
 (h0:dG L (S x0)) (hC: ∀ w,St E.S E.w0 C w→St E.S E.w0 (Ci x0) w)
 (round: ∀ x (J:Act→World→Prop),(∀ y D' L' C',D'=D→μ y<μ x→dG L' (Li y)→(∀ w,St E.S E.w0 C' w→St E.S E.w0 (Ci y) w)→KJ E J D' L' C')→WJ E c (Exit.then J Q) D (Li x) (Ci x)):WJ E (.loop c) Q D L C:=
 NM Li Ci μ x0 (Eb (hLi x0)▸Ex h0 hL) hC round
theorem oi {x y:Code} (kL kC:List Nat) (hL:R_ L kL=some L0) (hC0:pH C kC=some C0) (S:ι→dA) (G:ι→List aw) (hLi: ∀ x,D1 L0 (S x)=some (Li x)) (hCi: ∀ x,D1 C0 (G x)=some (Ci x))
 (hy: ∀ z,WJ E y Q D (Li z) (Ci z)) (h: ∀ K:Act→World→Prop,(∀ z,KJ E K D (Li z) (Ci z))→WJ E x (Exit.then K Q) D L C):WJ E (.seq x y) Q D L C:=NC Li Ci hy h
end
end
section
open Go.RowKit
set_option linter.unusedSectionVars false
/-- what is asked of keys -/
structure uU (P:Program) (kt:Nat) {K:Type} (kV:K→Value):Prop where
 check: ∀ (e:Bool) (x:K) (w:World),(Instr.checkKey e 10000 kt (kV x)).run P w= .ok () w
 find: ∀ (x:K) (w:World) (es:List MapEntry),(∀ e∈es,∃ k,e.key=kV k)→
  ((Instr.findKey kt (kV x) es).run P w= .ok none w∧ ∀ e∈es,e.key≠kV x)∨ ∃ j e,(Instr.findKey kt (kV x) es).run P w= .ok (some (j,e.val)) w∧es[j]? =some e∧e.key=kV x
 bits: ∀ x,Instr.sameBits 10000 (kV x) (kV x)=true
 inj: ∀ x y,kV x=kV y→x=y
section
variable {K:Type} [DecidableEq K] {kV:K→Value}
def eo {β:Type} (l:List (K×β)) (x:K) (y:β):List (K×β):=if (l.lookup x).isSome then l.map (fun p=>if p.1=x then (x,y) else p) else l++[(x,y)]
def eY {β:Type} (l:List (K×β)) (x:K):List (K×β):=l.filter fun p=> !decide (p.1=x)
def cR {β γ:Type} (f:β→γ) (l:List (K×β)):List (K×γ):=l.map fun p=>(p.1,f p.2)
theorem m_ {β γ:Type} (f:β→γ) (x:K): ∀ l:List (K×β),(cR f l).lookup x=(l.lookup x).map f
 |[]=>rfl
 |p::l=>by
  obtain ⟨k,v⟩:=p
  have ih:=m_ f x l
  by_cases h:x=k
  ·subst h; simp [cR,List.lookup]
  ·have:(x==k)=false:=by simpa using h
   simp only [cR,List.map_cons,List.lookup,this] at ih ⊢
   exact ih
theorem gN {β γ:Type} (f:β→γ) (l:List (K×β)) (x:K) (y:β):cR f (eo l x y)=eo (cR f l) x (f y):=by
 unfold eo
 rw [m_,Option.isSome_map]
 split
 ·simp only [cR,List.map_map]
  refine List.map_congr_left fun p _=>?_
  simp only [Function.comp]
  split<;>rfl
 ·simp [cR]
theorem nQ {β γ:Type} (f:β→γ) (l:List (K×β)) (x:K):cR f (eY l x)=eY (cR f l) x:=by
 unfold eY cR
 rw [List.filter_map]
 rfl
theorem iA {β:Type} {x:K}: ∀ {l:List (K×β)},l.lookup x=none↔ ∀ p∈l,p.1≠x
 |[]=>by simp
 |p::l=>by
  obtain ⟨k,v⟩:=p
  by_cases h:x=k
  ·subst h; simp [List.lookup]
  ·have hb:(x==k)=false:=by simpa using h
   simp only [List.lookup,hb,bR,forall_eq_or_imp]
   rw [iA (l:=l)]
   exact ⟨fun q=>⟨fun e=>h e.symm,q⟩,fun q=>q.2⟩
theorem lu {β:Type} {x:K} {y:β}: ∀ {l:List (K×β)},(l.map (·.1)).Nodup→((x,y)∈l↔l.lookup x=some y)
 |[],_=>by simp
 |p::l,hn=>by
  obtain ⟨k,v⟩:=p
  simp only [List.map_cons,List.nodup_cons] at hn
  by_cases h:x=k
  ·subst h
   simp only [List.lookup,beq_self_eq_true,bR,Prod.mk.injEq,true_and,Option.some.injEq]
   constructor
   ·rintro (e|e)
    ·exact e.symm
    ·exact absurd (cy.2 ⟨_,e,U⟩) hn.1
   ·intro e; exact .inl e.symm
  ·have hb:(x==k)=false:=by simpa using h
   simp only [List.lookup,hb,bR,Prod.mk.injEq,h,false_and,false_or]
   exact lu hn.2
structure jA (kV:K→Value) (es:Array MapEntry) (c:Nat) (m:List (K×Value)):Prop where
 list:es.toList.map (fun (e:MapEntry)=>(e.key,e.val))=m.map (fun p=>(kV p.1,p.2))
 keys:(m.map (·.1)).Nodup
 Ka: ∀ e∈es.toList,e.born<c
 born:(es.toList.map (·.born)).Nodup
def kh (kV:K→Value) (b:Nat) (m:List (K×Value)):aw where
 fr k:=k=b
 wf k:=k=b
 holds w:= ∃ es c,w.heap[b]? =some (.map es c)∧jA kV es c m
 wr:=true
 kD _ h:=h
 whole _ _ h:=h
 lt w h k hk:=by obtain ⟨es,c,he,_⟩:=h; exact hk▸dM he
 oN w w' hk h:=by obtain ⟨es,c,he,hm⟩:=h; exact ⟨es,c,(hk b rfl).trans he,hm⟩
theorem jA.nil:jA kV #[] 0 []:=⟨rfl,List.nodup_nil,sm,List.nodup_nil⟩
theorem jA.size {es:Array MapEntry} {c:Nat} {m:List (K×Value)} (h:jA kV es c m):es.size=m.length:=by
 have:=congrArg List.length h.list
 simpa using this
theorem CF {P:Program} {kt:Nat} (hk:uU P kt kV) (x:K): ∀ (es:List MapEntry) (m:List (K×Value)),es.map (fun (e:MapEntry)=>(e.key,e.val))=m.map (fun p=>(kV p.1,p.2))→
 ((∀ e∈es,e.key≠kV x)→m.lookup x=none)∧ ∀ (j:Nat) (e:MapEntry),es[j]? =some e→e.key=kV x→m[j]? =some (x,e.val):=by
 intro es m h
 refine ⟨fun hn=>iA.2 fun p hp e=>?_,fun j e he hx=>?_⟩
 ·have:(kV p.1,p.2)∈es.map (fun (e:MapEntry)=>(e.key,e.val)):=by rw [h]; exact cy.2 ⟨p,hp,rfl⟩
  obtain ⟨z,hz,B⟩:=cy.1 this
  simp only [Prod.mk.injEq] at B
  exact hn z hz (by rw [B.1,e])
 ·have A:(es.map (fun (e:MapEntry)=>(e.key,e.val)))[j]? =some (e.key,e.val):=by rw [fO,he]; rfl
  rw [h,fO] at A
  cases hm:m[j]? with
  |none=>simp [hm] at A
  |some p=>
   simp only [hm,Option.map_some,Option.some.injEq,Prod.mk.injEq] at A
   have:=hk.inj _ _ (A.1.trans hx)
   obtain ⟨k,v⟩:=p
   simp only at this A
   rw [this,A.2]
theorem o4 {P:Program} {w:World} {kt:Nat} {x:K} {es:Array MapEntry} {c:Nat} {m:List (K×Value)} (hk:uU P kt kV) (h:jA kV es c m):
 ((Instr.findKey kt (kV x) es.toList).run P w= .ok none w∧m.lookup x=none)∨
 ∃ j v,(Instr.findKey kt (kV x) es.toList).run P w= .ok (some (j,v)) w∧m[j]? =some (x,v)∧m.lookup x=some v:=by
 obtain ⟨D,E⟩:=CF hk x es.toList m h.list
 rcases hk.find x w es.toList (fun e he=>by
  have:(e.key,e.val)∈m.map (fun p=>(kV p.1,p.2)):=by rw [← h.list]; exact cy.2 ⟨e,he,rfl⟩
  obtain ⟨p,_,hp⟩:=cy.1 this
  simp only [Prod.mk.injEq] at hp
  exact ⟨p.1,hp.1.symm⟩) with ⟨A,B⟩|⟨j,e,A,B,C⟩
 ·exact .inl ⟨A,D B⟩
 ·have:=E j e B C
  exact .inr ⟨j,e.val,A,this,(lu h.keys).1 (aP this)⟩
theorem jn {P:Program} {w:World} {kt:Nat} {x:K} (hk:uU P kt kV) (e:Bool):(Instr.checkKey e 10000 kt (kV x)).run P w= .ok () w:=hk.check e x w
section
variable {E:e9} {ops:Array Oper} {Q:dq} {rest:List Oper} {D:List Deferred} {L:List (Nat×Value)} {C:List aw}
variable {dst:Option Tmp} {d:Nat} {ty:TypeId} {ps:String} {af:Array Edge} {g:Option (Nat×Bool)}
theorem mJ {t:TypeId} (hg:kj ops L g=true) (hd:Nat.blt d E.n=true) (k: ∀ b,RJ E ops Q rest D ((d,.map (some b))::L) (kh kV b []::C)):RJ E ops Q (⟨some d,.makeMap t none,ty,ps,af,g⟩::rest) D L C:=by
 intro a w B hs
 have hd':d<E.n:=by rw [← Nat.blt_eq]; exact hd
 unfold sG
 rw [if_pos (eB B hg)]
 refine jh (v:= .map (some w.heap.size)) (w':=w.alloc (.map #[] 0)) sm ?_ ?_
 ·simp [execOp,Instr.makeMap,newObj,Sem.run]
 ·refine k _ _ _ (B.put hd' _) (hs.grow (dR.alloc no w _) (N:=[kh kV w.heap.size []]) ⟨fun A hA=>?_,fun A hA b hb=>?_,List.pairwise_singleton _ _⟩)
  ·simp at hA; subst hA; exact ⟨#[],0,heap_alloc_new w _,jA.nil⟩
  ·simp at hA; subst hA; exact Nat.le_of_eq (Eq.symm hb)
theorem jA.push {es:Array MapEntry} {c:Nat} {m:List (K×Value)} (h:jA kV es c m) {x:K} (hx:m.lookup x=none) (v:Value):jA kV (es.push {key:=kV x,val:=v,born:=c}) (c+1) (m++[(x,v)]):=by
 refine ⟨by simp [h.list],?_,?_,?_⟩
 ·rw [List.map_append,List.nodup_append]
  refine ⟨h.keys,sm,fun a ha b hb=>?_⟩
  simp at hb; subst hb
  obtain ⟨p,hp,rfl⟩:=cy.1 ha
  exact iA.1 hx p hp
 ·intro e he
  simp only [Array.toList_push,g0,cm] at he
  rcases he with he|rfl
  ·exact Nat.lt_succ_of_lt (h.Ka e he)
  ·exact Nat.lt_succ_self _
 ·simp only [Array.toList_push,List.map_append,List.map_cons,List.map_nil]
  rw [List.nodup_append]
  refine ⟨h.born,sm,fun a ha b hb=>?_⟩
  simp at hb; subst hb
  obtain ⟨p,hp,rfl⟩:=cy.1 ha
  exact Nat.ne_of_lt (h.Ka p hp)
theorem LS {m:List (K×Value)} {j:Nat} {x:K} {v0 v:Value} (hn:(m.map (·.1)).Nodup) (hj:m[j]? =some (x,v0)):m.map (fun p=>if p.1=x then (x,v) else p)=m.set j (x,v):=by
 refine List.ext_getElem? fun i=>?_
 rw [fO,List.getElem?_set]
 by_cases e:j=i
 ·subst e
  have hl:=(aY.1 hj).1
  rw [hj]; simp [hl]
 ·rw [if_neg e]
  cases hi:m[i]? with
  |none=>rfl
  |some p=>
   simp only [Option.map_some]
   rw [if_neg]
   intro hp
   have B:(m.map (·.1))[i]? =some x:=by rw [fO,hi]; simp [hp]
   have C:(m.map (·.1))[j]? =some x:=by rw [fO,hj]; rfl
   have A:=(aY.1 B).1
   exact e (((List.getElem?_inj A hn).1 (B.trans C.symm)).symm)
theorem jA.set {es:Array MapEntry} {c:Nat} {m:List (K×Value)} (h:jA kV es c m) {x:K} {j:Nat} {v0:Value} (hj:m[j]? =some (x,v0)) (hx:m.lookup x=some v0) (v:Value):
 jA kV (es.modify j fun e=>{e with key:=kV x,val:=v}) c (eo m x v):=by
 have C:eo m x v=m.set j (x,v):=by unfold eo; rw [hx]; simpa using LS h.keys hj
 have hl:=(aY.1 hj).1
 have E:=h.size
 have A:j<es.size:=by omega
 have B:(es.modify j fun e=>{e with key:=kV x,val:=v}).toList=es.toList.set j {(es[j]) with key:=kV x,val:=v}:=by
  refine List.ext_getElem? fun i=>?_
  rw [Array.getElem?_toList,Array.getElem?_modify,List.getElem?_set]
  by_cases e:j=i
  ·subst e; simp [A]
  ·simp [e]
 have D:(es.toList.set j {(es[j]) with key:=kV x,val:=v}).map (·.born)=es.toList.map (·.born):=by
  rw [List.map_set]
  refine List.ext_getElem? fun i=>?_
  rw [List.getElem?_set]
  by_cases e:j=i
  ·subst e; simp [A]
  ·rw [if_neg e]
 refine ⟨?_,?_,?_,?_⟩
 ·rw [B,C,List.map_set,List.map_set,h.list]
 ·rw [C,List.map_set]
  have:(m.map (·.1)).set j x=m.map (·.1):=by
   refine List.ext_getElem? fun i=>?_
   rw [List.getElem?_set]
   by_cases e:j=i
   ·subst e; simp [hl]; simpa using (congrArg Prod.fst ((aY.1 hj).2)).symm
   ·rw [if_neg e]
  simp only [this]
  exact h.keys
 ·intro e he
  rw [B] at he
  have hb:e.born∈(es.toList.set j {(es[j]) with key:=kV x,val:=v}).map (·.born):=cy.2 ⟨e,he,rfl⟩
  rw [D] at hb
  obtain ⟨e',he',hq⟩:=cy.1 hb
  rw [← hq]; exact h.Ka e' he'
 ·rw [B,D]; exact h.born
/-- m[x] = y -/
theorem ja {t kt et:TypeId} {xm xk xv:Operand} {b:Nat} {x:K} {v:Value} {m m':List (K×Value)} {C':List aw} (i:Nat) (hg:kj ops L g=true) (hm:ev L xm=some (.map (some b))) (hk:ev L xk=some (kV x)) (hv:ev L xv=some v)
 (ht:E.P.underlying t=some (.map kt et)) (hkt:uU E.P kt kV) (hC:C[i]? =some (kh kV b m)) (hm':eo m x v=m') (hC':C.set i (kh kV b m')=C') (k:RJ E ops Q rest D L C'):
 RJ E ops Q (⟨none,.mapUpdate t xm xk xv,ty,ps,af,g⟩::rest) D L C:=by
 subst hm' hC'
 intro a w A hs
 unfold sG
 rw [if_pos (eB A hg)]
 obtain ⟨es,c,he,hi⟩:=hs.holds _ (aP hC)
 have B:(getObj b).run E.P w= .ok (.map es c) w:=MapKept.run_getObj_map he
 rcases o4 (P:=E.P) (w:=w) (x:=x) hkt hi with ⟨AA,F⟩|⟨j,N,AA,F,J⟩
 ·refine sj (w':={w with heap:=w.heap.setIfInBounds b (.map (es.push {key:=kV x,val:=v,born:=c}) (c+1))}) sm ?_ ?_
  ·simp [execOp,A.ev hm,A.ev hk,A.ev hv,Instr.mapUpdate,run_underlying ht,B,jn hkt,AA,MapKept.run_setObj_map _ he]
  ·refine k _ _ ⟨A.defers,A.size,A.at_⟩ (hs.y7 (b:=b) i hC U U (nk _) (fun _ h=>h) ⟨_,_,pJ he,?_⟩)
   have:eo m x v=m++[(x,v)]:=by unfold eo; rw [F]; rfl
   rw [this]; exact hi.push F v
 ·have M:=hi.size
  have G:j<es.size:=by have:=(aY.1 F).1; omega
  have H:(es[j]).key=kV x:=by
   have:=congrArg (fun l=>l[j]?) hi.list
   simp [G,F] at this
   exact this.1
  refine sj (w':={w with heap:=w.heap.setIfInBounds b (.map (es.modify j fun e=>{e with key:=kV x,val:=v}) c)}) sm ?_ ?_
  ·simp [execOp,A.ev hm,A.ev hk,A.ev hv,Instr.mapUpdate,run_underlying ht,B,jn hkt,AA,MapKept.run_setObj_map _ he,Instr.keyThatStays,G,H,hkt.bits x]
  ·exact k _ _ ⟨A.defers,A.size,A.at_⟩ (hs.y7 (b:=b) i hC U U (nk _) (fun _ h=>h) ⟨_,_,pJ he,hi.set F J v⟩)
theorem jA.del {es:Array MapEntry} {c:Nat} {m:List (K×Value)} (h:jA kV es c m) {x:K} {j:Nat} {v0:Value} (hj:m[j]? =some (x,v0)):jA kV (es.eraseIdxIfInBounds j) c (eY m x):=by
 have hl:=(aY.1 hj).1
 have D:=h.size
 have A:j<es.size:=by omega
 have B:(es.eraseIdxIfInBounds j).toList=es.toList.eraseIdx j:=by simp [Array.eraseIdxIfInBounds,A]
 have E:eY m x=m.eraseIdx j:=by
  have hn:=h.keys
  clear h D A B
  induction m generalizing j with
  |nil=>simp at hj
  |cons p m ih=>
   obtain ⟨k,v⟩:=p
   simp only [List.map_cons,List.nodup_cons] at hn
   cases j with
   |zero=>
    simp at hj
    obtain ⟨rfl,rfl⟩:=hj
    simp only [eY,List.eraseIdx_zero,List.tail_cons]
    rw [List.filter_cons_of_neg sm]
    refine List.filter_eq_self.2 fun p hp=>?_
    have:p.1≠k:=fun e=>hn.1 (cy.2 ⟨p,hp,e⟩)
    simpa using this
   |succ j=>
    simp only [List.getElem?_cons_succ] at hj
    have C:k≠x:=fun e=>hn.1 (cy.2 ⟨_,aP hj,e.symm⟩)
    simp only [eY,List.eraseIdx_cons_succ] at ih ⊢
    rw [List.filter_cons_of_pos (by simpa using C),ih hj (by simpa using (aY.1 hj).1) hn.2]
 have sub:(es.eraseIdxIfInBounds j).toList.Sublist es.toList:=by rw [B]; exact List.eraseIdx_sublist _ _
 refine ⟨?_,?_,fun e he=>h.Ka e (sub.subset he),h.born.sublist (sub.map _)⟩
 ·rw [B,E,ChangeMaps.map_eraseIdx,ChangeMaps.map_eraseIdx,h.list]
 ·rw [E]; exact h.keys.sublist ((List.eraseIdx_sublist _ _).map _)
theorem DO {m:List (K×Value)} {x:K} (h:m.lookup x=none):eY m x=m:=List.filter_eq_self.2 fun p hp=>by simpa using iA.1 h p hp
/-- y, ok := m[x] -/
theorem Hm {t kt et:TypeId} {xm xk:Operand} {b:Nat} {x:K} {z:Value} {m:List (K×Value)} (hg:kj ops L g=true) (hm:ev L xm=some (.map (some b))) (hk:ev L xk=some (kV x))
 (ht:E.P.underlying t=some (.map kt et)) (hkt:uU E.P kt kV) (hz:tV E.P et=some z) (hC:js C (kh kV b m).holds):
 SD E ops ⟨dst,.lookup t xm xk true,ty,ps,af,g⟩ D L C (.tuple [(m.lookup x).getD z,.bool (m.lookup x).isSome].toArray):=
 eN hg sm fun a w A hs=>by
  obtain ⟨es,c,he,hi⟩:=hs.has hC
  have B:(getObj b).run E.P w= .ok (.map es c) w:=MapKept.run_getObj_map he
  rcases o4 (P:=E.P) (w:=w) (x:=x) hkt hi with ⟨F,G⟩|⟨j,AA,F,G,H⟩
  ·simp [execOp,Instr.lookup,A.ev hm,A.ev hk,run_underlying ht,B,jn hkt,F,G,JA hz]
  ·simp [execOp,Instr.lookup,A.ev hm,A.ev hk,run_underlying ht,B,jn hkt,F,H]
/-- m[x] -/
theorem FI {t kt et:TypeId} {xm xk:Operand} {b:Nat} {x:K} {z:Value} {m:List (K×Value)} (hg:kj ops L g=true) (hm:ev L xm=some (.map (some b))) (hk:ev L xk=some (kV x))
 (ht:E.P.underlying t=some (.map kt et)) (hkt:uU E.P kt kV) (hz:tV E.P et=some z) (hC:js C (kh kV b m).holds):
 SD E ops ⟨dst,.lookup t xm xk false,ty,ps,af,g⟩ D L C ((m.lookup x).getD z):=
 eN hg sm fun a w A hs=>by
  obtain ⟨es,c,he,hi⟩:=hs.has hC
  have B:(getObj b).run E.P w= .ok (.map es c) w:=MapKept.run_getObj_map he
  rcases o4 (P:=E.P) (w:=w) (x:=x) hkt hi with ⟨F,G⟩|⟨j,AA,F,G,H⟩
  ·simp [execOp,Instr.lookup,A.ev hm,A.ev hk,run_underlying ht,B,jn hkt,F,G,JA hz]
  ·simp [execOp,Instr.lookup,A.ev hm,A.ev hk,run_underlying ht,B,jn hkt,F,H]
theorem sM {β:Type} {t kt et:TypeId} {xm xk:Operand} {b:Nat} {x:K} {f:β→Value} {z:β} {l:List (K×β)} (hg:kj ops L g=true) (hm:ev L xm=some (.map (some b))) (hk:ev L xk=some (kV x))
 (ht:E.P.underlying t=some (.map kt et)) (hkt:uU E.P kt kV) (hz:tV E.P et=some (f z)) (hC:js C (kh kV b (cR f l)).holds):
 SD E ops ⟨dst,.lookup t xm xk true,ty,ps,af,g⟩ D L C (.tuple [f ((l.lookup x).getD z),.bool (l.lookup x).isSome].toArray):=by
 have:=Hm (dst:=dst) (ty:=ty) (ps:=ps) (af:=af) (D:=D) hg hm hk ht hkt hz hC
 rw [m_] at this
 have A:((l.lookup x).map f).getD (f z)=f ((l.lookup x).getD z):=by cases l.lookup x<;>rfl
 rw [A,Option.isSome_map] at this
 exact this
theorem vX {β:Type} {t kt et:TypeId} {xm xk:Operand} {b:Nat} {x:K} {f:β→Value} {z:β} {l:List (K×β)} (hg:kj ops L g=true) (hm:ev L xm=some (.map (some b))) (hk:ev L xk=some (kV x))
 (ht:E.P.underlying t=some (.map kt et)) (hkt:uU E.P kt kV) (hz:tV E.P et=some (f z)) (hC:js C (kh kV b (cR f l)).holds):
 SD E ops ⟨dst,.lookup t xm xk false,ty,ps,af,g⟩ D L C (f ((l.lookup x).getD z)):=by
 have:=FI (dst:=dst) (ty:=ty) (ps:=ps) (af:=af) (D:=D) hg hm hk ht hkt hz hC
 rw [m_] at this
 have A:((l.lookup x).map f).getD (f z)=f ((l.lookup x).getD z):=by cases l.lookup x<;>rfl
 rw [A] at this
 exact this
end
theorem mH {β:Type} {x:K} {y:β} {l:List (K×β)} (h:(x,y)∈l):(eY l x).length<l.length:=by
 unfold eY
 exact List.length_filter_lt_length_iff_exists.2 ⟨_,h,sm⟩
theorem yF {β:Type} {x:K} {p:K×β} {l:List (K×β)}:p∈eY l x↔p∈l∧p.1≠x:=by simp [eY]
/-- an iterator over a map: what is left; what came last -/
def zy (kV:K→Value) (r b:Nat) (m left:List (K×Value)) (cur:Option (K×Value)):aw where
 fr k:=k=r∨k=b
 wf k:=k=r∨k=b
 holds w:=r≠b∧ ∃ (es:Array MapEntry) (c since:Nat) (seen:Array Nat) (st:Nat),w.heap[b]? =some (.map es c)∧jA kV es c m∧w.heap[r]? =some (.mapIter (some b) since seen st)∧(∀ e∈es.toList,e.born<since)∧since≤st∧since≤c∧
  (leftOf es seen).toList.map (fun (e:MapEntry)=>(e.key,e.val))=left.map (fun p=>(kV p.1,p.2))∧
  ∀ p,cur=some p→ ∃ (e:MapEntry) (seen0:Array Nat),e∈es.toList∧seen=seen0.push e.born∧st=c∧e.key=kV p.1∧e.val=p.2
 wr:=true
 kD _ h:=h
 whole _ _ h:=h
 lt w h k hk:=by
  obtain ⟨_,es,c,since,seen,st,h1,_,h2,_⟩:=h
  rcases hk with rfl|rfl
  ·exact dM h2
  ·exact dM h1
 oN w w' hk h:=by
  obtain ⟨hne,es,c,since,seen,st,h1,h2,h3,h4⟩:=h
  exact ⟨hne,es,c,since,seen,st,(hk b (.inr rfl)).trans h1,h2,(hk r (.inl rfl)).trans h3,h4⟩
theorem Bg {r b:Nat} {m left:List (K×Value)} {cur:Option (K×Value)}:(∀ w,(zy kV r b m left cur).holds w→(zy kV r b m left none).holds w)∧(∀ k,(zy kV r b m left none).fr k→(zy kV r b m left cur).fr k)∧ ∀ k,(zy kV r b m left none).wf k→(zy kV r b m left cur).wf k:=
 ⟨fun w h=>by
  obtain ⟨A,es,c,since,seen,st,B,C,D,E,F,h5',G,_⟩:=h
  exact ⟨A,es,c,since,seen,st,B,C,D,E,F,h5',G,fun p hp=>by cases hp⟩,fun _ h=>h,fun _ h=>h⟩
theorem Hb {r b:Nat} {m left:List (K×Value)} {cur:Option (K×Value)}:(∀ w,(zy kV r b m left cur).holds w→(kh kV b m).holds w)∧(∀ k,(kh kV b m).fr k→(zy kV r b m left cur).fr k)∧ ∀ k,(kh kV b m).wf k→(zy kV r b m left cur).wf k:=
 ⟨fun w h=>by
  obtain ⟨C,es,c,since,seen,st,A,B,_⟩:=h
  exact ⟨es,c,A,B⟩,fun _ h=> .inr h,fun _ h=> .inr h⟩
theorem Bz {es:Array MapEntry} {c:Nat} {m:List (K×Value)} (hinj: ∀ x y,kV x=kV y→x=y) (hi:jA kV es c m) {x y:MapEntry} (hx:x∈es.toList) (hy:y∈es.toList) (e:x.key=y.key):x=y:=by
 have hk:(es.toList.map (·.key))=(m.map (·.1)).map kV:=by
  have:=congrArg (List.map Prod.fst) hi.list
  simpa [Function.comp_def] using this
 have h:(es.toList.map (·.key)).Nodup:=by
  rw [hk,List.nodup_iff_pairwise_ne,List.pairwise_map]
  exact hi.keys.imp (fun B he=>B (hinj _ _ he))
 obtain ⟨i,A⟩:=List.getElem?_of_mem hx
 obtain ⟨j,hj⟩:=List.getElem?_of_mem hy
 have C:(es.toList.map (·.key))[i]? =some x.key:=by rw [fO,A]; rfl
 have D:(es.toList.map (·.key))[j]? =some x.key:=by rw [fO,hj,e]; rfl
 have E:=(List.getElem?_inj (aY.1 C).1 h).1 (C.trans D.symm)
 subst E
 exact Option.some.inj (A.symm.trans hj)
section
variable {E:e9} {ops:Array Oper} {Q:dq} {rest:List Oper} {D:List Deferred} {L:List (Nat×Value)} {C:List aw}
variable {dst:Option Tmp} {d:Nat} {ty:TypeId} {ps:String} {af:Array Edge} {g:Option (Nat×Bool)}
theorem yT {t kt et:TypeId} {xm:Operand} {b:Nat} {m:List (K×Value)} (i:Nat) (hg:kj ops L g=true) (hm:ev L xm=some (.map (some b))) (ht:E.P.underlying t=some (.map kt et)) (hC:C[i]? =some (kh kV b m)) (hd:Nat.blt d E.n=true)
 (k: ∀ r,RJ E ops Q rest D ((d,.pointer (some ⟨r,0,none⟩))::L) (C.set i (zy kV r b m m none))):RJ E ops Q (⟨some d,.range t xm,ty,ps,af,g⟩::rest) D L C:=by
 intro a w A hs
 have hd':d<E.n:=by rw [← Nat.blt_eq]; exact hd
 unfold sG
 rw [if_pos (eB A hg)]
 obtain ⟨es,c,he,hi⟩:=hs.holds _ (aP hC)
 have F:b<w.heap.size:=dM he
 have B:(getObj b).run E.P w= .ok (.map es c) w:=MapKept.run_getObj_map he
 refine jh (v:= .pointer (some ⟨w.heap.size,0,none⟩)) (w':=w.alloc (.mapIter (some b) c #[] c)) sm ?_ ?_
 ·simp [execOp,Instr.range,A.ev hm,run_underlying ht,B,newObj,Sem.run]
 ·refine k _ _ _ (A.put hd' _) (hs.mv i hC ⟨⟨I,es,c,c,#[],c,?_,hi,heap_alloc_new w _,hi.Ka,Nat.le_refl _,Nat.le_refl _,?_,fun p hp=>by cases hp⟩,dR.alloc _ w _,fun q hq=>?_,fun q hq=>?_⟩)
  ·rw [Below.heap_alloc w _ b F]; exact he
  ·have:leftOf es #[]=es:=by unfold leftOf; exact Array.filter_eq_self.2 sm
   rw [this]; exact hi.list
  ·rcases hq with rfl|rfl
   ·exact .inr (Nat.le_refl _)
   ·exact .inl U
  ·rcases hq with rfl|rfl
   ·exact .inr (Nat.le_refl _)
   ·exact .inl U
theorem xR {es:Array MapEntry} {c:Nat} {m left:List (K×Value)} {seen:Array Nat} (hinj: ∀ x y,kV x=kV y→x=y) (hi:jA kV es c m) (h:(leftOf es seen).toList.map (fun (e:MapEntry)=>(e.key,e.val))=left.map (fun p=>(kV p.1,p.2))):(left.map (·.1)).Nodup:=by
 have B:((leftOf es seen).toList.map (·.key)).Sublist (es.toList.map (·.key)):=by
  unfold leftOf; rw [Array.toList_filter]; exact List.filter_sublist.map _
 have D:(es.toList.map (·.key))=(m.map (·.1)).map kV:=by
  have:=congrArg (List.map Prod.fst) hi.list
  simpa [Function.comp_def] using this
 have E:((leftOf es seen).toList.map (·.key))=(left.map (·.1)).map kV:=by
  have:=congrArg (List.map Prod.fst) h
  simpa [Function.comp_def] using this
 rw [D,E] at B
 have F:((m.map (·.1)).map kV).Nodup:=by
  rw [List.nodup_iff_pairwise_ne,List.pairwise_map]
  exact hi.keys.imp (fun A he=>A (hinj _ _ he))
 have C:=F.sublist B
 rw [List.nodup_iff_pairwise_ne,List.pairwise_map] at C
 rw [List.nodup_iff_pairwise_ne]
 exact C.imp (fun A he=>A (by rw [he]))
theorem HL (hinj: ∀ x y,kV x=kV y→x=y) {xi:Operand} {r b:Nat} {m left:List (K×Value)} {cur:Option (K×Value)} (i:Nat) (hg:kj ops L g=true) (hm:ev L xi=some (.pointer (some ⟨r,0,none⟩))) (hC:C[i]? =some (zy kV r b m left cur)) (hd:Nat.blt d E.n=true)
 (k0:left=[]→RJ E ops Q rest D ((d,.tuple [.bool false].toArray)::L) C)
 (k1: ∀ x v,(x,v)∈left→(left.map (·.1)).Nodup→RJ E ops Q rest D ((d,.tuple [.bool true,kV x,v].toArray)::L) (C.set i (zy kV r b m (eY left x) (some (x,v))))):
 RJ E ops Q (⟨some d,.next xi false,ty,ps,af,g⟩::rest) D L C:=by
 intro a w G hs
 have hd':d<E.n:=by rw [← Nat.blt_eq]; exact hd
 unfold sG
 rw [if_pos (eB G hg)]
 obtain ⟨R,es,c,since,seen,st,X,hi,Y,J,V,M,A,_⟩:=hs.holds _ (aP hC)
 rcases run_next_at (P:=E.P) w ty r b since st seen es c Y X J V with ⟨Z,hr⟩|⟨e,he,N,H,hr⟩
 ·refine jh (v:= .tuple #[.bool false]) (w':=w) sm ?_ ?_
  ·simp [execOp,G.ev hm,hr]
  ·refine k0 ?_ _ _ (G.put hd' _) hs
   have:(leftOf es seen).toList=[]:=by rw [← List.length_eq_zero_iff,Array.length_toList]; exact Z
   rw [this] at A
   exact List.map_eq_nil_iff.1 A.symm
 ·have O:(e.key,e.val)∈left.map (fun p=>(kV p.1,p.2)):=by rw [← A]; exact cy.2 ⟨e,he,rfl⟩
  obtain ⟨p,hp,S⟩:=cy.1 O
  obtain ⟨x,v⟩:=p
  simp only [Prod.mk.injEq] at S
  obtain ⟨hk,hv⟩:=S
  refine jh (v:= .tuple #[.bool true,e.key,e.val]) (w':=ChangeMaps.setBlock N r (.mapIter (some b) since (seen.push e.born) c)) sm ?_ ?_
  ·simp [execOp,G.ev hm,hr]
  ·rw [← hk,← hv]
   have AA:=xR hinj hi A
   have F:e∈es.toList:=by unfold leftOf at he; rw [Array.toList_filter] at he; exact (List.mem_filter.1 he).1
   have f:c=c:=rfl
   have B:N.heap=w.heap:=by rcases H with rfl|rfl<;>rfl
   refine k1 x v hp AA _ _ (G.put hd' _) (hs.mv i hC ⟨⟨R,es,c,since,seen.push e.born,c,?_,hi,?_,J,M,M,?_,fun q hq=>?_⟩,?_,fun q hq=> .inl hq,fun q hq=> .inl hq⟩)
   ·show (N.heap.setIfInBounds r _)[b]? =_
    rw [Array.getElem?_setIfInBounds_ne R,B]; exact X
   ·show (N.heap.setIfInBounds r _)[r]? =_
    rw [Array.getElem?_setIfInBounds_self_of_lt (by rw [B]; exact dM Y)]
   ·have T:leftOf es (seen.push e.born)=(leftOf es seen).filter (fun z=> !(z.born==e.born)):=by
     unfold leftOf
     rw [Array.filter_filter]
     congr 1
     funext z
     simp only [Array.contains_push,Bool.not_or]
     rw [Bool.and_comm]
    rw [T,Array.toList_filter]
    have key: ∀ (l:List MapEntry) (ll:List (K×Value)),(∀ z∈l,z∈es.toList)→l.map (fun (e:MapEntry)=>(e.key,e.val))=ll.map (fun p=>(kV p.1,p.2))→
     (l.filter (fun z=> !(z.born==e.born))).map (fun (e:MapEntry)=>(e.key,e.val))=(eY ll x).map (fun p=>(kV p.1,p.2)):=by
     intro l
     induction l with
     |nil=>intro ll _ h; cases ll with
      |nil=>rfl
      |cons p ll=>simp at h
     |cons z l ih=>
      intro ll hz h
      cases ll with
      |nil=>simp at h
      |cons p ll=>
       simp only [List.map_cons,List.cons.injEq,Prod.mk.injEq] at h
       have ih':=ih ll (fun y hy=>hz y (by simp [hy])) h.2
       have AB:(z.born=e.born)↔(p.1=x):=by
        constructor
        ·intro hb
         have:z=e:=Cm hi.born (hz z sm) F hb
         rw [this] at h
         have:=h.1.1.symm.trans hk.symm
         exact hinj _ _ this
        ·intro hx
         have W:z.key=e.key:=by rw [h.1.1,hx,hk]
         rw [Bz hinj hi (hz z sm) F W]
       unfold eY at ih' ⊢
       by_cases hx:p.1=x
       ·rw [List.filter_cons_of_neg (by simp [AB.2 hx]),List.filter_cons_of_neg (by simp [hx])]; exact ih'
       ·rw [List.filter_cons_of_pos (by simpa using fun hb=>hx (AB.1 hb)),List.filter_cons_of_pos (by simpa using hx)]
        simp only [List.map_cons,h.1.1,h.1.2,ih']
    exact key _ _ (fun z hz=>by unfold leftOf at hz; rw [Array.toList_filter] at hz; exact (List.mem_filter.1 hz).1) A
   ·cases hq
    exact ⟨e,seen,F,U,U,hk.symm,hv.symm⟩
   ·refine ⟨?_,?_,?_,?_,fun q hq hn=>?_⟩
    ·rcases H with rfl|rfl<;>rfl
    ·rcases H with rfl|rfl<;>rfl
    ·rcases H with rfl|rfl<;>rfl
    ·show w.heap.size≤(N.heap.setIfInBounds r _).size
     simp [B]
    ·show (N.heap.setIfInBounds r _)[q]? =_
     rw [Array.getElem?_setIfInBounds_ne (fun e=>hn (.inl e.symm)),B]
theorem xp {xi:Operand} {r b:Nat} {m left:List (K×Value)} {x:K} {v:Value} (i:Nat) (hg:kj ops L g=true) (hm:ev L xi=some (.pointer (some ⟨r,0,none⟩))) (hC:C[i]? =some (zy kV r b m left (some (x,v)))):
 SD E ops ⟨dst,.entry xi,ty,ps,af,g⟩ D L C (.tuple [kV x,v].toArray):=
 eN hg sm fun a w F hs=>by
  obtain ⟨N,es,c,since,seen,st,J,hi,M,H,O,AA,G,B⟩:=hs.holds _ (aP hC)
  obtain ⟨e,A,he,rfl,rfl,hk,hv⟩:=B _ rfl
  have:=run_entry_at (P:=E.P) w r b since A es st e M J he hi.born
  simp [execOp,F.ev hm,this,hk,hv]
theorem w9 (hinj: ∀ x y,kV x=kV y→x=y) {β:Type} {f:β→Value} {xi:Operand} {r b:Nat} {m:List (K×Value)} {ll:List (K×β)} {cur:Option (K×Value)} (i:Nat) (hg:kj ops L g=true) (hm:ev L xi=some (.pointer (some ⟨r,0,none⟩))) (hC:C[i]? =some (zy kV r b m (cR f ll) cur)) (hd:Nat.blt d E.n=true)
 (k0:ll=[]→RJ E ops Q rest D ((d,.tuple [.bool false].toArray)::L) C)
 (k1: ∀ x y,(x,y)∈ll→(ll.map (·.1)).Nodup→RJ E ops Q rest D ((d,.tuple [.bool true,kV x,f y].toArray)::L) (C.set i (zy kV r b m (cR f (eY ll x)) (some (x,f y))))):
 RJ E ops Q (⟨some d,.next xi false,ty,ps,af,g⟩::rest) D L C:=by
 refine HL hinj i hg hm hC hd (fun h=>k0 (List.map_eq_nil_iff.1 h)) (fun x v B hn=>?_)
 obtain ⟨p,hp,A⟩:=cy.1 B
 simp only [Prod.mk.injEq] at A
 obtain ⟨rfl,rfl⟩:=A
 have:=k1 p.1 p.2 hp (by simpa [cR,Function.comp_def] using hn)
 rwa [nQ] at this
end
end
end
section
structure bY where
 Start:Int
 gd:Int
 qy:List Int
 vz:List (List (Int×ag))
 ck:Int
 dj:Int
 OR:Int
def bY.n (w:bY):Nat:=w.qy.length
def fB (s:Int):aD:=if s<0 then ⟨0,1⟩ else ⟨1,0⟩
def dF (a b:aD):aD:=⟨a.right+b.right,a.eQ+b.eQ⟩
def uv (w:bY) (b:Nat):List (Int×ag):=(w.vz[b]?).getD []
def iT (w:bY) (b:Nat):List (Int×ag):=(-1,⟨w.Start,w.gd⟩)::uv w b
def cf (w:bY) (b:Nat):Int:=(w.qy[b]?).getD 0
def k8 (w:bY) (b:Nat) (p:aD×Int) (o:Int×ag):Option (aD×Int):=if max (p.2+cf w b) o.2.Lo≤min o.2.Hi w.gd then some (dF p.1 (fB o.1),max (p.2+cf w b) o.2.Lo) else none
def fwd (w:bY):Nat→List (aD×Int)
 |0=>[(⟨0,0⟩,w.Start)]
 |b+1=>(fwd w b).flatMap fun p=>(iT w b).filterMap (k8 w b p)
def oc (w:bY) (b:Nat) (p:aD×Int) (o:Int×ag):Option (aD×Int):=if o.2.Lo≤min p.2 o.2.Hi then some (dF p.1 (fB o.1),min p.2 o.2.Hi-cf w b) else none
def bwd (w:bY):Nat→List (aD×Int)
 |0=>[(⟨0,0⟩,w.gd)]
 |k+1=>(⟨0,0⟩,w.gd)::(bwd w k).flatMap fun p=>(iT w (w.n-(k+1))).filterMap (oc w (w.n-(k+1)) p)
def back (w:bY) (b:Nat):List (aD×Int):=bwd w (w.n-b)
def kP (w:bY) (t:aD):Bool:=decide (t.eQ≤w.ck∧w.OR-t.right≤w.dj)
theorem gf {w:bY} {b:Nat} {q:aD×Int}:q∈fwd w (b+1)↔ ∃ p∈fwd w b,∃ o∈iT w b,k8 w b p o=some q:=by
 simp only [fwd,List.mem_flatMap,List.mem_filterMap]
theorem vd {w:bY} {b:Nat} (h:w.n≤b):back w b=[(⟨0,0⟩,w.gd)]:=by
 unfold back; rw [Nat.sub_eq_zero_of_le h]; rfl
theorem o3 {w:bY} {b:Nat} (h:b<w.n) {q:aD×Int}:q∈back w b↔q=(⟨0,0⟩,w.gd)∨ ∃ p∈back w (b+1),∃ o∈iT w b,oc w b p o=some q:=by
 unfold back
 have e:w.n-b=(w.n-(b+1))+1:=by omega
 rw [e]
 simp only [bwd,bR,List.mem_flatMap,List.mem_filterMap]
 rw [show w.n-(w.n-(b+1)+1)=b by omega]
def ue (m c:List (aD×Int)):Prop:=(∀ t v,m.lookup t=some v→(t,v)∈c)∧ ∀ t y,(t,y)∈c→ ∃ v,m.lookup t=some v∧v≤y
def vC (m c:List (aD×Int)):Prop:=(∀ t v,m.lookup t=some v→(t,v)∈c)∧ ∀ t y,(t,y)∈c→ ∃ v,m.lookup t=some v∧y≤v
def vw (m c:List (aD×Int)):Prop:= ∀ t v,m.lookup t=some v→(t,v)∈c
theorem lO {K β:Type} [DecidableEq K] {m:List (K×β)} {x t:K} {y:β}:(eo m x y).lookup t=if t=x then some y else m.lookup t:=by
 unfold eo
 by_cases hx:(m.lookup x).isSome
 ·rw [if_pos hx]
  have key: ∀ l:List (K×β),(l.lookup x).isSome∨True→(l.map (fun p=>if p.1=x then (x,y) else p)).lookup t=if t=x then (if (l.lookup x).isSome then some y else none) else l.lookup t:=by
   intro l _
   induction l with
   |nil=>simp
   |cons p l ih=>
    obtain ⟨k,v⟩:=p
    have ih:=ih (.inr trivial)
    by_cases hk:k=x
    ·subst hk
     by_cases ht:t=k
     ·subst ht; simp [List.lookup]
     ·have:(t==k)=false:=by simpa using ht
      simp only [List.map_cons,if_true,List.lookup,this,ih,if_neg ht]
    ·have hk':(x==k)=false:=by simpa using fun e=>hk e.symm
     by_cases ht:t=k
     ·subst ht; simp [List.lookup,hk]
     ·have A:(t==k)=false:=by simpa using ht
      simp only [List.map_cons,if_neg hk,List.lookup,A,ih,hk']
  rw [key m (.inr trivial)]
  by_cases ht:t=x
  ·subst ht
   rw [if_pos rfl,if_pos rfl,if_pos hx]
  ·rw [if_neg ht,if_neg ht]
 ·rw [if_neg hx]
  have hn:m.lookup x=none:=by cases h0:m.lookup x with
   |none=>rfl
   |some v=>exact absurd (by rw [h0]; rfl) hx
  by_cases ht:t=x
  ·subst ht
   rw [if_pos rfl]
   have:=iA.1 hn
   clear hn hx
   induction m with
   |nil=>simp
   |cons p m ih=>
    obtain ⟨k,v⟩:=p
    have hk:(t==k)=false:=by simpa using fun e=>this (k,v) sm e.symm
    simp only [List.cons_append,List.lookup,hk]
    exact ih (fun q hq=>this q (dW _ hq))
  ·rw [if_neg ht]
   clear hn hx
   induction m with
   |nil=>
    have:(t==x)=false:=by simpa using ht
    simp [List.lookup,this]
   |cons p m ih=>
    obtain ⟨k,v⟩:=p
    by_cases hk:t=k
    ·subst hk; simp [List.lookup]
    ·have:(t==k)=false:=by simpa using hk
     simp only [List.cons_append,List.lookup,this]
     exact ih
/-- what a map is after a try -/
def pK (m:List (aD×Int)) (q:aD×Int):List (aD×Int):=match m.lookup q.1 with
 |none=>eo m q.1 q.2
 |some v=>if q.2<v then eo m q.1 q.2 else m
def pt (m:List (aD×Int)) (q:aD×Int):List (aD×Int):=match m.lookup q.1 with
 |none=>eo m q.1 q.2
 |some v=>if v<q.2 then eo m q.1 q.2 else m
theorem wJ {m:List (aD×Int)} {q:aD×Int} {t:aD}:(pK m q).lookup t=if t=q.1 then some (match m.lookup q.1 with |none=>q.2|some v=>min q.2 v) else m.lookup t:=by
 unfold pK
 cases h:m.lookup q.1 with
 |none=>simp only; rw [lO]
 |some v=>
  simp only
  split
  ·rename_i A
   rw [lO,Int.min_eq_left I]
  ·rename_i A
   split
   ·rename_i e; subst e; rw [h,Int.min_eq_right I]
   ·rfl
theorem wI {m:List (aD×Int)} {q:aD×Int} {t:aD}:(pt m q).lookup t=if t=q.1 then some (match m.lookup q.1 with |none=>q.2|some v=>max q.2 v) else m.lookup t:=by
 unfold pt
 cases h:m.lookup q.1 with
 |none=>simp only; rw [lO]
 |some v=>
  simp only
  split
  ·rename_i A
   rw [lO,Int.max_eq_left I]
  ·rename_i A
   split
   ·rename_i e; subst e; rw [h,Int.max_eq_right I]
   ·rfl
def wZ (m m':List (aD×Int)):Prop:= ∀ t v,m.lookup t=some v→ ∃ v',m'.lookup t=some v'∧v'≤v
def x7 (m m':List (aD×Int)):Prop:= ∀ t v,m.lookup t=some v→ ∃ v',m'.lookup t=some v'∧v≤v'
theorem wZ.refl (m:List (aD×Int)):wZ m m:=fun t v h=>⟨v,h,I⟩
theorem x7.refl (m:List (aD×Int)):x7 m m:=fun t v h=>⟨v,h,I⟩
theorem vL {m:List (aD×Int)} {q:aD×Int}:wZ m (pK m q):=fun t v h=>by
 rw [wJ]
 split
 ·rename_i e; subst e; rw [h]; exact ⟨_,rfl,by simp only; omega⟩
 ·exact ⟨v,h,I⟩
theorem rh {m:List (aD×Int)} {q:aD×Int}:x7 m (pt m q):=fun t v h=>by
 rw [wI]
 split
 ·rename_i e; subst e; rw [h]; exact ⟨_,rfl,by simp only; omega⟩
 ·exact ⟨v,h,I⟩
theorem FZ {m c:List (aD×Int)} {q:aD×Int} (h:vw m c) (hq:q∈c):vw (pK m q) c:=fun t v hv=>by
 rw [wJ] at hv
 split at hv
 ·rename_i e
  subst e
  cases hm:m.lookup q.1 with
  |none=>simp only [hm,Option.some.injEq] at hv; subst hv; exact hq
  |some x=>
   simp only [hm,Option.some.injEq] at hv; subst hv
   rcases Int.lt_or_le q.2 x with A|A
   ·rw [Int.min_eq_left I]; exact hq
   ·rw [Int.min_eq_right I]; exact h _ _ hm
 ·exact h t v hv
theorem Fp {m c:List (aD×Int)} {q:aD×Int} (h:vw m c) (hq:q∈c):vw (pt m q) c:=fun t v hv=>by
 rw [wI] at hv
 split at hv
 ·rename_i e
  subst e
  cases hm:m.lookup q.1 with
  |none=>simp only [hm,Option.some.injEq] at hv; subst hv; exact hq
  |some x=>
   simp only [hm,Option.some.injEq] at hv; subst hv
   rcases Int.lt_or_le q.2 x with A|A
   ·rw [Int.max_eq_right I]; exact h _ _ hm
   ·rw [Int.max_eq_left I]; exact hq
 ·exact h t v hv
theorem F8 {m:List (aD×Int)} {q:aD×Int}: ∃ v,(pK m q).lookup q.1=some v∧v≤q.2:=by
 rw [wJ,if_pos rfl]
 refine ⟨_,U,?_⟩
 cases m.lookup q.1<;>simp only <;>omega
theorem Fe {m:List (aD×Int)} {q:aD×Int}: ∃ v,(pt m q).lookup q.1=some v∧q.2≤v:=by
 rw [wI,if_pos rfl]
 refine ⟨_,U,?_⟩
 cases m.lookup q.1<;>simp only <;>omega
/-- all that comes of one entry, by some options, is held -/
def jC (w:bY) (b:Nat) (m:List (aD×Int)) (p:aD×Int) (os:List (Int×ag)):Prop:= ∀ o∈os,∀ q,k8 w b p o=some q→ ∃ v,m.lookup q.1=some v∧v≤q.2
def jw (w:bY) (b:Nat) (m:List (aD×Int)) (p:aD×Int) (os:List (Int×ag)):Prop:= ∀ o∈os,∀ q,oc w b p o=some q→ ∃ v,m.lookup q.1=some v∧q.2≤v
theorem jC.lower {w:bY} {b:Nat} {m m':List (aD×Int)} {p:aD×Int} {os:List (Int×ag)} (h:jC w b m p os) (hl:wZ m m'):jC w b m' p os:=fun o ho q hq=>by
 obtain ⟨v,A,C⟩:=h o ho q hq
 obtain ⟨v',B,D⟩:=hl _ _ A
 exact ⟨v',B,I⟩
theorem jw.upper {w:bY} {b:Nat} {m m':List (aD×Int)} {p:aD×Int} {os:List (Int×ag)} (h:jw w b m p os) (hl:x7 m m'):jw w b m' p os:=fun o ho q hq=>by
 obtain ⟨v,A,C⟩:=h o ho q hq
 obtain ⟨v',B,D⟩:=hl _ _ A
 exact ⟨v',B,I⟩
theorem jC.sub {w:bY} {b:Nat} {m:List (aD×Int)} {p:aD×Int} {os os':List (Int×ag)} (h:jC w b m p os) (hs: ∀ o∈os',o∈os):jC w b m p os':=fun o ho=>h o (hs o ho)
theorem jw.sub {w:bY} {b:Nat} {m:List (aD×Int)} {p:aD×Int} {os os':List (Int×ag)} (h:jw w b m p os) (hs: ∀ o∈os',o∈os):jw w b m p os':=fun o ho=>h o (hs o ho)
theorem jC.add {w:bY} {b:Nat} {m m':List (aD×Int)} {p:aD×Int} {os:List (Int×ag)} {o:Int×ag} (h:jC w b m p os) (hl:wZ m m') (hn: ∀ q,k8 w b p o=some q→ ∃ v,m'.lookup q.1=some v∧v≤q.2):jC w b m' p (os++[o]):=fun o' ho q hq=>by
 rcases g0.1 ho with ho|ho
 ·exact h.lower hl o' ho q hq
 ·simp only [cm] at ho; subst ho; exact hn q hq
theorem jw.add {w:bY} {b:Nat} {m m':List (aD×Int)} {p:aD×Int} {os:List (Int×ag)} {o:Int×ag} (h:jw w b m p os) (hl:x7 m m') (hn: ∀ q,oc w b p o=some q→ ∃ v,m'.lookup q.1=some v∧q.2≤v):jw w b m' p (os++[o]):=fun o' ho q hq=>by
 rcases g0.1 ho with ho|ho
 ·exact h.upper hl o' ho q hq
 ·simp only [cm] at ho; subst ho; exact hn q hq
theorem fJ {m:List (aD×Int)} (hn:(m.map (·.1)).Nodup) {t:aD} {v:Int}:(t,v)∈m↔m.lookup t=some v:=lu hn
theorem pf {z t:aD} {x v:Int}:List.lookup t [(z,x)]=some v↔t=z∧v=x:=by
 by_cases e:t=z
 ·subst e; simp [List.lookup,eq_comm]
 ·have:(t==z)=false:=by simpa using e
  simp [List.lookup,this,e]
theorem GY {w:bY}:ue [(⟨0,0⟩,w.Start)] (fwd w 0):=by
 refine ⟨fun t v h=>?_,fun t y h=>?_⟩
 ·obtain ⟨rfl,rfl⟩:=pf.1 h
  simp [fwd]
 ·simp only [fwd,cm,Prod.mk.injEq] at h
  obtain ⟨rfl,rfl⟩:=h
  exact ⟨w.Start,pf.2 ⟨U,U⟩,Int.le_refl _⟩
theorem HA {w:bY} {b:Nat} {mb m:List (aD×Int)} (hn:(mb.map (·.1)).Nodup) (h:ue mb (fwd w b)) (hs:vw m (fwd w (b+1))) (hd: ∀ p∈mb,jC w b m p (iT w b)):ue m (fwd w (b+1)):=⟨hs,fun t y hy=>by
 obtain ⟨p,hp,o,ho,e⟩:=gf.1 hy
 obtain ⟨v,B,E⟩:=h.2 p.1 p.2 hp
 unfold k8 at e
 split at e
 ·rename_i D
  simp only [Option.some.injEq,Prod.mk.injEq] at e
  obtain ⟨v',A,C⟩:=hd (p.1,v) ((fJ hn).2 B) o ho (dF p.1 (fB o.1),max (v+cf w b) o.2.Lo) (by unfold k8; rw [if_pos (by simp only; omega)])
  simp only at A C
  rw [e.1] at A
  exact ⟨v',A,I⟩
 ·cases e⟩
theorem Ha {w:bY} {b:Nat} (hb:w.n≤b):vC [(⟨0,0⟩,w.gd)] (back w b):=by
 rw [vd hb]
 refine ⟨fun t v h=>?_,fun t y h=>?_⟩
 ·obtain ⟨rfl,rfl⟩:=pf.1 h
  simp
 ·simp only [cm,Prod.mk.injEq] at h
  obtain ⟨rfl,rfl⟩:=h
  exact ⟨w.gd,pf.2 ⟨U,U⟩,Int.le_refl _⟩
theorem JB {w:bY} {b:Nat} (hb:b<w.n) {mb m:List (aD×Int)} (hn:(mb.map (·.1)).Nodup) (h:vC mb (back w (b+1))) (hs:vw m (back w b)) (h0: ∃ v,m.lookup ⟨0,0⟩=some v∧w.gd≤v) (hd: ∀ p∈mb,jw w b m p (iT w b)):vC m (back w b):=⟨hs,fun t y hy=>by
 rcases (o3 hb).1 hy with e|⟨p,hp,o,ho,e⟩
 ·simp only [Prod.mk.injEq] at e
  obtain ⟨rfl,rfl⟩:=e
  exact h0
 obtain ⟨v,B,E⟩:=h.2 p.1 p.2 hp
 unfold oc at e
 split at e
 ·rename_i D
  simp only [Option.some.injEq,Prod.mk.injEq] at e
  obtain ⟨v',A,C⟩:=hd (p.1,v) ((fJ hn).2 B) o ho (dF p.1 (fB o.1),min v o.2.Hi-cf w b) (by unfold oc; rw [if_pos (by simp only; omega)])
  simp only at A C
  rw [e.1] at A
  exact ⟨v',A,I⟩
 ·cases e⟩
end
section
def jO (w:bY) (b:Nat) (p u:aD×Int) (o:Int×ag):ag:=⟨max (p.2+cf w b) o.2.Lo,min u.2 o.2.Hi⟩
def xM (p u:aD×Int) (o:Int×ag):aD:=dF (dF p.1 u.1) (fB o.1)
def mE (w:bY) (b:Nat) (p u:aD×Int) (o:Int×ag):Option (Int×ag):=if (jO w b p u o).Lo≤(jO w b p u o).Hi∧kP w (xM p u o)=true then some (o.1,jO w b p u o) else none
def qu (w:bY) (b:Nat) (mf mb:List (aD×Int)):List (Int×ag):=(iT w b).flatMap fun o=>mf.flatMap fun p=>mb.filterMap fun u=>mE w b p u o
def mz (w:bY) (b:Nat):List (Int×ag):=qu w b (fwd w b) (back w (b+1))
theorem iH {w:bY} {b:Nat} {mf mb:List (aD×Int)} {q:Int×ag}:q∈qu w b mf mb↔ ∃ o∈iT w b,∃ p∈mf,∃ u∈mb,mE w b p u o=some q:=by
 simp only [qu,List.mem_flatMap,List.mem_filterMap]
theorem jL {w:bY} {b:Nat} {p u:aD×Int} {o q:Int×ag}:mE w b p u o=some q↔(jO w b p u o).Lo≤(jO w b p u o).Hi∧kP w (xM p u o)=true∧q=(o.1,jO w b p u o):=by
 unfold mE
 split
 ·rename_i h
  simp only [Option.some.injEq]
  exact ⟨fun e=>⟨h.1,h.2,e.symm⟩,fun e=>e.2.2.symm⟩
 ·rename_i h
  simp only [reduceCtorEq,false_iff]
  exact fun e=>h ⟨e.1,e.2.1⟩
theorem m8 {w:bY} {b:Nat} {mf mb:List (aD×Int)} {q:Int×ag} (h:q∈qu w b mf mb):q.2.Lo≤q.2.Hi:=by
 obtain ⟨o,_,p,_,u,_,e⟩:=iH.1 h
 obtain ⟨A,_,rfl⟩:=jL.1 e
 exact A
/-- what the maps tell is what all ways tell -/
theorem KL {w:bY} {b:Nat} {mf mb:List (aD×Int)} (hf:ue mf (fwd w b)) (hb:vC mb (back w (b+1))) (nf:(mf.map (·.1)).Nodup) (nb:(mb.map (·.1)).Nodup) {q:Int×ag} (h:q∈qu w b mf mb):q∈mz w b:=by
 obtain ⟨o,ho,p,hp,u,hu,e⟩:=iH.1 h
 exact iH.2 ⟨o,ho,p,hf.1 _ _ ((fJ nf).1 hp),u,hb.1 _ _ ((fJ nb).1 hu),e⟩
theorem JE {w:bY} {b:Nat} {mf mb:List (aD×Int)} (hf:ue mf (fwd w b)) (hb:vC mb (back w (b+1))) (nf:(mf.map (·.1)).Nodup) (nb:(mb.map (·.1)).Nodup) {q:Int×ag} (h:q∈mz w b): ∃ q'∈qu w b mf mb,q'.1=q.1∧q'.2.Lo≤q.2.Lo∧q.2.Hi≤q'.2.Hi:=by
 obtain ⟨o,ho,p,hp,u,hu,e⟩:=iH.1 h
 obtain ⟨A,B,rfl⟩:=jL.1 e
 obtain ⟨v,hv,C⟩:=hf.2 p.1 p.2 hp
 obtain ⟨y,hy,D⟩:=hb.2 u.1 u.2 hu
 simp only [jO] at A
 refine ⟨(o.1,jO w b (p.1,v) (u.1,y) o),iH.2 ⟨o,ho,(p.1,v),(fJ nf).2 hv,(u.1,y),(fJ nb).2 hy,jL.2 ⟨?_,B,U⟩⟩,U,?_,?_⟩
 ·simp only [jO]; omega
 ·simp only [jO]; omega
 ·simp only [jO]; omega
def mC:ag:=⟨1,0⟩
def mM (h x:ag):ag:=if h=mC then x else ⟨min x.Lo h.Lo,max x.Hi h.Hi⟩
def vx (l:List (Int×ag)):ag:=l.foldl (fun h q=>mM h q.2) mC
structure oO (l:List (Int×ag)) (h:ag):Prop where
 le:h.Lo≤h.Hi
 lo: ∃ x∈l,x.2.Lo=h.Lo
 hi: ∃ x∈l,x.2.Hi=h.Hi
 all: ∀ x∈l,h.Lo≤x.2.Lo∧x.2.Hi≤h.Hi
def kJ (l:List (Int×ag)) (h:ag):Prop:=(l=[]∧h=mC)∨oO l h
theorem oO.ne {l:List (Int×ag)} {h:ag} (hh:oO l h):h≠mC:=fun e=>by
 have:=hh.le; rw [e] at this; simp [mC] at this
theorem Bc:kJ [] mC:= .inl ⟨rfl,rfl⟩
theorem uQ {l:List (Int×ag)} {h:ag} {q:Int×ag} (hh:kJ l h) (hq:q.2.Lo≤q.2.Hi):kJ (l++[q]) (mM h q.2):=by
 right
 rcases hh with ⟨rfl,rfl⟩|hh
 ·unfold mM
  rw [if_pos rfl]
  exact ⟨hq,⟨q,sm,rfl⟩,⟨q,sm,rfl⟩,fun x hx=>by simp at hx; subst hx; exact ⟨Int.le_refl _,Int.le_refl _⟩⟩
 ·unfold mM
  rw [if_neg hh.ne]
  have A:=hh.le
  obtain ⟨a,ha,ea⟩:=hh.lo
  obtain ⟨c,hc,ec⟩:=hh.hi
  refine ⟨by simp only; omega,?_,?_,fun x hx=>?_⟩
  ·rcases Int.lt_or_le q.2.Lo h.Lo with p|p
   ·exact ⟨q,sm,by simp only; omega⟩
   ·exact ⟨a,by simp [ha],by simp only; omega⟩
  ·rcases Int.lt_or_le h.Hi q.2.Hi with p|p
   ·exact ⟨q,sm,by simp only; omega⟩
   ·exact ⟨c,by simp [hc],by simp only; omega⟩
  ·rcases g0.1 hx with hx|hx
   ·have:=hh.all x hx; simp only; omega
   ·simp at hx; subst hx; simp only; omega
theorem vr {l:List (Int×ag)} (hl: ∀ q∈l,q.2.Lo≤q.2.Hi):kJ l (vx l):=by
 have key: ∀ (r d:List (Int×ag)) (h:ag),(∀ q∈r,q.2.Lo≤q.2.Hi)→kJ d h→kJ (d++r) (r.foldl (fun h q=>mM h q.2) h):=by
  intro r
  induction r with
  |nil=>intro d h _ hd; simpa using hd
  |cons q r ih=>
   intro d h hr hd
   have:=ih (d++[q]) (mM h q.2) (fun x hx=>hr x (dW _ hx)) (uQ hd (hr q sm))
   simpa using this
 have:=key l [] mC hl Bc
 rw [List.nil_append] at this
 exact this
def De (a b:List (Int×ag)):Prop:= ∀ x∈b,∃ y∈a,y.2.Lo≤x.2.Lo∧x.2.Hi≤y.2.Hi
theorem KY {a b:List (Int×ag)} {h k:ag} (ha:kJ a h) (hb:kJ b k) (hab:De a b) (hba:De b a):h=k:=by
 rcases ha with ⟨rfl,rfl⟩|ha
 ·rcases hb with ⟨rfl,rfl⟩|hb
  ·rfl
  ·obtain ⟨x,hx,_⟩:=hb.lo
   obtain ⟨y,hy,_⟩:=hab x hx
   cases hy
 ·rcases hb with ⟨rfl,rfl⟩|hb
  ·obtain ⟨x,hx,_⟩:=ha.lo
   obtain ⟨y,hy,_⟩:=hba x hx
   cases hy
  ·have le: ∀ {a b:List (Int×ag)} {h k:ag},oO a h→oO b k→De a b→h.Lo≤k.Lo∧k.Hi≤h.Hi:=fun {a b h k} ha hb hab=>by
    obtain ⟨x,hx,ex⟩:=hb.lo
    obtain ⟨z,hz,ez⟩:=hb.hi
    obtain ⟨y,hy,ey⟩:=hab x hx
    obtain ⟨y',hy',ey'⟩:=hab z hz
    have A:=ha.all y hy
    have B:=ha.all y' hy'
    omega
   have A:=le ha hb hab
   have B:=le hb ha hba
   rw [ag.ext_iff]; omega
theorem yX {w:bY} {b:Nat} {mf mb:List (aD×Int)} {l:List (Int×ag)} {h:ag} (hf:ue mf (fwd w b)) (hb:vC mb (back w (b+1))) (nf:(mf.map (·.1)).Nodup) (nb:(mb.map (·.1)).Nodup)
 (hl: ∀ q∈l,q∈qu w b mf mb) (hl2: ∀ q∈qu w b mf mb,q∈l) (hh:kJ l h):h=vx (mz w b):=
 KY hh (vr fun q hq=>m8 hq) (fun x hx=>by
  obtain ⟨q,hq,_,A,B⟩:=JE hf hb nf nb hx
  exact ⟨q,hl2 q hq,A,B⟩) (fun x hx=>⟨x,KL hf hb nf nb (hl x hx),Int.le_refl _,Int.le_refl _⟩)
def jK (w:bY) (m:List (aD×Int)):Bool:=m.any fun p=>kP w p.1
theorem B0 {w:bY} {b:Nat} {m:List (aD×Int)} (h:ue m (fwd w b)) (nf:(m.map (·.1)).Nodup):jK w m=jK w (fwd w b):=by
 unfold jK
 rw [Bool.eq_iff_iff,List.any_eq_true,List.any_eq_true]
 constructor
 ·rintro ⟨p,hp,A⟩
  exact ⟨p,h.1 _ _ ((fJ nf).1 hp),A⟩
 ·rintro ⟨p,hp,A⟩
  obtain ⟨v,hv,_⟩:=h.2 p.1 p.2 hp
  exact ⟨(p.1,v),(fJ nf).2 hv,A⟩
def kI (w:bY) (k:Nat):List Int:=((List.range k).filter fun i=>jK w (fwd w i)).map fun (i:Nat)=>(i:Int)
def ic (w:bY):List Int:=kI w (w.n+1)
theorem Dz {w:bY} {k:Nat} (h:jK w (fwd w k)=true):kI w (k+1)=kI w k++[(k:Int)]:=by simp [kI,List.range_succ,h]
theorem FH {w:bY} {k:Nat} (h:jK w (fwd w k)=false):kI w (k+1)=kI w k:=by simp [kI,List.range_succ,h]
theorem sI {w:bY} {k:Nat}:(kI w k).length≤k:=by
 unfold kI
 rw [List.length_map]
 exact Nat.le_trans (List.length_filter_le _ _) sm
end
section
open Go.RowKit
theorem F_ {P:Program} {t:Nat} {k:IntKind} (hu:P.underlying t=some (.int k)) (e:Bool) (n:Nat) (v:Value) (w:World):(Instr.checkKey e (n+1) t v).run P w= .ok () w:=by
 unfold Instr.checkKey
 simp only [Sem.run_bind,run_underlying hu,Result.andThen]
 cases v<;>rfl
theorem zM {P:Program} {kt:Nat} {l:List (Nat×Nat)} (hl:fL P kt=some l) (e:Bool) (n:Nat) (cs:Array Value) (w:World)
 (hf: ∀ p∈l,(∃ v,(part p.1 cs p.2).run P w= .ok v w)∧ ∃ k,P.underlying p.1=some (.int k)):(Instr.checkKey e (n+2) kt (.agg cs)).run P w= .ok () w:=by
 unfold fL at hl
 cases hu:P.underlying kt with
 |none=>simp [hu] at hl
 |some d=>
  cases d<;>simp [hu] at hl
  rename_i fs
  obtain ⟨hn,hl⟩:=hl
  rw [show n+2=(n+1)+1 from rfl,Instr.checkKey]
  simp only [Sem.run_bind,run_underlying hu,Result.andThen_ok]
  rw [← Array.forIn_toList]
  have A: ∀ f∈fs.toList,(∃ v,(part f.type cs f.offset).run P w= .ok v w)∧ ∃ k,P.underlying f.type=some (.int k):=fun f hf'=>hf (f.type,f.offset) (by rw [← hl]; exact cy.2 ⟨f,hf',rfl⟩)
  have B: ∀ f∈fs.toList,f.name≠"_":=fun f hf'=>by
   obtain ⟨i,hi,rfl⟩:=List.getElem_of_mem hf'
   exact hn.1.1 i (by simpa using hi)
  clear hl hn hf
  generalize fs.toList=L at A B
  induction L with
  |nil=>simp
  |cons f L ih=>
   obtain ⟨⟨v,hv⟩,k,hk⟩:=A f sm
   have C:=B f sm
   simp only [List.forIn_cons,Sem.run_bind,C,ne_eq,not_false_eq_true,if_true,Result.andThen_ok,hv,F_ hk,Sem.run_pure]
   exact ih (fun y hy=>A y (by simp [hy])) (fun y hy=>B y (by simp [hy]))
theorem BB {P:Program} {kt:Nat} {K:Type} [DecidableEq K] {kV:K→Value} (hw: ∀ (k:Value) (es:List MapEntry) (w:World),(Instr.findKey kt k es).run P w=(Instr.findAsking kt k es).run P w)
 (heq: ∀ x y w,(Op.equal kt (kV x) (kV y)).run P w= .ok (decide (x=y)) w) (inj: ∀ x y,kV x=kV y→x=y) (x:K) (w:World) (es:List MapEntry) (hk: ∀ e∈es,∃ k,e.key=kV k):
 ((Instr.findKey kt (kV x) es).run P w= .ok none w∧ ∀ e∈es,e.key≠kV x)∨ ∃ j e,(Instr.findKey kt (kV x) es).run P w= .ok (some (j,e.val)) w∧es[j]? =some e∧e.key=kV x:=by
 have key: ∀ (es:List MapEntry) (i:Nat),(∀ e∈es,∃ k,e.key=kV k)→((Instr.findAsking kt (kV x) es i).run P w= .ok none w∧ ∀ e∈es,e.key≠kV x)∨ ∃ j e,(Instr.findAsking kt (kV x) es i).run P w= .ok (some (i+j,e.val)) w∧es[j]? =some e∧e.key=kV x:=by
  intro es
  induction es with
  |nil=>intro i _; exact .inl ⟨by simp [Instr.findAsking],sm⟩
  |cons e es ih=>
   intro i B
   obtain ⟨k,A⟩:=B e sm
   by_cases h:x=k
   ·refine .inr ⟨0,e,?_,U,by rw [A,h]⟩
    subst h
    simp [Instr.findAsking,A,heq]
   ·rcases ih (i+1) (fun y hy=>B y (by simp [hy])) with ⟨C,D⟩|⟨j,e',C,D,E⟩
    ·refine .inl ⟨by simp [Instr.findAsking,A,heq,h,C],fun y hy=>?_⟩
     rcases bR.1 hy with rfl|hy
     ·rw [A]; exact fun q=>h (inj _ _ q).symm
     ·exact D y hy
    ·exact .inr ⟨j+1,e',by simp [Instr.findAsking,A,heq,h,C]; omega,by simpa using D,E⟩
 rw [hw]
 rcases key es 0 hk with h|⟨j,e,C,D,E⟩
 ·exact .inl h
 ·exact .inr ⟨j,e,by simpa using C,D,E⟩
theorem DY {P:Program} {kt:Nat} {l:List (Nat×Nat)} (hl:fL P kt=some l) (k:Value) (es:List MapEntry) (w:World):(Instr.findKey kt k es).run P w=(Instr.findAsking kt k es).run P w:=by
 refine run_findKey_eq w ?_ k es
 unfold fL at hl
 cases hu:P.underlying kt with
 |none=>simp [hu] at hl
 |some d=>cases d<;>simp [hu] at hl ⊢
theorem MD {P:Program} {kt:Nat} {K:Type} [DecidableEq K] {kV:K→Value} {l:List (Nat×Nat)} (hl:fL P kt=some l) (heq: ∀ x y w,(Op.equal kt (kV x) (kV y)).run P w= .ok (decide (x=y)) w) (inj: ∀ x y,kV x=kV y→x=y)
 (hb: ∀ x,Instr.sameBits 10000 (kV x) (kV x)=true) (hp: ∀ x w,∃ cs,kV x= .agg cs∧ ∀ p∈l,(∃ v,(part p.1 cs p.2).run P w= .ok v w)∧ ∃ k,P.underlying p.1=some (.int k)):uU P kt kV:=
 ⟨fun e x w=>by obtain ⟨cs,A,B⟩:=hp x w; rw [A]; exact zM hl e 9998 cs w B,fun x w es=>BB (DY hl) heq inj x w es,hb,inj⟩
end
section
open Go.RowKit
set_option linter.unusedSectionVars false
theorem iM {P:Program} {kt:Nat} (hk:P.underlying kt=some (.int .i64)):uU P kt (Value.int .i64):=by
 refine ⟨fun e x w=>Gh hk e,fun x w es A=>?_,fun x=>by simp [Instr.sameBits],fun x y h=>by injection h⟩
 have key: ∀ (es:List MapEntry) (i:Nat),(∀ e∈es,∃ k:Int,e.key= .int .i64 k)→(Instr.findNow (.int .i64) (.int .i64 x) es i=some none∧ ∀ e∈es,e.key≠ .int .i64 x)∨ ∃ j e,Instr.findNow (.int .i64) (.int .i64 x) es i=some (some (i+j,e.val))∧es[j]? =some e∧e.key= .int .i64 x:=by
  intro es
  induction es with
  |nil=>intro i _; exact .inl ⟨rfl,sm⟩
  |cons e es ih=>
   intro i A
   obtain ⟨k,B⟩:=A e sm
   by_cases h:x=k
   ·subst h
    exact .inr ⟨0,e,by simp [Instr.findNow,Instr.sameNow,B],U,B⟩
   ·have hb:(x==k)=false:=by simpa using h
    rcases ih (i+1) (fun y hy=>A y (by simp [hy])) with ⟨C,D⟩|⟨j,e',C,D,E⟩
    ·refine .inl ⟨by simp [Instr.findNow,Instr.sameNow,B,hb,C],fun y hy=>?_⟩
     rcases bR.1 hy with rfl|hy
     ·rw [B]; intro q; injection q with _ q; exact h q.symm
     ·exact D y hy
    ·refine .inr ⟨j+1,e',?_,by simpa using D,E⟩
     simp only [Instr.findNow,Instr.sameNow,B,hb,if_true,C]
     simp; omega
 rcases key es 0 A with ⟨C,D⟩|⟨j,e,C,D,E⟩
 ·exact .inl ⟨MapKept.run_findKey hk C,D⟩
 ·exact .inr ⟨j,e,MapKept.run_findKey hk (by simpa using C),D,E⟩
theorem St.Kz {S:BS} {w0 w w':World} {C:List aw} {A N:aw} (h:St S w0 C w) (i:Nat) (hA:C[i]? =some A) (k:dR no w w') (hN:N.holds w') (hf: ∀ b,N.fr b→w.heap.size≤b∨A.fr b∧ ¬ A.wf b∧ ¬ N.wf b):St S w0 (N::C) w':=by
 have h':=h.same k
 have G:=aP hA
 have hi:=(aY.1 hA).1
 have B:C[i]=A:=(aY.1 hA).2
 refine ⟨h'.keeps,fun X hX=>?_,List.Pairwise.cons (fun X hX b hb hb'=>?_) h'.sep,fun X hX b hb=>?_,fun X hX b hb=>?_⟩
 ·rcases bR.1 hX with rfl|hX
  ·exact hN
  ·exact h'.holds X hX
 ·rcases hf b hb with E|⟨E,AA,H⟩
  ·have:=X.lt w (h.holds X hX) b hb'; omega
  ·refine ⟨H,?_⟩
   obtain ⟨j,hj,D⟩:=List.mem_iff_getElem.1 hX
   by_cases e:j=i
   ·subst e; rw [← D,B]; exact AA
   ·rcases Nat.lt_or_gt_of_ne e with F|F
    ·have:=eO.1 h.sep j i hj hi F b (by rw [D]; exact hb') (by rw [B]; exact E)
     rw [← D]; exact this.1
    ·have:=eO.1 h.sep i j hi hj F b (by rw [B]; exact E) (by rw [D]; exact hb')
     rw [← D]; exact this.2
 ·rcases bR.1 hX with rfl|hX
  ·rcases hf b (X.kD b hb) with E|⟨_,_,H⟩
   ·exact .inl (Nat.le_trans h.keeps.size E)
   ·exact absurd hb H
  ·exact h'.own X hX b hb
 ·rcases bR.1 hX with rfl|hX
  ·rcases hf b hb with E|⟨E,_,_⟩
   ·exact .inl (Nat.le_trans h.keeps.size E)
   ·exact h.seen A G b E
  ·exact h'.seen X hX b hb
section
variable {K:Type} [DecidableEq K] {kV:K→Value}
/-- an iterator over a map that is read alone -/
def Cr (kV:K→Value) (r b:Nat) (m left:List (K×Value)) (cur:Option (K×Value)):aw where
 fr k:=k=r∨k=b
 wf k:=k=r
 holds w:=r≠b∧ ∃ (es:Array MapEntry) (c since:Nat) (seen:Array Nat) (st:Nat),w.heap[b]? =some (.map es c)∧jA kV es c m∧w.heap[r]? =some (.mapIter (some b) since seen st)∧(∀ e∈es.toList,e.born<since)∧since≤st∧since≤c∧
  (leftOf es seen).toList.map (fun (e:MapEntry)=>(e.key,e.val))=left.map (fun p=>(kV p.1,p.2))∧
  ∀ p,cur=some p→ ∃ (e:MapEntry) (seen0:Array Nat),e∈es.toList∧seen=seen0.push e.born∧st=c∧e.key=kV p.1∧e.val=p.2
 wr:=false
 kD _ h:= .inl h
 whole h:=by cases h
 lt w h k hk:=by
  obtain ⟨_,es,c,since,seen,st,h1,_,h2,_⟩:=h
  rcases hk with rfl|rfl
  ·exact dM h2
  ·exact dM h1
 oN w w' hk h:=by
  obtain ⟨hne,es,c,since,seen,st,h1,h2,h3,h4⟩:=h
  exact ⟨hne,es,c,since,seen,st,(hk b (.inr rfl)).trans h1,h2,(hk r (.inl rfl)).trans h3,h4⟩
theorem py {r b:Nat} {m left:List (K×Value)} {cur:Option (K×Value)}:(∀ w,(Cr kV r b m left cur).holds w→(Cr kV r b m left none).holds w)∧(∀ k,(Cr kV r b m left none).fr k→(Cr kV r b m left cur).fr k)∧ ∀ k,(Cr kV r b m left none).wf k→(Cr kV r b m left cur).wf k:=
 ⟨fun w h=>by
  obtain ⟨A,es,c,since,seen,st,B,C,D,E,F,h5',G,_⟩:=h
  exact ⟨A,es,c,since,seen,st,B,C,D,E,F,h5',G,fun p hp=>by cases hp⟩,fun _ h=>h,fun _ h=>h⟩
section
variable {E:e9} {ops:Array Oper} {Q:dq} {rest:List Oper} {D:List Deferred} {L:List (Nat×Value)} {C:List aw}
variable {dst:Option Tmp} {d:Nat} {ty:TypeId} {ps:String} {af:Array Edge} {g:Option (Nat×Bool)}
theorem p9 {t kt et:TypeId} {xm:Operand} {b:Nat} {m:List (K×Value)} {A:aw} (i:Nat) (hg:kj ops L g=true) (hm:ev L xm=some (.map (some b))) (ht:E.P.underlying t=some (.map kt et)) (hA:C[i]? =some A) (hAf:A.fr b∧ ¬ A.wf b) (hC:js C (kh kV b m).holds) (hd:Nat.blt d E.n=true)
 (k: ∀ r,RJ E ops Q rest D ((d,.pointer (some ⟨r,0,none⟩))::L) (Cr kV r b m m none::C)):RJ E ops Q (⟨some d,.range t xm,ty,ps,af,g⟩::rest) D L C:=by
 intro a w B hs
 have hd':d<E.n:=by rw [← Nat.blt_eq]; exact hd
 unfold sG
 rw [if_pos (eB B hg)]
 obtain ⟨es,c,he,hi⟩:=hs.has hC
 have G:b<w.heap.size:=dM he
 have F:(getObj b).run E.P w= .ok (.map es c) w:=MapKept.run_getObj_map he
 refine jh (v:= .pointer (some ⟨w.heap.size,0,none⟩)) (w':=w.alloc (.mapIter (some b) c #[] c)) sm ?_ ?_
 ·simp [execOp,Instr.range,B.ev hm,run_underlying ht,F,newObj,Sem.run]
 ·refine k _ _ _ (B.put hd' _) (hs.Kz i hA (dR.alloc no w _) ⟨I,es,c,c,#[],c,?_,hi,heap_alloc_new w _,hi.Ka,Nat.le_refl _,Nat.le_refl _,?_,fun p hp=>by cases hp⟩ (fun q hq=>?_))
  ·rw [Below.heap_alloc w _ b G]; exact he
  ·have:leftOf es #[]=es:=by unfold leftOf; exact Array.filter_eq_self.2 sm
   rw [this]; exact hi.list
  ·rcases hq with rfl|rfl
   ·exact .inl (Nat.le_refl _)
   ·refine .inr ⟨hAf.1,hAf.2,fun (e:q=w.heap.size)=>by omega⟩
theorem GO (hinj: ∀ x y,kV x=kV y→x=y) {xi:Operand} {r b:Nat} {m left:List (K×Value)} {cur:Option (K×Value)} (i:Nat) (hg:kj ops L g=true) (hm:ev L xi=some (.pointer (some ⟨r,0,none⟩))) (hC:C[i]? =some (Cr kV r b m left cur)) (hd:Nat.blt d E.n=true)
 (k0:left=[]→RJ E ops Q rest D ((d,.tuple [.bool false].toArray)::L) C)
 (k1: ∀ x v,(x,v)∈left→(left.map (·.1)).Nodup→RJ E ops Q rest D ((d,.tuple [.bool true,kV x,v].toArray)::L) (C.set i (Cr kV r b m (eY left x) (some (x,v))))):
 RJ E ops Q (⟨some d,.next xi false,ty,ps,af,g⟩::rest) D L C:=by
 intro a w G hs
 have hd':d<E.n:=by rw [← Nat.blt_eq]; exact hd
 unfold sG
 rw [if_pos (eB G hg)]
 obtain ⟨R,es,c,since,seen,st,X,hi,Y,J,V,M,A,_⟩:=hs.holds _ (aP hC)
 rcases run_next_at (P:=E.P) w ty r b since st seen es c Y X J V with ⟨Z,hr⟩|⟨e,he,N,H,hr⟩
 ·refine jh (v:= .tuple #[.bool false]) (w':=w) sm ?_ ?_
  ·simp [execOp,G.ev hm,hr]
  ·refine k0 ?_ _ _ (G.put hd' _) hs
   have:(leftOf es seen).toList=[]:=by rw [← List.length_eq_zero_iff,Array.length_toList]; exact Z
   rw [this] at A
   exact List.map_eq_nil_iff.1 A.symm
 ·have O:(e.key,e.val)∈left.map (fun p=>(kV p.1,p.2)):=by rw [← A]; exact cy.2 ⟨e,he,rfl⟩
  obtain ⟨p,hp,S⟩:=cy.1 O
  obtain ⟨x,v⟩:=p
  simp only [Prod.mk.injEq] at S
  obtain ⟨hk,hv⟩:=S
  refine jh (v:= .tuple #[.bool true,e.key,e.val]) (w':=ChangeMaps.setBlock N r (.mapIter (some b) since (seen.push e.born) c)) sm ?_ ?_
  ·simp [execOp,G.ev hm,hr]
  ·rw [← hk,← hv]
   have AA:=xR hinj hi A
   have F:e∈es.toList:=by unfold leftOf at he; rw [Array.toList_filter] at he; exact (List.mem_filter.1 he).1
   have f:c=c:=rfl
   have B:N.heap=w.heap:=by rcases H with rfl|rfl<;>rfl
   refine k1 x v hp AA _ _ (G.put hd' _) (hs.mv i hC ⟨⟨R,es,c,since,seen.push e.born,c,?_,hi,?_,J,M,M,?_,fun q hq=>?_⟩,?_,fun q hq=> .inl hq,fun q hq=> .inl hq⟩)
   ·show (N.heap.setIfInBounds r _)[b]? =_
    rw [Array.getElem?_setIfInBounds_ne R,B]; exact X
   ·show (N.heap.setIfInBounds r _)[r]? =_
    rw [Array.getElem?_setIfInBounds_self_of_lt (by rw [B]; exact dM Y)]
   ·have T:leftOf es (seen.push e.born)=(leftOf es seen).filter (fun z=> !(z.born==e.born)):=by
     unfold leftOf
     rw [Array.filter_filter]
     congr 1
     funext z
     simp only [Array.contains_push,Bool.not_or]
     rw [Bool.and_comm]
    rw [T,Array.toList_filter]
    have key: ∀ (l:List MapEntry) (ll:List (K×Value)),(∀ z∈l,z∈es.toList)→l.map (fun (e:MapEntry)=>(e.key,e.val))=ll.map (fun p=>(kV p.1,p.2))→
     (l.filter (fun z=> !(z.born==e.born))).map (fun (e:MapEntry)=>(e.key,e.val))=(eY ll x).map (fun p=>(kV p.1,p.2)):=by
     intro l
     induction l with
     |nil=>intro ll _ h; cases ll with
      |nil=>rfl
      |cons p ll=>simp at h
     |cons z l ih=>
      intro ll hz h
      cases ll with
      |nil=>simp at h
      |cons p ll=>
       simp only [List.map_cons,List.cons.injEq,Prod.mk.injEq] at h
       have ih':=ih ll (fun y hy=>hz y (by simp [hy])) h.2
       have AB:(z.born=e.born)↔(p.1=x):=by
        constructor
        ·intro hb
         have:z=e:=Cm hi.born (hz z sm) F hb
         rw [this] at h
         have:=h.1.1.symm.trans hk.symm
         exact hinj _ _ this
        ·intro hx
         have W:z.key=e.key:=by rw [h.1.1,hx,hk]
         rw [Bz hinj hi (hz z sm) F W]
       unfold eY at ih' ⊢
       by_cases hx:p.1=x
       ·rw [List.filter_cons_of_neg (by simp [AB.2 hx]),List.filter_cons_of_neg (by simp [hx])]; exact ih'
       ·rw [List.filter_cons_of_pos (by simpa using fun hb=>hx (AB.1 hb)),List.filter_cons_of_pos (by simpa using hx)]
        simp only [List.map_cons,h.1.1,h.1.2,ih']
    exact key _ _ (fun z hz=>by unfold leftOf at hz; rw [Array.toList_filter] at hz; exact (List.mem_filter.1 hz).1) A
   ·cases hq
    exact ⟨e,seen,F,U,U,hk.symm,hv.symm⟩
   ·refine ⟨?_,?_,?_,?_,fun q hq hn=>?_⟩
    ·rcases H with rfl|rfl<;>rfl
    ·rcases H with rfl|rfl<;>rfl
    ·rcases H with rfl|rfl<;>rfl
    ·show w.heap.size≤(N.heap.setIfInBounds r _).size
     simp [B]
    ·show (N.heap.setIfInBounds r _)[q]? =_
     rw [Array.getElem?_setIfInBounds_ne (fun e=>hn e.symm),B]
theorem oh {xi:Operand} {r b:Nat} {m left:List (K×Value)} {x:K} {v:Value} (i:Nat) (hg:kj ops L g=true) (hm:ev L xi=some (.pointer (some ⟨r,0,none⟩))) (hC:C[i]? =some (Cr kV r b m left (some (x,v)))):
 SD E ops ⟨dst,.entry xi,ty,ps,af,g⟩ D L C (.tuple [kV x,v].toArray):=
 eN hg sm fun a w F hs=>by
  obtain ⟨N,es,c,since,seen,st,J,hi,M,H,O,AA,G,B⟩:=hs.holds _ (aP hC)
  obtain ⟨e,A,he,rfl,rfl,hk,hv⟩:=B _ rfl
  have:=run_entry_at (P:=E.P) w r b since A es st e M J he hi.born
  simp [execOp,F.ev hm,this,hk,hv]
theorem oF (hinj: ∀ x y,kV x=kV y→x=y) {β:Type} {f:β→Value} {xi:Operand} {r b:Nat} {m:List (K×Value)} {ll:List (K×β)} {cur:Option (K×Value)} (i:Nat) (hg:kj ops L g=true) (hm:ev L xi=some (.pointer (some ⟨r,0,none⟩))) (hC:C[i]? =some (Cr kV r b m (cR f ll) cur)) (hd:Nat.blt d E.n=true)
 (k0:ll=[]→RJ E ops Q rest D ((d,.tuple [.bool false].toArray)::L) C)
 (k1: ∀ x y,(x,y)∈ll→(ll.map (·.1)).Nodup→RJ E ops Q rest D ((d,.tuple [.bool true,kV x,f y].toArray)::L) (C.set i (Cr kV r b m (cR f (eY ll x)) (some (x,f y))))):
 RJ E ops Q (⟨some d,.next xi false,ty,ps,af,g⟩::rest) D L C:=by
 refine GO hinj i hg hm hC hd (fun h=>k0 (List.map_eq_nil_iff.1 h)) (fun x v B hn=>?_)
 obtain ⟨p,hp,A⟩:=cy.1 B
 simp only [Prod.mk.injEq] at A
 obtain ⟨rfl,rfl⟩:=A
 have:=k1 p.1 p.2 hp (by simpa [cR,Function.comp_def] using hn)
 rwa [nQ] at this
theorem yR {t kt et:TypeId} {xm xk xv:Operand} {b:Nat} {x:K} {v:Value} {m m':List (K×Value)} {C':List aw} (i:Nat) (hg:kj ops L g=true) (hm:ev L xm=some (.map (some b))) (hk:ev L xk=some (kV x)) (hv:ev L xv=some v)
 (ht:E.P.underlying t=some (.map kt et)) (hkt:uU E.P kt kV) (hC:C[i]? =some (kh kV b m)) (hm':eo m x v=m') (hC':C.set i (kh kV b m')=C') (k:RJ E ops Q rest D L C'):
 RJ E ops Q (⟨none,.insert t xm xk xv,ty,ps,af,g⟩::rest) D L C:=by
 subst hm' hC'
 intro a w A hs
 unfold sG
 rw [if_pos (eB A hg)]
 obtain ⟨es,c,he,hi⟩:=hs.holds _ (aP hC)
 have B:(getObj b).run E.P w= .ok (.map es c) w:=MapKept.run_getObj_map he
 rcases o4 (P:=E.P) (w:=w) (x:=x) hkt hi with ⟨AA,F⟩|⟨j,N,AA,F,J⟩
 ·refine sj (w':={w with heap:=w.heap.setIfInBounds b (.map (es.push {key:=kV x,val:=v,born:=c}) (c+1))}) sm ?_ ?_
  ·simp [execOp,A.ev hm,A.ev hk,A.ev hv,Instr.mapUpdate,run_underlying ht,B,jn hkt,AA,MapKept.run_setObj_map _ he]
  ·refine k _ _ ⟨A.defers,A.size,A.at_⟩ (hs.y7 (b:=b) i hC U U (nk _) (fun _ h=>h) ⟨_,_,pJ he,?_⟩)
   have:eo m x v=m++[(x,v)]:=by unfold eo; rw [F]; rfl
   rw [this]; exact hi.push F v
 ·have M:=hi.size
  have G:j<es.size:=by have:=(aY.1 F).1; omega
  have H:(es[j]).key=kV x:=by
   have:=congrArg (fun l=>l[j]?) hi.list
   simp [G,F] at this
   exact this.1
  refine sj (w':={w with heap:=w.heap.setIfInBounds b (.map (es.modify j fun e=>{e with key:=kV x,val:=v}) c)}) sm ?_ ?_
  ·simp [execOp,A.ev hm,A.ev hk,A.ev hv,Instr.mapUpdate,run_underlying ht,B,jn hkt,AA,MapKept.run_setObj_map _ he,Instr.keyThatStays,G,H,hkt.bits x]
  ·exact k _ _ ⟨A.defers,A.size,A.at_⟩ (hs.y7 (b:=b) i hC U U (nk _) (fun _ h=>h) ⟨_,_,pJ he,hi.set F J v⟩)
end
end
end
section
open Go.RowKit
def Tl {σ:Type} (w0:World) (P:Program) (l:Nat) (step:σ→List Value→σ→Prop) (J:σ→aw→Prop) (Z:aw→Prop):Prop:=
 ∀ k x k' A w,step k x k'→J k A→w0.heap.size≤w.heap.size→A.holds w→YieldAt (Fw none) 0 P l x.toArray w fun e w'=>
  (e= .returned (.bool true)∧ ∃ B,J k' B∧Mv A B w w')∨(e= .returned (.bool false)∧ ∃ B,Z B∧Mv A B w w')
def Bo {σ:Type} (J:σ→aw→Prop) (Z:aw→Prop) (fin:σ→Prop) (A0:aw) (w0:World) (e:Ending) (w':World):Prop:=
 ∃ v,e= .returned v∧((∃ s B,fin s∧J s B∧Mv A0 B w0 w')∨ ∃ B,Z B∧Mv A0 B w0 w')
structure KP {σ:Type} (P:Program) (f:FuncId) (fi ca:List Value) (Cp:List aw) (s0:σ) (step:σ→List Value→σ→Prop) (fin:σ→Prop):Prop where
 go:sW P f=true
 run: ∀ (l:Nat) (J:σ→aw→Prop) (Z:aw→Prop) (A0:aw) (w:World),Tl w P l step J Z→J s0 A0→A0.holds w→(∀ A∈Cp,A.holds w)→(∀ A∈Cp,Cq A0 A.ro)→
  Calls P f (fi++Value.func (.yield l) #[] #[]::ca).toArray w (Bo J Z fin A0 w)
theorem O0 {σ:Type} {J:σ→aw→Prop} {Z:aw→Prop} {n:σ} {fin:σ→Prop} {A0 B:aw} {w0 w:World} {C:List aw} {v:Value} (i:Nat) (hC:C[i]? =some B) (hfin:fin n) (hJ:J n B) (hF:Fo A0 w0 B) (hs:St ⟨A0.wf,fun _=>True⟩ w0 C w):Bo J Z fin A0 w0 (.returned v) w:=
 ⟨v,rfl,.inl ⟨n,B,hfin,hJ,hs.holds B (aP hC),hs.keeps,fun b hb=>(hs.own B (aP hC) b hb).symm,hF⟩⟩
theorem D8 {σ:Type} {J:σ→aw→Prop} {Z:aw→Prop} {fin:σ→Prop} {A0 B:aw} {w0 w:World} {C:List aw} {v:Value} (i:Nat) (hC:C[i]? =some B) (hJ:Z B) (hF:Fo A0 w0 B) (hs:St ⟨A0.wf,fun _=>True⟩ w0 C w):Bo J Z fin A0 w0 (.returned v) w:=
 ⟨v,rfl,.inr ⟨B,hJ,hs.holds B (aP hC),hs.keeps,fun b hb=>(hs.own B (aP hC) b hb).symm,hF⟩⟩
theorem E1 {σ:Type} {P:Program} {f:FuncId} {fn:Func} {c:Code} {fi ca:List Value} {Cp:List aw} {s0:σ} {step:σ→List Value→σ→Prop} {fin:σ→Prop} (hgo:sW P f=true) (hf:P.funcs[f]? =some fn) (hb:fn.body=some c) (hn:Nat.ble (fi.length+ca.length+1) fn.ntmps=true)
 (h: ∀ (l:Nat) (J:σ→aw→Prop) (Z:aw→Prop) (A0:aw) (w0:World) (Q:dq),Tl w0 P l step J Z→J s0 A0→Fo A0 w0 A0→
  (∀ D L C,LJ ⟨P,none,fn.ntmps,⟨A0.wf,fun _=>True⟩,w0⟩ fn (Bo J Z fin A0 w0) D L C→KJ ⟨P,none,fn.ntmps,⟨A0.wf,fun _=>True⟩,w0⟩ (Q .ret) D L C)→
  (∀ D L C,LJ ⟨P,none,fn.ntmps,⟨A0.wf,fun _=>True⟩,w0⟩ fn (Bo J Z fin A0 w0) D L C→KJ ⟨P,none,fn.ntmps,⟨A0.wf,fun _=>True⟩,w0⟩ (Q .normal) D L C)→
  WJ ⟨P,none,fn.ntmps,⟨A0.wf,fun _=>True⟩,w0⟩ c Q [] (MZ (fi++Value.func (.yield l) #[] #[]::ca)) (A0::Cp.map aw.ro)):KP P f fi ca Cp s0 step fin:=by
 refine ⟨hgo,fun l J Z A0 w hY hJ hA F E=>?_⟩
 refine zW hf hb (by simpa [Nat.add_assoc] using hn) (h l J Z A0 w · hY hJ (fun b hb=> .inl hb)) ?_
 have G:=qV F
 refine ⟨dR.refl _ _,fun A hA'=>?_,List.Pairwise.cons (fun B hB=>?_) G.sep,fun A hA' b hb=>?_,fun _ _ _ _=> .inr trivial⟩
 ·rcases bR.1 hA' with rfl|hA'
  ·exact hA
  ·exact G.holds A hA'
 ·obtain ⟨B',hB',rfl⟩:=cy.1 hB
  exact E B' hB'
 ·rcases bR.1 hA' with rfl|hA'
  ·exact .inr hb
  ·obtain ⟨B',hB',rfl⟩:=cy.1 hA'
   exact hb.elim
section
variable {E:e9} {ops:Array Oper} {Q:dq} {rest:List Oper} {D:List Deferred} {L:List (Nat×Value)} {C:List aw}
variable {d:Nat} {ty:TypeId} {ps:String} {af:Array Edge} {g:Option (Nat×Bool)}
/-- a call of yield -/
theorem yc {σ:Type} {fop:Operand} {xs:Array Operand} {ts:Array TypeId} {l:Nat} {k k':σ} {vs:List Value} {step:σ→List Value→σ→Prop} {J:σ→aw→Prop} {Z:aw→Prop} {A0 A:aw} {w1:World} (i:Nat) (hw1:w1.heap.size≤E.w0.heap.size) (hY:Tl w1 E.P l step J Z) (hJ:J k A) (hF:Fo A0 w1 A) (hg:kj ops L g=true) (hf:ev L fop=some (.func (.yield l) #[] #[]))
 (hx:evs L xs.toList=some vs) (hk:step k vs k') (hC:C[i]? =some A) (hd:Nat.blt d E.n=true)
 (k1: ∀ B,J k' B→Fo A0 w1 B→RJ E ops Q rest D ((d,.bool true)::L) (C.set i B))
 (k2: ∀ B,Z B→Fo A0 w1 B→RJ E ops Q rest D ((d,.bool false)::L) (C.set i B)):
 RJ E ops Q (⟨some d,.call {callee:= .value fop,args:=xs,argTypes:=ts},ty,ps,af,g⟩::rest) D L C:=by
 intro a w F hs
 have hd':d<E.n:=by rw [← Nat.blt_eq]; exact hd
 unfold sG
 rw [if_pos (eB F hg)]
 have K:xs.map a.eval=vs.toArray:=by
  have:=F.evs hx
  apply Array.ext'
  simp [this]
 obtain ⟨fn,tmps,assign,body,hy,hr⟩:=hY k vs k' A w hk hJ (Nat.le_trans hw1 hs.keeps.size) (hs.holds A (aP hC))
 have H:(execOp a.eval ⟨some d,.call {callee:= .value fop,args:=xs,argTypes:=ts},ty,ps,af,g⟩).run E.P w= .ok (.round l fn tmps assign body) w:=by
  simp [execOp,resolve,F.ev hf,Deferred.ofValue,invoke,K,hy]
 refine ⟨fun _ _=>trivial,?_⟩
 rw [Oper.semAt_eq _ _ _ sm,H]
 refine ⟨fun h=>by simp at h,?_⟩
 have G: ∀ (B:aw) (w':World),Mv A B w w'→Fo A0 w1 B:=fun B w' m b hb=>by
  rcases m.fr b hb with AA|AA
  ·exact hF b AA
  ·exact .inr (Nat.le_trans hw1 (Nat.le_trans hs.keeps.size AA))
 have hr':RoundIn (Fw E.r) 0 E.P l fn tmps assign body w _:=hr
 refine hr'.mono fun e w' he=>?_
 rcases he with ⟨rfl,B,hB,m⟩|⟨rfl,B,hB,m⟩
 ·exact k1 B hB (G B w' m) _ _ (F.put hd' _) (hs.mv i hC m)
 ·exact k2 B hB (G B w' m) _ _ (F.put hd' _) (hs.mv i hC m)
end
theorem tG {σ:Type} {E:e9} {Q:dq} {D:ig} {L L0:dA} {C F:List aw} {g:Operand} {ps:Array Tmp} {assign body:Code} {f:FuncId} {fi ca:List Value} {Cp:List aw} {s0:σ} {step:σ→List Value→σ→Prop} {fin_:σ→Prop} {ι κ:Type}
 (inv:σ→ι→Prop) (Ci:σ→ι→List aw) (invx:Code→κ→Prop) (Cx:Code→κ→List aw) (isJ isF:List Nat) (y0:ι)
 (hr:E.r=none) (hg:ev L g=some (.func (.func f) fi.toArray ca.toArray)) (hs:KP E.P f fi ca Cp s0 step fin_)
 (hnd:decide (isJ++isF).Nodup=true) (hJ:kG C isJ=Ci s0 y0) (hF:kG C isF=F) (h0:inv s0 y0) (hCp: ∀ A∈Cp,∃ B∈F,Hu B A)
 (hps: ∀ k x k',step k x k'→x.length=ps.size) (hpn:ps.toList.all (fun t=>Nat.blt t E.n)=true) (hL:dG L L0)
 (round: ∀ (k:σ) (x:List Value) (k':σ) (y:ι) (l:Nat) (ra rb:Loop) (S:BS) (w0:World) (K:Act→World→Prop) (Qr:dq),E.w0.heap.size≤w0.heap.size→step k x k'→inv k y→
  (∀ L' C',WJ ⟨E.P,some l,E.n,S,w0⟩ body Qr [] L' (jo l (.loop rb)::C')→KJ ⟨E.P,some l,E.n,S,w0⟩ K [] L' (jo l (.loop ra)::C'))→
  (∀ y' L' C',inv k' y'→(∀ w,St S w0 C' w→St S w0 (jo l (.loop rb)::Ci k' y') w)→KJ ⟨E.P,some l,E.n,S,w0⟩ (Qr .normal) [] L' C')→
  (∀ id z L' C',invx (.exit id) z→(∀ w,St S w0 C' w→St S w0 (jo l (.loop rb)::Cx (.exit id) z) w)→KJ ⟨E.P,some l,E.n,S,w0⟩ (Qr (.exit id)) [] L' C')→
  (∀ z L' C',invx .ret z→(∀ w,St S w0 C' w→St S w0 (jo l (.loop rb)::Cx .ret z) w)→KJ ⟨E.P,some l,E.n,S,w0⟩ (Qr .ret) [] L' C')→
  WJ ⟨E.P,some l,E.n,S,w0⟩ assign (Exit.then K (fun _ _ _=>False)) [] (yp ps.toList x L0) (jo l (.loop ra)::Ci k y))
 (fin: ∀ r s y,fin_ s→inv s y→KJ E (Q .normal) (jS r::D) L0 (jo r (.deferred (some []))::(F++Ci s y)))
 (finx: ∀ r id z,invx (.exit id) z→KJ E (Q (.exit id)) (jS r::D) L0 (jo r (.deferred (some []))::(F++Cx (.exit id) z)))
 (finr: ∀ r z,invx .ret z→KJ E (Q .ret) (jS r::D) L0 (jo r (.deferred (some []))::(F++Cx .ret z))):WJ E (.rangeFunc g ps assign body) Q D L C:=by
 intro a w hf q
 refine wpIn_rangeFunc fun fn _=>?_
 show ∃ l jS w₁ d w₁' f args w₂,(Instr.enterLoop fn a.tmps ps assign body E.r).run E.P w= .ok (l,jS) w₁∧_
 rw [hr]
 obtain ⟨rec,G⟩: ∃ rec:LoopState→Option Code→Loop,rec=fun st pe=>{state:=st,pending:=pe,fn,tmps:=a.tmps,params:=ps,assign,body,defers:=w.heap.size}:=⟨_,rfl⟩
 obtain ⟨W1,R⟩: ∃ W1,(w.alloc (.deferred (some []))).alloc (.loop (rec .ready none))=W1:=⟨_,rfl⟩
 have A1:a.eval g= .func (.func f) fi.toArray ca.toArray:=hf.ev hg
 have p:(Instr.enterLoop fn a.tmps ps assign body none).run E.P w= .ok (w.heap.size+1,[jS w.heap.size]) W1:=by
  rw [← R,G]; exact run_enterLoop_outer _ _ _ _ _
 -- the state with the record and the block
 have u:St E.S E.w0 ((jo (w.heap.size+1) (.loop (rec .ready none))::Ci s0 y0)++(jo w.heap.size (.deferred (some []))::F)) W1:=by
  have X:St E.S E.w0 (Ci s0 y0++F) w:=St.kG (isJ++isF) hnd (by have X:=hJ; have j:=hF; unfold Go.Proofs.YtijpnoadncadoaaGreatDoor.kG at X j ⊢; rw [List.filterMap_append,X,j]) q
  have hn:Ku w W1 [jo (w.heap.size+1) (.loop (rec .ready none)),jo w.heap.size (.deferred (some []))]:=by
   refine ⟨fun A hA=>?_,fun A hA b hb=>?_,?_⟩
   ·rcases bR.1 hA with rfl|hA
    ·show W1.heap[w.heap.size+1]? =_
     rw [← R]; have:=World.alloc_heap_new (w.alloc (.deferred (some []))) (.loop (rec .ready none)); rwa [World.size_alloc] at this
    ·simp only [cm] at hA; subst hA
     show W1.heap[w.heap.size]? =_
     rw [← R]; exact (Below.heap_alloc _ _ _ sm).trans (World.alloc_heap_new w _)
   ·rcases bR.1 hA with rfl|hA
    ·have:b=w.heap.size+1:=hb
     omega
    ·simp only [cm] at hA; subst hA
     have:b=w.heap.size:=hb
     omega
   ·refine List.Pairwise.cons (fun B hB b X j=>?_) (List.pairwise_singleton _ _)
    simp only [cm] at hB; subst hB
    have V:b=w.heap.size+1:=X
    have O:b=w.heap.size:=j
    omega
  have hk:dR no w W1:=by rw [← R]; exact (dR.alloc no w _).trans (dR.alloc no _ _)
  have j:=X.grow hk hn
  refine j.perm ?_
  simp only [List.cons_append,List.nil_append]
  exact List.Perm.cons _ (List.perm_middle.symm)
 have Y:=u.tied
 obtain ⟨H,A6⟩:=List.pairwise_cons.1 Y.sep
 have Ak:=Y.holds _ (cJ ..)
 let J:σ→aw→Prop:=fun k A=> ∃ y,inv k y∧A=cd (jo (w.heap.size+1) (.loop (rec .ready none))::Ci k y)
 let Z:aw→Prop:=fun A=> ∃ c z,(c= .ret∨ ∃ id,c= .exit id)∧invx c z∧A=cd (jo (w.heap.size+1) (.loop (rec .done (some c)))::Cx c z)
 refine ⟨w.heap.size+1,[jS w.heap.size],W1,{target:= .fn (.func f) ca.toArray,args:=fi.toArray++ #[.func (.yield (w.heap.size+1)) #[] #[]]},W1,f,
  (fi++Value.func (.yield (w.heap.size+1)) #[] #[]::ca).toArray,W1,p,?_,fun _ _=>trivial,?_,fun h=>by simp at h,?_⟩
 ·simp only [resolve,A1]
  simp [Deferred.ofValue,Act.eval]
 ·have:fi.toArray++ #[Value.func (.yield (w.heap.size+1)) #[] #[]]++ca.toArray=(fi++Value.func (.yield (w.heap.size+1)) #[] #[]::ca).toArray:=by simp
  simp [invoke,mZ hs.go]
 ·refine (pB E.r (hs.run (w.heap.size+1) J Z _ W1 ?_ ⟨y0,h0,U⟩ Ak ?_ ?_)).mono ?_
  ·-- a round
   rintro k x k' A W hx ⟨y,hy,rfl⟩ A0 hA
   have hl:W.heap[w.heap.size+1]? =some (.loop (rec .ready none)):=hA.1 _ (cJ ..)
   have AC:=run_yield (P:=E.P) (args:=x.toArray) hl (by rw [G]; simpa using hps k x k' hx)
   rw [G] at AC
   refine ⟨fn,_,assign,body,AC,roundIn_of_wpIn trivial ?_⟩
   let A:aw:=cd (jo (w.heap.size+1) (.loop (rec .ready none))::Ci k y)
   have A2:Fr E.n [] (yp ps.toList x L0) {tmps:=(ps.zip x.toArray).foldl (fun tmps (t,a)=>tmps.setIfInBounds t a) a.tmps,defers:=[]}:=by
    have X:=Dh ps.toList x L0 a.tmps (fun t ht=>by have:=de.1 hpn t ht; rwa [Nat.blt_eq] at this) ⟨rfl,hf.size,fun t v hv=>hf.at_ t v (hL t v hv)⟩
    rw [← Array.foldl_toList]
    simpa using X
   have o: ∀ (c:Option Code) (b:Bool),({rec .busy none with state:=if b then .ready else .done,pending:=c}:Loop)=rec (if b then .ready else .done) c:=fun c b=>by rw [G]
   have T: ∀ (c:Option Code) (N:World) (C':List aw) (S:BS),St S W (jo (w.heap.size+1) (.loop (rec .busy none))::C') N→
    ∃ M,(Instr.endRound (w.heap.size+1) c).run E.P N= .ok (.bool c.isNone) M∧St S W (jo (w.heap.size+1) (.loop (rec (if c.isNone then .ready else .done) c))::C') M:=fun c N C' S H=>by
    have AB:N.heap[w.heap.size+1]? =some (.loop (rec .busy none)):=H.holds _ (cJ ..)
    refine ⟨_,run_endRound c AB,?_⟩
    have:=H.y7 (b:=w.heap.size+1) (A':=jo (w.heap.size+1) (.loop (rec (if c.isNone then .ready else .done) c))) 0 rfl rfl rfl (hE _) (fun _ h=>h) (World.putObj_heap_same (dM AB))
    rw [o]
    exact this
   refine round k x k' y (w.heap.size+1) (rec .ready none) (rec .busy none) ⟨A.wf,A.fr⟩ W _ (roundPost E.P (w.heap.size+1) (fun e w'=>(e= .returned (.bool true)∧ ∃ B,J k' B∧Mv A B W w')∨(e= .returned (.bool false)∧ ∃ B,Z B∧Mv A B W w'))) (Nat.le_trans (Nat.le_trans q.keeps.size (by rw [← R]; simp; omega)) A0) hx hy ?_ ?_ ?_ ?_ _ _ A2 (St.zA hA)
   ·intro L' C' hW a1 N i H
    have AB:N.heap[w.heap.size+1]? =some (.loop (rec .ready none)):=H.holds _ (cJ ..)
    refine ⟨_,run_beginRound AB (by rw [G]),hW _ _ i ?_⟩
    have:=H.y7 (b:=w.heap.size+1) (A':=jo (w.heap.size+1) (.loop (rec .busy none))) 0 rfl rfl rfl (hE _) (fun _ h=>h) (World.putObj_heap_same (dM AB))
    have e:({rec .ready none with state:= .busy}:Loop)=rec .busy none:=by rw [G]
    rw [e]; exact this
   ·intro y' L' C' hy' hC' a1 N i H
    obtain ⟨M,V,O⟩:=T none N _ _ (hC' _ H)
    exact ⟨_,M,V,.inl ⟨U,_,⟨y',hy',U⟩,Mv.of O⟩⟩
   ·intro id z L' C' hz hC' a1 N i H
    obtain ⟨M,V,O⟩:=T (some (.exit id)) N _ _ (hC' _ H)
    exact ⟨_,M,V,.inr ⟨U,_,⟨_,z,.inr ⟨id,U⟩,hz,U⟩,Mv.of O⟩⟩
   ·intro z L' C' hz hC' a1 N i H
    obtain ⟨M,V,O⟩:=T (some .ret) N _ _ (hC' _ H)
    exact ⟨_,M,V,.inr ⟨U,_,⟨_,z,.inl U,hz,U⟩,Mv.of O⟩⟩
  ·intro A hA
   obtain ⟨B,hB,hc⟩:=hCp A hA
   exact hc.holds _ (Y.holds B (dW _ (dW _ hB)))
  ·intro A hA b hb hb'
   obtain ⟨B,hB,hc⟩:=hCp A hA
   exact ⟨(H B (dW _ hB) b hb (hc.fr b hb')).1,fun h=>h⟩
  ·rintro e w' ⟨v,rfl,hh⟩
   have AA:Fr E.n (jS w.heap.size::D) L0 {a with defers:=[jS w.heap.size]++a.defers}:=⟨by simp [hf.defers],hf.size,fun t v hv=>hf.at_ t v (hL t v hv)⟩
   have hleave: ∀ (st:LoopState) (c:Option Code) (C':List aw),st≠ .busy→Mv (cd (jo (w.heap.size+1) (.loop (rec .ready none))::Ci s0 y0)) (cd (jo (w.heap.size+1) (.loop (rec st c))::C')) W1 w'→
    ∃ M,(Instr.endLoop (w.heap.size+1)).run E.P w'= .ok c M∧St E.S E.w0 (jo w.heap.size (.deferred (some []))::(F++C')) M:=fun st c C' A4 m=>by
    have X:=(Y.mv 0 rfl m).jB
    have h1':St E.S E.w0 ((jo (w.heap.size+1) (.loop (rec st c))::C')++(jo w.heap.size (.deferred (some []))::F)) w':=X
    have AB:w'.heap[w.heap.size+1]? =some (.loop (rec st c)):=h1'.holds (jo (w.heap.size+1) (.loop (rec st c))) sm
    refine ⟨_,by have:=run_endLoop (P:=E.P) AB (by rw [G]; exact A4); rw [this,G],?_⟩
    have j:=h1'.y7 (b:=w.heap.size+1) (A':=jo (w.heap.size+1) (.loop {rec st c with state:= .exhausted})) 0 rfl rfl rfl (hE _) (fun _ h=>h) (World.putObj_heap_same (dM AB))
    have h3:St E.S E.w0 (C'++(jo w.heap.size (.deferred (some []))::F)) _:=j.take (List.sublist_cons_self _ _)
    rw [G] at h3
    refine h3.perm ?_
    exact (List.perm_append_comm).trans sm
   rcases hh with ⟨s,B,A3,⟨y,hy,rfl⟩,m⟩|⟨B,⟨c,z,hc,hz,rfl⟩,m⟩
   ·obtain ⟨M,V,O⟩:=hleave .ready none _ sm m
    exact ⟨none,M,V,fin w.heap.size s y A3 hy _ _ AA O⟩
   ·obtain ⟨M,V,O⟩:=hleave .done (some c) _ sm m
    refine ⟨some c,M,V,?_⟩
    rcases hc with rfl|⟨id,rfl⟩
    ·exact wpIn_ret (finr w.heap.size z hz _ _ AA O)
    ·exact wpIn_exit (finx w.heap.size id z hz _ _ AA O)
end
section
open Go.RowKit
/-- where a row lies, and its capacity -/
abbrev RA:=OA×Nat
/-- what is asked of memory by all elements -/
def bw {M A:Type} (f:M→A→List aw):List M→List A→List aw
 |m::ms,a::asl=>f m a++bw f ms asl
 |_,_=>[]
theorem bW {M A:Type} {f:M→A→List aw}: ∀ {ms:List M} {asl:List A} {k:Nat} {m:M} {a:A} {X:aw},ms[k]? =some m→asl[k]? =some a→X∈f m a→X∈bw f ms asl
 |[],_,k,m,a,X,h,_,_=>by simp at h
 |_::_,[],k,m,a,X,_,h,_=>by simp at h
 |x::ms,y::asl,0,m,a,X,h,h2,hX=>by
  simp at h h2; subst h h2
  exact List.mem_append_left _ hX
 |x::ms,y::asl,k+1,m,a,X,h,h2,hX=>List.mem_append_right _ (bW (ms:=ms) (asl:=asl) (k:=k) (by simpa using h) (by simpa using h2) hX)
theorem j9 {M A:Type} {f:M→A→List aw}: ∀ {ms:List M} {asl:List A} {X:aw},X∈bw f ms asl→ ∃ (k:Nat) (m:M) (a:A),ms[k]? =some m∧asl[k]? =some a∧X∈f m a
 |[],_,X,h=>by cases h
 |_::_,[],X,h=>by cases h
 |x::ms,y::asl,X,h=>by
  rcases g0.1 h with h|h
  ·exact ⟨0,x,y,U,U,h⟩
  ·obtain ⟨k,m,a,B,C,D⟩:=j9 h
   exact ⟨k+1,m,a,by simpa using B,by simpa using C,D⟩
theorem lq {M A:Type} {f:M→A→List aw}: ∀ {ms:List M} {asl:List A} {ns:List M} {bs:List A},ms.length=asl.length→bw f (ms++ns) (asl++bs)=bw f ms asl++bw f ns bs
 |[],[],ns,bs,_=>rfl
 |[],_::_,ns,bs,h=>by simp at h
 |_::_,[],ns,bs,h=>by simp at h
 |x::ms,y::asl,ns,bs,h=>by
  simp only [List.cons_append,bw,List.append_assoc]
  rw [lq (by simpa using h)]
theorem er {M A β:Type} {f:M→A→β} {ms:List M} {asl:List A} {k:Nat} {m:M} {a:A} (h:ms[k]? =some m) (h2:asl[k]? =some a):(List.zipWith f ms asl)[k]? =some (f m a):=by
 rw [List.getElem?_zipWith,h,h2]
theorem df {C L:List aw} {A:aw} (i:Nat) (hC:C[i]? =some (d_ L).ro) (hm:A∈L):js C A.holds:=fun w hw=>hw _ (aP hC) A hm
theorem gQ {M A:Type} {f g:M→A→List aw} {ms:List M} {asl:List A} {C:List aw} (i:Nat) (hC:C[i]? =some (cd (bw g ms asl))) (h: ∀ m a w,(∀ X∈g m a,X.holds w)→ ∀ X∈f m a,X.holds w):js C (d_ (bw f ms asl)).holds:=fun w hw X hX=>by
 have hb:=hw _ (aP hC)
 obtain ⟨k,m,a,B,D,E⟩:=j9 hX
 exact h m a w (fun Y hY=>hb.1 Y (bW B D hY)) X E
/-- a row that is part of another one -/
theorem L9 {C:List aw} {A:OA} {n k sz:Nat} {es:List (List Value)} (hR:js C (rd A n sz es).holds) (hk:k≤n):js C (rd A k sz (es.take k)).holds:=fun w hw=>by
 obtain ⟨D,E,F⟩:=hR w hw
 refine ⟨by rw [List.length_take,D]; omega,fun x hx=>E x (List.mem_of_mem_take hx),fun hp=>?_⟩
 have G:0<k:=Nat.pos_of_mul_pos_right hp
 have hs:0<sz:=Nat.pos_of_mul_pos_left hp
 obtain ⟨ad,hA,B⟩:=F (Nat.mul_pos I hs)
 refine ⟨ad,hA,fun i e j v he hv=>B i e j v ?_ hv⟩
 rw [List.getElem?_take] at he
 split at he
 ·exact he
 ·cases he
section
variable {E:e9} {ops:Array Oper} {Q:dq} {rest:List Oper} {D:List Deferred} {L:List (Nat×Value)} {C:List aw}
variable {d:Nat} {ty:TypeId} {ps:String} {af:Array Edge} {g:Option (Nat×Bool)}
/-- an element of a slice that is the head of a row -/
theorem Us (k:Nat) {x ix:Operand} {A:OA} {n n' c sz e t:Nat} {es:List (List Value)} {j:Int} (h:bF E.n ops L d g x ix=some (.slice A n' c,.int .i64 j)) (hR:js C (rd A n sz es).holds)
 (ht:tE E.P t=some (e,sz)) (hz:0<sz) (hj:j=(k:Int)) (hk:k<n') (hn:n'≤n):SE E ops ⟨some d,.indexAddr t x ix,ty,ps,af,g⟩ D L C (.pointer (q8 A (k*sz))) d:=IA k h (L9 hR hn) ht hz hj hk
end
theorem St.tie {S:BS} {w0 w:World} {C:List aw} {A:aw} {L L':List aw} (h:St S w0 (A::cd L::C) w) (e:L++[A]=L'):St S w0 (cd L'::C) w:=by
 subst e
 have B:St S w0 (cd L::A::C) w:=h.perm (List.Perm.swap _ _ _)
 have D:St S w0 (L++(A::C)) w:=B.jB
 have E:St S w0 ((L++[A])++C) w:=by simpa using D
 exact E.tied
theorem St.Ok {S:BS} {w0 w:World} {C:List aw} (h:St S w0 C w):St S w0 (cd []::C) w:=St.tied (C1:=[]) h
section
variable {E:e9} {Q:dq} {D:List Deferred} {L:List (Nat×Value)} {C:List aw}
theorem ru {c:Code} (h:WJ E c Q D L (cd []::C)):WJ E c Q D L C:=fun a w hf hs=>h a w hf hs.Ok
theorem wL {ops:Array Oper} {rest:List Oper} (h:RJ E ops Q rest D L (cd []::C)):RJ E ops Q rest D L C:=fun a w hf hs=>h a w hf hs.Ok
theorem yr {K:Act→World→Prop} {C1:List aw} {A:aw} {X X':List aw} (i j:Nat) (hn:decide (j::i::(List.range C.length).filter fun k=>k != i&&k != j).Nodup=true) (hC:kG C (j::i::(List.range C.length).filter fun k=>k != i&&k != j)=A::cd X::C1) (e:X++[A]=X')
 (h:KJ E K D L (cd X'::C1)):KJ E K D L C:=fun a w hf hs=>h a w hf ((St.kG _ hn hC hs).tie e)
theorem M5 {ops:Array Oper} {rest:List Oper} {C1:List aw} {A:aw} {X X':List aw} (i j:Nat) (hn:decide (j::i::(List.range C.length).filter fun k=>k != i&&k != j).Nodup=true) (hC:kG C (j::i::(List.range C.length).filter fun k=>k != i&&k != j)=A::cd X::C1) (e:X++[A]=X')
 (h:RJ E ops Q rest D L (cd X'::C1)):RJ E ops Q rest D L C:=fun a w hf hs=>h a w hf ((St.kG _ hn hC hs).tie e)
end
end
section
open Go.RowKit
abbrev jY:ag→Value:=fun s=>vA (ag.cells s)
abbrev eu:aD→Value:=fun s=>vA (aD.cells s)
abbrev TM:=List (Int×ag)
abbrev FM:=List (aD×Int)
def gE {α:Type} (m:α) (b:Nat):List Value:=[Value.map (some b)]
def pM (m:TM) (b:Nat):List aw:=[kh iV b (cR jY m)]
def mY (m:FM) (b:Nat):List aw:=[kh eu b (cR iV m)]
theorem lG {M A:Type} {f:M→A→List aw}: ∀ (m:M) (a:A) (w:World),(∀ X∈f m a,X.holds w)→ ∀ X∈f m a,X.holds w:=fun _ _ _ h=>h
/-- untied -/
theorem EZ {E:e9} {ops:Array Oper} {Q:dq} {rest:List Oper} {D:ig} {L:dA} {C X C1:List aw} (i:Nat) (hn:decide (i::(List.range C.length).filter fun k=>k != i).Nodup=true) (hC:kG C (i::(List.range C.length).filter fun k=>k != i)=cd X::C1)
 (h:RJ E ops Q rest D L (X++C1)):RJ E ops Q rest D L C:=fun a w hf hs=>h a w hf (St.jB (St.kG _ hn hC hs))
end
section
def cS (ln:bT) (rd:cU) (e:List Int) (tms:List TM):bY:=⟨rd.Start,rd.gd,e,tms,ln.ck,ln.dj,(rd.ab.n:Int)⟩
def Ng (o:Int×ag):List Value:=[.int .i64 o.1,.agg (ag.cells o.2).toArray]
structure GH (w:bY):Prop where
 n:w.n≤6
 times:w.vz.length=w.n
 now:0≤w.Start∧w.Start≤w.gd∧w.gd≤86400000
 least: ∀ x∈w.qy,1≤x∧x≤500000000
 EP: ∀ t∈w.vz,∀ p∈t,(0≤p.1∧p.1≤10)∧0≤p.2.Lo∧p.2.Lo≤p.2.Hi∧p.2.Hi≤86400000
theorem GH.opt {w:bY} (h:GH w) {b:Nat} {o:Int×ag} (ho:o∈iT w b):(-1≤o.1∧o.1≤10)∧0≤o.2.Lo∧o.2.Lo≤o.2.Hi∧o.2.Hi≤86400000:=by
 unfold iT uv at ho
 rcases bR.1 ho with rfl|ho
 ·have:=h.now; simp only; omega
 ·cases ht:w.vz[b]? with
  |none=>simp [ht] at ho
  |some t=>
   rw [ht] at ho
   have:=h.EP t (aP ht) o ho
   omega
theorem GH.cf {w:bY} (h:GH w) (b:Nat):0≤cf w b∧cf w b≤500000000:=by
 unfold Go.Proofs.YtijpnoadncadoaaGreatDoor.cf
 cases ht:w.qy[b]? with
 |none=>simp
 |some x=>have:=h.least x (aP ht); simp only [Option.getD_some]; omega
theorem uL (s:Int):(0≤(fB s).right∧0≤(fB s).eQ)∧(fB s).right+(fB s).eQ=1:=by unfold fB; split<;>simp
theorem Hf {w:bY} (h:GH w): ∀ (b:Nat) p,p∈fwd w b→(0≤p.2∧p.2≤86400000)∧(0≤p.1.right∧0≤p.1.eQ)∧p.1.right+p.1.eQ=(b:Int):=by
 intro b
 induction b with
 |zero=>
  intro p hp
  simp only [fwd,cm] at hp
  subst hp
  have:=h.now; simp only; omega
 |succ b ih=>
  intro q hq
  obtain ⟨p,hp,o,ho,e⟩:=gf.1 hq
  have A:=ih p hp
  have B:=h.opt ho
  have C:=h.cf b
  have D:=h.now
  have E:=uL o.1
  unfold k8 at e
  split at e
  ·simp only [Option.some.injEq] at e
   subst e
   simp only [dF]
   omega
  ·cases e
theorem PU {w:bY} (h:GH w): ∀ (k:Nat) p,p∈bwd w k→(-(500000000*(k:Int))≤p.2∧p.2≤86400000)∧(0≤p.1.right∧0≤p.1.eQ)∧p.1.right+p.1.eQ≤(k:Int):=by
 intro k
 induction k with
 |zero=>
  intro p hp
  simp only [bwd,cm] at hp
  subst hp
  have:=h.now; simp only; omega
 |succ k ih=>
  intro q hq
  simp only [bwd,bR,List.mem_flatMap,List.mem_filterMap] at hq
  rcases hq with rfl|⟨p,hp,o,ho,e⟩
  ·have:=h.now; simp only; omega
  ·have A:=ih p hp
   have B:=h.opt ho
   have C:=h.cf (w.n-(k+1))
   have D:=h.now
   have E:=uL o.1
   unfold oc at e
   split at e
   ·simp only [Option.some.injEq] at e
    subst e
    simp only [dF]
    omega
   ·cases e
theorem Hv {w:bY} (h:GH w) {b:Nat} {p:aD×Int} (hp:p∈back w b):(-3000000000≤p.2∧p.2≤86400000)∧(0≤p.1.right∧0≤p.1.eQ)∧p.1.right+p.1.eQ≤6:=by
 have:=PU h _ _ hp
 have:=h.n
 omega
theorem wN {w:bY} {b:Nat} {t:TM} (ht:w.vz[b]? =some t) {o:Int×ag}:o∈iT w b↔o=(-1,⟨w.Start,w.gd⟩)∨o∈t:=by
 unfold iT uv; rw [ht]; simp
theorem lX {K β:Type} [DecidableEq K] {l:List (K×β)} {x:K} {y:β} (hn:(l.map (·.1)).Nodup) (hm:(x,y)∈l) {o:K×β} (h:o∈l):o∈eY l x∨o=(x,y):=by
 by_cases e:o.1=x
 ·right
  obtain ⟨k,v⟩:=o
  simp only at e
  subst e
  have B:=(lu hn).1 h
  have A:=(lu hn).1 hm
  rw [B] at A
  cases A; rfl
 ·exact .inl (yF.2 ⟨h,e⟩)
theorem FG {K β:Type} [DecidableEq K] {t l ys:List (K×β)} {x:K} {y:β} (hn:(l.map (·.1)).Nodup) (hm:(x,y)∈l) (h: ∀ o∈t,o∈l∨o∈ys): ∀ o∈t,o∈eY l x∨o∈ys++[(x,y)]:=fun o ho=>by
 rcases h o ho with h|h
 ·rcases lX hn hm h with h|h
  ·exact .inl h
  ·exact .inr (by simp [h])
 ·exact .inr (by simp [h])
theorem mA {K β:Type} [DecidableEq K] {t l:List (K×β)} {x:K} (h: ∀ o∈l,o∈t): ∀ o∈eY l x,o∈t:=fun o ho=>h o (yF.1 ho).1
theorem Hp {w:bY} {m left:List (aD×Int)} (h: ∀ p∈m,p∈left∨kP w p.1=false) (h0:left=[]):jK w m=false:=by
 unfold jK
 rw [List.any_eq_false]
 intro p hp
 rcases h p hp with q|q
 ·rw [h0] at q; cases q
 ·simp [q]
theorem L7 {w:bY} {m:List (aD×Int)} {p:aD×Int} (hp:p∈m) (h:kP w p.1=true):jK w m=true:=List.any_eq_true.2 ⟨p,hp,h⟩
theorem Kc {w:bY} {m left:List (aD×Int)} {t:aD} {v:Int} (hn:(left.map (·.1)).Nodup) (hm:(t,v)∈left) (h: ∀ p∈m,p∈left∨kP w p.1=false) (hf:kP w t=false): ∀ p∈m,p∈eY left t∨kP w p.1=false:=fun p hp=>by
 rcases h p hp with q|q
 ·rcases lX hn hm q with q|q
  ·exact .inl q
  ·right; rw [q]; exact hf
 ·exact .inr q
/-- what the maps of a watch are -/
structure vy (w:bY) (fs:List (List (aD×Int))):Prop where
 len:fs.length=w.n+1
 min: ∀ (b:Nat) m,fs[b]? =some m→ue m (fwd w b)
 keys: ∀ (b:Nat) m,fs[b]? =some m→(m.map (·.1)).Nodup
structure sU (w:bY) (bs:List (List (aD×Int))):Prop where
 len:bs.length=w.n+1
 max: ∀ (b:Nat) m,bs[b]? =some m→vC m (back w b)
 keys: ∀ (b:Nat) m,bs[b]? =some m→(m.map (·.1)).Nodup
theorem vy.mem {w:bY} {fs:List (List (aD×Int))} (h:vy w fs) {b:Nat} {m:List (aD×Int)} (hm:fs[b]? =some m) {p:aD×Int} (hp:p∈m):p∈fwd w b:=(h.min b m hm).1 _ _ ((fJ (h.keys b m hm)).1 hp)
theorem sU.mem {w:bY} {fs:List (List (aD×Int))} (h:sU w fs) {b:Nat} {m:List (aD×Int)} (hm:fs[b]? =some m) {p:aD×Int} (hp:p∈m):p∈back w b:=(h.max b m hm).1 _ _ ((fJ (h.keys b m hm)).1 hp)
theorem Fv {w:bY} {b:Nat} {t l ys:List (Int×ag)} (ht:w.vz[b]? =some t) (h: ∀ o∈t,o∈l∨o∈ys) (h0:l=[]) (hs:(-1,(⟨w.Start,w.gd⟩:ag))∈ys): ∀ o∈iT w b,o∈ys:=fun o ho=>by
 rcases (wN ht).1 ho with rfl|ho
 ·exact hs
 ·rcases h o ho with q|q
  ·rw [h0] at q; cases q
  ·exact q
end
section
/-- by these options all is yielded -/
def lT (w:bY) (b:Nat) (mf mb:List (aD×Int)) (os ys:List (Int×ag)):Prop:= ∀ o∈os,∀ p∈mf,∀ u∈mb,∀ q,mE w b p u o=some q→q∈ys
def nx (w:bY) (b:Nat) (mf mb:List (aD×Int)) (o:Int×ag) (left:List (aD×Int)) (ys:List (Int×ag)):Prop:= ∀ p∈mf,p∈left∨ ∀ u∈mb,∀ q,mE w b p u o=some q→q∈ys
def nP (w:bY) (b:Nat) (mb:List (aD×Int)) (o:Int×ag) (p:aD×Int) (left:List (aD×Int)) (ys:List (Int×ag)):Prop:= ∀ u∈mb,u∈left∨ ∀ q,mE w b p u o=some q→q∈ys
variable {w:bY} {b:Nat} {mf mb left:List (aD×Int)} {o x:Int×ag} {os ys:List (Int×ag)} {p u:aD×Int}
theorem lT.nil:lT w b mf mb [] ys:=fun o ho=>by cases ho
theorem lT.app (h:lT w b mf mb os ys):lT w b mf mb os (ys++[x]):=fun o ho p hp u hu q e=>List.mem_append_left _ (h o ho p hp u hu q e)
theorem nx.app (h:nx w b mf mb o left ys):nx w b mf mb o left (ys++[x]):=fun p hp=>(h p hp).imp id fun h u hu q e=>List.mem_append_left _ (h u hu q e)
theorem nx.start:nx w b mf mb o mf ys:=fun p hp=> .inl hp
theorem nP.start:nP w b mb o p mb ys:=fun p hp=> .inl hp
theorem nP.skip {t:aD} {v:Int} (hn:(left.map (·.1)).Nodup) (hm:(t,v)∈left) (h:nP w b mb o p left ys) (he:mE w b p (t,v) o=none):nP w b mb o p (eY left t) ys:=fun u hu=>by
 rcases h u hu with q|q
 ·rcases lX hn hm q with q|q
  ·exact .inl q
  ·right; intro z hz; rw [q,he] at hz; cases hz
 ·exact .inr q
theorem nP.SY {t:aD} {v:Int} (hn:(left.map (·.1)).Nodup) (hm:(t,v)∈left) (h:nP w b mb o p left ys) (he:mE w b p (t,v) o=some x):nP w b mb o p (eY left t) (ys++[x]):=fun u hu=>by
 rcases h u hu with q|q
 ·rcases lX hn hm q with q|q
  ·exact .inl q
  ·right; intro z hz; rw [q,he] at hz; cases hz; simp
 ·right; intro z hz; exact List.mem_append_left _ (q z hz)
theorem nx.next {t:aD} {v:Int} {l2:List (aD×Int)} (hn:(left.map (·.1)).Nodup) (hm:(t,v)∈left) (h:nx w b mf mb o left ys) (hq:nP w b mb o (t,v) l2 ys) (h0:l2=[]):nx w b mf mb o (eY left t) ys:=fun p hp=>by
 rcases h p hp with q|q
 ·rcases lX hn hm q with q|q
  ·exact .inl q
  ·right; intro u hu z hz; subst q
   rcases hq u hu with q|q
   ·rw [h0] at q; cases q
   ·exact q z hz
 ·exact .inr q
theorem lT.next (h:lT w b mf mb os ys) (hp:nx w b mf mb o left ys) (h0:left=[]):lT w b mf mb (os++[o]) ys:=fun o' ho p hp' u hu q e=>by
 rcases g0.1 ho with ho|ho
 ·exact h o' ho p hp' u hu q e
 ·simp only [cm] at ho; subst ho
  rcases hp p hp' with z|z
  ·rw [h0] at z; cases z
  ·exact z u hu q e
theorem lT.fin (h:lT w b mf mb os ys) (ho: ∀ o∈iT w b,o∈os): ∀ q∈qu w b mf mb,q∈ys:=fun q hq=>by
 obtain ⟨o,A,p,B,u,C,e⟩:=iH.1 hq
 exact h o (ho o A) p B u C q e
theorem Gf (h:max (p.2+cf w b) o.2.Lo≤min u.2 o.2.Hi) (h2:kP w (dF (dF p.1 u.1) (fB o.1))=true):mE w b p u o=some (o.1,⟨max (p.2+cf w b) o.2.Lo,min u.2 o.2.Hi⟩):=by
 unfold mE jO xM; rw [if_pos ⟨h,h2⟩]
theorem Ij (h: ¬ max (p.2+cf w b) o.2.Lo≤min u.2 o.2.Hi):mE w b p u o=none:=by
 unfold mE jO; rw [if_neg (fun q=>h q.1)]
theorem Gm (h2:kP w (dF (dF p.1 u.1) (fB o.1))=false):mE w b p u o=none:=by
 unfold mE xM; rw [if_neg (fun q=>by rw [h2] at q; exact absurd q.2 dc)]
theorem ny {v:Int} (h:w.qy[b]? =some v):cf w b=v:=by unfold cf; rw [h]; rfl
theorem BD {t q:aD} {v z y:Int} (hy:w.qy[b]? =some y) (h:max (v+y) o.2.Lo≤min z o.2.Hi) (h2:kP w (dF (dF t q) (fB o.1))=true):mE w b (t,v) (q,z) o=some (o.1,⟨max (v+y) o.2.Lo,min z o.2.Hi⟩):=by
 have e:=ny hy
 subst e
 exact Gf h h2
theorem F7 {t q:aD} {v z y:Int} (hy:w.qy[b]? =some y) (h: ¬ max (v+y) o.2.Lo≤min z o.2.Hi):mE w b (t,v) (q,z) o=none:=by
 have e:=ny hy
 subst e
 exact Ij h
theorem oG {m:List (aD×Int)} {k:aD} {y:Int} (h:(m.map (·.1)).Nodup):((eo m k y).map (·.1)).Nodup:=by
 unfold eo
 by_cases hx:(m.lookup k).isSome
 ·rw [if_pos hx,List.map_map]
  have e:m.map ((fun p=>p.1)∘fun p=>if p.1=k then (k,y) else p)=m.map (·.1):=by
   apply List.map_congr_left
   intro p _
   simp only [Function.comp]
   split
   ·rename_i e; exact e.symm
   ·rfl
  rw [e]; exact h
 ·rw [if_neg hx,List.map_append,List.nodup_append]
  refine ⟨h,sm,?_⟩
  intro a ha c hc
  simp only [List.map_cons,List.map_nil,cm] at hc
  rw [hc]
  obtain ⟨p,hp,rfl⟩:=cy.1 ha
  have hn:m.lookup k=none:=by cases h0:m.lookup k with
   |none=>rfl
   |some v=>exact absurd (by rw [h0]; rfl) hx
  exact iA.1 hn p hp
theorem Bl {m:List (aD×Int)} {q:aD×Int} (h:(m.map (·.1)).Nodup):((pK m q).map (·.1)).Nodup:=by
 unfold pK; split
 ·exact oG h
 ·split
  ·exact oG h
  ·exact h
theorem B_ {m:List (aD×Int)} {q:aD×Int} (h:(m.map (·.1)).Nodup):((pt m q).map (·.1)).Nodup:=by
 unfold pt; split
 ·exact oG h
 ·split
  ·exact oG h
  ·exact h
/-- a map of the first times, on its way -/
structure xH (w:bY) (b:Nat) (m:List (aD×Int)):Prop where
 snd:vw m (fwd w (b+1))
 keys:(m.map (·.1)).Nodup
structure v_ (w:bY) (b:Nat) (m:List (aD×Int)):Prop where
 snd:vw m (back w b)
 keys:(m.map (·.1)).Nodup
 zero: ∃ v,m.lookup ⟨0,0⟩=some v∧w.gd≤v
theorem H8 (h:max (p.2+cf w b) o.2.Lo≤min o.2.Hi w.gd):k8 w b p o=some (dF p.1 (fB o.1),max (p.2+cf w b) o.2.Lo):=by unfold k8; rw [if_pos h]
theorem KX (h: ¬ max (p.2+cf w b) o.2.Lo≤min o.2.Hi w.gd):k8 w b p o=none:=by unfold k8; rw [if_neg h]
theorem IQ (h:o.2.Lo≤min p.2 o.2.Hi):oc w b p o=some (dF p.1 (fB o.1),min p.2 o.2.Hi-cf w b):=by unfold oc; rw [if_pos h]
theorem LH (h: ¬ o.2.Lo≤min p.2 o.2.Hi):oc w b p o=none:=by unfold oc; rw [if_neg h]
theorem xH.start:xH w b []:=⟨fun t v h=>by simp at h,List.nodup_nil⟩
theorem xH.add {m:List (aD×Int)} {q:aD×Int} (h:xH w b m) (hp:p∈fwd w b) (ho:o∈iT w b) (he:k8 w b p o=some q):xH w b (pK m q):=⟨FZ h.snd (gf.2 ⟨p,hp,o,ho,he⟩),Bl h.keys⟩
theorem v_.start (hb:b<w.n):v_ w b [(⟨0,0⟩,w.gd)]:=⟨fun t v h=>by
 obtain ⟨rfl,rfl⟩:=pf.1 h
 exact (o3 hb).2 (.inl U),sm,w.gd,pf.2 ⟨U,U⟩,Int.le_refl _⟩
theorem v_.add {m:List (aD×Int)} {q:aD×Int} (hb:b<w.n) (h:v_ w b m) (hp:p∈back w (b+1)) (ho:o∈iT w b) (he:oc w b p o=some q):v_ w b (pt m q):=⟨Fp h.snd ((o3 hb).2 (.inr ⟨p,hp,o,ho,he⟩)),B_ h.keys,by
 obtain ⟨v,A,C⟩:=h.zero
 obtain ⟨v',B,D⟩:=rh (q:=q) _ _ A
 exact ⟨v',B,I⟩⟩
theorem jC.none_ {m:List (aD×Int)} (h:jC w b m p os) (he:k8 w b p o=none):jC w b m p (os++[o]):=h.add (wZ.refl _) fun q hq=>by rw [he] at hq; cases hq
theorem jC.I8 {m:List (aD×Int)} {q:aD×Int} (h:jC w b m p os) (he:k8 w b p o=some q):jC w b (pK m q) p (os++[o]):=h.add vL fun q' hq=>by rw [he] at hq; cases hq; exact F8
theorem jw.none_ {m:List (aD×Int)} (h:jw w b m p os) (he:oc w b p o=none):jw w b m p (os++[o]):=h.add (x7.refl _) fun q hq=>by rw [he] at hq; cases hq
theorem jw.I8 {m:List (aD×Int)} {q:aD×Int} (h:jw w b m p os) (he:oc w b p o=some q):jw w b (pt m q) p (os++[o]):=h.add rh fun q' hq=>by rw [he] at hq; cases hq; exact Fe
/-- what of a map of the beam before is used already -/
def j3 (w:bY) (b:Nat) (mb m left:List (aD×Int)):Prop:= ∀ p∈mb,p∈left∨jC w b m p (iT w b)
def jR (w:bY) (b:Nat) (mb m left:List (aD×Int)):Prop:= ∀ p∈mb,p∈left∨jw w b m p (iT w b)
theorem j3.start {m:List (aD×Int)}:j3 w b mb m mb:=fun p hp=> .inl hp
theorem jR.start {m:List (aD×Int)}:jR w b mb m mb:=fun p hp=> .inl hp
theorem j3.lower {m m':List (aD×Int)} (h:j3 w b mb m left) (hl:wZ m m'):j3 w b mb m' left:=fun p hp=>(h p hp).imp id fun h=>h.lower hl
theorem jR.upper {m m':List (aD×Int)} (h:jR w b mb m left) (hl:x7 m m'):jR w b mb m' left:=fun p hp=>(h p hp).imp id fun h=>h.upper hl
theorem j3.next {m:List (aD×Int)} {t:aD} {v:Int} (hn:(left.map (·.1)).Nodup) (hm:(t,v)∈left) (h:j3 w b mb m left) (hd:jC w b m (t,v) os) (ho: ∀ o∈iT w b,o∈os):j3 w b mb m (eY left t):=fun p hp=>by
 rcases h p hp with q|q
 ·rcases lX hn hm q with q|q
  ·exact .inl q
  ·right; rw [q]; exact hd.sub ho
 ·exact .inr q
theorem jR.next {m:List (aD×Int)} {t:aD} {v:Int} (hn:(left.map (·.1)).Nodup) (hm:(t,v)∈left) (h:jR w b mb m left) (hd:jw w b m (t,v) os) (ho: ∀ o∈iT w b,o∈os):jR w b mb m (eY left t):=fun p hp=>by
 rcases h p hp with q|q
 ·rcases lX hn hm q with q|q
  ·exact .inl q
  ·right; rw [q]; exact hd.sub ho
 ·exact .inr q
theorem j3.fin {m:List (aD×Int)} (h:j3 w b mb m left) (h0:left=[]): ∀ p∈mb,jC w b m p (iT w b):=fun p hp=>by
 rcases h p hp with q|q
 ·rw [h0] at q; cases q
 ·exact q
theorem jR.fin {m:List (aD×Int)} (h:jR w b mb m left) (h0:left=[]): ∀ p∈mb,jw w b m p (iT w b):=fun p hp=>by
 rcases h p hp with q|q
 ·rw [h0] at q; cases q
 ·exact q
end
section
def mK (a b:ag):ag:=⟨a.Lo+b.Lo,a.Hi+b.Hi⟩
def gU:ag:=⟨0,0⟩
def kQ (a:ag) (l:List ag):ag:=l.foldl mK a
def lR (z:ag):Prop:=(-1000000000≤z.Lo∧z.Lo≤1000000000)∧ -1000000000≤z.Hi∧z.Hi≤1000000000
theorem yU {a:ag} {l:List ag} {i:Nat} {z:ag} (h:l[i]? =some z):kQ a (l.take (i+1))=mK (kQ a (l.take i)) z:=by
 rw [List.take_add_one,h]; unfold kQ; simp
theorem Nu {a:ag} {l:List ag} (ha:lR a) (hl: ∀ z∈l,lR z): ∀ i:Nat,(-1000000000-1000000000*(i:Int)≤(kQ a (l.take i)).Lo∧(kQ a (l.take i)).Lo≤1000000000+1000000000*(i:Int))∧ -1000000000-1000000000*(i:Int)≤(kQ a (l.take i)).Hi∧(kQ a (l.take i)).Hi≤1000000000+1000000000*(i:Int):=by
 intro i
 induction i with
 |zero=>unfold lR at ha; simp [kQ]; omega
 |succ i ih=>
  cases h:l[i]? with
  |none=>rw [List.take_add_one,h]; simp only [Option.toList_none,List.append_nil]; omega
  |some z=>
   have hz:=hl z (aP h)
   unfold lR at hz
   rw [yU h]
   simp only [mK]
   omega
theorem G9 {a:ag} {l:List ag} {i:Nat} (h:l.length≤i):kQ a (l.take i)=kQ a l:=by rw [List.take_of_length_le h]
theorem nD {a z:ag}:vA (ag.cells (kQ a [z]))=vA (ag.cells (mK a z)):=rfl
theorem Ca {a y z:ag}:vA (ag.cells (kQ a [y,z]))=vA (ag.cells (mK (mK a y) z)):=rfl
/-- how long the run is from one mark, over so many stretches; by how much it falls -/
def eE (ts:List au) (f:Nat):Nat→ag
 |0=>gU
 |k+1=>match ts[f+k]? with
  |some x=>mK (eE ts f k) x.kN
  |none=>eE ts f k
def gK (ts:List au) (f:Nat):Nat→ag
 |0=>gU
 |k+1=>match ts[f+k]? with
  |some x=>mK (gK ts f k) x.mj
  |none=>gK ts f k
theorem pL {ts:List au} {f k:Nat} {x:au} (h:ts[f+k]? =some x):eE ts f (k+1)=mK (eE ts f k) x.kN:=by simp [eE,h]
theorem qg {ts:List au} {f k:Nat} {x:au} (h:ts[f+k]? =some x):gK ts f (k+1)=mK (gK ts f k) x.mj:=by simp [gK,h]
theorem mm {ts:List au} (ht: ∀ x∈ts,bU x) (f:Nat): ∀ k:Nat,(0≤(eE ts f k).Lo∧(eE ts f k).Lo≤(eE ts f k).Hi)∧(eE ts f k).Hi≤30000*(k:Int):=by
 intro k
 induction k with
 |zero=>simp [eE,gU]
 |succ k ih=>
  simp only [eE]
  cases h:ts[f+k]? with
  |none=>simp only; omega
  |some x=>
   have hx:=(ht x (aP h)).2.1
   simp only [eg] at hx
   simp only [mK]
   omega
theorem EB {ts:List au} (ht: ∀ x∈ts,bU x) (f:Nat): ∀ k:Nat,(0≤(gK ts f k).Lo∧(gK ts f k).Lo≤(gK ts f k).Hi)∧(gK ts f k).Hi≤5000*(k:Int):=by
 intro k
 induction k with
 |zero=>simp [gK,gU]
 |succ k ih=>
  simp only [gK]
  cases h:ts[f+k]? with
  |none=>simp only; omega
  |some x=>
   have hx:=(ht x (aP h)).2.2.1
   simp only [eg] at hx
   simp only [mK]
   omega
theorem qL {ts:List au} (ht: ∀ x∈ts,bU x) {f k:Nat} (hk:k≤13):lR (eE ts f k):=by
 have:=mm ht f k; unfold lR; omega
theorem wP {ts:List au} (ht: ∀ x∈ts,bU x) {f k:Nat} (hk:k≤13):lR (gK ts f k):=by
 have:=EB ht f k; unfold lR; omega
theorem uD {x:au} (h:bU x):lR x.kN:=by have:=h.2.1; simp only [eg] at this; unfold lR; omega
theorem vq {x:au} (h:bU x):lR x.mj:=by have:=h.2.2.1; simp only [eg] at this; unfold lR; omega
theorem yG {ts:List au} (h: ¬ (if du ts=true then (0:Int) else 10)=0):du ts=false∧(if du ts=true then (0:Int) else 10)=10:=by
 cases ht:du ts with
 |true=>rw [ht] at h; exact absurd rfl h
 |false=>exact ⟨rfl,rfl⟩
theorem DZ {ts:List au} (h:(if du ts=true then (0:Int) else 10)=0):du ts=true:=by
 cases ht:du ts with
 |true=>rfl
 |false=>rw [ht] at h; exact absurd h dc
/-- what the iterator of marks yields -/
def uf (ts:List au) (f:Nat):List (List Value):=(List.range (ts.length-f+1)).map fun (k:Nat)=>[.agg (eE ts f k).cells.toArray,.agg (gK ts f k).cells.toArray]
theorem tq {ts:List au} {f:Nat}:(uf ts f).length=ts.length-f+1:=by simp [uf]
theorem yC {ts:List au} {f k:Nat} (h:k≤ts.length-f):(uf ts f)[k]? =some [.agg (eE ts f k).cells.toArray,.agg (gK ts f k).cells.toArray]:=by
 simp [uf,List.getElem?_range (show k<ts.length-f+1 by omega)]
theorem FN {ts:List au} {f k:Nat} {x:List Value} (h:(uf ts f)[k]? =some x):k≤ts.length-f∧x=[.agg (eE ts f k).cells.toArray,.agg (gK ts f k).cells.toArray]:=by
 have hi:k<ts.length-f+1:=by
  have:=(aY.1 h).1
  simpa [uf] using this
 rw [yC I] at h
 exact ⟨I,(Option.some.inj h).symm⟩
theorem Dp {ts:List au} {f:Nat}: ∀ x∈uf ts f,x.length=2:=fun x hx=>by
 obtain ⟨k,_,rfl⟩:=cy.1 hx; rfl
end
section
def fG (ts:List au) (s:cE):Prop:=(0≤s.bB∧s.bB<(ts.length:Int))∧ ∃ x,ts[s.bB.toNat]? =some x∧eg s.mP 0 (x.kN.Lo-1)
noncomputable instance (ts:List au) (s:cE):Decidable (fG ts s):=Classical.propDecidable _
theorem Bp {ts:List au} {s:cE} {x:au} (h:0≤s.bB∧s.bB<(ts.length:Int)) (hx:ts[s.bB.toNat]? =some x):fG ts s↔eg s.mP 0 (x.kN.Lo-1):=
 ⟨fun A=>by obtain ⟨y,hy,B⟩:=A.2; rw [hx] at hy; cases hy; exact B,fun A=>⟨h,x,hx,A⟩⟩
theorem BQ {ts:List au} {s:cE} (h: ¬ (0≤s.bB∧s.bB<(ts.length:Int))): ¬ fG ts s:=fun A=>h A.1
theorem zn {ts:List au} {s:cE} (ht: ∀ x∈ts,bU x) (h:fG ts s):(0≤s.mP.Lo∧s.mP.Lo≤s.mP.Hi)∧s.mP.Hi≤30000:=by
 obtain ⟨x,hx,A⟩:=h.2
 have:=(ht x (aP hx)).2.1
 simp only [eg] at A this
 omega
theorem Dv {ts:List au} {a:cE}:vB (decide (∀ s∈[a],fG ts s))=vB (decide (fG ts a)):=congrArg _ (fu.2 sm)
theorem Dc {ts:List au} {a b:cE}:vB (decide (∀ s∈[a,b],fG ts s))=vB (decide (fG ts a∧fG ts b)):=congrArg _ (fu.2 sm)
def ot (z:ag):ag:=⟨-z.Hi,-z.Lo⟩
def Kr (ts:List au) (s:cE):ag:=mK (eE ts 0 s.bB.toNat) s.mP
noncomputable def EI (ts:List au) (s:cE):Int:=if du ts=true then (if fG ts s then 0 else 12) else 10
noncomputable def N5 (ts:List au) (s:cE):ag:=if EI ts s=0 then Kr ts s else gU
theorem Kk {ts:List au} {s:cE} (h:du ts=false):EI ts s=10∧N5 ts s=gU:=by
 have e:EI ts s=10:=by unfold EI; rw [h]; rfl
 exact ⟨e,by unfold N5; rw [e]; rfl⟩
theorem HF {ts:List au} {s:cE} (h:du ts=true) (h2: ¬ fG ts s):EI ts s=12∧N5 ts s=gU:=by
 have e:EI ts s=12:=by unfold EI; rw [if_pos h,if_neg h2]
 exact ⟨e,by unfold N5; rw [e]; rfl⟩
theorem x5 {ts:List au} {s:cE} (h:du ts=true) (h2:fG ts s):EI ts s=0∧N5 ts s=Kr ts s:=by
 have e:EI ts s=0:=by unfold EI; rw [if_pos h,if_pos h2]
 exact ⟨e,if_pos e⟩
theorem EM {ts:List au} {s:cE} (h:du ts=true):EI ts s=0↔fG ts s:=by
 unfold EI; rw [if_pos h]; split<;>simp [*]
def xC (ts:List au) (a b:cE):ag:=eE ts (min a.bB b.bB).toNat (max a.bB b.bB-min a.bB b.bB).toNat
def j6 (ts:List au) (a b:cE):ag:=mK (mK (if b.bB<a.bB then ot (xC ts a b) else xC ts a b) b.mP) (ot a.mP)
noncomputable def l6 (ts:List au) (a b:cE):Int:=if du ts=true then (if fG ts a∧fG ts b then 0 else 12) else 10
noncomputable def k6 (ts:List au) (a b:cE):ag:=if l6 ts a b=0 then j6 ts a b else gU
theorem vi {ts:List au} {a b:cE} (h:du ts=false):l6 ts a b=10∧k6 ts a b=gU:=by
 have e:l6 ts a b=10:=by unfold l6; rw [h]; rfl
 exact ⟨e,by unfold k6; rw [e]; rfl⟩
theorem o0 {ts:List au} {a b:cE} (h:du ts=true) (h2: ¬ (fG ts a∧fG ts b)):l6 ts a b=12∧k6 ts a b=gU:=by
 have e:l6 ts a b=12:=by unfold l6; rw [if_pos h,if_neg h2]
 exact ⟨e,by unfold k6; rw [e]; rfl⟩
theorem lK {ts:List au} {a b:cE} (h:du ts=true) (h2:fG ts a∧fG ts b):l6 ts a b=0∧k6 ts a b=j6 ts a b:=by
 have e:l6 ts a b=0:=by unfold l6; rw [if_pos h,if_pos h2]
 exact ⟨e,if_pos e⟩
theorem zX {z:ag} (h:lR z):lR (ot z):=by unfold lR ot at *; simp only; omega
theorem qX {ts:List au} {s:cE} (ht: ∀ x∈ts,bU x) (h:fG ts s):lR s.mP:=by have:=zn ht h; unfold lR; omega
theorem Ns {ts:List au} {a b:cE} (ht: ∀ x∈ts,bU x) (hl:ts.length≤12) (ha:fG ts a) (hb:fG ts b):(0≤(xC ts a b).Lo∧(xC ts a b).Lo≤(xC ts a b).Hi)∧(xC ts a b).Hi≤360000:=by
 have h:=mm ht (min a.bB b.bB).toNat (max a.bB b.bB-min a.bB b.bB).toNat
 have A:=ha.1
 have B:=hb.1
 unfold xC
 omega
theorem x9 {ts:List au} {a b:cE} (ht: ∀ x∈ts,bU x) (hl:ts.length≤12) (ha:fG ts a) (hb:fG ts b):(-400000≤(j6 ts a b).Lo∧(j6 ts a b).Lo≤(j6 ts a b).Hi)∧(j6 ts a b).Hi≤400000:=by
 have h:=Ns ht hl ha hb
 have A:=zn ht ha
 have B:=zn ht hb
 unfold j6 mK ot
 split<;>simp only <;>omega
theorem QR {ts:List au} {s:cE} (ht: ∀ x∈ts,bU x) (hl:ts.length≤12) (h:fG ts s):(0≤(Kr ts s).Lo∧(Kr ts s).Lo≤(Kr ts s).Hi)∧(Kr ts s).Hi≤400000:=by
 have A:=mm ht 0 s.bB.toNat
 have B:=zn ht h
 have C:=h.1
 unfold Kr mK
 simp only; omega
theorem FE {α:Type} {p:Nat→α→Bool} {l:List α}:((l.zipIdx.filter fun q=>p q.2 q.1).map fun q=>(q.2:Int))=[]↔ ∀ (i:Nat) x,l[i]? =some x→p i x=false:=by
 rw [List.map_eq_nil_iff,List.filter_eq_nil_iff]
 constructor
 ·intro h i x hx
  have:=h (x,i) (by rw [List.mem_zipIdx_iff_getElem?]; simpa using hx)
  simpa using this
 ·rintro h ⟨x,i⟩ hm
  rw [List.mem_zipIdx_iff_getElem?] at hm
  simpa using h i x (by simpa using hm)
/-- the places of a list at which something is so -/
def sK {α:Type} (p:Nat→α→Bool) (l:List α) (n:Nat):List Int:=(((l.take n).zipIdx.filter fun q=>p q.2 q.1).map fun q=>(q.2:Int))
theorem IG {α:Type} {p:Nat→α→Bool} {l:List α} {i:Nat} {x:α} (hx:l[i]? =some x) (h:p i x=true):sK p l (i+1)=sK p l i++[(i:Int)]:=by
 have hi:=(aY.1 hx).1
 unfold sK
 rw [List.take_add_one,hx,List.zipIdx_append,List.filter_append,List.map_append]
 simp [Nat.min_eq_left (Nat.le_of_lt hi),h]
theorem K2 {α:Type} {p:Nat→α→Bool} {l:List α} {i:Nat} {x:α} (hx:l[i]? =some x) (h:p i x=false):sK p l (i+1)=sK p l i:=by
 have hi:=(aY.1 hx).1
 unfold sK
 rw [List.take_add_one,hx,List.zipIdx_append,List.filter_append,List.map_append]
 simp [Nat.min_eq_left (Nat.le_of_lt hi),h]
theorem Az {α:Type} {p:Nat→α→Bool} {l:List α} {n:Nat}:(sK p l n).length≤n:=by
 unfold sK
 rw [List.length_map]
 refine Nat.le_trans (List.length_filter_le _ _) ?_
 rw [List.length_zipIdx,List.length_take]; omega
def HK {α:Type} (p:Nat→α→Bool) (l:List α):List Int:=sK p l l.length
theorem LQ {α:Type} {p:Nat→α→Bool} {l:List α} {n:Nat} (h:n=l.length):sK p l n=HK p l:=by rw [h]; rfl
theorem Gl {α:Type} {p:Nat→α→Bool} {l:List α}:(HK p l).length=0↔ ∀ (i:Nat) x,l[i]? =some x→p i x=false:=by
 unfold HK sK
 rw [List.length_eq_zero_iff,List.take_length]
 exact FE
end
section
theorem yJ (p:Int→Bool) (n:Nat): ∃ r:Int,r=((List.range n).findIdx fun (k:Nat)=>p (k:Int):Nat):=⟨_,rfl⟩
noncomputable def fI (p:Int→Bool) (n:Nat):Int:=Classical.choose (yJ p n)
theorem sZ (p:Int→Bool) (n:Nat):fI p n=((List.range n).findIdx fun (k:Nat)=>p (k:Int):Nat):=Classical.choose_spec (yJ p n)
theorem iL {p:Int→Bool} {n:Nat}:0≤fI p n∧fI p n≤n:=by
 rw [sZ]
 have:=List.findIdx_le_length (xs:=List.range n) (p:=fun (k:Nat)=>p (k:Int))
 rw [List.length_range] at this
 omega
theorem uG {p:Int→Bool} {n:Nat} {x:Int} (h0:0≤x) (h:x<fI p n):p x=false:=by
 have hb:=iL (p:=p) (n:=n)
 rw [sZ] at h
 have B:x.toNat<(List.range n).findIdx fun (k:Nat)=>p (k:Int):=by omega
 have A:=List.not_of_lt_findIdx B
 simp only [List.getElem_range] at A
 rw [show (x.toNat:Int)=x by omega] at A
 simpa using A
theorem yL {p:Int→Bool} {n:Nat} (h:fI p n<n):p (fI p n)=true:=by
 rw [sZ] at h ⊢
 have A:((List.range n).findIdx fun (k:Nat)=>p (k:Int))<(List.range n).length:=by rw [List.length_range]; omega
 have:=List.findIdx_getElem (w:=A)
 simpa using this
theorem y_ {p:Int→Bool} {n:Nat} {r:Int} (h0:0≤r) (hn:r<n) (hr:p r=true) (hb: ∀ x,0≤x→x<r→p x=false):fI p n=r:=by
 have A:=iL (p:=p) (n:=n)
 rcases Int.lt_trichotomy (fI p n) r with h|h|h
 ·have:=hb _ A.1 h
  have e:=yL (p:=p) (n:=n) I
  rw [e] at this; cases this
 ·exact h
 ·have:=uG h0 h
  rw [hr] at this; cases this
end
section
def oZ (n by_:Int):Int:=(n+by_-1)/by_
/-- by how much a sync may be off -/
def sL (c:ax) (at_:Int) (x:cW):Int:=oZ (c.dC*max (at_-x.At) (x.At-at_)) 1000000
def l8 (c:ax) (at_:Int) (s:ag) (x:cW):ag:=⟨max s.Lo (x.eD.Lo-sL c at_ x),min s.Hi (x.eD.Hi+sL c at_ x)⟩
def gP (c:ax) (at_:Int) (k:Nat):ag:=(c.bJ.take k).foldl (l8 c at_) ⟨-1099511627776,1099511627776⟩
def iQ (c:ax) (at_:Int):ag:=c.bJ.foldl (l8 c at_) ⟨-1099511627776,1099511627776⟩
theorem j7 {c:ax} {at_:Int} {k:Nat} {x:cW} (h:c.bJ[k]? =some x):gP c at_ (k+1)=l8 c at_ (gP c at_ k) x:=by
 unfold gP; rw [List.take_add_one,h,List.foldl_append]; rfl
theorem nS {c:ax} {at_:Int} {k:Nat} (h:c.bJ.length≤k):gP c at_ k=iQ c at_:=by unfold gP iQ; rw [List.take_of_length_le h]
def kH (c:ax) (i:Nat):Int:=if i=0 then-1 else ((c.bJ[i-1]?).map (·.At)).getD 0
def fE (c:ax) (i:Nat) (x:cW):Prop:=(kH c i<x.At∧x.At≤86400000)∧ -10000≤x.eD.Lo∧x.eD.Lo≤x.eD.Hi∧x.eD.Hi≤10000
def nE (c:ax) (x o:cW):Prop:=x.eD.Lo-o.eD.Hi≤oZ (c.dC*(x.At-o.At)) 1000000∧o.eD.Lo-x.eD.Hi≤oZ (c.dC*(x.At-o.At)) 1000000
structure eX (c:ax):Prop where
 sx:0≤c.dC∧c.dC≤1000
 len:1≤c.bJ.length∧c.bJ.length≤5
 sync: ∀ (i:Nat) x,c.bJ[i]? =some x→fE c i x
 pair: ∀ (i k:Nat) x o,c.bJ[i]? =some x→k<i→c.bJ[k]? =some o→nE c x o
noncomputable instance (c:ax):Decidable (eX c):=Classical.propDecidable _
theorem gT {c:ax} {i:Nat} (h:i=0):kH c i= -1:=if_pos h
theorem xj {c:ax} {i:Nat} {y:cW} (h:0<i) (hy:c.bJ[i-1]? =some y):kH c i=y.At:=by unfold kH; rw [if_neg I,hy]; rfl
theorem oI {c:ax} {i:Nat} {y:cW} (hy:c.bJ[i]? =some y):kH c (i+1)=y.At:=by unfold kH; rw [if_neg I,Nat.add_sub_cancel,hy]; rfl
/-- the times of the syncs -/
theorem L5 {c:ax} (h: ∀ (i:Nat) x,c.bJ[i]? =some x→fE c i x): ∀ (i:Nat) x,c.bJ[i]? =some x→0≤x.At∧ ∀ (k:Nat) o,k<i→c.bJ[k]? =some o→o.At<x.At:=by
 intro i
 induction i with
 |zero=>
  intro x hx
  have:=(h 0 x hx).1.1
  rw [gT rfl] at this
  exact ⟨I,fun k o hk=>by omega⟩
 |succ i ih=>
  intro x hx
  have hi:=(aY.1 hx).1
  have hy:c.bJ[i]? =some (c.bJ[i]'I):=fQ I
  have B:=ih _ hy
  have A:=(h (i+1) x hx).1.1
  rw [oI hy] at A
  refine ⟨I,fun k o hk ho=>?_⟩
  by_cases e:k=i
  ·subst e; rw [hy] at ho; cases ho; exact A
  ·have:=B.2 k o I ho; omega
theorem eX.uT {c:ax} (h:eX c) {i:Nat} {x:cW} (hx:c.bJ[i]? =some x):(0≤x.At∧x.At≤86400000)∧ -10000≤x.eD.Lo∧x.eD.Lo≤x.eD.Hi∧x.eD.Hi≤10000:=by
 have A:=h.sync i x hx
 exact ⟨⟨(L5 h.sync i x hx).1,A.1.2⟩,A.2⟩
theorem Ev {d a b:Int} (hd:0≤d∧d≤1000) (ha:0≤a∧a≤90000000) (hb:0≤b∧b≤90000000):0≤d*max (a-b) (b-a)∧d*max (a-b) (b-a)≤90000000000:=by
 have:=Ny (a:=d) (b:=max (a-b) (b-a)) (A:=1000) (B:=90000000) hd.1 hd.2 I I
 omega
theorem uZ {c:ax} {at_:Int} {x:cW} (hd:0≤c.dC∧c.dC≤1000) (ha:0≤at_∧at_≤90000000) (hx:0≤x.At∧x.At≤86400000):0≤sL c at_ x∧sL c at_ x≤90001:=by
 have h:=Ev hd ha (show 0≤x.At∧x.At≤90000000 by omega)
 unfold sL oZ; omega
theorem BT {c:ax} {at_:Int} (h:eX c) (ha:0≤at_∧at_≤90000000): ∀ k:Nat,(-1099511627776≤(gP c at_ k).Lo∧(gP c at_ k).Lo≤10000)∧ -10000≤(gP c at_ k).Hi∧(gP c at_ k).Hi≤1099511627776:=by
 intro k
 induction k with
 |zero=>simp [gP]
 |succ k ih=>
  cases hx:c.bJ[k]? with
  |none=>unfold gP at ih ⊢; rw [List.take_add_one,hx]; simpa using ih
  |some x=>
   have hb:=h.uT hx
   have ho:=uZ h.sx ha hb.1
   rw [j7 hx]
   unfold l8
   simp only
   omega
theorem qQ {c:ax} {at_:Int} (h:eX c) (ha:0≤at_∧at_≤90000000):(-110000≤(iQ c at_).Lo∧(iQ c at_).Lo≤10000)∧ -10000≤(iQ c at_).Hi∧(iQ c at_).Hi≤110000:=by
 obtain ⟨n,hn⟩: ∃ n,c.bJ.length=n+1:=⟨c.bJ.length-1,by have:=h.len; omega⟩
 have hx:c.bJ[n]? =some (c.bJ[n]'I):=fQ I
 have hb:=h.uT hx
 have ho:=uZ h.sx ha hb.1
 have A:=BT h ha n
 rw [← nS (k:=n+1) I,j7 hx]
 unfold l8
 simp only
 omega
/-- as time goes on, time and what a clock may be ahead, together, never go back -/
theorem Dj {c:ax} (h:eX c) {a b:Int} (ha:0≤a) (hab:a≤b) (hb:b≤90000000): ∀ k:Nat,(a+(gP c a k).Lo≤b+(gP c b k).Lo∨(gP c a k).Lo= -1099511627776)∧a+(gP c a k).Hi≤b+(gP c b k).Hi:=by
 have step: ∀ (x:cW),0≤x.At∧x.At≤86400000→ ∀ a b:Int,0≤a→a≤b→b≤90000000→sL c a x≤sL c b x+(b-a)∧sL c b x≤sL c a x+(b-a):=by
  intro x hx a b ha hab hb
  have hd:=h.sx
  have e: ∀ u v:Int,u≤v+1000000*(b-a)→oZ u 1000000≤oZ v 1000000+(b-a):=by intro u v C; unfold oZ; omega
  have m: ∀ p q:Int,p≤q+(b-a)→c.dC*p≤c.dC*q+1000000*(b-a):=by
   intro p q A
   have D:c.dC*p≤c.dC*(q+(b-a)):=Int.mul_le_mul_of_nonneg_left A hd.1
   have E:c.dC*(q+(b-a))=c.dC*q+c.dC*(b-a):=Int.mul_add _ _ _
   have F:c.dC*(b-a)≤1000*(b-a):=Int.mul_le_mul_of_nonneg_right hd.2 I
   omega
  exact ⟨e _ _ (m _ _ I),e _ _ (m _ _ I)⟩
 intro k
 induction k with
 |zero=>simp [gP]; omega
 |succ k ih=>
  cases hx:c.bJ[k]? with
  |none=>
   have e: ∀ t,gP c t (k+1)=gP c t k:=fun t=>by unfold gP; rw [List.take_add_one,hx]; simp
   rw [e,e]; exact ih
  |some x=>
   have hs:=h.uT hx
   have:=step x hs.1 a b ha hab hb
   have B:=uZ (at_:=a) h.sx ⟨ha,I⟩ hs.1
   rw [j7 hx,j7 hx]
   unfold l8
   simp only
   omega
theorem oJ {c:ax} (h:eX c) {a b:Int} (ha:0≤a) (hab:a≤b) (hb:b≤90000000):a+(iQ c a).Lo≤b+(iQ c b).Lo∧a+(iQ c a).Hi≤b+(iQ c b).Hi:=by
 have A:=Dj h ha hab hb c.bJ.length
 have B:=qQ h (at_:=a) ⟨ha,I⟩
 rw [nS (Nat.le_refl _),nS (Nat.le_refl _)] at A
 omega
noncomputable def ly (l:bj) (i:Nat):Int:=match l.aa[i]? with
 |some b=>if i=0 then (Kr l.aL b.mR).Lo else (match l.aa[i-1]? with
  |some a=>(j6 l.aL a.mR b.mR).Lo
  |none=>0)
 |none=>0
theorem zd {l:bj} {b:bM} (h:l.aa[0]? =some b):ly l 0=(Kr l.aL b.mR).Lo:=by unfold ly; rw [h]; rfl
theorem AP {l:bj} {i:Nat} {a b:bM} (hi:0<i) (h:l.aa[i]? =some b) (ha:l.aa[i-1]? =some a):ly l i=(j6 l.aL a.mR b.mR).Lo:=by unfold ly; rw [h,ha]; simp only; rw [if_neg I]
def j_ (l:bj) (b:bM):Prop:=fG l.aL b.mR∧0≤b.kb∧b.kb<(l.ak.length:Int)
def eV (l:bj):Prop:=(1≤l.eI∧l.eI≤5000)∧(1≤(l.ak.length:Int)∧(l.ak.length:Int)≤4)∧(1≤(l.aa.length:Int)∧(l.aa.length:Int)≤6)∧(0≤l.bK∧l.bK≤(l.aa.length:Int)-1)∧(0≤l.dj∧l.dj≤3)∧0≤l.ck∧l.ck≤3
structure lL (l:bj):Prop where
 head:eV l
 clock: ∀ c∈l.ak,eX c
 ui: ∀ b∈l.aa,j_ l b
 NW: ∀ i,i<l.aa.length→1≤ly l i
noncomputable instance (l:bj):Decidable (lL l):=Classical.propDecidable _
noncomputable def dI (l:bj):Int:=if du l.aL=true then (if lL l then 0 else 50) else 10
theorem yE {l:bj} (h:du l.aL=false):dI l=10:=by unfold dI; rw [h]; rfl
theorem q9 {l:bj} (h:du l.aL=true) (h2: ¬ lL l):dI l=50:=by unfold dI; rw [if_pos h,if_neg h2]
theorem xU {l:bj} (h:du l.aL=true) (h2:lL l):dI l=0:=by unfold dI; rw [if_pos h,if_pos h2]
theorem dY {l:bj} (h:dI l=0):du l.aL=true∧lL l:=by
 unfold dI at h
 split at h
 ·split at h
  ·exact ⟨asm,asm⟩
  ·omega
 ·omega
theorem BY {l:bj} (ht:du l.aL=true) (hb: ∀ b∈l.aa,j_ l b) (i:Nat): -400000≤ly l i∧ly l i≤400000:=by
 have A:=kf ht
 have hl:=kZ ht
 unfold ly
 cases h:l.aa[i]? with
 |none=>simp
 |some b=>
  have B:=(hb b (aP h)).1
  simp only
  split
  ·have:=QR A hl B; omega
  ·cases h2:l.aa[i-1]? with
   |none=>simp
   |some a=>
    have C:=(hb a (aP h2)).1
    have:=x9 A hl C B
    simp only; omega
def ql (l:bj) (s:aG):ax:=((l.aa[s.fz.toNat]?).bind fun b=>l.ak[b.kb.toNat]?).getD ⟨0,[]⟩
def gJ (c:ax) (r t:Int):Bool:=decide (r≤t+(iQ c t).Hi)
def gI (c:ax) (r t:Int):Bool:=decide (r<t+(iQ c t).Lo)
noncomputable def rr (c:ax) (r:Int):ag:=⟨fI (gJ c r) 86400001,fI (gI c r) 86400001-1⟩
noncomputable def cO (l:bj) (s:aG):ag:=rr (ql l s) s.Read
noncomputable def ej (l:bj) (i:Nat):Int:=oZ (1000*ly l i) l.eI
end
section
open Go.RowKit
def Am (n:Int):Int:=IntKind.i64.wrap n
theorem Ae {n:Int} (h:qW n):Am n=n:=oz h
theorem PM (n:Int): -9223372036854775808≤Am n∧Am n≤9223372036854775807:=by
 unfold Am
 rw [IntKind.wrap_i64]
 omega
section
variable {P:Program} {t:TypeId} {x y:Operand} {a b:Int}
theorem Oq:iX P .add t x y (.int .i64 a) (.int .i64 b) (.int .i64 (Am (a+b))):=fun w=>by simp [eqGuard_add,binOp_add,Op.intArith,Am]
theorem IY:iX P .sub t x y (.int .i64 a) (.int .i64 b) (.int .i64 (Am (a-b))):=fun w=>by simp [eqGuard_sub,binOp_sub,Op.intArith,Am]
theorem Pg:iX P .mul t x y (.int .i64 a) (.int .i64 b) (.int .i64 (Am (a*b))):=fun w=>by simp [eqGuard_mul,binOp_mul,Op.intArith,Am]
end
/-- divided, and rounded up, as it comes out -/
def P2 (n by_:Int):Int:=(Am (Am (n+by_)-1)).tdiv by_
theorem O9 {a b:Int} (ha: -9223372036854775808≤a∧a≤9223372036854775807) (hb:2≤b):qW (a.tdiv b):=by
 have A:a.tdiv b=a/b+if a % b≠0∧a<0 then 1 else 0:=by
  rcases Int.lt_or_le a 0 with h|h
  ·rw [Int.tdiv_eq_ediv]
   have:b.sign=1:=Int.sign_eq_one_of_pos I
   rw [this]
   by_cases hd:b∣a
   ·have:a % b=0:=Int.emod_eq_zero_of_dvd hd
    simp [hd,this]
   ·have:a % b≠0:=fun e=>hd (Int.dvd_of_emod_eq_zero e)
    have hn: ¬ 0≤a:=by omega
    simp [hd,this,h,hn]
  ·rw [Int.tdiv_eq_ediv_of_nonneg h]
   have: ¬ a<0:=by omega
   simp [this]
 have B:a/b*b+a % b=a:=by rw [Int.mul_comm]; exact Int.mul_ediv_add_emod a b
 have C:0≤a % b:=Int.emod_nonneg _ I
 have D:a % b<b:=Int.emod_lt_of_pos _ I
 have E: -9223372036854775808≤a/b∧a/b≤4611686018427387904:=by
  constructor
  ·refine Int.le_ediv_of_mul_le I ?_
   have:(-9223372036854775808:Int)*b≤ -9223372036854775808*1:=Int.mul_le_mul_of_nonpos_left I I
   omega
  ·refine Int.ediv_le_of_le_mul I ?_
   have:(4611686018427387904:Int)*2≤4611686018427387904*b:=Int.mul_le_mul_of_nonneg_left hb I
   omega
 rw [A]
 unfold qW
 split<;>omega
theorem Oz {n by_:Int} (h0:0≤n) (h1:n≤1000000000000000000) (hb:1≤by_∧by_≤1000000000000):P2 n by_=(n+by_-1)/by_:=by
 unfold P2
 rw [Ae (show qW (n+by_) from ⟨I,I⟩),Ae (show qW (n+by_-1) from ⟨I,I⟩),Int.tdiv_eq_ediv_of_nonneg I]
end
section
def mo (c:ax) (i:Nat) (x:cW) (k:Nat):Prop:=fE c i x∧ ∀ (j:Nat) o,j<k→c.bJ[j]? =some o→nE c x o
def sS (c:ax) (n:Nat):Prop:= ∀ (i:Nat) x,i<n→c.bJ[i]? =some x→mo c i x i
noncomputable instance (c:ax) (i:Nat) (x:cW) (k:Nat):Decidable (mo c i x k):=Classical.propDecidable _
instance (c:ax) (i:Nat) (x:cW):Decidable (fE c i x):=by unfold fE; infer_instance
theorem C9 {c:ax} {i:Nat} {x:cW}:mo c i x 0↔fE c i x:=⟨fun h=>h.1,fun h=>⟨h,fun j o hj=>by omega⟩⟩
theorem sY {c:ax} {i k:Nat} {x o:cW} (h:c.bJ[k]? =some o):mo c i x (k+1)↔mo c i x k∧nE c x o:=by
 constructor
 ·intro hr
  exact ⟨⟨hr.1,fun j o' hj ho=>hr.2 j o' I ho⟩,hr.2 k o I h⟩
 ·rintro ⟨hr,hp⟩
  refine ⟨hr.1,fun j o' hj ho=>?_⟩
  by_cases e:j=k
  ·subst e; rw [h] at ho; cases ho; exact hp
  ·exact hr.2 j o' I ho
theorem Ff {c:ax}:sS c 0:=fun i x hi=>by omega
theorem Gx {c:ax} {i:Nat} {x:cW} (h:sS c i) (hx:c.bJ[i]? =some x) (hr:mo c i x i):sS c (i+1):=fun j y hj hy=>by
 by_cases e:j=i
 ·subst e; rw [hx] at hy; cases hy; exact hr
 ·exact h j y I hy
theorem Jx {c:ax} {i:Nat} {x:cW} (hx:c.bJ[i]? =some x) (h: ¬ mo c i x i): ¬ eX c:=fun hc=>h ⟨hc.sync i x hx,fun j o hj ho=>hc.pair i j x o hx hj ho⟩
theorem FF {c:ax} (h1:0≤c.dC∧c.dC≤1000) (h2:1≤c.bJ.length∧c.bJ.length≤5) (h:sS c c.bJ.length):eX c:=
 ⟨h1,h2,fun i x hx=>(h i x (aY.1 hx).1 hx).1,fun i k x o hx hk ho=>(h i x (aY.1 hx).1 hx).2 k o hk ho⟩
/-- syncs so far -/
theorem u0 {c:ax} {n:Nat} (h: ∀ (i:Nat) x,i<n→c.bJ[i]? =some x→fE c i x): ∀ (i:Nat) x,i<n→c.bJ[i]? =some x→0≤x.At∧ ∀ (k:Nat) o,k<i→c.bJ[k]? =some o→o.At<x.At:=by
 intro i
 induction i with
 |zero=>
  intro x hn hx
  have:=(h 0 x hn hx).1.1
  rw [gT rfl] at this
  exact ⟨I,fun k o hk=>by omega⟩
 |succ i ih=>
  intro x hn hx
  have hi:=(aY.1 hx).1
  have hy:c.bJ[i]? =some (c.bJ[i]'I):=fQ I
  have B:=ih _ I hy
  have A:=(h (i+1) x hn hx).1.1
  rw [oI hy] at A
  refine ⟨I,fun k o hk ho=>?_⟩
  by_cases e:k=i
  ·subst e; rw [hy] at ho; cases ho; exact A
  ·have:=B.2 k o I ho; omega
theorem J_ {c:ax} {i:Nat} (hi:i≤c.bJ.length) (h: ∀ (j:Nat) y,j<i→c.bJ[j]? =some y→fE c j y): -1≤kH c i∧kH c i≤86400000:=by
 cases i with
 |zero=>rw [gT rfl]; omega
 |succ i=>
  have hy:c.bJ[i]? =some (c.bJ[i]'I):=fQ I
  have A:=(u0 (n:=i+1) h i _ I hy).1
  have B:=(h i _ I hy).1.2
  rw [oI hy]; omega
theorem N0 {c:ax} {i:Nat} (hi:i≤c.bJ.length) (h:sS c i): -1≤kH c i∧kH c i≤86400000:=J_ hi fun j y hj hy=>(h j y hj hy).1
theorem uN {c:ax} {i k:Nat} {x o:cW} (hs: ∀ (j:Nat) y,j<i→c.bJ[j]? =some y→fE c j y) (hx:c.bJ[i]? =some x) (hok:fE c i x) (hk:k<i) (ho:c.bJ[k]? =some o):
 (0≤o.At∧o.At<x.At∧x.At≤86400000)∧(-10000≤x.eD.Lo∧x.eD.Lo≤x.eD.Hi∧x.eD.Hi≤10000)∧ -10000≤o.eD.Lo∧o.eD.Lo≤o.eD.Hi∧o.eD.Hi≤10000:=by
 have h: ∀ (j:Nat) y,j<i+1→c.bJ[j]? =some y→fE c j y:=fun j y hj hy=>by
  by_cases e:j=i
  ·subst e; rw [hx] at hy; cases hy; exact hok
  ·exact hs j y I hy
 have A:=(u0 h i x I hx).2 k o hk ho
 have B:=(u0 h k o I ho).1
 exact ⟨⟨B,A,hok.1.2⟩,hok.2,(h k o I ho).2⟩
theorem LL {d a b:Int} (hd:0≤d∧d≤1000) (h:0≤b∧b<a∧a≤86400000):P2 (Am (d*Am (a-b))) 1000000=oZ (d*(a-b)) 1000000:=by
 have C:0≤d*(a-b)∧d*(a-b)≤90000000000:=by
  have:=Ny (a:=d) (b:=a-b) (A:=1000) (B:=90000000) hd.1 hd.2 I I
  omega
 rw [Ae (show qW (a-b) from ⟨I,I⟩),Ae (show qW (d*(a-b)) from ⟨I,I⟩),Oz C.1 I I]
 rfl
/-- what is asked of a line, however wrong it is -/
structure eH (l:bj) (asl:List RA):Prop where
 te:l.aL.length≤1000000
 side: ∀ x∈l.aL,0≤x.jm∧x.jm≤255
 s_:l.ak.length≤1000000
 oY:asl.length=l.ak.length
 s7:l.aa.length≤1000000
 Se: ∀ (k:Nat) m (a:RA),l.ak[k]? =some m→asl[k]? =some a→m.bJ.length≤a.2∧m.bJ.length≤1000000
noncomputable instance (l:bj):Decidable (eV l):=by unfold eV; infer_instance
noncomputable instance (l:bj) (b:bM):Decidable (j_ l b):=Classical.propDecidable _
theorem yx {l:bj} (h:eV l) (h2: ∀ c∈l.ak,eX c) (h3: ∀ b∈l.aa,j_ l b) (h4: ∀ i,i<l.aa.length→1≤ly l i):lL l:=⟨h,h2,h3,h4⟩
theorem CS {l:bj}:((!(l.ak.any fun m=> !decide (eX m)))=true)↔ ∀ c∈l.ak,eX c:=by simp
theorem GJ {l:bj}:((!(l.aa.any fun b=> !decide (j_ l b)))=true)↔ ∀ b∈l.aa,j_ l b:=by simp
theorem lh {c:ax} (h:eX c) {r x:Int} (h0:0≤x) (h1:x<86400001):
 (x<fI (gJ c r) 86400001→gJ c r x=false)∧(fI (gJ c r) 86400001≤x→gJ c r x=true)∧(x<fI (gI c r) 86400001→gI c r x=false)∧(fI (gI c r) 86400001≤x→gI c r x=true):=by
 have up: ∀ (q:Int→Bool),(∀ a b,0≤a→a≤b→b<86400001→q a=true→q b=true)→fI q 86400001≤x→q x=true:=fun q hq hx=>by
  have hb:=iL (p:=q) (n:=86400001)
  exact hq _ _ hb.1 hx h1 (yL I)
 refine ⟨uG h0,up _ fun a b ha A hb hq=>?_,uG h0,up _ fun a b ha A hb hq=>?_⟩
 ·have:=oJ h ha A I
  simp only [gJ,decide_eq_true_eq] at hq ⊢; omega
 ·have:=oJ h ha A I
  simp only [gI,decide_eq_true_eq] at hq ⊢; omega
theorem xe {l:bj} {s:aG} {b:bM} {c:ax} (hb:l.aa[s.fz.toNat]? =some b) (hc:l.ak[b.kb.toNat]? =some c):ql l s=c:=by
 unfold ql; rw [hb]; simp only [Option.bind_some]; rw [hc]; rfl
end
section
def kT (sg:List aG) (i:Nat):aG:=if i=0 then ⟨-1,0⟩ else (sg[i-1]?).getD ⟨-1,0⟩
theorem ke {sg:List aG} {i:Nat} {s:aG} (h:sg[i]? =some s):kT sg (i+1)=s:=by unfold kT; rw [if_neg I,Nat.add_sub_cancel,h]; rfl
def iF (l:bj) (s:aG):Prop:=(0≤s.fz∧s.fz≤(l.aa.length:Int)-1)∧0≤s.Read∧s.Read≤86400000
def hO (l:bj) (sg:List aG) (i:Nat) (s:aG):Prop:=iF l s∧ ¬ s.fz<(kT sg i).fz∧ ¬ (s.fz=(kT sg i).fz∧s.Read≤(kT sg i).Read)
def oV (l:bj) (sg:List aG) (i:Nat):Prop:= ∀ (j:Nat) s,j<i→sg[j]? =some s→hO l sg j s
structure eh (l:bj) (r:cD):Prop where
 time:0≤r.Start∧r.Start≤r.gd∧r.gd≤86400000
 len:r.ab.length≤10
 sig: ∀ (i:Nat) s,r.ab[i]? =some s→hO l r.ab i s
noncomputable instance (l:bj) (r:cD):Decidable (eh l r):=Classical.propDecidable _
theorem uY {l:bj} {sg:List aG}:oV l sg 0:=fun j s hj=>absurd hj (Nat.not_lt_zero _)
theorem jv {l:bj} {sg:List aG} {i:Nat} {s:aG} (h:oV l sg i) (hs:sg[i]? =some s) (ho:hO l sg i s):oV l sg (i+1):=fun j z hj hz=>by
 rcases Nat.lt_or_ge j i with q|q
 ·exact h j z q hz
 ·obtain rfl:j=i:=by omega
  rw [hs] at hz; cases hz; exact ho
theorem xu {l:bj} {r:cD} {i:Nat} (h1:0≤r.Start∧r.Start≤r.gd∧r.gd≤86400000) (h2:r.ab.length≤10) (h:oV l r.ab i) (hi:r.ab.length≤i):eh l r:=
 ⟨h1,h2,fun j s hs=>h j s (by have:=(aY.1 hs).1; omega) hs⟩
noncomputable def nK (l:bj) (sg:List aG) (b k:Nat):Option (Int×ag):=(sg[k]?).bind fun s=>if s.fz=(b:Int)∧(cO l s).Lo≤(cO l s).Hi then some ((k:Int),cO l s) else none
noncomputable def k9 (l:bj) (sg:List aG) (i b:Nat):TM:=(List.range i).filterMap (nK l sg b)
noncomputable def cL (l:bj) (sg:List aG) (i:Nat):List TM:=(List.range l.aa.length).map (k9 l sg i)
noncomputable def cj (l:bj) (n:Nat):List Int:=(List.range n).map (ej l)
theorem qI {l:bj} {n:Nat}:cj l (n+1)=cj l n++[ej l n]:=by simp [cj,List.range_succ]
theorem cT {l:bj} {n:Nat}:(cj l n).length=n:=by simp [cj]
theorem gM {l:bj} {sg:List aG} {i:Nat}:(cL l sg i).length=l.aa.length:=by simp [cL]
theorem pz {l:bj} {sg:List aG} {i b:Nat} (h:b<l.aa.length):(cL l sg i)[b]? =some (k9 l sg i b):=by simp [cL,h]
theorem pP {l:bj} {sg:List aG} {b k:Nat} {q:Int×ag}:nK l sg b k=some q↔ ∃ s,sg[k]? =some s∧(s.fz=(b:Int)∧(cO l s).Lo≤(cO l s).Hi)∧q=((k:Int),cO l s):=by
 unfold nK
 cases h:sg[k]? with
 |none=>simp
 |some s=>
  simp only [Option.bind_some,Option.some.injEq]
  by_cases e:s.fz=(b:Int)∧(cO l s).Lo≤(cO l s).Hi
  ·rw [if_pos e]
   constructor
   ·intro h; cases h; exact ⟨s,rfl,e,rfl⟩
   ·rintro ⟨s',rfl,_,rfl⟩; rfl
  ·rw [if_neg e]
   constructor
   ·intro h; cases h
   ·rintro ⟨s',rfl,e',_⟩; exact absurd e' e
theorem sP {l:bj} {sg:List aG} {i b:Nat} {q:Int×ag}:q∈k9 l sg i b↔ ∃ k,k<i∧ ∃ s,sg[k]? =some s∧(s.fz=(b:Int)∧(cO l s).Lo≤(cO l s).Hi)∧q=((k:Int),cO l s):=by
 unfold k9
 simp only [List.mem_filterMap,List.mem_range,pP]
theorem lp {l:bj} {sg:List aG} {i b:Nat}:k9 l sg (i+1) b=k9 l sg i b++(nK l sg b i).toList:=by
 unfold k9
 rw [List.range_succ,List.filterMap_append]
 congr 1
theorem xI {l:bj} {sg:List aG}:cL l sg 0=List.replicate l.aa.length []:=by
 unfold cL
 rw [List.eq_replicate_iff]
 refine ⟨sm,fun t ht=>?_⟩
 obtain ⟨b,_,rfl⟩:=cy.1 ht
 rfl
theorem pY {l:bj} {sg:List aG} {i:Nat} {s:aG} (hs:sg[i]? =some s) (h: ¬ (cO l s).Lo≤(cO l s).Hi):cL l sg (i+1)=cL l sg i:=by
 unfold cL
 apply List.map_congr_left
 intro b _
 rw [lp]
 have:nK l sg b i=none:=by
  cases e:nK l sg b i with
  |none=>rfl
  |some q=>obtain ⟨s',A,⟨_,B⟩,_⟩:=pP.1 e; rw [hs] at A; cases A; exact absurd B h
 rw [this]; simp
theorem rQ {l:bj} {sg:List aG} {i:Nat} {s:aG} (hs:sg[i]? =some s) (hb:0≤s.fz∧s.fz≤(l.aa.length:Int)-1) (h:(cO l s).Lo≤(cO l s).Hi) {x:TM} (hx:(cL l sg i)[s.fz.toNat]? =some x):
 (cL l sg i).set s.fz.toNat (eo x (i:Int) (cO l s))=cL l sg (i+1):=by
 have A:s.fz.toNat<l.aa.length:=by omega
 rw [pz A] at hx
 cases hx
 have B:eo (k9 l sg i s.fz.toNat) (i:Int) (cO l s)=k9 l sg (i+1) s.fz.toNat:=by
  have hn:(k9 l sg i s.fz.toNat).lookup (i:Int)=none:=iA.2 fun p hp e=>by
   obtain ⟨k,hk,_,_,_,rfl⟩:=sP.1 hp
   simp only at e; omega
  have ho:nK l sg s.fz.toNat i=some ((i:Int),cO l s):=pP.2 ⟨s,hs,⟨I,h⟩,rfl⟩
  rw [lp,ho]
  unfold eo; rw [hn]; rfl
 rw [B]
 apply List.ext_getElem?
 intro b
 rw [List.getElem?_set]
 by_cases e:s.fz.toNat=b
 ·rw [if_pos e,gM,← e,if_pos A,pz A]
 ·rw [if_neg e]
  by_cases hb':b<l.aa.length
  ·rw [pz hb',pz hb',lp]
   have:nK l sg b i=none:=by
    cases e2:nK l sg b i with
    |none=>rfl
    |some q=>obtain ⟨s',C,⟨D,_⟩,_⟩:=pP.1 e2; rw [hs] at C; cases C; exact absurd I e
   rw [this]; simp
  ·rw [List.getElem?_eq_none (by rw [gM]; omega),List.getElem?_eq_none (by rw [gM]; omega)]
noncomputable def cb (l:bj) (r:cD):bY:=⟨r.Start,r.gd,cj l l.aa.length,cL l r.ab r.ab.length,l.ck,l.dj,(r.ab.length:Int)⟩
theorem G5 {l:bj} (ht:du l.aL=true) (h:lL l) {i:Nat} (hi:i<l.aa.length):1≤ej l i∧ej l i≤500000000:=by
 have A:=BY ht h.ui i
 have B:=h.NW i hi
 have C:=h.head.1
 unfold ej oZ
 refine ⟨(Int.le_ediv_iff_mul_le I).2 I,?_⟩
 have:(1000*ly l i+l.eI-1)/l.eI≤1000*ly l i+l.eI-1:=Int.ediv_le_self _ I
 omega
theorem KW (l:bj) (s:aG):0≤(cO l s).Lo∧(cO l s).Hi≤86400000:=by
 have A:=iL (p:=gJ (ql l s) s.Read) (n:=86400001)
 have B:=iL (p:=gI (ql l s) s.Read) (n:=86400001)
 unfold cO rr
 simp only
 omega
theorem lI {l:bj} {r:cD} (ht:du l.aL=true) (h:lL l) (hr:eh l r):GH (cb l r):=by
 have hh:=h.head
 unfold eV at hh
 refine ⟨?_,by simp [cb,gM,bY.n,cT],hr.time,fun x hx=>?_,fun t A p hp=>?_⟩
 ·show (cj l l.aa.length).length≤6
  rw [cT]; omega
 ·obtain ⟨i,hi,rfl⟩:=cy.1 hx
  exact G5 ht h (List.mem_range.1 hi)
 ·obtain ⟨b,hb,rfl⟩:=cy.1 A
  obtain ⟨k,hk,s,hs,⟨_,B⟩,rfl⟩:=sP.1 hp
  have C:=KW l s
  have D:=hr.len
  simp only
  omega
noncomputable def dN (l:bj) (r:cD) (me:Int):Int:=if dI l=0 then (if eh l r then (if me=0 then (if ic (cb l r)=[] then 8 else 0) else me) else 51) else dI l
theorem gD {l:bj} {r:cD} {me:Int} (h: ¬ dI l=0):dN l r me=dI l:=if_neg h
theorem dk {l:bj} {r:cD} {me:Int} (h:dI l=0) (h2: ¬ eh l r):dN l r me=51:=by unfold dN; rw [if_pos h,if_neg h2]
theorem rf {l:bj} {r:cD} {me:Int} (h:dI l=0) (h2:eh l r) (h3: ¬ me=0):dN l r me=me:=by unfold dN; rw [if_pos h,if_pos h2,if_neg h3]
theorem g7 {l:bj} {r:cD} {me:Int} (h:dI l=0) (h2:eh l r) (h3:me=0) (h4:ic (cb l r)=[]):dN l r me=8:=by unfold dN; rw [if_pos h,if_pos h2,if_pos h3,if_pos h4]
theorem lv {l:bj} {r:cD} {me:Int} (h:dI l=0) (h2:eh l r) (h3:me=0) (h4: ¬ ic (cb l r)=[]):dN l r me=0:=by unfold dN; rw [if_pos h,if_pos h2,if_pos h3,if_neg h4]
theorem iN {l:bj} {r:cD} {me:Int} (h:dN l r me=0):dI l=0∧eh l r∧me=0∧ ¬ ic (cb l r)=[]:=by
 unfold dN at h
 split at h
 ·split at h
  ·split at h
   ·split at h
    ·omega
    ·exact ⟨asm,asm,asm,asm⟩
   ·omega
  ·omega
 ·omega
end
section
def nB (l:List Int):Int:=(l.drop 1).foldl min (l.headD 0)
theorem Jj {l:List Int} {i:Nat} {x:Int} (h:l[i]? =some x) (hi:1≤i):nB (l.take (i+1))=min (nB (l.take i)) x:=by
 have e:l.take (i+1)=l.take i++[x]:=by rw [List.take_add_one,h]; rfl
 have hl:1≤(l.take i).length:=by have:=(aY.1 h).1; rw [List.length_take]; omega
 rw [e]
 cases ht:l.take i with
 |nil=>rw [ht] at hl; simp at hl
 |cons y ys=>simp [nB,List.foldl_append]
theorem Gn {l:List Int} {x:Int} (h:l[0]? =some x):nB (l.take 1)=x:=by
 cases l with
 |nil=>simp at h
 |cons y ys=>simp at h; subst h; simp [nB]
theorem Ce: ∀ (l:List Int) (a:Int),(l.foldl min a=a∨l.foldl min a∈l)∧l.foldl min a≤a∧ ∀ x∈l,l.foldl min a≤x
 |[],a=>⟨.inl rfl,sm,sm⟩
 |y::l,a=>by
  obtain ⟨A,C,B⟩:=Ce l (min a y)
  simp only [List.foldl_cons]
  refine ⟨?_,I,?_⟩
  ·rcases A with A|A
   ·rw [A]
    rcases Int.le_total a y with q|q
    ·left; omega
    ·right; rw [show min a y=y by omega]; simp
   ·right; exact dW _ A
  ·intro x hx
   rcases bR.1 hx with rfl|hx
   ·omega
   ·exact B x hx
theorem Fc {l:List Int} (h:l≠[]):nB l∈l∧ ∀ x∈l,nB l≤x:=by
 cases l with
 |nil=>exact absurd rfl h
 |cons y ys=>
  obtain ⟨A,B,C⟩:=Ce ys y
  refine ⟨?_,fun x hx=>?_⟩
  ·rcases A with A|A
   ·simp [nB,A]
   ·exact dW _ (by simpa [nB] using A)
  ·rcases bR.1 hx with rfl|hx
   ·simpa [nB] using B
   ·simpa [nB] using C x hx
noncomputable def hP (l:bj) (r:cD):List Int:=if dN l r 0=0 then ic (cb l r) else []
theorem ky {l:bj} {r:cD} (h:dN l r 0=0):hP l r=ic (cb l r):=if_pos h
theorem nv {l:bj} {r:cD} (h: ¬ dN l r 0=0):hP l r=[]:=if_neg h
theorem u6 {l:bj} {r:cD} (h:dN l r 0=0):hP l r≠[]:=by rw [ky h]; exact (iN h).2.2.2
theorem DM {l:bj} {r:cD} (h:dN l r 0=0):1≤(hP l r).length:=List.length_pos_iff.2 (u6 h)
theorem Dg {l:bj} {r:cD}:(hP l r).length≤100:=by
 unfold hP
 split
 ·rename_i h
  obtain ⟨A,B,_⟩:=iN h
  obtain ⟨ht,ho⟩:=dY A
  have:=(lI ht ho B).n
  have C:=sI (w:=cb l r) (k:=(cb l r).n+1)
  unfold ic; omega
 ·simp
noncomputable def jI (l:bj) (b:Int):Int:=if 0≤b∧b≤(l.aa.length:Int)-1 then 0 else 2
theorem tI {l:bj} {b:Int} (h:0≤b∧b≤(l.aa.length:Int)-1):jI l b=0:=if_pos h
theorem Dn {l:bj} {b:Int} (h:jI l b=0):0≤b∧b≤(l.aa.length:Int)-1:=by
 unfold jI at h
 split at h
 ·assumption
 ·omega
noncomputable def mB (l:bj) (r:cD) (b:Nat):ag:=vx (mz (cb l r) b)
noncomputable def dT (l:bj) (r:cD) (b:Int):Int:=if dN l r (jI l b)=0 then (if mB l r b.toNat=mC then 6 else 0) else dN l r (jI l b)
noncomputable def dK (l:bj) (r:cD) (b:Int):ag:=if dT l r b=0 then mB l r b.toNat else gU
theorem ml {l:bj} {r:cD} {b:Int} (h: ¬ dN l r (jI l b)=0):dT l r b=dN l r (jI l b)∧dK l r b=gU:=by
 have e:dT l r b=dN l r (jI l b):=if_neg h
 exact ⟨e,by unfold dK; rw [if_neg (by rw [e]; exact h)]⟩
theorem qP {l:bj} {r:cD} {b:Nat} (h:dN l r (jI l b)=0) (h2:mB l r b=mC):dT l r b=6∧dK l r b=gU:=by
 have e:dT l r b=6:=by unfold dT; rw [if_pos h,Int.toNat_natCast,if_pos h2]
 exact ⟨e,by unfold dK; rw [if_neg (by rw [e]; omega)]⟩
theorem oy {l:bj} {r:cD} {b:Nat} (h:dN l r (jI l b)=0) (h2: ¬ mB l r b=mC):dT l r b=0∧dK l r b=mB l r b:=by
 have e:dT l r b=0:=by unfold dT; rw [if_pos h,Int.toNat_natCast,if_neg h2]
 exact ⟨e,by unfold dK; rw [if_pos e,Int.toNat_natCast]⟩
theorem Ip {w:bY} (h:GH w) {b:Nat} {q:Int×ag} (hq:q∈mz w b):0≤q.2.Lo∧q.2.Lo≤q.2.Hi∧q.2.Hi≤86400000:=by
 have A:=m8 hq
 obtain ⟨o,ho,p,hp,u,hu,e⟩:=iH.1 hq
 obtain ⟨_,_,rfl⟩:=jL.1 e
 have B:=h.opt ho
 simp only [jO] at A ⊢
 omega
theorem tT {l:bj} {r:cD} {b:Int} (h:dT l r b=0):0≤(dK l r b).Lo∧(dK l r b).Lo≤(dK l r b).Hi∧(dK l r b).Hi≤86400000:=by
 have ho:dN l r (jI l b)=0:=by
  by_cases e:dN l r (jI l b)=0
  ·exact e
  ·rw [(ml e).1] at h; exact absurd h e
 obtain ⟨B,C,_⟩:=iN ho
 obtain ⟨ht,A⟩:=dY B
 have hw:=lI ht A C
 have hv:dK l r b=mB l r b.toNat:=by unfold dK; rw [if_pos h]
 have hn:mB l r b.toNat≠mC:=fun e=>by unfold dT at h; rw [if_pos ho,if_pos e] at h; omega
 have hh:=vr (l:=mz (cb l r) b.toNat) fun q hq=>m8 hq
 rw [hv]
 unfold mB at hn ⊢
 rcases hh with ⟨_,e⟩|hh
 ·exact absurd e hn
 ·obtain ⟨x,hx,ex⟩:=hh.lo
  obtain ⟨y,hy,ey⟩:=hh.hi
  have:=Ip hw hx
  have:=Ip hw hy
  have:=hh.le
  omega
noncomputable def z9 (l:bj) (r:cD):ag:=if dT l r l.bK=0 then ⟨(dK l r l.bK).Lo-r.Start,(dK l r l.bK).Hi-r.Start⟩ else gU
theorem zm {l:bj} {r:cD} (h:dT l r l.bK=0):z9 l r=⟨(dK l r l.bK).Lo-r.Start,(dK l r l.bK).Hi-r.Start⟩:=if_pos h
theorem Ds {l:bj} {r:cD} (h: ¬ dT l r l.bK=0):z9 l r=gU:=if_neg h
theorem vV {l:bj} {r:cD} {b:Int} (h:dT l r b=0):eh l r:=by
 by_cases e:dN l r (jI l b)=0
 ·exact (iN e).2.1
 ·rw [(ml e).1] at h; exact absurd h e
theorem yK {k:List (Int×ag)} {h:ag} {q:Int×ag} {z:ag} (hh:kJ k h) (hq:q.2.Lo≤q.2.Hi) (hz:mM h q.2=z):kJ (k++[q]) z:=by subst hz; exact uQ hh hq
end
section
def mT (l:bj):Prop:=(20<(l.aL.length:Int)∨8<(l.ak.length:Int)∨10<(l.aa.length:Int))∨ ∃ c∈l.ak,10<(c.bJ.length:Int)
noncomputable instance (l:bj):Decidable (mT l):=Classical.propDecidable _
/-- what is asked of a line that comes in -/
structure tD (l:bj) (az:List RA):Prop where
 te:l.aL.length≤9223372036854775807
 side: ∀ x∈l.aL,0≤x.jm∧x.jm≤255
 s_:l.ak.length≤9223372036854775807
 oY:az.length=l.ak.length
 s7:l.aa.length≤9223372036854775807
 Se: ∀ (k:Nat) m (a:RA),l.ak[k]? =some m→az[k]? =some a→m.bJ.length≤a.2∧m.bJ.length≤9223372036854775807
def zQ (l:bj) (i:Nat):Prop:= ∀ (j:Nat) c,j<i→l.ak[j]? =some c→(c.bJ.length:Int)≤10
theorem Io {l:bj} {i:Nat} (h: ¬ (20<(l.aL.length:Int))∧ ¬ (8<(l.ak.length:Int))∧ ¬ (10<(l.aa.length:Int))) (hi:l.ak.length≤i) (hs:zQ l i): ¬ mT l:=by
 rintro (A|⟨c,hc,B⟩)
 ·omega
 ·obtain ⟨k,hk⟩:=List.getElem?_of_mem hc
  have:=hs k c (by have:=(aY.1 hk).1; omega) hk
  omega
theorem HR {l:bj} {i:Nat} {c:ax} (hc:l.ak[i]? =some c) (h:10<(c.bJ.length:Int)):mT l:= .inr ⟨c,aP hc,h⟩
theorem l0 {α:Type} {l:List α} {P:Nat→α→Prop} {i:Nat} {x:α} (h: ∀ (j:Nat) y,j<i→l[j]? =some y→P j y) (hx:l[i]? =some x) (hp:P i x): ∀ (j:Nat) y,j<i+1→l[j]? =some y→P j y:=fun j y hj hy=>by
 by_cases e:j=i
 ·subst e; rw [hx] at hy; cases hy; exact hp
 ·exact h j y I hy
theorem xZ {α:Type} {l:List α} {P:Nat→α→Prop} {i:Nat} (hi:l.length≤i) (h: ∀ (j:Nat) y,j<i→l[j]? =some y→P j y): ∀ (j:Nat) y,l[j]? =some y→P j y:=fun j y hy=>h j y (by have:=(aY.1 hy).1; omega) hy
theorem w8 {α:Type} {l:List α} {P:α→Prop} {i:Nat} (hi:l.length≤i) (h: ∀ (j:Nat) y,j<i→l[j]? =some y→P y): ∀ y∈l,P y:=fun y hy=>by
 obtain ⟨k,hk⟩:=List.getElem?_of_mem hy
 exact xZ (P:=fun _ y=>P y) hi h k y hk
theorem HE {l:bj} (h: ¬ mT l):(l.aL.length:Int)≤20∧(l.ak.length:Int)≤8∧(l.aa.length:Int)≤10∧ ∀ c∈l.ak,(c.bJ.length:Int)≤10:=by
 unfold mT at h
 rw [not_or] at h
 refine ⟨I,I,I,fun c hc=>?_⟩
 have:=h.2
 rcases Int.lt_or_le 10 (c.bJ.length:Int) with q|q
 ·exact absurd ⟨c,hc,q⟩ this
 ·exact q
theorem tD.small {l:bj} {az:List RA} (h:tD l az) (hg: ¬ mT l):eH l az:=by
 have A:=HE hg
 exact ⟨I,h.side,I,h.oY,I,fun k m a hm ha=>⟨(h.Se k m a hm ha).1,by have:=A.2.2.2 m (aP hm); omega⟩⟩
def E7 (c:ax) (x:cW) (k:Nat):Prop:= ∀ (j:Nat) o,j<k→c.bJ[j]? =some o→nE c x o
def uj (c:ax) (m:Nat):Prop:= ∀ (i:Nat) x,i<m→c.bJ[i]? =some x→E7 c x i
theorem Kf {c:ax} {m:Nat} (h1:0≤c.dC∧c.dC≤1000) (h2:1≤c.bJ.length∧c.bJ.length≤5) (hs: ∀ (i:Nat) x,c.bJ[i]? =some x→fE c i x) (hm:c.bJ.length≤m) (hp:uj c m):eX c:=
 ⟨h1,h2,hs,fun i k x o hx hk ho=>hp i x (by have:=(aY.1 hx).1; omega) hx k o hk ho⟩
theorem DV {c:ax} {m k:Nat} (h:uj c m) (hk: ∀ y,c.bJ[m]? =some y→E7 c y k) (e:k=m):uj c (m+1):=by
 subst e
 intro i x hi hx
 by_cases e:i=k
 ·subst e; exact hk x hx
 ·exact h i x I hx
noncomputable def kX (c:ax) (at_:Int) (i:Nat):ag:=if i=0 then gU else gP c at_ i
theorem CO {c:ax} {at_:Int} {i:Nat} (h:eX c) (hi:c.bJ.length≤i):kX c at_ i=iQ c at_:=by
 have:=h.len
 unfold kX; rw [if_neg I,nS hi]
theorem zI {c:ax} {at_:Int} {i:Nat} {x:cW} (h:eX c) (ha:0≤at_∧at_≤90000000) (hx:c.bJ[i]? =some x) (hi:i=0):
 kX c at_ (i+1)=⟨max (x.eD.Lo-sL c at_ x) (x.eD.Lo-sL c at_ x),min (x.eD.Hi+sL c at_ x) (x.eD.Hi+sL c at_ x)⟩:=by
 subst hi
 have hb:=h.uT hx
 have ho:=uZ h.sx ha hb.1
 unfold kX
 rw [if_neg I,j7 hx]
 unfold l8 gP
 simp only [List.take_zero,List.foldl_nil,ag.mk.injEq]
 omega
theorem Bn {c:ax} {at_:Int} {i:Nat} {x:cW} (hx:c.bJ[i]? =some x) (hi: ¬ i=0):kX c at_ (i+1)=⟨max (kX c at_ i).Lo (x.eD.Lo-sL c at_ x),min (kX c at_ i).Hi (x.eD.Hi+sL c at_ x)⟩:=by
 unfold kX
 rw [if_neg I,if_neg hi,j7 hx]; rfl
def iB (ts:List au) (n:Nat):List ag:=(List.range n).map fun k=>eE ts 0 k
theorem BW {ts:List au} {n:Nat}:iB ts (n+1)=iB ts n++[eE ts 0 n]:=by simp [iB,List.range_succ]
theorem oT {ts:List au} {n:Nat}:(iB ts n).length=n:=by simp [iB]
theorem pZ {ts:List au} {n k:Nat} {x:ag} (h:(iB ts n)[k]? =some x):x=eE ts 0 k:=by
 unfold iB at h
 rw [fO] at h
 cases hk:(List.range n)[k]? with
 |none=>simp [hk] at h
 |some v=>
  have:=aY.1 hk
  simp at this
  simp [hk] at h
  rw [← h,← this.2]
theorem Du {ts:List au} {a b:cE} (h:b.bB<a.bB):j6 ts a b=ot (j6 ts b a):=by
 unfold j6
 rw [if_pos h,if_neg I]
 unfold xC
 rw [Int.min_comm b.bB a.bB,Int.max_comm b.bB a.bB]
 unfold ot mK
 simp only [ag.mk.injEq]
 omega
theorem qU {ts:List au} {a b:cE} (h: ¬ b.bB<a.bB):j6 ts a b=mK (mK (eE ts a.bB.toNat (b.bB-a.bB).toNat) b.mP) (ot a.mP):=by
 unfold j6 xC
 rw [if_neg h,Int.min_eq_left I,Int.max_eq_right I]
end
section
def fy (m:List ay) (a:dQ):List aw:=rd a.1.1 m.length 7 (List.zipWith ay.cells m a.2)::bw ay.gL m a.2
structure NY (h:List ay) (a:dQ):Prop where
 len:h.length≤1000000
 oY:a.2.length=h.length
 sig: ∀ d∈h,d.bD.ab.length≤1000000
structure oW (r:fg) (az:List RA) (ha:List dQ):Prop where
 line:eH r.aj az
 ji:r.aT.length≤1000000
 draw:r.bS.length≤12
 jd:r.aB.length≤1000000
 has:ha.length=r.aB.length
 fZ: ∀ (k:Nat) h (a:dQ),r.aB[k]? =some h→ha[k]? =some a→NY h a
structure tP (r:fg) (az:List RA) (ha:List dQ):Prop where
 line:tD r.aj az
 ji:r.aT.length≤9223372036854775807
 draw:r.bS.length≤9223372036854775807
 jd:r.aB.length≤9223372036854775807
 has:ha.length=r.aB.length
 fZ: ∀ (k:Nat) h (a:dQ),r.aB[k]? =some h→ha[k]? =some a→h.length≤9223372036854775807∧a.2.length=h.length∧ ∀ d∈h,d.bD.ab.length≤9223372036854775807
def po (h:List ay):Prop:=8<(h.length:Int)∨ ∃ d∈h,15<(d.bD.ab.length:Int)
def mU (r:fg):Prop:=(mT r.aj∨8<(r.aT.length:Int)∨8<(r.bS.length:Int)∨5<(r.aB.length:Int))∨ ∃ h∈r.aB,po h
noncomputable instance (r:fg):Decidable (mU r):=Classical.propDecidable _
theorem Ll {r:fg} (h: ¬ mU r): ¬ mT r.aj∧(r.aT.length:Int)≤8∧(r.bS.length:Int)≤8∧(r.aB.length:Int)≤5∧ ∀ h∈r.aB,(h.length:Int)≤8∧ ∀ d∈h,(d.bD.ab.length:Int)≤15:=by
 unfold mU at h
 obtain ⟨A,B⟩:=not_or.1 h
 obtain ⟨C,E⟩:=not_or.1 A
 refine ⟨C,I,I,I,fun x hx=>?_⟩
 have hn: ¬ po x:=fun q=>B ⟨x,hx,q⟩
 obtain ⟨F,D⟩:=not_or.1 hn
 refine ⟨I,fun d hd=>?_⟩
 rcases Int.lt_or_le 15 (d.bD.ab.length:Int) with q|q
 ·exact absurd ⟨d,hd,q⟩ D
 ·exact q
theorem tP.small {r:fg} {az:List RA} {ha:List dQ} (h:tP r az ha) (hg: ¬ mU r):oW r az ha:=by
 have B:=Ll hg
 refine ⟨h.line.small B.1,I,I,I,h.has,fun k x a hx A=>?_⟩
 have C:=B.2.2.2.2 x (aP hx)
 have D:=h.fZ k x a hx A
 exact ⟨I,D.2.1,fun d hd=>by have:=C.2 d hd; omega⟩
def mW (r:cD):Prop:=r.Start=0∧r.gd=0∧(r.ab.length:Int)=0
instance (r:cD):Decidable (mW r):=by unfold mW; infer_instance
def l5 (s:ag):Prop:=1≤s.Lo∧s.Lo≤s.Hi∧s.Hi≤600000
instance (s:ag):Decidable (l5 s):=by unfold l5; infer_instance
def iW (l:bj) (d:ay):Prop:=if d.Out=true then d.dx=false∧d.Time=gU∧mW d.bD else if d.dx=true then l5 d.Time∧mW d.bD else dT l d.bD l.bK=0∧d.Time=gU
noncomputable instance (l:bj) (d:ay):Decidable (iW l d):=Classical.propDecidable _
noncomputable def gj (l:bj) (d:ay):ag:=if d.Out=true∨d.dx=true then d.Time else z9 l d.bD
/-- which kind a descent is of -/
def oS (d:ay):Int:=if d.Out=true then 0 else if d.dx=true then 1 else 2
theorem Mm {w:bY} (h:GH w): ∀ (b:Nat) (p:aD×Int),p∈fwd w b→w.Start≤p.2:=by
 have hl: ∀ b,0≤cf w b:=fun b=>by
  unfold cf
  cases e:w.qy[b]? with
  |none=>simp
  |some x=>have:=h.least x (aP e); simp; omega
 intro b
 induction b with
 |zero=>intro p hp; simp only [fwd,cm] at hp; subst hp; exact Int.le_refl _
 |succ b ih=>
  intro q hq
  obtain ⟨p,hp,o,ho,e⟩:=gf.1 hq
  unfold k8 at e
  split at e
  ·simp only [Option.some.injEq] at e
   subst e
   have:=ih p hp
   have:=hl b
   simp only; omega
  ·cases e
theorem Lb {l:bj} {r:cD} {b:Int} (h:dT l r b=0):r.Start≤(dK l r b).Lo:=by
 have ho:dN l r (jI l b)=0:=by
  by_cases e:dN l r (jI l b)=0
  ·exact e
  ·rw [(ml e).1] at h; exact absurd h e
 obtain ⟨B,C,_⟩:=iN ho
 obtain ⟨ht,A⟩:=dY B
 have hw:=lI ht A C
 have hv:dK l r b=mB l r b.toNat:=by unfold dK; rw [if_pos h]
 have hn:mB l r b.toNat≠mC:=fun e=>by unfold dT at h; rw [if_pos ho,if_pos e] at h; omega
 have hh:=vr (l:=mz (cb l r) b.toNat) fun q hq=>m8 hq
 rw [hv]
 unfold mB at hn ⊢
 rcases hh with ⟨_,e⟩|hh
 ·exact absurd e hn
 ·obtain ⟨x,hx,ex⟩:=hh.lo
  obtain ⟨o,ho,p,hp,u,hu,e⟩:=iH.1 hx
  obtain ⟨_,_,rfl⟩:=jL.1 e
  have D:r.Start≤p.2:=Mm hw _ p hp
  have E:0≤cf (cb l r) b.toNat:=by
   unfold cf
   cases e:(cb l r).qy[b.toNat]? with
   |none=>simp
   |some x=>have:=hw.least x (aP e); simp; omega
  simp only [jO] at ex
  omega
theorem E0 {l:bj} {d:ay} (h:iW l d):0≤(gj l d).Lo∧(gj l d).Lo≤(gj l d).Hi∧(gj l d).Hi≤86400000:=by
 unfold iW at h
 unfold gj
 split at h
 ·rename_i q; rw [if_pos (Or.inl q),h.2.1]; simp [gU]
 ·rename_i q
  split at h
  ·rename_i A
   rw [if_pos (Or.inr A)]
   obtain ⟨⟨B,C,D⟩,_⟩:=h
   omega
  ·rename_i A
   rw [if_neg (fun z=>z.elim q A),zm h.1]
   have B:=tT h.1
   have C:=(vV h.1).time
   have D:=Lb h.1
   simp only
   omega
theorem ED {l:bj} {d:ay} (h:d.Out=true):gj l d=d.Time:=if_pos (Or.inl h)
theorem E5 {l:bj} {d:ay} (h:d.Out=false∧d.dx=true):gj l d=d.Time:=if_pos (Or.inr h.2)
theorem D5 {l:bj} {d:ay} (h:d.Out=false∧d.dx=false):gj l d=z9 l d.bD:=if_neg (by simp [h])
theorem qK {l:bj} {d:ay} (h:d.Out=true):iW l d=(d.dx=false∧d.Time=gU∧mW d.bD):=if_pos h
theorem tw {l:bj} {d:ay} (h:d.Out=false∧d.dx=true):iW l d=(l5 d.Time∧mW d.bD):=by unfold iW; rw [if_neg (by simp [h]),if_pos h.2]
theorem uc {l:bj} {d:ay} (h:d.Out=false∧d.dx=false):iW l d=(dT l d.bD l.bK=0∧d.Time=gU):=by unfold iW; rw [if_neg (by simp [h]),if_neg (by simp [h])]
structure fH (r:fg):Prop where
 num:1≤(r.aT.length:Int)∧(r.aT.length:Int)≤5
 zp:0≤r.f_∧r.f_≤5
 nh:1≤(r.aB.length:Int)∧(r.aB.length:Int)≤3
 ids: ∀ (i:Nat) x,r.aT[i]? =some x→(0≤x∧x≤9999)∧ ∀ y,0<i→r.aT[i-1]? =some y→y<x
 draw:r.bS.Perm ((List.range r.aT.length).map fun (k:Nat)=>(k:Int))
 fZ: ∀ h∈r.aB,h.length=r.aT.length∧ ∀ d∈h,iW r.aj d
noncomputable instance (r:fg):Decidable (fH r):=Classical.propDecidable _
noncomputable def jP (r:fg):Int:=if dI r.aj=0 then (if fH r then 0 else 60) else dI r.aj
end
section
theorem nG {α β:Type} {f g:α→Option β}: ∀ {l:List α},(∀ x∈l,f x=g x)→l.filterMap f=l.filterMap g
 |[],_=>rfl
 |x::l,h=>by simp only [List.filterMap_cons,h x cJ,nG (l:=l) (fun y hy=>h y (dW _ hy))]
abbrev sX:=List (Int×ag)
/-- the sum of a sled in some heats, the first ones -/
noncomputable def j1 (l:bj) (hs:List (List ay)) (i:Nat):Nat→Option ag
 |0=>some ⟨0,0⟩
 |k+1=>match j1 l hs i k,(hs[k]?).bind (·[i]?) with
  |some s,some d=>if d.Out=true then none else some ⟨s.Lo+(gj l d).Lo/10,s.Hi+(gj l d).Hi/10⟩
  |_,_=>none
noncomputable def eA (l:bj) (hs:List (List ay)) (n h i:Nat):sX:=(List.range n).filterMap fun q=>(j1 l hs q (if q<i then h+1 else h)).map fun s=>((q:Int),s)
noncomputable def BG (r:fg) (k:Nat):sX:=(List.range r.aT.length).filterMap fun q=>(j1 r.aj r.aB q k).map fun s=>((q:Int),s)
noncomputable def Nb (r:fg):sX:=BG r r.aB.length
section
variable {l:bj} {hs:List (List ay)} {n h i q:Nat} {s:ag} {d:ay}
theorem BX:eA l hs n h 0=(List.range n).filterMap fun q=>(j1 l hs q h).map fun s=>((q:Int),s):=by
 unfold eA
 apply nG
 intro q _
 rw [if_neg (Nat.not_lt_zero _)]
theorem LU:eA l hs n h n=eA l hs n (h+1) 0:=by
 rw [BX]
 unfold eA
 apply nG
 intro q hq
 rw [if_pos (List.mem_range.1 hq)]
theorem GP {x:List ay} (hx:hs[h]? =some x) (hd:x[i]? =some d) (ho:d.Out=true):j1 l hs i (h+1)=none:=by
 unfold j1
 rw [hx]
 simp only [Option.bind_some,hd]
 cases j1 l hs i h with
 |none=>rfl
 |some s=>simp [ho]
theorem DL (h0:j1 l hs i h=none):j1 l hs i (h+1)=none:=by unfold j1; rw [h0]
theorem C7 {x:List ay} (hx:hs[h]? =some x) (hd:x[i]? =some d) (ho: ¬ d.Out=true) (hs0:j1 l hs i h=some s):j1 l hs i (h+1)=some ⟨s.Lo+(gj l d).Lo/10,s.Hi+(gj l d).Hi/10⟩:=by
 unfold j1
 rw [hx,hs0]
 simp only [Option.bind_some,hd,if_neg ho]
end
section
variable {l:bj} {hs:List (List ay)} {n h i q:Nat} {s t:ag}
theorem Pp {K β:Type} [DecidableEq K] {L Y:List (K×β)} {t:K}:(L++Y).lookup t=match L.lookup t with |some v=>some v|none=>Y.lookup t:=by
 induction L with
 |nil=>rfl
 |cons p L ih=>
  obtain ⟨k,u⟩:=p
  by_cases e:t==k
  ·simp [List.lookup,e]
  ·have:(t==k)=false:=by simpa using e
   simp only [List.cons_append,List.lookup,this,ih]
theorem uR {f:Nat→Option ag}: ∀ (n i:Nat),((List.range n).filterMap fun q=>(f q).map fun s=>((q:Int),s)).lookup (i:Int)=if i<n then f i else none
 |0,i=>by simp
 |n+1,i=>by
  rw [List.range_succ,List.filterMap_append,Pp,uR n i]
  by_cases c:i<n
  ·rw [if_pos c,if_pos I]
   cases e:f i with
   |some s=>rfl
   |none=>
    simp only
    cases e2:f n with
    |none=>simp [e2]
    |some u=>
     have:((i:Int)==(n:Int))=false:=by simp only [beq_eq_false_iff_ne,ne_eq]; omega
     simp [e2,List.lookup,this]
  ·rw [if_neg c]
   simp only
   by_cases A:i=n
   ·subst A
    rw [if_pos I]
    cases e2:f i with
    |none=>simp [e2]
    |some u=>simp [e2]
   ·rw [if_neg I]
    have:((i:Int)==(n:Int))=false:=by simp only [beq_eq_false_iff_ne,ne_eq]; omega
    cases e2:f n with
    |none=>simp [e2]
    |some u=>simp [e2,List.lookup,this]
theorem w5:(eA l hs n h i).lookup (q:Int)=if q<n then j1 l hs q (if q<i then h+1 else h) else none:=uR n q
theorem O8 {f g:Nat→Option ag} {n i:Nat} (hi:i<n) {s:ag} (hf:(f i).isSome=true) (hg:g i=some s) (hfg: ∀ q,q≠i→f q=g q):eo ((List.range n).filterMap fun q=>(f q).map fun s=>((q:Int),s)) (i:Int) s=(List.range n).filterMap fun q=>(g q).map fun s=>((q:Int),s):=by
 unfold eo
 rw [if_pos (by rw [uR,if_pos hi]; exact hf),List.map_filterMap]
 apply nG
 intro q _
 by_cases e:q=i
 ·subst e
  obtain ⟨u,hu⟩:=Option.isSome_iff_exists.1 hf
  rw [hu,hg]; simp
 ·rw [hfg q e]
  cases g q with
  |none=>rfl
  |some u=>
   have: ¬ ((q:Int)=(i:Int)):=by omega
   simp [this]
theorem Om {f g:Nat→Option ag} {n i:Nat} (hg:g i=none) (hfg: ∀ q,q≠i→f q=g q):eY ((List.range n).filterMap fun q=>(f q).map fun s=>((q:Int),s)) (i:Int)=(List.range n).filterMap fun q=>(g q).map fun s=>((q:Int),s):=by
 unfold eY
 rw [List.filter_filterMap]
 apply nG
 intro q _
 by_cases e:q=i
 ·subst e
  rw [hg]
  cases f q with
  |none=>rfl
  |some u=>simp
 ·rw [hfg q e]
  cases g q with
  |none=>rfl
  |some u=>
   have: ¬ ((q:Int)=(i:Int)):=by omega
   simp [this]
theorem Ls (hi:i<n) (h0:(j1 l hs i h).isSome=true) (h1:j1 l hs i (h+1)=some s):eo (eA l hs n h i) (i:Int) s=eA l hs n h (i+1):=by
 unfold eA
 refine O8 hi (by rw [if_neg (Nat.lt_irrefl i)]; exact h0) (by rw [if_pos (Nat.lt_succ_self i)]; exact h1) fun q hq=>?_
 by_cases c:q<i
 ·rw [if_pos c,if_pos I]
 ·rw [if_neg c,if_neg I]
theorem EF (h1:j1 l hs i (h+1)=none):eY (eA l hs n h i) (i:Int)=eA l hs n h (i+1):=by
 unfold eA
 refine Om (by rw [if_pos (Nat.lt_succ_self i)]; exact h1) fun q hq=>?_
 by_cases c:q<i
 ·rw [if_pos c,if_pos I]
 ·rw [if_neg c,if_neg I]
end
def z4 (m:sX) (i:Int):sX:=m.filter fun p=> !decide (p.1=i)
def RQ (m:sX) (i n:Int):Nat:=(z4 m i).countP fun p=>decide (p.2.Hi<n)
def Ta (m:sX) (i n:Int):Nat:=(z4 m i).countP fun p=>decide (p.2.Lo<n)
def Lj (m:sX) (i:Int) (own:ag):List Int:=own.Lo::((z4 m i).flatMap fun p=>[p.2.Lo+1,p.2.Hi+1]).filter fun n=>decide (own.Lo≤n∧n≤own.Hi)
def O7 (m:sX) (i:Int) (own:ag) (k:Int):Prop:= ∃ n∈Lj m i own,(RQ m i n:Int)+1≤k∧k≤(Ta m i n:Int)+1
noncomputable instance (m:sX) (i:Int) (own:ag) (k:Int):Decidable (O7 m i own k):=Classical.propDecidable _
section
variable {m:sX} {i:Int} {own:ag}
end
end
section
def rn (l:List Int):List (List Value):=l.map fun x=>[vI x]
theorem th {l:List Int}:(rn l).length=l.length:=by simp [rn]
theorem F4 {l:List Int} {k:Nat} {x:Int} (h:l[k]? =some x):(rn l)[k]? =some [vI x]:=by simp [rn,h]
theorem Fg {l:List Int} {k:Nat} {x:List Value} (h:(rn l)[k]? =some x): ∃ y,l[k]? =some y∧x=[vI y]:=by
 simp only [rn,fO,Option.map_eq_some_iff] at h
 obtain ⟨y,hy,rfl⟩:=h
 exact ⟨y,hy,U⟩
theorem C_ {l:List Int}: ∀ x∈rn l,x.length=1:=fun x hx=>by
 simp only [rn,cy] at hx
 obtain ⟨y,_,rfl⟩:=hx
 rfl
theorem yj {l:List Int}:l.take (rn l).length=l:=by rw [th,List.take_of_length_le (Nat.le_refl _)]
theorem w7 {l:List Int} {k:Nat} {x:Int} (h:l[k]? =some x):l.take (k+1)=l.take k++[x]:=by
 rw [List.take_add_one,h]; rfl
def nN (l:List Int):List Int:=l.mergeSort fun a b=>decide (a≤b)
theorem l7 {l:List Int}:(nN l).Perm l:=List.mergeSort_perm _ _
theorem uu {l:List Int}:(nN l).Pairwise (· ≤ ·):=by
 have:=List.pairwise_mergeSort (le:=fun (a b:Int)=>decide (a≤b)) (fun a b c A B=>by simp at A B ⊢; omega) (fun a b=>by simp; omega) l
 exact this.imp fun h=>by simpa using h
@[simp] theorem tW {l:List Int}:(nN l).length=l.length:=l7.length_eq
theorem BR {l m:List Int} (h1:m.Perm l) (h2:m.Pairwise (· ≤ ·)):m=nN l:=sw (h1.trans l7.symm) h2 uu
end
section
open Go.RowKit
def sC (s:aR):List Value:=[vS s.a s.n s.c]
theorem yW: ∀ s,(sC s).length=1:=fun s=>rfl
theorem Jz (l:List aR): ∀ v∈(l.map sC).flatten,v.oneCell'=true:=t_ (fun s=>rfl) l
def BE (l:List ag) (a:RA):aR:=⟨a.1,l.length,a.2⟩
def KC (l:List ag) (a:RA):List Value:=[vS a.1 l.length a.2]
def Pr (l:List ag) (a:RA):List aw:=[rd a.1 l.length 2 (l.map ag.cells)]
def ET (l:List ag) (a:RA):List aw:=[own a.1 a.2 G6 2 (l.map ag.cells)]
theorem yM {ls:List (List ag)} {az:List RA}:(List.zipWith BE ls az).map sC=List.zipWith KC ls az:=by
 rw [List.map_zipWith]; rfl
theorem Q6: ∀ (m:List ag) (a:RA) (w:World),(∀ X∈ET m a,X.holds w)→ ∀ X∈Pr m a,X.holds w:=fun m a w h X hX=>by
 simp only [Pr,cm] at hX
 subst hX
 have:=nM (h _ (cm.2 rfl))
 simpa using this
theorem DG {l:List (List ag)} {bz:List RA}:(cd (bw ET l bz)).wr=true:=by
 show (bw ET l bz).all (·.wr)=true
 rw [de]
 intro X hX
 obtain ⟨k,m,a,_,_,h⟩:=j9 hX
 simp only [ET,cm] at h
 subst h; rfl
theorem KF {ls:List (List ag)} {az:List RA} (h:az.length=ls.length):(List.zipWith KC ls az).length=ls.length:=by simp [h]
noncomputable def gV (r:fg) (i:Nat):List (List ag):=(r.aB.take i).map fun h=>h.map (gj r.aj)
noncomputable def fP (r:fg):List (List ag):=gV r r.aB.length
section
variable {r:fg} {i:Nat} {h:List ay} {tz:List RA} {a:RA}
theorem vO (hh:r.aB[i]? =some h):gV r (i+1)=gV r i++[h.map (gj r.aj)]:=by unfold gV; rw [List.take_add_one,hh,List.map_append]; rfl
theorem kY (hi:i≤r.aB.length):(gV r i).length=i:=by unfold gV; rw [List.length_map,List.length_take]; omega
theorem lg:(fP r).length=r.aB.length:=kY (Nat.le_refl _)
theorem CD (hh:r.aB[i]? =some h):(fP r)[i]? =some (h.map (gj r.aj)):=by
 unfold fP gV
 rw [List.take_length,fO,hh]; rfl
theorem FL {m:List ag} (hh:r.aB[i]? =some h) (hm:(fP r)[i]? =some m):m=h.map (gj r.aj):=by
 rw [CD hh] at hm
 exact (Option.some.inj hm).symm
theorem tp (hh:r.aB[i]? =some h) (hl:tz.length=i):List.zipWith BE (gV r (i+1)) (tz++[a])=List.zipWith BE (gV r i) tz++[BE (h.map (gj r.aj)) a]:=by
 have hi:=(aY.1 hh).1
 rw [vO hh,List.zipWith_append (by rw [kY I,hl])]
 rfl
theorem Bw (hh:r.aB[i]? =some h) (hl:tz.length=i):bw ET (gV r i) tz++[own a.1 a.2 G6 2 ((h.map (gj r.aj)).map ag.cells)]=bw ET (gV r (i+1)) (tz++[a]):=by
 have hi:=(aY.1 hh).1
 rw [vO hh,lq (by rw [kY I,hl])]
 simp [bw,ET]
end
theorem za {lo hi:Int} {l:List Int}:qw lo hi l=true↔ ∀ x∈l,lo≤x∧x≤hi:=by
 unfold qw
 rw [Bool.not_eq_true',List.any_eq_false]
 constructor
 ·intro h x hx; have:=h x hx; simp only [decide_eq_true_eq] at this; omega
 ·intro h x hx; have:=h x hx; simp only [decide_eq_true_eq]; omega
abbrev GF (n:Nat):List Int:=(List.range n).map fun (k:Nat)=>(k:Int)
theorem xy (n:Nat):(GF n).Pairwise (· ≤ ·):=by
 unfold GF
 rw [List.pairwise_map]
 exact List.pairwise_lt_range.imp fun h=>by omega
theorem Au {l:List Int} {n:Nat} (h:l.Perm (GF n)):nN l=GF n:=(BR h.symm (xy n)).symm
theorem Gs {l:List Int} {n:Nat} (hl:l.length=n) (h: ∀ j,j<n→ ∀ x,(nN l)[j]? =some x→x=(j:Int)):l.Perm (GF n):=by
 have e:nN l=GF n:=by
  apply List.ext_getElem
  ·simp [hl]
  ·intro j A B
   have C:j<n:=by simpa using B
   have:=h j C _ (fQ A)
   simpa using this
 rw [← e]; exact l7.symm
def rM (r:fg) (i:Nat):Prop:= ∀ j,j<i→(∀ x,(nN r.bS)[j]? =some x→x=(j:Int))∧ ∀ x y,r.aT[j]? =some x→0<j→r.aT[j-1]? =some y→y<x
def DI (r:fg) (h:List ay):Prop:=h.length=r.aT.length∧ ∀ d∈h,iW r.aj d
def km (r:fg) (i:Nat):Prop:= ∀ (j:Nat) h,j<i→r.aB[j]? =some h→DI r h
def ow (l:bj) (h:List ay) (k:Nat):Prop:= ∀ (j:Nat) d,j<k→h[j]? =some d→iW l d
section
variable {r:fg} {i:Nat}
theorem Cy:rM r 0:=fun j hj=>absurd hj (Nat.not_lt_zero _)
theorem wQ {x:Int} (h:rM r i) (hd:(nN r.bS)[i]? =some x) (e:x=(i:Int)) (hs: ∀ x y,r.aT[i]? =some x→0<i→r.aT[i-1]? =some y→y<x):rM r (i+1):=fun j hj=>by
 rcases Nat.lt_or_ge j i with q|q
 ·exact h j q
 ·obtain rfl:j=i:=by omega
  exact ⟨fun y hy=>by rw [hd] at hy; cases hy; exact e,hs⟩
theorem xD:km r 0:=fun j h hj=>absurd hj (Nat.not_lt_zero _)
theorem xw {h:List ay} (hh:km r i) (hx:r.aB[i]? =some h) (ho:DI r h):km r (i+1):=fun j y hj hy=>by
 rcases Nat.lt_or_ge j i with q|q
 ·exact hh j y q hy
 ·obtain rfl:j=i:=by omega
  rw [hx] at hy; cases hy; exact ho
theorem vQ {l:bj} {h:List ay}:ow l h 0:=fun j d hj=>absurd hj (Nat.not_lt_zero _)
theorem vU {l:bj} {h:List ay} {d:ay} (ht:ow l h i) (hx:h[i]? =some d) (ho:iW l d):ow l h (i+1):=fun j y hj hy=>by
 rcases Nat.lt_or_ge j i with q|q
 ·exact ht j y q hy
 ·obtain rfl:j=i:=by omega
  rw [hx] at hy; cases hy; exact ho
theorem Ez {h:List ay} (hl:h.length=r.aT.length) (ht:ow r.aj h i) (hi:h.length≤i):DI r h:=⟨hl,fun d hd=>by
 obtain ⟨j,hj⟩:=List.getElem?_of_mem hd
 exact ht j d (by have:=(aY.1 hj).1; omega) hj⟩
theorem HX {n:Nat} (hn:n=r.aT.length) (h1:1≤(r.aT.length:Int)∧(r.aT.length:Int)≤5) (h2:r.bS.length=r.aT.length) (h3:0≤r.f_∧r.f_≤5) (h4:1≤(r.aB.length:Int)∧(r.aB.length:Int)≤3) (h5:qw 0 9999 r.aT=true)
 (h6:rM r n) (h7:km r i) (hi:r.aB.length≤i):fH r:=by
 subst hn
 refine ⟨h1,h3,h4,fun k x hx=>⟨za.1 h5 x (aP hx),fun y hk hy=>?_⟩,Gs h2 fun j hj=>(h6 j hj).1,fun h hh=>?_⟩
 ·exact (h6 k (aY.1 hx).1).2 x y hx hk hy
 ·obtain ⟨j,hj⟩:=List.getElem?_of_mem hh
  exact h7 j h (by have:=(aY.1 hj).1; omega) hj
theorem fH.Ak (h:fH r):r.bS.length=r.aT.length:=by have:=h.draw.length_eq; simpa using this
theorem fH.ins (h:fH r):qw 0 9999 r.aT=true:=za.2 fun x hx=>by
 obtain ⟨j,hj⟩:=List.getElem?_of_mem hx
 exact (h.ids j x hj).1
theorem fH.drawn (h:fH r) {x:Int} (hx:(nN r.bS)[i]? =some x):x=(i:Int):=by
 rw [Au h.draw] at hx
 have hi:=(aY.1 hx).1
 simp at hi
 rw [fO,List.getElem?_range hi] at hx
 exact (Option.some.inj hx).symm
theorem fH.Lx (h:fH r):km r i:=fun j x _ hx=>h.fZ x (aP hx)
theorem yI (h: ¬ dI r.aj=0):jP r=dI r.aj:=if_neg h
theorem kR (h:dI r.aj=0) (hn: ¬ fH r):jP r=60:=by unfold jP; rw [if_pos h,if_neg hn]
theorem Bm (h:dI r.aj=0) (hn:fH r):jP r=0:=by unfold jP; rw [if_pos h,if_pos hn]
theorem e8 (h:jP r=0):dI r.aj=0∧fH r:=by
 unfold jP at h
 split at h
 ·split at h
  ·exact ⟨asm,asm⟩
  ·cases h
 ·exact absurd h asm
end
section
variable {r:fg} {k i n h:Nat} {s:ag} {l:bj} {hs:List (List ay)}
theorem Ek: ∀ {k:Nat} {s:ag},km r k→k≤r.aB.length→j1 r.aj r.aB i k=some s→0≤s.Lo∧s.Lo≤s.Hi∧s.Hi≤8640000*(k:Int)
 |0,s,_,_,h=>by
  simp only [j1,Option.some.injEq] at h
  subst h; simp
 |k+1,s,hh,hk,h=>by
  unfold j1 at h
  split at h
  ·rename_i u d hu hd
   split at h
   ·cases h
   ·cases h
    have A:=Ek (fun j x hj hx=>hh j x I hx) I hu
    obtain ⟨x,hx,hd⟩:=Option.bind_eq_some_iff.1 hd
    have B:=E0 ((hh k x I hx).2 d (aP hd))
    simp only
    push_cast
    omega
  ·cases h
theorem Lg:eo (eA l hs i 0 0) (i:Int) ⟨0,0⟩=eA l hs (i+1) 0 0:=by
 have A:(eA l hs i 0 0).lookup (i:Int)=none:=by rw [w5,if_neg (Nat.lt_irrefl i)]
 unfold eo
 rw [A]
 simp only [Option.isSome_none,Bool.false_eq_true,if_false]
 unfold eA
 rw [List.range_succ,List.filterMap_append]
 simp [j1]
theorem It (hi:i<n):(eA l hs n h i).lookup (i:Int)=j1 l hs i h:=by rw [w5,if_pos hi,if_neg (Nat.lt_irrefl i)]
theorem N7 {α β:Type} {f:α→β} {tr:List β} {ht:List α} {x:β} {d:α} (e:tr=ht.map f) (hx:tr[i]? =some x) (hd:ht[i]? =some d):x=f d:=by
 rw [e,fO,hd] at hx
 exact (Option.some.inj hx).symm
theorem KN:eA r.aj r.aB r.aT.length h 0=BG r h:=BX
end
end
section
def oa (r:fg) (i:Int):Prop:=0≤i∧i≤(r.aT.length:Int)-1
instance (r:fg) (i:Int):Decidable (oa r i):=by unfold oa; infer_instance
section
variable {r:fg} {i a b:Int}
end
end
section
def nU (d:ay):Prop:=d.Out=false∧d.dx=false
instance (d:ay):Decidable (nU d):=by unfold nU; infer_instance
def eT (l:bj) (f:aX):Prop:=(1≤f.Kind∧f.Kind≤3)∧(0≤f.my∧f.my≤f.To∧f.To≤86400000)∧0≤f.ik∧f.ik≤(if f.Kind=1 then 0 else l.bK)
instance (l:bj) (f:aX):Decidable (eT l f):=by unfold eT; infer_instance
/-- the descent that a protest is of -/
def qo (j:cV) (p:a_):Option ay:=(j.Race.aB[p.jt.toNat]?).bind (·[p.iu.toNat]?)
structure uM (j:cV) (i:Nat) (p:a_):Prop where
 id:0≤p.Id∧p.Id≤9999
 up: ∀ q,0<i→j.aq[i-1]? =some q→q.Id<p.Id
 jF:oa j.Race p.iu
 fZ:0≤p.jt∧p.jt≤(j.Race.aB.length:Int)-1
 fault:0≤p.jU∧p.jU≤(j.aC.length:Int)-1
 iJ: ∃ d,qo j p=some d∧nU d∧d.bD.Start≤p.At∧p.At≤86400000
structure nH (j:cV):Prop where
 nf:(j.aC.length:Int)≤5
 fault: ∀ f∈j.aC,eT j.Race.aj f
 min_:0≤j.cu∧j.cu≤60
 pd:0≤j.j2∧j.j2≤100000
 np:(j.aq.length:Int)≤8
 hG: ∀ (i:Nat) p,j.aq[i]? =some p→uM j i p
noncomputable instance (j:cV):Decidable (nH j):=Classical.propDecidable _
noncomputable def dU (j:cV):Int:=if jP j.Race=0 then (if nH j then 0 else 70) else jP j.Race
theorem gR {j:cV} (h: ¬ jP j.Race=0):dU j=jP j.Race:=if_neg h
theorem cr {j:cV} (h:jP j.Race=0) (hn: ¬ nH j):dU j=70:=by unfold dU; rw [if_pos h,if_neg hn]
theorem h_ {j:cV} (h:jP j.Race=0) (hn:nH j):dU j=0:=by unfold dU; rw [if_pos h,if_pos hn]
theorem eZ {j:cV} (h:dU j=0):jP j.Race=0∧nH j:=by
 unfold dU at h
 split at h
 ·split at h
  ·exact ⟨asm,asm⟩
  ·cases h
 ·rename_i q; exact absurd h q
structure yv where
 Lo:Int
 Hi:Int
 each:Bool
 never:Bool
/-- whether it passed the beam in each truth -/
noncomputable def ud (l:bj) (r:cD) (b:Int):Bool:=(hP l r).all fun n=>decide (b<n)
noncomputable def cP (l:bj) (r:cD) (b:Int):yv:=
 if b<0 then ⟨r.Start,r.Start,true,false⟩
 else if dT l r b=0 then ⟨(dK l r b).Lo,if ud l r b=true then (dK l r b).Hi else 86400000,ud l r b,false⟩
 else ⟨86400000,86400000,false,true⟩
def ze (f:aX):Int:=if f.Kind=1 then-1 else if f.Kind=2 then f.ik-1 else f.ik
def Pu (l:bj) (f:aX):Int:=if f.Kind=1 then l.bK else f.ik
def uo (f:aX) (a b:yv):Prop:=if f.Kind=3 then f.my≤a.Lo∧a.Hi≤f.To else a.Hi≤f.To∧f.my≤b.Lo
instance (f:aX) (a b:yv):Decidable (uo f a b):=by unfold uo; infer_instance
def nR (f:aX) (a b:yv):Int:=if a.never=true∨f.To<a.Lo∨b.Hi<f.my then 0 else if a.each=true∧uo f a b then 2 else 1
noncomputable def g4 (l:bj) (f:aX) (d:ay):Int:=if nU d then nR f (cP l d.bD (ze f)) (cP l d.bD (Pu l f)) else 0
theorem cN {l:bj} {f:aX} {d:ay} (h: ¬ nU d):g4 l f d=0:=if_neg h
def lY (P:Nat→Bool) (n:Nat):List Int:=((List.range n).filter P).map fun (i:Nat)=>(i:Int)
section
variable {P:Nat→Bool} {n q:Nat} {x:Int}
theorem vo (h:P n=true):lY P (n+1)=lY P n++[(n:Int)]:=by unfold lY; rw [List.range_succ,List.filter_append,List.map_append]; simp [h]
theorem qM (h:P n=false):lY P (n+1)=lY P n:=by unfold lY; rw [List.range_succ,List.filter_append,List.map_append]; simp [h]
theorem qh:(lY P n).length≤n:=by unfold lY; rw [List.length_map]; exact Nat.le_trans (List.length_filter_le _ _) (by rw [List.length_range]; exact Nat.le_refl _)
theorem DN:x∈lY P n↔ ∃ i:Nat,i<n∧x=(i:Int)∧P i=true:=by
 unfold lY
 simp only [cy,List.mem_filter,List.mem_range]
 constructor
 ·rintro ⟨i,⟨A,B⟩,rfl⟩; exact ⟨i,A,rfl,B⟩
 ·rintro ⟨i,A,rfl,B⟩; exact ⟨i,⟨A,B⟩,rfl⟩
end
noncomputable def mO (j:cV) (p:a_):Int:=match qo j p with
 |some d=>if p.At≤(cP j.Race.aj d.bD j.Race.aj.bK).Lo+60000*j.cu then 0 else if p.At≤(cP j.Race.aj d.bD j.Race.aj.bK).Hi+60000*j.cu then 1 else 2
 |none=>2
noncomputable def gu (j:cV) (p:a_):Bool:=match qo j p,j.aC[p.jU.toNat]? with
 |some d,some f=>decide (mO j p≠2)&&decide (g4 j.Race.aj f d≠0)
 |_,_=>false
/-- which protests are granted, so far -/
noncomputable def lH (j:cV) (n:Nat):List Int:=lY (fun i=>(j.aq[i]?).any (gu j)) n
noncomputable def im (j:cV):List Int:=lH j j.aq.length
theorem qj {j:cV} {n:Nat} {x:Int}:x∈lH j n↔ ∃ i:Nat,i<n∧x=(i:Int)∧ ∃ p,j.aq[i]? =some p∧gu j p=true:=by
 unfold lH
 rw [DN]
 refine exists_congr fun i=>and_congr Iff.rfl (and_congr Iff.rfl ?_)
 cases h:j.aq[i]? with
 |none=>simp
 |some p=>simp
/-- by faults of which something is so -/
def IM (l:bj) (F:aX→Prop) (fs:List aX) (d:ay):Prop:= ∃ f∈fs,F f∧ ¬ g4 l f d=0
noncomputable def wV (l:bj) (F:aX→Prop) (fs:List aX) (h:List ay) (n:Nat):List Int:=lY (fun s=>(h[s]?).any fun d=> @decide (IM l F fs d) (Classical.propDecidable _)) n
noncomputable def iE (j:cV) (F:aX→Prop):List (List Int):=j.Race.aB.map fun h=>wV j.Race.aj F j.aC h h.length
/-- about which a protest is granted -/
def oo (j:cV) (f:aX):Prop:= ∃ (i:Nat) (p:a_),j.aq[i]? =some p∧gu j p=true∧j.aC[p.jU.toNat]? =some f
noncomputable def kS (j:cV):List (List Int):=iE j (oo j)
noncomputable def jG (j:cV) (s:Int) (n:Nat):Nat:=(List.range n).countP fun i=>(j.aq[i]?).any fun p=>decide (p.iu=s)&& !gu j p
noncomputable def DH (j:cV) (s:Int):Int:= -(jG j s j.aq.length:Int)*j.j2
noncomputable def w6 (j:cV):Int:=((im j).length:Int)*j.j2
noncomputable def xo (j:cV):Int:=(j.aq.length:Int)*j.j2-w6 j
end
section
/-- the places of which something is so; from the k-th on, all of them -/
def iy (P:Nat→Bool) (n k:Nat):List (Int×Bool):=((List.range n).filter fun q=>decide (k≤q)||P q).map fun (q:Nat)=>((q:Int),true)
section
variable {P:Nat→Bool} {n k q:Nat}
theorem wU {p:Int×Bool}:p∈iy P n k↔ ∃ q:Nat,q<n∧(k≤q∨P q=true)∧p=((q:Int),true):=by
 unfold iy
 simp only [cy,List.mem_filter,List.mem_range,Bool.or_eq_true,decide_eq_true_eq]
 constructor
 ·rintro ⟨q,⟨A,B⟩,rfl⟩; exact ⟨q,A,B,rfl⟩
 ·rintro ⟨q,A,B,rfl⟩; exact ⟨q,⟨A,B⟩,rfl⟩
theorem GD:((iy P n k).map (·.1)).Nodup:=by
 unfold iy
 rw [List.map_map,List.nodup_iff_pairwise_ne,List.pairwise_map]
 have h:(List.range n).Pairwise (· ≠ ·):=by rw [← List.nodup_iff_pairwise_ne]; exact List.nodup_range
 exact (h.sublist List.filter_sublist).imp fun {a b} A e=>A (by have B:(a:Int)=(b:Int):=e; omega)
theorem HH:eo (iy P n 0) (n:Int) true=iy P (n+1) 0:=by
 have A:(iy P n 0).lookup (n:Int)=none:=iA.2 fun p hp e=>by
  obtain ⟨q,B,_,rfl⟩:=wU.1 hp
  simp only at e; omega
 unfold eo
 rw [A]
 show iy P n 0++[((n:Int),true)]=_
 unfold iy
 rw [List.range_succ,List.filter_append,List.map_append]
 simp
theorem IF (h:P k=false):eY (iy P n k) (k:Int)=iy P n (k+1):=by
 unfold eY iy
 rw [List.filter_map,List.filter_filter]
 congr 1
 apply List.filter_congr
 intro q _
 by_cases e:q=k
 ·subst e; simp [h]
 ·have A:decide ((q:Int)=(k:Int))=false:=bx I
  have B:decide (k≤q)=decide (k+1≤q):=fu.2 I
  simp only [Function.comp_def,A,B,Bool.not_false,Bool.true_and]
theorem FT (h:P k=true):iy P n k=iy P n (k+1):=by
 unfold iy
 congr 1
 apply List.filter_congr
 intro q _
 by_cases e:q=k
 ·subst e; simp [h]
 ·have A:decide (k≤q)=decide (k+1≤q):=fu.2 I
  rw [A]
theorem yN (hq:q<n):((iy P n n).lookup (q:Int)).getD false=P q:=by
 cases h:P q with
 |true=>
  have:((q:Int),true)∈iy P n n:=wU.2 ⟨q,hq,.inr h,rfl⟩
  rw [(lu GD).1 this]; rfl
 |false=>
  have:(iy P n n).lookup (q:Int)=none:=iA.2 fun p hp e=>by
   obtain ⟨u,B,A,rfl⟩:=wU.1 hp
   simp only at e
   obtain rfl:u=q:=by omega
   rcases A with A|A
   ·omega
   ·rw [h] at A; cases A
  rw [this]; rfl
end
end
section
section
variable {j j':cV} {p:a_} {l:bj} {F G:aX→Prop} {fs:List aX} {h:List ay} {n:Nat} {x:Int}
theorem FO (hFG: ∀ f∈fs,(F f↔G f)):wV l F fs h n=wV l G fs h n:=by
 unfold wV
 congr 1
 funext s
 cases e:h[s]? with
 |none=>rfl
 |some d=>
  simp only [Option.any_some]
  rw [fu]
  exact ⟨fun ⟨f,A,B,C⟩=>⟨f,A,(hFG f A).1 B,C⟩,fun ⟨f,A,B,C⟩=>⟨f,A,(hFG f A).2 B,C⟩⟩
theorem Le {k:Nat} {h:List ay} (hh:j.Race.aB[k]? =some h):(iE j F)[k]? =some (wV j.Race.aj F j.aC h h.length):=by unfold iE; rw [fO,hh]; rfl
end
end
section
open Go.RowKit
structure hH (j:cV) (az:List RA) (ha:List dQ):Prop where
 race:oW j.Race az ha
 nf:j.aC.length≤1000000
 np:j.aq.length≤1000000
 kind: ∀ f∈j.aC,0≤f.Kind∧f.Kind≤255
structure rW (j:cV) (az:List RA) (ha:List dQ):Prop where
 race:tP j.Race az ha
 nf:j.aC.length≤9223372036854775807
 np:j.aq.length≤9223372036854775807
 kind: ∀ f∈j.aC,0≤f.Kind∧f.Kind≤255
def ld (j:cV):Prop:=(mU j.Race∨10<(j.aC.length:Int))∨15<(j.aq.length:Int)
noncomputable instance (j:cV):Decidable (ld j):=Classical.propDecidable _
theorem Ky {j:cV} (h: ¬ ld j): ¬ mU j.Race∧(j.aC.length:Int)≤10∧(j.aq.length:Int)≤15:=by
 unfold ld at h
 have A: ¬ mU j.Race:=fun q=>h (.inl (.inl q))
 have B: ¬ 10<(j.aC.length:Int):=fun q=>h (.inl (.inr q))
 have C: ¬ 15<(j.aq.length:Int):=fun q=>h (.inr q)
 exact ⟨A,I,I⟩
theorem rW.small {j:cV} {az:List RA} {ha:List dQ} (h:rW j az ha) (hg: ¬ ld j):hH j az ha:=by
 have A:=Ky hg
 exact ⟨h.race.small A.1,I,I,h.kind⟩
def oL (fin:Int) (f:aX):Prop:=(1≤f.Kind∧f.Kind≤3)∧(0≤f.my∧f.my≤f.To∧f.To≤86400000)∧0≤f.ik∧f.ik≤(if f.Kind=1 then 0 else fin)
instance (fin:Int) (f:aX):Decidable (oL fin f):=by unfold oL; infer_instance
theorem Mq {P:Nat→Bool} {n i:Nat} (h: ¬ 0<((lY P n).length:Int)) (hi:i<n):P i=false:=by
 cases e:P i with
 |false=>rfl
 |true=>
  have:(i:Int)∈lY P n:=DN.2 ⟨i,hi,rfl,e⟩
  have:=List.length_pos_of_mem this
  omega
theorem Mi {P:Nat→Bool} {n:Nat} (h:0<((lY P n).length:Int)): ∃ i,i<n∧P i=true:=by
 obtain ⟨x,hx⟩:=List.exists_mem_of_length_pos (l:=lY P n) I
 obtain ⟨i,A,_,B⟩:=DN.1 hx
 exact ⟨i,A,B⟩
def iw {α:Type} (l:List α) (p:Int→α→Bool) (i:Nat):Bool:=(l[i]?).any (p (i:Int))
theorem sb {α:Type} {l:List α} {p:Int→α→Bool} {i:Nat} {x:α} (h:l[i]? =some x):iw l p i=p (i:Int) x:=by unfold iw; rw [h]; rfl
section
variable {fin:Int} {f:aX} {j:cV}
theorem fj (hk:f.Kind=1):oL fin f↔(0≤f.my∧f.my≤f.To∧f.To≤86400000)∧0≤f.ik∧f.ik≤0:=by
 unfold oL; rw [if_pos hk]; omega
theorem fh (hk: ¬ f.Kind=1):oL fin f↔(1≤f.Kind∧f.Kind≤3)∧(0≤f.my∧f.my≤f.To∧f.To≤86400000)∧0≤f.ik∧f.ik≤fin:=by
 unfold oL; rw [if_neg hk]
theorem g5 (h:0<((lY (iw j.aC fun _ f=>decide (¬ oL j.Race.aj.bK f)) j.aC.length).length:Int)): ¬ nH j:=fun q=>by
 obtain ⟨i,hi,hb⟩:=Mi h
 have hx:j.aC[i]? =some (j.aC[i]'hi):=fQ hi
 rw [sb hx] at hb
 exact (of_decide_eq_true hb) (q.fault _ (aP hx))
theorem gv (h: ¬ 0<((lY (iw j.aC fun _ f=>decide (¬ oL j.Race.aj.bK f)) j.aC.length).length:Int)): ∀ f∈j.aC,eT j.Race.aj f:=fun f hf=>by
 obtain ⟨i,hi⟩:=List.mem_iff_getElem?.1 hf
 have hb:=Mq h (aY.1 hi).1
 rw [sb hi] at hb
 exact Decidable.of_not_not (of_decide_eq_false hb)
theorem gS {b:Bool} {p q:Prop} (h1:b=false) (h2: ¬ p) (h3: ¬ q): ¬ (b=true∨p∨q):=by
 rintro (h|h|h)
 ·rw [h1] at h; cases h
 ·exact h2 h
 ·exact h3 h
end
section
variable {l:bj} {r:cD} {b:Int} {f:aX} {d:ay} {a c:yv}
theorem rT (h:b<0):cP l r b=⟨r.Start,r.Start,true,false⟩:=if_pos h
theorem qN (h: ¬ b<0) (e: ¬ dT l r b=0):cP l r b=⟨86400000,86400000,false,true⟩:=by unfold cP; rw [if_neg h,if_neg e]
theorem pq (h: ¬ b<0) (e:dT l r b=0) (q:ud l r b=true):cP l r b=⟨(dK l r b).Lo,(dK l r b).Hi,true,false⟩:=by unfold cP; rw [if_neg h,if_pos e,q]; rfl
theorem nX (h: ¬ b<0) (e:dT l r b=0) (q:ud l r b=false):cP l r b=⟨(dK l r b).Lo,86400000,false,false⟩:=by unfold cP; rw [if_neg h,if_pos e,q]; rfl
theorem ks (h:dT l r b=0) (hb:0≤b):dN l r 0=0:=by
 by_cases e:dN l r (jI l b)=0
 ·by_cases c:0≤b∧b≤(l.aa.length:Int)-1
  ·rw [tI c] at e; exact e
  ·rw [show jI l b=2 from if_neg c] at e
   have:=(iN e).2.2.1
   omega
 ·rw [(ml e).1] at h; exact absurd h e
theorem mF (h:dN l r 0=0):ud l r b=decide (b<nB (hP l r)):=by
 have hm:=Fc (u6 h)
 unfold ud
 rw [Bool.eq_iff_iff,de,decide_eq_true_iff]
 constructor
 ·intro q; exact of_decide_eq_true (q _ hm.1)
 ·intro q x hx
  have:=hm.2 x hx
  exact c8 I
theorem My (hb:0≤b):(0≤(cP l r b).Lo∧(cP l r b).Lo≤86400000)∧0≤(cP l r b).Hi∧(cP l r b).Hi≤86400000:=by
 by_cases e:dT l r b=0
 ·have A:=tT e
  cases q:ud l r b with
  |true=>rw [pq I e q]; simp only; omega
  |false=>rw [nX I e q]; simp only; omega
 ·rw [qN I e]; simp only; omega
theorem jy (hk:f.Kind=1) (hr:nU d):g4 l f d=nR f (cP l d.bD (-1)) (cP l d.bD l.bK):=by
 unfold g4 ze Pu; rw [if_pos hr,if_pos hk,if_pos hk]
theorem jD (hk:f.Kind=2) (hr:nU d):g4 l f d=nR f (cP l d.bD (f.ik-1)) (cP l d.bD f.ik):=by
 unfold g4 ze Pu; rw [if_pos hr,if_neg I,if_pos hk,if_neg I]
theorem jz (hk:f.Kind=3) (hr:nU d):g4 l f d=nR f (cP l d.bD f.ik) (cP l d.bD f.ik):=by
 unfold g4 ze Pu; rw [if_pos hr,if_neg I,if_neg I,if_neg I]
theorem a7 (h:a.never=true∨f.To<a.Lo∨c.Hi<f.my):nR f a c=0:=if_pos h
theorem dp (h: ¬ (a.never=true∨f.To<a.Lo∨c.Hi<f.my)) (q:a.each=true) (s:uo f a c):nR f a c=2:=by unfold nR; rw [if_neg h,if_pos ⟨q,s⟩]
theorem bL (h: ¬ (a.never=true∨f.To<a.Lo∨c.Hi<f.my)) (q: ¬ (a.each=true∧uo f a c)):nR f a c=1:=by unfold nR; rw [if_neg h,if_neg q]
theorem cZ (hk: ¬ f.Kind=3):uo f a c↔a.Hi≤f.To∧f.my≤c.Lo:=by unfold uo; rw [if_neg hk]
theorem ib (hk:f.Kind=3):uo f a c↔ag.mk (max a.Lo f.my) (min a.Hi f.To)=ag.mk a.Lo a.Hi:=by
 unfold uo; rw [if_pos hk]
 constructor
 ·intro q; congr 1<;>omega
 ·intro q; injection q with A B; omega
end
section
variable {j:cV} {p:a_} {d:ay} {f:aX}
theorem DA (hd:qo j p=some d) (h:p.At≤(cP j.Race.aj d.bD j.Race.aj.bK).Lo+60000*j.cu):mO j p=0:=by unfold mO; rw [hd]; exact if_pos h
theorem CG (hd:qo j p=some d) (h: ¬ p.At≤(cP j.Race.aj d.bD j.Race.aj.bK).Lo+60000*j.cu) (h2:p.At≤(cP j.Race.aj d.bD j.Race.aj.bK).Hi+60000*j.cu):mO j p=1:=by unfold mO; rw [hd]; simp only; rw [if_neg h,if_pos h2]
theorem Dm (hd:qo j p=some d) (h: ¬ p.At≤(cP j.Race.aj d.bD j.Race.aj.bK).Lo+60000*j.cu) (h2: ¬ p.At≤(cP j.Race.aj d.bD j.Race.aj.bK).Hi+60000*j.cu):mO j p=2:=by unfold mO; rw [hd]; simp only; rw [if_neg h,if_neg h2]
theorem Cg (h:mO j p=2):gu j p=false:=by unfold gu; split<;>simp [h]
theorem AJ (hd:qo j p=some d) (hf:j.aC[p.jU.toNat]? =some f) (h: ¬ mO j p=2):gu j p= !decide (g4 j.Race.aj f d=0):=by unfold gu; rw [hd,hf]; simp [h]
end
section
variable {j:cV} {i k:Nat} {p q:a_} {f:aX} {d:ay}
/-- the first faults are right -/
def o_ (j:cV) (k:Nat):Prop:= ∀ (i:Nat) f,i<k→j.aC[i]? =some f→eT j.Race.aj f
theorem AM:o_ j 0:=fun i f h=>absurd h (Nat.not_lt_zero _)
theorem rm (h:o_ j k) (hf:j.aC[k]? =some f) (ho:eT j.Race.aj f):o_ j (k+1):=fun i g hi hg=>by
 rcases Nat.lt_or_ge i k with c|c
 ·exact h i g c hg
 ·obtain rfl:i=k:=by omega
  rw [hf] at hg; cases hg; exact ho
theorem dL (h:o_ j k) (hk:j.aC.length≤k): ∀ f∈j.aC,eT j.Race.aj f:=fun f hf=>by
 obtain ⟨i,hi⟩:=List.mem_iff_getElem?.1 hf
 exact h i f (by have:=(aY.1 hi).1; omega) hi
/-- the first protests are right -/
def oH (j:cV) (k:Nat):Prop:= ∀ (i:Nat) p,i<k→j.aq[i]? =some p→uM j i p
theorem xO:oH j 0:=fun i f h=>absurd h (Nat.not_lt_zero _)
theorem p7 (h:oH j k) (hp:j.aq[k]? =some p) (ho:uM j k p):oH j (k+1):=fun i g hi hg=>by
 rcases Nat.lt_or_ge i k with c|c
 ·exact h i g c hg
 ·obtain rfl:i=k:=by omega
  rw [hp] at hg; cases hg; exact ho
/-- the number of the last protest, so far -/
def pI (j:cV) (k:Nat):Int:=match k with
 |0=> -1
 |k+1=>match j.aq[k]? with
  |some p=>p.Id
  |none=> -1
theorem nF (hp:j.aq[k]? =some p):pI j (k+1)=p.Id:=by unfold pI; simp only [hp]
theorem Lq (h:oH j k) (hk:k≤j.aq.length): -1≤pI j k∧pI j k≤9999:=by
 cases k with
 |zero=>exact ⟨by simp [pI],by simp [pI]⟩
 |succ k=>
  obtain ⟨p,hp⟩: ∃ p,j.aq[k]? =some p:=⟨j.aq[k]'I,fQ _⟩
  have:=(h k p I hp).id
  rw [nF hp]; omega
theorem pE {ht:List ay} (hh:j.Race.aB[p.jt.toNat]? =some ht) (hd:ht[p.iu.toNat]? =some d):qo j p=some d:=by
 unfold qo; rw [hh]; exact hd
theorem Em (hp:j.aq[k]? =some p) (hi:pI j k+1≤p.Id∧p.Id≤9999) (h0: -1≤pI j k) (hs:0≤p.iu∧p.iu≤(j.Race.aT.length:Int)-1) (hh:0≤p.jt∧p.jt≤(j.Race.aB.length:Int)-1) (hf:0≤p.jU∧p.jU≤(j.aC.length:Int)-1) (hd:qo j p=some d) (hr:nU d) (ha:d.bD.Start≤p.At∧p.At≤86400000):uM j k p:=by
 refine ⟨I,fun q B A=>?_,hs,hh,hf,d,hd,hr,ha⟩
 cases k with
 |zero=>omega
 |succ k=>
  rw [Nat.add_sub_cancel] at A
  rw [nF A] at hi
  omega
/-- one that is wrong -/
theorem fX (hp:j.aq[k]? =some p) (h: ¬ uM j k p): ¬ nH j:=fun q=>h (q.hG k p hp)
theorem kx (h:uM j k p) (hk:k≤j.aq.length):pI j k+1≤p.Id:=by
 cases k with
 |zero=>have:=h.id; show-1+1≤p.Id; omega
 |succ k=>
  obtain ⟨q,hq⟩: ∃ q,j.aq[k]? =some q:=⟨j.aq[k]'I,fQ _⟩
  have:=h.up q I (by rw [Nat.add_sub_cancel]; exact hq)
  rw [nF hq]; omega
end
def oP (l:List aX) (f:aX):Int:=match l.findIdx? (fun x=>decide (x=f)) with
 |some i=>(i:Int)
 |none=> -1
section
variable {l:List aX} {f g x:aX} {i:Nat}
theorem Ej (hx:l[i]? =some x) (h:x=f) (hb: ∀ (q:Nat) y,q<i→l[q]? =some y→y≠f):oP l f=(i:Int):=by
 unfold oP
 have:l.findIdx? (fun x=>decide (x=f))=some i:=by
  rw [List.findIdx?_eq_some_iff_getElem]
  obtain ⟨hi,e⟩:=aY.1 hx
  refine ⟨hi,by rw [e]; simp [h],fun q hq=>?_⟩
  have:=hb q (l[q]'I) hq (fQ _)
  simpa using this
 rw [this]
theorem D4 (hb: ∀ (q:Nat) y,q<i→l[q]? =some y→y≠f) (hi:l.length≤i):oP l f= -1:=by
 unfold oP
 have:l.findIdx? (fun x=>decide (x=f))=none:=by
  rw [List.findIdx?_eq_none_iff]
  intro y hy
  obtain ⟨q,hq⟩:=List.mem_iff_getElem?.1 hy
  have:=hb q y (by have:=(aY.1 hq).1; omega) hq
  simpa using this
 rw [this]
theorem AT (hf:f∈l): ∃ i:Nat,oP l f=(i:Int)∧l[i]? =some f:=by
 unfold oP
 cases h:l.findIdx? (fun x=>decide (x=f)) with
 |none=>
  rw [List.findIdx?_eq_none_iff] at h
  have:=h f hf
  simp at this
 |some i=>
  rw [List.findIdx?_eq_some_iff_getElem] at h
  obtain ⟨hi,e,_⟩:=h
  exact ⟨i,U,by rw [fQ hi]; simpa using e⟩
theorem IE (hf:f∈l) (hg:g∈l) (h:oP l f=oP l g):f=g:=by
 obtain ⟨i,C,A⟩:=AT hf
 obtain ⟨k,D,B⟩:=AT hg
 have:i=k:=by omega
 subst this
 exact Option.some.inj (A.symm.trans B)
end
end
end Go.Proofs.YtijpnoadncadoaaGreatDoor
