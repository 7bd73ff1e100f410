/-
 The statement juryTouches_said, part 4 of 8: Short, Grow, Global, RunA, Tab, Run, Comp, Ret, LoopK, MapK, Watch, Passes, Keys, MapR, RangeG, Nest, WMaps, WBounds, PassG, Drop, Spot, First, Line, Wrap, Goes, OpenW, Wheres, LineR, Race, RaceS, Vals, RaceO, RaceV, Jury, JHits, JMore.
 Conditions: none.
-/
import Derived.Test.YtgcjjjehnjljbaaGreatDoorTz1
import Derived.Test.YtgcjjjehnjljbaaGreatDoorTz2
import Derived.Test.YtgcjjjehnjljbaaGreatDoorTz3
import Derived.Test.YtgcjjjehnjljbaaGreatDoorProg
import Derived.KernelRfl
import Derived.WideKeyRuns
namespace Go.Proofs.YtgcjjjehnjljbaaGreatDoor
set_option maxRecDepth 100000
set_option maxHeartbeats 4000000
set_option linter.unusedVariables false
section
open Go.RowKit
/-- an operation that hands v to its slot d -/
structure SE (E:fI) (ops:Array Oper) (o:Oper) (D:ir) (L:dC) (C:List aA) (v:Value) (d:Nat):Prop where
 h:SD E ops o D L C v
 o:o.dst=some d
 n:Nat.blt d E.n=true
theorem rS {E:fI} {ops:Array Oper} {Q:dw} {o:Oper} {rest:List Oper} {D:ir} {L:dC} {C:List aA} {v:Value} {d:Nat}
 (h:SE E ops o D L C v d) (k:RJ E ops Q rest D ((d,v)::L) C):RJ E ops Q (o::rest) D L C:=PA h.h h.o h.n k
theorem dS {E:fI} {ops:Array Oper} {F:dC→Prop} {o:Oper} {rest:List Oper} {D:ir} {L:dC} {C:List aA} {v:Value} {d:Nat}
 (h:SE E ops o D L C v d) (k:DJ E ops D C F rest ((d,v)::L)):DJ E ops D C F (o::rest) L:=Pv h.h h.o h.n k
theorem eS {E:fI} {ops:Array Oper} {D:ir} {C' C1:List aA} {F:dC→Prop} {bs:List Bool} {o:Oper} {l rest:List Oper} {L:dC} {v:Value} {d:Nat}
 (hl:l=o::rest) (h:SE E ops o D L C' v d) (k:qn E ops D C' C1 F bs rest ((d,v)::L)):qn E ops D C' C1 F (false::bs) l L:=Pb h.h hl h.o h.n k
theorem fS {E:fI} {ops:Array Oper} {D:ir} {C' C1:List aA} {F:dC→Prop} {bs:List Bool} {o:Oper} {l rest:List Oper} {L:dC} {v:Value} {d:Nat}
 (hl:l=o::rest) (h:SE E ops o D L C1 v d) (k:qn E ops D C' C1 F bs rest ((d,v)::L)):qn E ops D C' C1 F (true::bs) l L:=Po h.h hl h.o h.n k
def gB (n:Nat) (ops:Array Oper) (L:dC) (d:Nat) (g:Option (Nat×Bool)):Bool:=ki ops L g&&Nat.blt d n
theorem MF {n:Nat} {ops:Array Oper} {L:dC} {d:Nat} {g:Option (Nat×Bool)} (h:gB n ops L d g=true):ki ops L g=true:=by
 unfold gB at h; rw [di] at h; exact h.1
theorem MI {n:Nat} {ops:Array Oper} {L:dC} {d:Nat} {g:Option (Nat×Bool)} (h:gB n ops L d g=true):Nat.blt d n=true:=by
 unfold gB at h; rw [di] at h; exact h.2
def vF (n:Nat) (ops:Array Oper) (L:dC) (d:Nat) (g:Option (Nat×Bool)) (x:Operand):Option Value:=match gB n ops L d g with
 |true=>ev L x
 |false=>none
def bF (n:Nat) (ops:Array Oper) (L:dC) (d:Nat) (g:Option (Nat×Bool)) (x y:Operand):Option (Value×Value):=match gB n ops L d g with
 |true=>match ev L x,ev L y with
  |some u,some v=>some (u,v)
  |_,_=>none
 |false=>none
def pF (n:Nat) (ops:Array Oper) (L:dC) (d:Nat) (g:Option (Nat×Bool)) (c x y:Operand):Option Value:=match gB n ops L d g with
 |true=>match ev L c with
  |some (.bool true)=>ev L x
  |some (.bool false)=>ev L y
  |_=>none
 |false=>none
def xF (n:Nat) (ops:Array Oper) (L:dC) (d:Nat) (g:Option (Nat×Bool)) (x:Operand) (i:Nat):Option Value:=match vF n ops L d g x with
 |some (.tuple vs)=>vs.toList[i]?
 |_=>none
def uF (n:Nat) (ops:Array Oper) (L:dC) (d:Nat) (g:Option (Nat×Bool)) (xs ys:List Operand):Option (List Value×List Value):=match gB n ops L d g with
 |true=>match evs L xs,evs L ys with
  |some u,some v=>some (u,v)
  |_,_=>none
 |false=>none
def cF (n:Nat) (ops:Array Oper) (L:dC) (d:Nat) (g:Option (Nat×Bool)) (fop:Operand) (xs:List Operand):Option (FuncId×List Value):=match gB n ops L d g with
 |true=>match ev L fop,evs L xs with
  |some (.func (.func f) fi ca),some vs=>some (f,fi.toList++vs++ca.toList)
  |_,_=>none
 |false=>none
theorem jI {n:Nat} {ops:Array Oper} {L:dC} {d:Nat} {g:Option (Nat×Bool)} {x:Operand} {v:Value} (h:vF n ops L d g x=some v):ki ops L g=true∧Nat.blt d n=true∧ev L x=some v:=by
 unfold vF at h
 split at h
 ·rename_i hb; exact ⟨MF hb,MI hb,h⟩
 ·cases h
theorem vb {n:Nat} {ops:Array Oper} {L:dC} {d:Nat} {g:Option (Nat×Bool)} {x y:Operand} {u v:Value} (h:bF n ops L d g x y=some (u,v)):ki ops L g=true∧Nat.blt d n=true∧ev L x=some u∧ev L y=some v:=by
 unfold bF at h
 split at h
 ·rename_i hb
  split at h
  ·rename_i hx hy; cases h; exact ⟨MF hb,MI hb,hx,hy⟩
  ·cases h
 ·cases h
theorem Nj {n:Nat} {ops:Array Oper} {L:dC} {d:Nat} {g:Option (Nat×Bool)} {x y:List Operand} {u v:List Value} (h:uF n ops L d g x y=some (u,v)):ki ops L g=true∧Nat.blt d n=true∧evs L x=some u∧evs L y=some v:=by
 unfold uF at h
 split at h
 ·rename_i hb
  split at h
  ·rename_i hx hy; cases h; exact ⟨MF hb,MI hb,hx,hy⟩
  ·cases h
 ·cases h
section
variable {E:fI} {ops:Array Oper} {Q:dw} {rest:List Oper} {D:List Deferred} {L:List (Nat×Value)} {C:List aA}
variable {d:Nat} {ty:TypeId} {ps:String} {af:Array Edge} {g:Option (Nat×Bool)}
theorem SX {o:Oper} {v:Value} (h:SD E ops o D L C v) (ho:o.dst=some d) (hd:Nat.blt d E.n=true):SE E ops o D L C v d:=⟨h,ho,hd⟩
theorem MV {x:Operand} {v:Value} (h:vF E.n ops L d g x=some v):SE E ops ⟨some d,.move x,ty,ps,af,g⟩ D L C v d:=by
 obtain ⟨A,B,F⟩:=jI h; exact ⟨Eb A F,rfl,B⟩
theorem AG {x:Operand} {v:Value} (h:vF E.n ops L d g x=some v):SE E ops ⟨some d,.assign x,ty,ps,af,g⟩ D L C v d:=by
 obtain ⟨A,B,F⟩:=jI h; exact ⟨yv A F,rfl,B⟩
theorem OX {op:Op} (h:(Cb ops L g&&Nat.blt d E.n)=true):SE E ops ⟨some d,op,ty,ps,af,g⟩ D L C undef d:=by
 rw [di] at h; exact ⟨Iq h.1,rfl,h.2⟩
theorem NT {xt:TypeId} {x:Operand} {b:Bool} (h:vF E.n ops L d g x=some (.bool b)):SE E ops ⟨some d,.unOp .not xt x,ty,ps,af,g⟩ D L C (.bool !b) d:=by
 obtain ⟨A,B,F⟩:=jI h; exact ⟨Ix A F,rfl,B⟩
theorem NG {xt:TypeId} {x:Operand} {n:Int} (h:vF E.n ops L d g x=some (.int .i64 n)) (hb:qD (-n)):SE E ops ⟨some d,.unOp .neg xt x,ty,ps,af,g⟩ D L C (.int .i64 (-n)) d:=by
 obtain ⟨A,B,F⟩:=jI h; exact ⟨Nt A F hb,rfl,B⟩
theorem PK {c x y:Operand} {v:Value} (h:pF E.n ops L d g c x y=some v):SE E ops ⟨some d,.pick c x y,ty,ps,af,g⟩ D L C v d:=by
 unfold pF at h
 split at h
 ·rename_i hb
  split at h
  ·rename_i hc; exact ⟨yQ (MF hb) hc h,rfl,MI hb⟩
  ·rename_i hc; exact ⟨zg (MF hb) hc h,rfl,MI hb⟩
  ·cases h
 ·cases h
theorem EX {x:Operand} {i:Nat} {v:Value} (h:xF E.n ops L d g x i=some v):SE E ops ⟨some d,.extract x i,ty,ps,af,g⟩ D L C v d:=by
 unfold xF at h
 split at h
 ·rename_i vs hv
  obtain ⟨A,B,F⟩:=jI hv
  exact ⟨xP (vs:=vs.toList) A (by simpa using F) h,U,B⟩
 ·cases h
theorem LN {x:Operand} {t e:TypeId} {A:OA} {n c:Nat} (h:vF E.n ops L d g x=some (.slice A n c)) (ht:E.P.underlying t=some (.slice e)):
 SE E ops ⟨some d,.call {callee:= .builtin .len,args:= #[x],argTypes:= #[t]},ty,ps,af,g⟩ D L C (.int .i64 n) d:=by
 obtain ⟨B,F,G⟩:=jI h; exact ⟨Js B G ht,rfl,F⟩
theorem BI {op:BinOp} {xt yt:TypeId} {x y:Operand} {u v r:Value} (h:bF E.n ops L d g x y=some (u,v)) (hb:gP E.P op xt x y u v r):SE E ops ⟨some d,.binOp op xt x y yt,ty,ps,af,g⟩ D L C r d:=by
 obtain ⟨A,B,F,G⟩:=vb h; exact ⟨eK A F G hb,rfl,B⟩
theorem MN {x y:Operand} {ts:Array TypeId} {a b:Int} {k:IntKind} (h:bF E.n ops L d g x y=some (.int k a,.int k b)):
 SE E ops ⟨some d,.call {callee:= .builtin .min,args:= #[x,y],argTypes:=ts},ty,ps,af,g⟩ D L C (.int k (min a b)) d:=by
 obtain ⟨A,B,F,G⟩:=vb h; exact ⟨Nd A F G,rfl,B⟩
theorem MX {x y:Operand} {ts:Array TypeId} {a b:Int} {k:IntKind} (h:bF E.n ops L d g x y=some (.int k a,.int k b)):
 SE E ops ⟨some d,.call {callee:= .builtin .max,args:= #[x,y],argTypes:=ts},ty,ps,af,g⟩ D L C (.int k (max a b)) d:=by
 obtain ⟨A,B,F,G⟩:=vb h; exact ⟨Nc A F G,rfl,B⟩
theorem FA (o':Nat) {x:Operand} {b o s f k:Nat} (h:vF E.n ops L d g x=some (.pointer (some ⟨b,o,none⟩))) (hf:uu E.P s f=some k) (ho:o+k=o'):
 SE E ops ⟨some d,.fieldAddr s x f,ty,ps,af,g⟩ D L C (.pointer (some ⟨b,o',none⟩)) d:=by
 obtain ⟨A,B,F⟩:=jI h; exact ⟨Ml A F hf ho,rfl,B⟩
theorem oL (k':Nat) {x:Operand} {A:OA} {n sz:Nat} {es:List (List Value)} {k0 s f k:Nat} (h:vF E.n ops L d g x=some (.pointer (qt A k0))) (hR:hH C (rd A n sz es).holds) (hn:0<n*sz)
 (hf:uu E.P s f=some k) (ho:k0+k=k'):SE E ops ⟨some d,.fieldAddr s x f,ty,ps,af,g⟩ D L C (.pointer (qt A k')) d:=by
 obtain ⟨B,F,G⟩:=jI h; exact ⟨GW B G hR hn hf ho,rfl,F⟩
theorem IA (k:Nat) {x ix:Operand} {A:OA} {n c sz e t:Nat} {es:List (List Value)} {j:Int} (h:bF E.n ops L d g x ix=some (.slice A n c,.int .i64 j)) (hR:hH C (rd A n sz es).holds)
 (ht:tE E.P t=some (e,sz)) (hz:0<sz) (hj:j=(k:Int)) (hk:k<n):SE E ops ⟨some d,.indexAddr t x ix,ty,ps,af,g⟩ D L C (.pointer (qt A (k*sz))) d:=by
 obtain ⟨B,F,G,H⟩:=vb h; exact ⟨Qt B G H hR ht hz hj hk,rfl,F⟩
theorem Ub (k o':Nat) {x ix:Operand} {b o n c sz e t:Nat} {j:Int} (h:bF E.n ops L d g x ix=some (.slice (some ⟨b,o,none⟩) n c,.int .i64 j))
 (ht:tE E.P t=some (e,sz)) (hj:j=(k:Int)) (hk:k<n) (ho:o+k*sz=o'):SE E ops ⟨some d,.indexAddr t x ix,ty,ps,af,g⟩ D L C (.pointer (some ⟨b,o',none⟩)) d:=by
 obtain ⟨A,B,F,G⟩:=vb h; exact ⟨Kn A F G ht hj hk ho,rfl,B⟩
/-- the whole of a block, a part of it, one cell -/
theorem LW (i:Nat) {x:Operand} {b t tt n:Nat} {cs:List Value} (h:vF E.n ops L d g x=some (.pointer (some ⟨b,0,none⟩))) (ht:tK E.P t=some (true,n)) (hC:C[i]? =some (cy b tt cs)) (hn:cs.length=n):
 SE E ops ⟨some d,.load t x,ty,ps,af,g⟩ D L C (.agg cs.toArray) d:=by
 obtain ⟨A,B,F⟩:=jI h; exact ⟨wY A F ht (pz i hC sm) hn,rfl,B⟩
theorem LP (vs:List Value) (i:Nat) {x:Operand} {b o t tt n:Nat} {cs:List Value} (h:vF E.n ops L d g x=some (.pointer (some ⟨b,o,none⟩))) (ht:tK E.P t=some (true,n)) (hC:C[i]? =some (cy b tt cs)) (hv:(cs.drop o).take vs.length=vs) (hn:vs.length=n):
 SE E ops ⟨some d,.load t x,ty,ps,af,g⟩ D L C (.agg vs.toArray) d:=by
 obtain ⟨A,B,F⟩:=jI h; exact ⟨wY A F ht (pz i hC hv) hn,rfl,B⟩
theorem Uk (vs:List Value) (i:Nat) {x:Operand} {b o t tt n:Nat} {cs:List Value} (h:vF E.n ops L d g x=some (.pointer (some ⟨b,o,none⟩))) (ht:tK E.P t=some (true,n)) (hC:C[i]? =some (cy b tt cs).ro) (hv:(cs.drop o).take vs.length=vs) (hn:vs.length=n):
 SE E ops ⟨some d,.load t x,ty,ps,af,g⟩ D L C (.agg vs.toArray) d:=by
 obtain ⟨A,B,F⟩:=jI h; exact ⟨wY A F ht (v_ i hC hv) hn,rfl,B⟩
theorem L1 (v:Value) (i:Nat) {x:Operand} {b o t tt n:Nat} {cs:List Value} (h:vF E.n ops L d g x=some (.pointer (some ⟨b,o,none⟩))) (ht:tK E.P t=some (false,n)) (hC:C[i]? =some (cy b tt cs)) (hv:(cs.drop o).take 1=[v]):
 SE E ops ⟨some d,.load t x,ty,ps,af,g⟩ D L C v d:=by
 obtain ⟨A,B,F⟩:=jI h; exact ⟨uZ A F ht (pz i hC hv),rfl,B⟩
theorem GS (v:Value) (i:Nat) {x:Operand} {b o t tt n:Nat} {cs:List Value} (h:vF E.n ops L d g x=some (.pointer (some ⟨b,o,none⟩))) (ht:tK E.P t=some (false,n)) (hC:C[i]? =some (cy b tt cs).ro) (hv:(cs.drop o).take 1=[v]):
 SE E ops ⟨some d,.load t x,ty,ps,af,g⟩ D L C v d:=by
 obtain ⟨A,B,F⟩:=jI h; exact ⟨uZ A F ht (v_ i hC hv),rfl,B⟩
theorem DD (i:Nat) {x:Operand} {b t tt n:Nat} {v:Value} (h:vF E.n ops L d g x=some (.pointer (some ⟨b,0,none⟩))) (ht:tK E.P t=some (false,n)) (hC:C[i]? =some (cy b tt [v])):
 SE E ops ⟨some d,.load t x,ty,ps,af,g⟩ D L C v d:=by
 obtain ⟨A,B,F⟩:=jI h; exact ⟨uZ A F ht (pz i hC rfl),rfl,B⟩
theorem TP (i:Nat) {x:Operand} {b t tt n:Nat} {v:Value} (h:vF E.n ops L d g x=some (.pointer (some ⟨b,0,none⟩))) (ht:tK E.P t=some (false,n)) (hC:C[i]? =some (cy b tt [v]).ro):
 SE E ops ⟨some d,.load t x,ty,ps,af,g⟩ D L C v d:=by
 obtain ⟨A,B,F⟩:=jI h; exact ⟨uZ A F ht (v_ i hC rfl),rfl,B⟩
/-- what is read of a row -/
theorem h_ (k o:Nat) (v:Value) {x:Operand} {A:OA} {t m n sz:Nat} {es:List (List Value)} {e:List Value} (h:vF E.n ops L d g x=some (.pointer (qt A m))) {nn:Nat} (ht:tK E.P t=some (false,nn)) (hR:hH C (rd A n sz es).holds) (he:es[k]? =some e) (hm:m=k*sz+o) (hz:0<sz) (hv:(e.drop o).take 1=[v]):
 SE E ops ⟨some d,.load t x,ty,ps,af,g⟩ D L C v d:=by
 obtain ⟨B,F,G⟩:=jI h; exact ⟨uZ B G ht (MD hR he hm hz hv),rfl,F⟩
theorem jL (k o:Nat) (vs:List Value) {x:Operand} {A:OA} {t m n sz:Nat} {es:List (List Value)} {e:List Value} (h:vF E.n ops L d g x=some (.pointer (qt A m))) {nn:Nat} (ht:tK E.P t=some (true,nn)) (hR:hH C (rd A n sz es).holds) (he:es[k]? =some e) (hm:m=k*sz+o) (hz:0<sz) (hv:(e.drop o).take vs.length=vs) (hn:vs.length=nn):
 SE E ops ⟨some d,.load t x,ty,ps,af,g⟩ D L C (.agg vs.toArray) d:=by
 obtain ⟨B,F,G⟩:=jI h; exact ⟨wY B G ht (MD hR he hm hz hv) hn,rfl,F⟩
theorem CL {fop:Operand} {xs:Array Operand} {ts:Array TypeId} {f:FuncId} {args:List Value} {Cp:List aA} {v:Value} (c:dF E.P f args Cp v) (hC:kH C Cp) (h:cF E.n ops L d g fop xs.toList=some (f,args)):
 SE E ops ⟨some d,.call {callee:= .value fop,args:=xs,argTypes:=ts},ty,ps,af,g⟩ D L C v d:=by
 unfold cF at h
 split at h
 ·rename_i hb
  split at h
  ·rename_i hf hx; cases h; exact ⟨Eo (MF hb) hf hx rfl c hC,rfl,MI hb⟩
  ·cases h
 ·cases h
theorem FU {fn:Fn} {xs ys:Array Operand} {us vs:List Value} (h:uF E.n ops L d g xs.toList ys.toList=some (us,vs)):SE E ops ⟨some d,.makeFunc fn xs ys,ty,ps,af,g⟩ D L C (.func fn us.toArray vs.toArray) d:=by
 obtain ⟨A,B,F,G⟩:=Nj h; exact ⟨Kw A F G,rfl,B⟩
theorem cX {fop:Operand} {xs:Array Operand} {ts:Array TypeId} {f:FuncId} {args:List Value} {Cp:List aA} {α:Type} {V:α→Value} {p:α→Prop} {N:α→List aA} (c:qf E.P f args Cp V p N) (hC:kH C Cp)
 (h:cF E.n ops L d g fop xs.toList=some (f,args)) (k: ∀ x,p x→RJ E ops Q rest D ((d,V x)::L) (N x++C)):
 RJ E ops Q (⟨some d,.call {callee:= .value fop,args:=xs,argTypes:=ts},ty,ps,af,g⟩::rest) D L C:=by
 unfold cF at h
 split at h
 ·rename_i hb
  split at h
  ·rename_i hf hx; cases h; exact OE (MF hb) hf hx rfl c hC (MI hb) k
  ·cases h
 ·cases h
/-- a box of a struct, of one cell -/
theorem ed {t:TypeId} {x:Operand} {cs:List Value} (h:vF E.n ops L d g x=some (.agg cs.toArray)) (k: ∀ b,RJ E ops Q rest D ((d,.pointer (some ⟨b,0,none⟩))::L) (cy b t cs::C)):
 RJ E ops Q (⟨some d,.box t x,ty,ps,af,g⟩::rest) D L C:=by
 obtain ⟨A,B,F⟩:=jI h; exact Mx A F rfl B k
theorem xJ {t:TypeId} {x:Operand} {v:Value} (h:vF E.n ops L d g x=some v) (hv:v.cells.toList=[v]) (k: ∀ b,RJ E ops Q rest D ((d,.pointer (some ⟨b,0,none⟩))::L) (cy b t [v]::C)):
 RJ E ops Q (⟨some d,.box t x,ty,ps,af,g⟩::rest) D L C:=by
 obtain ⟨A,B,F⟩:=jI h; exact Mx A F hv B k
theorem AL {t:TypeId} {cs:List Value} (h:gB E.n ops L d g=true) (hz:tZ E.P t=some cs) (k: ∀ b,RJ E ops Q rest D ((d,.pointer (some ⟨b,0,none⟩))::L) (cy b t cs::C)):
 RJ E ops Q (⟨some d,.alloc t,ty,ps,af,g⟩::rest) D L C:=K9 (MF h) hz (MI h) k
/-- a store into the block at the place i of the state -/
def sF (ops:Array Oper) (L:dC) (g:Option (Nat×Bool)) (x y:Operand):Option (Value×Value):=match ki ops L g with
 |true=>match ev L x,ev L y with
  |some u,some v=>some (u,v)
  |_,_=>none
 |false=>none
theorem CO {ops:Array Oper} {L:dC} {g:Option (Nat×Bool)} {x y:Operand} {u v:Value} (h:sF ops L g x y=some (u,v)):ki ops L g=true∧ev L x=some u∧ev L y=some v:=by
 unfold sF at h
 split at h
 ·rename_i hb
  split at h
  ·rename_i hx hy; cases h; exact ⟨hb,hx,hy⟩
  ·cases h
 ·cases h
theorem Ir {t n b o tt:Nat} {x y:Operand} {v:Value} {cs cs':List Value} {C':List aA} (i:Nat) (h:sF ops L g x y=some (.pointer (some ⟨b,o,none⟩),v)) (ht:(tK E.P t).map (·.2)=some n) (hC:C[i]? =some (cy b tt cs))
 (hk:(v.cells.toList.length==n&&v.cells.toList.all Value.oneCell'&&Nat.ble (o+n) cs.length)=true) (hcs:cs.take o++v.cells.toList++cs.drop (o+n)=cs') (hC':C.set i (cy b tt cs')=C') (k:RJ E ops Q rest D L C'):
 RJ E ops Q (⟨none,.store t x y,ty,ps,af,g⟩::rest) D L C:=by
 obtain ⟨A,B,F⟩:=CO h
 simp only [di,beq_iff_eq] at hk
 exact iQ i A B F ht U hk.1.1 hk.1.2 hC hk.2 hcs hC' k
/-- a store of a whole block, by a struct, by one cell -/
theorem My {t n b tt:Nat} {x y:Operand} {cs cs':List Value} {C':List aA} (i:Nat) (h:sF ops L g x y=some (.pointer (some ⟨b,0,none⟩),.agg cs'.toArray)) (ht:(tK E.P t).map (·.2)=some n) (hC:C[i]? =some (cy b tt cs))
 (hk:(Nat.beq cs'.length n&&cs'.all Value.oneCell'&&Nat.beq n cs.length)=true) (hC':C.set i (cy b tt cs')=C') (k:RJ E ops Q rest D L C'):
 RJ E ops Q (⟨none,.store t x y,ty,ps,af,g⟩::rest) D L C:=by
 obtain ⟨AA,J,K⟩:=CO h
 simp only [di] at hk
 obtain ⟨⟨A,B⟩,F⟩:=hk
 have H:=Nat.eq_of_beq_eq_true A
 have G:=Nat.eq_of_beq_eq_true F
 exact iQ i AA J K ht U H B hC (by rw [Nat.zero_add,G]; exact Nat.ble_self_eq_true _) (by rw [Nat.zero_add,G,List.take_zero,List.drop_length]; show []++cs'++[]=cs'; simp) hC' k
theorem RP {t n b tt:Nat} {x y:Operand} {v u:Value} {C':List aA} (i:Nat) (h:sF ops L g x y=some (.pointer (some ⟨b,0,none⟩),v)) (ht:(tK E.P t).map (·.2)=some n) (hC:C[i]? =some (cy b tt [u]))
 (hv:v.cells.toList=[v]) (hk:(Nat.beq n 1&&v.oneCell')=true) (hC':C.set i (cy b tt [v])=C') (k:RJ E ops Q rest D L C'):
 RJ E ops Q (⟨none,.store t x y,ty,ps,af,g⟩::rest) D L C:=by
 obtain ⟨G,H,AA⟩:=CO h
 rw [di] at hk
 obtain ⟨A,B⟩:=hk
 have F:=Nat.eq_of_beq_eq_true A
 subst F
 exact iQ i G H AA ht hv U (by simp [B]) hC U U hC' k
theorem fj {t n b tt:Nat} {x y:Operand} {cs cs':List Value} (h:sF ops L g x y=some (.pointer (some ⟨b,0,none⟩),.agg cs'.toArray)) (ht:(tK E.P t).map (·.2)=some n) (hk:(Nat.beq cs'.length n&&cs'.all Value.oneCell'&&Nat.beq n cs.length)=true) (k:RJ E ops Q rest D L (cy b tt cs'::C)):RJ E ops Q (⟨none,.store t x y,ty,ps,af,g⟩::rest) D L (cy b tt cs::C):=My 0 h ht rfl hk rfl k
theorem LY {t n b tt:Nat} {x y:Operand} {v u:Value} (h:sF ops L g x y=some (.pointer (some ⟨b,0,none⟩),v)) (ht:(tK E.P t).map (·.2)=some n) (hv:v.cells.toList=[v]) (hk:(Nat.beq n 1&&v.oneCell')=true) (k:RJ E ops Q rest D L (cy b tt [v]::C)):RJ E ops Q (⟨none,.store t x y,ty,ps,af,g⟩::rest) D L (cy b tt [u]::C):=RP 0 h ht rfl hv hk rfl k
theorem Ug (cs':List Value) {t n b o tt:Nat} {x y:Operand} {v:Value} {cs:List Value} (h:sF ops L g x y=some (.pointer (some ⟨b,o,none⟩),v)) (ht:(tK E.P t).map (·.2)=some n) (hk:(v.cells.toList.length==n&&v.cells.toList.all Value.oneCell'&&Nat.ble (o+n) cs.length)=true) (hcs:cs.take o++v.cells.toList++cs.drop (o+n)=cs') (k:RJ E ops Q rest D L (cy b tt cs'::C)):RJ E ops Q (⟨none,.store t x y,ty,ps,af,g⟩::rest) D L (cy b tt cs::C):=Ir 0 h ht rfl hk hcs rfl k
theorem pZ {t n b tt:Nat} {x y:Operand} {cs cs':List Value} {A0:aA} (h:sF ops L g x y=some (.pointer (some ⟨b,0,none⟩),.agg cs'.toArray)) (ht:(tK E.P t).map (·.2)=some n) (hk:(Nat.beq cs'.length n&&cs'.all Value.oneCell'&&Nat.beq n cs.length)=true) (k:RJ E ops Q rest D L (A0::cy b tt cs'::C)):RJ E ops Q (⟨none,.store t x y,ty,ps,af,g⟩::rest) D L (A0::cy b tt cs::C):=My 1 h ht rfl hk rfl k
theorem Uj (cs':List Value) {t n b o tt:Nat} {x y:Operand} {v:Value} {cs:List Value} {A0:aA} (h:sF ops L g x y=some (.pointer (some ⟨b,o,none⟩),v)) (ht:(tK E.P t).map (·.2)=some n) (hk:(v.cells.toList.length==n&&v.cells.toList.all Value.oneCell'&&Nat.ble (o+n) cs.length)=true) (hcs:cs.take o++v.cells.toList++cs.drop (o+n)=cs') (k:RJ E ops Q rest D L (A0::cy b tt cs'::C)):RJ E ops Q (⟨none,.store t x y,ty,ps,af,g⟩::rest) D L (A0::cy b tt cs::C):=Ir 1 h ht rfl hk hcs rfl k
theorem DG {t n b tt:Nat} {x y:Operand} {cs cs':List Value} {A0 A1:aA} (h:sF ops L g x y=some (.pointer (some ⟨b,0,none⟩),.agg cs'.toArray)) (ht:(tK E.P t).map (·.2)=some n) (hk:(Nat.beq cs'.length n&&cs'.all Value.oneCell'&&Nat.beq n cs.length)=true) (k:RJ E ops Q rest D L (A0::A1::cy b tt cs'::C)):RJ E ops Q (⟨none,.store t x y,ty,ps,af,g⟩::rest) D L (A0::A1::cy b tt cs::C):=My 2 h ht rfl hk rfl k
theorem Tp (cs':List Value) {t n b o tt:Nat} {x y:Operand} {v:Value} {cs:List Value} {A0 A1:aA} (h:sF ops L g x y=some (.pointer (some ⟨b,o,none⟩),v)) (ht:(tK E.P t).map (·.2)=some n) (hk:(v.cells.toList.length==n&&v.cells.toList.all Value.oneCell'&&Nat.ble (o+n) cs.length)=true) (hcs:cs.take o++v.cells.toList++cs.drop (o+n)=cs') (k:RJ E ops Q rest D L (A0::A1::cy b tt cs'::C)):RJ E ops Q (⟨none,.store t x y,ty,ps,af,g⟩::rest) D L (A0::A1::cy b tt cs::C):=Ir 2 h ht rfl hk hcs rfl k
theorem O1 {t n b tt:Nat} {x y:Operand} {cs cs':List Value} {A0 A1 A2:aA} (h:sF ops L g x y=some (.pointer (some ⟨b,0,none⟩),.agg cs'.toArray)) (ht:(tK E.P t).map (·.2)=some n) (hk:(Nat.beq cs'.length n&&cs'.all Value.oneCell'&&Nat.beq n cs.length)=true) (k:RJ E ops Q rest D L (A0::A1::A2::cy b tt cs'::C)):RJ E ops Q (⟨none,.store t x y,ty,ps,af,g⟩::rest) D L (A0::A1::A2::cy b tt cs::C):=My 3 h ht rfl hk rfl k
theorem Ul {t n b tt:Nat} {x y:Operand} {v u:Value} {A0 A1 A2:aA} (h:sF ops L g x y=some (.pointer (some ⟨b,0,none⟩),v)) (ht:(tK E.P t).map (·.2)=some n) (hv:v.cells.toList=[v]) (hk:(Nat.beq n 1&&v.oneCell')=true) (k:RJ E ops Q rest D L (A0::A1::A2::cy b tt [v]::C)):RJ E ops Q (⟨none,.store t x y,ty,ps,af,g⟩::rest) D L (A0::A1::A2::cy b tt [u]::C):=RP 3 h ht rfl hv hk rfl k
theorem M_ (cs':List Value) {t n b o tt:Nat} {x y:Operand} {v:Value} {cs:List Value} {A0 A1 A2:aA} (h:sF ops L g x y=some (.pointer (some ⟨b,o,none⟩),v)) (ht:(tK E.P t).map (·.2)=some n) (hk:(v.cells.toList.length==n&&v.cells.toList.all Value.oneCell'&&Nat.ble (o+n) cs.length)=true) (hcs:cs.take o++v.cells.toList++cs.drop (o+n)=cs') (k:RJ E ops Q rest D L (A0::A1::A2::cy b tt cs'::C)):RJ E ops Q (⟨none,.store t x y,ty,ps,af,g⟩::rest) D L (A0::A1::A2::cy b tt cs::C):=Ir 3 h ht rfl hk hcs rfl k
theorem Pp {t n b tt:Nat} {x y:Operand} {cs cs':List Value} {A0 A1 A2 A3:aA} (h:sF ops L g x y=some (.pointer (some ⟨b,0,none⟩),.agg cs'.toArray)) (ht:(tK E.P t).map (·.2)=some n) (hk:(Nat.beq cs'.length n&&cs'.all Value.oneCell'&&Nat.beq n cs.length)=true) (k:RJ E ops Q rest D L (A0::A1::A2::A3::cy b tt cs'::C)):RJ E ops Q (⟨none,.store t x y,ty,ps,af,g⟩::rest) D L (A0::A1::A2::A3::cy b tt cs::C):=My 4 h ht rfl hk rfl k
theorem T3 {t n b tt:Nat} {x y:Operand} {v u:Value} {A0 A1 A2 A3:aA} (h:sF ops L g x y=some (.pointer (some ⟨b,0,none⟩),v)) (ht:(tK E.P t).map (·.2)=some n) (hv:v.cells.toList=[v]) (hk:(Nat.beq n 1&&v.oneCell')=true) (k:RJ E ops Q rest D L (A0::A1::A2::A3::cy b tt [v]::C)):RJ E ops Q (⟨none,.store t x y,ty,ps,af,g⟩::rest) D L (A0::A1::A2::A3::cy b tt [u]::C):=RP 4 h ht rfl hv hk rfl k
theorem I4 {t n b tt:Nat} {x y:Operand} {cs cs':List Value} {A0 A1 A2 A3 A4:aA} (h:sF ops L g x y=some (.pointer (some ⟨b,0,none⟩),.agg cs'.toArray)) (ht:(tK E.P t).map (·.2)=some n) (hk:(Nat.beq cs'.length n&&cs'.all Value.oneCell'&&Nat.beq n cs.length)=true) (k:RJ E ops Q rest D L (A0::A1::A2::A3::A4::cy b tt cs'::C)):RJ E ops Q (⟨none,.store t x y,ty,ps,af,g⟩::rest) D L (A0::A1::A2::A3::A4::cy b tt cs::C):=My 5 h ht rfl hk rfl k
theorem Ud (cs':List Value) {t n b o tt:Nat} {x y:Operand} {v:Value} {cs:List Value} {A0 A1 A2 A3 A4:aA} (h:sF ops L g x y=some (.pointer (some ⟨b,o,none⟩),v)) (ht:(tK E.P t).map (·.2)=some n) (hk:(v.cells.toList.length==n&&v.cells.toList.all Value.oneCell'&&Nat.ble (o+n) cs.length)=true) (hcs:cs.take o++v.cells.toList++cs.drop (o+n)=cs') (k:RJ E ops Q rest D L (A0::A1::A2::A3::A4::cy b tt cs'::C)):RJ E ops Q (⟨none,.store t x y,ty,ps,af,g⟩::rest) D L (A0::A1::A2::A3::A4::cy b tt cs::C):=Ir 5 h ht rfl hk hcs rfl k
theorem QJ {t n b tt:Nat} {x y:Operand} {cs cs':List Value} {A0 A1 A2 A3 A4 A5:aA} (h:sF ops L g x y=some (.pointer (some ⟨b,0,none⟩),.agg cs'.toArray)) (ht:(tK E.P t).map (·.2)=some n) (hk:(Nat.beq cs'.length n&&cs'.all Value.oneCell'&&Nat.beq n cs.length)=true) (k:RJ E ops Q rest D L (A0::A1::A2::A3::A4::A5::cy b tt cs'::C)):RJ E ops Q (⟨none,.store t x y,ty,ps,af,g⟩::rest) D L (A0::A1::A2::A3::A4::A5::cy b tt cs::C):=My 6 h ht rfl hk rfl k
theorem Uh {t n b tt:Nat} {x y:Operand} {v u:Value} {A0 A1 A2 A3 A4 A5:aA} (h:sF ops L g x y=some (.pointer (some ⟨b,0,none⟩),v)) (ht:(tK E.P t).map (·.2)=some n) (hv:v.cells.toList=[v]) (hk:(Nat.beq n 1&&v.oneCell')=true) (k:RJ E ops Q rest D L (A0::A1::A2::A3::A4::A5::cy b tt [v]::C)):RJ E ops Q (⟨none,.store t x y,ty,ps,af,g⟩::rest) D L (A0::A1::A2::A3::A4::A5::cy b tt [u]::C):=RP 6 h ht rfl hv hk rfl k
theorem Uc (cs':List Value) {t n b o tt:Nat} {x y:Operand} {v:Value} {cs:List Value} {A0 A1 A2 A3 A4 A5:aA} (h:sF ops L g x y=some (.pointer (some ⟨b,o,none⟩),v)) (ht:(tK E.P t).map (·.2)=some n) (hk:(v.cells.toList.length==n&&v.cells.toList.all Value.oneCell'&&Nat.ble (o+n) cs.length)=true) (hcs:cs.take o++v.cells.toList++cs.drop (o+n)=cs') (k:RJ E ops Q rest D L (A0::A1::A2::A3::A4::A5::cy b tt cs'::C)):RJ E ops Q (⟨none,.store t x y,ty,ps,af,g⟩::rest) D L (A0::A1::A2::A3::A4::A5::cy b tt cs::C):=Ir 6 h ht rfl hk hcs rfl k
theorem T1 (cs':List Value) {t n b o tt:Nat} {x y:Operand} {v:Value} {cs:List Value} {A0 A1 A2 A3 A4 A5 A6:aA} (h:sF ops L g x y=some (.pointer (some ⟨b,o,none⟩),v)) (ht:(tK E.P t).map (·.2)=some n) (hk:(v.cells.toList.length==n&&v.cells.toList.all Value.oneCell'&&Nat.ble (o+n) cs.length)=true) (hcs:cs.take o++v.cells.toList++cs.drop (o+n)=cs') (k:RJ E ops Q rest D L (A0::A1::A2::A3::A4::A5::A6::cy b tt cs'::C)):RJ E ops Q (⟨none,.store t x y,ty,ps,af,g⟩::rest) D L (A0::A1::A2::A3::A4::A5::A6::cy b tt cs::C):=Ir 7 h ht rfl hk hcs rfl k
theorem T2 (cs':List Value) {t n b o tt:Nat} {x y:Operand} {v:Value} {cs:List Value} {A0 A1 A2 A3 A4 A5 A6 A7:aA} (h:sF ops L g x y=some (.pointer (some ⟨b,o,none⟩),v)) (ht:(tK E.P t).map (·.2)=some n) (hk:(v.cells.toList.length==n&&v.cells.toList.all Value.oneCell'&&Nat.ble (o+n) cs.length)=true) (hcs:cs.take o++v.cells.toList++cs.drop (o+n)=cs') (k:RJ E ops Q rest D L (A0::A1::A2::A3::A4::A5::A6::A7::cy b tt cs'::C)):RJ E ops Q (⟨none,.store t x y,ty,ps,af,g⟩::rest) D L (A0::A1::A2::A3::A4::A5::A6::A7::cy b tt cs::C):=Ir 8 h ht rfl hk hcs rfl k
theorem Ua (cs':List Value) {t n b o tt:Nat} {x y:Operand} {v:Value} {cs:List Value} {A0 A1 A2 A3 A4 A5 A6 A7 A8:aA} (h:sF ops L g x y=some (.pointer (some ⟨b,o,none⟩),v)) (ht:(tK E.P t).map (·.2)=some n) (hk:(v.cells.toList.length==n&&v.cells.toList.all Value.oneCell'&&Nat.ble (o+n) cs.length)=true) (hcs:cs.take o++v.cells.toList++cs.drop (o+n)=cs') (k:RJ E ops Q rest D L (A0::A1::A2::A3::A4::A5::A6::A7::A8::cy b tt cs'::C)):RJ E ops Q (⟨none,.store t x y,ty,ps,af,g⟩::rest) D L (A0::A1::A2::A3::A4::A5::A6::A7::A8::cy b tt cs::C):=Ir 9 h ht rfl hk hcs rfl k
theorem S0 {t n b tt:Nat} {x y:Operand} {cs cs':List Value} {A0 A1 A2 A3 A4 A5 A6 A7 A8 A9:aA} (h:sF ops L g x y=some (.pointer (some ⟨b,0,none⟩),.agg cs'.toArray)) (ht:(tK E.P t).map (·.2)=some n) (hk:(Nat.beq cs'.length n&&cs'.all Value.oneCell'&&Nat.beq n cs.length)=true) (k:RJ E ops Q rest D L (A0::A1::A2::A3::A4::A5::A6::A7::A8::A9::cy b tt cs'::C)):RJ E ops Q (⟨none,.store t x y,ty,ps,af,g⟩::rest) D L (A0::A1::A2::A3::A4::A5::A6::A7::A8::A9::cy b tt cs::C):=My 10 h ht rfl hk rfl k
theorem Ph (cs':List Value) {t n b o tt:Nat} {x y:Operand} {v:Value} {cs:List Value} {A0 A1 A2 A3 A4 A5 A6 A7 A8 A9:aA} (h:sF ops L g x y=some (.pointer (some ⟨b,o,none⟩),v)) (ht:(tK E.P t).map (·.2)=some n) (hk:(v.cells.toList.length==n&&v.cells.toList.all Value.oneCell'&&Nat.ble (o+n) cs.length)=true) (hcs:cs.take o++v.cells.toList++cs.drop (o+n)=cs') (k:RJ E ops Q rest D L (A0::A1::A2::A3::A4::A5::A6::A7::A8::A9::cy b tt cs'::C)):RJ E ops Q (⟨none,.store t x y,ty,ps,af,g⟩::rest) D L (A0::A1::A2::A3::A4::A5::A6::A7::A8::A9::cy b tt cs::C):=Ir 10 h ht rfl hk hcs rfl k
theorem Qi (cs':List Value) {t n b o tt:Nat} {x y:Operand} {v:Value} {cs:List Value} {A0 A1 A2 A3 A4 A5 A6 A7 A8 A9 A10:aA} (h:sF ops L g x y=some (.pointer (some ⟨b,o,none⟩),v)) (ht:(tK E.P t).map (·.2)=some n) (hk:(v.cells.toList.length==n&&v.cells.toList.all Value.oneCell'&&Nat.ble (o+n) cs.length)=true) (hcs:cs.take o++v.cells.toList++cs.drop (o+n)=cs') (k:RJ E ops Q rest D L (A0::A1::A2::A3::A4::A5::A6::A7::A8::A9::A10::cy b tt cs'::C)):RJ E ops Q (⟨none,.store t x y,ty,ps,af,g⟩::rest) D L (A0::A1::A2::A3::A4::A5::A6::A7::A8::A9::A10::cy b tt cs::C):=Ir 11 h ht rfl hk hcs rfl k
end
section
variable {E:fI} {y:Code} {Q:dw} {D:List Deferred} {L:List (Nat×Value)} {C:List aA}
theorem WS {id:Nat} {ops:Array Oper} (h: ∀ K:Act→World→Prop,(∀ D L C,WJ E y Q D L C→KJ E K D L C)→RJ E ops (Exit.then K Q) ops.toList D L C):WJ E (.seq (.region id ops false) y) Q D L C:=ak fun K hK=>au (h K hK)
theorem RK {ops:Array Oper} {K:Act→World→Prop} {Q':dw} (hK: ∀ D L C,WJ E y Q D L C→KJ E K D L C) (k:WJ E y Q D L C):RJ E ops (Exit.then K Q') [] D L C:=aD (bj (hK _ _ _ k))
theorem KK {K:Act→World→Prop} {Q':dw} (hK: ∀ D L C,WJ E y Q D L C→KJ E K D L C) (k:WJ E y Q D L C):KJ E (Exit.then K Q' .normal) D L C:=bj (hK _ _ _ k)
theorem WK {K:Act→World→Prop} {Q':dw} (hK: ∀ D L C,WJ E y Q D L C→KJ E K D L C) (k:WJ E y Q D L C):WJ E .skip (Exit.then K Q') D L C:=cp (bj (hK _ _ _ k))
end
theorem DT {p:Prop} [Decidable p] (h:decide p=true):p:=of_decide_eq_true h
theorem DF {p:Prop} [Decidable p] (h:decide p=false): ¬ p:=of_decide_eq_false h
theorem XT {p:Prop} [Decidable p] (h:(!decide p)=true): ¬ p:=by simpa using h
theorem XF {p:Prop} [Decidable p] (h:(!decide p)=false):p:=by simpa using h
/-- what a function hands back: one result, two, three, that lie in slots -/
theorem Q1 {E:fI} {fn:Func} {K:Act→World→Prop} {L:dC} {C:List aA} {t:Nat} {u v:Value} (hQ: ∀ D L C,LJ E fn (Aw E.w0 v) D L C→KJ E K D L C) (hS:E.S=ui) (hr:fn.results.toList=[.tmp t]) (hl:L.lookup t=some u) (e:u=v):KJ E K [] L C:=
 hQ _ _ _ (ke (vs:=[u]) (by rw [hr]; exact ⟨hl,trivial⟩) fun w hs=>CK e (by rw [hS] at hs; exact hs))
theorem Q2 {E:fI} {fn:Func} {K:Act→World→Prop} {L:dC} {C:List aA} {t s:Nat} {u x v:Value} (hQ: ∀ D L C,LJ E fn (Aw E.w0 v) D L C→KJ E K D L C) (hS:E.S=ui) (hr:fn.results.toList=[.tmp t,.tmp s]) (hl:L.lookup t=some u) (hm:L.lookup s=some x) (e:vT [u,x]=v):KJ E K [] L C:=
 hQ _ _ _ (ke (vs:=[u,x]) (by rw [hr]; exact ⟨hl,hm,trivial⟩) fun w hs=>CK e (by rw [hS] at hs; exact hs))
theorem N1 {E:fI} {ops:Array Oper} {D:ir} {C' C1:List aA} {F:dC→List aA→Prop} {tb rem:List Nat} {n:Nat} {L:dC} {C:List aA} (i:Nat)
 (h:AP E ops D C' C1 F tb n (rem.filter (· != i)) i L C) (hm:rem.filter (fun i=>rem.all fun j=> !iX (ql ops) j i)=[i]:=by kernel_rfl):TN E ops D C' C1 F tb (n+1) rem L C:=mj [i] hm (ik h pg)
theorem NO {E:fI} {ops:Array Oper} {D:ir} {C' C1:List aA} {F:dC→List aA→Prop} {tb rem:List Nat} {n i:Nat} {L:dC} {C:List aA} {o:Oper} (ho:ops[i]? =some o) (ht:tb.contains i=false) (rem':List Nat)
 (h: ∀ K:Act→World→Prop,(∀ L' C'',(∀ w,St E.S E.w0 C'' w→St E.S E.w0 C' w)→TN E ops D C' C1 F tb n rem' L' C''→KJ E K D L' C'')→RJ E ops (NQ K) [o] D L C) (hr:rem=rem':=by kernel_rfl):AP E ops D C' C1 F tb n rem i L C:=Te ho hr ht h
theorem RD {E:fI} {ops:Array Oper} {K:Act→World→Prop} {D:ir} {L:dC} {C C':List aA} {X:dC→List aA→Prop} (hT: ∀ L' C'',(∀ w,St E.S E.w0 C'' w→St E.S E.w0 C' w)→X L' C''→KJ E K D L' C'')
 (k:Nat) (h2:C.drop k=C') (h:X L C):RJ E ops (NQ K) [] D L C:=aD (hT _ _ (fun w hs=>h2▸hs.take (List.drop_sublist k C)) h)
theorem bu {L L':dC} (h:L'.map (fun p=>L.lookup p.1)=L'.map (fun p=>some p.2)):dh L L':=by
 induction L' with
 |nil=>exact dh.nil _
 |cons p t ih=>
  simp only [List.map_cons,List.cons.injEq] at h
  exact dh.cons h.1 (ih h.2)
theorem OL {C:List aA} {A A' B B' D D':aA} (i j k:Nat) (h1:C[i]? =some A') (e1:A'.holds=A.holds) (h2:C[j]? =some B') (e2:B'.holds=B.holds) (h3:C[k]? =some D') (e3:D'.holds=D.holds):kH C [A,B,D]:=gu i h1 e1 (gu j h2 e2 (gu k h3 e3 aR))
theorem bO {E:fI} {c:Operand} {x y:Code} {b:Bool} {Q:dw} {D:List Deferred} {L:List (Nat×Value)} {C:List aA} (hc:ev L c=some (.bool b)) (h2:b=false→WJ E y Q D L C) (h1:b=true→WJ E x Q D L C):WJ E (.cond c x y) Q D L C:=cr hc h1 h2
theorem db {E:fI} {ops:Array Oper} {Q:dw} {rest:List Oper} {D:List Deferred} {L:List (Nat×Value)} {C:List aA} {t:Nat} {b:Bool} (h:L.lookup t=some (.bool b)) (h2:b=false→RJ E ops Q rest D ((t,.bool false)::L) C) (h1:b=true→RJ E ops Q rest D ((t,.bool true)::L) C):RJ E ops Q rest D L C:=bP h h1 h2
theorem g0 {E:fI} {ops:Array Oper} {Q:dw} {rest:List Oper} {D:List Deferred} {L:List (Nat×Value)} {C:List aA} {t:Nat} {b:Bool} {os:List Oper} (h:L.lookup t=some (.bool b)) (h2:b=false→DJ E ops D C (fun L2=>RJ E ops Q rest D L2 C) os ((t,.bool false)::L)) (h1:b=true→DJ E ops D C (fun L2=>RJ E ops Q rest D L2 C) os ((t,.bool true)::L)):DJ E ops D C (fun L2=>RJ E ops Q rest D L2 C) os L:=g9 h h1 h2
theorem cN {L:List (Nat×Value)}: ∀ (k:Nat) {L2:List (Nat×Value)} (q:dh L (L2.drop k)) (h:(L2.take k).map (fun p=>L.lookup p.1)=(L2.take k).map (fun p=>some p.2):=by rfl),dh L L2
 |0,_,q,_=>q
 |_+1,[],_,_=>dh.nil _
 |k+1,p::L2,q,h=>by
  obtain ⟨A,B⟩:=List.cons.inj (show L.lookup p.1::(L2.take k).map (fun p=>L.lookup p.1)=some p.2::(L2.take k).map (fun p=>some p.2) from h)
  exact dh.cons (t:=p.1) (v:=p.2) A (cN k q B)
theorem oX {E:fI} {ops:Array Oper} {Q:dw} {rest:List Oper} {D:List Deferred} {L:List (Nat×Value)} {C:List aA} {d:Nat} {ty:TypeId} {ps:String} {af:Array Edge} {g:Option (Nat×Bool)} {op:Op} (k:RJ E ops Q rest D ((d,undef)::L) C) (h:(Cb ops L g&&Nat.blt d E.n)=true:=by rfl):RJ E ops Q (⟨some d,op,ty,ps,af,g⟩::rest) D L C:=rS (OX h) k
theorem dX {E:fI} {ops:Array Oper} {F:List (Nat×Value)→Prop} {rest:List Oper} {D:List Deferred} {L:List (Nat×Value)} {C:List aA} {d:Nat} {ty:TypeId} {ps:String} {af:Array Edge} {g:Option (Nat×Bool)} {op:Op} (k:DJ E ops D C F rest ((d,undef)::L)) (h:(Cb ops L g&&Nat.blt d E.n)=true:=by rfl):DJ E ops D C F (⟨some d,op,ty,ps,af,g⟩::rest) L:=dS (OX h) k
end
section
open Go.RowKit
section
variable {E:fI} {ops:Array Oper} {Q:dw} {rest:List Oper} {D:List Deferred} {L:List (Nat×Value)} {C:List aA}
variable {d:Nat} {ty:TypeId} {ps:String} {af:Array Edge} {g:Option (Nat×Bool)}
theorem L7 {P:Program} {t e sz:Nat} (h:tE P t=some (e,sz)) (w:World):P.underlying t=some (.slice e)∧(sizeOf e).run P w= .ok sz w:=by
 unfold tE at h
 split at h
 ·rename_i e' hu
  split at h
  ·rename_i i hi
   cases h
   exact ⟨hu,by simp [sizeOf,typeInfo,hi]⟩
  ·cases h
 ·cases h
theorem D7 {P:Program} {t e:Nat} (h:P.underlying t=some (.slice e)):P.underlying t=some (.slice (P.elem t)):=by
 rw [h]; simp [Program.elem,h]
theorem Lp {P:Program} {t e:Nat} (h:P.underlying t=some (.slice e)):P.elem t=e:=by simp [Program.elem,h]
/-- s[:k] -/
theorem Uf (k:Nat) {x hi:Operand} {t e sz n c:Nat} {A:OA} {j:Int} (h:bF E.n ops L d g x hi=some (.slice A n c,.int .i64 j)) (ht:tE E.P t=some (e,sz)) (hj:j=(k:Int)) (hk:k≤c):
 SE E ops ⟨some d,.slice t x none (some hi) none,ty,ps,af,g⟩ D L C (.slice A k c) d:=by
 obtain ⟨H,AA,J,K⟩:=vb h
 subst hj
 refine ⟨eU H sm fun a w B hs=>?_,U,AA⟩
 obtain ⟨hu,hz⟩:=L7 ht w
 have hr:=run_slice_h (P:=E.P) w t A n c (D7 hu) .i64 (k:Int) I I
 rw [Lp hu,hz] at hr
 have G:(if c=0 then A else A.map (·.add (0*sz)))=A:=by
  split
  ·rfl
  ·cases A with
   |none=>rfl
   |some ad=>simp [Addr.add]
 simp only [Result.andThen,Int.toNat_natCast,sliced,G,Nat.sub_zero] at hr
 have F:=run_sliceAt_slice (P:=E.P) w t (.slice A n c) none (some (.int .i64 (k:Int))) none (D7 hu)
 simp [execOp,B.ev J,B.ev K,F,hr]
end
theorem J1 {w:World} {a:OA} {c e sz:Nat} {es:List (List Value)} (h:(own a c e sz es).holds w):es.length≤c:=by
 rcases h.2.2 with ⟨A,B⟩|⟨g,cap,cur,hv,_,_,C,_⟩
 ·omega
 ·injection hv with _ _ hc; omega
end
section
open Go.RowKit
/-- an array's length, its elements' type and their size -/
def aE (P:Program) (t:TypeId):Option (Nat×TypeId×Nat):=
 match P.underlying t with
 |some (.array n e)=>match P.info? e with
  |some i=>some (n,e,i.size)
  |none=>none
 |_=>none
theorem EP {P:Program} {t n e sz:Nat} (h:aE P t=some (n,e,sz)) (w:World):P.underlying t=some (.array n e)∧(sizeOf e).run P w= .ok sz w:=by
 unfold aE at h
 split at h
 ·rename_i n' e' hu
  split at h
  ·rename_i i hi
   cases h
   exact ⟨hu,by simp [sizeOf,typeInfo,hi]⟩
  ·cases h
 ·cases h
theorem vU {P:Program} {t n e sz:Nat} (h:aE P t=some (n,e,sz)) (a:Addr) (w:World):
 (Instr.sliceAt t (.pointer (some a)) none none none).run P w= .ok (.slice (some a) n n) w:=by
 obtain ⟨hu,hz⟩:=EP h w
 have A:a.add 0=a:=by simp [Addr.add]
 simp [Instr.sliceAt,underlying,hu,Instr.sureAddr,Instr.sliceBounds,hz,A]
theorem vM {P:Program} {t n e sz:Nat} (h:aE P t=some (n,e,sz)) (a:Addr) {k:Nat} (hk:k<n) (w:World):
 (Instr.indexAt t (.pointer (some a)) (.int .i64 (k:Int))).run P w= .ok (.pointer (some (a.add (k*sz)))) w:=by
 obtain ⟨hu,hz⟩:=EP h w
 have A: ¬ n≤k:=by omega
 simp [Instr.indexAt,underlying,hu,Instr.sureAddr,asIntOf,hz,A]
 try exact fun h=>absurd h A
 try omega
section
variable {E:fI} {ops:Array Oper} {Q:dw} {rest:List Oper} {D:List Deferred} {L:List (Nat×Value)} {C:List aA}
variable {dst:Option Nat} {ty:TypeId} {ps:String} {af:Array Edge} {g:Option (Nat×Bool)}
theorem C9 {x:Operand} {a:Addr} {t n e sz:Nat} (hg:ki ops L g=true) (hx:ev L x=some (.pointer (some a))) (ht:aE E.P t=some (n,e,sz)):
 SD E ops ⟨dst,.slice t x none none none,ty,ps,af,g⟩ D L C (.slice (some a) n n):=
 eU hg sm fun b w A hs=>by
  simp [execOp,A.ev hx,vU ht]
theorem Dr {x ix:Operand} {a:Addr} {t n e sz k:Nat} {j:Int} (hg:ki ops L g=true) (hx:ev L x=some (.pointer (some a))) (hi:ev L ix=some (.int .i64 j)) (ht:aE E.P t=some (n,e,sz)) (hj:j=(k:Int)) (hk:k<n):
 SD E ops ⟨dst,.indexAddr t x ix,ty,ps,af,g⟩ D L C (.pointer (qt (some a) (k*sz))):=
 eU hg sm fun b w A hs=>by
  subst hj
  simp [execOp,A.ev hx,A.ev hi,qt,vM ht a hk]
end
end
section
open Go.RowKit
/-- a table of facts on the program's types -/
structure Ch where
 tk:List (Nat×Bool×Nat)
 fo:List (Nat×List (Option Nat))
 sl:List Nat
def O4 {α:Type}:List (Nat×α)→Nat→Option α
 |[],_=>none
 |(k,v)::l,t=>match Nat.beq k t with
  |true=>some v
  |false=>O4 l t
theorem zr {α:Type}: ∀ {l:List (Nat×α)} {t:Nat} {v:α},O4 l t=some v→(t,v)∈l
 |[],t,v,h=>by simp [O4] at h
 |(k,u)::l,t,v,h=>by
  unfold O4 at h
  split at h
  ·rename_i hb
   cases h
   rw [Nat.eq_of_beq_eq_true hb]; exact ct
  ·exact dH _ (zr h)
def JK:List Nat→Nat→Bool
 |[],_=>false
 |k::l,t=>match Nat.beq k t with
  |true=>true
  |false=>JK l t
theorem Bc: ∀ {l:List Nat} {t:Nat},JK l t=true→t∈l
 |[],t,h=>by simp [JK] at h
 |k::l,t,h=>by
  unfold JK at h
  split at h
  ·rename_i hb
   rw [Nat.eq_of_beq_eq_true hb]; exact ct
  ·exact dH _ (Bc h)
def Ch.Jb (T:Ch) (t:Nat):Option (Bool×Nat):=O4 T.tk t
def Ch.foF (T:Ch) (s f:Nat):Option Nat:=match O4 T.fo s with
 |some l=>match l[f]? with
  |some (some k)=>some k
  |_=>none
 |none=>none
structure lI (P:Program) (T:Ch):Prop where
 tk: ∀ p∈T.tk,tK P p.1=some p.2
 fo: ∀ p∈T.fo,∀ f k,p.2[f]? =some (some k)→uu P p.1 f=some k
 sl: ∀ t∈T.sl,∃ e,P.underlying t=some (.slice e)
theorem lI.Jb {P:Program} {T:Ch} (h:lI P T) {t:Nat} {r:Bool×Nat} (e:T.Jb t=some r):tK P t=some r:=h.tk _ (zr e)
theorem lI.foF {P:Program} {T:Ch} (h:lI P T) {s f k:Nat} (e:T.foF s f=some k):uu P s f=some k:=by
 unfold Ch.foF at e
 split at e
 ·rename_i l hl
  split at e
  ·rename_i k' hk
   cases e
   exact h.fo _ (zr hl) f k hk
  ·cases e
 ·cases e
def RE (P:Program) (T:Ch):Bool:=(T.tk.all fun p=>decide (tK P p.1=some p.2))&&(T.fo.all fun p=>(List.range p.2.length).all fun f=>match p.2[f]? with
 |some (some k)=>decide (uu P p.1 f=some k)
 |_=>true)&&T.sl.all fun t=>match P.underlying t with
 |some (.slice _)=>true
 |_=>false
theorem OP {P:Program} {T:Ch} (h:RE P T=true):lI P T:=by
 unfold RE at h
 rw [di,di] at h
 obtain ⟨⟨B,C⟩,D⟩:=h
 refine ⟨fun p hp=>by simpa using cY.1 B p hp,fun p hp f k hk=>?_,fun t ht=>?_⟩
 ·have A:=cY.1 (cY.1 C p hp) f (List.mem_range.2 (aU.1 hk).1)
  rw [hk] at A
  simpa using A
 ·have A:=cY.1 D t ht
  split at A
  ·rename_i e he; exact ⟨e,he⟩
  ·cases A
end
section
theorem pP:tK Tryz.prog 3=some (false,1):=by kernel_rfl
theorem T_:tK Tryz.prog 4=some (false,1):=by kernel_rfl
theorem RN:tK Tryz.prog 5=some (false,1):=by kernel_rfl
theorem QW:tK Tryz.prog 24=some (true,1):=by kernel_rfl
theorem Ni:tK Tryz.prog 25=some (false,1):=by kernel_rfl
theorem SV:tK Tryz.prog 26=some (false,1):=by kernel_rfl
theorem Tz:tK Tryz.prog 28=some (true,7):=by kernel_rfl
theorem SL:tK Tryz.prog 29=some (false,1):=by kernel_rfl
theorem Su:tK Tryz.prog 30=some (false,1):=by kernel_rfl
theorem Th:tK Tryz.prog 32=some (true,11):=by kernel_rfl
theorem SJ:tK Tryz.prog 33=some (false,1):=by kernel_rfl
theorem SN:tK Tryz.prog 34=some (false,1):=by kernel_rfl
theorem RU:tK Tryz.prog 36=some (true,15):=by kernel_rfl
theorem Tn:tK Tryz.prog 44=some (false,1):=by kernel_rfl
theorem SF:tK Tryz.prog 59=some (false,1):=by kernel_rfl
theorem S3:tK Tryz.prog 61=some (true,3):=by kernel_rfl
theorem w8:tK Tryz.prog 65=some (true,2):=by kernel_rfl
theorem RW:tK Tryz.prog 67=some (true,7):=by kernel_rfl
theorem TG:tK Tryz.prog 68=some (false,1):=by kernel_rfl
theorem Tq:tK Tryz.prog 71=some (true,4):=by kernel_rfl
theorem Sw:tK Tryz.prog 73=some (true,5):=by kernel_rfl
theorem Re:tK Tryz.prog 111=some (true,15):=by kernel_rfl
theorem Pz:tK Tryz.prog 124=some (false,1):=by kernel_rfl
theorem IY:tK Tryz.prog 135=some (true,3):=by kernel_rfl
theorem Pe:tK Tryz.prog 139=some (true,2):=by kernel_rfl
theorem Pf:tK Tryz.prog 153=some (false,1):=by kernel_rfl
theorem QK:tK Tryz.prog 154=some (false,1):=by kernel_rfl
theorem Qc:tK Tryz.prog 155=some (false,1):=by kernel_rfl
theorem Rm:tK Tryz.prog 160=some (true,9):=by kernel_rfl
theorem O9:tK Tryz.prog 162=some (true,3):=by kernel_rfl
theorem Mc:tK Tryz.prog 163=some (false,1):=by kernel_rfl
theorem O5:tK Tryz.prog 165=some (true,2):=by kernel_rfl
theorem PQ:tK Tryz.prog 173=some (true,2):=by kernel_rfl
theorem O7:tK Tryz.prog 174=some (true,8):=by kernel_rfl
theorem Ps:tK Tryz.prog 177=some (true,4):=by kernel_rfl
theorem QB:tK Tryz.prog 180=some (true,4):=by kernel_rfl
theorem PE:tK Tryz.prog 224=some (true,1):=by kernel_rfl
theorem Pd:tK Tryz.prog 225=some (true,4):=by kernel_rfl
theorem P3:tK Tryz.prog 257=some (true,1):=by kernel_rfl
theorem PC:tK Tryz.prog 271=some (false,1):=by kernel_rfl
theorem Rr:tK Tryz.prog 276=some (false,1):=by kernel_rfl
theorem PS:tK Tryz.prog 278=some (true,2):=by kernel_rfl
theorem Q6:tK Tryz.prog 284=some (true,3):=by kernel_rfl
theorem Cl:(tK Tryz.prog 3).map (·.2)=some 1:=by rw [pP]; rfl
theorem Ue:(tK Tryz.prog 4).map (·.2)=some 1:=by rw [T_]; rfl
theorem Rv:(tK Tryz.prog 24).map (·.2)=some 1:=by rw [QW]; rfl
theorem SW:(tK Tryz.prog 25).map (·.2)=some 1:=by rw [Ni]; rfl
theorem Tu:(tK Tryz.prog 26).map (·.2)=some 1:=by rw [SV]; rfl
theorem GN:(tK Tryz.prog 28).map (·.2)=some 7:=by rw [Tz]; rfl
theorem F3:(tK Tryz.prog 29).map (·.2)=some 1:=by rw [SL]; rfl
theorem TA:(tK Tryz.prog 30).map (·.2)=some 1:=by rw [Su]; rfl
theorem PR:(tK Tryz.prog 32).map (·.2)=some 11:=by rw [Th]; rfl
theorem Sg:(tK Tryz.prog 33).map (·.2)=some 1:=by rw [SJ]; rfl
theorem SU:(tK Tryz.prog 34).map (·.2)=some 1:=by rw [SN]; rfl
theorem QD:(tK Tryz.prog 36).map (·.2)=some 15:=by rw [RU]; rfl
theorem Sx:(tK Tryz.prog 44).map (·.2)=some 1:=by rw [Tn]; rfl
theorem Tc:(tK Tryz.prog 59).map (·.2)=some 1:=by rw [SF]; rfl
theorem QU:(tK Tryz.prog 61).map (·.2)=some 3:=by rw [S3]; rfl
theorem cT:(tK Tryz.prog 65).map (·.2)=some 2:=by rw [w8]; rfl
theorem IN:(tK Tryz.prog 67).map (·.2)=some 7:=by rw [RW]; rfl
theorem Sm:(tK Tryz.prog 68).map (·.2)=some 1:=by rw [TG]; rfl
theorem Qn:(tK Tryz.prog 71).map (·.2)=some 4:=by rw [Tq]; rfl
theorem Nf:(tK Tryz.prog 73).map (·.2)=some 5:=by rw [Sw]; rfl
theorem DZ:(tK Tryz.prog 111).map (·.2)=some 15:=by rw [Re]; rfl
theorem Qq:(tK Tryz.prog 124).map (·.2)=some 1:=by rw [Pz]; rfl
theorem MG:(tK Tryz.prog 135).map (·.2)=some 3:=by rw [IY]; rfl
theorem oZ:(tK Tryz.prog 139).map (·.2)=some 2:=by rw [Pe]; rfl
theorem QZ:(tK Tryz.prog 153).map (·.2)=some 1:=by rw [Pf]; rfl
theorem Qz:(tK Tryz.prog 154).map (·.2)=some 1:=by rw [QK]; rfl
theorem EY:(tK Tryz.prog 155).map (·.2)=some 1:=by rw [Qc]; rfl
theorem Hm:(tK Tryz.prog 160).map (·.2)=some 9:=by rw [Rm]; rfl
theorem ug:(tK Tryz.prog 162).map (·.2)=some 3:=by rw [O9]; rfl
theorem Qe:(tK Tryz.prog 163).map (·.2)=some 1:=by rw [Mc]; rfl
theorem yx:(tK Tryz.prog 165).map (·.2)=some 2:=by rw [O5]; rfl
theorem HS:(tK Tryz.prog 173).map (·.2)=some 2:=by rw [PQ]; rfl
theorem P2:(tK Tryz.prog 174).map (·.2)=some 8:=by rw [O7]; rfl
theorem mE:(tK Tryz.prog 177).map (·.2)=some 4:=by rw [Ps]; rfl
theorem qa:(tK Tryz.prog 180).map (·.2)=some 4:=by rw [QB]; rfl
theorem DX:(tK Tryz.prog 224).map (·.2)=some 1:=by rw [PE]; rfl
theorem PT:(tK Tryz.prog 225).map (·.2)=some 4:=by rw [Pd]; rfl
theorem HL:(tK Tryz.prog 257).map (·.2)=some 1:=by rw [P3]; rfl
theorem yr:(tK Tryz.prog 271).map (·.2)=some 1:=by rw [PC]; rfl
theorem I_:(tK Tryz.prog 276).map (·.2)=some 1:=by rw [Rr]; rfl
theorem rZ:(tK Tryz.prog 278).map (·.2)=some 2:=by rw [PS]; rfl
theorem Pj:(tK Tryz.prog 284).map (·.2)=some 3:=by rw [Q6]; rfl
theorem yR:aE Tryz.prog 234=some (3,233,2):=by kernel_rfl
theorem Hc:uu Tryz.prog 28 2=some 2:=by kernel_rfl
theorem D0:uu Tryz.prog 165 1=some 1:=by kernel_rfl
theorem SO:rQ Tryz.prog 85=true:=by kernel_rfl
theorem kU (l:List ai): ∀ v∈(l.map ai.cells).flatten,v.oneCell'=true:=kN (fun _=>rfl) l
theorem uA (l:List aX): ∀ v∈(l.map aX.cells).flatten,v.oneCell'=true:=kN (fun _=>rfl) l
theorem sQ (l:List bI): ∀ v∈(l.map bI.cells).flatten,v.oneCell'=true:=kN (fun _=>rfl) l
theorem vR (l:List bL): ∀ v∈(l.map bL.cells).flatten,v.oneCell'=true:=kN (fun _=>rfl) l
theorem tH (l:List aH): ∀ v∈(l.map aH.cells).flatten,v.oneCell'=true:=kN (fun _=>rfl) l
theorem sO (l:List aq): ∀ v∈(l.map aq.cells).flatten,v.oneCell'=true:=kN (fun _=>rfl) l
theorem vL (l:List cK): ∀ v∈(l.map cK.cells).flatten,v.oneCell'=true:=kN (fun _=>rfl) l
theorem Tm:tA Tryz.prog 22=some (160,9,72,(Value.agg [(vI 0),(vI 0),(vI 0),(vI 0),(vI 0),(vI 0),(vI 0),(Value.int .u8 0),(vI 0)].toArray)):=by kernel_rfl
theorem TD:tA Tryz.prog 25=some (165,2,32,(Value.agg [(vI 0),(vS none 0 0)].toArray)):=by kernel_rfl
theorem Ty:tA Tryz.prog 26=some (137,4,32,(Value.agg [(vI 0),(vI 0),(vI 0),(vI 0)].toArray)):=by kernel_rfl
theorem qz:tA Tryz.prog 29=some (3,1,8,(vI 0)):=by kernel_rfl
theorem TE:tA Tryz.prog 30=some (68,1,24,(vS none 0 0)):=by kernel_rfl
theorem Sa:tA Tryz.prog 33=some (71,4,32,(Value.agg [(Value.int .u8 0),(vI 0),(vI 0),(vI 0)].toArray)):=by kernel_rfl
theorem So:tA Tryz.prog 34=some (73,5,40,(Value.agg [(vI 0),(vI 0),(vI 0),(vI 0),(vI 0)].toArray)):=by kernel_rfl
theorem Qv:tA Tryz.prog 44=some (29,1,24,(vS none 0 0)):=by kernel_rfl
theorem RZ:tA Tryz.prog 59=some (139,2,16,(Value.agg [(vI 0),(vI 0)].toArray)):=by kernel_rfl
theorem SM:tA Tryz.prog 68=some (67,7,64,(Value.agg [(vB false),(vB false),(vI 0),(vI 0),(vI 0),(vI 0),(vS none 0 0)].toArray)):=by kernel_rfl
theorem Mu:tA Tryz.prog 124=some (4,1,1,(vB false)):=by kernel_rfl
theorem EA:tA Tryz.prog 153=some (65,2,16,(Value.agg [(vI 0),(vI 0)].toArray)):=by kernel_rfl
theorem Ma:tA Tryz.prog 154=some (153,1,24,(vS none 0 0)):=by kernel_rfl
theorem P9:tA Tryz.prog 163=some (162,3,24,(Value.agg [(vI 0),(vI 0),(vI 0)].toArray)):=by kernel_rfl
theorem Mh:tA Tryz.prog 245=some (249,3,72,(Value.agg [(vS none 0 0),(vS none 0 0),(vS none 0 0)].toArray)):=by kernel_rfl
theorem MJ:tA Tryz.prog 270=some (155,1,8,(Value.map none)):=by kernel_rfl
theorem AJ:tA Tryz.prog 271=some (276,1,8,(Value.map none)):=by kernel_rfl
theorem S8:tB Tryz.prog 24=some ([(vS none 0 0)],[(0,1)]):=by kernel_rfl
theorem gU:tB Tryz.prog 65=some ([(vI 0),(vI 0)],[(0,1),(1,1)]):=by kernel_rfl
theorem P5:tB Tryz.prog 111=some ([(vS none 0 0),(vI 0),(vS none 0 0),(vS none 0 0),(vI 0),(vI 0),(vI 0),(vS none 0 0),(vS none 0 0),(vI 0),(vS none 0 0),(vS none 0 0),(vS none 0 0),(vI 0),(vI 0)],[(0,15)]):=by kernel_rfl
theorem Mo:tB Tryz.prog 139=some ([(vI 0),(vI 0)],[(0,1),(1,1)]):=by kernel_rfl
theorem QH:tB Tryz.prog 157=some ([(vS none 0 0),(vI 0),(vS none 0 0),(vS none 0 0),(vI 0),(vI 0),(vI 0),(vS none 0 0),(vS none 0 0),(vI 0),(vS none 0 0),(vS none 0 0),(Value.map none)],[(0,11),(11,1),(12,1)]):=by kernel_rfl
theorem HI:tB Tryz.prog 173=some ([Value.nilFunc,Value.nilFunc],[(0,1),(1,1)]):=by kernel_rfl
theorem Rt:tB Tryz.prog 174=some ([Value.nilFunc,Value.nilFunc,Value.nilFunc,Value.nilFunc,Value.nilFunc,Value.nilFunc,Value.nilFunc,Value.nilFunc],[(0,2),(2,2),(4,2),(6,2)]):=by kernel_rfl
theorem ES:tB Tryz.prog 177=some ([(vI 0),(vI 0),(vB false),(vB false)],[(0,2),(2,1),(3,1)]):=by kernel_rfl
theorem GP:tB Tryz.prog 180=some ([(vB false),(vB false),(vI 0),(vI 0)],[(0,1),(1,1),(2,1),(3,1)]):=by kernel_rfl
theorem Ej:tB Tryz.prog 224=some ([Value.nilFunc],[(0,1)]):=by kernel_rfl
theorem Pm:tB Tryz.prog 225=some ([Value.nilFunc,Value.nilFunc,Value.nilFunc,Value.nilFunc],[(0,1),(1,1),(2,1),(3,1)]):=by kernel_rfl
theorem Qa:tB Tryz.prog 249=some ([(vS none 0 0),(vS none 0 0),(vS none 0 0)],[(0,1),(1,1),(2,1)]):=by kernel_rfl
theorem QY:tB Tryz.prog 257=some ([(vS none 0 0)],[(0,1)]):=by kernel_rfl
theorem MP:tB Tryz.prog 273=some ([(vS none 0 0),(vI 0),(vS none 0 0),(vS none 0 0),(vI 0),(vI 0),(vI 0),(vI 0),(vI 0),(vS none 0 0),(vS none 0 0),(vS none 0 0),(vS none 0 0),(vS none 0 0)],[(0,7),(7,3),(10,1),(11,1),(12,1),(13,1)]):=by kernel_rfl
theorem BW:tB Tryz.prog 278=some ([(vI 0),(vI 0)],[(0,1),(1,1)]):=by kernel_rfl
theorem wF:tE Tryz.prog 22=some (160,9):=by kernel_rfl
theorem yk:tE Tryz.prog 25=some (165,2):=by kernel_rfl
theorem uG:tE Tryz.prog 26=some (137,4):=by kernel_rfl
theorem dJ:tE Tryz.prog 29=some (3,1):=by kernel_rfl
theorem lZ:tE Tryz.prog 30=some (68,1):=by kernel_rfl
theorem xB:tE Tryz.prog 33=some (71,4):=by kernel_rfl
theorem BJ:tE Tryz.prog 34=some (73,5):=by kernel_rfl
theorem KF:tE Tryz.prog 44=some (29,1):=by kernel_rfl
theorem xp:tE Tryz.prog 59=some (139,2):=by kernel_rfl
theorem qk:tE Tryz.prog 68=some (67,7):=by kernel_rfl
theorem Et:tE Tryz.prog 124=some (4,1):=by kernel_rfl
theorem lq:tE Tryz.prog 153=some (65,2):=by kernel_rfl
theorem GG:tE Tryz.prog 154=some (153,1):=by kernel_rfl
theorem od:tE Tryz.prog 163=some (162,3):=by kernel_rfl
theorem IH:tE Tryz.prog 231=some (233,2):=by kernel_rfl
theorem Ak:tE Tryz.prog 245=some (249,3):=by kernel_rfl
theorem Mk:tE Tryz.prog 269=some (240,1):=by kernel_rfl
theorem xX:tE Tryz.prog 270=some (155,1):=by kernel_rfl
theorem ou:tE Tryz.prog 271=some (276,1):=by kernel_rfl
theorem Jz:tE Tryz.prog 292=some (135,3):=by kernel_rfl
theorem I8:(match Tryz.prog.underlying 65 with |some (.struct fs)=>(fs[0]?).map (fun fl=>tK Tryz.prog fl.type)|_=>none)=some (some (false,1)):=by kernel_rfl
theorem H9:(match Tryz.prog.underlying 65 with |some (.struct fs)=>(fs[1]?).map (fun fl=>tK Tryz.prog fl.type)|_=>none)=some (some (false,1)):=by kernel_rfl
theorem TX:tV Tryz.prog 3=some (vI 0):=by kernel_rfl
theorem TW:tV Tryz.prog 4=some (vB false):=by kernel_rfl
theorem TC:tV Tryz.prog 65=some (Value.agg [(vI 0),(vI 0)].toArray):=by kernel_rfl
theorem Ha:tX Tryz.prog 174=some (4,173):=by kernel_rfl
theorem D8:tX Tryz.prog 225=some (4,224):=by kernel_rfl
theorem kJ:tZ Tryz.prog 3=some [(vI 0)]:=by kernel_rfl
theorem Um:tZ Tryz.prog 4=some [(vB false)]:=by kernel_rfl
theorem Tb:tZ Tryz.prog 24=some [(vS none 0 0)]:=by kernel_rfl
theorem KD:tZ Tryz.prog 28=some [(vS none 0 0),(vI 0),(vS none 0 0),(vS none 0 0),(vI 0),(vI 0),(vI 0)]:=by kernel_rfl
theorem Rp:tZ Tryz.prog 29=some [(vS none 0 0)]:=by kernel_rfl
theorem Sb:tZ Tryz.prog 32=some [(vS none 0 0),(vI 0),(vS none 0 0),(vS none 0 0),(vI 0),(vI 0),(vI 0),(vS none 0 0),(vS none 0 0),(vI 0),(vS none 0 0)]:=by kernel_rfl
theorem Qw:tZ Tryz.prog 36=some [(vS none 0 0),(vI 0),(vS none 0 0),(vS none 0 0),(vI 0),(vI 0),(vI 0),(vS none 0 0),(vS none 0 0),(vI 0),(vS none 0 0),(vS none 0 0),(vS none 0 0),(vI 0),(vI 0)]:=by kernel_rfl
theorem SG:tZ Tryz.prog 61=some [(vI 0),(vI 0),(vS none 0 0)]:=by kernel_rfl
theorem dV:tZ Tryz.prog 65=some [(vI 0),(vI 0)]:=by kernel_rfl
theorem I3:tZ Tryz.prog 67=some [(vB false),(vB false),(vI 0),(vI 0),(vI 0),(vI 0),(vS none 0 0)]:=by kernel_rfl
theorem RB:tZ Tryz.prog 71=some [(Value.int .u8 0),(vI 0),(vI 0),(vI 0)]:=by kernel_rfl
theorem Np:tZ Tryz.prog 73=some [(vI 0),(vI 0),(vI 0),(vI 0),(vI 0)]:=by kernel_rfl
theorem D_:tZ Tryz.prog 111=some [(vS none 0 0),(vI 0),(vS none 0 0),(vS none 0 0),(vI 0),(vI 0),(vI 0),(vS none 0 0),(vS none 0 0),(vI 0),(vS none 0 0),(vS none 0 0),(vS none 0 0),(vI 0),(vI 0)]:=by kernel_rfl
theorem Ex:tZ Tryz.prog 135=some [(vI 0),(vI 0),(vI 0)]:=by kernel_rfl
theorem Bo:tZ Tryz.prog 139=some [(vI 0),(vI 0)]:=by kernel_rfl
theorem Mn:tZ Tryz.prog 153=some [(vS none 0 0)]:=by kernel_rfl
theorem Qp:tZ Tryz.prog 155=some [(Value.map none)]:=by kernel_rfl
theorem IW:tZ Tryz.prog 160=some [(vI 0),(vI 0),(vI 0),(vI 0),(vI 0),(vI 0),(vI 0),(Value.int .u8 0),(vI 0)]:=by kernel_rfl
theorem t_:tZ Tryz.prog 162=some [(vI 0),(vI 0),(vI 0)]:=by kernel_rfl
theorem zd:tZ Tryz.prog 165=some [(vI 0),(vS none 0 0)]:=by kernel_rfl
theorem GK:tZ Tryz.prog 173=some [Value.nilFunc,Value.nilFunc]:=by kernel_rfl
theorem PM:tZ Tryz.prog 174=some [Value.nilFunc,Value.nilFunc,Value.nilFunc,Value.nilFunc,Value.nilFunc,Value.nilFunc,Value.nilFunc,Value.nilFunc]:=by kernel_rfl
theorem og:tZ Tryz.prog 177=some [(vI 0),(vI 0),(vB false),(vB false)]:=by kernel_rfl
theorem tj:tZ Tryz.prog 180=some [(vB false),(vB false),(vI 0),(vI 0)]:=by kernel_rfl
theorem Er:tZ Tryz.prog 224=some [Value.nilFunc]:=by kernel_rfl
theorem Qb:tZ Tryz.prog 225=some [Value.nilFunc,Value.nilFunc,Value.nilFunc,Value.nilFunc]:=by kernel_rfl
theorem Qy:tZ Tryz.prog 240=some [Value.nilFunc]:=by kernel_rfl
theorem Rc:tZ Tryz.prog 249=some [(vS none 0 0),(vS none 0 0),(vS none 0 0)]:=by kernel_rfl
theorem I7:tZ Tryz.prog 257=some [(vS none 0 0)]:=by kernel_rfl
theorem tv:tZ Tryz.prog 278=some [(vI 0),(vI 0)]:=by kernel_rfl
theorem MS:tZ Tryz.prog 284=some [(vS none 0 0),(vS none 0 0),(vS none 0 0)]:=by kernel_rfl
theorem nX:Tryz.prog.underlying 3=some (.int .i64):=by kernel_rfl
theorem RL:Tryz.prog.underlying 4=some .bool:=by kernel_rfl
theorem MB:Tryz.prog.underlying 5=some (.int .u8):=by kernel_rfl
theorem Un:Tryz.prog.underlying 9=some .string:=by kernel_rfl
theorem PL:Tryz.prog.underlying 22=some (.slice 160):=by kernel_rfl
theorem S5:Tryz.prog.underlying 25=some (.slice 165):=by kernel_rfl
theorem Od:Tryz.prog.underlying 26=some (.slice 137):=by kernel_rfl
theorem SS:Tryz.prog.underlying 29=some (.slice 3):=by kernel_rfl
theorem TL:Tryz.prog.underlying 30=some (.slice 68):=by kernel_rfl
theorem Sj:Tryz.prog.underlying 33=some (.slice 71):=by kernel_rfl
theorem TO:Tryz.prog.underlying 34=some (.slice 73):=by kernel_rfl
theorem S9:Tryz.prog.underlying 59=some (.slice 139):=by kernel_rfl
theorem Sk:Tryz.prog.underlying 68=some (.slice 67):=by kernel_rfl
theorem AT:Tryz.prog.underlying 123=some (.map 3 4):=by kernel_rfl
theorem rX:Tryz.prog.underlying 155=some (.map 3 65):=by kernel_rfl
theorem Qs:Tryz.prog.underlying 163=some (.slice 162):=by kernel_rfl
theorem QN:Tryz.prog.underlying 268=some (.int .u64):=by kernel_rfl
theorem o7:Tryz.prog.underlying 276=some (.map 278 3):=by kernel_rfl
theorem QA:Tryz.prog.underlying 309=some (.int .u64):=by kernel_rfl
theorem Oo:fL Tryz.prog 65=some [(3,0),(3,1)]:=by kernel_rfl
theorem wN (d:Nat) (s z:ai) (w:World):(Op.equalIn (d+2) 65 (.agg s.cells.toArray) (.agg z.cells.toArray)).run Tryz.prog w= .ok (decide (s=z)) w:=by
 have hc:(decide (s.Lo=z.Lo)&&(decide (s.Hi=z.Hi)&&true))=decide (s=z):=by rw [Bool.eq_iff_iff]; simp [ai.ext_iff]
 rw [← hc]
 exact jF (d+1) Oo w (eL w (cV pP U w) (cV pP U w) (hO _ nX w) (eL w (cV pP U w) (cV pP U w) (hO _ nX w) (mY w)))
theorem vl (x y:Operand) (s z:ai):gP Tryz.prog .eql 65 x y (.agg s.cells.toArray) (.agg z.cells.toArray) (.bool (decide (s=z))):=yA x y (lz Oo) fun w=>wN 9998 s z w
theorem Pn (x y:Operand) (s z:ai):gP Tryz.prog .neq 65 x y (.agg s.cells.toArray) (.agg z.cells.toArray) (.bool (!decide (s=z))):=mm x y (lz Oo) fun w=>wN 9998 s z w
theorem Rw:fL Tryz.prog 135=some [(3,0),(65,1)]:=by kernel_rfl
theorem NZ (d:Nat) (s z:c_) (w:World):(Op.equalIn (d+3) 135 (.agg s.cells.toArray) (.agg z.cells.toArray)).run Tryz.prog w= .ok (decide (s=z)) w:=by
 have hc:(decide (s.bw=z.bw)&&(decide (s.lP=z.lP)&&true))=decide (s=z):=by rw [Bool.eq_iff_iff]; simp [c_.ext_iff]
 rw [← hc]
 exact jF (d+2) Rw w (eL w (cV pP U w) (cV pP U w) (hO _ nX w) (eL w (jd (vs:=ai.cells s.lP) w8 U w) (jd (vs:=ai.cells z.lP) w8 U w) (wN (d+0) s.lP z.lP w) (mY w)))
theorem MU:fL Tryz.prog 137=some [(135,0),(3,3)]:=by kernel_rfl
theorem N8 (d:Nat) (s z:bL) (w:World):(Op.equalIn (d+4) 137 (.agg s.cells.toArray) (.agg z.cells.toArray)).run Tryz.prog w= .ok (decide (s=z)) w:=by
 have hc:(decide (s.k8=z.k8)&&(decide (s.jO=z.jO)&&true))=decide (s=z):=by rw [Bool.eq_iff_iff]; simp [bL.ext_iff]
 rw [← hc]
 exact jF (d+3) MU w (eL w (jd (vs:=c_.cells s.k8) IY U w) (jd (vs:=c_.cells z.k8) IY U w) (NZ (d+0) s.k8 z.k8 w) (eL w (cV pP U w) (cV pP U w) (hO _ nX w) (mY w)))
theorem Oh (x y:Operand) (s z:bL):gP Tryz.prog .neq 137 x y (.agg s.cells.toArray) (.agg z.cells.toArray) (.bool (!decide (s=z))):=mm x y (lz MU) fun w=>N8 9996 s z w
theorem MW:fL Tryz.prog 139=some [(3,0),(3,1)]:=by kernel_rfl
theorem Nh (d:Nat) (s z:aH) (w:World):(Op.equalIn (d+2) 139 (.agg s.cells.toArray) (.agg z.cells.toArray)).run Tryz.prog w= .ok (decide (s=z)) w:=by
 have hc:(decide (s.fz=z.fz)&&(decide (s.Read=z.Read)&&true))=decide (s=z):=by rw [Bool.eq_iff_iff]; simp [aH.ext_iff]
 rw [← hc]
 exact jF (d+1) MW w (eL w (cV pP U w) (cV pP U w) (hO _ nX w) (eL w (cV pP U w) (cV pP U w) (hO _ nX w) (mY w)))
theorem NV (x y:Operand) (s z:aH):gP Tryz.prog .neq 139 x y (.agg s.cells.toArray) (.agg z.cells.toArray) (.bool (!decide (s=z))):=mm x y (lz MW) fun w=>Nh 9998 s z w
theorem Mm:fL Tryz.prog 160=some [(3,0),(65,1),(65,3),(65,5),(5,7),(3,8)]:=by kernel_rfl
theorem No (d:Nat) (s z:aq) (w:World):(Op.equalIn (d+3) 160 (.agg s.cells.toArray) (.agg z.cells.toArray)).run Tryz.prog w= .ok (decide (s=z)) w:=by
 have hc:(decide (s.Id=z.Id)&&(decide (s.jP=z.jP)&&(decide (s.kI=z.kI)&&(decide (s.dY=z.dY)&&(decide (s.iW=z.iW)&&(decide (s.xZ=z.xZ)&&true))))))=decide (s=z):=by rw [Bool.eq_iff_iff]; simp [aq.ext_iff]
 rw [← hc]
 exact jF (d+2) Mm w (eL w (cV pP U w) (cV pP U w) (hO _ nX w) (eL w (jd (vs:=ai.cells s.jP) w8 U w) (jd (vs:=ai.cells z.jP) w8 U w) (wN (d+0) s.jP z.jP w) (eL w (jd (vs:=ai.cells s.kI) w8 U w) (jd (vs:=ai.cells z.kI) w8 U w) (wN (d+0) s.kI z.kI w) (eL w (jd (vs:=ai.cells s.dY) w8 U w) (jd (vs:=ai.cells z.dY) w8 U w) (wN (d+0) s.dY z.dY w) (eL w (cV RN U w) (cV RN U w) (hO _ MB w) (eL w (cV pP U w) (cV pP U w) (hO _ nX w) (mY w)))))))
theorem Oi (x y:Operand) (s z:aq):gP Tryz.prog .neq 160 x y (.agg s.cells.toArray) (.agg z.cells.toArray) (.bool (!decide (s=z))):=mm x y (lz Mm) fun w=>No 9997 s z w
theorem Me:fL Tryz.prog 162=some [(3,0),(65,1)]:=by kernel_rfl
theorem OK (d:Nat) (s z:cK) (w:World):(Op.equalIn (d+3) 162 (.agg s.cells.toArray) (.agg z.cells.toArray)).run Tryz.prog w= .ok (decide (s=z)) w:=by
 have hc:(decide (s.At=z.At)&&(decide (s.dW=z.dW)&&true))=decide (s=z):=by rw [Bool.eq_iff_iff]; simp [cK.ext_iff]
 rw [← hc]
 exact jF (d+2) Me w (eL w (cV pP U w) (cV pP U w) (hO _ nX w) (eL w (jd (vs:=ai.cells s.dW) w8 U w) (jd (vs:=ai.cells z.dW) w8 U w) (wN (d+0) s.dW z.dW w) (mY w)))
theorem Jn (x y:Operand) (s z:cK):gP Tryz.prog .neq 162 x y (.agg s.cells.toArray) (.agg z.cells.toArray) (.bool (!decide (s=z))):=mm x y (lz Me) fun w=>OK 9997 s z w
theorem Mj:fL Tryz.prog 278=some [(3,0),(3,1)]:=by kernel_rfl
theorem N_ (d:Nat) (s z:aJ) (w:World):(Op.equalIn (d+2) 278 (.agg s.cells.toArray) (.agg z.cells.toArray)).run Tryz.prog w= .ok (decide (s=z)) w:=by
 have hc:(decide (s.right=z.right)&&(decide (s.eW=z.eW)&&true))=decide (s=z):=by rw [Bool.eq_iff_iff]; simp [aJ.ext_iff]
 rw [← hc]
 exact jF (d+1) Mj w (eL w (cV pP U w) (cV pP U w) (hO _ nX w) (eL w (cV pP U w) (cV pP U w) (hO _ nX w) (mY w)))
theorem ON:fL Tryz.prog 71=some [(5,0),(3,1),(3,2),(3,3)]:=by kernel_rfl
theorem MK (d:Nat) (s z:aX) (w:World):(Op.equalIn (d+2) 71 (.agg s.cells.toArray) (.agg z.cells.toArray)).run Tryz.prog w= .ok (decide (s=z)) w:=by
 have hc:(decide (s.Kind=z.Kind)&&(decide (s.gW=z.gW)&&(decide (s.lX=z.lX)&&(decide (s.To=z.To)&&true))))=decide (s=z):=by rw [Bool.eq_iff_iff]; simp [aX.ext_iff]
 rw [← hc]
 exact jF (d+1) ON w (eL w (cV RN U w) (cV RN U w) (hO _ MB w) (eL w (cV pP U w) (cV pP U w) (hO _ nX w) (eL w (cV pP U w) (cV pP U w) (hO _ nX w) (eL w (cV pP U w) (cV pP U w) (hO _ nX w) (mY w)))))
theorem PB (x y:Operand) (s z:aX):gP Tryz.prog .eql 71 x y (.agg s.cells.toArray) (.agg z.cells.toArray) (.bool (decide (s=z))):=yA x y (lz ON) fun w=>MK 9998 s z w
theorem O_ (x y:Operand) (s z:aX):gP Tryz.prog .neq 71 x y (.agg s.cells.toArray) (.agg z.cells.toArray) (.bool (!decide (s=z))):=mm x y (lz ON) fun w=>MK 9998 s z w
theorem Q5:fL Tryz.prog 73=some [(3,0),(3,1),(3,2),(3,3),(3,4)]:=by kernel_rfl
theorem O8 (d:Nat) (s z:bI) (w:World):(Op.equalIn (d+2) 73 (.agg s.cells.toArray) (.agg z.cells.toArray)).run Tryz.prog w= .ok (decide (s=z)) w:=by
 have hc:(decide (s.Id=z.Id)&&(decide (s.iR=z.iR)&&(decide (s.iY=z.iY)&&(decide (s.pd=z.pd)&&(decide (s.At=z.At)&&true)))))=decide (s=z):=by rw [Bool.eq_iff_iff]; simp [bI.ext_iff]
 rw [← hc]
 exact jF (d+1) Q5 w (eL w (cV pP U w) (cV pP U w) (hO _ nX w) (eL w (cV pP U w) (cV pP U w) (hO _ nX w) (eL w (cV pP U w) (cV pP U w) (hO _ nX w) (eL w (cV pP U w) (cV pP U w) (hO _ nX w) (eL w (cV pP U w) (cV pP U w) (hO _ nX w) (mY w))))))
theorem Qd (x y:Operand) (s z:bI):gP Tryz.prog .neq 73 x y (.agg s.cells.toArray) (.agg z.cells.toArray) (.bool (!decide (s=z))):=mm x y (lz Q5) fun w=>O8 9998 s z w
theorem ck:Tryz.prog.follows .mixedOrders=true:=by kernel_rfl
def TT:Ch:=⟨[(1,false,1),(2,false,1),(3,false,1),(4,false,1),(5,false,1),(6,false,1),(7,true,4),(8,true,4),(12,false,1),(15,false,1),(16,false,1),(17,false,1),(18,true,1),(19,true,1),(21,false,1),(22,false,1),(23,true,1),(24,true,1),(25,false,1),(26,false,1),(27,true,7),(28,true,7),(29,false,1),(30,false,1),(31,true,11),(32,true,11),(33,false,1),(34,false,1),(35,true,15),(36,true,15),(37,false,1),(38,false,1),(39,false,1),(41,false,1),(43,false,1),(44,false,1),(46,false,1),(48,false,1),(49,false,1),(50,false,1),(51,false,1),(52,false,1),(53,false,1),(54,false,1),(55,false,1),(56,false,1),(57,false,1),(58,false,1),(59,false,1),(60,true,3),(61,true,3),(63,false,1),(64,true,2),(65,true,2),(66,true,7),(67,true,7),(68,false,1),(69,false,1),(70,true,4),(71,true,4),(72,true,5),(73,true,5),(74,false,1),(75,false,1),(76,false,1),(78,false,1),(80,false,1),(81,false,1),(82,false,1),(84,false,1),(86,false,1),(88,false,1),(90,false,1),(92,false,1),(94,false,1),(95,false,1),(96,false,1),(97,false,1),(99,false,1),(100,false,1),(101,false,1),(102,false,1),(103,false,1),(104,false,1),(105,false,1),(106,false,1),(107,false,1),(108,false,1),(109,false,1),(110,true,15),(111,true,15),(113,false,1),(114,false,1),(115,false,1),(116,false,1),(117,false,1),(118,false,1),(119,false,1),(120,false,1),(121,false,1),(122,false,1),(123,false,1),(124,false,1),(125,false,1),(126,false,1),(127,false,1),(128,false,1),(129,false,1),(130,false,1),(131,false,1),(132,false,1),(133,false,1),(134,true,3),(135,true,3),(136,true,4),(137,true,4),(138,true,2),(139,true,2),(140,false,1),(141,false,1),(142,false,1),(143,false,1),(144,false,1),(145,false,1),(146,false,1),(147,false,1),(148,false,1),(149,false,1),(151,false,1),(152,false,1),(153,false,1),(154,false,1),(155,false,1),(156,true,13),(157,true,13),(158,false,1),(159,true,9),(160,true,9),(161,true,3),(162,true,3),(163,false,1),(164,true,2),(165,true,2),(166,false,1),(167,false,1),(168,false,1),(169,false,1),(170,false,1),(171,false,1),(172,true,2),(173,true,2),(174,true,8),(175,false,1),(176,true,4),(177,true,4),(178,false,1),(179,true,4),(180,true,4),(181,false,1),(182,false,1),(183,false,1),(184,false,1),(185,false,1),(187,false,1),(188,false,1),(189,false,1),(190,false,1),(191,false,1),(192,false,1),(193,false,1),(194,false,1),(195,false,1),(196,false,1),(197,false,1),(198,false,1),(199,false,1),(200,false,1),(201,false,1),(202,false,1),(203,false,1),(204,false,1),(205,false,1),(206,false,1),(208,false,1),(209,false,1),(210,false,1),(211,false,1),(212,false,1),(213,false,1),(214,false,1),(215,false,1),(216,false,1),(218,false,1),(219,false,1),(220,false,1),(222,false,1),(223,false,1),(224,true,1),(225,true,4),(226,false,1),(227,false,1),(228,false,1),(229,false,1),(230,false,1),(231,false,1),(232,true,2),(233,true,2),(234,true,6),(235,false,1),(236,false,1),(237,false,1),(239,false,1),(240,false,1),(241,false,1),(242,false,1),(243,false,1),(244,false,1),(245,false,1),(247,false,1),(248,true,3),(249,true,3),(250,false,1),(251,false,1),(252,false,1),(253,false,1),(254,false,1),(255,false,1),(256,true,1),(257,true,1),(259,false,1),(260,false,1),(262,false,1),(263,false,1),(264,false,1),(265,false,1),(266,false,1),(267,false,1),(268,false,1),(269,false,1),(270,false,1),(271,false,1),(272,true,14),(273,true,14),(274,false,1),(275,false,1),(276,false,1),(277,true,2),(278,true,2),(279,false,1),(280,false,1),(281,false,1),(282,false,1),(283,true,3),(284,true,3),(285,false,1),(286,false,1),(287,false,1),(288,false,1),(289,false,1),(290,false,1),(291,false,1),(292,false,1),(293,false,1),(294,false,1),(295,false,1),(296,false,1),(297,false,1),(298,false,1),(299,false,1),(301,false,1),(302,false,1),(303,false,1),(304,false,1),(306,false,1),(307,false,1),(308,false,1),(309,false,1),(310,false,1),(311,false,1),(312,false,1),(313,false,1),(314,false,1),(315,false,1),(316,false,1),(317,false,1),(318,false,1),(319,false,1),(320,false,1),(321,false,1),(322,false,1),(323,false,1),(324,false,1),(325,false,1),(326,false,1),(329,true,0),(330,true,0),(331,true,0),(332,false,1),(333,false,1),(334,false,1),(335,false,1),(336,false,1),(337,false,1),(338,false,1),(339,true,11),(340,true,11),(341,false,1),(343,false,1)],[(7,[some 0,some 1,some 2,some 3]),(8,[some 0,some 1,some 2,some 3]),(18,[some 0]),(19,[some 0]),(23,[some 0]),(24,[some 0]),(27,[some 0,some 1,some 2,some 3,some 4,some 5,some 6]),(28,[some 0,some 1,some 2,some 3,some 4,some 5,some 6]),(31,[some 0,some 7,some 8,some 9,some 10]),(32,[some 0,some 7,some 8,some 9,some 10]),(35,[some 0,some 11,some 12,some 13,some 14]),(36,[some 0,some 11,some 12,some 13,some 14]),(60,[some 0,some 1,some 2]),(61,[some 0,some 1,some 2]),(64,[some 0,some 1]),(65,[some 0,some 1]),(66,[some 0,some 1,some 2,some 4]),(67,[some 0,some 1,some 2,some 4]),(70,[some 0,some 1,some 2,some 3]),(71,[some 0,some 1,some 2,some 3]),(72,[some 0,some 1,some 2,some 3,some 4]),(73,[some 0,some 1,some 2,some 3,some 4]),(110,[some 0]),(111,[some 0]),(134,[some 0,some 1]),(135,[some 0,some 1]),(136,[some 0,some 3]),(137,[some 0,some 3]),(138,[some 0,some 1]),(139,[some 0,some 1]),(156,[some 0,some 11,some 12]),(157,[some 0,some 11,some 12]),(159,[some 0,some 1,some 3,some 5,some 7,some 8]),(160,[some 0,some 1,some 3,some 5,some 7,some 8]),(161,[some 0,some 1]),(162,[some 0,some 1]),(164,[some 0,some 1]),(165,[some 0,some 1]),(172,[some 0,some 1]),(173,[some 0,some 1]),(176,[some 0,some 2,some 3]),(177,[some 0,some 2,some 3]),(179,[some 0,some 1,some 2,some 3]),(180,[some 0,some 1,some 2,some 3]),(224,[some 0]),(232,[some 0,some 1]),(233,[some 0,some 1]),(248,[some 0,some 1,some 2]),(249,[some 0,some 1,some 2]),(256,[some 0]),(257,[some 0]),(272,[some 0,some 7,some 10,some 11,some 12,some 13]),(273,[some 0,some 7,some 10,some 11,some 12,some 13]),(277,[some 0,some 1]),(278,[some 0,some 1]),(283,[some 0,some 1,some 2]),(284,[some 0,some 1,some 2]),(339,[some 0,some 1,some 2,some 3,some 4,some 5,some 6,some 7,some 8,some 9,some 10]),(340,[some 0,some 1,some 2,some 3,some 4,some 5,some 6,some 7,some 8,some 9,some 10])],[22,25,26,29,30,33,34,44,57,59,68,124,153,154,163,231,245,269,270,271,292]⟩
theorem qc:lI Tryz.prog TT:=OP kr
theorem bX {t:TypeId} {x:Bool×Nat} (h:TT.Jb t=some x:=by rfl):tK Tryz.prog t=some x:=qc.Jb h
theorem eV {s f k:Nat} (h:TT.foF s f=some k:=by rfl):uu Tryz.prog s f=some k:=qc.foF h
end
section
open Go.RowKit
/-- blocks that are read -/
def MM (C:List aA) (M:List (Nat×List Value)):Prop:= ∀ p∈M,∀ o vs,(p.2.drop o).take vs.length=vs→At C (some ⟨p.1,o,none⟩) vs
theorem mn {C:List aA}:MM C []:=fun p h=>by cases h
theorem mc {C:List aA} {b t:Nat} {cs:List Value} {M:List (Nat×List Value)} (i:Nat) (hC:C[i]? =some (cy b t cs)) (h:MM C M):MM C ((b,cs)::M):=fun p hp o vs hv=>by
 rcases cg.1 hp with rfl|hp
 ·exact pz i hC hv
 ·exact h p hp o vs hv
theorem mr {C:List aA} {b t:Nat} {cs:List Value} {M:List (Nat×List Value)} (i:Nat) (hC:C[i]? =some (cy b t cs).ro) (h:MM C M):MM C ((b,cs)::M):=fun p hp o vs hv=>by
 rcases cg.1 hp with rfl|hp
 ·exact v_ i hC hv
 ·exact h p hp o vs hv
def pH:List Prop→Prop
 |[]=>True
 |p::l=>p∧pH l
theorem km {p:Prop} {l:List Prop} (h:p) (h2:pH l):pH (p::l):=⟨h,h2⟩
/-- the value of an operation, what it asks for, and what is left of the list of places -/
def pv (T:Ch) (ops:Array Oper) (M:List (Nat×List Value)) (L:dC) (hs:List Nat) (g:Option (Nat×Bool)) (op:Op):Option (Value×List Prop×List Nat):=
 match Cb ops L g with
 |true=>some (undef,[],hs)
 |false=>match ki ops L g with
  |false=>none
  |true=>match op with
   | .move x=>match ev L x with
    |some v=>some (v,[],hs)
    |none=>none
   | .assign x=>match ev L x with
    |some v=>some (v,[],hs)
    |none=>none
   | .pick c x y=>match ev L c with
    |some (.bool true)=>match ev L x with
     |some v=>some (v,[],hs)
     |none=>none
    |some (.bool false)=>match ev L y with
     |some v=>some (v,[],hs)
     |none=>none
    |_=>none
   | .unOp .not _ x=>match ev L x with
    |some (.bool b)=>some (.bool !b,[],hs)
    |_=>none
   | .extract x i=>match ev L x with
    |some (.tuple vs)=>match vs.toList[i]? with
     |some v=>some (v,[],hs)
     |none=>none
    |_=>none
   | .fieldAddr s x f=>match ev L x with
    |some (.pointer (some ⟨b,o,none⟩))=>match T.foF s f with
     |some k=>some (.pointer (some ⟨b,o+k,none⟩),[],hs)
     |none=>none
    |_=>none
   | .binOp op _ x y _=>match ev L x with
    |some (.int .i64 a)=>match ev L y with
     |some (.int .i64 b)=>match op with
      | .lss=>some (.bool (decide (a<b)),[],hs)
      | .leq=>some (.bool (decide (a≤b)),[],hs)
      | .gtr=>some (.bool (decide (b<a)),[],hs)
      | .geq=>some (.bool (decide (b≤a)),[],hs)
      | .eql=>some (.bool (decide (a=b)),[],hs)
      | .neq=>some (.bool (!decide (a=b)),[],hs)
      | .add=>some (.int .i64 (a+b),[-9223372036854775808≤a+b,a+b≤9223372036854775807],hs)
      | .sub=>some (.int .i64 (a-b),[-9223372036854775808≤a-b,a-b≤9223372036854775807],hs)
      |_=>none
     |_=>none
    |_=>none
   | .load t x=>match ev L x with
    |some (.pointer (some ⟨b,o,none⟩))=>match M[hs.headD 0]? with
     |some (b',cs)=>match T.Jb t with
      |some (false,_)=>match cs[o]? with
       |some v=>some (v,[b'=b],hs.tail)
       |none=>none
      |some (true,n)=>match Nat.beq o 0 with
       |true=>match Nat.beq cs.length n with
        |true=>some (.agg cs.toArray,[b'=b],hs.tail)
        |false=>none
       |false=>none
      |none=>none
     |none=>none
    |_=>none
   | .call c=>match c with
    |{callee:= .builtin .len,args:=xs,argTypes:=ts}=>match xs.toList with
     |[x]=>match ts.toList with
      |[t]=>match ev L x with
       |some (.slice A n c)=>match JK T.sl t with
        |true=>some (.int .i64 n,[],hs)
        |false=>none
       |_=>none
      |_=>none
     |_=>none
    |_=>none
   |_=>none
section
variable {E:fI} {T:Ch} {ops:Array Oper} {M:List (Nat×List Value)} {D:List Deferred} {L:List (Nat×Value)} {C:List aA} {hs hs':List Nat}
theorem vk {cs:List Value} {o:Nat} {v:Value} (h:cs[o]? =some v):(cs.drop o).take [v].length=[v]:=by
 obtain ⟨hl,rfl⟩:=aU.1 h
 rw [List.drop_eq_getElem_cons hl]; rfl
theorem P4 {o:Oper} {v:Value} {S:List Prop} (hT:lI E.P T) (hM:MM C M) (h:pv T ops M L hs o.guard o.op=some (v,S,hs')) (hS:pH S):SD E ops o D L C v:=by
 obtain ⟨dst,op,ty,ps,af,g⟩:=o
 unfold pv at h
 simp only at h
 split at h
 ·rename_i hg
  cases h
  exact Iq hg
 ·split at h
  ·cases h
  ·rename_i hg
   split at h
   ·split at h
    ·rename_i hx; cases h; exact Eb hg hx
    ·cases h
   ·split at h
    ·rename_i hx; cases h; exact yv hg hx
    ·cases h
   ·split at h
    ·rename_i hc
     split at h
     ·rename_i hx; cases h; exact yQ hg hc hx
     ·cases h
    ·rename_i hc
     split at h
     ·rename_i hx; cases h; exact zg hg hc hx
     ·cases h
    ·cases h
   ·split at h
    ·rename_i hx; cases h; exact Ix hg hx
    ·cases h
   ·split at h
    ·rename_i vs hx
     split at h
     ·rename_i v' hv; cases h; exact xP (vs:=vs.toList) hg (by simpa using hx) hv
     ·cases h
    ·cases h
   ·split at h
    ·rename_i hx
     split at h
     ·rename_i hk; cases h; exact Ml hg hx (hT.foF hk) rfl
     ·cases h
    ·cases h
   ·split at h
    ·rename_i hx
     split at h
     ·rename_i hy
      split at h
      ·cases h; exact eK hg hx hy p9
      ·cases h; exact eK hg hx hy PH
      ·cases h; exact eK hg hx hy II
      ·cases h; exact eK hg hx hy Ed
      ·cases h; exact eK hg hx hy jW
      ·cases h; exact eK hg hx hy xR
      ·cases h; exact eK hg hx hy (n9 ⟨hS.1,hS.2.1⟩)
      ·cases h; exact eK hg hx hy (xx ⟨hS.1,hS.2.1⟩)
      ·cases h
     ·cases h
    ·cases h
   ·split at h
    ·rename_i hx
     split at h
     ·rename_i b' cs hm
      have A:=aP hm
      split at h
      ·rename_i hk
       split at h
       ·rename_i hv
        cases h
        obtain rfl:=hS.1
        exact uZ hg hx (hT.Jb hk) (hM _ A _ _ (vk hv))
       ·cases h
      ·rename_i n hk
       split at h
       ·rename_i ho
        split at h
        ·rename_i hn
         cases h
         obtain rfl:=hS.1
         have H:=Nat.eq_of_beq_eq_true ho
         subst H
         exact wY hg hx (hT.Jb hk) (hM _ A 0 cs sm) (Nat.eq_of_beq_eq_true hn)
        ·cases h
       ·cases h
      ·cases h
     ·cases h
    ·cases h
   ·split at h
    ·rename_i xs ts
     split at h
     ·rename_i x G
      split at h
      ·rename_i t F
       split at h
       ·rename_i hx
        split at h
        ·rename_i B
         cases h
         obtain ⟨e,he⟩:=hT.sl t (Bc B)
         have AA:xs= #[x]:=by apply Array.ext'; simpa using G
         have J:ts= #[t]:=by apply Array.ext'; simpa using F
         subst AA J
         exact Js hg hx he
        ·cases h
       ·cases h
      ·cases h
     ·cases h
    ·cases h
   ·cases h
def pr (T:Ch) (n:Nat) (ops:Array Oper) (M:List (Nat×List Value)):Nat→List Nat→dC→List Oper→Option (dC×List Oper×List Prop)
 |0,_,L,rest=>some (L,rest,[])
 |k+1,hs,L,[]=>none
 |k+1,hs,L,o::rest=>match o.dst with
  |none=>none
  |some d=>match Nat.blt d n with
   |false=>none
   |true=>match pv T ops M L hs o.guard o.op with
    |none=>none
    |some (v,S,hs')=>match pr T n ops M k hs' ((d,v)::L) rest with
     |none=>none
     |some (L',rest',S')=>some (L',rest',S++S')
theorem xI: ∀ {S S':List Prop},pH (S++S')→pH S∧pH S'
 |[],S',h=>⟨trivial,h⟩
 |p::S,S',h=>⟨⟨h.1,(xI h.2).1⟩,(xI h.2).2⟩
/-- whatever is closed under single steps -/
theorem IM {J:List Oper→dC→Prop} (hT:lI E.P T) (hM:MM C M) (hJ: ∀ o rest L d v,SD E ops o D L C v→o.dst=some d→Nat.blt d E.n=true→J rest ((d,v)::L)→J (o::rest) L):
 ∀ (k:Nat) (hs:List Nat) (L:dC) (rest:List Oper) {L':dC} {rest':List Oper} {S:List Prop},pr T E.n ops M k hs L rest=some (L',rest',S)→pH S→J rest' L'→J rest L
 |0,hs,L,rest,L',rest',S,h,hS,hj=>by
  unfold pr at h
  cases h
  exact hj
 |k+1,hs,L,[],L',rest',S,h,hS,hj=>by unfold pr at h; cases h
 |k+1,hs,L,o::rest,L',rest',S,h,hS,hj=>by
  unfold pr at h
  split at h
  ·cases h
  ·rename_i d hd
   split at h
   ·cases h
   ·rename_i hn
    split at h
    ·cases h
    ·rename_i v S1 A hv
     split at h
     ·cases h
     ·rename_i L1 G S2 hr
      cases h
      obtain ⟨B,F⟩:=xI hS
      exact hJ o rest L d v (P4 hT hM hv B) hd hn (IM hT hM hJ k A _ rest hr F hj)
variable {Q:dw} {rest rest':List Oper} {L0 L':List (Nat×Value)} {S:List Prop} {F:List (Nat×Value)→Prop}
/-- a run of operations, one after the other -/
theorem rP (k:Nat) (hs:List Nat) (hM:MM C M) (j:RJ E ops Q rest' D L' C) (hT:lI E.P T:=by exact qc) (h:pr T E.n ops M k hs L rest=some (L0,rest',S):=by rfl) (hL:L0=L':=by (try dsimp only)<;>rfl) (hS:pH S:=by repeat' first|exact True.intro |refine km ?_ ?_ |exact rfl|omega|(dsimp only; omega)):RJ E ops Q rest D L C:=by
 subst hL
 exact IM (J:=fun r L=>RJ E ops Q r D L C) hT hM (fun o rest L d v A B F G=>PA A B F G) k hs L rest h hS j
theorem dP (k:Nat) (hs:List Nat) (hM:MM C M) (j:DJ E ops D C F rest' L') (hT:lI E.P T:=by exact qc) (h:pr T E.n ops M k hs L rest=some (L0,rest',S):=by rfl) (hL:L0=L':=by (try dsimp only)<;>rfl) (hS:pH S:=by repeat' first|exact True.intro |refine km ?_ ?_ |exact rfl|omega|(dsimp only; omega)):DJ E ops D C F rest L:=by
 subst hL
 exact IM (J:=fun r L=>DJ E ops D C F r L) hT hM (fun o rest L d v A B G H=>Pv A B G H) k hs L rest h hS j
end
section
variable {P:Program} {r:Option Nat} {n:Nat} {B:BS} {w0:World} {ops:Array Oper} {M:List (Nat×List Value)} {D:List Deferred} {L L':List (Nat×Value)} {C:List aA} {Q:dw} {rest rest':List Oper} {S:List Prop} {F:List (Nat×Value)→Prop}
theorem er (k:Nat) (hs:List Nat) (hM:MM C M) (h:pr TT n ops M k hs L rest=some (L',rest',S)) (j:RJ ⟨P,r,n,B,w0⟩ ops Q rest' D L' C) (hS:pH S:=by repeat' first|exact True.intro |refine km ?_ ?_ |exact rfl|omega|(dsimp only; omega)) (hT:lI P TT:=by exact qc):RJ ⟨P,r,n,B,w0⟩ ops Q rest D L C:=rP k hs hM j hT h rfl hS
theorem kv (k:Nat) (hs:List Nat) (hM:MM C M) (h:pr TT n ops M k hs L rest=some (L',rest',S)) (j:DJ ⟨P,r,n,B,w0⟩ ops D C F rest' L') (hS:pH S:=by repeat' first|exact True.intro |refine km ?_ ?_ |exact rfl|omega|(dsimp only; omega)) (hT:lI P TT:=by exact qc):DJ ⟨P,r,n,B,w0⟩ ops D C F rest L:=dP k hs hM j hT h rfl hS
theorem bx (k:Nat) (h:pr TT n ops [] k [] L rest=some (L',rest',S)) (j:RJ ⟨P,r,n,B,w0⟩ ops Q rest' D L' C) (hS:pH S:=by repeat' first|exact True.intro |refine km ?_ ?_ |exact rfl|omega|(dsimp only; omega)) (hT:lI P TT:=by exact qc):RJ ⟨P,r,n,B,w0⟩ ops Q rest D L C:=rP k [] mn j hT h rfl hS
theorem kx (k:Nat) (h:pr TT n ops [] k [] L rest=some (L',rest',S)) (j:DJ ⟨P,r,n,B,w0⟩ ops D C F rest' L') (hS:pH S:=by repeat' first|exact True.intro |refine km ?_ ?_ |exact rfl|omega|(dsimp only; omega)) (hT:lI P TT:=by exact qc):DJ ⟨P,r,n,B,w0⟩ ops D C F rest L:=dP k [] mn j hT h rfl hS
end
end
section
open Go.RowKit
/-- parts of a context, reckoned to the end -/
def vW (C:List aA):List Nat→Option (List aA)
 |[]=>some []
 |i::is=>match C[i]? with
  |some A=>match vW C is with
   |some l=>some (A::l)
   |none=>none
  |none=>none
theorem rr {C:List aA}: ∀ {is:List Nat} {C':List aA},vW C is=some C'→lh C is=C'
 |[],C',h=>by cases h; rfl
 |i::is,C',h=>by
  unfold vW at h
  split at h
  ·rename_i A hA
   split at h
   ·rename_i l hl
    cases h
    show List.filterMap (C[·]?) (i::is)=A::l
    rw [List.filterMap_cons_some hA]
    exact congrArg _ (rr hl)
   ·cases h
  ·cases h
/-- a part of a context in place of the whole -/
theorem aN {S:BS} {w0:World} {C C':List aA} (is:List Nat) (hn:decide is.Nodup=true:=by rfl) (hC:lh C is=C':=by rfl): ∀ w,St S w0 C w→St S w0 C' w:=fun w h=>St.lh is hn hC h
theorem Rf {S:BS} {w0:World} {C C':List aA} (is:List Nat) (hC:vW C is=some C') (hn:decide is.Nodup=true:=by rfl): ∀ w,St S w0 C w→St S w0 C' w:=fun w h=>St.lh is hn (rr hC) h
def L9 (C:List aA) (i:Nat) (B:aA):Option (List aA):=match i,C with
 |0,_::C=>some (B::C)
 |i+1,A::C=>match L9 C i B with
  |some l=>some (A::l)
  |none=>none
 |_,[]=>none
theorem DQ: ∀ {C:List aA} {i:Nat} {B:aA} {C':List aA},L9 C i B=some C'→C.set i B=C'
 |[],0,B,C',h=>by cases h
 |[],i+1,B,C',h=>by cases h
 |A::C,0,B,C',h=>by cases h; rfl
 |A::C,i+1,B,C',h=>by
  unfold L9 at h
  split at h
  ·rename_i l hl
   cases h
   exact congrArg _ (DQ hl)
  ·cases h
theorem qy {E:fI} {K:Act→World→Prop} {D:ir} {L:dC} {C C':List aA} {A B:aA} (i:Nat) (hC:C[i]? =some A) (hh:(∀ w,A.holds w→B.holds w)∧(∀ b,B.fE b→A.fE b)∧ ∀ b,B.wf b→A.wf b) (hC':L9 C i B=some C') (h:KJ E K D L C'):KJ E K D L C:=GU i hC hh (DQ hC') h
/-- the operations of a region but these; marks of some places -/
def Ta (n:Nat) (T:List Nat):List Nat:=(List.range n).filter fun i=> !T.contains i
def TY (k:Nat) (t:List Nat):List Bool:=(List.range k).map fun i=>t.contains i
theorem dx {E:fI} {id:Nat} {ops:Array Oper} {Q:dw} {D:ir} {L:dC} {C:List aA} (hm:E.P.follows .mixedOrders=true) (T fe tb i1 i2:List Nat) {C' C1:List aA} {free:List Nat} {feb tbb:List Bool}
 (h1:vW C i1=some C') (h2:vW C i2=some C1) (hf:free=Ta ops.size T) (hfe:feb=TY free.length fe) (htb:tbb=TY T.length tb)
 (h:qn E ops D C' C1 (fun L'=>TJ E ops D C' C1 (fun L C=>KJ E (Q .normal) D L C) tbb (e7 ops T) L' C) feb (e7 ops free) L)
 (hc:LS ops free T feb tbb=true:=by kernel_rfl) (n1:decide i1.Nodup=true:=by rfl) (n2:decide i2.Nodup=true:=by rfl):WJ E (.region id ops true) Q D L C:=
 JW hm free T feb tbb C' C1 hc (Rf i1 h1 n1) (Rf i2 h2 n2) h
end
section
open Go.RowKit
def vX (T:Ch) (M:List (Nat×List Value)) (L:dC):List ResultVar→List Nat→Option (List Value×List Prop)
 |[],_=>some ([],[])
 | .tmp t::rs,hs=>match L.lookup t with
  |some v=>match vX T M L rs hs with
   |some (vs,S)=>some (v::vs,S)
   |none=>none
  |none=>none
 | .cell a t::rs,hs=>match L.lookup a with
  |some (.pointer (some ⟨b,o,none⟩))=>match M[hs.headD 0]? with
   |some (b',cs)=>match T.Jb t with
    |some (false,_)=>match cs[o]? with
     |some v=>match vX T M L rs hs.tail with
      |some (vs,S)=>some (v::vs,(b'=b)::S)
      |none=>none
     |none=>none
    |some (true,n)=>match Nat.beq o 0 with
     |true=>match Nat.beq cs.length n with
      |true=>match vX T M L rs hs.tail with
       |some (vs,S)=>some (.agg cs.toArray::vs,(b'=b)::S)
       |none=>none
      |false=>none
     |false=>match vX T M L rs hs.tail with
      |some (vs,S)=>some (.agg ((cs.drop o).take n).toArray::vs,(b'=b)::(((cs.drop o).take n).length=n)::S)
      |none=>none
    |none=>none
   |none=>none
  |_=>none
theorem oy {P:Program} {T:Ch} {M:List (Nat×List Value)} {L:dC} {C:List aA} (hT:lI P T) (hM:MM C M): ∀ (rs:List ResultVar) (hs:List Nat) {vs:List Value} {S:List Prop},vX T M L rs hs=some (vs,S)→pH S→FY P L C rs vs
 |[],_,vs,S,h,hS=>by unfold vX at h; cases h; exact trivial
 | .tmp t::rs,hs,vs,S,h,hS=>by
  unfold vX at h
  split at h
  ·rename_i v hv
   split at h
   ·rename_i vs' S' hr
    cases h
    exact ⟨hv,oy hT hM rs hs hr hS⟩
   ·cases h
  ·cases h
 | .cell a t::rs,hs,vs,S,h,hS=>by
  unfold vX at h
  split at h
  ·rename_i b o hl
   split at h
   ·rename_i b' cs hm
    have A:=aP hm
    split at h
    ·rename_i hk
     split at h
     ·rename_i v hv
      split at h
      ·rename_i vs' S' hr
       cases h
       obtain ⟨rfl,hS⟩:=hS
       exact ⟨⟨_,hl,.inr ⟨_,hT.Jb hk,hM _ A _ _ (vk hv)⟩⟩,oy hT hM rs _ hr hS⟩
      ·cases h
     ·cases h
    ·rename_i n hk
     split at h
     ·rename_i ho
      split at h
      ·rename_i hn
       split at h
       ·rename_i vs' S' hr
        cases h
        obtain ⟨rfl,hS⟩:=hS
        have D:=Nat.eq_of_beq_eq_true ho
        subst D
        exact ⟨⟨_,hl,.inl ⟨_,cs,hT.Jb hk,hM _ A 0 cs sm,Nat.eq_of_beq_eq_true hn,U⟩⟩,oy hT hM rs _ hr hS⟩
       ·cases h
      ·cases h
     ·split at h
      ·rename_i vs' S' hr
       cases h
       obtain ⟨rfl,B,hS⟩:=hS
       exact ⟨⟨_,hl,.inl ⟨_,_,hT.Jb hk,hM _ A o _ (by rw [B]),B,U⟩⟩,oy hT hM rs _ hr hS⟩
      ·cases h
    ·cases h
   ·cases h
  ·cases h
section
variable {P:Program} {n:Nat} {fn:Func} {w0:World} {K:Act→World→Prop} {L:List (Nat×Value)} {C:List aA} {M:List (Nat×List Value)} {vs:List Value} {S:List Prop} {u x v:Value}
theorem z9 (hQ: ∀ D L C,LJ ⟨P,none,n,ui,w0⟩ fn (Aw w0 v) D L C→KJ ⟨P,none,n,ui,w0⟩ K D L C) (hs:List Nat) (hM:MM C M) (h:vX TT M L fn.results.toList hs=some ([u],S)) (e:u=v) (hS:pH S:=by repeat' first|exact True.intro |refine km rfl ?_) (hT:lI P TT:=by exact qc):KJ ⟨P,none,n,ui,w0⟩ K [] L C:=
 hQ _ _ _ (ke (oy hT hM _ _ h hS) fun w hs=>CK e hs)
theorem lS (hQ: ∀ D L C,LJ ⟨P,none,n,ui,w0⟩ fn (Aw w0 v) D L C→KJ ⟨P,none,n,ui,w0⟩ K D L C) (hs:List Nat) (hM:MM C M) (h:vX TT M L fn.results.toList hs=some (u::x::vs,S)) (e:Value.tuple (u::x::vs).toArray=v) (hS:pH S:=by repeat' first|exact True.intro |refine km rfl ?_) (hT:lI P TT:=by exact qc):KJ ⟨P,none,n,ui,w0⟩ K [] L C:=
 hQ _ _ _ (ke (oy hT hM _ _ h hS) fun w hs=>CK e hs)
theorem LX {α:Type} {V:α→Value} {p:α→Prop} {N:α→List aA} (hQ: ∀ D L C,LJ ⟨P,none,n,ui,w0⟩ fn (JF w0 V p N) D L C→KJ ⟨P,none,n,ui,w0⟩ K D L C) (x:α) (is hs:List Nat) (hM:MM C M) (h:vX TT M L fn.results.toList hs=some (vs,S)) (hw:(N x).all (·.wr)=true) (hN:lh C is=N x) (hV:OV vs=V x) (hp:p x) (hn:decide is.Nodup=true:=by rfl) (hS:pH S:=by repeat' first|exact True.intro |refine km rfl ?_) (hT:lI P TT:=by exact qc):KJ ⟨P,none,n,ui,w0⟩ K [] L C:=
 hQ _ _ _ (ke (oy hT hM _ _ h hS) fun w hs=>NY x is hV hp hn hN hw hs)
theorem LM {A:aA} {α:Type} {V:α→Value} {p:α→Prop} {A':α→aA} (hQ: ∀ D L C,LJ ⟨P,none,n,⟨A.wf,fun _=>True⟩,w0⟩ fn (Ka w0 A V p A') D L C→KJ ⟨P,none,n,⟨A.wf,fun _=>True⟩,w0⟩ K D L C) (x:α) (i:Nat) (hs:List Nat) (hM:MM C M) (h:vX TT M L fn.results.toList hs=some (vs,S)) (hw:(A' x).wr=true) (hC:C[i]? =some (A' x)) (hV:OV vs=V x) (hp:p x) (hS:pH S:=by repeat' exact True.intro) (hT:lI P TT:=by exact qc):KJ ⟨P,none,n,⟨A.wf,fun _=>True⟩,w0⟩ K [] L C:=
 hQ _ _ _ (ke (oy hT hM _ _ h hS) fun w hs=>Px x i hV hp hC hw hs)
end
end
section
open Go.RowKit
def DP {α:Type _}:List α→List α→Option (List α)
 |[],m=>some m
 |a::l,m=>match DP l m with
  |some r=>some (a::r)
  |none=>none
theorem EH {α:Type _}: ∀ {l m r:List α},DP l m=some r→l++m=r
 |[],m,r,h=>by cases h; rfl
 |a::l,m,r,h=>by
  unfold DP at h
  split at h
  ·rename_i r' hr
   cases h
   exact congrArg (a:: ·) (EH hr)
  ·cases h
def RH (L:dC):List Nat→Option (dC)
 |[]=>some []
 |t::ts=>match L.lookup t with
  |some v=>match RH L ts with
   |some r=>some ((t,v)::r)
   |none=>none
  |none=>none
theorem EG {L M:dC} (k:dh L M): ∀ {ts:List Nat} {r:dC},RH L ts=some r→dh L (r++M)
 |[],r,h=>by cases h; exact k
 |t::ts,r,h=>by
  unfold RH at h
  split at h
  ·rename_i v hv
   split at h
   ·rename_i r' hr
    cases h
    exact dh.cons hv (EG k hr)
   ·cases h
  ·cases h
section
variable {E:fI} {Q:dw} {D:List Deferred} {L L0:List (Nat×Value)} {C C0:List aA} {ι:Type} {Li:ι→List (Nat×Value)} {Ci:ι→List aA}
theorem bQ {c:Code} (kL kC:List Nat) (hL:RH L kL=some L0) (hC0:vW C kC=some C0) (S:ι→dC) (G:ι→List aA) (hLi: ∀ x,DP L0 (S x)=some (Li x)) (hCi: ∀ x,DP C0 (G x)=some (Ci x)) (μ:ι→Nat) (x0:ι)
 (h0:dh L (S x0)) (hC: ∀ w,St E.S E.w0 C w→St E.S E.w0 (Ci x0) w)
 (round: ∀ x (J:Act→World→Prop),(∀ y D' L' C',D'=D→μ y<μ x→dh L' (Li y)→(∀ w,St E.S E.w0 C' w→St E.S E.w0 (Ci y) w)→KJ E J D' L' C')→WJ E c (Exit.then J Q) D (Li x) (Ci x)):WJ E (.loop c) Q D L C:=
 ND Li Ci μ x0 (EH (hLi x0)▸EG h0 hL) hC round
theorem oa {x y:Code} (kL kC:List Nat) (hL:RH L kL=some L0) (hC0:vW C kC=some C0) (S:ι→dC) (G:ι→List aA) (hLi: ∀ x,DP L0 (S x)=some (Li x)) (hCi: ∀ x,DP C0 (G x)=some (Ci x))
 (hy: ∀ z,WJ E y Q D (Li z) (Ci z)) (h: ∀ K:Act→World→Prop,(∀ z,KJ E K D (Li z) (Ci z))→WJ E x (Exit.then K Q) D L C):WJ E (.seq x y) Q D L C:=Nb Li Ci hy h
end
end
section
open Go.RowKit
set_option linter.unusedSectionVars false
/-- what is asked of keys -/
structure vf (P:Program) (kt:Nat) {K:Type} (kV:K→Value):Prop where
 check: ∀ (e:Bool) (x:K) (w:World),(Instr.checkKey e 10000 kt (kV x)).run P w= .ok () w
 find: ∀ (x:K) (w:World) (es:List MapEntry),(∀ e∈es,∃ k,e.key=kV k)→
  ((Instr.findKey kt (kV x) es).run P w= .ok none w∧ ∀ e∈es,e.key≠kV x)∨ ∃ j e,(Instr.findKey kt (kV x) es).run P w= .ok (some (j,e.val)) w∧es[j]? =some e∧e.key=kV x
 bits: ∀ x,Instr.sameBits 10000 (kV x) (kV x)=true
 inj: ∀ x y,kV x=kV y→x=y
section
variable {K:Type} [DecidableEq K] {kV:K→Value}
def eD {β:Type} (l:List (K×β)) (x:K) (y:β):List (K×β):=if (l.lookup x).isSome then l.map (fun p=>if p.1=x then (x,y) else p) else l++[(x,y)]
def fg {β:Type} (l:List (K×β)) (x:K):List (K×β):=l.filter fun p=> !decide (p.1=x)
def cR {β γ:Type} (f:β→γ) (l:List (K×β)):List (K×γ):=l.map fun p=>(p.1,f p.2)
theorem m0 {β γ:Type} (f:β→γ) (x:K): ∀ l:List (K×β),(cR f l).lookup x=(l.lookup x).map f
 |[]=>rfl
 |p::l=>by
  obtain ⟨k,v⟩:=p
  have ih:=m0 f x l
  by_cases h:x=k
  ·subst h; simp [cR,List.lookup]
  ·have:(x==k)=false:=by simpa using h
   simp only [cR,List.map_cons,List.lookup,this] at ih ⊢
   exact ih
theorem gN {β γ:Type} (f:β→γ) (l:List (K×β)) (x:K) (y:β):cR f (eD l x y)=eD (cR f l) x (f y):=by
 unfold eD
 rw [m0,Option.isSome_map]
 split
 ·simp only [cR,List.map_map]
  refine List.map_congr_left fun p _=>?_
  simp only [Function.comp]
  split<;>rfl
 ·simp [cR]
theorem nK {β γ:Type} (f:β→γ) (l:List (K×β)) (x:K):cR f (fg l x)=fg (cR f l) x:=by
 unfold fg cR
 rw [List.filter_map]
 rfl
theorem iz {β:Type} {x:K}: ∀ {l:List (K×β)},l.lookup x=none↔ ∀ p∈l,p.1≠x
 |[]=>by simp
 |p::l=>by
  obtain ⟨k,v⟩:=p
  by_cases h:x=k
  ·subst h; simp [List.lookup]
  ·have hb:(x==k)=false:=by simpa using h
   simp only [List.lookup,hb,cg,forall_eq_or_imp]
   rw [iz (l:=l)]
   exact ⟨fun q=>⟨fun e=>h e.symm,q⟩,fun q=>q.2⟩
theorem lj {β:Type} {x:K} {y:β}: ∀ {l:List (K×β)},(l.map (·.1)).Nodup→((x,y)∈l↔l.lookup x=some y)
 |[],_=>by simp
 |p::l,hn=>by
  obtain ⟨k,v⟩:=p
  simp only [List.map_cons,List.nodup_cons] at hn
  by_cases h:x=k
  ·subst h
   simp only [List.lookup,beq_self_eq_true,cg,Prod.mk.injEq,true_and,Option.some.injEq]
   constructor
   ·rintro (e|e)
    ·exact e.symm
    ·exact absurd (cE.2 ⟨_,e,U⟩) hn.1
   ·intro e; exact .inl e.symm
  ·have hb:(x==k)=false:=by simpa using h
   simp only [List.lookup,hb,cg,Prod.mk.injEq,h,false_and,false_or]
   exact lj hn.2
structure jw (kV:K→Value) (es:Array MapEntry) (c:Nat) (m:List (K×Value)):Prop where
 list:es.toList.map (fun (e:MapEntry)=>(e.key,e.val))=m.map (fun p=>(kV p.1,p.2))
 keys:(m.map (·.1)).Nodup
 Ji: ∀ e∈es.toList,e.born<c
 born:(es.toList.map (·.born)).Nodup
def ks (kV:K→Value) (b:Nat) (m:List (K×Value)):aA where
 fE k:=k=b
 wf k:=k=b
 holds w:= ∃ es c,w.heap[b]? =some (.map es c)∧jw kV es c m
 wr:=true
 kB _ h:=h
 whole _ _ h:=h
 lt w h k hk:=by obtain ⟨es,c,he,_⟩:=h; exact hk▸dR he
 oH w w' hk h:=by obtain ⟨es,c,he,hm⟩:=h; exact ⟨es,c,(hk b rfl).trans he,hm⟩
theorem jw.nil:jw kV #[] 0 []:=⟨rfl,List.nodup_nil,sm,List.nodup_nil⟩
theorem jw.size {es:Array MapEntry} {c:Nat} {m:List (K×Value)} (h:jw kV es c m):es.size=m.length:=by
 have:=congrArg List.length h.list
 simpa using this
theorem Co {P:Program} {kt:Nat} (hk:vf P kt kV) (x:K): ∀ (es:List MapEntry) (m:List (K×Value)),es.map (fun (e:MapEntry)=>(e.key,e.val))=m.map (fun p=>(kV p.1,p.2))→
 ((∀ e∈es,e.key≠kV x)→m.lookup x=none)∧ ∀ (j:Nat) (e:MapEntry),es[j]? =some e→e.key=kV x→m[j]? =some (x,e.val):=by
 intro es m h
 refine ⟨fun hn=>iz.2 fun p hp e=>?_,fun j e he hx=>?_⟩
 ·have:(kV p.1,p.2)∈es.map (fun (e:MapEntry)=>(e.key,e.val)):=by rw [h]; exact cE.2 ⟨p,hp,rfl⟩
  obtain ⟨z,hz,B⟩:=cE.1 this
  simp only [Prod.mk.injEq] at B
  exact hn z hz (by rw [B.1,e])
 ·have A:(es.map (fun (e:MapEntry)=>(e.key,e.val)))[j]? =some (e.key,e.val):=by rw [fK,he]; rfl
  rw [h,fK] at A
  cases hm:m[j]? with
  |none=>simp [hm] at A
  |some p=>
   simp only [hm,Option.map_some,Option.some.injEq,Prod.mk.injEq] at A
   have:=hk.inj _ _ (A.1.trans hx)
   obtain ⟨k,v⟩:=p
   simp only at this A
   rw [this,A.2]
theorem oN {P:Program} {w:World} {kt:Nat} {x:K} {es:Array MapEntry} {c:Nat} {m:List (K×Value)} (hk:vf P kt kV) (h:jw kV es c m):
 ((Instr.findKey kt (kV x) es.toList).run P w= .ok none w∧m.lookup x=none)∨
 ∃ j v,(Instr.findKey kt (kV x) es.toList).run P w= .ok (some (j,v)) w∧m[j]? =some (x,v)∧m.lookup x=some v:=by
 obtain ⟨D,E⟩:=Co hk x es.toList m h.list
 rcases hk.find x w es.toList (fun e he=>by
  have:(e.key,e.val)∈m.map (fun p=>(kV p.1,p.2)):=by rw [← h.list]; exact cE.2 ⟨e,he,rfl⟩
  obtain ⟨p,_,hp⟩:=cE.1 this
  simp only [Prod.mk.injEq] at hp
  exact ⟨p.1,hp.1.symm⟩) with ⟨A,B⟩|⟨j,e,A,B,C⟩
 ·exact .inl ⟨A,D B⟩
 ·have:=E j e B C
  exact .inr ⟨j,e.val,A,this,(lj h.keys).1 (aP this)⟩
theorem jl {P:Program} {w:World} {kt:Nat} {x:K} (hk:vf P kt kV) (e:Bool):(Instr.checkKey e 10000 kt (kV x)).run P w= .ok () w:=hk.check e x w
section
variable {E:fI} {ops:Array Oper} {Q:dw} {rest:List Oper} {D:List Deferred} {L:List (Nat×Value)} {C:List aA}
variable {dst:Option Tmp} {d:Nat} {ty:TypeId} {ps:String} {af:Array Edge} {g:Option (Nat×Bool)}
theorem mH {t:TypeId} (hg:ki ops L g=true) (hd:Nat.blt d E.n=true) (k: ∀ b,RJ E ops Q rest D ((d,.map (some b))::L) (ks kV b []::C)):RJ E ops Q (⟨some d,.makeMap t none,ty,ps,af,g⟩::rest) D L C:=by
 intro a w B hs
 have hd':d<E.n:=by rw [← Nat.blt_eq]; exact hd
 unfold r_
 rw [if_pos (eu B hg)]
 refine jc (v:= .map (some w.heap.size)) (w':=w.alloc (.map #[] 0)) sm ?_ ?_
 ·simp [execOp,Instr.makeMap,newObj,Sem.run]
 ·refine k _ _ _ (B.put hd' _) (hs.grow (dU.alloc no w _) (N:=[ks kV w.heap.size []]) ⟨fun A hA=>?_,fun A hA b hb=>?_,List.pairwise_singleton _ _⟩)
  ·simp at hA; subst hA; exact ⟨#[],0,heap_alloc_new w _,jw.nil⟩
  ·simp at hA; subst hA; exact Nat.le_of_eq (Eq.symm hb)
theorem jw.push {es:Array MapEntry} {c:Nat} {m:List (K×Value)} (h:jw kV es c m) {x:K} (hx:m.lookup x=none) (v:Value):jw kV (es.push {key:=kV x,val:=v,born:=c}) (c+1) (m++[(x,v)]):=by
 refine ⟨by simp [h.list],?_,?_,?_⟩
 ·rw [List.map_append,List.nodup_append]
  refine ⟨h.keys,sm,fun a ha b hb=>?_⟩
  simp at hb; subst hb
  obtain ⟨p,hp,rfl⟩:=cE.1 ha
  exact iz.1 hx p hp
 ·intro e he
  simp only [Array.toList_push,gL,cv] at he
  rcases he with he|rfl
  ·exact Nat.lt_succ_of_lt (h.Ji e he)
  ·exact Nat.lt_succ_self _
 ·simp only [Array.toList_push,List.map_append,List.map_cons,List.map_nil]
  rw [List.nodup_append]
  refine ⟨h.born,sm,fun a ha b hb=>?_⟩
  simp at hb; subst hb
  obtain ⟨p,hp,rfl⟩:=cE.1 ha
  exact Nat.ne_of_lt (h.Ji p hp)
theorem KA {m:List (K×Value)} {j:Nat} {x:K} {v0 v:Value} (hn:(m.map (·.1)).Nodup) (hj:m[j]? =some (x,v0)):m.map (fun p=>if p.1=x then (x,v) else p)=m.set j (x,v):=by
 refine List.ext_getElem? fun i=>?_
 rw [fK,List.getElem?_set]
 by_cases e:j=i
 ·subst e
  have hl:=(aU.1 hj).1
  rw [hj]; simp [hl]
 ·rw [if_neg e]
  cases hi:m[i]? with
  |none=>rfl
  |some p=>
   simp only [Option.map_some]
   rw [if_neg]
   intro hp
   have B:(m.map (·.1))[i]? =some x:=by rw [fK,hi]; simp [hp]
   have C:(m.map (·.1))[j]? =some x:=by rw [fK,hj]; rfl
   have A:=(aU.1 B).1
   exact e (((List.getElem?_inj A hn).1 (B.trans C.symm)).symm)
theorem jw.set {es:Array MapEntry} {c:Nat} {m:List (K×Value)} (h:jw kV es c m) {x:K} {j:Nat} {v0:Value} (hj:m[j]? =some (x,v0)) (hx:m.lookup x=some v0) (v:Value):
 jw kV (es.modify j fun e=>{e with key:=kV x,val:=v}) c (eD m x v):=by
 have C:eD m x v=m.set j (x,v):=by unfold eD; rw [hx]; simpa using KA h.keys hj
 have hl:=(aU.1 hj).1
 have E:=h.size
 have A:j<es.size:=by omega
 have B:(es.modify j fun e=>{e with key:=kV x,val:=v}).toList=es.toList.set j {(es[j]) with key:=kV x,val:=v}:=by
  refine List.ext_getElem? fun i=>?_
  rw [Array.getElem?_toList,Array.getElem?_modify,List.getElem?_set]
  by_cases e:j=i
  ·subst e; simp [A]
  ·simp [e]
 have D:(es.toList.set j {(es[j]) with key:=kV x,val:=v}).map (·.born)=es.toList.map (·.born):=by
  rw [List.map_set]
  refine List.ext_getElem? fun i=>?_
  rw [List.getElem?_set]
  by_cases e:j=i
  ·subst e; simp [A]
  ·rw [if_neg e]
 refine ⟨?_,?_,?_,?_⟩
 ·rw [B,C,List.map_set,List.map_set,h.list]
 ·rw [C,List.map_set]
  have:(m.map (·.1)).set j x=m.map (·.1):=by
   refine List.ext_getElem? fun i=>?_
   rw [List.getElem?_set]
   by_cases e:j=i
   ·subst e; simp [hl]; simpa using (congrArg Prod.fst ((aU.1 hj).2)).symm
   ·rw [if_neg e]
  simp only [this]
  exact h.keys
 ·intro e he
  rw [B] at he
  have hb:e.born∈(es.toList.set j {(es[j]) with key:=kV x,val:=v}).map (·.born):=cE.2 ⟨e,he,rfl⟩
  rw [D] at hb
  obtain ⟨e',he',hq⟩:=cE.1 hb
  rw [← hq]; exact h.Ji e' he'
 ·rw [B,D]; exact h.born
/-- m[x] = y -/
theorem jt {t kt et:TypeId} {xm xk xv:Operand} {b:Nat} {x:K} {v:Value} {m m':List (K×Value)} {C':List aA} (i:Nat) (hg:ki ops L g=true) (hm:ev L xm=some (.map (some b))) (hk:ev L xk=some (kV x)) (hv:ev L xv=some v)
 (ht:E.P.underlying t=some (.map kt et)) (hkt:vf E.P kt kV) (hC:C[i]? =some (ks kV b m)) (hm':eD m x v=m') (hC':C.set i (ks kV b m')=C') (k:RJ E ops Q rest D L C'):
 RJ E ops Q (⟨none,.mapUpdate t xm xk xv,ty,ps,af,g⟩::rest) D L C:=by
 subst hm' hC'
 intro a w A hs
 unfold r_
 rw [if_pos (eu A hg)]
 obtain ⟨es,c,he,hi⟩:=hs.holds _ (aP hC)
 have B:(getObj b).run E.P w= .ok (.map es c) w:=MapKept.run_getObj_map he
 rcases oN (P:=E.P) (w:=w) (x:=x) hkt hi with ⟨AA,F⟩|⟨j,N,AA,F,J⟩
 ·refine rM (w':={w with heap:=w.heap.setIfInBounds b (.map (es.push {key:=kV x,val:=v,born:=c}) (c+1))}) sm ?_ ?_
  ·simp [execOp,A.ev hm,A.ev hk,A.ev hv,Instr.mapUpdate,run_underlying ht,B,jl hkt,AA,MapKept.run_setObj_map _ he]
  ·refine k _ _ ⟨A.defers,A.size,A.at_⟩ (hs.zl (b:=b) i hC U U (nc _) (fun _ h=>h) ⟨_,_,pt he,?_⟩)
   have:eD m x v=m++[(x,v)]:=by unfold eD; rw [F]; rfl
   rw [this]; exact hi.push F v
 ·have M:=hi.size
  have G:j<es.size:=by have:=(aU.1 F).1; omega
  have H:(es[j]).key=kV x:=by
   have:=congrArg (fun l=>l[j]?) hi.list
   simp [G,F] at this
   exact this.1
  refine rM (w':={w with heap:=w.heap.setIfInBounds b (.map (es.modify j fun e=>{e with key:=kV x,val:=v}) c)}) sm ?_ ?_
  ·simp [execOp,A.ev hm,A.ev hk,A.ev hv,Instr.mapUpdate,run_underlying ht,B,jl hkt,AA,MapKept.run_setObj_map _ he,Instr.keyThatStays,G,H,hkt.bits x]
  ·exact k _ _ ⟨A.defers,A.size,A.at_⟩ (hs.zl (b:=b) i hC U U (nc _) (fun _ h=>h) ⟨_,_,pt he,hi.set F J v⟩)
theorem jw.del {es:Array MapEntry} {c:Nat} {m:List (K×Value)} (h:jw kV es c m) {x:K} {j:Nat} {v0:Value} (hj:m[j]? =some (x,v0)):jw kV (es.eraseIdxIfInBounds j) c (fg m x):=by
 have hl:=(aU.1 hj).1
 have D:=h.size
 have A:j<es.size:=by omega
 have B:(es.eraseIdxIfInBounds j).toList=es.toList.eraseIdx j:=by simp [Array.eraseIdxIfInBounds,A]
 have E:fg m x=m.eraseIdx j:=by
  have hn:=h.keys
  clear h D A B
  induction m generalizing j with
  |nil=>simp at hj
  |cons p m ih=>
   obtain ⟨k,v⟩:=p
   simp only [List.map_cons,List.nodup_cons] at hn
   cases j with
   |zero=>
    simp at hj
    obtain ⟨rfl,rfl⟩:=hj
    simp only [fg,List.eraseIdx_zero,List.tail_cons]
    rw [List.filter_cons_of_neg sm]
    refine List.filter_eq_self.2 fun p hp=>?_
    have:p.1≠k:=fun e=>hn.1 (cE.2 ⟨p,hp,e⟩)
    simpa using this
   |succ j=>
    simp only [List.getElem?_cons_succ] at hj
    have C:k≠x:=fun e=>hn.1 (cE.2 ⟨_,aP hj,e.symm⟩)
    simp only [fg,List.eraseIdx_cons_succ] at ih ⊢
    rw [List.filter_cons_of_pos (by simpa using C),ih hj (by simpa using (aU.1 hj).1) hn.2]
 have sub:(es.eraseIdxIfInBounds j).toList.Sublist es.toList:=by rw [B]; exact List.eraseIdx_sublist _ _
 refine ⟨?_,?_,fun e he=>h.Ji e (sub.subset he),h.born.sublist (sub.map _)⟩
 ·rw [B,E,ChangeMaps.map_eraseIdx,ChangeMaps.map_eraseIdx,h.list]
 ·rw [E]; exact h.keys.sublist ((List.eraseIdx_sublist _ _).map _)
theorem CT {m:List (K×Value)} {x:K} (h:m.lookup x=none):fg m x=m:=List.filter_eq_self.2 fun p hp=>by simpa using iz.1 h p hp
/-- y, ok := m[x] -/
theorem Ij {t kt et:TypeId} {xm xk:Operand} {b:Nat} {x:K} {z:Value} {m:List (K×Value)} (hg:ki ops L g=true) (hm:ev L xm=some (.map (some b))) (hk:ev L xk=some (kV x))
 (ht:E.P.underlying t=some (.map kt et)) (hkt:vf E.P kt kV) (hz:tV E.P et=some z) (hC:hH C (ks kV b m).holds):
 SD E ops ⟨dst,.lookup t xm xk true,ty,ps,af,g⟩ D L C (.tuple [(m.lookup x).getD z,.bool (m.lookup x).isSome].toArray):=
 eU hg sm fun a w A hs=>by
  obtain ⟨es,c,he,hi⟩:=hs.has hC
  have B:(getObj b).run E.P w= .ok (.map es c) w:=MapKept.run_getObj_map he
  rcases oN (P:=E.P) (w:=w) (x:=x) hkt hi with ⟨F,G⟩|⟨j,AA,F,G,H⟩
  ·simp [execOp,Instr.lookup,A.ev hm,A.ev hk,run_underlying ht,B,jl hkt,F,G,HN hz]
  ·simp [execOp,Instr.lookup,A.ev hm,A.ev hk,run_underlying ht,B,jl hkt,F,H]
/-- m[x] -/
theorem FZ {t kt et:TypeId} {xm xk:Operand} {b:Nat} {x:K} {z:Value} {m:List (K×Value)} (hg:ki ops L g=true) (hm:ev L xm=some (.map (some b))) (hk:ev L xk=some (kV x))
 (ht:E.P.underlying t=some (.map kt et)) (hkt:vf E.P kt kV) (hz:tV E.P et=some z) (hC:hH C (ks kV b m).holds):
 SD E ops ⟨dst,.lookup t xm xk false,ty,ps,af,g⟩ D L C ((m.lookup x).getD z):=
 eU hg sm fun a w A hs=>by
  obtain ⟨es,c,he,hi⟩:=hs.has hC
  have B:(getObj b).run E.P w= .ok (.map es c) w:=MapKept.run_getObj_map he
  rcases oN (P:=E.P) (w:=w) (x:=x) hkt hi with ⟨F,G⟩|⟨j,AA,F,G,H⟩
  ·simp [execOp,Instr.lookup,A.ev hm,A.ev hk,run_underlying ht,B,jl hkt,F,G,HN hz]
  ·simp [execOp,Instr.lookup,A.ev hm,A.ev hk,run_underlying ht,B,jl hkt,F,H]
theorem sL {β:Type} {t kt et:TypeId} {xm xk:Operand} {b:Nat} {x:K} {f:β→Value} {z:β} {l:List (K×β)} (hg:ki ops L g=true) (hm:ev L xm=some (.map (some b))) (hk:ev L xk=some (kV x))
 (ht:E.P.underlying t=some (.map kt et)) (hkt:vf E.P kt kV) (hz:tV E.P et=some (f z)) (hC:hH C (ks kV b (cR f l)).holds):
 SD E ops ⟨dst,.lookup t xm xk true,ty,ps,af,g⟩ D L C (.tuple [f ((l.lookup x).getD z),.bool (l.lookup x).isSome].toArray):=by
 have:=Ij (dst:=dst) (ty:=ty) (ps:=ps) (af:=af) (D:=D) hg hm hk ht hkt hz hC
 rw [m0] at this
 have A:((l.lookup x).map f).getD (f z)=f ((l.lookup x).getD z):=by cases l.lookup x<;>rfl
 rw [A,Option.isSome_map] at this
 exact this
theorem vD {β:Type} {t kt et:TypeId} {xm xk:Operand} {b:Nat} {x:K} {f:β→Value} {z:β} {l:List (K×β)} (hg:ki ops L g=true) (hm:ev L xm=some (.map (some b))) (hk:ev L xk=some (kV x))
 (ht:E.P.underlying t=some (.map kt et)) (hkt:vf E.P kt kV) (hz:tV E.P et=some (f z)) (hC:hH C (ks kV b (cR f l)).holds):
 SD E ops ⟨dst,.lookup t xm xk false,ty,ps,af,g⟩ D L C (f ((l.lookup x).getD z)):=by
 have:=FZ (dst:=dst) (ty:=ty) (ps:=ps) (af:=af) (D:=D) hg hm hk ht hkt hz hC
 rw [m0] at this
 have A:((l.lookup x).map f).getD (f z)=f ((l.lookup x).getD z):=by cases l.lookup x<;>rfl
 rw [A] at this
 exact this
end
theorem mL {β:Type} {x:K} {y:β} {l:List (K×β)} (h:(x,y)∈l):(fg l x).length<l.length:=by
 unfold fg
 exact List.length_filter_lt_length_iff_exists.2 ⟨_,h,sm⟩
theorem yT {β:Type} {x:K} {p:K×β} {l:List (K×β)}:p∈fg l x↔p∈l∧p.1≠x:=by simp [fg]
/-- an iterator over a map: what is left; what came last -/
def zp (kV:K→Value) (r b:Nat) (m left:List (K×Value)) (cur:Option (K×Value)):aA where
 fE k:=k=r∨k=b
 wf k:=k=r∨k=b
 holds w:=r≠b∧ ∃ (es:Array MapEntry) (c since:Nat) (seen:Array Nat) (st:Nat),w.heap[b]? =some (.map es c)∧jw kV es c m∧w.heap[r]? =some (.mapIter (some b) since seen st)∧(∀ e∈es.toList,e.born<since)∧since≤st∧since≤c∧
  (leftOf es seen).toList.map (fun (e:MapEntry)=>(e.key,e.val))=left.map (fun p=>(kV p.1,p.2))∧
  ∀ p,cur=some p→ ∃ (e:MapEntry) (seen0:Array Nat),e∈es.toList∧seen=seen0.push e.born∧st=c∧e.key=kV p.1∧e.val=p.2
 wr:=true
 kB _ h:=h
 whole _ _ h:=h
 lt w h k hk:=by
  obtain ⟨_,es,c,since,seen,st,h1,_,h2,_⟩:=h
  rcases hk with rfl|rfl
  ·exact dR h2
  ·exact dR h1
 oH w w' hk h:=by
  obtain ⟨hne,es,c,since,seen,st,h1,h2,h3,h4⟩:=h
  exact ⟨hne,es,c,since,seen,st,(hk b (.inr rfl)).trans h1,h2,(hk r (.inl rfl)).trans h3,h4⟩
theorem Ay {r b:Nat} {m left:List (K×Value)} {cur:Option (K×Value)}:(∀ w,(zp kV r b m left cur).holds w→(zp kV r b m left none).holds w)∧(∀ k,(zp kV r b m left none).fE k→(zp kV r b m left cur).fE k)∧ ∀ k,(zp kV r b m left none).wf k→(zp kV r b m left cur).wf k:=
 ⟨fun w h=>by
  obtain ⟨A,es,c,since,seen,st,B,C,D,E,F,h5',G,_⟩:=h
  exact ⟨A,es,c,since,seen,st,B,C,D,E,F,h5',G,fun p hp=>by cases hp⟩,fun _ h=>h,fun _ h=>h⟩
theorem Hv {r b:Nat} {m left:List (K×Value)} {cur:Option (K×Value)}:(∀ w,(zp kV r b m left cur).holds w→(ks kV b m).holds w)∧(∀ k,(ks kV b m).fE k→(zp kV r b m left cur).fE k)∧ ∀ k,(ks kV b m).wf k→(zp kV r b m left cur).wf k:=
 ⟨fun w h=>by
  obtain ⟨C,es,c,since,seen,st,A,B,_⟩:=h
  exact ⟨es,c,A,B⟩,fun _ h=> .inr h,fun _ h=> .inr h⟩
theorem BG {es:Array MapEntry} {c:Nat} {m:List (K×Value)} (hinj: ∀ x y,kV x=kV y→x=y) (hi:jw kV es c m) {x y:MapEntry} (hx:x∈es.toList) (hy:y∈es.toList) (e:x.key=y.key):x=y:=by
 have hk:(es.toList.map (·.key))=(m.map (·.1)).map kV:=by
  have:=congrArg (List.map Prod.fst) hi.list
  simpa [Function.comp_def] using this
 have h:(es.toList.map (·.key)).Nodup:=by
  rw [hk,List.nodup_iff_pairwise_ne,List.pairwise_map]
  exact hi.keys.imp (fun B he=>B (hinj _ _ he))
 obtain ⟨i,A⟩:=List.getElem?_of_mem hx
 obtain ⟨j,hj⟩:=List.getElem?_of_mem hy
 have C:(es.toList.map (·.key))[i]? =some x.key:=by rw [fK,A]; rfl
 have D:(es.toList.map (·.key))[j]? =some x.key:=by rw [fK,hj,e]; rfl
 have E:=(List.getElem?_inj (aU.1 C).1 h).1 (C.trans D.symm)
 subst E
 exact Option.some.inj (A.symm.trans hj)
section
variable {E:fI} {ops:Array Oper} {Q:dw} {rest:List Oper} {D:List Deferred} {L:List (Nat×Value)} {C:List aA}
variable {dst:Option Tmp} {d:Nat} {ty:TypeId} {ps:String} {af:Array Edge} {g:Option (Nat×Bool)}
theorem yK {t kt et:TypeId} {xm:Operand} {b:Nat} {m:List (K×Value)} (i:Nat) (hg:ki ops L g=true) (hm:ev L xm=some (.map (some b))) (ht:E.P.underlying t=some (.map kt et)) (hC:C[i]? =some (ks kV b m)) (hd:Nat.blt d E.n=true)
 (k: ∀ r,RJ E ops Q rest D ((d,.pointer (some ⟨r,0,none⟩))::L) (C.set i (zp kV r b m m none))):RJ E ops Q (⟨some d,.range t xm,ty,ps,af,g⟩::rest) D L C:=by
 intro a w A hs
 have hd':d<E.n:=by rw [← Nat.blt_eq]; exact hd
 unfold r_
 rw [if_pos (eu A hg)]
 obtain ⟨es,c,he,hi⟩:=hs.holds _ (aP hC)
 have F:b<w.heap.size:=dR he
 have B:(getObj b).run E.P w= .ok (.map es c) w:=MapKept.run_getObj_map he
 refine jc (v:= .pointer (some ⟨w.heap.size,0,none⟩)) (w':=w.alloc (.mapIter (some b) c #[] c)) sm ?_ ?_
 ·simp [execOp,Instr.range,A.ev hm,run_underlying ht,B,newObj,Sem.run]
 ·refine k _ _ _ (A.put hd' _) (hs.mv i hC ⟨⟨I,es,c,c,#[],c,?_,hi,heap_alloc_new w _,hi.Ji,Nat.le_refl _,Nat.le_refl _,?_,fun p hp=>by cases hp⟩,dU.alloc _ w _,fun q hq=>?_,fun q hq=>?_⟩)
  ·rw [Below.heap_alloc w _ b F]; exact he
  ·have:leftOf es #[]=es:=by unfold leftOf; exact Array.filter_eq_self.2 sm
   rw [this]; exact hi.list
  ·rcases hq with rfl|rfl
   ·exact .inr (Nat.le_refl _)
   ·exact .inl U
  ·rcases hq with rfl|rfl
   ·exact .inr (Nat.le_refl _)
   ·exact .inl U
theorem xb {es:Array MapEntry} {c:Nat} {m left:List (K×Value)} {seen:Array Nat} (hinj: ∀ x y,kV x=kV y→x=y) (hi:jw kV es c m) (h:(leftOf es seen).toList.map (fun (e:MapEntry)=>(e.key,e.val))=left.map (fun p=>(kV p.1,p.2))):(left.map (·.1)).Nodup:=by
 have B:((leftOf es seen).toList.map (·.key)).Sublist (es.toList.map (·.key)):=by
  unfold leftOf; rw [Array.toList_filter]; exact List.filter_sublist.map _
 have D:(es.toList.map (·.key))=(m.map (·.1)).map kV:=by
  have:=congrArg (List.map Prod.fst) hi.list
  simpa [Function.comp_def] using this
 have E:((leftOf es seen).toList.map (·.key))=(left.map (·.1)).map kV:=by
  have:=congrArg (List.map Prod.fst) h
  simpa [Function.comp_def] using this
 rw [D,E] at B
 have F:((m.map (·.1)).map kV).Nodup:=by
  rw [List.nodup_iff_pairwise_ne,List.pairwise_map]
  exact hi.keys.imp (fun A he=>A (hinj _ _ he))
 have C:=F.sublist B
 rw [List.nodup_iff_pairwise_ne,List.pairwise_map] at C
 rw [List.nodup_iff_pairwise_ne]
 exact C.imp (fun A he=>A (by rw [he]))
theorem IX (hinj: ∀ x y,kV x=kV y→x=y) {xi:Operand} {r b:Nat} {m left:List (K×Value)} {cur:Option (K×Value)} (i:Nat) (hg:ki ops L g=true) (hm:ev L xi=some (.pointer (some ⟨r,0,none⟩))) (hC:C[i]? =some (zp kV r b m left cur)) (hd:Nat.blt d E.n=true)
 (k0:left=[]→RJ E ops Q rest D ((d,.tuple [.bool false].toArray)::L) C)
 (k1: ∀ x v,(x,v)∈left→(left.map (·.1)).Nodup→RJ E ops Q rest D ((d,.tuple [.bool true,kV x,v].toArray)::L) (C.set i (zp kV r b m (fg left x) (some (x,v))))):
 RJ E ops Q (⟨some d,.next xi false,ty,ps,af,g⟩::rest) D L C:=by
 intro a w G hs
 have hd':d<E.n:=by rw [← Nat.blt_eq]; exact hd
 unfold r_
 rw [if_pos (eu G hg)]
 obtain ⟨R,es,c,since,seen,st,X,hi,Y,J,V,M,A,_⟩:=hs.holds _ (aP hC)
 rcases run_next_at (P:=E.P) w ty r b since st seen es c Y X J V with ⟨Z,hr⟩|⟨e,he,N,H,hr⟩
 ·refine jc (v:= .tuple #[.bool false]) (w':=w) sm ?_ ?_
  ·simp [execOp,G.ev hm,hr]
  ·refine k0 ?_ _ _ (G.put hd' _) hs
   have:(leftOf es seen).toList=[]:=by rw [← List.length_eq_zero_iff,Array.length_toList]; exact Z
   rw [this] at A
   exact List.map_eq_nil_iff.1 A.symm
 ·have O:(e.key,e.val)∈left.map (fun p=>(kV p.1,p.2)):=by rw [← A]; exact cE.2 ⟨e,he,rfl⟩
  obtain ⟨p,hp,S⟩:=cE.1 O
  obtain ⟨x,v⟩:=p
  simp only [Prod.mk.injEq] at S
  obtain ⟨hk,hv⟩:=S
  refine jc (v:= .tuple #[.bool true,e.key,e.val]) (w':=ChangeMaps.setBlock N r (.mapIter (some b) since (seen.push e.born) c)) sm ?_ ?_
  ·simp [execOp,G.ev hm,hr]
  ·rw [← hk,← hv]
   have AA:=xb hinj hi A
   have F:e∈es.toList:=by unfold leftOf at he; rw [Array.toList_filter] at he; exact (List.mem_filter.1 he).1
   have f:c=c:=rfl
   have B:N.heap=w.heap:=by rcases H with rfl|rfl<;>rfl
   refine k1 x v hp AA _ _ (G.put hd' _) (hs.mv i hC ⟨⟨R,es,c,since,seen.push e.born,c,?_,hi,?_,J,M,M,?_,fun q hq=>?_⟩,?_,fun q hq=> .inl hq,fun q hq=> .inl hq⟩)
   ·show (N.heap.setIfInBounds r _)[b]? =_
    rw [Array.getElem?_setIfInBounds_ne R,B]; exact X
   ·show (N.heap.setIfInBounds r _)[r]? =_
    rw [Array.getElem?_setIfInBounds_self_of_lt (by rw [B]; exact dR Y)]
   ·have T:leftOf es (seen.push e.born)=(leftOf es seen).filter (fun z=> !(z.born==e.born)):=by
     unfold leftOf
     rw [Array.filter_filter]
     congr 1
     funext z
     simp only [Array.contains_push,Bool.not_or]
     rw [Bool.and_comm]
    rw [T,Array.toList_filter]
    have key: ∀ (l:List MapEntry) (ll:List (K×Value)),(∀ z∈l,z∈es.toList)→l.map (fun (e:MapEntry)=>(e.key,e.val))=ll.map (fun p=>(kV p.1,p.2))→
     (l.filter (fun z=> !(z.born==e.born))).map (fun (e:MapEntry)=>(e.key,e.val))=(fg ll x).map (fun p=>(kV p.1,p.2)):=by
     intro l
     induction l with
     |nil=>intro ll _ h; cases ll with
      |nil=>rfl
      |cons p ll=>simp at h
     |cons z l ih=>
      intro ll hz h
      cases ll with
      |nil=>simp at h
      |cons p ll=>
       simp only [List.map_cons,List.cons.injEq,Prod.mk.injEq] at h
       have ih':=ih ll (fun y hy=>hz y (by simp [hy])) h.2
       have AB:(z.born=e.born)↔(p.1=x):=by
        constructor
        ·intro hb
         have:z=e:=Cc hi.born (hz z sm) F hb
         rw [this] at h
         have:=h.1.1.symm.trans hk.symm
         exact hinj _ _ this
        ·intro hx
         have W:z.key=e.key:=by rw [h.1.1,hx,hk]
         rw [BG hinj hi (hz z sm) F W]
       unfold fg at ih' ⊢
       by_cases hx:p.1=x
       ·rw [List.filter_cons_of_neg (by simp [AB.2 hx]),List.filter_cons_of_neg (by simp [hx])]; exact ih'
       ·rw [List.filter_cons_of_pos (by simpa using fun hb=>hx (AB.1 hb)),List.filter_cons_of_pos (by simpa using hx)]
        simp only [List.map_cons,h.1.1,h.1.2,ih']
    exact key _ _ (fun z hz=>by unfold leftOf at hz; rw [Array.toList_filter] at hz; exact (List.mem_filter.1 hz).1) A
   ·cases hq
    exact ⟨e,seen,F,U,U,hk.symm,hv.symm⟩
   ·refine ⟨?_,?_,?_,?_,fun q hq hn=>?_⟩
    ·rcases H with rfl|rfl<;>rfl
    ·rcases H with rfl|rfl<;>rfl
    ·rcases H with rfl|rfl<;>rfl
    ·show w.heap.size≤(N.heap.setIfInBounds r _).size
     simp [B]
    ·show (N.heap.setIfInBounds r _)[q]? =_
     rw [Array.getElem?_setIfInBounds_ne (fun e=>hn (.inl e.symm)),B]
theorem wM {xi:Operand} {r b:Nat} {m left:List (K×Value)} {x:K} {v:Value} (i:Nat) (hg:ki ops L g=true) (hm:ev L xi=some (.pointer (some ⟨r,0,none⟩))) (hC:C[i]? =some (zp kV r b m left (some (x,v)))):
 SD E ops ⟨dst,.entry xi,ty,ps,af,g⟩ D L C (.tuple [kV x,v].toArray):=
 eU hg sm fun a w F hs=>by
  obtain ⟨N,es,c,since,seen,st,J,hi,M,H,O,AA,G,B⟩:=hs.holds _ (aP hC)
  obtain ⟨e,A,he,rfl,rfl,hk,hv⟩:=B _ rfl
  have:=run_entry_at (P:=E.P) w r b since A es st e M J he hi.born
  simp [execOp,F.ev hm,this,hk,hv]
theorem wI (hinj: ∀ x y,kV x=kV y→x=y) {β:Type} {f:β→Value} {xi:Operand} {r b:Nat} {m:List (K×Value)} {ll:List (K×β)} {cur:Option (K×Value)} (i:Nat) (hg:ki ops L g=true) (hm:ev L xi=some (.pointer (some ⟨r,0,none⟩))) (hC:C[i]? =some (zp kV r b m (cR f ll) cur)) (hd:Nat.blt d E.n=true)
 (k0:ll=[]→RJ E ops Q rest D ((d,.tuple [.bool false].toArray)::L) C)
 (k1: ∀ x y,(x,y)∈ll→(ll.map (·.1)).Nodup→RJ E ops Q rest D ((d,.tuple [.bool true,kV x,f y].toArray)::L) (C.set i (zp kV r b m (cR f (fg ll x)) (some (x,f y))))):
 RJ E ops Q (⟨some d,.next xi false,ty,ps,af,g⟩::rest) D L C:=by
 refine IX hinj i hg hm hC hd (fun h=>k0 (List.map_eq_nil_iff.1 h)) (fun x v B hn=>?_)
 obtain ⟨p,hp,A⟩:=cE.1 B
 simp only [Prod.mk.injEq] at A
 obtain ⟨rfl,rfl⟩:=A
 have:=k1 p.1 p.2 hp (by simpa [cR,Function.comp_def] using hn)
 rwa [nK] at this
end
end
end
section
structure bZ where
 Start:Int
 fP:Int
 qh:List Int
 vo:List (List (Int×ai))
 dp:Int
 e9:Int
 OB:Int
def bZ.n (w:bZ):Nat:=w.qh.length
def fG (s:Int):aJ:=if s<0 then ⟨0,1⟩ else ⟨1,0⟩
def dD (a b:aJ):aJ:=⟨a.right+b.right,a.eW+b.eW⟩
def uh (w:bZ) (b:Nat):List (Int×ai):=(w.vo[b]?).getD []
def iS (w:bZ) (b:Nat):List (Int×ai):=(-1,⟨w.Start,w.fP⟩)::uh w b
def cf (w:bZ) (b:Nat):Int:=(w.qh[b]?).getD 0
def k9 (w:bZ) (b:Nat) (p:aJ×Int) (o:Int×ai):Option (aJ×Int):=if max (p.2+cf w b) o.2.Lo≤min o.2.Hi w.fP then some (dD p.1 (fG o.1),max (p.2+cf w b) o.2.Lo) else none
def fwd (w:bZ):Nat→List (aJ×Int)
 |0=>[(⟨0,0⟩,w.Start)]
 |b+1=>(fwd w b).flatMap fun p=>(iS w b).filterMap (k9 w b p)
def nY (w:bZ) (b:Nat) (p:aJ×Int) (o:Int×ai):Option (aJ×Int):=if o.2.Lo≤min p.2 o.2.Hi then some (dD p.1 (fG o.1),min p.2 o.2.Hi-cf w b) else none
def bwd (w:bZ):Nat→List (aJ×Int)
 |0=>[(⟨0,0⟩,w.fP)]
 |k+1=>(⟨0,0⟩,w.fP)::(bwd w k).flatMap fun p=>(iS w (w.n-(k+1))).filterMap (nY w (w.n-(k+1)) p)
def back (w:bZ) (b:Nat):List (aJ×Int):=bwd w (w.n-b)
def kS (w:bZ) (t:aJ):Bool:=decide (t.eW≤w.dp∧w.OB-t.right≤w.e9)
theorem gh {w:bZ} {b:Nat} {q:aJ×Int}:q∈fwd w (b+1)↔ ∃ p∈fwd w b,∃ o∈iS w b,k9 w b p o=some q:=by
 simp only [fwd,List.mem_flatMap,List.mem_filterMap]
theorem uT {w:bZ} {b:Nat} (h:w.n≤b):back w b=[(⟨0,0⟩,w.fP)]:=by
 unfold back; rw [Nat.sub_eq_zero_of_le h]; rfl
theorem o0 {w:bZ} {b:Nat} (h:b<w.n) {q:aJ×Int}:q∈back w b↔q=(⟨0,0⟩,w.fP)∨ ∃ p∈back w (b+1),∃ o∈iS w b,nY w b p o=some q:=by
 unfold back
 have e:w.n-b=(w.n-(b+1))+1:=by omega
 rw [e]
 simp only [bwd,cg,List.mem_flatMap,List.mem_filterMap]
 rw [show w.n-(w.n-(b+1)+1)=b by omega]
def tN (m c:List (aJ×Int)):Prop:=(∀ t v,m.lookup t=some v→(t,v)∈c)∧ ∀ t y,(t,y)∈c→ ∃ v,m.lookup t=some v∧v≤y
def vy (m c:List (aJ×Int)):Prop:=(∀ t v,m.lookup t=some v→(t,v)∈c)∧ ∀ t y,(t,y)∈c→ ∃ v,m.lookup t=some v∧y≤v
def vr (m c:List (aJ×Int)):Prop:= ∀ t v,m.lookup t=some v→(t,v)∈c
theorem mX {K β:Type} [DecidableEq K] {m:List (K×β)} {x t:K} {y:β}:(eD m x y).lookup t=if t=x then some y else m.lookup t:=by
 unfold eD
 by_cases hx:(m.lookup x).isSome
 ·rw [if_pos hx]
  have key: ∀ l:List (K×β),(l.lookup x).isSome∨True→(l.map (fun p=>if p.1=x then (x,y) else p)).lookup t=if t=x then (if (l.lookup x).isSome then some y else none) else l.lookup t:=by
   intro l _
   induction l with
   |nil=>simp
   |cons p l ih=>
    obtain ⟨k,v⟩:=p
    have ih:=ih (.inr trivial)
    by_cases hk:k=x
    ·subst hk
     by_cases ht:t=k
     ·subst ht; simp [List.lookup]
     ·have:(t==k)=false:=by simpa using ht
      simp only [List.map_cons,if_true,List.lookup,this,ih,if_neg ht]
    ·have hk':(x==k)=false:=by simpa using fun e=>hk e.symm
     by_cases ht:t=k
     ·subst ht; simp [List.lookup,hk]
     ·have A:(t==k)=false:=by simpa using ht
      simp only [List.map_cons,if_neg hk,List.lookup,A,ih,hk']
  rw [key m (.inr trivial)]
  by_cases ht:t=x
  ·subst ht
   rw [if_pos rfl,if_pos rfl,if_pos hx]
  ·rw [if_neg ht,if_neg ht]
 ·rw [if_neg hx]
  have hn:m.lookup x=none:=by cases h0:m.lookup x with
   |none=>rfl
   |some v=>exact absurd (by rw [h0]; rfl) hx
  by_cases ht:t=x
  ·subst ht
   rw [if_pos rfl]
   have:=iz.1 hn
   clear hn hx
   induction m with
   |nil=>simp
   |cons p m ih=>
    obtain ⟨k,v⟩:=p
    have hk:(t==k)=false:=by simpa using fun e=>this (k,v) sm e.symm
    simp only [List.cons_append,List.lookup,hk]
    exact ih (fun q hq=>this q (dH _ hq))
  ·rw [if_neg ht]
   clear hn hx
   induction m with
   |nil=>
    have:(t==x)=false:=by simpa using ht
    simp [List.lookup,this]
   |cons p m ih=>
    obtain ⟨k,v⟩:=p
    by_cases hk:t=k
    ·subst hk; simp [List.lookup]
    ·have:(t==k)=false:=by simpa using hk
     simp only [List.cons_append,List.lookup,this]
     exact ih
/-- what a map is after a try -/
def pk (m:List (aJ×Int)) (q:aJ×Int):List (aJ×Int):=match m.lookup q.1 with
 |none=>eD m q.1 q.2
 |some v=>if q.2<v then eD m q.1 q.2 else m
def o_ (m:List (aJ×Int)) (q:aJ×Int):List (aJ×Int):=match m.lookup q.1 with
 |none=>eD m q.1 q.2
 |some v=>if v<q.2 then eD m q.1 q.2 else m
theorem xD {m:List (aJ×Int)} {q:aJ×Int} {t:aJ}:(pk m q).lookup t=if t=q.1 then some (match m.lookup q.1 with |none=>q.2|some v=>min q.2 v) else m.lookup t:=by
 unfold pk
 cases h:m.lookup q.1 with
 |none=>simp only; rw [mX]
 |some v=>
  simp only
  split
  ·rename_i A
   rw [mX,Int.min_eq_left I]
  ·rename_i A
   split
   ·rename_i e; subst e; rw [h,Int.min_eq_right I]
   ·rfl
theorem wH {m:List (aJ×Int)} {q:aJ×Int} {t:aJ}:(o_ m q).lookup t=if t=q.1 then some (match m.lookup q.1 with |none=>q.2|some v=>max q.2 v) else m.lookup t:=by
 unfold o_
 cases h:m.lookup q.1 with
 |none=>simp only; rw [mX]
 |some v=>
  simp only
  split
  ·rename_i A
   rw [mX,Int.max_eq_left I]
  ·rename_i A
   split
   ·rename_i e; subst e; rw [h,Int.max_eq_right I]
   ·rfl
def xj (m m':List (aJ×Int)):Prop:= ∀ t v,m.lookup t=some v→ ∃ v',m'.lookup t=some v'∧v'≤v
def wJ (m m':List (aJ×Int)):Prop:= ∀ t v,m.lookup t=some v→ ∃ v',m'.lookup t=some v'∧v≤v'
theorem xj.refl (m:List (aJ×Int)):xj m m:=fun t v h=>⟨v,h,I⟩
theorem wJ.refl (m:List (aJ×Int)):wJ m m:=fun t v h=>⟨v,h,I⟩
theorem vE {m:List (aJ×Int)} {q:aJ×Int}:xj m (pk m q):=fun t v h=>by
 rw [xD]
 split
 ·rename_i e; subst e; rw [h]; exact ⟨_,rfl,by simp only; omega⟩
 ·exact ⟨v,h,I⟩
theorem qP {m:List (aJ×Int)} {q:aJ×Int}:wJ m (o_ m q):=fun t v h=>by
 rw [wH]
 split
 ·rename_i e; subst e; rw [h]; exact ⟨_,rfl,by simp only; omega⟩
 ·exact ⟨v,h,I⟩
theorem GB {m c:List (aJ×Int)} {q:aJ×Int} (h:vr m c) (hq:q∈c):vr (pk m q) c:=fun t v hv=>by
 rw [xD] at hv
 split at hv
 ·rename_i e
  subst e
  cases hm:m.lookup q.1 with
  |none=>simp only [hm,Option.some.injEq] at hv; subst hv; exact hq
  |some x=>
   simp only [hm,Option.some.injEq] at hv; subst hv
   rcases Int.lt_or_le q.2 x with A|A
   ·rw [Int.min_eq_left I]; exact hq
   ·rw [Int.min_eq_right I]; exact h _ _ hm
 ·exact h t v hv
theorem E1 {m c:List (aJ×Int)} {q:aJ×Int} (h:vr m c) (hq:q∈c):vr (o_ m q) c:=fun t v hv=>by
 rw [wH] at hv
 split at hv
 ·rename_i e
  subst e
  cases hm:m.lookup q.1 with
  |none=>simp only [hm,Option.some.injEq] at hv; subst hv; exact hq
  |some x=>
   simp only [hm,Option.some.injEq] at hv; subst hv
   rcases Int.lt_or_le q.2 x with A|A
   ·rw [Int.max_eq_right I]; exact h _ _ hm
   ·rw [Int.max_eq_left I]; exact hq
 ·exact h t v hv
theorem F5 {m:List (aJ×Int)} {q:aJ×Int}: ∃ v,(pk m q).lookup q.1=some v∧v≤q.2:=by
 rw [xD,if_pos rfl]
 refine ⟨_,U,?_⟩
 cases m.lookup q.1<;>simp only <;>omega
theorem FV {m:List (aJ×Int)} {q:aJ×Int}: ∃ v,(o_ m q).lookup q.1=some v∧q.2≤v:=by
 rw [wH,if_pos rfl]
 refine ⟨_,U,?_⟩
 cases m.lookup q.1<;>simp only <;>omega
/-- all that comes of one entry, by some options, is held -/
def jz (w:bZ) (b:Nat) (m:List (aJ×Int)) (p:aJ×Int) (os:List (Int×ai)):Prop:= ∀ o∈os,∀ q,k9 w b p o=some q→ ∃ v,m.lookup q.1=some v∧v≤q.2
def jv (w:bZ) (b:Nat) (m:List (aJ×Int)) (p:aJ×Int) (os:List (Int×ai)):Prop:= ∀ o∈os,∀ q,nY w b p o=some q→ ∃ v,m.lookup q.1=some v∧q.2≤v
theorem jz.lower {w:bZ} {b:Nat} {m m':List (aJ×Int)} {p:aJ×Int} {os:List (Int×ai)} (h:jz w b m p os) (hl:xj m m'):jz w b m' p os:=fun o ho q hq=>by
 obtain ⟨v,A,C⟩:=h o ho q hq
 obtain ⟨v',B,D⟩:=hl _ _ A
 exact ⟨v',B,I⟩
theorem jv.upper {w:bZ} {b:Nat} {m m':List (aJ×Int)} {p:aJ×Int} {os:List (Int×ai)} (h:jv w b m p os) (hl:wJ m m'):jv w b m' p os:=fun o ho q hq=>by
 obtain ⟨v,A,C⟩:=h o ho q hq
 obtain ⟨v',B,D⟩:=hl _ _ A
 exact ⟨v',B,I⟩
theorem jz.sub {w:bZ} {b:Nat} {m:List (aJ×Int)} {p:aJ×Int} {os os':List (Int×ai)} (h:jz w b m p os) (hs: ∀ o∈os',o∈os):jz w b m p os':=fun o ho=>h o (hs o ho)
theorem jv.sub {w:bZ} {b:Nat} {m:List (aJ×Int)} {p:aJ×Int} {os os':List (Int×ai)} (h:jv w b m p os) (hs: ∀ o∈os',o∈os):jv w b m p os':=fun o ho=>h o (hs o ho)
theorem jz.add {w:bZ} {b:Nat} {m m':List (aJ×Int)} {p:aJ×Int} {os:List (Int×ai)} {o:Int×ai} (h:jz w b m p os) (hl:xj m m') (hn: ∀ q,k9 w b p o=some q→ ∃ v,m'.lookup q.1=some v∧v≤q.2):jz w b m' p (os++[o]):=fun o' ho q hq=>by
 rcases gL.1 ho with ho|ho
 ·exact h.lower hl o' ho q hq
 ·simp only [cv] at ho; subst ho; exact hn q hq
theorem jv.add {w:bZ} {b:Nat} {m m':List (aJ×Int)} {p:aJ×Int} {os:List (Int×ai)} {o:Int×ai} (h:jv w b m p os) (hl:wJ m m') (hn: ∀ q,nY w b p o=some q→ ∃ v,m'.lookup q.1=some v∧q.2≤v):jv w b m' p (os++[o]):=fun o' ho q hq=>by
 rcases gL.1 ho with ho|ho
 ·exact h.upper hl o' ho q hq
 ·simp only [cv] at ho; subst ho; exact hn q hq
theorem fO {m:List (aJ×Int)} (hn:(m.map (·.1)).Nodup) {t:aJ} {v:Int}:(t,v)∈m↔m.lookup t=some v:=lj hn
theorem oQ {z t:aJ} {x v:Int}:List.lookup t [(z,x)]=some v↔t=z∧v=x:=by
 by_cases e:t=z
 ·subst e; simp [List.lookup,eq_comm]
 ·have:(t==z)=false:=by simpa using e
  simp [List.lookup,this,e]
theorem Gb {w:bZ}:tN [(⟨0,0⟩,w.Start)] (fwd w 0):=by
 refine ⟨fun t v h=>?_,fun t y h=>?_⟩
 ·obtain ⟨rfl,rfl⟩:=oQ.1 h
  simp [fwd]
 ·simp only [fwd,cv,Prod.mk.injEq] at h
  obtain ⟨rfl,rfl⟩:=h
  exact ⟨w.Start,oQ.2 ⟨U,U⟩,Int.le_refl _⟩
theorem H7 {w:bZ} {b:Nat} {mb m:List (aJ×Int)} (hn:(mb.map (·.1)).Nodup) (h:tN mb (fwd w b)) (hs:vr m (fwd w (b+1))) (hd: ∀ p∈mb,jz w b m p (iS w b)):tN m (fwd w (b+1)):=⟨hs,fun t y hy=>by
 obtain ⟨p,hp,o,ho,e⟩:=gh.1 hy
 obtain ⟨v,B,E⟩:=h.2 p.1 p.2 hp
 unfold k9 at e
 split at e
 ·rename_i D
  simp only [Option.some.injEq,Prod.mk.injEq] at e
  obtain ⟨v',A,C⟩:=hd (p.1,v) ((fO hn).2 B) o ho (dD p.1 (fG o.1),max (v+cf w b) o.2.Lo) (by unfold k9; rw [if_pos (by simp only; omega)])
  simp only at A C
  rw [e.1] at A
  exact ⟨v',A,I⟩
 ·cases e⟩
theorem IZ {w:bZ} {b:Nat} (hb:w.n≤b):vy [(⟨0,0⟩,w.fP)] (back w b):=by
 rw [uT hb]
 refine ⟨fun t v h=>?_,fun t y h=>?_⟩
 ·obtain ⟨rfl,rfl⟩:=oQ.1 h
  simp
 ·simp only [cv,Prod.mk.injEq] at h
  obtain ⟨rfl,rfl⟩:=h
  exact ⟨w.fP,oQ.2 ⟨U,U⟩,Int.le_refl _⟩
theorem Jl {w:bZ} {b:Nat} (hb:b<w.n) {mb m:List (aJ×Int)} (hn:(mb.map (·.1)).Nodup) (h:vy mb (back w (b+1))) (hs:vr m (back w b)) (h0: ∃ v,m.lookup ⟨0,0⟩=some v∧w.fP≤v) (hd: ∀ p∈mb,jv w b m p (iS w b)):vy m (back w b):=⟨hs,fun t y hy=>by
 rcases (o0 hb).1 hy with e|⟨p,hp,o,ho,e⟩
 ·simp only [Prod.mk.injEq] at e
  obtain ⟨rfl,rfl⟩:=e
  exact h0
 obtain ⟨v,B,E⟩:=h.2 p.1 p.2 hp
 unfold nY at e
 split at e
 ·rename_i D
  simp only [Option.some.injEq,Prod.mk.injEq] at e
  obtain ⟨v',A,C⟩:=hd (p.1,v) ((fO hn).2 B) o ho (dD p.1 (fG o.1),min v o.2.Hi-cf w b) (by unfold nY; rw [if_pos (by simp only; omega)])
  simp only at A C
  rw [e.1] at A
  exact ⟨v',A,I⟩
 ·cases e⟩
end
section
def jM (w:bZ) (b:Nat) (p u:aJ×Int) (o:Int×ai):ai:=⟨max (p.2+cf w b) o.2.Lo,min u.2 o.2.Hi⟩
def wQ (p u:aJ×Int) (o:Int×ai):aJ:=dD (dD p.1 u.1) (fG o.1)
def mI (w:bZ) (b:Nat) (p u:aJ×Int) (o:Int×ai):Option (Int×ai):=if (jM w b p u o).Lo≤(jM w b p u o).Hi∧kS w (wQ p u o)=true then some (o.1,jM w b p u o) else none
def qd (w:bZ) (b:Nat) (mf mb:List (aJ×Int)):List (Int×ai):=(iS w b).flatMap fun o=>mf.flatMap fun p=>mb.filterMap fun u=>mI w b p u o
def mR (w:bZ) (b:Nat):List (Int×ai):=qd w b (fwd w b) (back w (b+1))
theorem iE {w:bZ} {b:Nat} {mf mb:List (aJ×Int)} {q:Int×ai}:q∈qd w b mf mb↔ ∃ o∈iS w b,∃ p∈mf,∃ u∈mb,mI w b p u o=some q:=by
 simp only [qd,List.mem_flatMap,List.mem_filterMap]
theorem jK {w:bZ} {b:Nat} {p u:aJ×Int} {o q:Int×ai}:mI w b p u o=some q↔(jM w b p u o).Lo≤(jM w b p u o).Hi∧kS w (wQ p u o)=true∧q=(o.1,jM w b p u o):=by
 unfold mI
 split
 ·rename_i h
  simp only [Option.some.injEq]
  exact ⟨fun e=>⟨h.1,h.2,e.symm⟩,fun e=>e.2.2.symm⟩
 ·rename_i h
  simp only [reduceCtorEq,false_iff]
  exact fun e=>h ⟨e.1,e.2.1⟩
theorem mW {w:bZ} {b:Nat} {mf mb:List (aJ×Int)} {q:Int×ai} (h:q∈qd w b mf mb):q.2.Lo≤q.2.Hi:=by
 obtain ⟨o,_,p,_,u,_,e⟩:=iE.1 h
 obtain ⟨A,_,rfl⟩:=jK.1 e
 exact A
/-- what the maps tell is what all ways tell -/
theorem L6 {w:bZ} {b:Nat} {mf mb:List (aJ×Int)} (hf:tN mf (fwd w b)) (hb:vy mb (back w (b+1))) (nf:(mf.map (·.1)).Nodup) (nb:(mb.map (·.1)).Nodup) {q:Int×ai} (h:q∈qd w b mf mb):q∈mR w b:=by
 obtain ⟨o,ho,p,hp,u,hu,e⟩:=iE.1 h
 exact iE.2 ⟨o,ho,p,hf.1 _ _ ((fO nf).1 hp),u,hb.1 _ _ ((fO nb).1 hu),e⟩
theorem GH {w:bZ} {b:Nat} {mf mb:List (aJ×Int)} (hf:tN mf (fwd w b)) (hb:vy mb (back w (b+1))) (nf:(mf.map (·.1)).Nodup) (nb:(mb.map (·.1)).Nodup) {q:Int×ai} (h:q∈mR w b): ∃ q'∈qd w b mf mb,q'.1=q.1∧q'.2.Lo≤q.2.Lo∧q.2.Hi≤q'.2.Hi:=by
 obtain ⟨o,ho,p,hp,u,hu,e⟩:=iE.1 h
 obtain ⟨A,B,rfl⟩:=jK.1 e
 obtain ⟨v,hv,C⟩:=hf.2 p.1 p.2 hp
 obtain ⟨y,hy,D⟩:=hb.2 u.1 u.2 hu
 simp only [jM] at A
 refine ⟨(o.1,jM w b (p.1,v) (u.1,y) o),iE.2 ⟨o,ho,(p.1,v),(fO nf).2 hv,(u.1,y),(fO nb).2 hy,jK.2 ⟨?_,B,U⟩⟩,U,?_,?_⟩
 ·simp only [jM]; omega
 ·simp only [jM]; omega
 ·simp only [jM]; omega
def mQ:ai:=⟨1,0⟩
def mF (h x:ai):ai:=if h=mQ then x else ⟨min x.Lo h.Lo,max x.Hi h.Hi⟩
def xA (l:List (Int×ai)):ai:=l.foldl (fun h q=>mF h q.2) mQ
structure oD (l:List (Int×ai)) (h:ai):Prop where
 le:h.Lo≤h.Hi
 lo: ∃ x∈l,x.2.Lo=h.Lo
 hi: ∃ x∈l,x.2.Hi=h.Hi
 all: ∀ x∈l,h.Lo≤x.2.Lo∧x.2.Hi≤h.Hi
def kD (l:List (Int×ai)) (h:ai):Prop:=(l=[]∧h=mQ)∨oD l h
theorem oD.ne {l:List (Int×ai)} {h:ai} (hh:oD l h):h≠mQ:=fun e=>by
 have:=hh.le; rw [e] at this; simp [mQ] at this
theorem Ae:kD [] mQ:= .inl ⟨rfl,rfl⟩
theorem vh {l:List (Int×ai)} {h:ai} {q:Int×ai} (hh:kD l h) (hq:q.2.Lo≤q.2.Hi):kD (l++[q]) (mF h q.2):=by
 right
 rcases hh with ⟨rfl,rfl⟩|hh
 ·unfold mF
  rw [if_pos rfl]
  exact ⟨hq,⟨q,sm,rfl⟩,⟨q,sm,rfl⟩,fun x hx=>by simp at hx; subst hx; exact ⟨Int.le_refl _,Int.le_refl _⟩⟩
 ·unfold mF
  rw [if_neg hh.ne]
  have A:=hh.le
  obtain ⟨a,ha,ea⟩:=hh.lo
  obtain ⟨c,hc,ec⟩:=hh.hi
  refine ⟨by simp only; omega,?_,?_,fun x hx=>?_⟩
  ·rcases Int.lt_or_le q.2.Lo h.Lo with p|p
   ·exact ⟨q,sm,by simp only; omega⟩
   ·exact ⟨a,by simp [ha],by simp only; omega⟩
  ·rcases Int.lt_or_le h.Hi q.2.Hi with p|p
   ·exact ⟨q,sm,by simp only; omega⟩
   ·exact ⟨c,by simp [hc],by simp only; omega⟩
  ·rcases gL.1 hx with hx|hx
   ·have:=hh.all x hx; simp only; omega
   ·simp at hx; subst hx; simp only; omega
theorem vd {l:List (Int×ai)} (hl: ∀ q∈l,q.2.Lo≤q.2.Hi):kD l (xA l):=by
 have key: ∀ (r d:List (Int×ai)) (h:ai),(∀ q∈r,q.2.Lo≤q.2.Hi)→kD d h→kD (d++r) (r.foldl (fun h q=>mF h q.2) h):=by
  intro r
  induction r with
  |nil=>intro d h _ hd; simpa using hd
  |cons q r ih=>
   intro d h hr hd
   have:=ih (d++[q]) (mF h q.2) (fun x hx=>hr x (dH _ hx)) (vh hd (hr q sm))
   simpa using this
 have:=key l [] mQ hl Ae
 rw [List.nil_append] at this
 exact this
def DI (a b:List (Int×ai)):Prop:= ∀ x∈b,∃ y∈a,y.2.Lo≤x.2.Lo∧x.2.Hi≤y.2.Hi
theorem LC {a b:List (Int×ai)} {h k:ai} (ha:kD a h) (hb:kD b k) (hab:DI a b) (hba:DI b a):h=k:=by
 rcases ha with ⟨rfl,rfl⟩|ha
 ·rcases hb with ⟨rfl,rfl⟩|hb
  ·rfl
  ·obtain ⟨x,hx,_⟩:=hb.lo
   obtain ⟨y,hy,_⟩:=hab x hx
   cases hy
 ·rcases hb with ⟨rfl,rfl⟩|hb
  ·obtain ⟨x,hx,_⟩:=ha.lo
   obtain ⟨y,hy,_⟩:=hba x hx
   cases hy
  ·have le: ∀ {a b:List (Int×ai)} {h k:ai},oD a h→oD b k→DI a b→h.Lo≤k.Lo∧k.Hi≤h.Hi:=fun {a b h k} ha hb hab=>by
    obtain ⟨x,hx,ex⟩:=hb.lo
    obtain ⟨z,hz,ez⟩:=hb.hi
    obtain ⟨y,hy,ey⟩:=hab x hx
    obtain ⟨y',hy',ey'⟩:=hab z hz
    have A:=ha.all y hy
    have B:=ha.all y' hy'
    omega
   have A:=le ha hb hab
   have B:=le hb ha hba
   rw [ai.ext_iff]; omega
theorem yO {w:bZ} {b:Nat} {mf mb:List (aJ×Int)} {l:List (Int×ai)} {h:ai} (hf:tN mf (fwd w b)) (hb:vy mb (back w (b+1))) (nf:(mf.map (·.1)).Nodup) (nb:(mb.map (·.1)).Nodup)
 (hl: ∀ q∈l,q∈qd w b mf mb) (hl2: ∀ q∈qd w b mf mb,q∈l) (hh:kD l h):h=xA (mR w b):=
 LC hh (vd fun q hq=>mW hq) (fun x hx=>by
  obtain ⟨q,hq,_,A,B⟩:=GH hf hb nf nb hx
  exact ⟨q,hl2 q hq,A,B⟩) (fun x hx=>⟨x,L6 hf hb nf nb (hl x hx),Int.le_refl _,Int.le_refl _⟩)
def js (w:bZ) (m:List (aJ×Int)):Bool:=m.any fun p=>kS w p.1
theorem AH {w:bZ} {b:Nat} {m:List (aJ×Int)} (h:tN m (fwd w b)) (nf:(m.map (·.1)).Nodup):js w m=js w (fwd w b):=by
 unfold js
 rw [Bool.eq_iff_iff,List.any_eq_true,List.any_eq_true]
 constructor
 ·rintro ⟨p,hp,A⟩
  exact ⟨p,h.1 _ _ ((fO nf).1 hp),A⟩
 ·rintro ⟨p,hp,A⟩
  obtain ⟨v,hv,_⟩:=h.2 p.1 p.2 hp
  exact ⟨(p.1,v),(fO nf).2 hv,A⟩
def iA (w:bZ) (k:Nat):List Int:=((List.range k).filter fun i=>js w (fwd w i)).map fun (i:Nat)=>(i:Int)
def hG (w:bZ):List Int:=iA w (w.n+1)
theorem xN {w:bZ} {k:Nat} (h:js w (fwd w k)=true):iA w (k+1)=iA w k++[(k:Int)]:=by simp [iA,List.range_succ,h]
theorem yG {w:bZ} {k:Nat} (h:js w (fwd w k)=false):iA w (k+1)=iA w k:=by simp [iA,List.range_succ,h]
theorem nR {w:bZ} {k:Nat}:(iA w k).length≤k:=by
 unfold iA
 rw [List.length_map]
 exact Nat.le_trans (List.length_filter_le _ _) sm
end
section
open Go.RowKit
theorem Fu {P:Program} {t:Nat} {k:IntKind} (hu:P.underlying t=some (.int k)) (e:Bool) (n:Nat) (v:Value) (w:World):(Instr.checkKey e (n+1) t v).run P w= .ok () w:=by
 unfold Instr.checkKey
 simp only [Sem.run_bind,run_underlying hu,Result.andThen]
 cases v<;>rfl
theorem zJ {P:Program} {kt:Nat} {l:List (Nat×Nat)} (hl:fL P kt=some l) (e:Bool) (n:Nat) (cs:Array Value) (w:World)
 (hf: ∀ p∈l,(∃ v,(part p.1 cs p.2).run P w= .ok v w)∧ ∃ k,P.underlying p.1=some (.int k)):(Instr.checkKey e (n+2) kt (.agg cs)).run P w= .ok () w:=by
 unfold fL at hl
 cases hu:P.underlying kt with
 |none=>simp [hu] at hl
 |some d=>
  cases d<;>simp [hu] at hl
  rename_i fs
  obtain ⟨hn,hl⟩:=hl
  rw [show n+2=(n+1)+1 from rfl,Instr.checkKey]
  simp only [Sem.run_bind,run_underlying hu,Result.andThen_ok]
  rw [← Array.forIn_toList]
  have A: ∀ f∈fs.toList,(∃ v,(part f.type cs f.offset).run P w= .ok v w)∧ ∃ k,P.underlying f.type=some (.int k):=fun f hf'=>hf (f.type,f.offset) (by rw [← hl]; exact cE.2 ⟨f,hf',rfl⟩)
  have B: ∀ f∈fs.toList,f.name≠"_":=fun f hf'=>by
   obtain ⟨i,hi,rfl⟩:=List.getElem_of_mem hf'
   exact hn.1.1 i (by simpa using hi)
  clear hl hn hf
  generalize fs.toList=L at A B
  induction L with
  |nil=>simp
  |cons f L ih=>
   obtain ⟨⟨v,hv⟩,k,hk⟩:=A f sm
   have C:=B f sm
   simp only [List.forIn_cons,Sem.run_bind,C,ne_eq,not_false_eq_true,if_true,Result.andThen_ok,hv,Fu hk,Sem.run_pure]
   exact ih (fun y hy=>A y (by simp [hy])) (fun y hy=>B y (by simp [hy]))
theorem AN {P:Program} {kt:Nat} {K:Type} [DecidableEq K] {kV:K→Value} (hw: ∀ (k:Value) (es:List MapEntry) (w:World),(Instr.findKey kt k es).run P w=(Instr.findAsking kt k es).run P w)
 (heq: ∀ x y w,(Op.equal kt (kV x) (kV y)).run P w= .ok (decide (x=y)) w) (inj: ∀ x y,kV x=kV y→x=y) (x:K) (w:World) (es:List MapEntry) (hk: ∀ e∈es,∃ k,e.key=kV k):
 ((Instr.findKey kt (kV x) es).run P w= .ok none w∧ ∀ e∈es,e.key≠kV x)∨ ∃ j e,(Instr.findKey kt (kV x) es).run P w= .ok (some (j,e.val)) w∧es[j]? =some e∧e.key=kV x:=by
 have key: ∀ (es:List MapEntry) (i:Nat),(∀ e∈es,∃ k,e.key=kV k)→((Instr.findAsking kt (kV x) es i).run P w= .ok none w∧ ∀ e∈es,e.key≠kV x)∨ ∃ j e,(Instr.findAsking kt (kV x) es i).run P w= .ok (some (i+j,e.val)) w∧es[j]? =some e∧e.key=kV x:=by
  intro es
  induction es with
  |nil=>intro i _; exact .inl ⟨by simp [Instr.findAsking],sm⟩
  |cons e es ih=>
   intro i B
   obtain ⟨k,A⟩:=B e sm
   by_cases h:x=k
   ·refine .inr ⟨0,e,?_,U,by rw [A,h]⟩
    subst h
    simp [Instr.findAsking,A,heq]
   ·rcases ih (i+1) (fun y hy=>B y (by simp [hy])) with ⟨C,D⟩|⟨j,e',C,D,E⟩
    ·refine .inl ⟨by simp [Instr.findAsking,A,heq,h,C],fun y hy=>?_⟩
     rcases cg.1 hy with rfl|hy
     ·rw [A]; exact fun q=>h (inj _ _ q).symm
     ·exact D y hy
    ·exact .inr ⟨j+1,e',by simp [Instr.findAsking,A,heq,h,C]; omega,by simpa using D,E⟩
 rw [hw]
 rcases key es 0 hk with h|⟨j,e,C,D,E⟩
 ·exact .inl h
 ·exact .inr ⟨j,e,by simpa using C,D,E⟩
theorem DL {P:Program} {kt:Nat} {l:List (Nat×Nat)} (hl:fL P kt=some l) (k:Value) (es:List MapEntry) (w:World):(Instr.findKey kt k es).run P w=(Instr.findAsking kt k es).run P w:=by
 refine run_findKey_eq w ?_ k es
 unfold fL at hl
 cases hu:P.underlying kt with
 |none=>simp [hu] at hl
 |some d=>cases d<;>simp [hu] at hl ⊢
theorem Lh {P:Program} {kt:Nat} {K:Type} [DecidableEq K] {kV:K→Value} {l:List (Nat×Nat)} (hl:fL P kt=some l) (heq: ∀ x y w,(Op.equal kt (kV x) (kV y)).run P w= .ok (decide (x=y)) w) (inj: ∀ x y,kV x=kV y→x=y)
 (hb: ∀ x,Instr.sameBits 10000 (kV x) (kV x)=true) (hp: ∀ x w,∃ cs,kV x= .agg cs∧ ∀ p∈l,(∃ v,(part p.1 cs p.2).run P w= .ok v w)∧ ∃ k,P.underlying p.1=some (.int k)):vf P kt kV:=
 ⟨fun e x w=>by obtain ⟨cs,A,B⟩:=hp x w; rw [A]; exact zJ hl e 9998 cs w B,fun x w es=>AN (DL hl) heq inj x w es,hb,inj⟩
end
section
open Go.RowKit
set_option linter.unusedSectionVars false
theorem iL {P:Program} {kt:Nat} (hk:P.underlying kt=some (.int .i64)):vf P kt (Value.int .i64):=by
 refine ⟨fun e x w=>Gn hk e,fun x w es A=>?_,fun x=>by simp [Instr.sameBits],fun x y h=>by injection h⟩
 have key: ∀ (es:List MapEntry) (i:Nat),(∀ e∈es,∃ k:Int,e.key= .int .i64 k)→(Instr.findNow (.int .i64) (.int .i64 x) es i=some none∧ ∀ e∈es,e.key≠ .int .i64 x)∨ ∃ j e,Instr.findNow (.int .i64) (.int .i64 x) es i=some (some (i+j,e.val))∧es[j]? =some e∧e.key= .int .i64 x:=by
  intro es
  induction es with
  |nil=>intro i _; exact .inl ⟨rfl,sm⟩
  |cons e es ih=>
   intro i A
   obtain ⟨k,B⟩:=A e sm
   by_cases h:x=k
   ·subst h
    exact .inr ⟨0,e,by simp [Instr.findNow,Instr.sameNow,B],U,B⟩
   ·have hb:(x==k)=false:=by simpa using h
    rcases ih (i+1) (fun y hy=>A y (by simp [hy])) with ⟨C,D⟩|⟨j,e',C,D,E⟩
    ·refine .inl ⟨by simp [Instr.findNow,Instr.sameNow,B,hb,C],fun y hy=>?_⟩
     rcases cg.1 hy with rfl|hy
     ·rw [B]; intro q; injection q with _ q; exact h q.symm
     ·exact D y hy
    ·refine .inr ⟨j+1,e',?_,by simpa using D,E⟩
     simp only [Instr.findNow,Instr.sameNow,B,hb,if_true,C]
     simp; omega
 rcases key es 0 A with ⟨C,D⟩|⟨j,e,C,D,E⟩
 ·exact .inl ⟨MapKept.run_findKey hk C,D⟩
 ·exact .inr ⟨j,e,MapKept.run_findKey hk (by simpa using C),D,E⟩
theorem St.Lw {S:BS} {w0 w w':World} {C:List aA} {A N:aA} (h:St S w0 C w) (i:Nat) (hA:C[i]? =some A) (k:dU no w w') (hN:N.holds w') (hf: ∀ b,N.fE b→w.heap.size≤b∨A.fE b∧ ¬ A.wf b∧ ¬ N.wf b):St S w0 (N::C) w':=by
 have h':=h.same k
 have G:=aP hA
 have hi:=(aU.1 hA).1
 have B:C[i]=A:=(aU.1 hA).2
 refine ⟨h'.keeps,fun X hX=>?_,List.Pairwise.cons (fun X hX b hb hb'=>?_) h'.sep,fun X hX b hb=>?_,fun X hX b hb=>?_⟩
 ·rcases cg.1 hX with rfl|hX
  ·exact hN
  ·exact h'.holds X hX
 ·rcases hf b hb with E|⟨E,AA,H⟩
  ·have:=X.lt w (h.holds X hX) b hb'; omega
  ·refine ⟨H,?_⟩
   obtain ⟨j,hj,D⟩:=List.mem_iff_getElem.1 hX
   by_cases e:j=i
   ·subst e; rw [← D,B]; exact AA
   ·rcases Nat.lt_or_gt_of_ne e with F|F
    ·have:=eN.1 h.sep j i hj hi F b (by rw [D]; exact hb') (by rw [B]; exact E)
     rw [← D]; exact this.1
    ·have:=eN.1 h.sep i j hi hj F b (by rw [B]; exact E) (by rw [D]; exact hb')
     rw [← D]; exact this.2
 ·rcases cg.1 hX with rfl|hX
  ·rcases hf b (X.kB b hb) with E|⟨_,_,H⟩
   ·exact .inl (Nat.le_trans h.keeps.size E)
   ·exact absurd hb H
  ·exact h'.own X hX b hb
 ·rcases cg.1 hX with rfl|hX
  ·rcases hf b hb with E|⟨E,_,_⟩
   ·exact .inl (Nat.le_trans h.keeps.size E)
   ·exact h.seen A G b E
  ·exact h'.seen X hX b hb
section
variable {K:Type} [DecidableEq K] {kV:K→Value}
/-- an iterator over a map that is read alone -/
def Cf (kV:K→Value) (r b:Nat) (m left:List (K×Value)) (cur:Option (K×Value)):aA where
 fE k:=k=r∨k=b
 wf k:=k=r
 holds w:=r≠b∧ ∃ (es:Array MapEntry) (c since:Nat) (seen:Array Nat) (st:Nat),w.heap[b]? =some (.map es c)∧jw kV es c m∧w.heap[r]? =some (.mapIter (some b) since seen st)∧(∀ e∈es.toList,e.born<since)∧since≤st∧since≤c∧
  (leftOf es seen).toList.map (fun (e:MapEntry)=>(e.key,e.val))=left.map (fun p=>(kV p.1,p.2))∧
  ∀ p,cur=some p→ ∃ (e:MapEntry) (seen0:Array Nat),e∈es.toList∧seen=seen0.push e.born∧st=c∧e.key=kV p.1∧e.val=p.2
 wr:=false
 kB _ h:= .inl h
 whole h:=by cases h
 lt w h k hk:=by
  obtain ⟨_,es,c,since,seen,st,h1,_,h2,_⟩:=h
  rcases hk with rfl|rfl
  ·exact dR h2
  ·exact dR h1
 oH w w' hk h:=by
  obtain ⟨hne,es,c,since,seen,st,h1,h2,h3,h4⟩:=h
  exact ⟨hne,es,c,since,seen,st,(hk b (.inr rfl)).trans h1,h2,(hk r (.inl rfl)).trans h3,h4⟩
theorem pj {r b:Nat} {m left:List (K×Value)} {cur:Option (K×Value)}:(∀ w,(Cf kV r b m left cur).holds w→(Cf kV r b m left none).holds w)∧(∀ k,(Cf kV r b m left none).fE k→(Cf kV r b m left cur).fE k)∧ ∀ k,(Cf kV r b m left none).wf k→(Cf kV r b m left cur).wf k:=
 ⟨fun w h=>by
  obtain ⟨A,es,c,since,seen,st,B,C,D,E,F,h5',G,_⟩:=h
  exact ⟨A,es,c,since,seen,st,B,C,D,E,F,h5',G,fun p hp=>by cases hp⟩,fun _ h=>h,fun _ h=>h⟩
section
variable {E:fI} {ops:Array Oper} {Q:dw} {rest:List Oper} {D:List Deferred} {L:List (Nat×Value)} {C:List aA}
variable {dst:Option Tmp} {d:Nat} {ty:TypeId} {ps:String} {af:Array Edge} {g:Option (Nat×Bool)}
theorem pE {t kt et:TypeId} {xm:Operand} {b:Nat} {m:List (K×Value)} {A:aA} (i:Nat) (hg:ki ops L g=true) (hm:ev L xm=some (.map (some b))) (ht:E.P.underlying t=some (.map kt et)) (hA:C[i]? =some A) (hAf:A.fE b∧ ¬ A.wf b) (hC:hH C (ks kV b m).holds) (hd:Nat.blt d E.n=true)
 (k: ∀ r,RJ E ops Q rest D ((d,.pointer (some ⟨r,0,none⟩))::L) (Cf kV r b m m none::C)):RJ E ops Q (⟨some d,.range t xm,ty,ps,af,g⟩::rest) D L C:=by
 intro a w B hs
 have hd':d<E.n:=by rw [← Nat.blt_eq]; exact hd
 unfold r_
 rw [if_pos (eu B hg)]
 obtain ⟨es,c,he,hi⟩:=hs.has hC
 have G:b<w.heap.size:=dR he
 have F:(getObj b).run E.P w= .ok (.map es c) w:=MapKept.run_getObj_map he
 refine jc (v:= .pointer (some ⟨w.heap.size,0,none⟩)) (w':=w.alloc (.mapIter (some b) c #[] c)) sm ?_ ?_
 ·simp [execOp,Instr.range,B.ev hm,run_underlying ht,F,newObj,Sem.run]
 ·refine k _ _ _ (B.put hd' _) (hs.Lw i hA (dU.alloc no w _) ⟨I,es,c,c,#[],c,?_,hi,heap_alloc_new w _,hi.Ji,Nat.le_refl _,Nat.le_refl _,?_,fun p hp=>by cases hp⟩ (fun q hq=>?_))
  ·rw [Below.heap_alloc w _ b G]; exact he
  ·have:leftOf es #[]=es:=by unfold leftOf; exact Array.filter_eq_self.2 sm
   rw [this]; exact hi.list
  ·rcases hq with rfl|rfl
   ·exact .inl (Nat.le_refl _)
   ·refine .inr ⟨hAf.1,hAf.2,fun (e:q=w.heap.size)=>by omega⟩
theorem Ge (hinj: ∀ x y,kV x=kV y→x=y) {xi:Operand} {r b:Nat} {m left:List (K×Value)} {cur:Option (K×Value)} (i:Nat) (hg:ki ops L g=true) (hm:ev L xi=some (.pointer (some ⟨r,0,none⟩))) (hC:C[i]? =some (Cf kV r b m left cur)) (hd:Nat.blt d E.n=true)
 (k0:left=[]→RJ E ops Q rest D ((d,.tuple [.bool false].toArray)::L) C)
 (k1: ∀ x v,(x,v)∈left→(left.map (·.1)).Nodup→RJ E ops Q rest D ((d,.tuple [.bool true,kV x,v].toArray)::L) (C.set i (Cf kV r b m (fg left x) (some (x,v))))):
 RJ E ops Q (⟨some d,.next xi false,ty,ps,af,g⟩::rest) D L C:=by
 intro a w G hs
 have hd':d<E.n:=by rw [← Nat.blt_eq]; exact hd
 unfold r_
 rw [if_pos (eu G hg)]
 obtain ⟨R,es,c,since,seen,st,X,hi,Y,J,V,M,A,_⟩:=hs.holds _ (aP hC)
 rcases run_next_at (P:=E.P) w ty r b since st seen es c Y X J V with ⟨Z,hr⟩|⟨e,he,N,H,hr⟩
 ·refine jc (v:= .tuple #[.bool false]) (w':=w) sm ?_ ?_
  ·simp [execOp,G.ev hm,hr]
  ·refine k0 ?_ _ _ (G.put hd' _) hs
   have:(leftOf es seen).toList=[]:=by rw [← List.length_eq_zero_iff,Array.length_toList]; exact Z
   rw [this] at A
   exact List.map_eq_nil_iff.1 A.symm
 ·have O:(e.key,e.val)∈left.map (fun p=>(kV p.1,p.2)):=by rw [← A]; exact cE.2 ⟨e,he,rfl⟩
  obtain ⟨p,hp,S⟩:=cE.1 O
  obtain ⟨x,v⟩:=p
  simp only [Prod.mk.injEq] at S
  obtain ⟨hk,hv⟩:=S
  refine jc (v:= .tuple #[.bool true,e.key,e.val]) (w':=ChangeMaps.setBlock N r (.mapIter (some b) since (seen.push e.born) c)) sm ?_ ?_
  ·simp [execOp,G.ev hm,hr]
  ·rw [← hk,← hv]
   have AA:=xb hinj hi A
   have F:e∈es.toList:=by unfold leftOf at he; rw [Array.toList_filter] at he; exact (List.mem_filter.1 he).1
   have f:c=c:=rfl
   have B:N.heap=w.heap:=by rcases H with rfl|rfl<;>rfl
   refine k1 x v hp AA _ _ (G.put hd' _) (hs.mv i hC ⟨⟨R,es,c,since,seen.push e.born,c,?_,hi,?_,J,M,M,?_,fun q hq=>?_⟩,?_,fun q hq=> .inl hq,fun q hq=> .inl hq⟩)
   ·show (N.heap.setIfInBounds r _)[b]? =_
    rw [Array.getElem?_setIfInBounds_ne R,B]; exact X
   ·show (N.heap.setIfInBounds r _)[r]? =_
    rw [Array.getElem?_setIfInBounds_self_of_lt (by rw [B]; exact dR Y)]
   ·have T:leftOf es (seen.push e.born)=(leftOf es seen).filter (fun z=> !(z.born==e.born)):=by
     unfold leftOf
     rw [Array.filter_filter]
     congr 1
     funext z
     simp only [Array.contains_push,Bool.not_or]
     rw [Bool.and_comm]
    rw [T,Array.toList_filter]
    have key: ∀ (l:List MapEntry) (ll:List (K×Value)),(∀ z∈l,z∈es.toList)→l.map (fun (e:MapEntry)=>(e.key,e.val))=ll.map (fun p=>(kV p.1,p.2))→
     (l.filter (fun z=> !(z.born==e.born))).map (fun (e:MapEntry)=>(e.key,e.val))=(fg ll x).map (fun p=>(kV p.1,p.2)):=by
     intro l
     induction l with
     |nil=>intro ll _ h; cases ll with
      |nil=>rfl
      |cons p ll=>simp at h
     |cons z l ih=>
      intro ll hz h
      cases ll with
      |nil=>simp at h
      |cons p ll=>
       simp only [List.map_cons,List.cons.injEq,Prod.mk.injEq] at h
       have ih':=ih ll (fun y hy=>hz y (by simp [hy])) h.2
       have AB:(z.born=e.born)↔(p.1=x):=by
        constructor
        ·intro hb
         have:z=e:=Cc hi.born (hz z sm) F hb
         rw [this] at h
         have:=h.1.1.symm.trans hk.symm
         exact hinj _ _ this
        ·intro hx
         have W:z.key=e.key:=by rw [h.1.1,hx,hk]
         rw [BG hinj hi (hz z sm) F W]
       unfold fg at ih' ⊢
       by_cases hx:p.1=x
       ·rw [List.filter_cons_of_neg (by simp [AB.2 hx]),List.filter_cons_of_neg (by simp [hx])]; exact ih'
       ·rw [List.filter_cons_of_pos (by simpa using fun hb=>hx (AB.1 hb)),List.filter_cons_of_pos (by simpa using hx)]
        simp only [List.map_cons,h.1.1,h.1.2,ih']
    exact key _ _ (fun z hz=>by unfold leftOf at hz; rw [Array.toList_filter] at hz; exact (List.mem_filter.1 hz).1) A
   ·cases hq
    exact ⟨e,seen,F,U,U,hk.symm,hv.symm⟩
   ·refine ⟨?_,?_,?_,?_,fun q hq hn=>?_⟩
    ·rcases H with rfl|rfl<;>rfl
    ·rcases H with rfl|rfl<;>rfl
    ·rcases H with rfl|rfl<;>rfl
    ·show w.heap.size≤(N.heap.setIfInBounds r _).size
     simp [B]
    ·show (N.heap.setIfInBounds r _)[q]? =_
     rw [Array.getElem?_setIfInBounds_ne (fun e=>hn e.symm),B]
theorem ow {xi:Operand} {r b:Nat} {m left:List (K×Value)} {x:K} {v:Value} (i:Nat) (hg:ki ops L g=true) (hm:ev L xi=some (.pointer (some ⟨r,0,none⟩))) (hC:C[i]? =some (Cf kV r b m left (some (x,v)))):
 SD E ops ⟨dst,.entry xi,ty,ps,af,g⟩ D L C (.tuple [kV x,v].toArray):=
 eU hg sm fun a w F hs=>by
  obtain ⟨N,es,c,since,seen,st,J,hi,M,H,O,AA,G,B⟩:=hs.holds _ (aP hC)
  obtain ⟨e,A,he,rfl,rfl,hk,hv⟩:=B _ rfl
  have:=run_entry_at (P:=E.P) w r b since A es st e M J he hi.born
  simp [execOp,F.ev hm,this,hk,hv]
theorem oj (hinj: ∀ x y,kV x=kV y→x=y) {β:Type} {f:β→Value} {xi:Operand} {r b:Nat} {m:List (K×Value)} {ll:List (K×β)} {cur:Option (K×Value)} (i:Nat) (hg:ki ops L g=true) (hm:ev L xi=some (.pointer (some ⟨r,0,none⟩))) (hC:C[i]? =some (Cf kV r b m (cR f ll) cur)) (hd:Nat.blt d E.n=true)
 (k0:ll=[]→RJ E ops Q rest D ((d,.tuple [.bool false].toArray)::L) C)
 (k1: ∀ x y,(x,y)∈ll→(ll.map (·.1)).Nodup→RJ E ops Q rest D ((d,.tuple [.bool true,kV x,f y].toArray)::L) (C.set i (Cf kV r b m (cR f (fg ll x)) (some (x,f y))))):
 RJ E ops Q (⟨some d,.next xi false,ty,ps,af,g⟩::rest) D L C:=by
 refine Ge hinj i hg hm hC hd (fun h=>k0 (List.map_eq_nil_iff.1 h)) (fun x v B hn=>?_)
 obtain ⟨p,hp,A⟩:=cE.1 B
 simp only [Prod.mk.injEq] at A
 obtain ⟨rfl,rfl⟩:=A
 have:=k1 p.1 p.2 hp (by simpa [cR,Function.comp_def] using hn)
 rwa [nK] at this
theorem vi {t kt et:TypeId} {xm xk xv:Operand} {b:Nat} {x:K} {v:Value} {m m':List (K×Value)} {C':List aA} (i:Nat) (hg:ki ops L g=true) (hm:ev L xm=some (.map (some b))) (hk:ev L xk=some (kV x)) (hv:ev L xv=some v)
 (ht:E.P.underlying t=some (.map kt et)) (hkt:vf E.P kt kV) (hC:C[i]? =some (ks kV b m)) (hm':eD m x v=m') (hC':C.set i (ks kV b m')=C') (k:RJ E ops Q rest D L C'):
 RJ E ops Q (⟨none,.insert t xm xk xv,ty,ps,af,g⟩::rest) D L C:=by
 subst hm' hC'
 intro a w A hs
 unfold r_
 rw [if_pos (eu A hg)]
 obtain ⟨es,c,he,hi⟩:=hs.holds _ (aP hC)
 have B:(getObj b).run E.P w= .ok (.map es c) w:=MapKept.run_getObj_map he
 rcases oN (P:=E.P) (w:=w) (x:=x) hkt hi with ⟨AA,F⟩|⟨j,N,AA,F,J⟩
 ·refine rM (w':={w with heap:=w.heap.setIfInBounds b (.map (es.push {key:=kV x,val:=v,born:=c}) (c+1))}) sm ?_ ?_
  ·simp [execOp,A.ev hm,A.ev hk,A.ev hv,Instr.mapUpdate,run_underlying ht,B,jl hkt,AA,MapKept.run_setObj_map _ he]
  ·refine k _ _ ⟨A.defers,A.size,A.at_⟩ (hs.zl (b:=b) i hC U U (nc _) (fun _ h=>h) ⟨_,_,pt he,?_⟩)
   have:eD m x v=m++[(x,v)]:=by unfold eD; rw [F]; rfl
   rw [this]; exact hi.push F v
 ·have M:=hi.size
  have G:j<es.size:=by have:=(aU.1 F).1; omega
  have H:(es[j]).key=kV x:=by
   have:=congrArg (fun l=>l[j]?) hi.list
   simp [G,F] at this
   exact this.1
  refine rM (w':={w with heap:=w.heap.setIfInBounds b (.map (es.modify j fun e=>{e with key:=kV x,val:=v}) c)}) sm ?_ ?_
  ·simp [execOp,A.ev hm,A.ev hk,A.ev hv,Instr.mapUpdate,run_underlying ht,B,jl hkt,AA,MapKept.run_setObj_map _ he,Instr.keyThatStays,G,H,hkt.bits x]
  ·exact k _ _ ⟨A.defers,A.size,A.at_⟩ (hs.zl (b:=b) i hC U U (nc _) (fun _ h=>h) ⟨_,_,pt he,hi.set F J v⟩)
end
end
end
section
open Go.RowKit
def TB {σ:Type} (w0:World) (P:Program) (l:Nat) (step:σ→List Value→σ→Prop) (J:σ→aA→Prop) (Z:aA→Prop):Prop:=
 ∀ k x k' A w,step k x k'→J k A→w0.heap.size≤w.heap.size→A.holds w→YieldAt (Fw none) 0 P l x.toArray w fun e w'=>
  (e= .returned (.bool true)∧ ∃ B,J k' B∧Mv A B w w')∨(e= .returned (.bool false)∧ ∃ B,Z B∧Mv A B w w')
def AR {σ:Type} (J:σ→aA→Prop) (Z:aA→Prop) (fin:σ→Prop) (A0:aA) (w0:World) (e:Ending) (w':World):Prop:=
 ∃ v,e= .returned v∧((∃ s B,fin s∧J s B∧Mv A0 B w0 w')∨ ∃ B,Z B∧Mv A0 B w0 w')
structure K3 {σ:Type} (P:Program) (f:FuncId) (fi ca:List Value) (Cp:List aA) (s0:σ) (step:σ→List Value→σ→Prop) (fin:σ→Prop):Prop where
 go:rQ P f=true
 run: ∀ (l:Nat) (J:σ→aA→Prop) (Z:aA→Prop) (A0:aA) (w:World),TB w P l step J Z→J s0 A0→A0.holds w→(∀ A∈Cp,A.holds w)→(∀ A∈Cp,Ce A0 A.ro)→
  Calls P f (fi++Value.func (.yield l) #[] #[]::ca).toArray w (AR J Z fin A0 w)
theorem NM {σ:Type} {J:σ→aA→Prop} {Z:aA→Prop} {n:σ} {fin:σ→Prop} {A0 B:aA} {w0 w:World} {C:List aA} {v:Value} (i:Nat) (hC:C[i]? =some B) (hfin:fin n) (hJ:J n B) (hF:Fo A0 w0 B) (hs:St ⟨A0.wf,fun _=>True⟩ w0 C w):AR J Z fin A0 w0 (.returned v) w:=
 ⟨v,rfl,.inl ⟨n,B,hfin,hJ,hs.holds B (aP hC),hs.keeps,fun b hb=>(hs.own B (aP hC) b hb).symm,hF⟩⟩
theorem En {σ:Type} {J:σ→aA→Prop} {Z:aA→Prop} {fin:σ→Prop} {A0 B:aA} {w0 w:World} {C:List aA} {v:Value} (i:Nat) (hC:C[i]? =some B) (hJ:Z B) (hF:Fo A0 w0 B) (hs:St ⟨A0.wf,fun _=>True⟩ w0 C w):AR J Z fin A0 w0 (.returned v) w:=
 ⟨v,rfl,.inr ⟨B,hJ,hs.holds B (aP hC),hs.keeps,fun b hb=>(hs.own B (aP hC) b hb).symm,hF⟩⟩
theorem EJ {σ:Type} {P:Program} {f:FuncId} {fn:Func} {c:Code} {fi ca:List Value} {Cp:List aA} {s0:σ} {step:σ→List Value→σ→Prop} {fin:σ→Prop} (hgo:rQ P f=true) (hf:P.funcs[f]? =some fn) (hb:fn.body=some c) (hn:Nat.ble (fi.length+ca.length+1) fn.ntmps=true)
 (h: ∀ (l:Nat) (J:σ→aA→Prop) (Z:aA→Prop) (A0:aA) (w0:World) (Q:dw),TB w0 P l step J Z→J s0 A0→Fo A0 w0 A0→
  (∀ D L C,LJ ⟨P,none,fn.ntmps,⟨A0.wf,fun _=>True⟩,w0⟩ fn (AR J Z fin A0 w0) D L C→KJ ⟨P,none,fn.ntmps,⟨A0.wf,fun _=>True⟩,w0⟩ (Q .ret) D L C)→
  (∀ D L C,LJ ⟨P,none,fn.ntmps,⟨A0.wf,fun _=>True⟩,w0⟩ fn (AR J Z fin A0 w0) D L C→KJ ⟨P,none,fn.ntmps,⟨A0.wf,fun _=>True⟩,w0⟩ (Q .normal) D L C)→
  WJ ⟨P,none,fn.ntmps,⟨A0.wf,fun _=>True⟩,w0⟩ c Q [] (MR (fi++Value.func (.yield l) #[] #[]::ca)) (A0::Cp.map aA.ro)):K3 P f fi ca Cp s0 step fin:=by
 refine ⟨hgo,fun l J Z A0 w hY hJ hA F E=>?_⟩
 refine zV hf hb (by simpa [Nat.add_assoc] using hn) (h l J Z A0 w · hY hJ (fun b hb=> .inl hb)) ?_
 have G:=qJ F
 refine ⟨dU.refl _ _,fun A hA'=>?_,List.Pairwise.cons (fun B hB=>?_) G.sep,fun A hA' b hb=>?_,fun _ _ _ _=> .inr trivial⟩
 ·rcases cg.1 hA' with rfl|hA'
  ·exact hA
  ·exact G.holds A hA'
 ·obtain ⟨B',hB',rfl⟩:=cE.1 hB
  exact E B' hB'
 ·rcases cg.1 hA' with rfl|hA'
  ·exact .inr hb
  ·obtain ⟨B',hB',rfl⟩:=cE.1 hA'
   exact hb.elim
section
variable {E:fI} {ops:Array Oper} {Q:dw} {rest:List Oper} {D:List Deferred} {L:List (Nat×Value)} {C:List aA}
variable {d:Nat} {ty:TypeId} {ps:String} {af:Array Edge} {g:Option (Nat×Bool)}
/-- a call of yield -/
theorem xK {σ:Type} {fop:Operand} {xs:Array Operand} {ts:Array TypeId} {l:Nat} {k k':σ} {vs:List Value} {step:σ→List Value→σ→Prop} {J:σ→aA→Prop} {Z:aA→Prop} {A0 A:aA} {w1:World} (i:Nat) (hw1:w1.heap.size≤E.w0.heap.size) (hY:TB w1 E.P l step J Z) (hJ:J k A) (hF:Fo A0 w1 A) (hg:ki ops L g=true) (hf:ev L fop=some (.func (.yield l) #[] #[]))
 (hx:evs L xs.toList=some vs) (hk:step k vs k') (hC:C[i]? =some A) (hd:Nat.blt d E.n=true)
 (k1: ∀ B,J k' B→Fo A0 w1 B→RJ E ops Q rest D ((d,.bool true)::L) (C.set i B))
 (k2: ∀ B,Z B→Fo A0 w1 B→RJ E ops Q rest D ((d,.bool false)::L) (C.set i B)):
 RJ E ops Q (⟨some d,.call {callee:= .value fop,args:=xs,argTypes:=ts},ty,ps,af,g⟩::rest) D L C:=by
 intro a w F hs
 have hd':d<E.n:=by rw [← Nat.blt_eq]; exact hd
 unfold r_
 rw [if_pos (eu F hg)]
 have K:xs.map a.eval=vs.toArray:=by
  have:=F.evs hx
  apply Array.ext'
  simp [this]
 obtain ⟨fn,tmps,assign,body,hy,hr⟩:=hY k vs k' A w hk hJ (Nat.le_trans hw1 hs.keeps.size) (hs.holds A (aP hC))
 have H:(execOp a.eval ⟨some d,.call {callee:= .value fop,args:=xs,argTypes:=ts},ty,ps,af,g⟩).run E.P w= .ok (.round l fn tmps assign body) w:=by
  simp [execOp,resolve,F.ev hf,Deferred.ofValue,invoke,K,hy]
 refine ⟨fun _ _=>trivial,?_⟩
 rw [Oper.semAt_eq _ _ _ sm,H]
 refine ⟨fun h=>by simp at h,?_⟩
 have G: ∀ (B:aA) (w':World),Mv A B w w'→Fo A0 w1 B:=fun B w' m b hb=>by
  rcases m.fE b hb with AA|AA
  ·exact hF b AA
  ·exact .inr (Nat.le_trans hw1 (Nat.le_trans hs.keeps.size AA))
 have hr':RoundIn (Fw E.r) 0 E.P l fn tmps assign body w _:=hr
 refine hr'.mono fun e w' he=>?_
 rcases he with ⟨rfl,B,hB,m⟩|⟨rfl,B,hB,m⟩
 ·exact k1 B hB (G B w' m) _ _ (F.put hd' _) (hs.mv i hC m)
 ·exact k2 B hB (G B w' m) _ _ (F.put hd' _) (hs.mv i hC m)
end
theorem uq {σ:Type} {E:fI} {Q:dw} {D:ir} {L L0:dC} {C F:List aA} {g:Operand} {ps:Array Tmp} {assign body:Code} {f:FuncId} {fi ca:List Value} {Cp:List aA} {s0:σ} {step:σ→List Value→σ→Prop} {fin_:σ→Prop} {ι κ:Type}
 (inv:σ→ι→Prop) (Ci:σ→ι→List aA) (invx:Code→κ→Prop) (Cx:Code→κ→List aA) (isJ isF:List Nat) (y0:ι)
 (hr:E.r=none) (hg:ev L g=some (.func (.func f) fi.toArray ca.toArray)) (hs:K3 E.P f fi ca Cp s0 step fin_)
 (hnd:decide (isJ++isF).Nodup=true) (hJ:lh C isJ=Ci s0 y0) (hF:lh C isF=F) (h0:inv s0 y0) (hCp: ∀ A∈Cp,∃ B∈F,I2 B A)
 (hps: ∀ k x k',step k x k'→x.length=ps.size) (hpn:ps.toList.all (fun t=>Nat.blt t E.n)=true) (hL:dh L L0)
 (round: ∀ (k:σ) (x:List Value) (k':σ) (y:ι) (l:Nat) (ra rb:Loop) (S:BS) (w0:World) (K:Act→World→Prop) (Qr:dw),E.w0.heap.size≤w0.heap.size→step k x k'→inv k y→
  (∀ L' C',WJ ⟨E.P,some l,E.n,S,w0⟩ body Qr [] L' (jn l (.loop rb)::C')→KJ ⟨E.P,some l,E.n,S,w0⟩ K [] L' (jn l (.loop ra)::C'))→
  (∀ y' L' C',inv k' y'→(∀ w,St S w0 C' w→St S w0 (jn l (.loop rb)::Ci k' y') w)→KJ ⟨E.P,some l,E.n,S,w0⟩ (Qr .normal) [] L' C')→
  (∀ id z L' C',invx (.exit id) z→(∀ w,St S w0 C' w→St S w0 (jn l (.loop rb)::Cx (.exit id) z) w)→KJ ⟨E.P,some l,E.n,S,w0⟩ (Qr (.exit id)) [] L' C')→
  (∀ z L' C',invx .ret z→(∀ w,St S w0 C' w→St S w0 (jn l (.loop rb)::Cx .ret z) w)→KJ ⟨E.P,some l,E.n,S,w0⟩ (Qr .ret) [] L' C')→
  WJ ⟨E.P,some l,E.n,S,w0⟩ assign (Exit.then K (fun _ _ _=>False)) [] (yf ps.toList x L0) (jn l (.loop ra)::Ci k y))
 (fin: ∀ r s y,fin_ s→inv s y→KJ E (Q .normal) (jU r::D) L0 (jn r (.deferred (some []))::(F++Ci s y)))
 (finx: ∀ r id z,invx (.exit id) z→KJ E (Q (.exit id)) (jU r::D) L0 (jn r (.deferred (some []))::(F++Cx (.exit id) z)))
 (finr: ∀ r z,invx .ret z→KJ E (Q .ret) (jU r::D) L0 (jn r (.deferred (some []))::(F++Cx .ret z))):WJ E (.rangeFunc g ps assign body) Q D L C:=by
 intro a w hf q
 refine wpIn_rangeFunc fun fn _=>?_
 show ∃ l jU w₁ d w₁' f args w₂,(Instr.enterLoop fn a.tmps ps assign body E.r).run E.P w= .ok (l,jU) w₁∧_
 rw [hr]
 obtain ⟨rec,G⟩: ∃ rec:LoopState→Option Code→Loop,rec=fun st pe=>{state:=st,pending:=pe,fn,tmps:=a.tmps,params:=ps,assign,body,defers:=w.heap.size}:=⟨_,rfl⟩
 obtain ⟨W1,R⟩: ∃ W1,(w.alloc (.deferred (some []))).alloc (.loop (rec .ready none))=W1:=⟨_,rfl⟩
 have A2:a.eval g= .func (.func f) fi.toArray ca.toArray:=hf.ev hg
 have p:(Instr.enterLoop fn a.tmps ps assign body none).run E.P w= .ok (w.heap.size+1,[jU w.heap.size]) W1:=by
  rw [← R,G]; exact run_enterLoop_outer _ _ _ _ _
 -- the state with the record and the block
 have u:St E.S E.w0 ((jn (w.heap.size+1) (.loop (rec .ready none))::Ci s0 y0)++(jn w.heap.size (.deferred (some []))::F)) W1:=by
  have X:St E.S E.w0 (Ci s0 y0++F) w:=St.lh (isJ++isF) hnd (by have X:=hJ; have j:=hF; unfold Go.Proofs.YtgcjjjehnjljbaaGreatDoor.lh at X j ⊢; rw [List.filterMap_append,X,j]) q
  have hn:JO w W1 [jn (w.heap.size+1) (.loop (rec .ready none)),jn w.heap.size (.deferred (some []))]:=by
   refine ⟨fun A hA=>?_,fun A hA b hb=>?_,?_⟩
   ·rcases cg.1 hA with rfl|hA
    ·show W1.heap[w.heap.size+1]? =_
     rw [← R]; have:=World.alloc_heap_new (w.alloc (.deferred (some []))) (.loop (rec .ready none)); rwa [World.size_alloc] at this
    ·simp only [cv] at hA; subst hA
     show W1.heap[w.heap.size]? =_
     rw [← R]; exact (Below.heap_alloc _ _ _ sm).trans (World.alloc_heap_new w _)
   ·rcases cg.1 hA with rfl|hA
    ·have:b=w.heap.size+1:=hb
     omega
    ·simp only [cv] at hA; subst hA
     have:b=w.heap.size:=hb
     omega
   ·refine List.Pairwise.cons (fun B hB b X j=>?_) (List.pairwise_singleton _ _)
    simp only [cv] at hB; subst hB
    have V:b=w.heap.size+1:=X
    have O:b=w.heap.size:=j
    omega
  have hk:dU no w W1:=by rw [← R]; exact (dU.alloc no w _).trans (dU.alloc no _ _)
  have j:=X.grow hk hn
  refine j.perm ?_
  simp only [List.cons_append,List.nil_append]
  exact List.Perm.cons _ (List.perm_middle.symm)
 have Y:=u.tied
 obtain ⟨H,A7⟩:=List.pairwise_cons.1 Y.sep
 have A0:=Y.holds _ (ct ..)
 let J:σ→aA→Prop:=fun k A=> ∃ y,inv k y∧A=bS (jn (w.heap.size+1) (.loop (rec .ready none))::Ci k y)
 let Z:aA→Prop:=fun A=> ∃ c z,(c= .ret∨ ∃ id,c= .exit id)∧invx c z∧A=bS (jn (w.heap.size+1) (.loop (rec .done (some c)))::Cx c z)
 refine ⟨w.heap.size+1,[jU w.heap.size],W1,{target:= .fn (.func f) ca.toArray,args:=fi.toArray++ #[.func (.yield (w.heap.size+1)) #[] #[]]},W1,f,
  (fi++Value.func (.yield (w.heap.size+1)) #[] #[]::ca).toArray,W1,p,?_,fun _ _=>trivial,?_,fun h=>by simp at h,?_⟩
 ·simp only [resolve,A2]
  simp [Deferred.ofValue,Act.eval]
 ·have:fi.toArray++ #[Value.func (.yield (w.heap.size+1)) #[] #[]]++ca.toArray=(fi++Value.func (.yield (w.heap.size+1)) #[] #[]::ca).toArray:=by simp
  simp [invoke,mZ hs.go]
 ·refine (pb E.r (hs.run (w.heap.size+1) J Z _ W1 ?_ ⟨y0,h0,U⟩ A0 ?_ ?_)).mono ?_
  ·-- a round
   rintro k x k' A W hx ⟨y,hy,rfl⟩ A1 hA
   have hl:W.heap[w.heap.size+1]? =some (.loop (rec .ready none)):=hA.1 _ (ct ..)
   have AC:=run_yield (P:=E.P) (args:=x.toArray) hl (by rw [G]; simpa using hps k x k' hx)
   rw [G] at AC
   refine ⟨fn,_,assign,body,AC,roundIn_of_wpIn trivial ?_⟩
   let A:aA:=bS (jn (w.heap.size+1) (.loop (rec .ready none))::Ci k y)
   have A3:Fr E.n [] (yf ps.toList x L0) {tmps:=(ps.zip x.toArray).foldl (fun tmps (t,a)=>tmps.setIfInBounds t a) a.tmps,defers:=[]}:=by
    have X:=De ps.toList x L0 a.tmps (fun t ht=>by have:=cY.1 hpn t ht; rwa [Nat.blt_eq] at this) ⟨rfl,hf.size,fun t v hv=>hf.at_ t v (hL t v hv)⟩
    rw [← Array.foldl_toList]
    simpa using X
   have o: ∀ (c:Option Code) (b:Bool),({rec .busy none with state:=if b then .ready else .done,pending:=c}:Loop)=rec (if b then .ready else .done) c:=fun c b=>by rw [G]
   have T: ∀ (c:Option Code) (N:World) (C':List aA) (S:BS),St S W (jn (w.heap.size+1) (.loop (rec .busy none))::C') N→
    ∃ M,(Instr.endRound (w.heap.size+1) c).run E.P N= .ok (.bool c.isNone) M∧St S W (jn (w.heap.size+1) (.loop (rec (if c.isNone then .ready else .done) c))::C') M:=fun c N C' S H=>by
    have AB:N.heap[w.heap.size+1]? =some (.loop (rec .busy none)):=H.holds _ (ct ..)
    refine ⟨_,run_endRound c AB,?_⟩
    have:=H.zl (b:=w.heap.size+1) (A':=jn (w.heap.size+1) (.loop (rec (if c.isNone then .ready else .done) c))) 0 rfl rfl rfl (hP _) (fun _ h=>h) (World.putObj_heap_same (dR AB))
    rw [o]
    exact this
   refine round k x k' y (w.heap.size+1) (rec .ready none) (rec .busy none) ⟨A.wf,A.fE⟩ W _ (roundPost E.P (w.heap.size+1) (fun e w'=>(e= .returned (.bool true)∧ ∃ B,J k' B∧Mv A B W w')∨(e= .returned (.bool false)∧ ∃ B,Z B∧Mv A B W w'))) (Nat.le_trans (Nat.le_trans q.keeps.size (by rw [← R]; simp; omega)) A1) hx hy ?_ ?_ ?_ ?_ _ _ A3 (St.zt hA)
   ·intro L' C' hW a1 N i H
    have AB:N.heap[w.heap.size+1]? =some (.loop (rec .ready none)):=H.holds _ (ct ..)
    refine ⟨_,run_beginRound AB (by rw [G]),hW _ _ i ?_⟩
    have:=H.zl (b:=w.heap.size+1) (A':=jn (w.heap.size+1) (.loop (rec .busy none))) 0 rfl rfl rfl (hP _) (fun _ h=>h) (World.putObj_heap_same (dR AB))
    have e:({rec .ready none with state:= .busy}:Loop)=rec .busy none:=by rw [G]
    rw [e]; exact this
   ·intro y' L' C' hy' hC' a1 N i H
    obtain ⟨M,V,O⟩:=T none N _ _ (hC' _ H)
    exact ⟨_,M,V,.inl ⟨U,_,⟨y',hy',U⟩,Mv.of O⟩⟩
   ·intro id z L' C' hz hC' a1 N i H
    obtain ⟨M,V,O⟩:=T (some (.exit id)) N _ _ (hC' _ H)
    exact ⟨_,M,V,.inr ⟨U,_,⟨_,z,.inr ⟨id,U⟩,hz,U⟩,Mv.of O⟩⟩
   ·intro z L' C' hz hC' a1 N i H
    obtain ⟨M,V,O⟩:=T (some .ret) N _ _ (hC' _ H)
    exact ⟨_,M,V,.inr ⟨U,_,⟨_,z,.inl U,hz,U⟩,Mv.of O⟩⟩
  ·intro A hA
   obtain ⟨B,hB,hc⟩:=hCp A hA
   exact hc.holds _ (Y.holds B (dH _ (dH _ hB)))
  ·intro A hA b hb hb'
   obtain ⟨B,hB,hc⟩:=hCp A hA
   exact ⟨(H B (dH _ hB) b hb (hc.fE b hb')).1,fun h=>h⟩
  ·rintro e w' ⟨v,rfl,hh⟩
   have AA:Fr E.n (jU w.heap.size::D) L0 {a with defers:=[jU w.heap.size]++a.defers}:=⟨by simp [hf.defers],hf.size,fun t v hv=>hf.at_ t v (hL t v hv)⟩
   have hleave: ∀ (st:LoopState) (c:Option Code) (C':List aA),st≠ .busy→Mv (bS (jn (w.heap.size+1) (.loop (rec .ready none))::Ci s0 y0)) (bS (jn (w.heap.size+1) (.loop (rec st c))::C')) W1 w'→
    ∃ M,(Instr.endLoop (w.heap.size+1)).run E.P w'= .ok c M∧St E.S E.w0 (jn w.heap.size (.deferred (some []))::(F++C')) M:=fun st c C' A5 m=>by
    have X:=(Y.mv 0 rfl m).iU
    have h1':St E.S E.w0 ((jn (w.heap.size+1) (.loop (rec st c))::C')++(jn w.heap.size (.deferred (some []))::F)) w':=X
    have AB:w'.heap[w.heap.size+1]? =some (.loop (rec st c)):=h1'.holds (jn (w.heap.size+1) (.loop (rec st c))) sm
    refine ⟨_,by have:=run_endLoop (P:=E.P) AB (by rw [G]; exact A5); rw [this,G],?_⟩
    have j:=h1'.zl (b:=w.heap.size+1) (A':=jn (w.heap.size+1) (.loop {rec st c with state:= .exhausted})) 0 rfl rfl rfl (hP _) (fun _ h=>h) (World.putObj_heap_same (dR AB))
    have h3:St E.S E.w0 (C'++(jn w.heap.size (.deferred (some []))::F)) _:=j.take (List.sublist_cons_self _ _)
    rw [G] at h3
    refine h3.perm ?_
    exact (List.perm_append_comm).trans sm
   rcases hh with ⟨s,B,A4,⟨y,hy,rfl⟩,m⟩|⟨B,⟨c,z,hc,hz,rfl⟩,m⟩
   ·obtain ⟨M,V,O⟩:=hleave .ready none _ sm m
    exact ⟨none,M,V,fin w.heap.size s y A4 hy _ _ AA O⟩
   ·obtain ⟨M,V,O⟩:=hleave .done (some c) _ sm m
    refine ⟨some c,M,V,?_⟩
    rcases hc with rfl|⟨id,rfl⟩
    ·exact wpIn_ret (finr w.heap.size z hz _ _ AA O)
    ·exact wpIn_exit (finx w.heap.size id z hz _ _ AA O)
end
section
open Go.RowKit
/-- where a row lies, and its capacity -/
abbrev RA:=OA×Nat
/-- what is asked of memory by all elements -/
def bk {M A:Type} (f:M→A→List aA):List M→List A→List aA
 |m::ms,a::asl=>f m a++bk f ms asl
 |_,_=>[]
theorem bD {M A:Type} {f:M→A→List aA}: ∀ {ms:List M} {asl:List A} {k:Nat} {m:M} {a:A} {X:aA},ms[k]? =some m→asl[k]? =some a→X∈f m a→X∈bk f ms asl
 |[],_,k,m,a,X,h,_,_=>by simp at h
 |_::_,[],k,m,a,X,_,h,_=>by simp at h
 |x::ms,y::asl,0,m,a,X,h,h2,hX=>by
  simp at h h2; subst h h2
  exact List.mem_append_left _ hX
 |x::ms,y::asl,k+1,m,a,X,h,h2,hX=>List.mem_append_right _ (bD (ms:=ms) (asl:=asl) (k:=k) (by simpa using h) (by simpa using h2) hX)
theorem j8 {M A:Type} {f:M→A→List aA}: ∀ {ms:List M} {asl:List A} {X:aA},X∈bk f ms asl→ ∃ (k:Nat) (m:M) (a:A),ms[k]? =some m∧asl[k]? =some a∧X∈f m a
 |[],_,X,h=>by cases h
 |_::_,[],X,h=>by cases h
 |x::ms,y::asl,X,h=>by
  rcases gL.1 h with h|h
  ·exact ⟨0,x,y,U,U,h⟩
  ·obtain ⟨k,m,a,B,C,D⟩:=j8 h
   exact ⟨k+1,m,a,by simpa using B,by simpa using C,D⟩
theorem jB {M A:Type} {f:M→A→List aA}: ∀ {ms:List M} {asl:List A} {ns:List M} {bs:List A},ms.length=asl.length→bk f (ms++ns) (asl++bs)=bk f ms asl++bk f ns bs
 |[],[],ns,bs,_=>rfl
 |[],_::_,ns,bs,h=>by simp at h
 |_::_,[],ns,bs,h=>by simp at h
 |x::ms,y::asl,ns,bs,h=>by
  simp only [List.cons_append,bk,List.append_assoc]
  rw [jB (by simpa using h)]
theorem cZ {M A β:Type} {f:M→A→β} {ms:List M} {asl:List A} {k:Nat} {m:M} {a:A} (h:ms[k]? =some m) (h2:asl[k]? =some a):(List.zipWith f ms asl)[k]? =some (f m a):=by
 rw [List.getElem?_zipWith,h,h2]
theorem cj {C L:List aA} {A:aA} (i:Nat) (hC:C[i]? =some (dL L).ro) (hm:A∈L):hH C A.holds:=fun w hw=>hw _ (aP hC) A hm
theorem gM {M A:Type} {f g:M→A→List aA} {ms:List M} {asl:List A} {C:List aA} (i:Nat) (hC:C[i]? =some (bS (bk g ms asl))) (h: ∀ m a w,(∀ X∈g m a,X.holds w)→ ∀ X∈f m a,X.holds w):hH C (dL (bk f ms asl)).holds:=fun w hw X hX=>by
 have hb:=hw _ (aP hC)
 obtain ⟨k,m,a,B,D,E⟩:=j8 hX
 exact h m a w (fun Y hY=>hb.1 Y (bD B D hY)) X E
/-- a row that is part of another one -/
theorem Lq {C:List aA} {A:OA} {n k sz:Nat} {es:List (List Value)} (hR:hH C (rd A n sz es).holds) (hk:k≤n):hH C (rd A k sz (es.take k)).holds:=fun w hw=>by
 obtain ⟨D,E,F⟩:=hR w hw
 refine ⟨by rw [List.length_take,D]; omega,fun x hx=>E x (List.mem_of_mem_take hx),fun hp=>?_⟩
 have G:0<k:=Nat.pos_of_mul_pos_right hp
 have hs:0<sz:=Nat.pos_of_mul_pos_left hp
 obtain ⟨ad,hA,B⟩:=F (Nat.mul_pos I hs)
 refine ⟨ad,hA,fun i e j v he hv=>B i e j v ?_ hv⟩
 rw [List.getElem?_take] at he
 split at he
 ·exact he
 ·cases he
section
variable {E:fI} {ops:Array Oper} {Q:dw} {rest:List Oper} {D:List Deferred} {L:List (Nat×Value)} {C:List aA}
variable {d:Nat} {ty:TypeId} {ps:String} {af:Array Edge} {g:Option (Nat×Bool)}
/-- an element of a slice that is the head of a row -/
theorem Uo (k:Nat) {x ix:Operand} {A:OA} {n n' c sz e t:Nat} {es:List (List Value)} {j:Int} (h:bF E.n ops L d g x ix=some (.slice A n' c,.int .i64 j)) (hR:hH C (rd A n sz es).holds)
 (ht:tE E.P t=some (e,sz)) (hz:0<sz) (hj:j=(k:Int)) (hk:k<n') (hn:n'≤n):SE E ops ⟨some d,.indexAddr t x ix,ty,ps,af,g⟩ D L C (.pointer (qt A (k*sz))) d:=IA k h (Lq hR hn) ht hz hj hk
end
theorem St.tie {S:BS} {w0 w:World} {C:List aA} {A:aA} {L L':List aA} (h:St S w0 (A::bS L::C) w) (e:L++[A]=L'):St S w0 (bS L'::C) w:=by
 subst e
 have B:St S w0 (bS L::A::C) w:=h.perm (List.Perm.swap _ _ _)
 have D:St S w0 (L++(A::C)) w:=B.iU
 have E:St S w0 ((L++[A])++C) w:=by simpa using D
 exact E.tied
theorem St.OQ {S:BS} {w0 w:World} {C:List aA} (h:St S w0 C w):St S w0 (bS []::C) w:=St.tied (C1:=[]) h
section
variable {E:fI} {Q:dw} {D:List Deferred} {L:List (Nat×Value)} {C:List aA}
theorem mP {c:Code} (h:WJ E c Q D L (bS []::C)):WJ E c Q D L C:=fun a w hf hs=>h a w hf hs.OQ
theorem sv {ops:Array Oper} {rest:List Oper} (h:RJ E ops Q rest D L (bS []::C)):RJ E ops Q rest D L C:=fun a w hf hs=>h a w hf hs.OQ
theorem wV {K:Act→World→Prop} {C1:List aA} {A:aA} {X X':List aA} (i j:Nat) (hn:decide (j::i::(List.range C.length).filter fun k=>k != i&&k != j).Nodup=true) (hC:lh C (j::i::(List.range C.length).filter fun k=>k != i&&k != j)=A::bS X::C1) (e:X++[A]=X')
 (h:KJ E K D L (bS X'::C1)):KJ E K D L C:=fun a w hf hs=>h a w hf ((St.lh _ hn hC hs).tie e)
theorem Ra {ops:Array Oper} {rest:List Oper} {C1:List aA} {A:aA} {X X':List aA} (i j:Nat) (hn:decide (j::i::(List.range C.length).filter fun k=>k != i&&k != j).Nodup=true) (hC:lh C (j::i::(List.range C.length).filter fun k=>k != i&&k != j)=A::bS X::C1) (e:X++[A]=X')
 (h:RJ E ops Q rest D L (bS X'::C1)):RJ E ops Q rest D L C:=fun a w hf hs=>h a w hf ((St.lh _ hn hC hs).tie e)
end
end
section
open Go.RowKit
abbrev jZ:ai→Value:=fun s=>vA (ai.cells s)
abbrev ew:aJ→Value:=fun s=>vA (aJ.cells s)
abbrev TM:=List (Int×ai)
abbrev FM:=List (aJ×Int)
def gr {α:Type} (m:α) (b:Nat):List Value:=[Value.map (some b)]
def pU (m:TM) (b:Nat):List aA:=[ks iV b (cR jZ m)]
def mU (m:FM) (b:Nat):List aA:=[ks ew b (cR iV m)]
theorem lB {M A:Type} {f:M→A→List aA}: ∀ (m:M) (a:A) (w:World),(∀ X∈f m a,X.holds w)→ ∀ X∈f m a,X.holds w:=fun _ _ _ h=>h
/-- untied -/
theorem EF {E:fI} {ops:Array Oper} {Q:dw} {rest:List Oper} {D:ir} {L:dC} {C X C1:List aA} (i:Nat) (hn:decide (i::(List.range C.length).filter fun k=>k != i).Nodup=true) (hC:lh C (i::(List.range C.length).filter fun k=>k != i)=bS X::C1)
 (h:RJ E ops Q rest D L (X++C1)):RJ E ops Q rest D L C:=fun a w hf hs=>h a w hf (St.iU (St.lh _ hn hC hs))
end
section
def cQ (ln:cu) (rd:de) (e:List Int) (tms:List TM):bZ:=⟨rd.Start,rd.fP,e,tms,ln.dp,ln.e9,(rd.aa.n:Int)⟩
def Mb (o:Int×ai):List Value:=[.int .i64 o.1,.agg (ai.cells o.2).toArray]
structure Ff (w:bZ):Prop where
 n:w.n≤6
 times:w.vo.length=w.n
 now:0≤w.Start∧w.Start≤w.fP∧w.fP≤86400000
 least: ∀ x∈w.qh,1≤x∧x≤500000000
 DW: ∀ t∈w.vo,∀ p∈t,(0≤p.1∧p.1≤10)∧0≤p.2.Lo∧p.2.Lo≤p.2.Hi∧p.2.Hi≤86400000
theorem Ff.opt {w:bZ} (h:Ff w) {b:Nat} {o:Int×ai} (ho:o∈iS w b):(-1≤o.1∧o.1≤10)∧0≤o.2.Lo∧o.2.Lo≤o.2.Hi∧o.2.Hi≤86400000:=by
 unfold iS uh at ho
 rcases cg.1 ho with rfl|ho
 ·have:=h.now; simp only; omega
 ·cases ht:w.vo[b]? with
  |none=>simp [ht] at ho
  |some t=>
   rw [ht] at ho
   have:=h.DW t (aP ht) o ho
   omega
theorem Ff.cf {w:bZ} (h:Ff w) (b:Nat):0≤cf w b∧cf w b≤500000000:=by
 unfold Go.Proofs.YtgcjjjehnjljbaaGreatDoor.cf
 cases ht:w.qh[b]? with
 |none=>simp
 |some x=>have:=h.least x (aP ht); simp only [Option.getD_some]; omega
theorem ve (s:Int):(0≤(fG s).right∧0≤(fG s).eW)∧(fG s).right+(fG s).eW=1:=by unfold fG; split<;>simp
theorem Im {w:bZ} (h:Ff w): ∀ (b:Nat) p,p∈fwd w b→(0≤p.2∧p.2≤86400000)∧(0≤p.1.right∧0≤p.1.eW)∧p.1.right+p.1.eW=(b:Int):=by
 intro b
 induction b with
 |zero=>
  intro p hp
  simp only [fwd,cv] at hp
  subst hp
  have:=h.now; simp only; omega
 |succ b ih=>
  intro q hq
  obtain ⟨p,hp,o,ho,e⟩:=gh.1 hq
  have A:=ih p hp
  have B:=h.opt ho
  have C:=h.cf b
  have D:=h.now
  have E:=ve o.1
  unfold k9 at e
  split at e
  ·simp only [Option.some.injEq] at e
   subst e
   simp only [dD]
   omega
  ·cases e
theorem P8 {w:bZ} (h:Ff w): ∀ (k:Nat) p,p∈bwd w k→(-(500000000*(k:Int))≤p.2∧p.2≤86400000)∧(0≤p.1.right∧0≤p.1.eW)∧p.1.right+p.1.eW≤(k:Int):=by
 intro k
 induction k with
 |zero=>
  intro p hp
  simp only [bwd,cv] at hp
  subst hp
  have:=h.now; simp only; omega
 |succ k ih=>
  intro q hq
  simp only [bwd,cg,List.mem_flatMap,List.mem_filterMap] at hq
  rcases hq with rfl|⟨p,hp,o,ho,e⟩
  ·have:=h.now; simp only; omega
  ·have A:=ih p hp
   have B:=h.opt ho
   have C:=h.cf (w.n-(k+1))
   have D:=h.now
   have E:=ve o.1
   unfold nY at e
   split at e
   ·simp only [Option.some.injEq] at e
    subst e
    simp only [dD]
    omega
   ·cases e
theorem H2 {w:bZ} (h:Ff w) {b:Nat} {p:aJ×Int} (hp:p∈back w b):(-3000000000≤p.2∧p.2≤86400000)∧(0≤p.1.right∧0≤p.1.eW)∧p.1.right+p.1.eW≤6:=by
 have:=P8 h _ _ hp
 have:=h.n
 omega
theorem xY {w:bZ} {b:Nat} {t:TM} (ht:w.vo[b]? =some t) {o:Int×ai}:o∈iS w b↔o=(-1,⟨w.Start,w.fP⟩)∨o∈t:=by
 unfold iS uh; rw [ht]; simp
theorem l_ {K β:Type} [DecidableEq K] {l:List (K×β)} {x:K} {y:β} (hn:(l.map (·.1)).Nodup) (hm:(x,y)∈l) {o:K×β} (h:o∈l):o∈fg l x∨o=(x,y):=by
 by_cases e:o.1=x
 ·right
  obtain ⟨k,v⟩:=o
  simp only at e
  subst e
  have B:=(lj hn).1 h
  have A:=(lj hn).1 hm
  rw [B] at A
  cases A; rfl
 ·exact .inl (yT.2 ⟨h,e⟩)
theorem F0 {K β:Type} [DecidableEq K] {t l ys:List (K×β)} {x:K} {y:β} (hn:(l.map (·.1)).Nodup) (hm:(x,y)∈l) (h: ∀ o∈t,o∈l∨o∈ys): ∀ o∈t,o∈fg l x∨o∈ys++[(x,y)]:=fun o ho=>by
 rcases h o ho with h|h
 ·rcases l_ hn hm h with h|h
  ·exact .inl h
  ·exact .inr (by simp [h])
 ·exact .inr (by simp [h])
theorem mK {K β:Type} [DecidableEq K] {t l:List (K×β)} {x:K} (h: ∀ o∈l,o∈t): ∀ o∈fg l x,o∈t:=fun o ho=>h o (yT.1 ho).1
theorem He {w:bZ} {m left:List (aJ×Int)} (h: ∀ p∈m,p∈left∨kS w p.1=false) (h0:left=[]):js w m=false:=by
 unfold js
 rw [List.any_eq_false]
 intro p hp
 rcases h p hp with q|q
 ·rw [h0] at q; cases q
 ·simp [q]
theorem K1 {w:bZ} {m:List (aJ×Int)} {p:aJ×Int} (hp:p∈m) (h:kS w p.1=true):js w m=true:=List.any_eq_true.2 ⟨p,hp,h⟩
theorem IB {w:bZ} {m left:List (aJ×Int)} {t:aJ} {v:Int} (hn:(left.map (·.1)).Nodup) (hm:(t,v)∈left) (h: ∀ p∈m,p∈left∨kS w p.1=false) (hf:kS w t=false): ∀ p∈m,p∈fg left t∨kS w p.1=false:=fun p hp=>by
 rcases h p hp with q|q
 ·rcases l_ hn hm q with q|q
  ·exact .inl q
  ·right; rw [q]; exact hf
 ·exact .inr q
/-- what the maps of a watch are -/
structure vm (w:bZ) (fs:List (List (aJ×Int))):Prop where
 len:fs.length=w.n+1
 min: ∀ (b:Nat) m,fs[b]? =some m→tN m (fwd w b)
 keys: ∀ (b:Nat) m,fs[b]? =some m→(m.map (·.1)).Nodup
structure sB (w:bZ) (bs:List (List (aJ×Int))):Prop where
 len:bs.length=w.n+1
 max: ∀ (b:Nat) m,bs[b]? =some m→vy m (back w b)
 keys: ∀ (b:Nat) m,bs[b]? =some m→(m.map (·.1)).Nodup
theorem vm.mem {w:bZ} {fs:List (List (aJ×Int))} (h:vm w fs) {b:Nat} {m:List (aJ×Int)} (hm:fs[b]? =some m) {p:aJ×Int} (hp:p∈m):p∈fwd w b:=(h.min b m hm).1 _ _ ((fO (h.keys b m hm)).1 hp)
theorem sB.mem {w:bZ} {fs:List (List (aJ×Int))} (h:sB w fs) {b:Nat} {m:List (aJ×Int)} (hm:fs[b]? =some m) {p:aJ×Int} (hp:p∈m):p∈back w b:=(h.max b m hm).1 _ _ ((fO (h.keys b m hm)).1 hp)
theorem Gm {w:bZ} {b:Nat} {t l ys:List (Int×ai)} (ht:w.vo[b]? =some t) (h: ∀ o∈t,o∈l∨o∈ys) (h0:l=[]) (hs:(-1,(⟨w.Start,w.fP⟩:ai))∈ys): ∀ o∈iS w b,o∈ys:=fun o ho=>by
 rcases (xY ht).1 ho with rfl|ho
 ·exact hs
 ·rcases h o ho with q|q
  ·rw [h0] at q; cases q
  ·exact q
end
section
/-- by these options all is yielded -/
def lT (w:bZ) (b:Nat) (mf mb:List (aJ×Int)) (os ys:List (Int×ai)):Prop:= ∀ o∈os,∀ p∈mf,∀ u∈mb,∀ q,mI w b p u o=some q→q∈ys
def nS (w:bZ) (b:Nat) (mf mb:List (aJ×Int)) (o:Int×ai) (left:List (aJ×Int)) (ys:List (Int×ai)):Prop:= ∀ p∈mf,p∈left∨ ∀ u∈mb,∀ q,mI w b p u o=some q→q∈ys
def nT (w:bZ) (b:Nat) (mb:List (aJ×Int)) (o:Int×ai) (p:aJ×Int) (left:List (aJ×Int)) (ys:List (Int×ai)):Prop:= ∀ u∈mb,u∈left∨ ∀ q,mI w b p u o=some q→q∈ys
variable {w:bZ} {b:Nat} {mf mb left:List (aJ×Int)} {o x:Int×ai} {os ys:List (Int×ai)} {p u:aJ×Int}
theorem lT.nil:lT w b mf mb [] ys:=fun o ho=>by cases ho
theorem lT.app (h:lT w b mf mb os ys):lT w b mf mb os (ys++[x]):=fun o ho p hp u hu q e=>List.mem_append_left _ (h o ho p hp u hu q e)
theorem nS.app (h:nS w b mf mb o left ys):nS w b mf mb o left (ys++[x]):=fun p hp=>(h p hp).imp id fun h u hu q e=>List.mem_append_left _ (h u hu q e)
theorem nS.start:nS w b mf mb o mf ys:=fun p hp=> .inl hp
theorem nT.start:nT w b mb o p mb ys:=fun p hp=> .inl hp
theorem nT.skip {t:aJ} {v:Int} (hn:(left.map (·.1)).Nodup) (hm:(t,v)∈left) (h:nT w b mb o p left ys) (he:mI w b p (t,v) o=none):nT w b mb o p (fg left t) ys:=fun u hu=>by
 rcases h u hu with q|q
 ·rcases l_ hn hm q with q|q
  ·exact .inl q
  ·right; intro z hz; rw [q,he] at hz; cases hz
 ·exact .inr q
theorem nT.SZ {t:aJ} {v:Int} (hn:(left.map (·.1)).Nodup) (hm:(t,v)∈left) (h:nT w b mb o p left ys) (he:mI w b p (t,v) o=some x):nT w b mb o p (fg left t) (ys++[x]):=fun u hu=>by
 rcases h u hu with q|q
 ·rcases l_ hn hm q with q|q
  ·exact .inl q
  ·right; intro z hz; rw [q,he] at hz; cases hz; simp
 ·right; intro z hz; exact List.mem_append_left _ (q z hz)
theorem nS.next {t:aJ} {v:Int} {l2:List (aJ×Int)} (hn:(left.map (·.1)).Nodup) (hm:(t,v)∈left) (h:nS w b mf mb o left ys) (hq:nT w b mb o (t,v) l2 ys) (h0:l2=[]):nS w b mf mb o (fg left t) ys:=fun p hp=>by
 rcases h p hp with q|q
 ·rcases l_ hn hm q with q|q
  ·exact .inl q
  ·right; intro u hu z hz; subst q
   rcases hq u hu with q|q
   ·rw [h0] at q; cases q
   ·exact q z hz
 ·exact .inr q
theorem lT.next (h:lT w b mf mb os ys) (hp:nS w b mf mb o left ys) (h0:left=[]):lT w b mf mb (os++[o]) ys:=fun o' ho p hp' u hu q e=>by
 rcases gL.1 ho with ho|ho
 ·exact h o' ho p hp' u hu q e
 ·simp only [cv] at ho; subst ho
  rcases hp p hp' with z|z
  ·rw [h0] at z; cases z
  ·exact z u hu q e
theorem lT.fin (h:lT w b mf mb os ys) (ho: ∀ o∈iS w b,o∈os): ∀ q∈qd w b mf mb,q∈ys:=fun q hq=>by
 obtain ⟨o,A,p,B,u,C,e⟩:=iE.1 hq
 exact h o (ho o A) p B u C q e
theorem FE (h:max (p.2+cf w b) o.2.Lo≤min u.2 o.2.Hi) (h2:kS w (dD (dD p.1 u.1) (fG o.1))=true):mI w b p u o=some (o.1,⟨max (p.2+cf w b) o.2.Lo,min u.2 o.2.Hi⟩):=by
 unfold mI jM wQ; rw [if_pos ⟨h,h2⟩]
theorem HO (h: ¬ max (p.2+cf w b) o.2.Lo≤min u.2 o.2.Hi):mI w b p u o=none:=by
 unfold mI jM; rw [if_neg (fun q=>h q.1)]
theorem Fg (h2:kS w (dD (dD p.1 u.1) (fG o.1))=false):mI w b p u o=none:=by
 unfold mI wQ; rw [if_neg (fun q=>by rw [h2] at q; exact absurd q.2 dc)]
theorem nE {v:Int} (h:w.qh[b]? =some v):cf w b=v:=by unfold cf; rw [h]; rfl
theorem Bs {t q:aJ} {v z y:Int} (hy:w.qh[b]? =some y) (h:max (v+y) o.2.Lo≤min z o.2.Hi) (h2:kS w (dD (dD t q) (fG o.1))=true):mI w b (t,v) (q,z) o=some (o.1,⟨max (v+y) o.2.Lo,min z o.2.Hi⟩):=by
 have e:=nE hy
 subst e
 exact FE h h2
theorem GC {t q:aJ} {v z y:Int} (hy:w.qh[b]? =some y) (h: ¬ max (v+y) o.2.Lo≤min z o.2.Hi):mI w b (t,v) (q,z) o=none:=by
 have e:=nE hy
 subst e
 exact HO h
theorem ot {m:List (aJ×Int)} {k:aJ} {y:Int} (h:(m.map (·.1)).Nodup):((eD m k y).map (·.1)).Nodup:=by
 unfold eD
 by_cases hx:(m.lookup k).isSome
 ·rw [if_pos hx,List.map_map]
  have e:m.map ((fun p=>p.1)∘fun p=>if p.1=k then (k,y) else p)=m.map (·.1):=by
   apply List.map_congr_left
   intro p _
   simp only [Function.comp]
   split
   ·rename_i e; exact e.symm
   ·rfl
  rw [e]; exact h
 ·rw [if_neg hx,List.map_append,List.nodup_append]
  refine ⟨h,sm,?_⟩
  intro a ha c hc
  simp only [List.map_cons,List.map_nil,cv] at hc
  rw [hc]
  obtain ⟨p,hp,rfl⟩:=cE.1 ha
  have hn:m.lookup k=none:=by cases h0:m.lookup k with
   |none=>rfl
   |some v=>exact absurd (by rw [h0]; rfl) hx
  exact iz.1 hn p hp
theorem B7 {m:List (aJ×Int)} {q:aJ×Int} (h:(m.map (·.1)).Nodup):((pk m q).map (·.1)).Nodup:=by
 unfold pk; split
 ·exact ot h
 ·split
  ·exact ot h
  ·exact h
theorem AI {m:List (aJ×Int)} {q:aJ×Int} (h:(m.map (·.1)).Nodup):((o_ m q).map (·.1)).Nodup:=by
 unfold o_; split
 ·exact ot h
 ·split
  ·exact ot h
  ·exact h
/-- a map of the first times, on its way -/
structure wq (w:bZ) (b:Nat) (m:List (aJ×Int)):Prop where
 snd:vr m (fwd w (b+1))
 keys:(m.map (·.1)).Nodup
structure vQ (w:bZ) (b:Nat) (m:List (aJ×Int)):Prop where
 snd:vr m (back w b)
 keys:(m.map (·.1)).Nodup
 zero: ∃ v,m.lookup ⟨0,0⟩=some v∧w.fP≤v
theorem G3 (h:max (p.2+cf w b) o.2.Lo≤min o.2.Hi w.fP):k9 w b p o=some (dD p.1 (fG o.1),max (p.2+cf w b) o.2.Lo):=by unfold k9; rw [if_pos h]
theorem K7 (h: ¬ max (p.2+cf w b) o.2.Lo≤min o.2.Hi w.fP):k9 w b p o=none:=by unfold k9; rw [if_neg h]
theorem IJ (h:o.2.Lo≤min p.2 o.2.Hi):nY w b p o=some (dD p.1 (fG o.1),min p.2 o.2.Hi-cf w b):=by unfold nY; rw [if_pos h]
theorem JU (h: ¬ o.2.Lo≤min p.2 o.2.Hi):nY w b p o=none:=by unfold nY; rw [if_neg h]
theorem wq.start:wq w b []:=⟨fun t v h=>by simp at h,List.nodup_nil⟩
theorem wq.add {m:List (aJ×Int)} {q:aJ×Int} (h:wq w b m) (hp:p∈fwd w b) (ho:o∈iS w b) (he:k9 w b p o=some q):wq w b (pk m q):=⟨GB h.snd (gh.2 ⟨p,hp,o,ho,he⟩),B7 h.keys⟩
theorem vQ.start (hb:b<w.n):vQ w b [(⟨0,0⟩,w.fP)]:=⟨fun t v h=>by
 obtain ⟨rfl,rfl⟩:=oQ.1 h
 exact (o0 hb).2 (.inl U),sm,w.fP,oQ.2 ⟨U,U⟩,Int.le_refl _⟩
theorem vQ.add {m:List (aJ×Int)} {q:aJ×Int} (hb:b<w.n) (h:vQ w b m) (hp:p∈back w (b+1)) (ho:o∈iS w b) (he:nY w b p o=some q):vQ w b (o_ m q):=⟨E1 h.snd ((o0 hb).2 (.inr ⟨p,hp,o,ho,he⟩)),AI h.keys,by
 obtain ⟨v,A,C⟩:=h.zero
 obtain ⟨v',B,D⟩:=qP (q:=q) _ _ A
 exact ⟨v',B,I⟩⟩
theorem jz.none_ {m:List (aJ×Int)} (h:jz w b m p os) (he:k9 w b p o=none):jz w b m p (os++[o]):=h.add (xj.refl _) fun q hq=>by rw [he] at hq; cases hq
theorem jz.GY {m:List (aJ×Int)} {q:aJ×Int} (h:jz w b m p os) (he:k9 w b p o=some q):jz w b (pk m q) p (os++[o]):=h.add vE fun q' hq=>by rw [he] at hq; cases hq; exact F5
theorem jv.none_ {m:List (aJ×Int)} (h:jv w b m p os) (he:nY w b p o=none):jv w b m p (os++[o]):=h.add (wJ.refl _) fun q hq=>by rw [he] at hq; cases hq
theorem jv.GY {m:List (aJ×Int)} {q:aJ×Int} (h:jv w b m p os) (he:nY w b p o=some q):jv w b (o_ m q) p (os++[o]):=h.add qP fun q' hq=>by rw [he] at hq; cases hq; exact FV
/-- what of a map of the beam before is used already -/
def j3 (w:bZ) (b:Nat) (mb m left:List (aJ×Int)):Prop:= ∀ p∈mb,p∈left∨jz w b m p (iS w b)
def jT (w:bZ) (b:Nat) (mb m left:List (aJ×Int)):Prop:= ∀ p∈mb,p∈left∨jv w b m p (iS w b)
theorem j3.start {m:List (aJ×Int)}:j3 w b mb m mb:=fun p hp=> .inl hp
theorem jT.start {m:List (aJ×Int)}:jT w b mb m mb:=fun p hp=> .inl hp
theorem j3.lower {m m':List (aJ×Int)} (h:j3 w b mb m left) (hl:xj m m'):j3 w b mb m' left:=fun p hp=>(h p hp).imp id fun h=>h.lower hl
theorem jT.upper {m m':List (aJ×Int)} (h:jT w b mb m left) (hl:wJ m m'):jT w b mb m' left:=fun p hp=>(h p hp).imp id fun h=>h.upper hl
theorem j3.next {m:List (aJ×Int)} {t:aJ} {v:Int} (hn:(left.map (·.1)).Nodup) (hm:(t,v)∈left) (h:j3 w b mb m left) (hd:jz w b m (t,v) os) (ho: ∀ o∈iS w b,o∈os):j3 w b mb m (fg left t):=fun p hp=>by
 rcases h p hp with q|q
 ·rcases l_ hn hm q with q|q
  ·exact .inl q
  ·right; rw [q]; exact hd.sub ho
 ·exact .inr q
theorem jT.next {m:List (aJ×Int)} {t:aJ} {v:Int} (hn:(left.map (·.1)).Nodup) (hm:(t,v)∈left) (h:jT w b mb m left) (hd:jv w b m (t,v) os) (ho: ∀ o∈iS w b,o∈os):jT w b mb m (fg left t):=fun p hp=>by
 rcases h p hp with q|q
 ·rcases l_ hn hm q with q|q
  ·exact .inl q
  ·right; rw [q]; exact hd.sub ho
 ·exact .inr q
theorem j3.fin {m:List (aJ×Int)} (h:j3 w b mb m left) (h0:left=[]): ∀ p∈mb,jz w b m p (iS w b):=fun p hp=>by
 rcases h p hp with q|q
 ·rw [h0] at q; cases q
 ·exact q
theorem jT.fin {m:List (aJ×Int)} (h:jT w b mb m left) (h0:left=[]): ∀ p∈mb,jv w b m p (iS w b):=fun p hp=>by
 rcases h p hp with q|q
 ·rw [h0] at q; cases q
 ·exact q
end
section
def mG (a b:ai):ai:=⟨a.Lo+b.Lo,a.Hi+b.Hi⟩
def g4:ai:=⟨0,0⟩
def kR (a:ai) (l:List ai):ai:=l.foldl mG a
def lQ (z:ai):Prop:=(-1000000000≤z.Lo∧z.Lo≤1000000000)∧ -1000000000≤z.Hi∧z.Hi≤1000000000
theorem yE {a:ai} {l:List ai} {i:Nat} {z:ai} (h:l[i]? =some z):kR a (l.take (i+1))=mG (kR a (l.take i)) z:=by
 rw [List.take_add_one,h]; unfold kR; simp
theorem Oe {a:ai} {l:List ai} (ha:lQ a) (hl: ∀ z∈l,lQ z): ∀ i:Nat,(-1000000000-1000000000*(i:Int)≤(kR a (l.take i)).Lo∧(kR a (l.take i)).Lo≤1000000000+1000000000*(i:Int))∧ -1000000000-1000000000*(i:Int)≤(kR a (l.take i)).Hi∧(kR a (l.take i)).Hi≤1000000000+1000000000*(i:Int):=by
 intro i
 induction i with
 |zero=>unfold lQ at ha; simp [kR]; omega
 |succ i ih=>
  cases h:l[i]? with
  |none=>rw [List.take_add_one,h]; simp only [Option.toList_none,List.append_nil]; omega
  |some z=>
   have hz:=hl z (aP h)
   unfold lQ at hz
   rw [yE h]
   simp only [mG]
   omega
theorem G9 {a:ai} {l:List ai} {i:Nat} (h:l.length≤i):kR a (l.take i)=kR a l:=by rw [List.take_of_length_le h]
theorem nB {a z:ai}:vA (ai.cells (kR a [z]))=vA (ai.cells (mG a z)):=rfl
theorem Bl {a y z:ai}:vA (ai.cells (kR a [y,z]))=vA (ai.cells (mG (mG a y) z)):=rfl
/-- how long the run is from one mark, over so many stretches; by how much it falls -/
def eG (ts:List aq) (f:Nat):Nat→ai
 |0=>g4
 |k+1=>match ts[f+k]? with
  |some x=>mG (eG ts f k) x.jP
  |none=>eG ts f k
def gE (ts:List aq) (f:Nat):Nat→ai
 |0=>g4
 |k+1=>match ts[f+k]? with
  |some x=>mG (gE ts f k) x.kI
  |none=>gE ts f k
theorem pL {ts:List aq} {f k:Nat} {x:aq} (h:ts[f+k]? =some x):eG ts f (k+1)=mG (eG ts f k) x.jP:=by simp [eG,h]
theorem pT {ts:List aq} {f k:Nat} {x:aq} (h:ts[f+k]? =some x):gE ts f (k+1)=mG (gE ts f k) x.kI:=by simp [gE,h]
theorem mu {ts:List aq} (ht: ∀ x∈ts,bV x) (f:Nat): ∀ k:Nat,(0≤(eG ts f k).Lo∧(eG ts f k).Lo≤(eG ts f k).Hi)∧(eG ts f k).Hi≤30000*(k:Int):=by
 intro k
 induction k with
 |zero=>simp [eG,g4]
 |succ k ih=>
  simp only [eG]
  cases h:ts[f+k]? with
  |none=>simp only; omega
  |some x=>
   have hx:=(ht x (aP h)).2.1
   simp only [eg] at hx
   simp only [mG]
   omega
theorem EU {ts:List aq} (ht: ∀ x∈ts,bV x) (f:Nat): ∀ k:Nat,(0≤(gE ts f k).Lo∧(gE ts f k).Lo≤(gE ts f k).Hi)∧(gE ts f k).Hi≤5000*(k:Int):=by
 intro k
 induction k with
 |zero=>simp [gE,g4]
 |succ k ih=>
  simp only [gE]
  cases h:ts[f+k]? with
  |none=>simp only; omega
  |some x=>
   have hx:=(ht x (aP h)).2.2.1
   simp only [eg] at hx
   simp only [mG]
   omega
theorem qA {ts:List aq} (ht: ∀ x∈ts,bV x) {f k:Nat} (hk:k≤13):lQ (eG ts f k):=by
 have:=mu ht f k; unfold lQ; omega
theorem wy {ts:List aq} (ht: ∀ x∈ts,bV x) {f k:Nat} (hk:k≤13):lQ (gE ts f k):=by
 have:=EU ht f k; unfold lQ; omega
theorem uL {x:aq} (h:bV x):lQ x.jP:=by have:=h.2.1; simp only [eg] at this; unfold lQ; omega
theorem vg {x:aq} (h:bV x):lQ x.kI:=by have:=h.2.2.1; simp only [eg] at this; unfold lQ; omega
theorem yq {ts:List aq} (h: ¬ (if dv ts=true then (0:Int) else 10)=0):dv ts=false∧(if dv ts=true then (0:Int) else 10)=10:=by
 cases ht:dv ts with
 |true=>rw [ht] at h; exact absurd rfl h
 |false=>exact ⟨rfl,rfl⟩
theorem DN {ts:List aq} (h:(if dv ts=true then (0:Int) else 10)=0):dv ts=true:=by
 cases ht:dv ts with
 |true=>rfl
 |false=>rw [ht] at h; exact absurd h dc
/-- what the iterator of marks yields -/
def tM (ts:List aq) (f:Nat):List (List Value):=(List.range (ts.length-f+1)).map fun (k:Nat)=>[.agg (eG ts f k).cells.toArray,.agg (gE ts f k).cells.toArray]
theorem tT {ts:List aq} {f:Nat}:(tM ts f).length=ts.length-f+1:=by simp [tM]
theorem yL {ts:List aq} {f k:Nat} (h:k≤ts.length-f):(tM ts f)[k]? =some [.agg (eG ts f k).cells.toArray,.agg (gE ts f k).cells.toArray]:=by
 simp [tM,List.getElem?_range (show k<ts.length-f+1 by omega)]
theorem Fm {ts:List aq} {f k:Nat} {x:List Value} (h:(tM ts f)[k]? =some x):k≤ts.length-f∧x=[.agg (eG ts f k).cells.toArray,.agg (gE ts f k).cells.toArray]:=by
 have hi:k<ts.length-f+1:=by
  have:=(aU.1 h).1
  simpa [tM] using this
 rw [yL I] at h
 exact ⟨I,(Option.some.inj h).symm⟩
theorem CV {ts:List aq} {f:Nat}: ∀ x∈tM ts f,x.length=2:=fun x hx=>by
 obtain ⟨k,_,rfl⟩:=cE.1 hx; rfl
end
section
def fU (ts:List aq) (s:c_):Prop:=(0≤s.bw∧s.bw<(ts.length:Int))∧ ∃ x,ts[s.bw.toNat]? =some x∧eg s.lP 0 (x.jP.Lo-1)
noncomputable instance (ts:List aq) (s:c_):Decidable (fU ts s):=Classical.propDecidable _
theorem Bz {ts:List aq} {s:c_} {x:aq} (h:0≤s.bw∧s.bw<(ts.length:Int)) (hx:ts[s.bw.toNat]? =some x):fU ts s↔eg s.lP 0 (x.jP.Lo-1):=
 ⟨fun A=>by obtain ⟨y,hy,B⟩:=A.2; rw [hx] at hy; cases hy; exact B,fun A=>⟨h,x,hx,A⟩⟩
theorem AZ {ts:List aq} {s:c_} (h: ¬ (0≤s.bw∧s.bw<(ts.length:Int))): ¬ fU ts s:=fun A=>h A.1
theorem z3 {ts:List aq} {s:c_} (ht: ∀ x∈ts,bV x) (h:fU ts s):(0≤s.lP.Lo∧s.lP.Lo≤s.lP.Hi)∧s.lP.Hi≤30000:=by
 obtain ⟨x,hx,A⟩:=h.2
 have:=(ht x (aP hx)).2.1
 simp only [eg] at A this
 omega
theorem C4 {ts:List aq} {a:c_}:vB (decide (∀ s∈[a],fU ts s))=vB (decide (fU ts a)):=congrArg _ (gR.2 sm)
theorem CZ {ts:List aq} {a b:c_}:vB (decide (∀ s∈[a,b],fU ts s))=vB (decide (fU ts a∧fU ts b)):=congrArg _ (gR.2 sm)
def oc (z:ai):ai:=⟨-z.Hi,-z.Lo⟩
def JR (ts:List aq) (s:c_):ai:=mG (eG ts 0 s.bw.toNat) s.lP
noncomputable def EE (ts:List aq) (s:c_):Int:=if dv ts=true then (if fU ts s then 0 else 12) else 10
noncomputable def OO (ts:List aq) (s:c_):ai:=if EE ts s=0 then JR ts s else g4
theorem Iu {ts:List aq} {s:c_} (h:dv ts=false):EE ts s=10∧OO ts s=g4:=by
 have e:EE ts s=10:=by unfold EE; rw [h]; rfl
 exact ⟨e,by unfold OO; rw [e]; rfl⟩
theorem Hp {ts:List aq} {s:c_} (h:dv ts=true) (h2: ¬ fU ts s):EE ts s=12∧OO ts s=g4:=by
 have e:EE ts s=12:=by unfold EE; rw [if_pos h,if_neg h2]
 exact ⟨e,by unfold OO; rw [e]; rfl⟩
theorem xy {ts:List aq} {s:c_} (h:dv ts=true) (h2:fU ts s):EE ts s=0∧OO ts s=JR ts s:=by
 have e:EE ts s=0:=by unfold EE; rw [if_pos h,if_pos h2]
 exact ⟨e,if_pos e⟩
theorem El {ts:List aq} {s:c_} (h:dv ts=true):EE ts s=0↔fU ts s:=by
 unfold EE; rw [if_pos h]; split<;>simp [*]
def xw (ts:List aq) (a b:c_):ai:=eG ts (min a.bw b.bw).toNat (max a.bw b.bw-min a.bw b.bw).toNat
def kf (ts:List aq) (a b:c_):ai:=mG (mG (if b.bw<a.bw then oc (xw ts a b) else xw ts a b) b.lP) (oc a.lP)
noncomputable def l0 (ts:List aq) (a b:c_):Int:=if dv ts=true then (if fU ts a∧fU ts b then 0 else 12) else 10
noncomputable def k7 (ts:List aq) (a b:c_):ai:=if l0 ts a b=0 then kf ts a b else g4
theorem uJ {ts:List aq} {a b:c_} (h:dv ts=false):l0 ts a b=10∧k7 ts a b=g4:=by
 have e:l0 ts a b=10:=by unfold l0; rw [h]; rfl
 exact ⟨e,by unfold k7; rw [e]; rfl⟩
theorem oP {ts:List aq} {a b:c_} (h:dv ts=true) (h2: ¬ (fU ts a∧fU ts b)):l0 ts a b=12∧k7 ts a b=g4:=by
 have e:l0 ts a b=12:=by unfold l0; rw [if_pos h,if_neg h2]
 exact ⟨e,by unfold k7; rw [e]; rfl⟩
theorem lM {ts:List aq} {a b:c_} (h:dv ts=true) (h2:fU ts a∧fU ts b):l0 ts a b=0∧k7 ts a b=kf ts a b:=by
 have e:l0 ts a b=0:=by unfold l0; rw [if_pos h,if_pos h2]
 exact ⟨e,if_pos e⟩
theorem zk {z:ai} (h:lQ z):lQ (oc z):=by unfold lQ oc at *; simp only; omega
theorem qM {ts:List aq} {s:c_} (ht: ∀ x∈ts,bV x) (h:fU ts s):lQ s.lP:=by have:=z3 ht h; unfold lQ; omega
theorem NP {ts:List aq} {a b:c_} (ht: ∀ x∈ts,bV x) (hl:ts.length≤12) (ha:fU ts a) (hb:fU ts b):(0≤(xw ts a b).Lo∧(xw ts a b).Lo≤(xw ts a b).Hi)∧(xw ts a b).Hi≤360000:=by
 have h:=mu ht (min a.bw b.bw).toNat (max a.bw b.bw-min a.bw b.bw).toNat
 have A:=ha.1
 have B:=hb.1
 unfold xw
 omega
theorem xd {ts:List aq} {a b:c_} (ht: ∀ x∈ts,bV x) (hl:ts.length≤12) (ha:fU ts a) (hb:fU ts b):(-400000≤(kf ts a b).Lo∧(kf ts a b).Lo≤(kf ts a b).Hi)∧(kf ts a b).Hi≤400000:=by
 have h:=NP ht hl ha hb
 have A:=z3 ht ha
 have B:=z3 ht hb
 unfold kf mG oc
 split<;>simp only <;>omega
theorem Ro {ts:List aq} {s:c_} (ht: ∀ x∈ts,bV x) (hl:ts.length≤12) (h:fU ts s):(0≤(JR ts s).Lo∧(JR ts s).Lo≤(JR ts s).Hi)∧(JR ts s).Hi≤400000:=by
 have A:=mu ht 0 s.bw.toNat
 have B:=z3 ht h
 have C:=h.1
 unfold JR mG
 simp only; omega
theorem F4 {α:Type} {p:Nat→α→Bool} {l:List α}:((l.zipIdx.filter fun q=>p q.2 q.1).map fun q=>(q.2:Int))=[]↔ ∀ (i:Nat) x,l[i]? =some x→p i x=false:=by
 rw [List.map_eq_nil_iff,List.filter_eq_nil_iff]
 constructor
 ·intro h i x hx
  have:=h (x,i) (by rw [List.mem_zipIdx_iff_getElem?]; simpa using hx)
  simpa using this
 ·rintro h ⟨x,i⟩ hm
  rw [List.mem_zipIdx_iff_getElem?] at hm
  simpa using h i x (by simpa using hm)
/-- the places of a list at which something is so -/
def sj {α:Type} (p:Nat→α→Bool) (l:List α) (n:Nat):List Int:=(((l.take n).zipIdx.filter fun q=>p q.2 q.1).map fun q=>(q.2:Int))
theorem H0 {α:Type} {p:Nat→α→Bool} {l:List α} {i:Nat} {x:α} (hx:l[i]? =some x) (h:p i x=true):sj p l (i+1)=sj p l i++[(i:Int)]:=by
 have hi:=(aU.1 hx).1
 unfold sj
 rw [List.take_add_one,hx,List.zipIdx_append,List.filter_append,List.map_append]
 simp [Nat.min_eq_left (Nat.le_of_lt hi),h]
theorem KN {α:Type} {p:Nat→α→Bool} {l:List α} {i:Nat} {x:α} (hx:l[i]? =some x) (h:p i x=false):sj p l (i+1)=sj p l i:=by
 have hi:=(aU.1 hx).1
 unfold sj
 rw [List.take_add_one,hx,List.zipIdx_append,List.filter_append,List.map_append]
 simp [Nat.min_eq_left (Nat.le_of_lt hi),h]
theorem Bx {α:Type} {p:Nat→α→Bool} {l:List α} {n:Nat}:(sj p l n).length≤n:=by
 unfold sj
 rw [List.length_map]
 refine Nat.le_trans (List.length_filter_le _ _) ?_
 rw [List.length_zipIdx,List.length_take]; omega
def Hj {α:Type} (p:Nat→α→Bool) (l:List α):List Int:=sj p l l.length
theorem J0 {α:Type} {p:Nat→α→Bool} {l:List α} {n:Nat} (h:n=l.length):sj p l n=Hj p l:=by rw [h]; rfl
theorem Fs {α:Type} {p:Nat→α→Bool} {l:List α}:(Hj p l).length=0↔ ∀ (i:Nat) x,l[i]? =some x→p i x=false:=by
 unfold Hj sj
 rw [List.length_eq_zero_iff,List.take_length]
 exact F4
end
section
theorem yC (p:Int→Bool) (n:Nat): ∃ r:Int,r=((List.range n).findIdx fun (k:Nat)=>p (k:Int):Nat):=⟨_,rfl⟩
noncomputable def gj (p:Int→Bool) (n:Nat):Int:=Classical.choose (yC p n)
theorem sK (p:Int→Bool) (n:Nat):gj p n=((List.range n).findIdx fun (k:Nat)=>p (k:Int):Nat):=Classical.choose_spec (yC p n)
theorem ji {p:Int→Bool} {n:Nat}:0≤gj p n∧gj p n≤n:=by
 rw [sK]
 have:=List.findIdx_le_length (xs:=List.range n) (p:=fun (k:Nat)=>p (k:Int))
 rw [List.length_range] at this
 omega
theorem yW {p:Int→Bool} {n:Nat} {x:Int} (h0:0≤x) (h:x<gj p n):p x=false:=by
 have hb:=ji (p:=p) (n:=n)
 rw [sK] at h
 have B:x.toNat<(List.range n).findIdx fun (k:Nat)=>p (k:Int):=by omega
 have A:=List.not_of_lt_findIdx B
 simp only [List.getElem_range] at A
 rw [show (x.toNat:Int)=x by omega] at A
 simpa using A
theorem Fp {p:Int→Bool} {n:Nat} (h:gj p n<n):p (gj p n)=true:=by
 rw [sK] at h ⊢
 have A:((List.range n).findIdx fun (k:Nat)=>p (k:Int))<(List.range n).length:=by rw [List.length_range]; omega
 have:=List.findIdx_getElem (w:=A)
 simpa using this
end
section
def oM (n by_:Int):Int:=(n+by_-1)/by_
/-- by how much a sync may be off -/
def sx (c:av) (at_:Int) (x:cK):Int:=oM (c.du*max (at_-x.At) (x.At-at_)) 1000000
def l7 (c:av) (at_:Int) (s:ai) (x:cK):ai:=⟨max s.Lo (x.dW.Lo-sx c at_ x),min s.Hi (x.dW.Hi+sx c at_ x)⟩
def gI (c:av) (at_:Int) (k:Nat):ai:=(c.bp.take k).foldl (l7 c at_) ⟨-1099511627776,1099511627776⟩
def iK (c:av) (at_:Int):ai:=c.bp.foldl (l7 c at_) ⟨-1099511627776,1099511627776⟩
theorem j_ {c:av} {at_:Int} {k:Nat} {x:cK} (h:c.bp[k]? =some x):gI c at_ (k+1)=l7 c at_ (gI c at_ k) x:=by
 unfold gI; rw [List.take_add_one,h,List.foldl_append]; rfl
theorem nz {c:av} {at_:Int} {k:Nat} (h:c.bp.length≤k):gI c at_ k=iK c at_:=by unfold gI iK; rw [List.take_of_length_le h]
def kF (c:av) (i:Nat):Int:=if i=0 then-1 else ((c.bp[i-1]?).map (·.At)).getD 0
def fV (c:av) (i:Nat) (x:cK):Prop:=(kF c i<x.At∧x.At≤86400000)∧ -10000≤x.dW.Lo∧x.dW.Lo≤x.dW.Hi∧x.dW.Hi≤10000
def oE (c:av) (x o:cK):Prop:=x.dW.Lo-o.dW.Hi≤oM (c.du*(x.At-o.At)) 1000000∧o.dW.Lo-x.dW.Hi≤oM (c.du*(x.At-o.At)) 1000000
structure fy (c:av):Prop where
 r9:0≤c.du∧c.du≤1000
 len:1≤c.bp.length∧c.bp.length≤5
 sync: ∀ (i:Nat) x,c.bp[i]? =some x→fV c i x
 pair: ∀ (i k:Nat) x o,c.bp[i]? =some x→k<i→c.bp[k]? =some o→oE c x o
noncomputable instance (c:av):Decidable (fy c):=Classical.propDecidable _
theorem gV {c:av} {i:Nat} (h:i=0):kF c i= -1:=if_pos h
theorem xg {c:av} {i:Nat} {y:cK} (h:0<i) (hy:c.bp[i-1]? =some y):kF c i=y.At:=by unfold kF; rw [if_neg I,hy]; rfl
theorem oq {c:av} {i:Nat} {y:cK} (hy:c.bp[i]? =some y):kF c (i+1)=y.At:=by unfold kF; rw [if_neg I,Nat.add_sub_cancel,hy]; rfl
/-- the times of the syncs -/
theorem KL {c:av} (h: ∀ (i:Nat) x,c.bp[i]? =some x→fV c i x): ∀ (i:Nat) x,c.bp[i]? =some x→0≤x.At∧ ∀ (k:Nat) o,k<i→c.bp[k]? =some o→o.At<x.At:=by
 intro i
 induction i with
 |zero=>
  intro x hx
  have:=(h 0 x hx).1.1
  rw [gV rfl] at this
  exact ⟨I,fun k o hk=>by omega⟩
 |succ i ih=>
  intro x hx
  have hi:=(aU.1 hx).1
  have hy:c.bp[i]? =some (c.bp[i]'I):=eX I
  have B:=ih _ hy
  have A:=(h (i+1) x hx).1.1
  rw [oq hy] at A
  refine ⟨I,fun k o hk ho=>?_⟩
  by_cases e:k=i
  ·subst e; rw [hy] at ho; cases ho; exact A
  ·have:=B.2 k o I ho; omega
theorem fy.uO {c:av} (h:fy c) {i:Nat} {x:cK} (hx:c.bp[i]? =some x):(0≤x.At∧x.At≤86400000)∧ -10000≤x.dW.Lo∧x.dW.Lo≤x.dW.Hi∧x.dW.Hi≤10000:=by
 have A:=h.sync i x hx
 exact ⟨⟨(KL h.sync i x hx).1,A.1.2⟩,A.2⟩
theorem Ec {d a b:Int} (hd:0≤d∧d≤1000) (ha:0≤a∧a≤90000000) (hb:0≤b∧b≤90000000):0≤d*max (a-b) (b-a)∧d*max (a-b) (b-a)≤90000000000:=by
 have:=OI (a:=d) (b:=max (a-b) (b-a)) (A:=1000) (B:=90000000) hd.1 hd.2 I I
 omega
theorem uQ {c:av} {at_:Int} {x:cK} (hd:0≤c.du∧c.du≤1000) (ha:0≤at_∧at_≤90000000) (hx:0≤x.At∧x.At≤86400000):0≤sx c at_ x∧sx c at_ x≤90001:=by
 have h:=Ec hd ha (show 0≤x.At∧x.At≤90000000 by omega)
 unfold sx oM; omega
theorem Bk {c:av} {at_:Int} (h:fy c) (ha:0≤at_∧at_≤90000000): ∀ k:Nat,(-1099511627776≤(gI c at_ k).Lo∧(gI c at_ k).Lo≤10000)∧ -10000≤(gI c at_ k).Hi∧(gI c at_ k).Hi≤1099511627776:=by
 intro k
 induction k with
 |zero=>simp [gI]
 |succ k ih=>
  cases hx:c.bp[k]? with
  |none=>unfold gI at ih ⊢; rw [List.take_add_one,hx]; simpa using ih
  |some x=>
   have hb:=h.uO hx
   have ho:=uQ h.r9 ha hb.1
   rw [j_ hx]
   unfold l7
   simp only
   omega
theorem qV {c:av} {at_:Int} (h:fy c) (ha:0≤at_∧at_≤90000000):(-110000≤(iK c at_).Lo∧(iK c at_).Lo≤10000)∧ -10000≤(iK c at_).Hi∧(iK c at_).Hi≤110000:=by
 obtain ⟨n,hn⟩: ∃ n,c.bp.length=n+1:=⟨c.bp.length-1,by have:=h.len; omega⟩
 have hx:c.bp[n]? =some (c.bp[n]'I):=eX I
 have hb:=h.uO hx
 have ho:=uQ h.r9 ha hb.1
 have A:=Bk h ha n
 rw [← nz (k:=n+1) I,j_ hx]
 unfold l7
 simp only
 omega
/-- as time goes on, time and what a clock may be ahead, together, never go back -/
theorem Dx {c:av} (h:fy c) {a b:Int} (ha:0≤a) (hab:a≤b) (hb:b≤90000000): ∀ k:Nat,(a+(gI c a k).Lo≤b+(gI c b k).Lo∨(gI c a k).Lo= -1099511627776)∧a+(gI c a k).Hi≤b+(gI c b k).Hi:=by
 have step: ∀ (x:cK),0≤x.At∧x.At≤86400000→ ∀ a b:Int,0≤a→a≤b→b≤90000000→sx c a x≤sx c b x+(b-a)∧sx c b x≤sx c a x+(b-a):=by
  intro x hx a b ha hab hb
  have hd:=h.r9
  have e: ∀ u v:Int,u≤v+1000000*(b-a)→oM u 1000000≤oM v 1000000+(b-a):=by intro u v C; unfold oM; omega
  have m: ∀ p q:Int,p≤q+(b-a)→c.du*p≤c.du*q+1000000*(b-a):=by
   intro p q A
   have D:c.du*p≤c.du*(q+(b-a)):=Int.mul_le_mul_of_nonneg_left A hd.1
   have E:c.du*(q+(b-a))=c.du*q+c.du*(b-a):=Int.mul_add _ _ _
   have F:c.du*(b-a)≤1000*(b-a):=Int.mul_le_mul_of_nonneg_right hd.2 I
   omega
  exact ⟨e _ _ (m _ _ I),e _ _ (m _ _ I)⟩
 intro k
 induction k with
 |zero=>simp [gI]; omega
 |succ k ih=>
  cases hx:c.bp[k]? with
  |none=>
   have e: ∀ t,gI c t (k+1)=gI c t k:=fun t=>by unfold gI; rw [List.take_add_one,hx]; simp
   rw [e,e]; exact ih
  |some x=>
   have hs:=h.uO hx
   have:=step x hs.1 a b ha hab hb
   have B:=uQ (at_:=a) h.r9 ⟨ha,I⟩ hs.1
   rw [j_ hx,j_ hx]
   unfold l7
   simp only
   omega
theorem vw {c:av} (h:fy c) {a b:Int} (ha:0≤a) (hab:a≤b) (hb:b≤90000000):a+(iK c a).Lo≤b+(iK c b).Lo∧a+(iK c a).Hi≤b+(iK c b).Hi:=by
 have A:=Dx h ha hab hb c.bp.length
 have B:=qV h (at_:=a) ⟨ha,I⟩
 rw [nz (Nat.le_refl _),nz (Nat.le_refl _)] at A
 omega
noncomputable def mo (l:bo) (i:Nat):Int:=match l.ab[i]? with
 |some b=>if i=0 then (JR l.aO b.k8).Lo else (match l.ab[i-1]? with
  |some a=>(kf l.aO a.k8 b.k8).Lo
  |none=>0)
 |none=>0
theorem yF {l:bo} {b:bL} (h:l.ab[0]? =some b):mo l 0=(JR l.aO b.k8).Lo:=by unfold mo; rw [h]; rfl
theorem AA {l:bo} {i:Nat} {a b:bL} (hi:0<i) (h:l.ab[i]? =some b) (ha:l.ab[i-1]? =some a):mo l i=(kf l.aO a.k8 b.k8).Lo:=by unfold mo; rw [h,ha]; simp only; rw [if_neg I]
def j4 (l:bo) (b:bL):Prop:=fU l.aO b.k8∧0≤b.jO∧b.jO<(l.aj.length:Int)
def eT (l:bo):Prop:=(1≤l.ib∧l.ib≤5000)∧(1≤(l.aj.length:Int)∧(l.aj.length:Int)≤4)∧(1≤(l.ab.length:Int)∧(l.ab.length:Int)≤6)∧(0≤l.b_∧l.b_≤(l.ab.length:Int)-1)∧(0≤l.e9∧l.e9≤3)∧0≤l.dp∧l.dp≤3
structure l9 (l:bo):Prop where
 head:eT l
 clock: ∀ c∈l.aj,fy c
 ti: ∀ b∈l.ab,j4 l b
 Oa: ∀ i,i<l.ab.length→1≤mo l i
noncomputable instance (l:bo):Decidable (l9 l):=Classical.propDecidable _
noncomputable def dM (l:bo):Int:=if dv l.aO=true then (if l9 l then 0 else 50) else 10
theorem yP {l:bo} (h:dv l.aO=false):dM l=10:=by unfold dM; rw [h]; rfl
theorem qT {l:bo} (h:dv l.aO=true) (h2: ¬ l9 l):dM l=50:=by unfold dM; rw [if_pos h,if_neg h2]
theorem Bi {l:bo} (h:dv l.aO=true) (h2:l9 l):dM l=0:=by unfold dM; rw [if_pos h,if_pos h2]
theorem dK {l:bo} (h:dM l=0):dv l.aO=true∧l9 l:=by
 unfold dM at h
 split at h
 ·split at h
  ·exact ⟨asm,asm⟩
  ·omega
 ·omega
theorem B2 {l:bo} (ht:dv l.aO=true) (hb: ∀ b∈l.ab,j4 l b) (i:Nat): -400000≤mo l i∧mo l i≤400000:=by
 have A:=j7 ht
 have hl:=kZ ht
 unfold mo
 cases h:l.ab[i]? with
 |none=>simp
 |some b=>
  have B:=(hb b (aP h)).1
  simp only
  split
  ·have:=Ro A hl B; omega
  ·cases h2:l.ab[i-1]? with
   |none=>simp
   |some a=>
    have C:=(hb a (aP h2)).1
    have:=xd A hl C B
    simp only; omega
def p7 (l:bo) (s:aH):av:=((l.ab[s.fz.toNat]?).bind fun b=>l.aj[b.jO.toNat]?).getD ⟨0,[]⟩
def ij (c:av) (r t:Int):Bool:=decide (r≤t+(iK c t).Hi)
def il (c:av) (r t:Int):Bool:=decide (r<t+(iK c t).Lo)
noncomputable def Bq (c:av) (r:Int):ai:=⟨gj (ij c r) 86400001,gj (il c r) 86400001-1⟩
noncomputable def dg (l:bo) (s:aH):ai:=Bq (p7 l s) s.Read
noncomputable def ej (l:bo) (i:Nat):Int:=oM (1000*mo l i) l.ib
end
section
open Go.RowKit
def z_ (n:Int):Int:=IntKind.i64.wrap n
theorem zL {n:Int} (h:qD n):z_ n=n:=n8 h
theorem Q_ (n:Int): -9223372036854775808≤z_ n∧z_ n≤9223372036854775807:=by
 unfold z_
 rw [IntKind.wrap_i64]
 omega
section
variable {P:Program} {t:TypeId} {x y:Operand} {a b:Int}
theorem OM:gP P .add t x y (.int .i64 a) (.int .i64 b) (.int .i64 (z_ (a+b))):=fun w=>by simp [eqGuard_add,binOp_add,Op.intArith,z_]
theorem Hq:gP P .sub t x y (.int .i64 a) (.int .i64 b) (.int .i64 (z_ (a-b))):=fun w=>by simp [eqGuard_sub,binOp_sub,Op.intArith,z_]
theorem N9:gP P .mul t x y (.int .i64 a) (.int .i64 b) (.int .i64 (z_ (a*b))):=fun w=>by simp [eqGuard_mul,binOp_mul,Op.intArith,z_]
end
/-- divided, and rounded up, as it comes out -/
def Ql (n by_:Int):Int:=(z_ (z_ (n+by_)-1)).tdiv by_
theorem Nk {a b:Int} (ha: -9223372036854775808≤a∧a≤9223372036854775807) (hb:2≤b):qD (a.tdiv b):=by
 have A:a.tdiv b=a/b+if a % b≠0∧a<0 then 1 else 0:=by
  rcases Int.lt_or_le a 0 with h|h
  ·rw [Int.tdiv_eq_ediv]
   have:b.sign=1:=Int.sign_eq_one_of_pos I
   rw [this]
   by_cases hd:b∣a
   ·have:a % b=0:=Int.emod_eq_zero_of_dvd hd
    simp [hd,this]
   ·have:a % b≠0:=fun e=>hd (Int.dvd_of_emod_eq_zero e)
    have hn: ¬ 0≤a:=by omega
    simp [hd,this,h,hn]
  ·rw [Int.tdiv_eq_ediv_of_nonneg h]
   have: ¬ a<0:=by omega
   simp [this]
 have B:a/b*b+a % b=a:=by rw [Int.mul_comm]; exact Int.mul_ediv_add_emod a b
 have C:0≤a % b:=Int.emod_nonneg _ I
 have D:a % b<b:=Int.emod_lt_of_pos _ I
 have E: -9223372036854775808≤a/b∧a/b≤4611686018427387904:=by
  constructor
  ·refine Int.le_ediv_of_mul_le I ?_
   have:(-9223372036854775808:Int)*b≤ -9223372036854775808*1:=Int.mul_le_mul_of_nonpos_left I I
   omega
  ·refine Int.ediv_le_of_le_mul I ?_
   have:(4611686018427387904:Int)*2≤4611686018427387904*b:=Int.mul_le_mul_of_nonneg_left hb I
   omega
 rw [A]
 unfold qD
 split<;>omega
theorem NB {n by_:Int} (h0:0≤n) (h1:n≤1000000000000000000) (hb:1≤by_∧by_≤1000000000000):Ql n by_=(n+by_-1)/by_:=by
 unfold Ql
 rw [zL (show qD (n+by_) from ⟨I,I⟩),zL (show qD (n+by_-1) from ⟨I,I⟩),Int.tdiv_eq_ediv_of_nonneg I]
end
section
def mw (c:av) (i:Nat) (x:cK) (k:Nat):Prop:=fV c i x∧ ∀ (j:Nat) o,j<k→c.bp[j]? =some o→oE c x o
def sw (c:av) (n:Nat):Prop:= ∀ (i:Nat) x,i<n→c.bp[i]? =some x→mw c i x i
noncomputable instance (c:av) (i:Nat) (x:cK) (k:Nat):Decidable (mw c i x k):=Classical.propDecidable _
instance (c:av) (i:Nat) (x:cK):Decidable (fV c i x):=by unfold fV; infer_instance
theorem CQ {c:av} {i:Nat} {x:cK}:mw c i x 0↔fV c i x:=⟨fun h=>h.1,fun h=>⟨h,fun j o hj=>by omega⟩⟩
theorem sJ {c:av} {i k:Nat} {x o:cK} (h:c.bp[k]? =some o):mw c i x (k+1)↔mw c i x k∧oE c x o:=by
 constructor
 ·intro hr
  exact ⟨⟨hr.1,fun j o' hj ho=>hr.2 j o' I ho⟩,hr.2 k o I h⟩
 ·rintro ⟨hr,hp⟩
  refine ⟨hr.1,fun j o' hj ho=>?_⟩
  by_cases e:j=k
  ·subst e; rw [h] at ho; cases ho; exact hp
  ·exact hr.2 j o' I ho
theorem FL {c:av}:sw c 0:=fun i x hi=>by omega
theorem FJ {c:av} {i:Nat} {x:cK} (h:sw c i) (hx:c.bp[i]? =some x) (hr:mw c i x i):sw c (i+1):=fun j y hj hy=>by
 by_cases e:j=i
 ·subst e; rw [hx] at hy; cases hy; exact hr
 ·exact h j y I hy
theorem I1 {c:av} {i:Nat} {x:cK} (hx:c.bp[i]? =some x) (h: ¬ mw c i x i): ¬ fy c:=fun hc=>h ⟨hc.sync i x hx,fun j o hj ho=>hc.pair i j x o hx hj ho⟩
theorem FK {c:av} (h1:0≤c.du∧c.du≤1000) (h2:1≤c.bp.length∧c.bp.length≤5) (h:sw c c.bp.length):fy c:=
 ⟨h1,h2,fun i x hx=>(h i x (aU.1 hx).1 hx).1,fun i k x o hx hk ho=>(h i x (aU.1 hx).1 hx).2 k o hk ho⟩
/-- syncs so far -/
theorem uW {c:av} {n:Nat} (h: ∀ (i:Nat) x,i<n→c.bp[i]? =some x→fV c i x): ∀ (i:Nat) x,i<n→c.bp[i]? =some x→0≤x.At∧ ∀ (k:Nat) o,k<i→c.bp[k]? =some o→o.At<x.At:=by
 intro i
 induction i with
 |zero=>
  intro x hn hx
  have:=(h 0 x hn hx).1.1
  rw [gV rfl] at this
  exact ⟨I,fun k o hk=>by omega⟩
 |succ i ih=>
  intro x hn hx
  have hi:=(aU.1 hx).1
  have hy:c.bp[i]? =some (c.bp[i]'I):=eX I
  have B:=ih _ I hy
  have A:=(h (i+1) x hn hx).1.1
  rw [oq hy] at A
  refine ⟨I,fun k o hk ho=>?_⟩
  by_cases e:k=i
  ·subst e; rw [hy] at ho; cases ho; exact A
  ·have:=B.2 k o I ho; omega
theorem Ih {c:av} {i:Nat} (hi:i≤c.bp.length) (h: ∀ (j:Nat) y,j<i→c.bp[j]? =some y→fV c j y): -1≤kF c i∧kF c i≤86400000:=by
 cases i with
 |zero=>rw [gV rfl]; omega
 |succ i=>
  have hy:c.bp[i]? =some (c.bp[i]'I):=eX I
  have A:=(uW (n:=i+1) h i _ I hy).1
  have B:=(h i _ I hy).1.2
  rw [oq hy]; omega
theorem NI {c:av} {i:Nat} (hi:i≤c.bp.length) (h:sw c i): -1≤kF c i∧kF c i≤86400000:=Ih hi fun j y hj hy=>(h j y hj hy).1
theorem uI {c:av} {i k:Nat} {x o:cK} (hs: ∀ (j:Nat) y,j<i→c.bp[j]? =some y→fV c j y) (hx:c.bp[i]? =some x) (hok:fV c i x) (hk:k<i) (ho:c.bp[k]? =some o):
 (0≤o.At∧o.At<x.At∧x.At≤86400000)∧(-10000≤x.dW.Lo∧x.dW.Lo≤x.dW.Hi∧x.dW.Hi≤10000)∧ -10000≤o.dW.Lo∧o.dW.Lo≤o.dW.Hi∧o.dW.Hi≤10000:=by
 have h: ∀ (j:Nat) y,j<i+1→c.bp[j]? =some y→fV c j y:=fun j y hj hy=>by
  by_cases e:j=i
  ·subst e; rw [hx] at hy; cases hy; exact hok
  ·exact hs j y I hy
 have A:=(uW h i x I hx).2 k o hk ho
 have B:=(uW h k o I ho).1
 exact ⟨⟨B,A,hok.1.2⟩,hok.2,(h k o I ho).2⟩
theorem KO {d a b:Int} (hd:0≤d∧d≤1000) (h:0≤b∧b<a∧a≤86400000):Ql (z_ (d*z_ (a-b))) 1000000=oM (d*(a-b)) 1000000:=by
 have C:0≤d*(a-b)∧d*(a-b)≤90000000000:=by
  have:=OI (a:=d) (b:=a-b) (A:=1000) (B:=90000000) hd.1 hd.2 I I
  omega
 rw [zL (show qD (a-b) from ⟨I,I⟩),zL (show qD (d*(a-b)) from ⟨I,I⟩),NB C.1 I I]
 rfl
/-- what is asked of a line, however wrong it is -/
structure d_ (l:bo) (asl:List RA):Prop where
 qm:l.aO.length≤1000000
 side: ∀ x∈l.aO,0≤x.iW∧x.iW≤255
 qj:l.aj.length≤1000000
 mq:asl.length=l.aj.length
 qi:l.ab.length≤1000000
 QI: ∀ (k:Nat) m (a:RA),l.aj[k]? =some m→asl[k]? =some a→m.bp.length≤a.2∧m.bp.length≤1000000
noncomputable instance (l:bo):Decidable (eT l):=by unfold eT; infer_instance
noncomputable instance (l:bo) (b:bL):Decidable (j4 l b):=Classical.propDecidable _
theorem y_ {l:bo} (h:eT l) (h2: ∀ c∈l.aj,fy c) (h3: ∀ b∈l.ab,j4 l b) (h4: ∀ i,i<l.ab.length→1≤mo l i):l9 l:=⟨h,h2,h3,h4⟩
theorem DB {l:bo}:((!(l.aj.any fun m=> !decide (fy m)))=true)↔ ∀ c∈l.aj,fy c:=by simp
theorem F6 {l:bo}:((!(l.ab.any fun b=> !decide (j4 l b)))=true)↔ ∀ b∈l.ab,j4 l b:=by simp
theorem lk {c:av} (h:fy c) {r x:Int} (h0:0≤x) (h1:x<86400001):
 (x<gj (ij c r) 86400001→ij c r x=false)∧(gj (ij c r) 86400001≤x→ij c r x=true)∧(x<gj (il c r) 86400001→il c r x=false)∧(gj (il c r) 86400001≤x→il c r x=true):=by
 have up: ∀ (q:Int→Bool),(∀ a b,0≤a→a≤b→b<86400001→q a=true→q b=true)→gj q 86400001≤x→q x=true:=fun q hq hx=>by
  have hb:=ji (p:=q) (n:=86400001)
  exact hq _ _ hb.1 hx h1 (Fp I)
 refine ⟨yW h0,up _ fun a b ha A hb hq=>?_,yW h0,up _ fun a b ha A hb hq=>?_⟩
 ·have:=vw h ha A I
  simp only [ij,decide_eq_true_eq] at hq ⊢; omega
 ·have:=vw h ha A I
  simp only [il,decide_eq_true_eq] at hq ⊢; omega
theorem xn {l:bo} {s:aH} {b:bL} {c:av} (hb:l.ab[s.fz.toNat]? =some b) (hc:l.aj[b.jO.toNat]? =some c):p7 l s=c:=by
 unfold p7; rw [hb]; simp only [Option.bind_some]; rw [hc]; rfl
end
section
def lR (sg:List aH) (i:Nat):aH:=if i=0 then ⟨-1,0⟩ else (sg[i-1]?).getD ⟨-1,0⟩
theorem j6 {sg:List aH} {i:Nat} {s:aH} (h:sg[i]? =some s):lR sg (i+1)=s:=by unfold lR; rw [if_neg I,Nat.add_sub_cancel,h]; rfl
def je (l:bo) (s:aH):Prop:=(0≤s.fz∧s.fz≤(l.ab.length:Int)-1)∧0≤s.Read∧s.Read≤86400000
def iB (l:bo) (sg:List aH) (i:Nat) (s:aH):Prop:=je l s∧ ¬ s.fz<(lR sg i).fz∧ ¬ (s.fz=(lR sg i).fz∧s.Read≤(lR sg i).Read)
def oB (l:bo) (sg:List aH) (i:Nat):Prop:= ∀ (j:Nat) s,j<i→sg[j]? =some s→iB l sg j s
structure ei (l:bo) (r:cx):Prop where
 time:0≤r.Start∧r.Start≤r.fP∧r.fP≤86400000
 len:r.aa.length≤10
 sig: ∀ (i:Nat) s,r.aa[i]? =some s→iB l r.aa i s
noncomputable instance (l:bo) (r:cx):Decidable (ei l r):=Classical.propDecidable _
theorem uS {l:bo} {sg:List aH}:oB l sg 0:=fun j s hj=>absurd hj (Nat.not_lt_zero _)
theorem ju {l:bo} {sg:List aH} {i:Nat} {s:aH} (h:oB l sg i) (hs:sg[i]? =some s) (ho:iB l sg i s):oB l sg (i+1):=fun j z hj hz=>by
 rcases Nat.lt_or_ge j i with q|q
 ·exact h j z q hz
 ·obtain rfl:j=i:=by omega
  rw [hs] at hz; cases hz; exact ho
theorem xM {l:bo} {r:cx} {i:Nat} (h1:0≤r.Start∧r.Start≤r.fP∧r.fP≤86400000) (h2:r.aa.length≤10) (h:oB l r.aa i) (hi:r.aa.length≤i):ei l r:=
 ⟨h1,h2,fun j s hs=>h j s (by have:=(aU.1 hs).1; omega) hs⟩
noncomputable def um (l:bo) (sg:List aH) (b k:Nat):Option (Int×ai):=(sg[k]?).bind fun s=>if s.fz=(b:Int)∧(dg l s).Lo≤(dg l s).Hi then some ((k:Int),dg l s) else none
noncomputable def oz (l:bo) (sg:List aH) (i b:Nat):TM:=(List.range i).filterMap (um l sg b)
noncomputable def cL (l:bo) (sg:List aH) (i:Nat):List TM:=(List.range l.ab.length).map (oz l sg i)
noncomputable def cq (l:bo) (n:Nat):List Int:=(List.range n).map (ej l)
theorem qK {l:bo} {n:Nat}:cq l (n+1)=cq l n++[ej l n]:=by simp [cq,List.range_succ]
theorem cS {l:bo} {n:Nat}:(cq l n).length=n:=by simp [cq]
theorem gT {l:bo} {sg:List aH} {i:Nat}:(cL l sg i).length=l.ab.length:=by simp [cL]
theorem oW {l:bo} {sg:List aH} {i b:Nat} (h:b<l.ab.length):(cL l sg i)[b]? =some (oz l sg i b):=by simp [cL,h]
theorem pN {l:bo} {sg:List aH} {b k:Nat} {q:Int×ai}:um l sg b k=some q↔ ∃ s,sg[k]? =some s∧(s.fz=(b:Int)∧(dg l s).Lo≤(dg l s).Hi)∧q=((k:Int),dg l s):=by
 unfold um
 cases h:sg[k]? with
 |none=>simp
 |some s=>
  simp only [Option.bind_some,Option.some.injEq]
  by_cases e:s.fz=(b:Int)∧(dg l s).Lo≤(dg l s).Hi
  ·rw [if_pos e]
   constructor
   ·intro h; cases h; exact ⟨s,rfl,e,rfl⟩
   ·rintro ⟨s',rfl,_,rfl⟩; rfl
  ·rw [if_neg e]
   constructor
   ·intro h; cases h
   ·rintro ⟨s',rfl,e',_⟩; exact absurd e' e
theorem se {l:bo} {sg:List aH} {i b:Nat} {q:Int×ai}:q∈oz l sg i b↔ ∃ k,k<i∧ ∃ s,sg[k]? =some s∧(s.fz=(b:Int)∧(dg l s).Lo≤(dg l s).Hi)∧q=((k:Int),dg l s):=by
 unfold oz
 simp only [List.mem_filterMap,List.mem_range,pN]
theorem qo {l:bo} {sg:List aH} {i b:Nat}:oz l sg (i+1) b=oz l sg i b++(um l sg b i).toList:=by
 unfold oz
 rw [List.range_succ,List.filterMap_append]
 congr 1
theorem x9 {l:bo} {sg:List aH}:cL l sg 0=List.replicate l.ab.length []:=by
 unfold cL
 rw [List.eq_replicate_iff]
 refine ⟨sm,fun t ht=>?_⟩
 obtain ⟨b,_,rfl⟩:=cE.1 ht
 rfl
theorem pK {l:bo} {sg:List aH} {i:Nat} {s:aH} (hs:sg[i]? =some s) (h: ¬ (dg l s).Lo≤(dg l s).Hi):cL l sg (i+1)=cL l sg i:=by
 unfold cL
 apply List.map_congr_left
 intro b _
 rw [qo]
 have:um l sg b i=none:=by
  cases e:um l sg b i with
  |none=>rfl
  |some q=>obtain ⟨s',A,⟨_,B⟩,_⟩:=pN.1 e; rw [hs] at A; cases A; exact absurd B h
 rw [this]; simp
theorem rq {l:bo} {sg:List aH} {i:Nat} {s:aH} (hs:sg[i]? =some s) (hb:0≤s.fz∧s.fz≤(l.ab.length:Int)-1) (h:(dg l s).Lo≤(dg l s).Hi) {x:TM} (hx:(cL l sg i)[s.fz.toNat]? =some x):
 (cL l sg i).set s.fz.toNat (eD x (i:Int) (dg l s))=cL l sg (i+1):=by
 have A:s.fz.toNat<l.ab.length:=by omega
 rw [oW A] at hx
 cases hx
 have B:eD (oz l sg i s.fz.toNat) (i:Int) (dg l s)=oz l sg (i+1) s.fz.toNat:=by
  have hn:(oz l sg i s.fz.toNat).lookup (i:Int)=none:=iz.2 fun p hp e=>by
   obtain ⟨k,hk,_,_,_,rfl⟩:=se.1 hp
   simp only at e; omega
  have ho:um l sg s.fz.toNat i=some ((i:Int),dg l s):=pN.2 ⟨s,hs,⟨I,h⟩,rfl⟩
  rw [qo,ho]
  unfold eD; rw [hn]; rfl
 rw [B]
 apply List.ext_getElem?
 intro b
 rw [List.getElem?_set]
 by_cases e:s.fz.toNat=b
 ·rw [if_pos e,gT,← e,if_pos A,oW A]
 ·rw [if_neg e]
  by_cases hb':b<l.ab.length
  ·rw [oW hb',oW hb',qo]
   have:um l sg b i=none:=by
    cases e2:um l sg b i with
    |none=>rfl
    |some q=>obtain ⟨s',C,⟨D,_⟩,_⟩:=pN.1 e2; rw [hs] at C; cases C; exact absurd I e
   rw [this]; simp
  ·rw [List.getElem?_eq_none (by rw [gT]; omega),List.getElem?_eq_none (by rw [gT]; omega)]
noncomputable def bW (l:bo) (r:cx):bZ:=⟨r.Start,r.fP,cq l l.ab.length,cL l r.aa r.aa.length,l.dp,l.e9,(r.aa.length:Int)⟩
theorem Hf {l:bo} (ht:dv l.aO=true) (h:l9 l) {i:Nat} (hi:i<l.ab.length):1≤ej l i∧ej l i≤500000000:=by
 have A:=B2 ht h.ti i
 have B:=h.Oa i hi
 have C:=h.head.1
 unfold ej oM
 refine ⟨(Int.le_ediv_iff_mul_le I).2 I,?_⟩
 have:(1000*mo l i+l.ib-1)/l.ib≤1000*mo l i+l.ib-1:=Int.ediv_le_self _ I
 omega
theorem Ke (l:bo) (s:aH):0≤(dg l s).Lo∧(dg l s).Hi≤86400000:=by
 have A:=ji (p:=ij (p7 l s) s.Read) (n:=86400001)
 have B:=ji (p:=il (p7 l s) s.Read) (n:=86400001)
 unfold dg Bq
 simp only
 omega
theorem lL {l:bo} {r:cx} (ht:dv l.aO=true) (h:l9 l) (hr:ei l r):Ff (bW l r):=by
 have hh:=h.head
 unfold eT at hh
 refine ⟨?_,by simp [bW,gT,bZ.n,cS],hr.time,fun x hx=>?_,fun t A p hp=>?_⟩
 ·show (cq l l.ab.length).length≤6
  rw [cS]; omega
 ·obtain ⟨i,hi,rfl⟩:=cE.1 hx
  exact Hf ht h (List.mem_range.1 hi)
 ·obtain ⟨b,hb,rfl⟩:=cE.1 A
  obtain ⟨k,hk,s,hs,⟨_,B⟩,rfl⟩:=se.1 hp
  have C:=Ke l s
  have D:=hr.len
  simp only
  omega
noncomputable def dN (l:bo) (r:cx) (me:Int):Int:=if dM l=0 then (if ei l r then (if me=0 then (if hG (bW l r)=[] then 8 else 0) else me) else 51) else dM l
theorem eE {l:bo} {r:cx} {me:Int} (h: ¬ dM l=0):dN l r me=dM l:=if_neg h
theorem cM {l:bo} {r:cx} {me:Int} (h:dM l=0) (h2: ¬ ei l r):dN l r me=51:=by unfold dN; rw [if_pos h,if_neg h2]
theorem jC {l:bo} {r:cx} {me:Int} (h:dM l=0) (h2:ei l r) (h3: ¬ me=0):dN l r me=me:=by unfold dN; rw [if_pos h,if_pos h2,if_neg h3]
theorem g8 {l:bo} {r:cx} {me:Int} (h:dM l=0) (h2:ei l r) (h3:me=0) (h4:hG (bW l r)=[]):dN l r me=8:=by unfold dN; rw [if_pos h,if_pos h2,if_pos h3,if_pos h4]
theorem mh {l:bo} {r:cx} {me:Int} (h:dM l=0) (h2:ei l r) (h3:me=0) (h4: ¬ hG (bW l r)=[]):dN l r me=0:=by unfold dN; rw [if_pos h,if_pos h2,if_pos h3,if_neg h4]
theorem g5 {l:bo} {r:cx} {me:Int} (h:dN l r me=0):dM l=0∧ei l r∧me=0∧ ¬ hG (bW l r)=[]:=by
 unfold dN at h
 split at h
 ·split at h
  ·split at h
   ·split at h
    ·omega
    ·exact ⟨asm,asm,asm,asm⟩
   ·omega
  ·omega
 ·omega
end
section
def nG (l:List Int):Int:=(l.drop 1).foldl min (l.headD 0)
theorem Hr {l:List Int} {i:Nat} {x:Int} (h:l[i]? =some x) (hi:1≤i):nG (l.take (i+1))=min (nG (l.take i)) x:=by
 have e:l.take (i+1)=l.take i++[x]:=by rw [List.take_add_one,h]; rfl
 have hl:1≤(l.take i).length:=by have:=(aU.1 h).1; rw [List.length_take]; omega
 rw [e]
 cases ht:l.take i with
 |nil=>rw [ht] at hl; simp at hl
 |cons y ys=>simp [nG,List.foldl_append]
theorem FW {l:List Int} {x:Int} (h:l[0]? =some x):nG (l.take 1)=x:=by
 cases l with
 |nil=>simp at h
 |cons y ys=>simp at h; subst h; simp [nG]
theorem Bp: ∀ (l:List Int) (a:Int),(l.foldl min a=a∨l.foldl min a∈l)∧l.foldl min a≤a∧ ∀ x∈l,l.foldl min a≤x
 |[],a=>⟨.inl rfl,sm,sm⟩
 |y::l,a=>by
  obtain ⟨A,C,B⟩:=Bp l (min a y)
  simp only [List.foldl_cons]
  refine ⟨?_,I,?_⟩
  ·rcases A with A|A
   ·rw [A]
    rcases Int.le_total a y with q|q
    ·left; omega
    ·right; rw [show min a y=y by omega]; simp
   ·right; exact dH _ A
  ·intro x hx
   rcases cg.1 hx with rfl|hx
   ·omega
   ·exact B x hx
theorem EZ {l:List Int} (h:l≠[]):nG l∈l∧ ∀ x∈l,nG l≤x:=by
 cases l with
 |nil=>exact absurd rfl h
 |cons y ys=>
  obtain ⟨A,B,C⟩:=Bp ys y
  refine ⟨?_,fun x hx=>?_⟩
  ·rcases A with A|A
   ·simp [nG,A]
   ·exact dH _ (by simpa [nG] using A)
  ·rcases cg.1 hx with rfl|hx
   ·simpa [nG] using B
   ·simpa [nG] using C x hx
noncomputable def fp (l:bo) (r:cx):List Int:=if dN l r 0=0 then hG (bW l r) else []
theorem jR {l:bo} {r:cx} (h:dN l r 0=0):fp l r=hG (bW l r):=if_pos h
theorem kj {l:bo} {r:cx} (h: ¬ dN l r 0=0):fp l r=[]:=if_neg h
theorem vc {l:bo} {r:cx} (h:dN l r 0=0):fp l r≠[]:=by rw [jR h]; exact (g5 h).2.2.2
theorem xz {l:bo} {r:cx} (h:dN l r 0=0):1≤(fp l r).length:=List.length_pos_iff.2 (vc h)
theorem CU {l:bo} {r:cx}:(fp l r).length≤100:=by
 unfold fp
 split
 ·rename_i h
  obtain ⟨A,B,_⟩:=g5 h
  obtain ⟨ht,ho⟩:=dK A
  have:=(lL ht ho B).n
  have C:=nR (w:=bW l r) (k:=(bW l r).n+1)
  unfold hG; omega
 ·simp
noncomputable def e_ (l:bo) (b:Int):Int:=if 0≤b∧b≤(l.ab.length:Int)-1 then 0 else 2
theorem mz {l:bo} {b:Int} (h:0≤b∧b≤(l.ab.length:Int)-1):e_ l b=0:=if_pos h
theorem Cy {l:bo} {b:Int} (h:e_ l b=0):0≤b∧b≤(l.ab.length:Int)-1:=by
 unfold e_ at h
 split at h
 ·assumption
 ·omega
noncomputable def nI (l:bo) (r:cx) (b:Nat):ai:=xA (mR (bW l r) b)
noncomputable def eh (l:bo) (r:cx) (b:Int):Int:=if dN l r (e_ l b)=0 then (if nI l r b.toNat=mQ then 6 else 0) else dN l r (e_ l b)
noncomputable def dy (l:bo) (r:cx) (b:Int):ai:=if eh l r b=0 then nI l r b.toNat else g4
theorem dE {l:bo} {r:cx} {b:Int} (h: ¬ dN l r (e_ l b)=0):eh l r b=dN l r (e_ l b)∧dy l r b=g4:=by
 have e:eh l r b=dN l r (e_ l b):=if_neg h
 exact ⟨e,by unfold dy; rw [if_neg (by rw [e]; exact h)]⟩
theorem qG {l:bo} {r:cx} {b:Nat} (h:dN l r (e_ l b)=0) (h2:nI l r b=mQ):eh l r b=6∧dy l r b=g4:=by
 have e:eh l r b=6:=by unfold eh; rw [if_pos h,Int.toNat_natCast,if_pos h2]
 exact ⟨e,by unfold dy; rw [if_neg (by rw [e]; omega)]⟩
theorem qs {l:bo} {r:cx} {b:Nat} (h:dN l r (e_ l b)=0) (h2: ¬ nI l r b=mQ):eh l r b=0∧dy l r b=nI l r b:=by
 have e:eh l r b=0:=by unfold eh; rw [if_pos h,Int.toNat_natCast,if_neg h2]
 exact ⟨e,by unfold dy; rw [if_pos e,Int.toNat_natCast]⟩
theorem Jm {w:bZ} (h:Ff w) {b:Nat} {q:Int×ai} (hq:q∈mR w b):0≤q.2.Lo∧q.2.Lo≤q.2.Hi∧q.2.Hi≤86400000:=by
 have A:=mW hq
 obtain ⟨o,ho,p,hp,u,hu,e⟩:=iE.1 hq
 obtain ⟨_,_,rfl⟩:=jK.1 e
 have B:=h.opt ho
 simp only [jM] at A ⊢
 omega
theorem ub {l:bo} {r:cx} {b:Int} (h:eh l r b=0):0≤(dy l r b).Lo∧(dy l r b).Lo≤(dy l r b).Hi∧(dy l r b).Hi≤86400000:=by
 have ho:dN l r (e_ l b)=0:=by
  by_cases e:dN l r (e_ l b)=0
  ·exact e
  ·rw [(dE e).1] at h; exact absurd h e
 obtain ⟨B,C,_⟩:=g5 ho
 obtain ⟨ht,A⟩:=dK B
 have hw:=lL ht A C
 have hv:dy l r b=nI l r b.toNat:=by unfold dy; rw [if_pos h]
 have hn:nI l r b.toNat≠mQ:=fun e=>by unfold eh at h; rw [if_pos ho,if_pos e] at h; omega
 have hh:=vd (l:=mR (bW l r) b.toNat) fun q hq=>mW hq
 rw [hv]
 unfold nI at hn ⊢
 rcases hh with ⟨_,e⟩|hh
 ·exact absurd e hn
 ·obtain ⟨x,hx,ex⟩:=hh.lo
  obtain ⟨y,hy,ey⟩:=hh.hi
  have:=Jm hw hx
  have:=Jm hw hy
  have:=hh.le
  omega
noncomputable def Bt (l:bo) (r:cx):ai:=if eh l r l.b_=0 then ⟨(dy l r l.b_).Lo-r.Start,(dy l r l.b_).Hi-r.Start⟩ else g4
theorem Dd {l:bo} {r:cx} (h:eh l r l.b_=0):Bt l r=⟨(dy l r l.b_).Lo-r.Start,(dy l r l.b_).Hi-r.Start⟩:=if_pos h
theorem DH {l:bo} {r:cx} (h: ¬ eh l r l.b_=0):Bt l r=g4:=if_neg h
theorem qR {l:bo} {r:cx} {b:Int} (h:eh l r b=0):ei l r:=by
 by_cases e:dN l r (e_ l b)=0
 ·exact (g5 e).2.1
 ·rw [(dE e).1] at h; exact absurd h e
theorem yo {k:List (Int×ai)} {h:ai} {q:Int×ai} {z:ai} (hh:kD k h) (hq:q.2.Lo≤q.2.Hi) (hz:mF h q.2=z):kD (k++[q]) z:=by subst hz; exact vh hh hq
end
section
def ld (l:bo):Prop:=(20<(l.aO.length:Int)∨8<(l.aj.length:Int)∨10<(l.ab.length:Int))∨ ∃ c∈l.aj,10<(c.bp.length:Int)
noncomputable instance (l:bo):Decidable (ld l):=Classical.propDecidable _
/-- what is asked of a line that comes in -/
structure th (l:bo) (az:List RA):Prop where
 qm:l.aO.length≤9223372036854775807
 side: ∀ x∈l.aO,0≤x.iW∧x.iW≤255
 qj:l.aj.length≤9223372036854775807
 mq:az.length=l.aj.length
 qi:l.ab.length≤9223372036854775807
 QI: ∀ (k:Nat) m (a:RA),l.aj[k]? =some m→az[k]? =some a→m.bp.length≤a.2∧m.bp.length≤9223372036854775807
def zZ (l:bo) (i:Nat):Prop:= ∀ (j:Nat) c,j<i→l.aj[j]? =some c→(c.bp.length:Int)≤10
theorem H6 {l:bo} {i:Nat} (h: ¬ (20<(l.aO.length:Int))∧ ¬ (8<(l.aj.length:Int))∧ ¬ (10<(l.ab.length:Int))) (hi:l.aj.length≤i) (hs:zZ l i): ¬ ld l:=by
 rintro (A|⟨c,hc,B⟩)
 ·omega
 ·obtain ⟨k,hk⟩:=List.getElem?_of_mem hc
  have:=hs k c (by have:=(aU.1 hk).1; omega) hk
  omega
theorem Jo {l:bo} {i:Nat} {c:av} (hc:l.aj[i]? =some c) (h:10<(c.bp.length:Int)):ld l:= .inr ⟨c,aP hc,h⟩
theorem l8 {α:Type} {l:List α} {P:Nat→α→Prop} {i:Nat} {x:α} (h: ∀ (j:Nat) y,j<i→l[j]? =some y→P j y) (hx:l[i]? =some x) (hp:P i x): ∀ (j:Nat) y,j<i+1→l[j]? =some y→P j y:=fun j y hj hy=>by
 by_cases e:j=i
 ·subst e; rw [hx] at hy; cases hy; exact hp
 ·exact h j y I hy
theorem x_ {α:Type} {l:List α} {P:Nat→α→Prop} {i:Nat} (hi:l.length≤i) (h: ∀ (j:Nat) y,j<i→l[j]? =some y→P j y): ∀ (j:Nat) y,l[j]? =some y→P j y:=fun j y hy=>h j y (by have:=(aU.1 hy).1; omega) hy
theorem wu {α:Type} {l:List α} {P:α→Prop} {i:Nat} (hi:l.length≤i) (h: ∀ (j:Nat) y,j<i→l[j]? =some y→P y): ∀ y∈l,P y:=fun y hy=>by
 obtain ⟨k,hk⟩:=List.getElem?_of_mem hy
 exact x_ (P:=fun _ y=>P y) hi h k y hk
theorem tD {l:bo} (h: ¬ ld l):(l.aO.length:Int)≤20∧(l.aj.length:Int)≤8∧(l.ab.length:Int)≤10∧ ∀ c∈l.aj,(c.bp.length:Int)≤10:=by
 unfold ld at h
 rw [not_or] at h
 refine ⟨I,I,I,fun c hc=>?_⟩
 have:=h.2
 rcases Int.lt_or_le 10 (c.bp.length:Int) with q|q
 ·exact absurd ⟨c,hc,q⟩ this
 ·exact q
theorem th.small {l:bo} {az:List RA} (h:th l az) (hg: ¬ ld l):d_ l az:=by
 have A:=tD hg
 exact ⟨I,h.side,I,h.mq,I,fun k m a hm ha=>⟨(h.QI k m a hm ha).1,by have:=A.2.2.2 m (aP hm); omega⟩⟩
def Ey (c:av) (x:cK) (k:Nat):Prop:= ∀ (j:Nat) o,j<k→c.bp[j]? =some o→oE c x o
def tF (c:av) (m:Nat):Prop:= ∀ (i:Nat) x,i<m→c.bp[i]? =some x→Ey c x i
theorem Ig {c:av} {m:Nat} (h1:0≤c.du∧c.du≤1000) (h2:1≤c.bp.length∧c.bp.length≤5) (hs: ∀ (i:Nat) x,c.bp[i]? =some x→fV c i x) (hm:c.bp.length≤m) (hp:tF c m):fy c:=
 ⟨h1,h2,hs,fun i k x o hx hk ho=>hp i x (by have:=(aU.1 hx).1; omega) hx k o hk ho⟩
theorem Cj {c:av} {m k:Nat} (h:tF c m) (hk: ∀ y,c.bp[m]? =some y→Ey c y k) (e:k=m):tF c (m+1):=by
 subst e
 intro i x hi hx
 by_cases e:i=k
 ·subst e; exact hk x hx
 ·exact h i x I hx
noncomputable def k6 (c:av) (at_:Int) (i:Nat):ai:=if i=0 then g4 else gI c at_ i
theorem Dc {c:av} {at_:Int} {i:Nat} (h:fy c) (hi:c.bp.length≤i):k6 c at_ i=iK c at_:=by
 have:=h.len
 unfold k6; rw [if_neg I,nz hi]
theorem zi {c:av} {at_:Int} {i:Nat} {x:cK} (h:fy c) (ha:0≤at_∧at_≤90000000) (hx:c.bp[i]? =some x) (hi:i=0):
 k6 c at_ (i+1)=⟨max (x.dW.Lo-sx c at_ x) (x.dW.Lo-sx c at_ x),min (x.dW.Hi+sx c at_ x) (x.dW.Hi+sx c at_ x)⟩:=by
 subst hi
 have hb:=h.uO hx
 have ho:=uQ h.r9 ha hb.1
 unfold k6
 rw [if_neg I,j_ hx]
 unfold l7 gI
 simp only [List.take_zero,List.foldl_nil,ai.mk.injEq]
 omega
theorem AD {c:av} {at_:Int} {i:Nat} {x:cK} (hx:c.bp[i]? =some x) (hi: ¬ i=0):k6 c at_ (i+1)=⟨max (k6 c at_ i).Lo (x.dW.Lo-sx c at_ x),min (k6 c at_ i).Hi (x.dW.Hi+sx c at_ x)⟩:=by
 unfold k6
 rw [if_neg I,if_neg hi,j_ hx]; rfl
def iy (ts:List aq) (n:Nat):List ai:=(List.range n).map fun k=>eG ts 0 k
theorem Bn {ts:List aq} {n:Nat}:iy ts (n+1)=iy ts n++[eG ts 0 n]:=by simp [iy,List.range_succ]
theorem oI {ts:List aq} {n:Nat}:(iy ts n).length=n:=by simp [iy]
theorem pQ {ts:List aq} {n k:Nat} {x:ai} (h:(iy ts n)[k]? =some x):x=eG ts 0 k:=by
 unfold iy at h
 rw [fK] at h
 cases hk:(List.range n)[k]? with
 |none=>simp [hk] at h
 |some v=>
  have:=aU.1 hk
  simp at this
  simp [hk] at h
  rw [← h,← this.2]
theorem Df {ts:List aq} {a b:c_} (h:b.bw<a.bw):kf ts a b=oc (kf ts b a):=by
 unfold kf
 rw [if_pos h,if_neg I]
 unfold xw
 rw [Int.min_comm b.bw a.bw,Int.max_comm b.bw a.bw]
 unfold oc mG
 simp only [ai.mk.injEq]
 omega
theorem qv {ts:List aq} {a b:c_} (h: ¬ b.bw<a.bw):kf ts a b=mG (mG (eG ts a.bw.toNat (b.bw-a.bw).toNat) b.lP) (oc a.lP):=by
 unfold kf xw
 rw [if_neg h,Int.min_eq_left I,Int.max_eq_right I]
end
section
def eO (m:List aw) (a:cU):List aA:=rd a.1.1 m.length 7 (List.zipWith aw.cells m a.2)::bk aw.fu m a.2
structure On (h:List aw) (a:cU):Prop where
 len:h.length≤1000000
 mq:a.2.length=h.length
 sig: ∀ d∈h,d.aZ.aa.length≤1000000
structure lf (r:eM) (az:List RA) (ha:List cU):Prop where
 line:d_ r.ar az
 gX:r.bg.length≤1000000
 draw:r.cm.length≤12
 gQ:r.aB.length≤1000000
 has:ha.length=r.aB.length
 fX: ∀ (k:Nat) h (a:cU),r.aB[k]? =some h→ha[k]? =some a→On h a
structure uj (r:eM) (az:List RA) (ha:List cU):Prop where
 line:th r.ar az
 gX:r.bg.length≤9223372036854775807
 draw:r.cm.length≤9223372036854775807
 gQ:r.aB.length≤9223372036854775807
 has:ha.length=r.aB.length
 fX: ∀ (k:Nat) h (a:cU),r.aB[k]? =some h→ha[k]? =some a→h.length≤9223372036854775807∧a.2.length=h.length∧ ∀ d∈h,d.aZ.aa.length≤9223372036854775807
def oV (h:List aw):Prop:=8<(h.length:Int)∨ ∃ d∈h,15<(d.aZ.aa.length:Int)
def kX (r:eM):Prop:=(ld r.ar∨8<(r.bg.length:Int)∨8<(r.cm.length:Int)∨5<(r.aB.length:Int))∨ ∃ h∈r.aB,oV h
noncomputable instance (r:eM):Decidable (kX r):=Classical.propDecidable _
theorem vZ {r:eM} (h: ¬ kX r): ¬ ld r.ar∧(r.bg.length:Int)≤8∧(r.cm.length:Int)≤8∧(r.aB.length:Int)≤5∧ ∀ h∈r.aB,(h.length:Int)≤8∧ ∀ d∈h,(d.aZ.aa.length:Int)≤15:=by
 unfold kX at h
 obtain ⟨A,B⟩:=not_or.1 h
 obtain ⟨C,E⟩:=not_or.1 A
 refine ⟨C,I,I,I,fun x hx=>?_⟩
 have hn: ¬ oV x:=fun q=>B ⟨x,hx,q⟩
 obtain ⟨F,D⟩:=not_or.1 hn
 refine ⟨I,fun d hd=>?_⟩
 rcases Int.lt_or_le 15 (d.aZ.aa.length:Int) with q|q
 ·exact absurd ⟨d,hd,q⟩ D
 ·exact q
theorem uj.small {r:eM} {az:List RA} {ha:List cU} (h:uj r az ha) (hg: ¬ kX r):lf r az ha:=by
 have B:=vZ hg
 refine ⟨h.line.small B.1,I,I,I,h.has,fun k x a hx A=>?_⟩
 have C:=B.2.2.2.2 x (aP hx)
 have D:=h.fX k x a hx A
 exact ⟨I,D.2.1,fun d hd=>by have:=C.2 d hd; omega⟩
def mV (r:cx):Prop:=r.Start=0∧r.fP=0∧(r.aa.length:Int)=0
instance (r:cx):Decidable (mV r):=by unfold mV; infer_instance
def mO (s:ai):Prop:=1≤s.Lo∧s.Lo≤s.Hi∧s.Hi≤600000
instance (s:ai):Decidable (mO s):=by unfold mO; infer_instance
def jk (l:bo) (d:aw):Prop:=if d.Out=true then d.cO=false∧d.Time=g4∧mV d.aZ else if d.cO=true then mO d.Time∧mV d.aZ else eh l d.aZ l.b_=0∧d.Time=g4
noncomputable instance (l:bo) (d:aw):Decidable (jk l d):=Classical.propDecidable _
noncomputable def gi (l:bo) (d:aw):ai:=if d.Out=true∨d.cO=true then d.Time else Bt l d.aZ
/-- which kind a descent is of -/
def oF (d:aw):Int:=if d.Out=true then 0 else if d.cO=true then 1 else 2
theorem KM {w:bZ} (h:Ff w): ∀ (b:Nat) (p:aJ×Int),p∈fwd w b→w.Start≤p.2:=by
 have hl: ∀ b,0≤cf w b:=fun b=>by
  unfold cf
  cases e:w.qh[b]? with
  |none=>simp
  |some x=>have:=h.least x (aP e); simp; omega
 intro b
 induction b with
 |zero=>intro p hp; simp only [fwd,cv] at hp; subst hp; exact Int.le_refl _
 |succ b ih=>
  intro q hq
  obtain ⟨p,hp,o,ho,e⟩:=gh.1 hq
  unfold k9 at e
  split at e
  ·simp only [Option.some.injEq] at e
   subst e
   have:=ih p hp
   have:=hl b
   simp only; omega
  ·cases e
theorem KP {l:bo} {r:cx} {b:Int} (h:eh l r b=0):r.Start≤(dy l r b).Lo:=by
 have ho:dN l r (e_ l b)=0:=by
  by_cases e:dN l r (e_ l b)=0
  ·exact e
  ·rw [(dE e).1] at h; exact absurd h e
 obtain ⟨B,C,_⟩:=g5 ho
 obtain ⟨ht,A⟩:=dK B
 have hw:=lL ht A C
 have hv:dy l r b=nI l r b.toNat:=by unfold dy; rw [if_pos h]
 have hn:nI l r b.toNat≠mQ:=fun e=>by unfold eh at h; rw [if_pos ho,if_pos e] at h; omega
 have hh:=vd (l:=mR (bW l r) b.toNat) fun q hq=>mW hq
 rw [hv]
 unfold nI at hn ⊢
 rcases hh with ⟨_,e⟩|hh
 ·exact absurd e hn
 ·obtain ⟨x,hx,ex⟩:=hh.lo
  obtain ⟨o,ho,p,hp,u,hu,e⟩:=iE.1 hx
  obtain ⟨_,_,rfl⟩:=jK.1 e
  have D:r.Start≤p.2:=KM hw _ p hp
  have E:0≤cf (bW l r) b.toNat:=by
   unfold cf
   cases e:(bW l r).qh[b.toNat]? with
   |none=>simp
   |some x=>have:=hw.least x (aP e); simp; omega
  simp only [jM] at ex
  omega
theorem ER {l:bo} {d:aw} (h:jk l d):0≤(gi l d).Lo∧(gi l d).Lo≤(gi l d).Hi∧(gi l d).Hi≤86400000:=by
 unfold jk at h
 unfold gi
 split at h
 ·rename_i q; rw [if_pos (Or.inl q),h.2.1]; simp [g4]
 ·rename_i q
  split at h
  ·rename_i A
   rw [if_pos (Or.inr A)]
   obtain ⟨⟨B,C,D⟩,_⟩:=h
   omega
  ·rename_i A
   rw [if_neg (fun z=>z.elim q A),Dd h.1]
   have B:=ub h.1
   have C:=(qR h.1).time
   have D:=KP h.1
   simp only
   omega
theorem Eh {l:bo} {d:aw} (h:d.Out=true):gi l d=d.Time:=if_pos (Or.inl h)
theorem Ep {l:bo} {d:aw} (h:d.Out=false∧d.cO=true):gi l d=d.Time:=if_pos (Or.inr h.2)
theorem Eu {l:bo} {d:aw} (h:d.Out=false∧d.cO=false):gi l d=Bt l d.aZ:=if_neg (by simp [h])
theorem qE {l:bo} {d:aw} (h:d.Out=true):jk l d=(d.cO=false∧d.Time=g4∧mV d.aZ):=if_pos h
theorem x4 {l:bo} {d:aw} (h:d.Out=false∧d.cO=true):jk l d=(mO d.Time∧mV d.aZ):=by unfold jk; rw [if_neg (by simp [h]),if_pos h.2]
theorem uo {l:bo} {d:aw} (h:d.Out=false∧d.cO=false):jk l d=(eh l d.aZ l.b_=0∧d.Time=g4):=by unfold jk; rw [if_neg (by simp [h]),if_neg (by simp [h])]
structure fM (r:eM):Prop where
 num:1≤(r.bg.length:Int)∧(r.bg.length:Int)≤5
 zM:0≤r.kY∧r.kY≤5
 nh:1≤(r.aB.length:Int)∧(r.aB.length:Int)≤3
 ids: ∀ (i:Nat) x,r.bg[i]? =some x→(0≤x∧x≤9999)∧ ∀ y,0<i→r.bg[i-1]? =some y→y<x
 draw:r.cm.Perm ((List.range r.bg.length).map fun (k:Nat)=>(k:Int))
 fX: ∀ h∈r.aB,h.length=r.bg.length∧ ∀ d∈h,jk r.ar d
noncomputable instance (r:eM):Decidable (fM r):=Classical.propDecidable _
noncomputable def j9 (r:eM):Int:=if dM r.ar=0 then (if fM r then 0 else 60) else dM r.ar
end
section
theorem nx {α β:Type} {f g:α→Option β}: ∀ {l:List α},(∀ x∈l,f x=g x)→l.filterMap f=l.filterMap g
 |[],_=>rfl
 |x::l,h=>by simp only [List.filterMap_cons,h x ct,nx (l:=l) (fun y hy=>h y (dH _ hy))]
abbrev sD:=List (Int×ai)
/-- the sum of a sled in some heats, the first ones -/
noncomputable def j2 (l:bo) (hs:List (List aw)) (i:Nat):Nat→Option ai
 |0=>some ⟨0,0⟩
 |k+1=>match j2 l hs i k,(hs[k]?).bind (·[i]?) with
  |some s,some d=>if d.Out=true then none else some ⟨s.Lo+(gi l d).Lo/10,s.Hi+(gi l d).Hi/10⟩
  |_,_=>none
noncomputable def eA (l:bo) (hs:List (List aw)) (n h i:Nat):sD:=(List.range n).filterMap fun q=>(j2 l hs q (if q<i then h+1 else h)).map fun s=>((q:Int),s)
noncomputable def Ap (r:eM) (k:Nat):sD:=(List.range r.bg.length).filterMap fun q=>(j2 r.ar r.aB q k).map fun s=>((q:Int),s)
noncomputable def MH (r:eM):sD:=Ap r r.aB.length
section
variable {l:bo} {hs:List (List aw)} {n h i q:Nat} {s:ai} {d:aw}
theorem BB:eA l hs n h 0=(List.range n).filterMap fun q=>(j2 l hs q h).map fun s=>((q:Int),s):=by
 unfold eA
 apply nx
 intro q _
 rw [if_neg (Nat.not_lt_zero _)]
theorem Ku:eA l hs n h n=eA l hs n (h+1) 0:=by
 rw [BB]
 unfold eA
 apply nx
 intro q hq
 rw [if_pos (List.mem_range.1 hq)]
theorem FB {x:List aw} (hx:hs[h]? =some x) (hd:x[i]? =some d) (ho:d.Out=true):j2 l hs i (h+1)=none:=by
 unfold j2
 rw [hx]
 simp only [Option.bind_some,hd]
 cases j2 l hs i h with
 |none=>rfl
 |some s=>simp [ho]
theorem Ct (h0:j2 l hs i h=none):j2 l hs i (h+1)=none:=by unfold j2; rw [h0]
theorem C7 {x:List aw} (hx:hs[h]? =some x) (hd:x[i]? =some d) (ho: ¬ d.Out=true) (hs0:j2 l hs i h=some s):j2 l hs i (h+1)=some ⟨s.Lo+(gi l d).Lo/10,s.Hi+(gi l d).Hi/10⟩:=by
 unfold j2
 rw [hx,hs0]
 simp only [Option.bind_some,hd,if_neg ho]
end
section
variable {l:bo} {hs:List (List aw)} {n h i q:Nat} {s t:ai}
theorem OW {K β:Type} [DecidableEq K] {L Y:List (K×β)} {t:K}:(L++Y).lookup t=match L.lookup t with |some v=>some v|none=>Y.lookup t:=by
 induction L with
 |nil=>rfl
 |cons p L ih=>
  obtain ⟨k,u⟩:=p
  by_cases e:t==k
  ·simp [List.lookup,e]
  ·have:(t==k)=false:=by simpa using e
   simp only [List.cons_append,List.lookup,this,ih]
theorem uN {f:Nat→Option ai}: ∀ (n i:Nat),((List.range n).filterMap fun q=>(f q).map fun s=>((q:Int),s)).lookup (i:Int)=if i<n then f i else none
 |0,i=>by simp
 |n+1,i=>by
  rw [List.range_succ,List.filterMap_append,OW,uN n i]
  by_cases c:i<n
  ·rw [if_pos c,if_pos I]
   cases e:f i with
   |some s=>rfl
   |none=>
    simp only
    cases e2:f n with
    |none=>simp [e2]
    |some u=>
     have:((i:Int)==(n:Int))=false:=by simp only [beq_eq_false_iff_ne,ne_eq]; omega
     simp [e2,List.lookup,this]
  ·rw [if_neg c]
   simp only
   by_cases A:i=n
   ·subst A
    rw [if_pos I]
    cases e2:f i with
    |none=>simp [e2]
    |some u=>simp [e2]
   ·rw [if_neg I]
    have:((i:Int)==(n:Int))=false:=by simp only [beq_eq_false_iff_ne,ne_eq]; omega
    cases e2:f n with
    |none=>simp [e2]
    |some u=>simp [e2,List.lookup,this]
theorem yb:(eA l hs n h i).lookup (q:Int)=if q<n then j2 l hs q (if q<i then h+1 else h) else none:=uN n q
theorem Ng {f g:Nat→Option ai} {n i:Nat} (hi:i<n) {s:ai} (hf:(f i).isSome=true) (hg:g i=some s) (hfg: ∀ q,q≠i→f q=g q):eD ((List.range n).filterMap fun q=>(f q).map fun s=>((q:Int),s)) (i:Int) s=(List.range n).filterMap fun q=>(g q).map fun s=>((q:Int),s):=by
 unfold eD
 rw [if_pos (by rw [uN,if_pos hi]; exact hf),List.map_filterMap]
 apply nx
 intro q _
 by_cases e:q=i
 ·subst e
  obtain ⟨u,hu⟩:=Option.isSome_iff_exists.1 hf
  rw [hu,hg]; simp
 ·rw [hfg q e]
  cases g q with
  |none=>rfl
  |some u=>
   have: ¬ ((q:Int)=(i:Int)):=by omega
   simp [this]
theorem Ob {f g:Nat→Option ai} {n i:Nat} (hg:g i=none) (hfg: ∀ q,q≠i→f q=g q):fg ((List.range n).filterMap fun q=>(f q).map fun s=>((q:Int),s)) (i:Int)=(List.range n).filterMap fun q=>(g q).map fun s=>((q:Int),s):=by
 unfold fg
 rw [List.filter_filterMap]
 apply nx
 intro q _
 by_cases e:q=i
 ·subst e
  rw [hg]
  cases f q with
  |none=>rfl
  |some u=>simp
 ·rw [hfg q e]
  cases g q with
  |none=>rfl
  |some u=>
   have: ¬ ((q:Int)=(i:Int)):=by omega
   simp [this]
theorem L5 (hi:i<n) (h0:(j2 l hs i h).isSome=true) (h1:j2 l hs i (h+1)=some s):eD (eA l hs n h i) (i:Int) s=eA l hs n h (i+1):=by
 unfold eA
 refine Ng hi (by rw [if_neg (Nat.lt_irrefl i)]; exact h0) (by rw [if_pos (Nat.lt_succ_self i)]; exact h1) fun q hq=>?_
 by_cases c:q<i
 ·rw [if_pos c,if_pos I]
 ·rw [if_neg c,if_neg I]
theorem EV (h1:j2 l hs i (h+1)=none):fg (eA l hs n h i) (i:Int)=eA l hs n h (i+1):=by
 unfold eA
 refine Ob (by rw [if_pos (Nat.lt_succ_self i)]; exact h1) fun q hq=>?_
 by_cases c:q<i
 ·rw [if_pos c,if_pos I]
 ·rw [if_neg c,if_neg I]
end
def z4 (m:sD) (i:Int):sD:=m.filter fun p=> !decide (p.1=i)
def QS (m:sD) (i n:Int):Nat:=(z4 m i).countP fun p=>decide (p.2.Hi<n)
def Tf (m:sD) (i n:Int):Nat:=(z4 m i).countP fun p=>decide (p.2.Lo<n)
def Lv (m:sD) (i:Int) (own:ai):List Int:=own.Lo::((z4 m i).flatMap fun p=>[p.2.Lo+1,p.2.Hi+1]).filter fun n=>decide (own.Lo≤n∧n≤own.Hi)
def Oq (m:sD) (i:Int) (own:ai) (k:Int):Prop:= ∃ n∈Lv m i own,(QS m i n:Int)+1≤k∧k≤(Tf m i n:Int)+1
noncomputable instance (m:sD) (i:Int) (own:ai) (k:Int):Decidable (Oq m i own k):=Classical.propDecidable _
section
variable {m:sD} {i:Int} {own:ai}
end
end
section
def qF (l:List Int):List (List Value):=l.map fun x=>[vI x]
theorem te {l:List Int}:(qF l).length=l.length:=by simp [qF]
theorem Fz {l:List Int} {k:Nat} {x:Int} (h:l[k]? =some x):(qF l)[k]? =some [vI x]:=by simp [qF,h]
theorem Gf {l:List Int} {k:Nat} {x:List Value} (h:(qF l)[k]? =some x): ∃ y,l[k]? =some y∧x=[vI y]:=by
 simp only [qF,fK,Option.map_eq_some_iff] at h
 obtain ⟨y,hy,rfl⟩:=h
 exact ⟨y,hy,U⟩
theorem Du {l:List Int}: ∀ x∈qF l,x.length=1:=fun x hx=>by
 simp only [qF,cE] at hx
 obtain ⟨y,_,rfl⟩:=hx
 rfl
theorem yj {l:List Int}:l.take (qF l).length=l:=by rw [te,List.take_of_length_le (Nat.le_refl _)]
theorem DA {l:List Int} {k:Nat} {x:Int} (h:l[k]? =some x):l.take (k+1)=l.take k++[x]:=by
 rw [List.take_add_one,h]; rfl
def nM (l:List Int):List Int:=l.mergeSort fun a b=>decide (a≤b)
theorem l4 {l:List Int}:(nM l).Perm l:=List.mergeSort_perm _ _
theorem sU {l:List Int}:(nM l).Pairwise (· ≤ ·):=by
 have:=List.pairwise_mergeSort (le:=fun (a b:Int)=>decide (a≤b)) (fun a b c A B=>by simp at A B ⊢; omega) (fun a b=>by simp; omega) l
 exact this.imp fun h=>by simpa using h
@[simp] theorem sT {l:List Int}:(nM l).length=l.length:=l4.length_eq
theorem BO {l m:List Int} (h1:m.Perm l) (h2:m.Pairwise (· ≤ ·)):m=nM l:=r8 (h1.trans l4.symm) h2 sU
end
section
open Go.RowKit
def sC (s:bK):List Value:=[vS s.a s.n s.c]
theorem zc: ∀ s,(sC s).length=1:=fun s=>rfl
theorem IT (l:List bK): ∀ v∈(l.map sC).flatten,v.oneCell'=true:=kN (fun s=>rfl) l
def Ag (l:List ai) (a:RA):bK:=⟨a.1,l.length,a.2⟩
def LD (l:List ai) (a:RA):List Value:=[vS a.1 l.length a.2]
def O0 (l:List ai) (a:RA):List aA:=[rd a.1 l.length 2 (l.map ai.cells)]
def D9 (l:List ai) (a:RA):List aA:=[own a.1 a.2 Jx 2 (l.map ai.cells)]
theorem yB {ls:List (List ai)} {az:List RA}:(List.zipWith Ag ls az).map sC=List.zipWith LD ls az:=by
 rw [List.map_zipWith]; rfl
theorem Rk: ∀ (m:List ai) (a:RA) (w:World),(∀ X∈D9 m a,X.holds w)→ ∀ X∈O0 m a,X.holds w:=fun m a w h X hX=>by
 simp only [O0,cv] at hX
 subst hX
 have:=nt (h _ (cv.2 rfl))
 simpa using this
theorem CS {l:List (List ai)} {bz:List RA}:(bS (bk D9 l bz)).wr=true:=by
 show (bk D9 l bz).all (·.wr)=true
 rw [cY]
 intro X hX
 obtain ⟨k,m,a,_,_,h⟩:=j8 hX
 simp only [D9,cv] at h
 subst h; rfl
theorem Kb {ls:List (List ai)} {az:List RA} (h:az.length=ls.length):(List.zipWith LD ls az).length=ls.length:=by simp [h]
noncomputable def gY (r:eM) (i:Nat):List (List ai):=(r.aB.take i).map fun h=>h.map (gi r.ar)
noncomputable def fT (r:eM):List (List ai):=gY r r.aB.length
section
variable {r:eM} {i:Nat} {h:List aw} {tz:List RA} {a:RA}
theorem vu (hh:r.aB[i]? =some h):gY r (i+1)=gY r i++[h.map (gi r.ar)]:=by unfold gY; rw [List.take_add_one,hh,List.map_append]; rfl
theorem kW (hi:i≤r.aB.length):(gY r i).length=i:=by unfold gY; rw [List.length_map,List.length_take]; omega
theorem jE:(fT r).length=r.aB.length:=kW (Nat.le_refl _)
theorem Cv (hh:r.aB[i]? =some h):(fT r)[i]? =some (h.map (gi r.ar)):=by
 unfold fT gY
 rw [List.take_length,fK,hh]; rfl
theorem F9 {m:List ai} (hh:r.aB[i]? =some h) (hm:(fT r)[i]? =some m):m=h.map (gi r.ar):=by
 rw [Cv hh] at hm
 exact (Option.some.inj hm).symm
theorem tO (hh:r.aB[i]? =some h) (hl:tz.length=i):List.zipWith Ag (gY r (i+1)) (tz++[a])=List.zipWith Ag (gY r i) tz++[Ag (h.map (gi r.ar)) a]:=by
 have hi:=(aU.1 hh).1
 rw [vu hh,List.zipWith_append (by rw [kW I,hl])]
 rfl
theorem Bu (hh:r.aB[i]? =some h) (hl:tz.length=i):bk D9 (gY r i) tz++[own a.1 a.2 Jx 2 ((h.map (gi r.ar)).map ai.cells)]=bk D9 (gY r (i+1)) (tz++[a]):=by
 have hi:=(aU.1 hh).1
 rw [vu hh,jB (by rw [kW I,hl])]
 simp [bk,D9]
end
theorem yX {lo hi:Int} {l:List Int}:qb lo hi l=true↔ ∀ x∈l,lo≤x∧x≤hi:=by
 unfold qb
 rw [Bool.not_eq_true',List.any_eq_false]
 constructor
 ·intro h x hx; have:=h x hx; simp only [decide_eq_true_eq] at this; omega
 ·intro h x hx; have:=h x hx; simp only [decide_eq_true_eq]; omega
abbrev F8 (n:Nat):List Int:=(List.range n).map fun (k:Nat)=>(k:Int)
theorem xo (n:Nat):(F8 n).Pairwise (· ≤ ·):=by
 unfold F8
 rw [List.pairwise_map]
 exact List.pairwise_lt_range.imp fun h=>by omega
theorem Af {l:List Int} {n:Nat} (h:l.Perm (F8 n)):nM l=F8 n:=(BO h.symm (xo n)).symm
theorem Gt {l:List Int} {n:Nat} (hl:l.length=n) (h: ∀ j,j<n→ ∀ x,(nM l)[j]? =some x→x=(j:Int)):l.Perm (F8 n):=by
 have e:nM l=F8 n:=by
  apply List.ext_getElem
  ·simp [hl]
  ·intro j A B
   have C:j<n:=by simpa using B
   have:=h j C _ (eX A)
   simpa using this
 rw [← e]; exact l4.symm
def rh (r:eM) (i:Nat):Prop:= ∀ j,j<i→(∀ x,(nM r.cm)[j]? =some x→x=(j:Int))∧ ∀ x y,r.bg[j]? =some x→0<j→r.bg[j-1]? =some y→y<x
def C6 (r:eM) (h:List aw):Prop:=h.length=r.bg.length∧ ∀ d∈h,jk r.ar d
def ko (r:eM) (i:Nat):Prop:= ∀ (j:Nat) h,j<i→r.aB[j]? =some h→C6 r h
def oo (l:bo) (h:List aw) (k:Nat):Prop:= ∀ (j:Nat) d,j<k→h[j]? =some d→jk l d
section
variable {r:eM} {i:Nat}
theorem CI:rh r 0:=fun j hj=>absurd hj (Nat.not_lt_zero _)
theorem wx {x:Int} (h:rh r i) (hd:(nM r.cm)[i]? =some x) (e:x=(i:Int)) (hs: ∀ x y,r.bg[i]? =some x→0<i→r.bg[i-1]? =some y→y<x):rh r (i+1):=fun j hj=>by
 rcases Nat.lt_or_ge j i with q|q
 ·exact h j q
 ·obtain rfl:j=i:=by omega
  exact ⟨fun y hy=>by rw [hd] at hy; cases hy; exact e,hs⟩
theorem wv:ko r 0:=fun j h hj=>absurd hj (Nat.not_lt_zero _)
theorem wO {h:List aw} (hh:ko r i) (hx:r.aB[i]? =some h) (ho:C6 r h):ko r (i+1):=fun j y hj hy=>by
 rcases Nat.lt_or_ge j i with q|q
 ·exact hh j y q hy
 ·obtain rfl:j=i:=by omega
  rw [hx] at hy; cases hy; exact ho
theorem vJ {l:bo} {h:List aw}:oo l h 0:=fun j d hj=>absurd hj (Nat.not_lt_zero _)
theorem vn {l:bo} {h:List aw} {d:aw} (ht:oo l h i) (hx:h[i]? =some d) (ho:jk l d):oo l h (i+1):=fun j y hj hy=>by
 rcases Nat.lt_or_ge j i with q|q
 ·exact ht j y q hy
 ·obtain rfl:j=i:=by omega
  rw [hx] at hy; cases hy; exact ho
theorem Ei {h:List aw} (hl:h.length=r.bg.length) (ht:oo r.ar h i) (hi:h.length≤i):C6 r h:=⟨hl,fun d hd=>by
 obtain ⟨j,hj⟩:=List.getElem?_of_mem hd
 exact ht j d (by have:=(aU.1 hj).1; omega) hj⟩
theorem HB {n:Nat} (hn:n=r.bg.length) (h1:1≤(r.bg.length:Int)∧(r.bg.length:Int)≤5) (h2:r.cm.length=r.bg.length) (h3:0≤r.kY∧r.kY≤5) (h4:1≤(r.aB.length:Int)∧(r.aB.length:Int)≤3) (h5:qb 0 9999 r.bg=true)
 (h6:rh r n) (h7:ko r i) (hi:r.aB.length≤i):fM r:=by
 subst hn
 refine ⟨h1,h3,h4,fun k x hx=>⟨yX.1 h5 x (aP hx),fun y hk hy=>?_⟩,Gt h2 fun j hj=>(h6 j hj).1,fun h hh=>?_⟩
 ·exact (h6 k (aU.1 hx).1).2 x y hx hk hy
 ·obtain ⟨j,hj⟩:=List.getElem?_of_mem hh
  exact h7 j h (by have:=(aU.1 hj).1; omega) hj
theorem fM.zz (h:fM r):r.cm.length=r.bg.length:=by have:=h.draw.length_eq; simpa using this
theorem fM.ins (h:fM r):qb 0 9999 r.bg=true:=yX.2 fun x hx=>by
 obtain ⟨j,hj⟩:=List.getElem?_of_mem hx
 exact (h.ids j x hj).1
theorem fM.drawn (h:fM r) {x:Int} (hx:(nM r.cm)[i]? =some x):x=(i:Int):=by
 rw [Af h.draw] at hx
 have hi:=(aU.1 hx).1
 simp at hi
 rw [fK,List.getElem?_range hi] at hx
 exact (Option.some.inj hx).symm
theorem fM.KV (h:fM r):ko r i:=fun j x _ hx=>h.fX x (aP hx)
theorem yu (h: ¬ dM r.ar=0):j9 r=dM r.ar:=if_neg h
theorem kO (h:dM r.ar=0) (hn: ¬ fM r):j9 r=60:=by unfold j9; rw [if_pos h,if_neg hn]
theorem BU (h:dM r.ar=0) (hn:fM r):j9 r=0:=by unfold j9; rw [if_pos h,if_pos hn]
theorem fr (h:j9 r=0):dM r.ar=0∧fM r:=by
 unfold j9 at h
 split at h
 ·split at h
  ·exact ⟨asm,asm⟩
  ·cases h
 ·exact absurd h asm
end
section
variable {r:eM} {k i n h:Nat} {s:ai} {l:bo} {hs:List (List aw)}
theorem D4: ∀ {k:Nat} {s:ai},ko r k→k≤r.aB.length→j2 r.ar r.aB i k=some s→0≤s.Lo∧s.Lo≤s.Hi∧s.Hi≤8640000*(k:Int)
 |0,s,_,_,h=>by
  simp only [j2,Option.some.injEq] at h
  subst h; simp
 |k+1,s,hh,hk,h=>by
  unfold j2 at h
  split at h
  ·rename_i u d hu hd
   split at h
   ·cases h
   ·cases h
    have A:=D4 (fun j x hj hx=>hh j x I hx) I hu
    obtain ⟨x,hx,hd⟩:=Option.bind_eq_some_iff.1 hd
    have B:=ER ((hh k x I hx).2 d (aP hd))
    simp only
    push_cast
    omega
  ·cases h
theorem LQ:eD (eA l hs i 0 0) (i:Int) ⟨0,0⟩=eA l hs (i+1) 0 0:=by
 have A:(eA l hs i 0 0).lookup (i:Int)=none:=by rw [yb,if_neg (Nat.lt_irrefl i)]
 unfold eD
 rw [A]
 simp only [Option.isSome_none,Bool.false_eq_true,if_false]
 unfold eA
 rw [List.range_succ,List.filterMap_append]
 simp [j2]
theorem Ii (hi:i<n):(eA l hs n h i).lookup (i:Int)=j2 l hs i h:=by rw [yb,if_pos hi,if_neg (Nat.lt_irrefl i)]
theorem Ot {α β:Type} {f:α→β} {tr:List β} {ht:List α} {x:β} {d:α} (e:tr=ht.map f) (hx:tr[i]? =some x) (hd:ht[i]? =some d):x=f d:=by
 rw [e,fK,hd] at hx
 exact (Option.some.inj hx).symm
theorem Ls:eA r.ar r.aB r.bg.length h 0=Ap r h:=BB
end
end
section
def qI (r:eM) (i:Int):Prop:=0≤i∧i≤(r.bg.length:Int)-1
instance (r:eM) (i:Int):Decidable (qI r i):=by unfold qI; infer_instance
section
variable {r:eM} {i a b:Int}
end
end
section
def oG (d:aw):Prop:=d.Out=false∧d.cO=false
instance (d:aw):Decidable (oG d):=by unfold oG; infer_instance
def eZ (l:bo) (f:aX):Prop:=(1≤f.Kind∧f.Kind≤3)∧(0≤f.lX∧f.lX≤f.To∧f.To≤86400000)∧0≤f.gW∧f.gW≤(if f.Kind=1 then 0 else l.b_)
instance (l:bo) (f:aX):Decidable (eZ l f):=by unfold eZ; infer_instance
/-- the descent that a protest is of -/
def vt (j:dk) (p:bI):Option aw:=(j.Race.aB[p.iY.toNat]?).bind (·[p.iR.toNat]?)
structure u_ (j:dk) (i:Nat) (p:bI):Prop where
 id:0≤p.Id∧p.Id≤9999
 up: ∀ q,0<i→j.aM[i-1]? =some q→q.Id<p.Id
 lu:qI j.Race p.iR
 fX:0≤p.iY∧p.iY≤(j.Race.aB.length:Int)-1
 fault:0≤p.pd∧p.pd≤(j.ay.length:Int)-1
 jH: ∃ d,vt j p=some d∧oG d∧d.aZ.Start≤p.At∧p.At≤86400000
structure qq (j:dk):Prop where
 nf:(j.ay.length:Int)≤5
 fault: ∀ f∈j.ay,eZ j.Race.ar f
 min_:0≤j.fQ∧j.fQ≤60
 ux:0≤j.z8∧j.z8≤100000
 np:(j.aM.length:Int)≤8
 ia: ∀ (i:Nat) p,j.aM[i]? =some p→u_ j i p
noncomputable instance (j:dk):Decidable (qq j):=Classical.propDecidable _
noncomputable def gF (j:dk):Int:=if j9 j.Race=0 then (if qq j then 0 else 70) else j9 j.Race
theorem yU {j:dk} (h: ¬ j9 j.Race=0):gF j=j9 j.Race:=if_neg h
theorem jN {j:dk} (h:j9 j.Race=0) (hn: ¬ qq j):gF j=70:=by unfold gF; rw [if_pos h,if_neg hn]
theorem BN {j:dk} (h:j9 j.Race=0) (hn:qq j):gF j=0:=by unfold gF; rw [if_pos h,if_pos hn]
theorem gH {j:dk} (h:gF j=0):j9 j.Race=0∧qq j:=by
 unfold gF at h
 split at h
 ·split at h
  ·exact ⟨asm,asm⟩
  ·cases h
 ·rename_i q; exact absurd h q
structure xh where
 Lo:Int
 Hi:Int
 each:Bool
 never:Bool
/-- whether it passed the beam in each truth -/
noncomputable def ud (l:bo) (r:cx) (b:Int):Bool:=(fp l r).all fun n=>decide (b<n)
noncomputable def df (l:bo) (r:cx) (b:Int):xh:=
 if b<0 then ⟨r.Start,r.Start,true,false⟩
 else if eh l r b=0 then ⟨(dy l r b).Lo,if ud l r b=true then (dy l r b).Hi else 86400000,ud l r b,false⟩
 else ⟨86400000,86400000,false,true⟩
def Ew (f:aX):Int:=if f.Kind=1 then-1 else if f.Kind=2 then f.gW-1 else f.gW
def RI (l:bo) (f:aX):Int:=if f.Kind=1 then l.b_ else f.gW
def qu (f:aX) (a b:xh):Prop:=if f.Kind=3 then f.lX≤a.Lo∧a.Hi≤f.To else a.Hi≤f.To∧f.lX≤b.Lo
instance (f:aX) (a b:xh):Decidable (qu f a b):=by unfold qu; infer_instance
def mM (f:aX) (a b:xh):Int:=if a.never=true∨f.To<a.Lo∨b.Hi<f.lX then 0 else if a.each=true∧qu f a b then 2 else 1
noncomputable def gO (l:bo) (f:aX) (d:aw):Int:=if oG d then mM f (df l d.aZ (Ew f)) (df l d.aZ (RI l f)) else 0
theorem Jw {f:aX} {a b:xh}:0≤mM f a b∧mM f a b≤2:=by unfold mM; split; omega; split<;>omega
theorem Iy {l:bo} {f:aX} {d:aw}:0≤gO l f d∧gO l f d≤2:=by
 unfold gO; split
 ·exact Jw
 ·omega
theorem nj {l:bo} {f:aX} {d:aw} (h: ¬ oG d):gO l f d=0:=if_neg h
def nW (P:Nat→Bool) (n:Nat):List Int:=((List.range n).filter P).map fun (i:Nat)=>(i:Int)
section
variable {P:Nat→Bool} {n q:Nat} {x:Int}
theorem CW (h:P n=true):nW P (n+1)=nW P n++[(n:Int)]:=by unfold nW; rw [List.range_succ,List.filter_append,List.map_append]; simp [h]
theorem HV (h:P n=false):nW P (n+1)=nW P n:=by unfold nW; rw [List.range_succ,List.filter_append,List.map_append]; simp [h]
theorem sM:(nW P n).length≤n:=by unfold nW; rw [List.length_map]; exact Nat.le_trans (List.length_filter_le _ _) (by rw [List.length_range]; exact Nat.le_refl _)
theorem HK:x∈nW P n↔ ∃ i:Nat,i<n∧x=(i:Int)∧P i=true:=by
 unfold nW
 simp only [cE,List.mem_filter,List.mem_range]
 constructor
 ·rintro ⟨i,⟨A,B⟩,rfl⟩; exact ⟨i,A,rfl,B⟩
 ·rintro ⟨i,A,rfl,B⟩; exact ⟨i,⟨A,B⟩,rfl⟩
end
noncomputable def uv (j:dk) (p:bI):Int:=match vt j p with
 |some d=>if p.At≤(df j.Race.ar d.aZ j.Race.ar.b_).Lo+60000*j.fQ then 0 else if p.At≤(df j.Race.ar d.aZ j.Race.ar.b_).Hi+60000*j.fQ then 1 else 2
 |none=>2
/-- by faults of which something is so -/
def FD (l:bo) (F:aX→Prop) (fs:List aX) (d:aw):Prop:= ∃ f∈fs,F f∧ ¬ gO l f d=0
noncomputable def Fa (l:bo) (F:aX→Prop) (fs:List aX) (h:List aw) (n:Nat):List Int:=nW (fun s=>(h[s]?).any fun d=> @decide (FD l F fs d) (Classical.propDecidable _)) n
noncomputable def eC (j:dk) (F:aX→Prop):List (List Int):=j.Race.aB.map fun h=>Fa j.Race.ar F j.ay h h.length
end
section
/-- the places of which something is so; from the k-th on, all of them -/
def iu (P:Nat→Bool) (n k:Nat):List (Int×Bool):=((List.range n).filter fun q=>decide (k≤q)||P q).map fun (q:Nat)=>((q:Int),true)
section
variable {P:Nat→Bool} {n k q:Nat}
theorem wB {p:Int×Bool}:p∈iu P n k↔ ∃ q:Nat,q<n∧(k≤q∨P q=true)∧p=((q:Int),true):=by
 unfold iu
 simp only [cE,List.mem_filter,List.mem_range,Bool.or_eq_true,decide_eq_true_eq]
 constructor
 ·rintro ⟨q,⟨A,B⟩,rfl⟩; exact ⟨q,A,B,rfl⟩
 ·rintro ⟨q,A,B,rfl⟩; exact ⟨q,⟨A,B⟩,rfl⟩
theorem E4:((iu P n k).map (·.1)).Nodup:=by
 unfold iu
 rw [List.map_map,List.nodup_iff_pairwise_ne,List.pairwise_map]
 have h:(List.range n).Pairwise (· ≠ ·):=by rw [← List.nodup_iff_pairwise_ne]; exact List.nodup_range
 exact (h.sublist List.filter_sublist).imp fun {a b} A e=>A (by have B:(a:Int)=(b:Int):=e; omega)
theorem Ia:eD (iu P n 0) (n:Int) true=iu P (n+1) 0:=by
 have A:(iu P n 0).lookup (n:Int)=none:=iz.2 fun p hp e=>by
  obtain ⟨q,B,_,rfl⟩:=wB.1 hp
  simp only at e; omega
 unfold eD
 rw [A]
 show iu P n 0++[((n:Int),true)]=_
 unfold iu
 rw [List.range_succ,List.filter_append,List.map_append]
 simp
theorem Ib (h:P k=false):fg (iu P n k) (k:Int)=iu P n (k+1):=by
 unfold fg iu
 rw [List.filter_map,List.filter_filter]
 congr 1
 apply List.filter_congr
 intro q _
 by_cases e:q=k
 ·subst e; simp [h]
 ·have A:decide ((q:Int)=(k:Int))=false:=aY I
  have B:decide (k≤q)=decide (k+1≤q):=gR.2 I
  simp only [Function.comp_def,A,B,Bool.not_false,Bool.true_and]
theorem Fc (h:P k=true):iu P n k=iu P n (k+1):=by
 unfold iu
 congr 1
 apply List.filter_congr
 intro q _
 by_cases e:q=k
 ·subst e; simp [h]
 ·have A:decide (k≤q)=decide (k+1≤q):=gR.2 I
  rw [A]
theorem yJ (hq:q<n):((iu P n n).lookup (q:Int)).getD false=P q:=by
 cases h:P q with
 |true=>
  have:((q:Int),true)∈iu P n n:=wB.2 ⟨q,hq,.inr h,rfl⟩
  rw [(lj E4).1 this]; rfl
 |false=>
  have:(iu P n n).lookup (q:Int)=none:=iz.2 fun p hp e=>by
   obtain ⟨u,B,A,rfl⟩:=wB.1 hp
   simp only at e
   obtain rfl:u=q:=by omega
   rcases A with A|A
   ·omega
   ·rw [h] at A; cases A
  rw [this]; rfl
end
end
section
section
variable {j j':dk} {p:bI} {l:bo} {F G:aX→Prop} {fs:List aX} {h:List aw} {n:Nat} {x:Int}
theorem E0 (hFG: ∀ f∈fs,(F f↔G f)):Fa l F fs h n=Fa l G fs h n:=by
 unfold Fa
 congr 1
 funext s
 cases e:h[s]? with
 |none=>rfl
 |some d=>
  simp only [Option.any_some]
  rw [gR]
  exact ⟨fun ⟨f,A,B,C⟩=>⟨f,A,(hFG f A).1 B,C⟩,fun ⟨f,A,B,C⟩=>⟨f,A,(hFG f A).2 B,C⟩⟩
theorem zP {k:Nat} {h:List aw} (hh:j.Race.aB[k]? =some h):(eC j F)[k]? =some (Fa j.Race.ar F j.ay h h.length):=by unfold eC; rw [fK,hh]; rfl
theorem BK:(eC j F).length=j.Race.aB.length:=by unfold eC; rw [List.length_map]
end
end
end Go.Proofs.YtgcjjjehnjljbaaGreatDoor
