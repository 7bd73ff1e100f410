/-
 The statement juryAll_said, part 4 of 8: Short, Grow, Global, RunA, Tab, Run, Comp, Ret, LoopK, MapK, Watch, Passes, Keys, MapR, RangeG, Nest, WMaps, WBounds, PassG, Drop, Spot, First, Line, Wrap, Goes, OpenW, Wheres, LineR, Race, RaceS, Vals, RaceO, RaceV, Jury, JHits, JMore, JMem.
 Conditions: none.
-/
import Derived.Test.YtijpnoadncadoaaGreatDoorTy1
import Derived.Test.YtijpnoadncadoaaGreatDoorTy2
import Derived.Test.YtijpnoadncadoaaGreatDoorTy3
import Derived.Test.YtijpnoadncadoaaGreatDoorProg
import Derived.KernelRfl
import Derived.WideKeyRuns
namespace Go.Proofs.YtijpnoadncadoaaGreatDoor
set_option maxRecDepth 100000
set_option maxHeartbeats 4000000
set_option linter.unusedVariables false
section
open Go.RowKit
/-- an operation that hands v to its slot d -/
structure SE (E:eT) (ops:Array Oper) (o:Oper) (D:g6) (L:di) (C:List av) (v:Value) (d:Nat):Prop where
 h:SD E ops o D L C v
 o:o.dst=some d
 n:Nat.blt d E.n=true
theorem rS {E:eT} {ops:Array Oper} {Q:cZ} {o:Oper} {rest:List Oper} {D:g6} {L:di} {C:List av} {v:Value} {d:Nat}
 (h:SE E ops o D L C v d) (k:RJ E ops Q rest D ((d,v)::L) C):RJ E ops Q (o::rest) D L C:=Sk h.h h.o h.n k
theorem dS {E:eT} {ops:Array Oper} {F:di→Prop} {o:Oper} {rest:List Oper} {D:g6} {L:di} {C:List av} {v:Value} {d:Nat}
 (h:SE E ops o D L C v d) (k:DJ E ops D C F rest ((d,v)::L)):DJ E ops D C F (o::rest) L:=Rr h.h h.o h.n k
theorem eS {E:eT} {ops:Array Oper} {D:g6} {C' C1:List av} {F:di→Prop} {bs:List Bool} {o:Oper} {l rest:List Oper} {L:di} {v:Value} {d:Nat}
 (hl:l=o::rest) (h:SE E ops o D L C' v d) (k:qg E ops D C' C1 F bs rest ((d,v)::L)):qg E ops D C' C1 F (false::bs) l L:=P6 h.h hl h.o h.n k
theorem fS {E:eT} {ops:Array Oper} {D:g6} {C' C1:List av} {F:di→Prop} {bs:List Bool} {o:Oper} {l rest:List Oper} {L:di} {v:Value} {d:Nat}
 (hl:l=o::rest) (h:SE E ops o D L C1 v d) (k:qg E ops D C' C1 F bs rest ((d,v)::L)):qg E ops D C' C1 F (true::bs) l L:=Q8 h.h hl h.o h.n k
def gB (n:Nat) (ops:Array Oper) (L:di) (d:Nat) (g:Option (Nat×Bool)):Bool:=j0 ops L g&&Nat.blt d n
theorem Nc {n:Nat} {ops:Array Oper} {L:di} {d:Nat} {g:Option (Nat×Bool)} (h:gB n ops L d g=true):j0 ops L g=true:=by
 unfold gB at h; rw [cW] at h; exact h.1
theorem Nz {n:Nat} {ops:Array Oper} {L:di} {d:Nat} {g:Option (Nat×Bool)} (h:gB n ops L d g=true):Nat.blt d n=true:=by
 unfold gB at h; rw [cW] at h; exact h.2
def vF (n:Nat) (ops:Array Oper) (L:di) (d:Nat) (g:Option (Nat×Bool)) (x:Operand):Option Value:=match gB n ops L d g with
 |true=>ev L x
 |false=>none
def bF (n:Nat) (ops:Array Oper) (L:di) (d:Nat) (g:Option (Nat×Bool)) (x y:Operand):Option (Value×Value):=match gB n ops L d g with
 |true=>match ev L x,ev L y with
  |some u,some v=>some (u,v)
  |_,_=>none
 |false=>none
def pF (n:Nat) (ops:Array Oper) (L:di) (d:Nat) (g:Option (Nat×Bool)) (c x y:Operand):Option Value:=match gB n ops L d g with
 |true=>match ev L c with
  |some (.bool true)=>ev L x
  |some (.bool false)=>ev L y
  |_=>none
 |false=>none
def xF (n:Nat) (ops:Array Oper) (L:di) (d:Nat) (g:Option (Nat×Bool)) (x:Operand) (i:Nat):Option Value:=match vF n ops L d g x with
 |some (.tuple vs)=>vs.toList[i]?
 |_=>none
def uF (n:Nat) (ops:Array Oper) (L:di) (d:Nat) (g:Option (Nat×Bool)) (xs ys:List Operand):Option (List Value×List Value):=match gB n ops L d g with
 |true=>match evs L xs,evs L ys with
  |some u,some v=>some (u,v)
  |_,_=>none
 |false=>none
def cF (n:Nat) (ops:Array Oper) (L:di) (d:Nat) (g:Option (Nat×Bool)) (fop:Operand) (xs:List Operand):Option (FuncId×List Value):=match gB n ops L d g with
 |true=>match ev L fop,evs L xs with
  |some (.func (.func f) fi ca),some vs=>some (f,fi.toList++vs++ca.toList)
  |_,_=>none
 |false=>none
theorem jr {n:Nat} {ops:Array Oper} {L:di} {d:Nat} {g:Option (Nat×Bool)} {x:Operand} {v:Value} (h:vF n ops L d g x=some v):j0 ops L g=true∧Nat.blt d n=true∧ev L x=some v:=by
 unfold vF at h
 split at h
 ·rename_i hb; exact ⟨Nc hb,Nz hb,h⟩
 ·cases h
theorem uy {n:Nat} {ops:Array Oper} {L:di} {d:Nat} {g:Option (Nat×Bool)} {x y:Operand} {u v:Value} (h:bF n ops L d g x y=some (u,v)):j0 ops L g=true∧Nat.blt d n=true∧ev L x=some u∧ev L y=some v:=by
 unfold bF at h
 split at h
 ·rename_i hb
  split at h
  ·rename_i hx hy; cases h; exact ⟨Nc hb,Nz hb,hx,hy⟩
  ·cases h
 ·cases h
theorem Py {n:Nat} {ops:Array Oper} {L:di} {d:Nat} {g:Option (Nat×Bool)} {x y:List Operand} {u v:List Value} (h:uF n ops L d g x y=some (u,v)):j0 ops L g=true∧Nat.blt d n=true∧evs L x=some u∧evs L y=some v:=by
 unfold uF at h
 split at h
 ·rename_i hb
  split at h
  ·rename_i hx hy; cases h; exact ⟨Nc hb,Nz hb,hx,hy⟩
  ·cases h
 ·cases h
section
variable {E:eT} {ops:Array Oper} {Q:cZ} {rest:List Oper} {D:List Deferred} {L:List (Nat×Value)} {C:List av}
variable {d:Nat} {ty:TypeId} {ps:String} {af:Array Edge} {g:Option (Nat×Bool)}
theorem SX {o:Oper} {v:Value} (h:SD E ops o D L C v) (ho:o.dst=some d) (hd:Nat.blt d E.n=true):SE E ops o D L C v d:=⟨h,ho,hd⟩
theorem MV {x:Operand} {v:Value} (h:vF E.n ops L d g x=some v):SE E ops ⟨some d,.move x,ty,ps,af,g⟩ D L C v d:=by
 obtain ⟨A,B,F⟩:=jr h; exact ⟨Ee A F,rfl,B⟩
theorem AG {x:Operand} {v:Value} (h:vF E.n ops L d g x=some v):SE E ops ⟨some d,.assign x,ty,ps,af,g⟩ D L C v d:=by
 obtain ⟨A,B,F⟩:=jr h; exact ⟨ym A F,rfl,B⟩
theorem OX {op:Op} (h:(Ce ops L g&&Nat.blt d E.n)=true):SE E ops ⟨some d,op,ty,ps,af,g⟩ D L C undef d:=by
 rw [cW] at h; exact ⟨JD h.1,rfl,h.2⟩
theorem NT {xt:TypeId} {x:Operand} {b:Bool} (h:vF E.n ops L d g x=some (.bool b)):SE E ops ⟨some d,.unOp .not xt x,ty,ps,af,g⟩ D L C (.bool !b) d:=by
 obtain ⟨A,B,F⟩:=jr h; exact ⟨Hu A F,rfl,B⟩
theorem NG {xt:TypeId} {x:Operand} {n:Int} (h:vF E.n ops L d g x=some (.int .i64 n)) (hb:qP (-n)):SE E ops ⟨some d,.unOp .neg xt x,ty,ps,af,g⟩ D L C (.int .i64 (-n)) d:=by
 obtain ⟨A,B,F⟩:=jr h; exact ⟨Pw A F hb,rfl,B⟩
theorem PK {c x y:Operand} {v:Value} (h:pF E.n ops L d g c x y=some v):SE E ops ⟨some d,.pick c x y,ty,ps,af,g⟩ D L C v d:=by
 unfold pF at h
 split at h
 ·rename_i hb
  split at h
  ·rename_i hc; exact ⟨yd (Nc hb) hc h,rfl,Nz hb⟩
  ·rename_i hc; exact ⟨yH (Nc hb) hc h,rfl,Nz hb⟩
  ·cases h
 ·cases h
theorem EX {x:Operand} {i:Nat} {v:Value} (h:xF E.n ops L d g x i=some v):SE E ops ⟨some d,.extract x i,ty,ps,af,g⟩ D L C v d:=by
 unfold xF at h
 split at h
 ·rename_i vs hv
  obtain ⟨A,B,F⟩:=jr hv
  exact ⟨xu (vs:=vs.toList) A (by simpa using F) h,U,B⟩
 ·cases h
theorem LN {x:Operand} {t e:TypeId} {A:OA} {n c:Nat} (h:vF E.n ops L d g x=some (.slice A n c)) (ht:E.P.underlying t=some (.slice e)):
 SE E ops ⟨some d,.call {callee:= .builtin .len,args:= #[x],argTypes:= #[t]},ty,ps,af,g⟩ D L C (.int .i64 n) d:=by
 obtain ⟨B,F,G⟩:=jr h; exact ⟨JR B G ht,rfl,F⟩
theorem BI {op:BinOp} {xt yt:TypeId} {x y:Operand} {u v r:Value} (h:bF E.n ops L d g x y=some (u,v)) (hb:iA E.P op xt x y u v r):SE E ops ⟨some d,.binOp op xt x y yt,ty,ps,af,g⟩ D L C r d:=by
 obtain ⟨A,B,F,G⟩:=uy h; exact ⟨fV A F G hb,rfl,B⟩
theorem MN {x y:Operand} {ts:Array TypeId} {a b:Int} {k:IntKind} (h:bF E.n ops L d g x y=some (.int k a,.int k b)):
 SE E ops ⟨some d,.call {callee:= .builtin .min,args:= #[x,y],argTypes:=ts},ty,ps,af,g⟩ D L C (.int k (min a b)) d:=by
 obtain ⟨A,B,F,G⟩:=uy h; exact ⟨OU A F G,rfl,B⟩
theorem MX {x y:Operand} {ts:Array TypeId} {a b:Int} {k:IntKind} (h:bF E.n ops L d g x y=some (.int k a,.int k b)):
 SE E ops ⟨some d,.call {callee:= .builtin .max,args:= #[x,y],argTypes:=ts},ty,ps,af,g⟩ D L C (.int k (max a b)) d:=by
 obtain ⟨A,B,F,G⟩:=uy h; exact ⟨Pn A F G,rfl,B⟩
theorem FA (o':Nat) {x:Operand} {b o s f k:Nat} (h:vF E.n ops L d g x=some (.pointer (some ⟨b,o,none⟩))) (hf:vJ E.P s f=some k) (ho:o+k=o'):
 SE E ops ⟨some d,.fieldAddr s x f,ty,ps,af,g⟩ D L C (.pointer (some ⟨b,o',none⟩)) d:=by
 obtain ⟨A,B,F⟩:=jr h; exact ⟨Nq A F hf ho,rfl,B⟩
theorem qc (k':Nat) {x:Operand} {A:OA} {n sz:Nat} {es:List (List Value)} {k0 s f k:Nat} (h:vF E.n ops L d g x=some (.pointer (qm A k0))) (hR:iN C (rd A n sz es).holds) (hn:0<n*sz)
 (hf:vJ E.P s f=some k) (ho:k0+k=k'):SE E ops ⟨some d,.fieldAddr s x f,ty,ps,af,g⟩ D L C (.pointer (qm A k')) d:=by
 obtain ⟨B,F,G⟩:=jr h; exact ⟨IV B G hR hn hf ho,rfl,F⟩
theorem IA (k:Nat) {x ix:Operand} {A:OA} {n c sz e t:Nat} {es:List (List Value)} {j:Int} (h:bF E.n ops L d g x ix=some (.slice A n c,.int .i64 j)) (hR:iN C (rd A n sz es).holds)
 (ht:tE E.P t=some (e,sz)) (hz:0<sz) (hj:j=(k:Int)) (hk:k<n):SE E ops ⟨some d,.indexAddr t x ix,ty,ps,af,g⟩ D L C (.pointer (qm A (k*sz))) d:=by
 obtain ⟨B,F,G,H⟩:=uy h; exact ⟨QI B G H hR ht hz hj hk,rfl,F⟩
theorem UE (k o':Nat) {x ix:Operand} {b o n c sz e t:Nat} {j:Int} (h:bF E.n ops L d g x ix=some (.slice (some ⟨b,o,none⟩) n c,.int .i64 j))
 (ht:tE E.P t=some (e,sz)) (hj:j=(k:Int)) (hk:k<n) (ho:o+k*sz=o'):SE E ops ⟨some d,.indexAddr t x ix,ty,ps,af,g⟩ D L C (.pointer (some ⟨b,o',none⟩)) d:=by
 obtain ⟨A,B,F,G⟩:=uy h; exact ⟨LB A F G ht hj hk ho,rfl,B⟩
/-- the whole of a block, a part of it, one cell -/
theorem LW (i:Nat) {x:Operand} {b t tt n:Nat} {cs:List Value} (h:vF E.n ops L d g x=some (.pointer (some ⟨b,0,none⟩))) (ht:tK E.P t=some (true,n)) (hC:C[i]? =some (cm b tt cs)) (hn:cs.length=n):
 SE E ops ⟨some d,.load t x,ty,ps,af,g⟩ D L C (.agg cs.toArray) d:=by
 obtain ⟨A,B,F⟩:=jr h; exact ⟨wO A F ht (py i hC sm) hn,rfl,B⟩
theorem LP (vs:List Value) (i:Nat) {x:Operand} {b o t tt n:Nat} {cs:List Value} (h:vF E.n ops L d g x=some (.pointer (some ⟨b,o,none⟩))) (ht:tK E.P t=some (true,n)) (hC:C[i]? =some (cm b tt cs)) (hv:(cs.drop o).take vs.length=vs) (hn:vs.length=n):
 SE E ops ⟨some d,.load t x,ty,ps,af,g⟩ D L C (.agg vs.toArray) d:=by
 obtain ⟨A,B,F⟩:=jr h; exact ⟨wO A F ht (py i hC hv) hn,rfl,B⟩
theorem UI (vs:List Value) (i:Nat) {x:Operand} {b o t tt n:Nat} {cs:List Value} (h:vF E.n ops L d g x=some (.pointer (some ⟨b,o,none⟩))) (ht:tK E.P t=some (true,n)) (hC:C[i]? =some (cm b tt cs).ro) (hv:(cs.drop o).take vs.length=vs) (hn:vs.length=n):
 SE E ops ⟨some d,.load t x,ty,ps,af,g⟩ D L C (.agg vs.toArray) d:=by
 obtain ⟨A,B,F⟩:=jr h; exact ⟨wO A F ht (vO i hC hv) hn,rfl,B⟩
theorem L1 (v:Value) (i:Nat) {x:Operand} {b o t tt n:Nat} {cs:List Value} (h:vF E.n ops L d g x=some (.pointer (some ⟨b,o,none⟩))) (ht:tK E.P t=some (false,n)) (hC:C[i]? =some (cm b tt cs)) (hv:(cs.drop o).take 1=[v]):
 SE E ops ⟨some d,.load t x,ty,ps,af,g⟩ D L C v d:=by
 obtain ⟨A,B,F⟩:=jr h; exact ⟨uH A F ht (py i hC hv),rfl,B⟩
theorem Io (v:Value) (i:Nat) {x:Operand} {b o t tt n:Nat} {cs:List Value} (h:vF E.n ops L d g x=some (.pointer (some ⟨b,o,none⟩))) (ht:tK E.P t=some (false,n)) (hC:C[i]? =some (cm b tt cs).ro) (hv:(cs.drop o).take 1=[v]):
 SE E ops ⟨some d,.load t x,ty,ps,af,g⟩ D L C v d:=by
 obtain ⟨A,B,F⟩:=jr h; exact ⟨uH A F ht (vO i hC hv),rfl,B⟩
theorem Dy (i:Nat) {x:Operand} {b t tt n:Nat} {v:Value} (h:vF E.n ops L d g x=some (.pointer (some ⟨b,0,none⟩))) (ht:tK E.P t=some (false,n)) (hC:C[i]? =some (cm b tt [v])):
 SE E ops ⟨some d,.load t x,ty,ps,af,g⟩ D L C v d:=by
 obtain ⟨A,B,F⟩:=jr h; exact ⟨uH A F ht (py i hC rfl),rfl,B⟩
theorem Uy (i:Nat) {x:Operand} {b t tt n:Nat} {v:Value} (h:vF E.n ops L d g x=some (.pointer (some ⟨b,0,none⟩))) (ht:tK E.P t=some (false,n)) (hC:C[i]? =some (cm b tt [v]).ro):
 SE E ops ⟨some d,.load t x,ty,ps,af,g⟩ D L C v d:=by
 obtain ⟨A,B,F⟩:=jr h; exact ⟨uH A F ht (vO i hC rfl),rfl,B⟩
/-- what is read of a row -/
theorem hG (k o:Nat) (v:Value) {x:Operand} {A:OA} {t m n sz:Nat} {es:List (List Value)} {e:List Value} (h:vF E.n ops L d g x=some (.pointer (qm A m))) {nn:Nat} (ht:tK E.P t=some (false,nn)) (hR:iN C (rd A n sz es).holds) (he:es[k]? =some e) (hm:m=k*sz+o) (hz:0<sz) (hv:(e.drop o).take 1=[v]):
 SE E ops ⟨some d,.load t x,ty,ps,af,g⟩ D L C v d:=by
 obtain ⟨B,F,G⟩:=jr h; exact ⟨uH B G ht (M7 hR he hm hz hv),rfl,F⟩
theorem lh (k o:Nat) (vs:List Value) {x:Operand} {A:OA} {t m n sz:Nat} {es:List (List Value)} {e:List Value} (h:vF E.n ops L d g x=some (.pointer (qm A m))) {nn:Nat} (ht:tK E.P t=some (true,nn)) (hR:iN C (rd A n sz es).holds) (he:es[k]? =some e) (hm:m=k*sz+o) (hz:0<sz) (hv:(e.drop o).take vs.length=vs) (hn:vs.length=nn):
 SE E ops ⟨some d,.load t x,ty,ps,af,g⟩ D L C (.agg vs.toArray) d:=by
 obtain ⟨B,F,G⟩:=jr h; exact ⟨wO B G ht (M7 hR he hm hz hv) hn,rfl,F⟩
theorem CL {fop:Operand} {xs:Array Operand} {ts:Array TypeId} {f:FuncId} {args:List Value} {Cp:List av} {v:Value} (c:dx E.P f args Cp v) (hC:kf C Cp) (h:cF E.n ops L d g fop xs.toList=some (f,args)):
 SE E ops ⟨some d,.call {callee:= .value fop,args:=xs,argTypes:=ts},ty,ps,af,g⟩ D L C v d:=by
 unfold cF at h
 split at h
 ·rename_i hb
  split at h
  ·rename_i hf hx; cases h; exact ⟨EU (Nc hb) hf hx rfl c hC,rfl,Nz hb⟩
  ·cases h
 ·cases h
theorem FU {fn:Fn} {xs ys:Array Operand} {us vs:List Value} (h:uF E.n ops L d g xs.toList ys.toList=some (us,vs)):SE E ops ⟨some d,.makeFunc fn xs ys,ty,ps,af,g⟩ D L C (.func fn us.toArray vs.toArray) d:=by
 obtain ⟨A,B,F,G⟩:=Py h; exact ⟨KX A F G,rfl,B⟩
theorem cX {fop:Operand} {xs:Array Operand} {ts:Array TypeId} {f:FuncId} {args:List Value} {Cp:List av} {α:Type} {V:α→Value} {p:α→Prop} {N:α→List av} (c:q6 E.P f args Cp V p N) (hC:kf C Cp)
 (h:cF E.n ops L d g fop xs.toList=some (f,args)) (k: ∀ x,p x→RJ E ops Q rest D ((d,V x)::L) (N x++C)):
 RJ E ops Q (⟨some d,.call {callee:= .value fop,args:=xs,argTypes:=ts},ty,ps,af,g⟩::rest) D L C:=by
 unfold cF at h
 split at h
 ·rename_i hb
  split at h
  ·rename_i hf hx; cases h; exact Of (Nc hb) hf hx rfl c hC (Nz hb) k
  ·cases h
 ·cases h
/-- a box of a struct, of one cell -/
theorem er {t:TypeId} {x:Operand} {cs:List Value} (h:vF E.n ops L d g x=some (.agg cs.toArray)) (k: ∀ b,RJ E ops Q rest D ((d,.pointer (some ⟨b,0,none⟩))::L) (cm b t cs::C)):
 RJ E ops Q (⟨some d,.box t x,ty,ps,af,g⟩::rest) D L C:=by
 obtain ⟨A,B,F⟩:=jr h; exact Nb A F rfl B k
theorem vR {t:TypeId} {x:Operand} {v:Value} (h:vF E.n ops L d g x=some v) (hv:v.cells.toList=[v]) (k: ∀ b,RJ E ops Q rest D ((d,.pointer (some ⟨b,0,none⟩))::L) (cm b t [v]::C)):
 RJ E ops Q (⟨some d,.box t x,ty,ps,af,g⟩::rest) D L C:=by
 obtain ⟨A,B,F⟩:=jr h; exact Nb A F hv B k
theorem AL {t:TypeId} {cs:List Value} (h:gB E.n ops L d g=true) (hz:tZ E.P t=some cs) (k: ∀ b,RJ E ops Q rest D ((d,.pointer (some ⟨b,0,none⟩))::L) (cm b t cs::C)):
 RJ E ops Q (⟨some d,.alloc t,ty,ps,af,g⟩::rest) D L C:=LV (Nc h) hz (Nz h) k
/-- a store into the block at the place i of the state -/
def sF (ops:Array Oper) (L:di) (g:Option (Nat×Bool)) (x y:Operand):Option (Value×Value):=match j0 ops L g with
 |true=>match ev L x,ev L y with
  |some u,some v=>some (u,v)
  |_,_=>none
 |false=>none
theorem Ds {ops:Array Oper} {L:di} {g:Option (Nat×Bool)} {x y:Operand} {u v:Value} (h:sF ops L g x y=some (u,v)):j0 ops L g=true∧ev L x=some u∧ev L y=some v:=by
 unfold sF at h
 split at h
 ·rename_i hb
  split at h
  ·rename_i hx hy; cases h; exact ⟨hb,hx,hy⟩
  ·cases h
 ·cases h
theorem Qa {t n b o tt:Nat} {x y:Operand} {v:Value} {cs cs':List Value} {C':List av} (i:Nat) (h:sF ops L g x y=some (.pointer (some ⟨b,o,none⟩),v)) (ht:(tK E.P t).map (·.2)=some n) (hC:C[i]? =some (cm b tt cs))
 (hk:(v.cells.toList.length==n&&v.cells.toList.all Value.oneCell'&&Nat.ble (o+n) cs.length)=true) (hcs:cs.take o++v.cells.toList++cs.drop (o+n)=cs') (hC':C.set i (cm b tt cs')=C') (k:RJ E ops Q rest D L C'):
 RJ E ops Q (⟨none,.store t x y,ty,ps,af,g⟩::rest) D L C:=by
 obtain ⟨A,B,F⟩:=Ds h
 simp only [cW,beq_iff_eq] at hk
 exact ib i A B F ht U hk.1.1 hk.1.2 hC hk.2 hcs hC' k
/-- a store of a whole block, by a struct, by one cell -/
theorem Pt {t n b tt:Nat} {x y:Operand} {cs cs':List Value} {C':List av} (i:Nat) (h:sF ops L g x y=some (.pointer (some ⟨b,0,none⟩),.agg cs'.toArray)) (ht:(tK E.P t).map (·.2)=some n) (hC:C[i]? =some (cm b tt cs))
 (hk:(Nat.beq cs'.length n&&cs'.all Value.oneCell'&&Nat.beq n cs.length)=true) (hC':C.set i (cm b tt cs')=C') (k:RJ E ops Q rest D L C'):
 RJ E ops Q (⟨none,.store t x y,ty,ps,af,g⟩::rest) D L C:=by
 obtain ⟨AA,J,K⟩:=Ds h
 simp only [cW] at hk
 obtain ⟨⟨A,B⟩,F⟩:=hk
 have H:=Nat.eq_of_beq_eq_true A
 have G:=Nat.eq_of_beq_eq_true F
 exact ib i AA J K ht U H B hC (by rw [Nat.zero_add,G]; exact Nat.ble_self_eq_true _) (by rw [Nat.zero_add,G,List.take_zero,List.drop_length]; show []++cs'++[]=cs'; simp) hC' k
theorem Sy {t n b tt:Nat} {x y:Operand} {v u:Value} {C':List av} (i:Nat) (h:sF ops L g x y=some (.pointer (some ⟨b,0,none⟩),v)) (ht:(tK E.P t).map (·.2)=some n) (hC:C[i]? =some (cm b tt [u]))
 (hv:v.cells.toList=[v]) (hk:(Nat.beq n 1&&v.oneCell')=true) (hC':C.set i (cm b tt [v])=C') (k:RJ E ops Q rest D L C'):
 RJ E ops Q (⟨none,.store t x y,ty,ps,af,g⟩::rest) D L C:=by
 obtain ⟨G,H,AA⟩:=Ds h
 rw [cW] at hk
 obtain ⟨A,B⟩:=hk
 have F:=Nat.eq_of_beq_eq_true A
 subst F
 exact ib i G H AA ht hv U (by simp [B]) hC U U hC' k
theorem fu {t n b tt:Nat} {x y:Operand} {cs cs':List Value} (h:sF ops L g x y=some (.pointer (some ⟨b,0,none⟩),.agg cs'.toArray)) (ht:(tK E.P t).map (·.2)=some n) (hk:(Nat.beq cs'.length n&&cs'.all Value.oneCell'&&Nat.beq n cs.length)=true) (k:RJ E ops Q rest D L (cm b tt cs'::C)):RJ E ops Q (⟨none,.store t x y,ty,ps,af,g⟩::rest) D L (cm b tt cs::C):=Pt 0 h ht rfl hk rfl k
theorem MK {t n b tt:Nat} {x y:Operand} {v u:Value} (h:sF ops L g x y=some (.pointer (some ⟨b,0,none⟩),v)) (ht:(tK E.P t).map (·.2)=some n) (hv:v.cells.toList=[v]) (hk:(Nat.beq n 1&&v.oneCell')=true) (k:RJ E ops Q rest D L (cm b tt [v]::C)):RJ E ops Q (⟨none,.store t x y,ty,ps,af,g⟩::rest) D L (cm b tt [u]::C):=Sy 0 h ht rfl hv hk rfl k
theorem rL {t n b tt:Nat} {x y:Operand} {cs cs':List Value} {A0:av} (h:sF ops L g x y=some (.pointer (some ⟨b,0,none⟩),.agg cs'.toArray)) (ht:(tK E.P t).map (·.2)=some n) (hk:(Nat.beq cs'.length n&&cs'.all Value.oneCell'&&Nat.beq n cs.length)=true) (k:RJ E ops Q rest D L (A0::cm b tt cs'::C)):RJ E ops Q (⟨none,.store t x y,ty,ps,af,g⟩::rest) D L (A0::cm b tt cs::C):=Pt 1 h ht rfl hk rfl k
theorem UJ (cs':List Value) {t n b o tt:Nat} {x y:Operand} {v:Value} {cs:List Value} {A0:av} (h:sF ops L g x y=some (.pointer (some ⟨b,o,none⟩),v)) (ht:(tK E.P t).map (·.2)=some n) (hk:(v.cells.toList.length==n&&v.cells.toList.all Value.oneCell'&&Nat.ble (o+n) cs.length)=true) (hcs:cs.take o++v.cells.toList++cs.drop (o+n)=cs') (k:RJ E ops Q rest D L (A0::cm b tt cs'::C)):RJ E ops Q (⟨none,.store t x y,ty,ps,af,g⟩::rest) D L (A0::cm b tt cs::C):=Qa 1 h ht rfl hk hcs rfl k
theorem GX {t n b tt:Nat} {x y:Operand} {cs cs':List Value} {A0 A1:av} (h:sF ops L g x y=some (.pointer (some ⟨b,0,none⟩),.agg cs'.toArray)) (ht:(tK E.P t).map (·.2)=some n) (hk:(Nat.beq cs'.length n&&cs'.all Value.oneCell'&&Nat.beq n cs.length)=true) (k:RJ E ops Q rest D L (A0::A1::cm b tt cs'::C)):RJ E ops Q (⟨none,.store t x y,ty,ps,af,g⟩::rest) D L (A0::A1::cm b tt cs::C):=Pt 2 h ht rfl hk rfl k
theorem UH (cs':List Value) {t n b o tt:Nat} {x y:Operand} {v:Value} {cs:List Value} {A0 A1:av} (h:sF ops L g x y=some (.pointer (some ⟨b,o,none⟩),v)) (ht:(tK E.P t).map (·.2)=some n) (hk:(v.cells.toList.length==n&&v.cells.toList.all Value.oneCell'&&Nat.ble (o+n) cs.length)=true) (hcs:cs.take o++v.cells.toList++cs.drop (o+n)=cs') (k:RJ E ops Q rest D L (A0::A1::cm b tt cs'::C)):RJ E ops Q (⟨none,.store t x y,ty,ps,af,g⟩::rest) D L (A0::A1::cm b tt cs::C):=Qa 2 h ht rfl hk hcs rfl k
theorem Sx {t n b tt:Nat} {x y:Operand} {cs cs':List Value} {A0 A1 A2:av} (h:sF ops L g x y=some (.pointer (some ⟨b,0,none⟩),.agg cs'.toArray)) (ht:(tK E.P t).map (·.2)=some n) (hk:(Nat.beq cs'.length n&&cs'.all Value.oneCell'&&Nat.beq n cs.length)=true) (k:RJ E ops Q rest D L (A0::A1::A2::cm b tt cs'::C)):RJ E ops Q (⟨none,.store t x y,ty,ps,af,g⟩::rest) D L (A0::A1::A2::cm b tt cs::C):=Pt 3 h ht rfl hk rfl k
theorem UG {t n b tt:Nat} {x y:Operand} {v u:Value} {A0 A1 A2:av} (h:sF ops L g x y=some (.pointer (some ⟨b,0,none⟩),v)) (ht:(tK E.P t).map (·.2)=some n) (hv:v.cells.toList=[v]) (hk:(Nat.beq n 1&&v.oneCell')=true) (k:RJ E ops Q rest D L (A0::A1::A2::cm b tt [v]::C)):RJ E ops Q (⟨none,.store t x y,ty,ps,af,g⟩::rest) D L (A0::A1::A2::cm b tt [u]::C):=Sy 3 h ht rfl hv hk rfl k
theorem Rm (cs':List Value) {t n b o tt:Nat} {x y:Operand} {v:Value} {cs:List Value} {A0 A1 A2:av} (h:sF ops L g x y=some (.pointer (some ⟨b,o,none⟩),v)) (ht:(tK E.P t).map (·.2)=some n) (hk:(v.cells.toList.length==n&&v.cells.toList.all Value.oneCell'&&Nat.ble (o+n) cs.length)=true) (hcs:cs.take o++v.cells.toList++cs.drop (o+n)=cs') (k:RJ E ops Q rest D L (A0::A1::A2::cm b tt cs'::C)):RJ E ops Q (⟨none,.store t x y,ty,ps,af,g⟩::rest) D L (A0::A1::A2::cm b tt cs::C):=Qa 3 h ht rfl hk hcs rfl k
theorem QV {t n b tt:Nat} {x y:Operand} {cs cs':List Value} {A0 A1 A2 A3:av} (h:sF ops L g x y=some (.pointer (some ⟨b,0,none⟩),.agg cs'.toArray)) (ht:(tK E.P t).map (·.2)=some n) (hk:(Nat.beq cs'.length n&&cs'.all Value.oneCell'&&Nat.beq n cs.length)=true) (k:RJ E ops Q rest D L (A0::A1::A2::A3::cm b tt cs'::C)):RJ E ops Q (⟨none,.store t x y,ty,ps,af,g⟩::rest) D L (A0::A1::A2::A3::cm b tt cs::C):=Pt 4 h ht rfl hk rfl k
theorem UL {t n b tt:Nat} {x y:Operand} {v u:Value} {A0 A1 A2 A3:av} (h:sF ops L g x y=some (.pointer (some ⟨b,0,none⟩),v)) (ht:(tK E.P t).map (·.2)=some n) (hv:v.cells.toList=[v]) (hk:(Nat.beq n 1&&v.oneCell')=true) (k:RJ E ops Q rest D L (A0::A1::A2::A3::cm b tt [v]::C)):RJ E ops Q (⟨none,.store t x y,ty,ps,af,g⟩::rest) D L (A0::A1::A2::A3::cm b tt [u]::C):=Sy 4 h ht rfl hv hk rfl k
theorem ID {t n b tt:Nat} {x y:Operand} {cs cs':List Value} {A0 A1 A2 A3 A4:av} (h:sF ops L g x y=some (.pointer (some ⟨b,0,none⟩),.agg cs'.toArray)) (ht:(tK E.P t).map (·.2)=some n) (hk:(Nat.beq cs'.length n&&cs'.all Value.oneCell'&&Nat.beq n cs.length)=true) (k:RJ E ops Q rest D L (A0::A1::A2::A3::A4::cm b tt cs'::C)):RJ E ops Q (⟨none,.store t x y,ty,ps,af,g⟩::rest) D L (A0::A1::A2::A3::A4::cm b tt cs::C):=Pt 5 h ht rfl hk rfl k
theorem Sr {t n b tt:Nat} {x y:Operand} {cs cs':List Value} {A0 A1 A2 A3 A4 A5:av} (h:sF ops L g x y=some (.pointer (some ⟨b,0,none⟩),.agg cs'.toArray)) (ht:(tK E.P t).map (·.2)=some n) (hk:(Nat.beq cs'.length n&&cs'.all Value.oneCell'&&Nat.beq n cs.length)=true) (k:RJ E ops Q rest D L (A0::A1::A2::A3::A4::A5::cm b tt cs'::C)):RJ E ops Q (⟨none,.store t x y,ty,ps,af,g⟩::rest) D L (A0::A1::A2::A3::A4::A5::cm b tt cs::C):=Pt 6 h ht rfl hk rfl k
theorem UK {t n b tt:Nat} {x y:Operand} {v u:Value} {A0 A1 A2 A3 A4 A5:av} (h:sF ops L g x y=some (.pointer (some ⟨b,0,none⟩),v)) (ht:(tK E.P t).map (·.2)=some n) (hv:v.cells.toList=[v]) (hk:(Nat.beq n 1&&v.oneCell')=true) (k:RJ E ops Q rest D L (A0::A1::A2::A3::A4::A5::cm b tt [v]::C)):RJ E ops Q (⟨none,.store t x y,ty,ps,af,g⟩::rest) D L (A0::A1::A2::A3::A4::A5::cm b tt [u]::C):=Sy 6 h ht rfl hv hk rfl k
theorem TF (cs':List Value) {t n b o tt:Nat} {x y:Operand} {v:Value} {cs:List Value} {A0 A1 A2 A3 A4 A5 A6 A7 A8 A9:av} (h:sF ops L g x y=some (.pointer (some ⟨b,o,none⟩),v)) (ht:(tK E.P t).map (·.2)=some n) (hk:(v.cells.toList.length==n&&v.cells.toList.all Value.oneCell'&&Nat.ble (o+n) cs.length)=true) (hcs:cs.take o++v.cells.toList++cs.drop (o+n)=cs') (k:RJ E ops Q rest D L (A0::A1::A2::A3::A4::A5::A6::A7::A8::A9::cm b tt cs'::C)):RJ E ops Q (⟨none,.store t x y,ty,ps,af,g⟩::rest) D L (A0::A1::A2::A3::A4::A5::A6::A7::A8::A9::cm b tt cs::C):=Qa 10 h ht rfl hk hcs rfl k
theorem TC (cs':List Value) {t n b o tt:Nat} {x y:Operand} {v:Value} {cs:List Value} {A0 A1 A2 A3 A4 A5 A6 A7 A8 A9 A10:av} (h:sF ops L g x y=some (.pointer (some ⟨b,o,none⟩),v)) (ht:(tK E.P t).map (·.2)=some n) (hk:(v.cells.toList.length==n&&v.cells.toList.all Value.oneCell'&&Nat.ble (o+n) cs.length)=true) (hcs:cs.take o++v.cells.toList++cs.drop (o+n)=cs') (k:RJ E ops Q rest D L (A0::A1::A2::A3::A4::A5::A6::A7::A8::A9::A10::cm b tt cs'::C)):RJ E ops Q (⟨none,.store t x y,ty,ps,af,g⟩::rest) D L (A0::A1::A2::A3::A4::A5::A6::A7::A8::A9::A10::cm b tt cs::C):=Qa 11 h ht rfl hk hcs rfl k
end
section
variable {E:eT} {y:Code} {Q:cZ} {D:List Deferred} {L:List (Nat×Value)} {C:List av}
theorem WS {id:Nat} {ops:Array Oper} (h: ∀ K:Act→World→Prop,(∀ D L C,WJ E y Q D L C→KJ E K D L C)→RJ E ops (Exit.then K Q) ops.toList D L C):WJ E (.seq (.region id ops false) y) Q D L C:=aj fun K hK=>aq (h K hK)
theorem RK {ops:Array Oper} {K:Act→World→Prop} {Q':cZ} (hK: ∀ D L C,WJ E y Q D L C→KJ E K D L C) (k:WJ E y Q D L C):RJ E ops (Exit.then K Q') [] D L C:=aD (a7 (hK _ _ _ k))
theorem KK {K:Act→World→Prop} {Q':cZ} (hK: ∀ D L C,WJ E y Q D L C→KJ E K D L C) (k:WJ E y Q D L C):KJ E (Exit.then K Q' .normal) D L C:=a7 (hK _ _ _ k)
theorem WK {K:Act→World→Prop} {Q':cZ} (hK: ∀ D L C,WJ E y Q D L C→KJ E K D L C) (k:WJ E y Q D L C):WJ E .skip (Exit.then K Q') D L C:=cf (a7 (hK _ _ _ k))
end
theorem DT {p:Prop} [Decidable p] (h:decide p=true):p:=of_decide_eq_true h
theorem DF {p:Prop} [Decidable p] (h:decide p=false): ¬ p:=of_decide_eq_false h
theorem XT {p:Prop} [Decidable p] (h:(!decide p)=true): ¬ p:=by simpa using h
theorem XF {p:Prop} [Decidable p] (h:(!decide p)=false):p:=by simpa using h
/-- what a function hands back: one result, two, three, that lie in slots -/
theorem Q1 {E:eT} {fn:Func} {K:Act→World→Prop} {L:di} {C:List av} {t:Nat} {u v:Value} (hQ: ∀ D L C,LJ E fn (y_ E.w0 v) D L C→KJ E K D L C) (hS:E.S=sK) (hr:fn.results.toList=[.tmp t]) (hl:L.lookup t=some u) (e:u=v):KJ E K [] L C:=
 hQ _ _ _ (jI (vs:=[u]) (by rw [hr]; exact ⟨hl,trivial⟩) fun w hs=>Al e (by rw [hS] at hs; exact hs))
theorem Q2 {E:eT} {fn:Func} {K:Act→World→Prop} {L:di} {C:List av} {t s:Nat} {u x v:Value} (hQ: ∀ D L C,LJ E fn (y_ E.w0 v) D L C→KJ E K D L C) (hS:E.S=sK) (hr:fn.results.toList=[.tmp t,.tmp s]) (hl:L.lookup t=some u) (hm:L.lookup s=some x) (e:vT [u,x]=v):KJ E K [] L C:=
 hQ _ _ _ (jI (vs:=[u,x]) (by rw [hr]; exact ⟨hl,hm,trivial⟩) fun w hs=>Al e (by rw [hS] at hs; exact hs))
theorem Q3 {E:eT} {fn:Func} {K:Act→World→Prop} {L:di} {C:List av} {t s r:Nat} {u x y v:Value} (hQ: ∀ D L C,LJ E fn (y_ E.w0 v) D L C→KJ E K D L C) (hS:E.S=sK) (hr:fn.results.toList=[.tmp t,.tmp s,.tmp r]) (hl:L.lookup t=some u) (hm:L.lookup s=some x) (hn:L.lookup r=some y) (e:vT [u,x,y]=v):KJ E K [] L C:=
 hQ _ _ _ (jI (vs:=[u,x,y]) (by rw [hr]; exact ⟨hl,hm,hn,trivial⟩) fun w hs=>Al e (by rw [hS] at hs; exact hs))
theorem N1 {E:eT} {ops:Array Oper} {D:g6} {C' C1:List av} {F:di→List av→Prop} {tb rem:List Nat} {n:Nat} {L:di} {C:List av} (i:Nat)
 (h:AB E ops D C' C1 F tb n (rem.filter (· != i)) i L C) (hm:rem.filter (fun i=>rem.all fun j=> !iL (qa ops) j i)=[i]:=by kernel_rfl):TN E ops D C' C1 F tb (n+1) rem L C:=mz [i] hm (iy h pX)
theorem NO {E:eT} {ops:Array Oper} {D:g6} {C' C1:List av} {F:di→List av→Prop} {tb rem:List Nat} {n i:Nat} {L:di} {C:List av} {o:Oper} (ho:ops[i]? =some o) (ht:tb.contains i=false) (rem':List Nat)
 (h: ∀ K:Act→World→Prop,(∀ L' C'',(∀ w,St E.S E.w0 C'' w→St E.S E.w0 C' w)→TN E ops D C' C1 F tb n rem' L' C''→KJ E K D L' C'')→RJ E ops (NQ K) [o] D L C) (hr:rem=rem':=by kernel_rfl):AB E ops D C' C1 F tb n rem i L C:=SP ho hr ht h
theorem RD {E:eT} {ops:Array Oper} {K:Act→World→Prop} {D:g6} {L:di} {C C':List av} {X:di→List av→Prop} (hT: ∀ L' C'',(∀ w,St E.S E.w0 C'' w→St E.S E.w0 C' w)→X L' C''→KJ E K D L' C'')
 (k:Nat) (h2:C.drop k=C') (h:X L C):RJ E ops (NQ K) [] D L C:=aD (hT _ _ (fun w hs=>h2▸hs.take (List.drop_sublist k C)) h)
theorem bx {L L':di} (h:L'.map (fun p=>L.lookup p.1)=L'.map (fun p=>some p.2)):df L L':=by
 induction L' with
 |nil=>exact df.nil _
 |cons p t ih=>
  simp only [List.map_cons,List.cons.injEq] at h
  exact df.cons h.1 (ih h.2)
theorem NJ {C:List av} {A A' B B' D D':av} (i j k:Nat) (h1:C[i]? =some A') (e1:A'.holds=A.holds) (h2:C[j]? =some B') (e2:B'.holds=B.holds) (h3:C[k]? =some D') (e3:D'.holds=D.holds):kf C [A,B,D]:=gT i h1 e1 (gT j h2 e2 (gT k h3 e3 aM))
theorem bQ {E:eT} {c:Operand} {x y:Code} {b:Bool} {Q:cZ} {D:List Deferred} {L:List (Nat×Value)} {C:List av} (hc:ev L c=some (.bool b)) (h2:b=false→WJ E y Q D L C) (h1:b=true→WJ E x Q D L C):WJ E (.cond c x y) Q D L C:=cu hc h1 h2
theorem ck {E:eT} {ops:Array Oper} {Q:cZ} {rest:List Oper} {D:List Deferred} {L:List (Nat×Value)} {C:List av} {t:Nat} {b:Bool} (h:L.lookup t=some (.bool b)) (h2:b=false→RJ E ops Q rest D ((t,.bool false)::L) C) (h1:b=true→RJ E ops Q rest D ((t,.bool true)::L) C):RJ E ops Q rest D L C:=bU h h1 h2
theorem js {E:eT} {ops:Array Oper} {Q:cZ} {rest:List Oper} {D:List Deferred} {L:List (Nat×Value)} {C:List av} {t:Nat} {b:Bool} {os:List Oper} (h:L.lookup t=some (.bool b)) (h2:b=false→DJ E ops D C (fun L2=>RJ E ops Q rest D L2 C) os ((t,.bool false)::L)) (h1:b=true→DJ E ops D C (fun L2=>RJ E ops Q rest D L2 C) os ((t,.bool true)::L)):DJ E ops D C (fun L2=>RJ E ops Q rest D L2 C) os L:=gY h h1 h2
theorem cw {L:List (Nat×Value)}: ∀ (k:Nat) {L2:List (Nat×Value)} (q:df L (L2.drop k)) (h:(L2.take k).map (fun p=>L.lookup p.1)=(L2.take k).map (fun p=>some p.2):=by rfl),df L L2
 |0,_,q,_=>q
 |_+1,[],_,_=>df.nil _
 |k+1,p::L2,q,h=>by
  obtain ⟨A,B⟩:=List.cons.inj (show L.lookup p.1::(L2.take k).map (fun p=>L.lookup p.1)=some p.2::(L2.take k).map (fun p=>some p.2) from h)
  exact df.cons (t:=p.1) (v:=p.2) A (cw k q B)
theorem oX {E:eT} {ops:Array Oper} {Q:cZ} {rest:List Oper} {D:List Deferred} {L:List (Nat×Value)} {C:List av} {d:Nat} {ty:TypeId} {ps:String} {af:Array Edge} {g:Option (Nat×Bool)} {op:Op} (k:RJ E ops Q rest D ((d,undef)::L) C) (h:(Ce ops L g&&Nat.blt d E.n)=true:=by rfl):RJ E ops Q (⟨some d,op,ty,ps,af,g⟩::rest) D L C:=rS (OX h) k
theorem dX {E:eT} {ops:Array Oper} {F:List (Nat×Value)→Prop} {rest:List Oper} {D:List Deferred} {L:List (Nat×Value)} {C:List av} {d:Nat} {ty:TypeId} {ps:String} {af:Array Edge} {g:Option (Nat×Bool)} {op:Op} (k:DJ E ops D C F rest ((d,undef)::L)) (h:(Ce ops L g&&Nat.blt d E.n)=true:=by rfl):DJ E ops D C F (⟨some d,op,ty,ps,af,g⟩::rest) L:=dS (OX h) k
end
section
open Go.RowKit
section
variable {E:eT} {ops:Array Oper} {Q:cZ} {rest:List Oper} {D:List Deferred} {L:List (Nat×Value)} {C:List av}
variable {d:Nat} {ty:TypeId} {ps:String} {af:Array Edge} {g:Option (Nat×Bool)}
theorem Me {P:Program} {t e sz:Nat} (h:tE P t=some (e,sz)) (w:World):P.underlying t=some (.slice e)∧(sizeOf e).run P w= .ok sz w:=by
 unfold tE at h
 split at h
 ·rename_i e' hu
  split at h
  ·rename_i i hi
   cases h
   exact ⟨hu,by simp [sizeOf,typeInfo,hi]⟩
  ·cases h
 ·cases h
theorem EO {P:Program} {t e:Nat} (h:P.underlying t=some (.slice e)):P.underlying t=some (.slice (P.elem t)):=by
 rw [h]; simp [Program.elem,h]
theorem LC {P:Program} {t e:Nat} (h:P.underlying t=some (.slice e)):P.elem t=e:=by simp [Program.elem,h]
/-- s[:k] -/
theorem UO (k:Nat) {x hi:Operand} {t e sz n c:Nat} {A:OA} {j:Int} (h:bF E.n ops L d g x hi=some (.slice A n c,.int .i64 j)) (ht:tE E.P t=some (e,sz)) (hj:j=(k:Int)) (hk:k≤c):
 SE E ops ⟨some d,.slice t x none (some hi) none,ty,ps,af,g⟩ D L C (.slice A k c) d:=by
 obtain ⟨H,AA,J,K⟩:=uy h
 subst hj
 refine ⟨eE H sm fun a w B hs=>?_,U,AA⟩
 obtain ⟨hu,hz⟩:=Me ht w
 have hr:=run_slice_h (P:=E.P) w t A n c (EO hu) .i64 (k:Int) om om
 rw [LC hu,hz] at hr
 have G:(if c=0 then A else A.map (·.add (0*sz)))=A:=by
  split
  ·rfl
  ·cases A with
   |none=>rfl
   |some ad=>simp [Addr.add]
 simp only [Result.andThen,Int.toNat_natCast,sliced,G,Nat.sub_zero] at hr
 have F:=run_sliceAt_slice (P:=E.P) w t (.slice A n c) none (some (.int .i64 (k:Int))) none (EO hu)
 simp [execOp,B.ev J,B.ev K,F,hr]
end
end
section
open Go.RowKit
/-- an array's length, its elements' type and their size -/
def aE (P:Program) (t:TypeId):Option (Nat×TypeId×Nat):=
 match P.underlying t with
 |some (.array n e)=>match P.info? e with
  |some i=>some (n,e,i.size)
  |none=>none
 |_=>none
theorem D2 {P:Program} {t n e sz:Nat} (h:aE P t=some (n,e,sz)) (w:World):P.underlying t=some (.array n e)∧(sizeOf e).run P w= .ok sz w:=by
 unfold aE at h
 split at h
 ·rename_i n' e' hu
  split at h
  ·rename_i i hi
   cases h
   exact ⟨hu,by simp [sizeOf,typeInfo,hi]⟩
  ·cases h
 ·cases h
theorem vz {P:Program} {t n e sz:Nat} (h:aE P t=some (n,e,sz)) (a:Addr) (w:World):
 (Instr.sliceAt t (.pointer (some a)) none none none).run P w= .ok (.slice (some a) n n) w:=by
 obtain ⟨hu,hz⟩:=D2 h w
 have A:a.add 0=a:=by simp [Addr.add]
 simp [Instr.sliceAt,underlying,hu,Instr.sureAddr,Instr.sliceBounds,hz,A]
theorem vw {P:Program} {t n e sz:Nat} (h:aE P t=some (n,e,sz)) (a:Addr) {k:Nat} (hk:k<n) (w:World):
 (Instr.indexAt t (.pointer (some a)) (.int .i64 (k:Int))).run P w= .ok (.pointer (some (a.add (k*sz)))) w:=by
 obtain ⟨hu,hz⟩:=D2 h w
 have A: ¬ n≤k:=by omega
 simp [Instr.indexAt,underlying,hu,Instr.sureAddr,asIntOf,hz,A]
 try exact fun h=>absurd h A
 try omega
section
variable {E:eT} {ops:Array Oper} {Q:cZ} {rest:List Oper} {D:List Deferred} {L:List (Nat×Value)} {C:List av}
variable {dst:Option Nat} {ty:TypeId} {ps:String} {af:Array Edge} {g:Option (Nat×Bool)}
theorem CP {x:Operand} {a:Addr} {t n e sz:Nat} (hg:j0 ops L g=true) (hx:ev L x=some (.pointer (some a))) (ht:aE E.P t=some (n,e,sz)):
 SD E ops ⟨dst,.slice t x none none none,ty,ps,af,g⟩ D L C (.slice (some a) n n):=
 eE hg sm fun b w A hs=>by
  simp [execOp,A.ev hx,vz ht]
theorem CW {x ix:Operand} {a:Addr} {t n e sz k:Nat} {j:Int} (hg:j0 ops L g=true) (hx:ev L x=some (.pointer (some a))) (hi:ev L ix=some (.int .i64 j)) (ht:aE E.P t=some (n,e,sz)) (hj:j=(k:Int)) (hk:k<n):
 SD E ops ⟨dst,.indexAddr t x ix,ty,ps,af,g⟩ D L C (.pointer (qm (some a) (k*sz))):=
 eE hg sm fun b w A hs=>by
  subst hj
  simp [execOp,A.ev hx,A.ev hi,qm,vw ht a hk]
end
end
section
open Go.RowKit
/-- a table of facts on the program's types -/
structure Cl where
 tk:List (Nat×Bool×Nat)
 fo:List (Nat×List (Option Nat))
 sl:List Nat
def PM {α:Type}:List (Nat×α)→Nat→Option α
 |[],_=>none
 |(k,v)::l,t=>match Nat.beq k t with
  |true=>some v
  |false=>PM l t
theorem zP {α:Type}: ∀ {l:List (Nat×α)} {t:Nat} {v:α},PM l t=some v→(t,v)∈l
 |[],t,v,h=>by simp [PM] at h
 |(k,u)::l,t,v,h=>by
  unfold PM at h
  split at h
  ·rename_i hb
   cases h
   rw [Nat.eq_of_beq_eq_true hb]; exact ct
  ·exact dJ _ (zP h)
def Ku:List Nat→Nat→Bool
 |[],_=>false
 |k::l,t=>match Nat.beq k t with
  |true=>true
  |false=>Ku l t
theorem Bl: ∀ {l:List Nat} {t:Nat},Ku l t=true→t∈l
 |[],t,h=>by simp [Ku] at h
 |k::l,t,h=>by
  unfold Ku at h
  split at h
  ·rename_i hb
   rw [Nat.eq_of_beq_eq_true hb]; exact ct
  ·exact dJ _ (Bl h)
def Cl.Kn (T:Cl) (t:Nat):Option (Bool×Nat):=PM T.tk t
def Cl.foF (T:Cl) (s f:Nat):Option Nat:=match PM T.fo s with
 |some l=>match l[f]? with
  |some (some k)=>some k
  |_=>none
 |none=>none
structure k6 (P:Program) (T:Cl):Prop where
 tk: ∀ p∈T.tk,tK P p.1=some p.2
 fo: ∀ p∈T.fo,∀ f k,p.2[f]? =some (some k)→vJ P p.1 f=some k
 sl: ∀ t∈T.sl,∃ e,P.underlying t=some (.slice e)
theorem k6.Kn {P:Program} {T:Cl} (h:k6 P T) {t:Nat} {r:Bool×Nat} (e:T.Kn t=some r):tK P t=some r:=h.tk _ (zP e)
theorem k6.foF {P:Program} {T:Cl} (h:k6 P T) {s f k:Nat} (e:T.foF s f=some k):vJ P s f=some k:=by
 unfold Cl.foF at e
 split at e
 ·rename_i l hl
  split at e
  ·rename_i k' hk
   cases e
   exact h.fo _ (zP hl) f k hk
  ·cases e
 ·cases e
def Sn (P:Program) (T:Cl):Bool:=(T.tk.all fun p=>decide (tK P p.1=some p.2))&&(T.fo.all fun p=>(List.range p.2.length).all fun f=>match p.2[f]? with
 |some (some k)=>decide (vJ P p.1 f=some k)
 |_=>true)&&T.sl.all fun t=>match P.underlying t with
 |some (.slice _)=>true
 |_=>false
theorem NI {P:Program} {T:Cl} (h:Sn P T=true):k6 P T:=by
 unfold Sn at h
 rw [cW,cW] at h
 obtain ⟨⟨B,C⟩,D⟩:=h
 refine ⟨fun p hp=>by simpa using cT.1 B p hp,fun p hp f k hk=>?_,fun t ht=>?_⟩
 ·have A:=cT.1 (cT.1 C p hp) f (List.mem_range.2 (aW.1 hk).1)
  rw [hk] at A
  simpa using A
 ·have A:=cT.1 D t ht
  split at A
  ·rename_i e he; exact ⟨e,he⟩
  ·cases A
end
section
theorem DK:tK Tryz.prog 3=some (false,1):=by kernel_rfl
theorem UD:tK Tryz.prog 5=some (false,1):=by kernel_rfl
theorem Ul:tK Tryz.prog 28=some (true,7):=by kernel_rfl
theorem TE:tK Tryz.prog 29=some (false,1):=by kernel_rfl
theorem SJ:tK Tryz.prog 36=some (true,15):=by kernel_rfl
theorem Tg:tK Tryz.prog 42=some (false,1):=by kernel_rfl
theorem S_:tK Tryz.prog 47=some (true,5):=by kernel_rfl
theorem Uq:tK Tryz.prog 53=some (true,2):=by kernel_rfl
theorem Tk:tK Tryz.prog 56=some (true,3):=by kernel_rfl
theorem Ts:tK Tryz.prog 58=some (true,7):=by kernel_rfl
theorem Tm:tK Tryz.prog 73=some (true,2):=by kernel_rfl
theorem TO:tK Tryz.prog 75=some (true,3):=by kernel_rfl
theorem SV:tK Tryz.prog 78=some (true,2):=by kernel_rfl
theorem TQ:tK Tryz.prog 80=some (true,4):=by kernel_rfl
theorem Ti:tK Tryz.prog 93=some (true,15):=by kernel_rfl
theorem QG:tK Tryz.prog 118=some (true,9):=by kernel_rfl
theorem PO:tK Tryz.prog 120=some (true,3):=by kernel_rfl
theorem QA:tK Tryz.prog 132=some (true,2):=by kernel_rfl
theorem Rg:tK Tryz.prog 133=some (true,8):=by kernel_rfl
theorem Qi:tK Tryz.prog 137=some (true,4):=by kernel_rfl
theorem RQ:tK Tryz.prog 148=some (false,1):=by kernel_rfl
theorem Rk:tK Tryz.prog 153=some (false,1):=by kernel_rfl
theorem Qz:tK Tryz.prog 156=some (false,1):=by kernel_rfl
theorem Q_:tK Tryz.prog 158=some (true,2):=by kernel_rfl
theorem QO:tK Tryz.prog 163=some (false,1):=by kernel_rfl
theorem Qt:tK Tryz.prog 175=some (true,1):=by kernel_rfl
theorem Sa:tK Tryz.prog 176=some (true,4):=by kernel_rfl
theorem PY:tK Tryz.prog 196=some (true,1):=by kernel_rfl
theorem Sd:tK Tryz.prog 204=some (false,1):=by kernel_rfl
theorem P3:tK Tryz.prog 250=some (false,1):=by kernel_rfl
theorem Rd:tK Tryz.prog 252=some (true,3):=by kernel_rfl
theorem ER:(tK Tryz.prog 3).map (·.2)=some 1:=by rw [DK]; rfl
theorem TW:(tK Tryz.prog 28).map (·.2)=some 7:=by rw [Ul]; rfl
theorem KV:(tK Tryz.prog 29).map (·.2)=some 1:=by rw [TE]; rfl
theorem S3:(tK Tryz.prog 36).map (·.2)=some 15:=by rw [SJ]; rfl
theorem Tb:(tK Tryz.prog 42).map (·.2)=some 1:=by rw [Tg]; rfl
theorem LD:(tK Tryz.prog 47).map (·.2)=some 5:=by rw [S_]; rfl
theorem cS:(tK Tryz.prog 53).map (·.2)=some 2:=by rw [Uq]; rfl
theorem S0:(tK Tryz.prog 56).map (·.2)=some 3:=by rw [Tk]; rfl
theorem Cv:(tK Tryz.prog 58).map (·.2)=some 7:=by rw [Ts]; rfl
theorem PU:(tK Tryz.prog 73).map (·.2)=some 2:=by rw [Tm]; rfl
theorem yY:(tK Tryz.prog 75).map (·.2)=some 3:=by rw [TO]; rfl
theorem uT:(tK Tryz.prog 78).map (·.2)=some 2:=by rw [SV]; rfl
theorem P7:(tK Tryz.prog 80).map (·.2)=some 4:=by rw [TQ]; rfl
theorem Fl:(tK Tryz.prog 93).map (·.2)=some 15:=by rw [Ti]; rfl
theorem Il:(tK Tryz.prog 118).map (·.2)=some 9:=by rw [QG]; rfl
theorem Nf:(tK Tryz.prog 120).map (·.2)=some 3:=by rw [PO]; rfl
theorem IK:(tK Tryz.prog 132).map (·.2)=some 2:=by rw [QA]; rfl
theorem RT:(tK Tryz.prog 133).map (·.2)=some 8:=by rw [Rg]; rfl
theorem mg:(tK Tryz.prog 137).map (·.2)=some 4:=by rw [Qi]; rfl
theorem yM:(tK Tryz.prog 148).map (·.2)=some 1:=by rw [RQ]; rfl
theorem Ea:(tK Tryz.prog 153).map (·.2)=some 1:=by rw [Rk]; rfl
theorem Ie:(tK Tryz.prog 156).map (·.2)=some 1:=by rw [Qz]; rfl
theorem rN:(tK Tryz.prog 158).map (·.2)=some 2:=by rw [Q_]; rfl
theorem Rb:(tK Tryz.prog 163).map (·.2)=some 1:=by rw [QO]; rfl
theorem EN:(tK Tryz.prog 175).map (·.2)=some 1:=by rw [Qt]; rfl
theorem Rx:(tK Tryz.prog 176).map (·.2)=some 4:=by rw [Sa]; rfl
theorem Kk:(tK Tryz.prog 196).map (·.2)=some 1:=by rw [PY]; rfl
theorem Ry:(tK Tryz.prog 204).map (·.2)=some 1:=by rw [Sd]; rfl
theorem QJ:(tK Tryz.prog 250).map (·.2)=some 1:=by rw [P3]; rfl
theorem Si:(tK Tryz.prog 252).map (·.2)=some 3:=by rw [Rd]; rfl
theorem yI:aE Tryz.prog 232=some (3,231,2):=by kernel_rfl
theorem ky (l:List ag): ∀ v∈(l.map ag.cells).flatten,v.oneCell'=true:=tJ (fun _=>rfl) l
theorem ub:tA Tryz.prog 29=some (3,1,8,(vI 0)):=by kernel_rfl
theorem SZ:tA Tryz.prog 42=some (29,1,24,(vS none 0 0)):=by kernel_rfl
theorem Ni:tA Tryz.prog 147=some (153,1,8,(Value.map none)):=by kernel_rfl
theorem B2:tA Tryz.prog 148=some (156,1,8,(Value.map none)):=by kernel_rfl
theorem MW:tA Tryz.prog 163=some (204,1,24,(vS none 0 0)):=by kernel_rfl
theorem Ex:tA Tryz.prog 204=some (53,2,16,(Value.agg [(vI 0),(vI 0)].toArray)):=by kernel_rfl
theorem MZ:tA Tryz.prog 238=some (255,3,72,(Value.agg [(vS none 0 0),(vS none 0 0),(vS none 0 0)].toArray)):=by kernel_rfl
theorem R_:tA Tryz.prog 250=some (4,1,1,(vB false)):=by kernel_rfl
theorem Tx:tB Tryz.prog 24=some ([(vS none 0 0)],[(0,1)]):=by kernel_rfl
theorem Ud:tB Tryz.prog 28=some ([(vS none 0 0),(vI 0),(vS none 0 0),(vS none 0 0),(vI 0),(vI 0),(vI 0)],[(0,1),(1,1),(2,1),(3,1),(4,1),(5,1),(6,1)]):=by kernel_rfl
theorem TK:tB Tryz.prog 32=some ([(vS none 0 0),(vI 0),(vS none 0 0),(vS none 0 0),(vI 0),(vI 0),(vI 0),(vS none 0 0),(vS none 0 0),(vI 0),(vS none 0 0)],[(0,7),(7,1),(8,1),(9,1),(10,1)]):=by kernel_rfl
theorem Uc:tB Tryz.prog 36=some ([(vS none 0 0),(vI 0),(vS none 0 0),(vS none 0 0),(vI 0),(vI 0),(vI 0),(vS none 0 0),(vS none 0 0),(vI 0),(vS none 0 0),(vS none 0 0),(vS none 0 0),(vI 0),(vI 0)],[(0,11),(11,1),(12,1),(13,1),(14,1)]):=by kernel_rfl
theorem Ot:tB Tryz.prog 47=some ([(vI 0),(vI 0),(vI 0),(vI 0),(vI 0)],[(0,1),(1,1),(2,1),(3,1),(4,1)]):=by kernel_rfl
theorem gM:tB Tryz.prog 53=some ([(vI 0),(vI 0)],[(0,1),(1,1)]):=by kernel_rfl
theorem Uj:tB Tryz.prog 56=some ([(vI 0),(vI 0),(vS none 0 0)],[(0,1),(1,1),(2,1)]):=by kernel_rfl
theorem Rv:tB Tryz.prog 58=some ([(vB false),(vB false),(vI 0),(vI 0),(vI 0),(vI 0),(vS none 0 0)],[(0,1),(1,1),(2,2),(4,3)]):=by kernel_rfl
theorem T3:tB Tryz.prog 73=some ([(vI 0),(vS none 0 0)],[(0,1),(1,1)]):=by kernel_rfl
theorem Q7:tB Tryz.prog 75=some ([(vI 0),(vI 0),(vI 0)],[(0,1),(1,2)]):=by kernel_rfl
theorem Hy:tB Tryz.prog 78=some ([(vI 0),(vI 0)],[(0,1),(1,1)]):=by kernel_rfl
theorem Mw:tB Tryz.prog 80=some ([(Value.int .u8 0),(vI 0),(vI 0),(vI 0)],[(0,1),(1,1),(2,1),(3,1)]):=by kernel_rfl
theorem Tl:tB Tryz.prog 93=some ([(vS none 0 0),(vI 0),(vS none 0 0),(vS none 0 0),(vI 0),(vI 0),(vI 0),(vS none 0 0),(vS none 0 0),(vI 0),(vS none 0 0),(vS none 0 0),(vS none 0 0),(vI 0),(vI 0)],[(0,15)]):=by kernel_rfl
theorem P9:tB Tryz.prog 118=some ([(vI 0),(vI 0),(vI 0),(vI 0),(vI 0),(vI 0),(vI 0),(Value.int .u8 0),(vI 0)],[(0,1),(1,2),(3,2),(5,2),(7,1),(8,1)]):=by kernel_rfl
theorem Hg:tB Tryz.prog 120=some ([(vI 0),(vI 0),(vI 0)],[(0,1),(1,2)]):=by kernel_rfl
theorem Jp:tB Tryz.prog 122=some ([(vI 0),(vI 0),(vI 0),(vI 0)],[(0,3),(3,1)]):=by kernel_rfl
theorem IB:tB Tryz.prog 132=some ([Value.nilFunc,Value.nilFunc],[(0,1),(1,1)]):=by kernel_rfl
theorem Qo:tB Tryz.prog 133=some ([Value.nilFunc,Value.nilFunc,Value.nilFunc,Value.nilFunc,Value.nilFunc,Value.nilFunc,Value.nilFunc,Value.nilFunc],[(0,2),(2,2),(4,2),(6,2)]):=by kernel_rfl
theorem En:tB Tryz.prog 137=some ([(vI 0),(vI 0),(vB false),(vB false)],[(0,2),(2,1),(3,1)]):=by kernel_rfl
theorem Ng:tB Tryz.prog 150=some ([(vS none 0 0),(vI 0),(vS none 0 0),(vS none 0 0),(vI 0),(vI 0),(vI 0),(vI 0),(vI 0),(vS none 0 0),(vS none 0 0),(vS none 0 0),(vS none 0 0),(vS none 0 0)],[(0,7),(7,3),(10,1),(11,1),(12,1),(13,1)]):=by kernel_rfl
theorem AQ:tB Tryz.prog 158=some ([(vI 0),(vI 0)],[(0,1),(1,1)]):=by kernel_rfl
theorem D0:tB Tryz.prog 175=some ([Value.nilFunc],[(0,1)]):=by kernel_rfl
theorem QD:tB Tryz.prog 176=some ([Value.nilFunc,Value.nilFunc,Value.nilFunc,Value.nilFunc],[(0,1),(1,1),(2,1),(3,1)]):=by kernel_rfl
theorem PZ:tB Tryz.prog 196=some ([(vS none 0 0)],[(0,1)]):=by kernel_rfl
theorem P1:tB Tryz.prog 212=some ([(vS none 0 0),(vI 0),(vS none 0 0),(vS none 0 0),(vI 0),(vI 0),(vI 0),(vS none 0 0),(vS none 0 0),(vI 0),(vS none 0 0),(vS none 0 0),(Value.map none)],[(0,11),(11,1),(12,1)]):=by kernel_rfl
theorem QH:tB Tryz.prog 255=some ([(vS none 0 0),(vS none 0 0),(vS none 0 0)],[(0,1),(1,1),(2,1)]):=by kernel_rfl
theorem zJ:tE Tryz.prog 22=some (118,9):=by kernel_rfl
theorem F0:tE Tryz.prog 25=some (73,2):=by kernel_rfl
theorem xH:tE Tryz.prog 26=some (122,4):=by kernel_rfl
theorem dp:tE Tryz.prog 29=some (3,1):=by kernel_rfl
theorem rK:tE Tryz.prog 30=some (51,1):=by kernel_rfl
theorem Ar:tE Tryz.prog 33=some (80,4):=by kernel_rfl
theorem BH:tE Tryz.prog 34=some (47,5):=by kernel_rfl
theorem DE:tE Tryz.prog 42=some (29,1):=by kernel_rfl
theorem s8:tE Tryz.prog 51=some (58,7):=by kernel_rfl
theorem zU:tE Tryz.prog 54=some (78,2):=by kernel_rfl
theorem x3:tE Tryz.prog 71=some (75,3):=by kernel_rfl
theorem M9:tE Tryz.prog 145=some (111,1):=by kernel_rfl
theorem wJ:tE Tryz.prog 147=some (153,1):=by kernel_rfl
theorem oc:tE Tryz.prog 148=some (156,1):=by kernel_rfl
theorem Hv:tE Tryz.prog 163=some (204,1):=by kernel_rfl
theorem kS:tE Tryz.prog 204=some (53,2):=by kernel_rfl
theorem He:tE Tryz.prog 216=some (120,3):=by kernel_rfl
theorem JB:tE Tryz.prog 229=some (231,2):=by kernel_rfl
theorem Ei:tE Tryz.prog 238=some (255,3):=by kernel_rfl
theorem Nr:tE Tryz.prog 250=some (4,1):=by kernel_rfl
theorem Iu:(match Tryz.prog.underlying 53 with |some (.struct fs)=>(fs[0]?).map (fun fl=>tK Tryz.prog fl.type)|_=>none)=some (some (false,1)):=by kernel_rfl
theorem JV:(match Tryz.prog.underlying 53 with |some (.struct fs)=>(fs[1]?).map (fun fl=>tK Tryz.prog fl.type)|_=>none)=some (some (false,1)):=by kernel_rfl
theorem Uu:tV Tryz.prog 3=some (vI 0):=by kernel_rfl
theorem Su:tV Tryz.prog 4=some (vB false):=by kernel_rfl
theorem Tz:tV Tryz.prog 53=some (Value.agg [(vI 0),(vI 0)].toArray):=by kernel_rfl
theorem IG:tX Tryz.prog 133=some (4,132):=by kernel_rfl
theorem ED:tX Tryz.prog 176=some (4,175):=by kernel_rfl
theorem j5:tZ Tryz.prog 3=some [(vI 0)]:=by kernel_rfl
theorem UP:tZ Tryz.prog 4=some [(vB false)]:=by kernel_rfl
theorem Uo:tZ Tryz.prog 28=some [(vS none 0 0),(vI 0),(vS none 0 0),(vS none 0 0),(vI 0),(vI 0),(vI 0)]:=by kernel_rfl
theorem PX:tZ Tryz.prog 29=some [(vS none 0 0)]:=by kernel_rfl
theorem TY:tZ Tryz.prog 36=some [(vS none 0 0),(vI 0),(vS none 0 0),(vS none 0 0),(vI 0),(vI 0),(vI 0),(vS none 0 0),(vS none 0 0),(vI 0),(vS none 0 0),(vS none 0 0),(vS none 0 0),(vI 0),(vI 0)]:=by kernel_rfl
theorem HJ:tZ Tryz.prog 47=some [(vI 0),(vI 0),(vI 0),(vI 0),(vI 0)]:=by kernel_rfl
theorem SC:tZ Tryz.prog 51=some [(vS none 0 0)]:=by kernel_rfl
theorem dN:tZ Tryz.prog 53=some [(vI 0),(vI 0)]:=by kernel_rfl
theorem SB:tZ Tryz.prog 56=some [(vI 0),(vI 0),(vS none 0 0)]:=by kernel_rfl
theorem zS:tZ Tryz.prog 58=some [(vB false),(vB false),(vI 0),(vI 0),(vI 0),(vI 0),(vS none 0 0)]:=by kernel_rfl
theorem O0:tZ Tryz.prog 73=some [(vI 0),(vS none 0 0)]:=by kernel_rfl
theorem x4:tZ Tryz.prog 75=some [(vI 0),(vI 0),(vI 0)]:=by kernel_rfl
theorem FW:tZ Tryz.prog 78=some [(vI 0),(vI 0)]:=by kernel_rfl
theorem NX:tZ Tryz.prog 80=some [(Value.int .u8 0),(vI 0),(vI 0),(vI 0)]:=by kernel_rfl
theorem Ff:tZ Tryz.prog 93=some [(vS none 0 0),(vI 0),(vS none 0 0),(vS none 0 0),(vI 0),(vI 0),(vI 0),(vS none 0 0),(vS none 0 0),(vI 0),(vS none 0 0),(vS none 0 0),(vS none 0 0),(vI 0),(vI 0)]:=by kernel_rfl
theorem RU:tZ Tryz.prog 111=some [Value.nilFunc]:=by kernel_rfl
theorem Ek:tZ Tryz.prog 118=some [(vI 0),(vI 0),(vI 0),(vI 0),(vI 0),(vI 0),(vI 0),(Value.int .u8 0),(vI 0)]:=by kernel_rfl
theorem EW:tZ Tryz.prog 120=some [(vI 0),(vI 0),(vI 0)]:=by kernel_rfl
theorem Qd:tZ Tryz.prog 122=some [(vI 0),(vI 0),(vI 0),(vI 0)]:=by kernel_rfl
theorem Km:tZ Tryz.prog 132=some [Value.nilFunc,Value.nilFunc]:=by kernel_rfl
theorem RL:tZ Tryz.prog 133=some [Value.nilFunc,Value.nilFunc,Value.nilFunc,Value.nilFunc,Value.nilFunc,Value.nilFunc,Value.nilFunc,Value.nilFunc]:=by kernel_rfl
theorem oa:tZ Tryz.prog 137=some [(vI 0),(vI 0),(vB false),(vB false)]:=by kernel_rfl
theorem QF:tZ Tryz.prog 153=some [(Value.map none)]:=by kernel_rfl
theorem tM:tZ Tryz.prog 158=some [(vI 0),(vI 0)]:=by kernel_rfl
theorem EI:tZ Tryz.prog 175=some [Value.nilFunc]:=by kernel_rfl
theorem Rc:tZ Tryz.prog 176=some [Value.nilFunc,Value.nilFunc,Value.nilFunc,Value.nilFunc]:=by kernel_rfl
theorem JX:tZ Tryz.prog 196=some [(vS none 0 0)]:=by kernel_rfl
theorem Nx:tZ Tryz.prog 204=some [(vS none 0 0)]:=by kernel_rfl
theorem MS:tZ Tryz.prog 252=some [(vS none 0 0),(vS none 0 0),(vS none 0 0)]:=by kernel_rfl
theorem Q5:tZ Tryz.prog 255=some [(vS none 0 0),(vS none 0 0),(vS none 0 0)]:=by kernel_rfl
theorem rM:Tryz.prog.underlying 3=some (.int .i64):=by kernel_rfl
theorem P_:Tryz.prog.underlying 4=some .bool:=by kernel_rfl
theorem OI:Tryz.prog.underlying 5=some (.int .u8):=by kernel_rfl
theorem UF:Tryz.prog.underlying 9=some .string:=by kernel_rfl
theorem Ri:Tryz.prog.underlying 22=some (.slice 118):=by kernel_rfl
theorem TB:Tryz.prog.underlying 25=some (.slice 73):=by kernel_rfl
theorem OJ:Tryz.prog.underlying 26=some (.slice 122):=by kernel_rfl
theorem TV:Tryz.prog.underlying 29=some (.slice 3):=by kernel_rfl
theorem SU:Tryz.prog.underlying 30=some (.slice 51):=by kernel_rfl
theorem Um:Tryz.prog.underlying 33=some (.slice 80):=by kernel_rfl
theorem SI:Tryz.prog.underlying 34=some (.slice 47):=by kernel_rfl
theorem Av:Tryz.prog.underlying 45=some (.map 3 4):=by kernel_rfl
theorem TH:Tryz.prog.underlying 51=some (.slice 58):=by kernel_rfl
theorem S7:Tryz.prog.underlying 54=some (.slice 78):=by kernel_rfl
theorem Ui:Tryz.prog.underlying 71=some (.slice 75):=by kernel_rfl
theorem rO:Tryz.prog.underlying 153=some (.map 3 53):=by kernel_rfl
theorem oV:Tryz.prog.underlying 156=some (.map 158 3):=by kernel_rfl
theorem Qy:Tryz.prog.underlying 245=some (.int .u64):=by kernel_rfl
theorem Qj:Tryz.prog.underlying 266=some (.int .u64):=by kernel_rfl
theorem Pj:fL Tryz.prog 53=some [(3,0),(3,1)]:=by kernel_rfl
theorem Ns (d:Nat) (s z:ag) (w:World):(Op.equalIn (d+2) 53 (.agg s.cells.toArray) (.agg z.cells.toArray)).run Tryz.prog w= .ok (decide (s=z)) w:=by
 have hc:(decide (s.Lo=z.Lo)&&(decide (s.Hi=z.Hi)&&true))=decide (s=z):=by rw [Bool.eq_iff_iff]; simp [ag.ext_iff]
 rw [← hc]
 exact sv (d+1) Pj w (mm w (gK DK U w) (gK DK U w) (nQ _ rM w) (mm w (gK DK U w) (gK DK U w) (nQ _ rM w) (zf w)))
theorem xy (x y:Operand) (s z:ag):iA Tryz.prog .eql 53 x y (.agg s.cells.toArray) (.agg z.cells.toArray) (.bool (decide (s=z))):=yj x y (we Pj) fun w=>Ns 9998 s z w
theorem RG (x y:Operand) (s z:ag):iA Tryz.prog .neq 53 x y (.agg s.cells.toArray) (.agg z.cells.toArray) (.bool (!decide (s=z))):=Fa x y (we Pj) fun w=>Ns 9998 s z w
theorem Nj:fL Tryz.prog 158=some [(3,0),(3,1)]:=by kernel_rfl
theorem NH (d:Nat) (s z:aC) (w:World):(Op.equalIn (d+2) 158 (.agg s.cells.toArray) (.agg z.cells.toArray)).run Tryz.prog w= .ok (decide (s=z)) w:=by
 have hc:(decide (s.right=z.right)&&(decide (s.eG=z.eG)&&true))=decide (s=z):=by rw [Bool.eq_iff_iff]; simp [aC.ext_iff]
 rw [← hc]
 exact sv (d+1) Nj w (mm w (gK DK U w) (gK DK U w) (nQ _ rM w) (mm w (gK DK U w) (gK DK U w) (nQ _ rM w) (zf w)))
theorem Q0:fL Tryz.prog 80=some [(5,0),(3,1),(3,2),(3,3)]:=by kernel_rfl
theorem Qf (d:Nat) (s z:aS) (w:World):(Op.equalIn (d+2) 80 (.agg s.cells.toArray) (.agg z.cells.toArray)).run Tryz.prog w= .ok (decide (s=z)) w:=by
 have hc:(decide (s.Kind=z.Kind)&&(decide (s.g9=z.g9)&&(decide (s.l_=z.l_)&&(decide (s.To=z.To)&&true))))=decide (s=z):=by rw [Bool.eq_iff_iff]; simp [aS.ext_iff]
 rw [← hc]
 exact sv (d+1) Q0 w (mm w (gK UD U w) (gK UD U w) (nQ _ OI w) (mm w (gK DK U w) (gK DK U w) (nQ _ rM w) (mm w (gK DK U w) (gK DK U w) (nQ _ rM w) (mm w (gK DK U w) (gK DK U w) (nQ _ rM w) (zf w)))))
theorem QY (x y:Operand) (s z:aS):iA Tryz.prog .eql 80 x y (.agg s.cells.toArray) (.agg z.cells.toArray) (.bool (decide (s=z))):=yj x y (we Q0) fun w=>Qf 9998 s z w
theorem cp:Tryz.prog.follows .mixedOrders=true:=by kernel_rfl
def TT:Cl:=⟨[(1,false,1),(2,false,1),(3,false,1),(4,false,1),(5,false,1),(6,false,1),(7,true,4),(8,true,4),(12,false,1),(15,false,1),(16,false,1),(17,false,1),(18,true,1),(19,true,1),(21,false,1),(22,false,1),(23,true,1),(24,true,1),(25,false,1),(26,false,1),(27,true,7),(28,true,7),(29,false,1),(30,false,1),(31,true,11),(32,true,11),(33,false,1),(34,false,1),(35,true,15),(36,true,15),(37,false,1),(38,false,1),(39,false,1),(41,false,1),(42,false,1),(44,false,1),(45,false,1),(46,true,5),(47,true,5),(49,false,1),(50,false,1),(51,false,1),(52,true,2),(53,true,2),(54,false,1),(55,true,3),(56,true,3),(57,true,7),(58,true,7),(59,false,1),(61,false,1),(63,false,1),(64,false,1),(65,false,1),(66,false,1),(67,false,1),(68,false,1),(69,false,1),(70,false,1),(71,false,1),(72,true,2),(73,true,2),(74,true,3),(75,true,3),(76,false,1),(77,true,2),(78,true,2),(79,true,4),(80,true,4),(81,false,1),(82,false,1),(83,false,1),(85,false,1),(86,false,1),(87,false,1),(88,false,1),(89,false,1),(90,false,1),(91,false,1),(92,true,15),(93,true,15),(95,false,1),(96,false,1),(97,false,1),(98,false,1),(99,false,1),(100,false,1),(101,false,1),(102,false,1),(103,false,1),(104,false,1),(105,false,1),(106,false,1),(107,false,1),(108,false,1),(110,false,1),(111,false,1),(112,false,1),(113,false,1),(114,false,1),(115,false,1),(116,false,1),(117,true,9),(118,true,9),(119,true,3),(120,true,3),(121,true,4),(122,true,4),(123,false,1),(124,false,1),(125,false,1),(126,false,1),(127,false,1),(128,false,1),(129,false,1),(130,false,1),(131,true,2),(132,true,2),(133,true,8),(134,false,1),(136,true,4),(137,true,4),(138,false,1),(139,false,1),(140,false,1),(141,false,1),(142,false,1),(143,false,1),(144,false,1),(145,false,1),(146,false,1),(147,false,1),(148,false,1),(149,true,14),(150,true,14),(151,false,1),(152,false,1),(153,false,1),(154,false,1),(155,false,1),(156,false,1),(157,true,2),(158,true,2),(159,false,1),(160,false,1),(161,false,1),(162,false,1),(163,false,1),(165,false,1),(166,false,1),(167,false,1),(168,false,1),(169,false,1),(170,false,1),(171,false,1),(172,false,1),(173,false,1),(174,false,1),(175,true,1),(176,true,4),(177,false,1),(178,false,1),(179,false,1),(180,false,1),(181,false,1),(183,false,1),(184,false,1),(186,false,1),(187,false,1),(189,false,1),(190,false,1),(191,false,1),(192,false,1),(193,false,1),(194,false,1),(195,true,1),(196,true,1),(198,false,1),(199,false,1),(201,false,1),(202,false,1),(203,false,1),(204,false,1),(206,false,1),(207,false,1),(208,false,1),(209,false,1),(210,false,1),(211,true,13),(212,true,13),(213,false,1),(214,false,1),(215,false,1),(216,false,1),(217,false,1),(218,false,1),(219,false,1),(220,false,1),(221,false,1),(222,false,1),(223,false,1),(224,false,1),(226,false,1),(227,false,1),(228,false,1),(229,false,1),(230,true,2),(231,true,2),(232,true,6),(233,false,1),(234,false,1),(235,false,1),(236,false,1),(237,false,1),(238,false,1),(240,false,1),(241,false,1),(242,false,1),(243,false,1),(244,false,1),(245,false,1),(246,false,1),(247,false,1),(248,false,1),(249,false,1),(250,false,1),(251,true,3),(252,true,3),(253,false,1),(254,true,3),(255,true,3),(256,false,1),(257,false,1),(259,false,1),(260,false,1),(261,false,1),(262,false,1),(263,false,1),(264,false,1),(265,false,1),(266,false,1),(267,false,1),(268,false,1),(269,false,1),(270,false,1),(271,false,1),(272,false,1),(273,false,1),(274,false,1),(275,false,1),(276,false,1),(277,false,1),(280,true,0),(281,true,0),(282,true,0),(283,false,1),(284,false,1),(285,false,1),(286,false,1),(287,false,1),(288,false,1),(289,false,1),(290,true,11),(291,true,11),(292,false,1),(294,false,1)],[(7,[some 0,some 1,some 2,some 3]),(8,[some 0,some 1,some 2,some 3]),(18,[some 0]),(19,[some 0]),(23,[some 0]),(24,[some 0]),(27,[some 0,some 1,some 2,some 3,some 4,some 5,some 6]),(28,[some 0,some 1,some 2,some 3,some 4,some 5,some 6]),(31,[some 0,some 7,some 8,some 9,some 10]),(32,[some 0,some 7,some 8,some 9,some 10]),(35,[some 0,some 11,some 12,some 13,some 14]),(36,[some 0,some 11,some 12,some 13,some 14]),(46,[some 0,some 1,some 2,some 3,some 4]),(47,[some 0,some 1,some 2,some 3,some 4]),(52,[some 0,some 1]),(53,[some 0,some 1]),(55,[some 0,some 1,some 2]),(56,[some 0,some 1,some 2]),(57,[some 0,some 1,some 2,some 4]),(58,[some 0,some 1,some 2,some 4]),(72,[some 0,some 1]),(73,[some 0,some 1]),(74,[some 0,some 1]),(75,[some 0,some 1]),(77,[some 0,some 1]),(78,[some 0,some 1]),(79,[some 0,some 1,some 2,some 3]),(80,[some 0,some 1,some 2,some 3]),(92,[some 0]),(93,[some 0]),(117,[some 0,some 1,some 3,some 5,some 7,some 8]),(118,[some 0,some 1,some 3,some 5,some 7,some 8]),(119,[some 0,some 1]),(120,[some 0,some 1]),(121,[some 0,some 3]),(122,[some 0,some 3]),(131,[some 0,some 1]),(132,[some 0,some 1]),(136,[some 0,some 2,some 3]),(137,[some 0,some 2,some 3]),(149,[some 0,some 7,some 10,some 11,some 12,some 13]),(150,[some 0,some 7,some 10,some 11,some 12,some 13]),(157,[some 0,some 1]),(158,[some 0,some 1]),(175,[some 0]),(195,[some 0]),(196,[some 0]),(211,[some 0,some 11,some 12]),(212,[some 0,some 11,some 12]),(230,[some 0,some 1]),(231,[some 0,some 1]),(251,[some 0,some 1,some 2]),(252,[some 0,some 1,some 2]),(254,[some 0,some 1,some 2]),(255,[some 0,some 1,some 2]),(290,[some 0,some 1,some 2,some 3,some 4,some 5,some 6,some 7,some 8,some 9,some 10]),(291,[some 0,some 1,some 2,some 3,some 4,some 5,some 6,some 7,some 8,some 9,some 10])],[22,25,26,29,30,33,34,42,51,54,67,71,145,147,148,163,204,216,229,238,250]⟩
theorem p8:k6 Tryz.prog TT:=NI kr
theorem cb {t:TypeId} {x:Bool×Nat} (h:TT.Kn t=some x:=by rfl):tK Tryz.prog t=some x:=p8.Kn h
theorem fE {s f k:Nat} (h:TT.foF s f=some k:=by rfl):vJ Tryz.prog s f=some k:=p8.foF h
end
section
open Go.RowKit
/-- blocks that are read -/
def MM (C:List av) (M:List (Nat×List Value)):Prop:= ∀ p∈M,∀ o vs,(p.2.drop o).take vs.length=vs→At C (some ⟨p.1,o,none⟩) vs
theorem I {C:List av}:MM C []:=fun p h=>by cases h
theorem mc {C:List av} {b t:Nat} {cs:List Value} {M:List (Nat×List Value)} (i:Nat) (hC:C[i]? =some (cm b t cs)) (h:MM C M):MM C ((b,cs)::M):=fun p hp o vs hv=>by
 rcases bO.1 hp with rfl|hp
 ·exact py i hC hv
 ·exact h p hp o vs hv
theorem mr {C:List av} {b t:Nat} {cs:List Value} {M:List (Nat×List Value)} (i:Nat) (hC:C[i]? =some (cm b t cs).ro) (h:MM C M):MM C ((b,cs)::M):=fun p hp o vs hv=>by
 rcases bO.1 hp with rfl|hp
 ·exact vO i hC hv
 ·exact h p hp o vs hv
def pk:List Prop→Prop
 |[]=>True
 |p::l=>p∧pk l
theorem j4 {p:Prop} {l:List Prop} (h:p) (h2:pk l):pk (p::l):=⟨h,h2⟩
/-- the value of an operation, what it asks for, and what is left of the list of places -/
def pv (T:Cl) (ops:Array Oper) (M:List (Nat×List Value)) (L:di) (hs:List Nat) (g:Option (Nat×Bool)) (op:Op):Option (Value×List Prop×List Nat):=
 match Ce ops L g with
 |true=>some (undef,[],hs)
 |false=>match j0 ops L g with
  |false=>none
  |true=>match op with
   | .move x=>match ev L x with
    |some v=>some (v,[],hs)
    |none=>none
   | .assign x=>match ev L x with
    |some v=>some (v,[],hs)
    |none=>none
   | .pick c x y=>match ev L c with
    |some (.bool true)=>match ev L x with
     |some v=>some (v,[],hs)
     |none=>none
    |some (.bool false)=>match ev L y with
     |some v=>some (v,[],hs)
     |none=>none
    |_=>none
   | .unOp .not _ x=>match ev L x with
    |some (.bool b)=>some (.bool !b,[],hs)
    |_=>none
   | .extract x i=>match ev L x with
    |some (.tuple vs)=>match vs.toList[i]? with
     |some v=>some (v,[],hs)
     |none=>none
    |_=>none
   | .fieldAddr s x f=>match ev L x with
    |some (.pointer (some ⟨b,o,none⟩))=>match T.foF s f with
     |some k=>some (.pointer (some ⟨b,o+k,none⟩),[],hs)
     |none=>none
    |_=>none
   | .binOp op _ x y _=>match ev L x with
    |some (.int .i64 a)=>match ev L y with
     |some (.int .i64 b)=>match op with
      | .lss=>some (.bool (decide (a<b)),[],hs)
      | .leq=>some (.bool (decide (a≤b)),[],hs)
      | .gtr=>some (.bool (decide (b<a)),[],hs)
      | .geq=>some (.bool (decide (b≤a)),[],hs)
      | .eql=>some (.bool (decide (a=b)),[],hs)
      | .neq=>some (.bool (!decide (a=b)),[],hs)
      | .add=>some (.int .i64 (a+b),[-9223372036854775808≤a+b,a+b≤9223372036854775807],hs)
      | .sub=>some (.int .i64 (a-b),[-9223372036854775808≤a-b,a-b≤9223372036854775807],hs)
      |_=>none
     |_=>none
    |_=>none
   | .load t x=>match ev L x with
    |some (.pointer (some ⟨b,o,none⟩))=>match M[hs.headD 0]? with
     |some (b',cs)=>match T.Kn t with
      |some (false,_)=>match cs[o]? with
       |some v=>some (v,[b'=b],hs.tail)
       |none=>none
      |some (true,n)=>match Nat.beq o 0 with
       |true=>match Nat.beq cs.length n with
        |true=>some (.agg cs.toArray,[b'=b],hs.tail)
        |false=>none
       |false=>none
      |none=>none
     |none=>none
    |_=>none
   | .call c=>match c with
    |{callee:= .builtin .len,args:=xs,argTypes:=ts}=>match xs.toList with
     |[x]=>match ts.toList with
      |[t]=>match ev L x with
       |some (.slice A n c)=>match Ku T.sl t with
        |true=>some (.int .i64 n,[],hs)
        |false=>none
       |_=>none
      |_=>none
     |_=>none
    |_=>none
   |_=>none
section
variable {E:eT} {T:Cl} {ops:Array Oper} {M:List (Nat×List Value)} {D:List Deferred} {L:List (Nat×Value)} {C:List av} {hs hs':List Nat}
theorem ve {cs:List Value} {o:Nat} {v:Value} (h:cs[o]? =some v):(cs.drop o).take [v].length=[v]:=by
 obtain ⟨hl,rfl⟩:=aW.1 h
 rw [List.drop_eq_getElem_cons hl]; rfl
theorem RV {o:Oper} {v:Value} {S:List Prop} (hT:k6 E.P T) (hM:MM C M) (h:pv T ops M L hs o.guard o.op=some (v,S,hs')) (hS:pk S):SD E ops o D L C v:=by
 obtain ⟨dst,op,ty,ps,af,g⟩:=o
 unfold pv at h
 simp only at h
 split at h
 ·rename_i hg
  cases h
  exact JD hg
 ·split at h
  ·cases h
  ·rename_i hg
   split at h
   ·split at h
    ·rename_i hx; cases h; exact Ee hg hx
    ·cases h
   ·split at h
    ·rename_i hx; cases h; exact ym hg hx
    ·cases h
   ·split at h
    ·rename_i hc
     split at h
     ·rename_i hx; cases h; exact yd hg hc hx
     ·cases h
    ·rename_i hc
     split at h
     ·rename_i hx; cases h; exact yH hg hc hx
     ·cases h
    ·cases h
   ·split at h
    ·rename_i hx; cases h; exact Hu hg hx
    ·cases h
   ·split at h
    ·rename_i vs hx
     split at h
     ·rename_i v' hv; cases h; exact xu (vs:=vs.toList) hg (by simpa using hx) hv
     ·cases h
    ·cases h
   ·split at h
    ·rename_i hx
     split at h
     ·rename_i hk; cases h; exact Nq hg hx (hT.foF hk) rfl
     ·cases h
    ·cases h
   ·split at h
    ·rename_i hx
     split at h
     ·rename_i hy
      split at h
      ·cases h; exact fV hg hx hy p7
      ·cases h; exact fV hg hx hy QM
      ·cases h; exact fV hg hx hy Rq
      ·cases h; exact fV hg hx hy EK
      ·cases h; exact fV hg hx hy mF
      ·cases h; exact fV hg hx hy pT
      ·cases h; exact fV hg hx hy (n9 ⟨hS.1,hS.2.1⟩)
      ·cases h; exact fV hg hx hy (wg ⟨hS.1,hS.2.1⟩)
      ·cases h
     ·cases h
    ·cases h
   ·split at h
    ·rename_i hx
     split at h
     ·rename_i b' cs hm
      have A:=aR hm
      split at h
      ·rename_i hk
       split at h
       ·rename_i hv
        cases h
        obtain rfl:=hS.1
        exact uH hg hx (hT.Kn hk) (hM _ A _ _ (ve hv))
       ·cases h
      ·rename_i n hk
       split at h
       ·rename_i ho
        split at h
        ·rename_i hn
         cases h
         obtain rfl:=hS.1
         have H:=Nat.eq_of_beq_eq_true ho
         subst H
         exact wO hg hx (hT.Kn hk) (hM _ A 0 cs sm) (Nat.eq_of_beq_eq_true hn)
        ·cases h
       ·cases h
      ·cases h
     ·cases h
    ·cases h
   ·split at h
    ·rename_i xs ts
     split at h
     ·rename_i x G
      split at h
      ·rename_i t F
       split at h
       ·rename_i hx
        split at h
        ·rename_i B
         cases h
         obtain ⟨e,he⟩:=hT.sl t (Bl B)
         have AA:xs= #[x]:=by apply Array.ext'; simpa using G
         have J:ts= #[t]:=by apply Array.ext'; simpa using F
         subst AA J
         exact JR hg hx he
        ·cases h
       ·cases h
      ·cases h
     ·cases h
    ·cases h
   ·cases h
def pr (T:Cl) (n:Nat) (ops:Array Oper) (M:List (Nat×List Value)):Nat→List Nat→di→List Oper→Option (di×List Oper×List Prop)
 |0,_,L,rest=>some (L,rest,[])
 |k+1,hs,L,[]=>none
 |k+1,hs,L,o::rest=>match o.dst with
  |none=>none
  |some d=>match Nat.blt d n with
   |false=>none
   |true=>match pv T ops M L hs o.guard o.op with
    |none=>none
    |some (v,S,hs')=>match pr T n ops M k hs' ((d,v)::L) rest with
     |none=>none
     |some (L',rest',S')=>some (L',rest',S++S')
theorem xJ: ∀ {S S':List Prop},pk (S++S')→pk S∧pk S'
 |[],S',h=>⟨trivial,h⟩
 |p::S,S',h=>⟨⟨h.1,(xJ h.2).1⟩,(xJ h.2).2⟩
/-- whatever is closed under single steps -/
theorem HA {J:List Oper→di→Prop} (hT:k6 E.P T) (hM:MM C M) (hJ: ∀ o rest L d v,SD E ops o D L C v→o.dst=some d→Nat.blt d E.n=true→J rest ((d,v)::L)→J (o::rest) L):
 ∀ (k:Nat) (hs:List Nat) (L:di) (rest:List Oper) {L':di} {rest':List Oper} {S:List Prop},pr T E.n ops M k hs L rest=some (L',rest',S)→pk S→J rest' L'→J rest L
 |0,hs,L,rest,L',rest',S,h,hS,hj=>by
  unfold pr at h
  cases h
  exact hj
 |k+1,hs,L,[],L',rest',S,h,hS,hj=>by unfold pr at h; cases h
 |k+1,hs,L,o::rest,L',rest',S,h,hS,hj=>by
  unfold pr at h
  split at h
  ·cases h
  ·rename_i d hd
   split at h
   ·cases h
   ·rename_i hn
    split at h
    ·cases h
    ·rename_i v S1 A hv
     split at h
     ·cases h
     ·rename_i L1 G S2 hr
      cases h
      obtain ⟨B,F⟩:=xJ hS
      exact hJ o rest L d v (RV hT hM hv B) hd hn (HA hT hM hJ k A _ rest hr F hj)
variable {Q:cZ} {rest rest':List Oper} {L0 L':List (Nat×Value)} {S:List Prop} {F:List (Nat×Value)→Prop}
/-- a run of operations, one after the other -/
theorem rP (k:Nat) (hs:List Nat) (hM:MM C M) (j:RJ E ops Q rest' D L' C) (hT:k6 E.P T:=by exact p8) (h:pr T E.n ops M k hs L rest=some (L0,rest',S):=by rfl) (hL:L0=L':=by (try dsimp only)<;>rfl) (hS:pk S:=by repeat' first|exact True.intro |refine j4 ?_ ?_ |exact rfl|omega|(dsimp only; omega)):RJ E ops Q rest D L C:=by
 subst hL
 exact HA (J:=fun r L=>RJ E ops Q r D L C) hT hM (fun o rest L d v A B F G=>Sk A B F G) k hs L rest h hS j
theorem dP (k:Nat) (hs:List Nat) (hM:MM C M) (j:DJ E ops D C F rest' L') (hT:k6 E.P T:=by exact p8) (h:pr T E.n ops M k hs L rest=some (L0,rest',S):=by rfl) (hL:L0=L':=by (try dsimp only)<;>rfl) (hS:pk S:=by repeat' first|exact True.intro |refine j4 ?_ ?_ |exact rfl|omega|(dsimp only; omega)):DJ E ops D C F rest L:=by
 subst hL
 exact HA (J:=fun r L=>DJ E ops D C F r L) hT hM (fun o rest L d v A B G H=>Rr A B G H) k hs L rest h hS j
end
section
variable {P:Program} {r:Option Nat} {n:Nat} {B:BS} {w0:World} {ops:Array Oper} {M:List (Nat×List Value)} {D:List Deferred} {L L':List (Nat×Value)} {C:List av} {Q:cZ} {rest rest':List Oper} {S:List Prop} {F:List (Nat×Value)→Prop}
theorem eN (k:Nat) (hs:List Nat) (hM:MM C M) (h:pr TT n ops M k hs L rest=some (L',rest',S)) (j:RJ ⟨P,r,n,B,w0⟩ ops Q rest' D L' C) (hS:pk S:=by repeat' first|exact True.intro |refine j4 ?_ ?_ |exact rfl|omega|(dsimp only; omega)) (hT:k6 P TT:=by exact p8):RJ ⟨P,r,n,B,w0⟩ ops Q rest D L C:=rP k hs hM j hT h rfl hS
theorem lu (k:Nat) (hs:List Nat) (hM:MM C M) (h:pr TT n ops M k hs L rest=some (L',rest',S)) (j:DJ ⟨P,r,n,B,w0⟩ ops D C F rest' L') (hS:pk S:=by repeat' first|exact True.intro |refine j4 ?_ ?_ |exact rfl|omega|(dsimp only; omega)) (hT:k6 P TT:=by exact p8):DJ ⟨P,r,n,B,w0⟩ ops D C F rest L:=dP k hs hM j hT h rfl hS
theorem bE (k:Nat) (h:pr TT n ops [] k [] L rest=some (L',rest',S)) (j:RJ ⟨P,r,n,B,w0⟩ ops Q rest' D L' C) (hS:pk S:=by repeat' first|exact True.intro |refine j4 ?_ ?_ |exact rfl|omega|(dsimp only; omega)) (hT:k6 P TT:=by exact p8):RJ ⟨P,r,n,B,w0⟩ ops Q rest D L C:=rP k [] I j hT h rfl hS
theorem kI (k:Nat) (h:pr TT n ops [] k [] L rest=some (L',rest',S)) (j:DJ ⟨P,r,n,B,w0⟩ ops D C F rest' L') (hS:pk S:=by repeat' first|exact True.intro |refine j4 ?_ ?_ |exact rfl|omega|(dsimp only; omega)) (hT:k6 P TT:=by exact p8):DJ ⟨P,r,n,B,w0⟩ ops D C F rest L:=dP k [] I j hT h rfl hS
end
end
section
open Go.RowKit
/-- parts of a context, reckoned to the end -/
def o9 (C:List av):List Nat→Option (List av)
 |[]=>some []
 |i::is=>match C[i]? with
  |some A=>match o9 C is with
   |some l=>some (A::l)
   |none=>none
  |none=>none
theorem pE {C:List av}: ∀ {is:List Nat} {C':List av},o9 C is=some C'→kh C is=C'
 |[],C',h=>by cases h; rfl
 |i::is,C',h=>by
  unfold o9 at h
  split at h
  ·rename_i A hA
   split at h
   ·rename_i l hl
    cases h
    show List.filterMap (C[·]?) (i::is)=A::l
    rw [List.filterMap_cons_some hA]
    exact congrArg _ (pE hl)
   ·cases h
  ·cases h
/-- a part of a context in place of the whole -/
theorem aP {S:BS} {w0:World} {C C':List av} (is:List Nat) (hn:decide is.Nodup=true:=by rfl) (hC:kh C is=C':=by rfl): ∀ w,St S w0 C w→St S w0 C' w:=fun w h=>St.kh is hn hC h
theorem Qs {S:BS} {w0:World} {C C':List av} (is:List Nat) (hC:o9 C is=some C') (hn:decide is.Nodup=true:=by rfl): ∀ w,St S w0 C w→St S w0 C' w:=fun w h=>St.kh is hn (pE hC) h
def MQ (C:List av) (i:Nat) (B:av):Option (List av):=match i,C with
 |0,_::C=>some (B::C)
 |i+1,A::C=>match MQ C i B with
  |some l=>some (A::l)
  |none=>none
 |_,[]=>none
theorem EV: ∀ {C:List av} {i:Nat} {B:av} {C':List av},MQ C i B=some C'→C.set i B=C'
 |[],0,B,C',h=>by cases h
 |[],i+1,B,C',h=>by cases h
 |A::C,0,B,C',h=>by cases h; rfl
 |A::C,i+1,B,C',h=>by
  unfold MQ at h
  split at h
  ·rename_i l hl
   cases h
   exact congrArg _ (EV hl)
  ·cases h
theorem qt {E:eT} {K:Act→World→Prop} {D:g6} {L:di} {C C':List av} {A B:av} (i:Nat) (hC:C[i]? =some A) (hh:(∀ w,A.holds w→B.holds w)∧(∀ b,B.eW b→A.eW b)∧ ∀ b,B.wf b→A.wf b) (hC':MQ C i B=some C') (h:KJ E K D L C'):KJ E K D L C:=Ig i hC hh (EV hC') h
/-- the operations of a region but these; marks of some places -/
def TP (n:Nat) (T:List Nat):List Nat:=(List.range n).filter fun i=> !T.contains i
def Uw (k:Nat) (t:List Nat):List Bool:=(List.range k).map fun i=>t.contains i
theorem dH {E:eT} {id:Nat} {ops:Array Oper} {Q:cZ} {D:g6} {L:di} {C:List av} (hm:E.P.follows .mixedOrders=true) (T fe tb i1 i2:List Nat) {C' C1:List av} {free:List Nat} {feb tbb:List Bool}
 (h1:o9 C i1=some C') (h2:o9 C i2=some C1) (hf:free=TP ops.size T) (hfe:feb=Uw free.length fe) (htb:tbb=Uw T.length tb)
 (h:qg E ops D C' C1 (fun L'=>TJ E ops D C' C1 (fun L C=>KJ E (Q .normal) D L C) tbb (eJ ops T) L' C) feb (eJ ops free) L)
 (hc:Lq ops free T feb tbb=true:=by kernel_rfl) (n1:decide i1.Nodup=true:=by rfl) (n2:decide i2.Nodup=true:=by rfl):WJ E (.region id ops true) Q D L C:=
 Md hm free T feb tbb C' C1 hc (Qs i1 h1 n1) (Qs i2 h2 n2) h
end
section
open Go.RowKit
def vH (T:Cl) (M:List (Nat×List Value)) (L:di):List ResultVar→List Nat→Option (List Value×List Prop)
 |[],_=>some ([],[])
 | .tmp t::rs,hs=>match L.lookup t with
  |some v=>match vH T M L rs hs with
   |some (vs,S)=>some (v::vs,S)
   |none=>none
  |none=>none
 | .cell a t::rs,hs=>match L.lookup a with
  |some (.pointer (some ⟨b,o,none⟩))=>match M[hs.headD 0]? with
   |some (b',cs)=>match T.Kn t with
    |some (false,_)=>match cs[o]? with
     |some v=>match vH T M L rs hs.tail with
      |some (vs,S)=>some (v::vs,(b'=b)::S)
      |none=>none
     |none=>none
    |some (true,n)=>match Nat.beq o 0 with
     |true=>match Nat.beq cs.length n with
      |true=>match vH T M L rs hs.tail with
       |some (vs,S)=>some (.agg cs.toArray::vs,(b'=b)::S)
       |none=>none
      |false=>none
     |false=>match vH T M L rs hs.tail with
      |some (vs,S)=>some (.agg ((cs.drop o).take n).toArray::vs,(b'=b)::(((cs.drop o).take n).length=n)::S)
      |none=>none
    |none=>none
   |none=>none
  |_=>none
theorem nP {P:Program} {T:Cl} {M:List (Nat×List Value)} {L:di} {C:List av} (hT:k6 P T) (hM:MM C M): ∀ (rs:List ResultVar) (hs:List Nat) {vs:List Value} {S:List Prop},vH T M L rs hs=some (vs,S)→pk S→Gn P L C rs vs
 |[],_,vs,S,h,hS=>by unfold vH at h; cases h; exact trivial
 | .tmp t::rs,hs,vs,S,h,hS=>by
  unfold vH at h
  split at h
  ·rename_i v hv
   split at h
   ·rename_i vs' S' hr
    cases h
    exact ⟨hv,nP hT hM rs hs hr hS⟩
   ·cases h
  ·cases h
 | .cell a t::rs,hs,vs,S,h,hS=>by
  unfold vH at h
  split at h
  ·rename_i b o hl
   split at h
   ·rename_i b' cs hm
    have A:=aR hm
    split at h
    ·rename_i hk
     split at h
     ·rename_i v hv
      split at h
      ·rename_i vs' S' hr
       cases h
       obtain ⟨rfl,hS⟩:=hS
       exact ⟨⟨_,hl,.inr ⟨_,hT.Kn hk,hM _ A _ _ (ve hv)⟩⟩,nP hT hM rs _ hr hS⟩
      ·cases h
     ·cases h
    ·rename_i n hk
     split at h
     ·rename_i ho
      split at h
      ·rename_i hn
       split at h
       ·rename_i vs' S' hr
        cases h
        obtain ⟨rfl,hS⟩:=hS
        have D:=Nat.eq_of_beq_eq_true ho
        subst D
        exact ⟨⟨_,hl,.inl ⟨_,cs,hT.Kn hk,hM _ A 0 cs sm,Nat.eq_of_beq_eq_true hn,U⟩⟩,nP hT hM rs _ hr hS⟩
       ·cases h
      ·cases h
     ·split at h
      ·rename_i vs' S' hr
       cases h
       obtain ⟨rfl,B,hS⟩:=hS
       exact ⟨⟨_,hl,.inl ⟨_,_,hT.Kn hk,hM _ A o _ (by rw [B]),B,U⟩⟩,nP hT hM rs _ hr hS⟩
      ·cases h
    ·cases h
   ·cases h
  ·cases h
section
variable {P:Program} {n:Nat} {fn:Func} {w0:World} {K:Act→World→Prop} {L:List (Nat×Value)} {C:List av} {M:List (Nat×List Value)} {vs:List Value} {S:List Prop} {u x v:Value}
theorem Cj (hQ: ∀ D L C,LJ ⟨P,none,n,sK,w0⟩ fn (y_ w0 v) D L C→KJ ⟨P,none,n,sK,w0⟩ K D L C) (hs:List Nat) (hM:MM C M) (h:vH TT M L fn.results.toList hs=some ([u],S)) (e:u=v) (hS:pk S:=by repeat' first|exact True.intro |refine j4 rfl ?_) (hT:k6 P TT:=by exact p8):KJ ⟨P,none,n,sK,w0⟩ K [] L C:=
 hQ _ _ _ (jI (nP hT hM _ _ h hS) fun w hs=>Al e hs)
theorem my (hQ: ∀ D L C,LJ ⟨P,none,n,sK,w0⟩ fn (y_ w0 v) D L C→KJ ⟨P,none,n,sK,w0⟩ K D L C) (hs:List Nat) (hM:MM C M) (h:vH TT M L fn.results.toList hs=some (u::x::vs,S)) (e:Value.tuple (u::x::vs).toArray=v) (hS:pk S:=by repeat' first|exact True.intro |refine j4 rfl ?_) (hT:k6 P TT:=by exact p8):KJ ⟨P,none,n,sK,w0⟩ K [] L C:=
 hQ _ _ _ (jI (nP hT hM _ _ h hS) fun w hs=>Al e hs)
theorem LX {α:Type} {V:α→Value} {p:α→Prop} {N:α→List av} (hQ: ∀ D L C,LJ ⟨P,none,n,sK,w0⟩ fn (I9 w0 V p N) D L C→KJ ⟨P,none,n,sK,w0⟩ K D L C) (x:α) (is hs:List Nat) (hM:MM C M) (h:vH TT M L fn.results.toList hs=some (vs,S)) (hw:(N x).all (·.wr)=true) (hN:kh C is=N x) (hV:PE vs=V x) (hp:p x) (hn:decide is.Nodup=true:=by rfl) (hS:pk S:=by repeat' first|exact True.intro |refine j4 rfl ?_) (hT:k6 P TT:=by exact p8):KJ ⟨P,none,n,sK,w0⟩ K [] L C:=
 hQ _ _ _ (jI (nP hT hM _ _ h hS) fun w hs=>OC x is hV hp hn hN hw hs)
theorem LM {A:av} {α:Type} {V:α→Value} {p:α→Prop} {A':α→av} (hQ: ∀ D L C,LJ ⟨P,none,n,⟨A.wf,fun _=>True⟩,w0⟩ fn (Ml w0 A V p A') D L C→KJ ⟨P,none,n,⟨A.wf,fun _=>True⟩,w0⟩ K D L C) (x:α) (i:Nat) (hs:List Nat) (hM:MM C M) (h:vH TT M L fn.results.toList hs=some (vs,S)) (hw:(A' x).wr=true) (hC:C[i]? =some (A' x)) (hV:PE vs=V x) (hp:p x) (hS:pk S:=by repeat' exact True.intro) (hT:k6 P TT:=by exact p8):KJ ⟨P,none,n,⟨A.wf,fun _=>True⟩,w0⟩ K [] L C:=
 hQ _ _ _ (jI (nP hT hM _ _ h hS) fun w hs=>P4 x i hV hp hC hw hs)
end
end
section
open Go.RowKit
def DW {α:Type _}:List α→List α→Option (List α)
 |[],m=>some m
 |a::l,m=>match DW l m with
  |some r=>some (a::r)
  |none=>none
theorem Ez {α:Type _}: ∀ {l m r:List α},DW l m=some r→l++m=r
 |[],m,r,h=>by cases h; rfl
 |a::l,m,r,h=>by
  unfold DW at h
  split at h
  ·rename_i r' hr
   cases h
   exact congrArg (a:: ·) (Ez hr)
  ·cases h
def Sq (L:di):List Nat→Option (di)
 |[]=>some []
 |t::ts=>match L.lookup t with
  |some v=>match Sq L ts with
   |some r=>some ((t,v)::r)
   |none=>none
  |none=>none
theorem D6 {L M:di} (k:df L M): ∀ {ts:List Nat} {r:di},Sq L ts=some r→df L (r++M)
 |[],r,h=>by cases h; exact k
 |t::ts,r,h=>by
  unfold Sq at h
  split at h
  ·rename_i v hv
   split at h
   ·rename_i r' hr
    cases h
    exact df.cons hv (D6 k hr)
   ·cases h
  ·cases h
section
variable {E:eT} {Q:cZ} {D:List Deferred} {L L0:List (Nat×Value)} {C C0:List av} {ι:Type} {Li:ι→List (Nat×Value)} {Ci:ι→List av}
theorem bT {c:Code} (kL kC:List Nat) (hL:Sq L kL=some L0) (hC0:o9 C kC=some C0) (S:ι→di) (G:ι→List av) (hLi: ∀ x,DW L0 (S x)=some (Li x)) (hCi: ∀ x,DW C0 (G x)=some (Ci x)) (μ:ι→Nat) (x0:ι)
 (h0:df L (S x0)) (hC: ∀ w,St E.S E.w0 C w→St E.S E.w0 (Ci x0) w)
 (round: ∀ x (J:Act→World→Prop),(∀ y D' L' C',D'=D→μ y<μ x→df L' (Li y)→(∀ w,St E.S E.w0 C' w→St E.S E.w0 (Ci y) w)→KJ E J D' L' C')→WJ E c (Exit.then J Q) D (Li x) (Ci x)):WJ E (.loop c) Q D L C:=
 OM Li Ci μ x0 (Ez (hLi x0)▸D6 h0 hL) hC round
theorem kD {x y:Code} (kL kC:List Nat) (hL:Sq L kL=some L0) (hC0:o9 C kC=some C0) (S:ι→di) (G:ι→List av) (hLi: ∀ x,DW L0 (S x)=some (Li x)) (hCi: ∀ x,DW C0 (G x)=some (Ci x))
 (hy: ∀ z,WJ E y Q D (Li z) (Ci z)) (h: ∀ K:Act→World→Prop,(∀ z,KJ E K D (Li z) (Ci z))→WJ E x (Exit.then K Q) D L C):WJ E (.seq x y) Q D L C:=Pd Li Ci hy h
end
end
section
open Go.RowKit
set_option linter.unusedSectionVars false
/-- what is asked of keys -/
structure uE (P:Program) (kt:Nat) {K:Type} (kV:K→Value):Prop where
 check: ∀ (e:Bool) (x:K) (w:World),(Instr.checkKey e 10000 kt (kV x)).run P w= .ok () w
 find: ∀ (x:K) (w:World) (es:List MapEntry),(∀ e∈es,∃ k,e.key=kV k)→
  ((Instr.findKey kt (kV x) es).run P w= .ok none w∧ ∀ e∈es,e.key≠kV x)∨ ∃ j e,(Instr.findKey kt (kV x) es).run P w= .ok (some (j,e.val)) w∧es[j]? =some e∧e.key=kV x
 bits: ∀ x,Instr.sameBits 10000 (kV x) (kV x)=true
 inj: ∀ x y,kV x=kV y→x=y
section
variable {K:Type} [DecidableEq K] {kV:K→Value}
def dz {β:Type} (l:List (K×β)) (x:K) (y:β):List (K×β):=if (l.lookup x).isSome then l.map (fun p=>if p.1=x then (x,y) else p) else l++[(x,y)]
def eO {β:Type} (l:List (K×β)) (x:K):List (K×β):=l.filter fun p=> !decide (p.1=x)
def cK {β γ:Type} (f:β→γ) (l:List (K×β)):List (K×γ):=l.map fun p=>(p.1,f p.2)
theorem mL {β γ:Type} (f:β→γ) (x:K): ∀ l:List (K×β),(cK f l).lookup x=(l.lookup x).map f
 |[]=>rfl
 |p::l=>by
  obtain ⟨k,v⟩:=p
  have ih:=mL f x l
  by_cases h:x=k
  ·subst h; simp [cK,List.lookup]
  ·have:(x==k)=false:=by simpa using h
   simp only [cK,List.map_cons,List.lookup,this] at ih ⊢
   exact ih
theorem fU {β γ:Type} (f:β→γ) (l:List (K×β)) (x:K) (y:β):cK f (dz l x y)=dz (cK f l) x (f y):=by
 unfold dz
 rw [mL,Option.isSome_map]
 split
 ·simp only [cK,List.map_map]
  refine List.map_congr_left fun p _=>?_
  simp only [Function.comp]
  split<;>rfl
 ·simp [cK]
theorem nj {β γ:Type} (f:β→γ) (l:List (K×β)) (x:K):cK f (eO l x)=eO (cK f l) x:=by
 unfold eO cK
 rw [List.filter_map]
 rfl
theorem hZ {β:Type} {x:K}: ∀ {l:List (K×β)},l.lookup x=none↔ ∀ p∈l,p.1≠x
 |[]=>by simp
 |p::l=>by
  obtain ⟨k,v⟩:=p
  by_cases h:x=k
  ·subst h; simp [List.lookup]
  ·have hb:(x==k)=false:=by simpa using h
   simp only [List.lookup,hb,bO,forall_eq_or_imp]
   rw [hZ (l:=l)]
   exact ⟨fun q=>⟨fun e=>h e.symm,q⟩,fun q=>q.2⟩
theorem kR {β:Type} {x:K} {y:β}: ∀ {l:List (K×β)},(l.map (·.1)).Nodup→((x,y)∈l↔l.lookup x=some y)
 |[],_=>by simp
 |p::l,hn=>by
  obtain ⟨k,v⟩:=p
  simp only [List.map_cons,List.nodup_cons] at hn
  by_cases h:x=k
  ·subst h
   simp only [List.lookup,beq_self_eq_true,bO,Prod.mk.injEq,true_and,Option.some.injEq]
   constructor
   ·rintro (e|e)
    ·exact e.symm
    ·exact absurd (cr.2 ⟨_,e,U⟩) hn.1
   ·intro e; exact .inl e.symm
  ·have hb:(x==k)=false:=by simpa using h
   simp only [List.lookup,hb,bO,Prod.mk.injEq,h,false_and,false_or]
   exact kR hn.2
structure jh (kV:K→Value) (es:Array MapEntry) (c:Nat) (m:List (K×Value)):Prop where
 list:es.toList.map (fun (e:MapEntry)=>(e.key,e.val))=m.map (fun p=>(kV p.1,p.2))
 keys:(m.map (·.1)).Nodup
 G5: ∀ e∈es.toList,e.born<c
 born:(es.toList.map (·.born)).Nodup
def jM (kV:K→Value) (b:Nat) (m:List (K×Value)):av where
 eW k:=k=b
 wf k:=k=b
 holds w:= ∃ es c,w.heap[b]? =some (.map es c)∧jh kV es c m
 wr:=true
 j_ _ h:=h
 whole _ _ h:=h
 lt w h k hk:=by obtain ⟨es,c,he,_⟩:=h; exact hk▸dA he
 oy w w' hk h:=by obtain ⟨es,c,he,hm⟩:=h; exact ⟨es,c,(hk b rfl).trans he,hm⟩
theorem jh.nil:jh kV #[] 0 []:=⟨rfl,List.nodup_nil,sm,List.nodup_nil⟩
theorem jh.size {es:Array MapEntry} {c:Nat} {m:List (K×Value)} (h:jh kV es c m):es.size=m.length:=by
 have:=congrArg List.length h.list
 simpa using this
theorem Dm {P:Program} {kt:Nat} (hk:uE P kt kV) (x:K): ∀ (es:List MapEntry) (m:List (K×Value)),es.map (fun (e:MapEntry)=>(e.key,e.val))=m.map (fun p=>(kV p.1,p.2))→
 ((∀ e∈es,e.key≠kV x)→m.lookup x=none)∧ ∀ (j:Nat) (e:MapEntry),es[j]? =some e→e.key=kV x→m[j]? =some (x,e.val):=by
 intro es m h
 refine ⟨fun hn=>hZ.2 fun p hp e=>?_,fun j e he hx=>?_⟩
 ·have:(kV p.1,p.2)∈es.map (fun (e:MapEntry)=>(e.key,e.val)):=by rw [h]; exact cr.2 ⟨p,hp,rfl⟩
  obtain ⟨z,hz,B⟩:=cr.1 this
  simp only [Prod.mk.injEq] at B
  exact hn z hz (by rw [B.1,e])
 ·have A:(es.map (fun (e:MapEntry)=>(e.key,e.val)))[j]? =some (e.key,e.val):=by rw [fz,he]; rfl
  rw [h,fz] at A
  cases hm:m[j]? with
  |none=>simp [hm] at A
  |some p=>
   simp only [hm,Option.map_some,Option.some.injEq,Prod.mk.injEq] at A
   have:=hk.inj _ _ (A.1.trans hx)
   obtain ⟨k,v⟩:=p
   simp only at this A
   rw [this,A.2]
theorem oJ {P:Program} {w:World} {kt:Nat} {x:K} {es:Array MapEntry} {c:Nat} {m:List (K×Value)} (hk:uE P kt kV) (h:jh kV es c m):
 ((Instr.findKey kt (kV x) es.toList).run P w= .ok none w∧m.lookup x=none)∨
 ∃ j v,(Instr.findKey kt (kV x) es.toList).run P w= .ok (some (j,v)) w∧m[j]? =some (x,v)∧m.lookup x=some v:=by
 obtain ⟨D,E⟩:=Dm hk x es.toList m h.list
 rcases hk.find x w es.toList (fun e he=>by
  have:(e.key,e.val)∈m.map (fun p=>(kV p.1,p.2)):=by rw [← h.list]; exact cr.2 ⟨e,he,rfl⟩
  obtain ⟨p,_,hp⟩:=cr.1 this
  simp only [Prod.mk.injEq] at hp
  exact ⟨p.1,hp.1.symm⟩) with ⟨A,B⟩|⟨j,e,A,B,C⟩
 ·exact .inl ⟨A,D B⟩
 ·have:=E j e B C
  exact .inr ⟨j,e.val,A,this,(kR h.keys).1 (aR this)⟩
theorem iZ {P:Program} {w:World} {kt:Nat} {x:K} (hk:uE P kt kV) (e:Bool):(Instr.checkKey e 10000 kt (kV x)).run P w= .ok () w:=hk.check e x w
section
variable {E:eT} {ops:Array Oper} {Q:cZ} {rest:List Oper} {D:List Deferred} {L:List (Nat×Value)} {C:List av}
variable {dst:Option Tmp} {d:Nat} {ty:TypeId} {ps:String} {af:Array Edge} {g:Option (Nat×Bool)}
theorem lj {t:TypeId} (hg:j0 ops L g=true) (hd:Nat.blt d E.n=true) (k: ∀ b,RJ E ops Q rest D ((d,.map (some b))::L) (jM kV b []::C)):RJ E ops Q (⟨some d,.makeMap t none,ty,ps,af,g⟩::rest) D L C:=by
 intro a w B hs
 have hd':d<E.n:=by rw [← Nat.blt_eq]; exact hd
 unfold rX
 rw [if_pos (ed B hg)]
 refine iP (v:= .map (some w.heap.size)) (w':=w.alloc (.map #[] 0)) sm ?_ ?_
 ·simp [execOp,Instr.makeMap,newObj,Sem.run]
 ·refine k _ _ _ (B.put hd' _) (hs.grow (dE.alloc no w _) (N:=[jM kV w.heap.size []]) ⟨fun A hA=>?_,fun A hA b hb=>?_,List.pairwise_singleton _ _⟩)
  ·simp at hA; subst hA; exact ⟨#[],0,heap_alloc_new w _,jh.nil⟩
  ·simp at hA; subst hA; exact Nat.le_of_eq (Eq.symm hb)
theorem jh.push {es:Array MapEntry} {c:Nat} {m:List (K×Value)} (h:jh kV es c m) {x:K} (hx:m.lookup x=none) (v:Value):jh kV (es.push {key:=kV x,val:=v,born:=c}) (c+1) (m++[(x,v)]):=by
 refine ⟨by simp [h.list],?_,?_,?_⟩
 ·rw [List.map_append,List.nodup_append]
  refine ⟨h.keys,sm,fun a ha b hb=>?_⟩
  simp at hb; subst hb
  obtain ⟨p,hp,rfl⟩:=cr.1 ha
  exact hZ.1 hx p hp
 ·intro e he
  simp only [Array.toList_push,gR,cd] at he
  rcases he with he|rfl
  ·exact Nat.lt_succ_of_lt (h.G5 e he)
  ·exact Nat.lt_succ_self _
 ·simp only [Array.toList_push,List.map_append,List.map_cons,List.map_nil]
  rw [List.nodup_append]
  refine ⟨h.born,sm,fun a ha b hb=>?_⟩
  simp at hb; subst hb
  obtain ⟨p,hp,rfl⟩:=cr.1 ha
  exact Nat.ne_of_lt (h.G5 p hp)
theorem KY {m:List (K×Value)} {j:Nat} {x:K} {v0 v:Value} (hn:(m.map (·.1)).Nodup) (hj:m[j]? =some (x,v0)):m.map (fun p=>if p.1=x then (x,v) else p)=m.set j (x,v):=by
 refine List.ext_getElem? fun i=>?_
 rw [fz,List.getElem?_set]
 by_cases e:j=i
 ·subst e
  have hl:=(aW.1 hj).1
  rw [hj]; simp [hl]
 ·rw [if_neg e]
  cases hi:m[i]? with
  |none=>rfl
  |some p=>
   simp only [Option.map_some]
   rw [if_neg]
   intro hp
   have B:(m.map (·.1))[i]? =some x:=by rw [fz,hi]; simp [hp]
   have C:(m.map (·.1))[j]? =some x:=by rw [fz,hj]; rfl
   have A:=(aW.1 B).1
   exact e (((List.getElem?_inj A hn).1 (B.trans C.symm)).symm)
theorem jh.set {es:Array MapEntry} {c:Nat} {m:List (K×Value)} (h:jh kV es c m) {x:K} {j:Nat} {v0:Value} (hj:m[j]? =some (x,v0)) (hx:m.lookup x=some v0) (v:Value):
 jh kV (es.modify j fun e=>{e with key:=kV x,val:=v}) c (dz m x v):=by
 have C:dz m x v=m.set j (x,v):=by unfold dz; rw [hx]; simpa using KY h.keys hj
 have hl:=(aW.1 hj).1
 have E:=h.size
 have A:j<es.size:=by omega
 have B:(es.modify j fun e=>{e with key:=kV x,val:=v}).toList=es.toList.set j {(es[j]) with key:=kV x,val:=v}:=by
  refine List.ext_getElem? fun i=>?_
  rw [Array.getElem?_toList,Array.getElem?_modify,List.getElem?_set]
  by_cases e:j=i
  ·subst e; simp [A]
  ·simp [e]
 have D:(es.toList.set j {(es[j]) with key:=kV x,val:=v}).map (·.born)=es.toList.map (·.born):=by
  rw [List.map_set]
  refine List.ext_getElem? fun i=>?_
  rw [List.getElem?_set]
  by_cases e:j=i
  ·subst e; simp [A]
  ·rw [if_neg e]
 refine ⟨?_,?_,?_,?_⟩
 ·rw [B,C,List.map_set,List.map_set,h.list]
 ·rw [C,List.map_set]
  have:(m.map (·.1)).set j x=m.map (·.1):=by
   refine List.ext_getElem? fun i=>?_
   rw [List.getElem?_set]
   by_cases e:j=i
   ·subst e; simp [hl]; simpa using (congrArg Prod.fst ((aW.1 hj).2)).symm
   ·rw [if_neg e]
  simp only [this]
  exact h.keys
 ·intro e he
  rw [B] at he
  have hb:e.born∈(es.toList.set j {(es[j]) with key:=kV x,val:=v}).map (·.born):=cr.2 ⟨e,he,rfl⟩
  rw [D] at hb
  obtain ⟨e',he',hq⟩:=cr.1 hb
  rw [← hq]; exact h.G5 e' he'
 ·rw [B,D]; exact h.born
/-- m[x] = y -/
theorem il {t kt et:TypeId} {xm xk xv:Operand} {b:Nat} {x:K} {v:Value} {m m':List (K×Value)} {C':List av} (i:Nat) (hg:j0 ops L g=true) (hm:ev L xm=some (.map (some b))) (hk:ev L xk=some (kV x)) (hv:ev L xv=some v)
 (ht:E.P.underlying t=some (.map kt et)) (hkt:uE E.P kt kV) (hC:C[i]? =some (jM kV b m)) (hm':dz m x v=m') (hC':C.set i (jM kV b m')=C') (k:RJ E ops Q rest D L C'):
 RJ E ops Q (⟨none,.mapUpdate t xm xk xv,ty,ps,af,g⟩::rest) D L C:=by
 subst hm' hC'
 intro a w A hs
 unfold rX
 rw [if_pos (ed A hg)]
 obtain ⟨es,c,he,hi⟩:=hs.holds _ (aR hC)
 have B:(getObj b).run E.P w= .ok (.map es c) w:=MapKept.run_getObj_map he
 rcases oJ (P:=E.P) (w:=w) (x:=x) hkt hi with ⟨AA,F⟩|⟨j,N,AA,F,J⟩
 ·refine rH (w':={w with heap:=w.heap.setIfInBounds b (.map (es.push {key:=kV x,val:=v,born:=c}) (c+1))}) sm ?_ ?_
  ·simp [execOp,A.ev hm,A.ev hk,A.ev hv,Instr.mapUpdate,run_underlying ht,B,iZ hkt,AA,MapKept.run_setObj_map _ he]
  ·refine k _ _ ⟨A.defers,A.size,A.at_⟩ (hs.x7 (b:=b) i hC U U (mX _) (fun _ h=>h) ⟨_,_,o8 he,?_⟩)
   have:dz m x v=m++[(x,v)]:=by unfold dz; rw [F]; rfl
   rw [this]; exact hi.push F v
 ·have M:=hi.size
  have G:j<es.size:=by have:=(aW.1 F).1; omega
  have H:(es[j]).key=kV x:=by
   have:=congrArg (fun l=>l[j]?) hi.list
   simp [G,F] at this
   exact this.1
  refine rH (w':={w with heap:=w.heap.setIfInBounds b (.map (es.modify j fun e=>{e with key:=kV x,val:=v}) c)}) sm ?_ ?_
  ·simp [execOp,A.ev hm,A.ev hk,A.ev hv,Instr.mapUpdate,run_underlying ht,B,iZ hkt,AA,MapKept.run_setObj_map _ he,Instr.keyThatStays,G,H,hkt.bits x]
  ·exact k _ _ ⟨A.defers,A.size,A.at_⟩ (hs.x7 (b:=b) i hC U U (mX _) (fun _ h=>h) ⟨_,_,o8 he,hi.set F J v⟩)
theorem jh.del {es:Array MapEntry} {c:Nat} {m:List (K×Value)} (h:jh kV es c m) {x:K} {j:Nat} {v0:Value} (hj:m[j]? =some (x,v0)):jh kV (es.eraseIdxIfInBounds j) c (eO m x):=by
 have hl:=(aW.1 hj).1
 have D:=h.size
 have A:j<es.size:=by omega
 have B:(es.eraseIdxIfInBounds j).toList=es.toList.eraseIdx j:=by simp [Array.eraseIdxIfInBounds,A]
 have E:eO m x=m.eraseIdx j:=by
  have hn:=h.keys
  clear h D A B
  induction m generalizing j with
  |nil=>simp at hj
  |cons p m ih=>
   obtain ⟨k,v⟩:=p
   simp only [List.map_cons,List.nodup_cons] at hn
   cases j with
   |zero=>
    simp at hj
    obtain ⟨rfl,rfl⟩:=hj
    simp only [eO,List.eraseIdx_zero,List.tail_cons]
    rw [List.filter_cons_of_neg sm]
    refine List.filter_eq_self.2 fun p hp=>?_
    have:p.1≠k:=fun e=>hn.1 (cr.2 ⟨p,hp,e⟩)
    simpa using this
   |succ j=>
    simp only [List.getElem?_cons_succ] at hj
    have C:k≠x:=fun e=>hn.1 (cr.2 ⟨_,aR hj,e.symm⟩)
    simp only [eO,List.eraseIdx_cons_succ] at ih ⊢
    rw [List.filter_cons_of_pos (by simpa using C),ih hj (by simpa using (aW.1 hj).1) hn.2]
 have sub:(es.eraseIdxIfInBounds j).toList.Sublist es.toList:=by rw [B]; exact List.eraseIdx_sublist _ _
 refine ⟨?_,?_,fun e he=>h.G5 e (sub.subset he),h.born.sublist (sub.map _)⟩
 ·rw [B,E,ChangeMaps.map_eraseIdx,ChangeMaps.map_eraseIdx,h.list]
 ·rw [E]; exact h.keys.sublist ((List.eraseIdx_sublist _ _).map _)
theorem CJ {m:List (K×Value)} {x:K} (h:m.lookup x=none):eO m x=m:=List.filter_eq_self.2 fun p hp=>by simpa using hZ.1 h p hp
/-- y, ok := m[x] -/
theorem Hz {t kt et:TypeId} {xm xk:Operand} {b:Nat} {x:K} {z:Value} {m:List (K×Value)} (hg:j0 ops L g=true) (hm:ev L xm=some (.map (some b))) (hk:ev L xk=some (kV x))
 (ht:E.P.underlying t=some (.map kt et)) (hkt:uE E.P kt kV) (hz:tV E.P et=some z) (hC:iN C (jM kV b m).holds):
 SD E ops ⟨dst,.lookup t xm xk true,ty,ps,af,g⟩ D L C (.tuple [(m.lookup x).getD z,.bool (m.lookup x).isSome].toArray):=
 eE hg sm fun a w A hs=>by
  obtain ⟨es,c,he,hi⟩:=hs.has hC
  have B:(getObj b).run E.P w= .ok (.map es c) w:=MapKept.run_getObj_map he
  rcases oJ (P:=E.P) (w:=w) (x:=x) hkt hi with ⟨F,G⟩|⟨j,AA,F,G,H⟩
  ·simp [execOp,Instr.lookup,A.ev hm,A.ev hk,run_underlying ht,B,iZ hkt,F,G,I6 hz]
  ·simp [execOp,Instr.lookup,A.ev hm,A.ev hk,run_underlying ht,B,iZ hkt,F,H]
/-- m[x] -/
theorem Fs {t kt et:TypeId} {xm xk:Operand} {b:Nat} {x:K} {z:Value} {m:List (K×Value)} (hg:j0 ops L g=true) (hm:ev L xm=some (.map (some b))) (hk:ev L xk=some (kV x))
 (ht:E.P.underlying t=some (.map kt et)) (hkt:uE E.P kt kV) (hz:tV E.P et=some z) (hC:iN C (jM kV b m).holds):
 SD E ops ⟨dst,.lookup t xm xk false,ty,ps,af,g⟩ D L C ((m.lookup x).getD z):=
 eE hg sm fun a w A hs=>by
  obtain ⟨es,c,he,hi⟩:=hs.has hC
  have B:(getObj b).run E.P w= .ok (.map es c) w:=MapKept.run_getObj_map he
  rcases oJ (P:=E.P) (w:=w) (x:=x) hkt hi with ⟨F,G⟩|⟨j,AA,F,G,H⟩
  ·simp [execOp,Instr.lookup,A.ev hm,A.ev hk,run_underlying ht,B,iZ hkt,F,G,I6 hz]
  ·simp [execOp,Instr.lookup,A.ev hm,A.ev hk,run_underlying ht,B,iZ hkt,F,H]
theorem sD {β:Type} {t kt et:TypeId} {xm xk:Operand} {b:Nat} {x:K} {f:β→Value} {z:β} {l:List (K×β)} (hg:j0 ops L g=true) (hm:ev L xm=some (.map (some b))) (hk:ev L xk=some (kV x))
 (ht:E.P.underlying t=some (.map kt et)) (hkt:uE E.P kt kV) (hz:tV E.P et=some (f z)) (hC:iN C (jM kV b (cK f l)).holds):
 SD E ops ⟨dst,.lookup t xm xk true,ty,ps,af,g⟩ D L C (.tuple [f ((l.lookup x).getD z),.bool (l.lookup x).isSome].toArray):=by
 have:=Hz (dst:=dst) (ty:=ty) (ps:=ps) (af:=af) (D:=D) hg hm hk ht hkt hz hC
 rw [mL] at this
 have A:((l.lookup x).map f).getD (f z)=f ((l.lookup x).getD z):=by cases l.lookup x<;>rfl
 rw [A,Option.isSome_map] at this
 exact this
theorem ob {β:Type} {t kt et:TypeId} {xm xk:Operand} {b:Nat} {x:K} {f:β→Value} {z:β} {l:List (K×β)} (hg:j0 ops L g=true) (hm:ev L xm=some (.map (some b))) (hk:ev L xk=some (kV x))
 (ht:E.P.underlying t=some (.map kt et)) (hkt:uE E.P kt kV) (hz:tV E.P et=some (f z)) (hC:iN C (jM kV b (cK f l)).holds):
 SD E ops ⟨dst,.lookup t xm xk false,ty,ps,af,g⟩ D L C (f ((l.lookup x).getD z)):=by
 have:=Fs (dst:=dst) (ty:=ty) (ps:=ps) (af:=af) (D:=D) hg hm hk ht hkt hz hC
 rw [mL] at this
 have A:((l.lookup x).map f).getD (f z)=f ((l.lookup x).getD z):=by cases l.lookup x<;>rfl
 rw [A] at this
 exact this
end
theorem mh {β:Type} {x:K} {y:β} {l:List (K×β)} (h:(x,y)∈l):(eO l x).length<l.length:=by
 unfold eO
 exact List.length_filter_lt_length_iff_exists.2 ⟨_,h,sm⟩
theorem yT {β:Type} {x:K} {p:K×β} {l:List (K×β)}:p∈eO l x↔p∈l∧p.1≠x:=by simp [eO]
/-- an iterator over a map: what is left; what came last -/
def zZ (kV:K→Value) (r b:Nat) (m left:List (K×Value)) (cur:Option (K×Value)):av where
 eW k:=k=r∨k=b
 wf k:=k=r∨k=b
 holds w:=r≠b∧ ∃ (es:Array MapEntry) (c since:Nat) (seen:Array Nat) (st:Nat),w.heap[b]? =some (.map es c)∧jh kV es c m∧w.heap[r]? =some (.mapIter (some b) since seen st)∧(∀ e∈es.toList,e.born<since)∧since≤st∧since≤c∧
  (leftOf es seen).toList.map (fun (e:MapEntry)=>(e.key,e.val))=left.map (fun p=>(kV p.1,p.2))∧
  ∀ p,cur=some p→ ∃ (e:MapEntry) (seen0:Array Nat),e∈es.toList∧seen=seen0.push e.born∧st=c∧e.key=kV p.1∧e.val=p.2
 wr:=true
 j_ _ h:=h
 whole _ _ h:=h
 lt w h k hk:=by
  obtain ⟨_,es,c,since,seen,st,h1,_,h2,_⟩:=h
  rcases hk with rfl|rfl
  ·exact dA h2
  ·exact dA h1
 oy w w' hk h:=by
  obtain ⟨hne,es,c,since,seen,st,h1,h2,h3,h4⟩:=h
  exact ⟨hne,es,c,since,seen,st,(hk b (.inr rfl)).trans h1,h2,(hk r (.inl rfl)).trans h3,h4⟩
theorem Aq {r b:Nat} {m left:List (K×Value)} {cur:Option (K×Value)}:(∀ w,(zZ kV r b m left cur).holds w→(zZ kV r b m left none).holds w)∧(∀ k,(zZ kV r b m left none).eW k→(zZ kV r b m left cur).eW k)∧ ∀ k,(zZ kV r b m left none).wf k→(zZ kV r b m left cur).wf k:=
 ⟨fun w h=>by
  obtain ⟨A,es,c,since,seen,st,B,C,D,E,F,h5',G,_⟩:=h
  exact ⟨A,es,c,since,seen,st,B,C,D,E,F,h5',G,fun p hp=>by cases hp⟩,fun _ h=>h,fun _ h=>h⟩
theorem J_ {r b:Nat} {m left:List (K×Value)} {cur:Option (K×Value)}:(∀ w,(zZ kV r b m left cur).holds w→(jM kV b m).holds w)∧(∀ k,(jM kV b m).eW k→(zZ kV r b m left cur).eW k)∧ ∀ k,(jM kV b m).wf k→(zZ kV r b m left cur).wf k:=
 ⟨fun w h=>by
  obtain ⟨C,es,c,since,seen,st,A,B,_⟩:=h
  exact ⟨es,c,A,B⟩,fun _ h=> .inr h,fun _ h=> .inr h⟩
theorem AK {es:Array MapEntry} {c:Nat} {m:List (K×Value)} (hinj: ∀ x y,kV x=kV y→x=y) (hi:jh kV es c m) {x y:MapEntry} (hx:x∈es.toList) (hy:y∈es.toList) (e:x.key=y.key):x=y:=by
 have hk:(es.toList.map (·.key))=(m.map (·.1)).map kV:=by
  have:=congrArg (List.map Prod.fst) hi.list
  simpa [Function.comp_def] using this
 have h:(es.toList.map (·.key)).Nodup:=by
  rw [hk,List.nodup_iff_pairwise_ne,List.pairwise_map]
  exact hi.keys.imp (fun B he=>B (hinj _ _ he))
 obtain ⟨i,A⟩:=List.getElem?_of_mem hx
 obtain ⟨j,hj⟩:=List.getElem?_of_mem hy
 have C:(es.toList.map (·.key))[i]? =some x.key:=by rw [fz,A]; rfl
 have D:(es.toList.map (·.key))[j]? =some x.key:=by rw [fz,hj,e]; rfl
 have E:=(List.getElem?_inj (aW.1 C).1 h).1 (C.trans D.symm)
 subst E
 exact Option.some.inj (A.symm.trans hj)
section
variable {E:eT} {ops:Array Oper} {Q:cZ} {rest:List Oper} {D:List Deferred} {L:List (Nat×Value)} {C:List av}
variable {dst:Option Tmp} {d:Nat} {ty:TypeId} {ps:String} {af:Array Edge} {g:Option (Nat×Bool)}
theorem yS {t kt et:TypeId} {xm:Operand} {b:Nat} {m:List (K×Value)} (i:Nat) (hg:j0 ops L g=true) (hm:ev L xm=some (.map (some b))) (ht:E.P.underlying t=some (.map kt et)) (hC:C[i]? =some (jM kV b m)) (hd:Nat.blt d E.n=true)
 (k: ∀ r,RJ E ops Q rest D ((d,.pointer (some ⟨r,0,none⟩))::L) (C.set i (zZ kV r b m m none))):RJ E ops Q (⟨some d,.range t xm,ty,ps,af,g⟩::rest) D L C:=by
 intro a w A hs
 have hd':d<E.n:=by rw [← Nat.blt_eq]; exact hd
 unfold rX
 rw [if_pos (ed A hg)]
 obtain ⟨es,c,he,hi⟩:=hs.holds _ (aR hC)
 have F:b<w.heap.size:=dA he
 have B:(getObj b).run E.P w= .ok (.map es c) w:=MapKept.run_getObj_map he
 refine iP (v:= .pointer (some ⟨w.heap.size,0,none⟩)) (w':=w.alloc (.mapIter (some b) c #[] c)) sm ?_ ?_
 ·simp [execOp,Instr.range,A.ev hm,run_underlying ht,B,newObj,Sem.run]
 ·refine k _ _ _ (A.put hd' _) (hs.mv i hC ⟨⟨om,es,c,c,#[],c,?_,hi,heap_alloc_new w _,hi.G5,Nat.le_refl _,Nat.le_refl _,?_,fun p hp=>by cases hp⟩,dE.alloc _ w _,fun q hq=>?_,fun q hq=>?_⟩)
  ·rw [Below.heap_alloc w _ b F]; exact he
  ·have:leftOf es #[]=es:=by unfold leftOf; exact Array.filter_eq_self.2 sm
   rw [this]; exact hi.list
  ·rcases hq with rfl|rfl
   ·exact .inr (Nat.le_refl _)
   ·exact .inl U
  ·rcases hq with rfl|rfl
   ·exact .inr (Nat.le_refl _)
   ·exact .inl U
theorem xD {es:Array MapEntry} {c:Nat} {m left:List (K×Value)} {seen:Array Nat} (hinj: ∀ x y,kV x=kV y→x=y) (hi:jh kV es c m) (h:(leftOf es seen).toList.map (fun (e:MapEntry)=>(e.key,e.val))=left.map (fun p=>(kV p.1,p.2))):(left.map (·.1)).Nodup:=by
 have B:((leftOf es seen).toList.map (·.key)).Sublist (es.toList.map (·.key)):=by
  unfold leftOf; rw [Array.toList_filter]; exact List.filter_sublist.map _
 have D:(es.toList.map (·.key))=(m.map (·.1)).map kV:=by
  have:=congrArg (List.map Prod.fst) hi.list
  simpa [Function.comp_def] using this
 have E:((leftOf es seen).toList.map (·.key))=(left.map (·.1)).map kV:=by
  have:=congrArg (List.map Prod.fst) h
  simpa [Function.comp_def] using this
 rw [D,E] at B
 have F:((m.map (·.1)).map kV).Nodup:=by
  rw [List.nodup_iff_pairwise_ne,List.pairwise_map]
  exact hi.keys.imp (fun A he=>A (hinj _ _ he))
 have C:=F.sublist B
 rw [List.nodup_iff_pairwise_ne,List.pairwise_map] at C
 rw [List.nodup_iff_pairwise_ne]
 exact C.imp (fun A he=>A (by rw [he]))
theorem JW (hinj: ∀ x y,kV x=kV y→x=y) {xi:Operand} {r b:Nat} {m left:List (K×Value)} {cur:Option (K×Value)} (i:Nat) (hg:j0 ops L g=true) (hm:ev L xi=some (.pointer (some ⟨r,0,none⟩))) (hC:C[i]? =some (zZ kV r b m left cur)) (hd:Nat.blt d E.n=true)
 (k0:left=[]→RJ E ops Q rest D ((d,.tuple [.bool false].toArray)::L) C)
 (k1: ∀ x v,(x,v)∈left→(left.map (·.1)).Nodup→RJ E ops Q rest D ((d,.tuple [.bool true,kV x,v].toArray)::L) (C.set i (zZ kV r b m (eO left x) (some (x,v))))):
 RJ E ops Q (⟨some d,.next xi false,ty,ps,af,g⟩::rest) D L C:=by
 intro a w G hs
 have hd':d<E.n:=by rw [← Nat.blt_eq]; exact hd
 unfold rX
 rw [if_pos (ed G hg)]
 obtain ⟨R,es,c,since,seen,st,X,hi,Y,J,V,M,A,_⟩:=hs.holds _ (aR hC)
 rcases run_next_at (P:=E.P) w ty r b since st seen es c Y X J V with ⟨Z,hr⟩|⟨e,he,N,H,hr⟩
 ·refine iP (v:= .tuple #[.bool false]) (w':=w) sm ?_ ?_
  ·simp [execOp,G.ev hm,hr]
  ·refine k0 ?_ _ _ (G.put hd' _) hs
   have:(leftOf es seen).toList=[]:=by rw [← List.length_eq_zero_iff,Array.length_toList]; exact Z
   rw [this] at A
   exact List.map_eq_nil_iff.1 A.symm
 ·have O:(e.key,e.val)∈left.map (fun p=>(kV p.1,p.2)):=by rw [← A]; exact cr.2 ⟨e,he,rfl⟩
  obtain ⟨p,hp,S⟩:=cr.1 O
  obtain ⟨x,v⟩:=p
  simp only [Prod.mk.injEq] at S
  obtain ⟨hk,hv⟩:=S
  refine iP (v:= .tuple #[.bool true,e.key,e.val]) (w':=ChangeMaps.setBlock N r (.mapIter (some b) since (seen.push e.born) c)) sm ?_ ?_
  ·simp [execOp,G.ev hm,hr]
  ·rw [← hk,← hv]
   have AA:=xD hinj hi A
   have F:e∈es.toList:=by unfold leftOf at he; rw [Array.toList_filter] at he; exact (List.mem_filter.1 he).1
   have f:c=c:=rfl
   have B:N.heap=w.heap:=by rcases H with rfl|rfl<;>rfl
   refine k1 x v hp AA _ _ (G.put hd' _) (hs.mv i hC ⟨⟨R,es,c,since,seen.push e.born,c,?_,hi,?_,J,M,M,?_,fun q hq=>?_⟩,?_,fun q hq=> .inl hq,fun q hq=> .inl hq⟩)
   ·show (N.heap.setIfInBounds r _)[b]? =_
    rw [Array.getElem?_setIfInBounds_ne R,B]; exact X
   ·show (N.heap.setIfInBounds r _)[r]? =_
    rw [Array.getElem?_setIfInBounds_self_of_lt (by rw [B]; exact dA Y)]
   ·have T:leftOf es (seen.push e.born)=(leftOf es seen).filter (fun z=> !(z.born==e.born)):=by
     unfold leftOf
     rw [Array.filter_filter]
     congr 1
     funext z
     simp only [Array.contains_push,Bool.not_or]
     rw [Bool.and_comm]
    rw [T,Array.toList_filter]
    have key: ∀ (l:List MapEntry) (ll:List (K×Value)),(∀ z∈l,z∈es.toList)→l.map (fun (e:MapEntry)=>(e.key,e.val))=ll.map (fun p=>(kV p.1,p.2))→
     (l.filter (fun z=> !(z.born==e.born))).map (fun (e:MapEntry)=>(e.key,e.val))=(eO ll x).map (fun p=>(kV p.1,p.2)):=by
     intro l
     induction l with
     |nil=>intro ll _ h; cases ll with
      |nil=>rfl
      |cons p ll=>simp at h
     |cons z l ih=>
      intro ll hz h
      cases ll with
      |nil=>simp at h
      |cons p ll=>
       simp only [List.map_cons,List.cons.injEq,Prod.mk.injEq] at h
       have ih':=ih ll (fun y hy=>hz y (by simp [hy])) h.2
       have AB:(z.born=e.born)↔(p.1=x):=by
        constructor
        ·intro hb
         have:z=e:=Cb hi.born (hz z sm) F hb
         rw [this] at h
         have:=h.1.1.symm.trans hk.symm
         exact hinj _ _ this
        ·intro hx
         have W:z.key=e.key:=by rw [h.1.1,hx,hk]
         rw [AK hinj hi (hz z sm) F W]
       unfold eO at ih' ⊢
       by_cases hx:p.1=x
       ·rw [List.filter_cons_of_neg (by simp [AB.2 hx]),List.filter_cons_of_neg (by simp [hx])]; exact ih'
       ·rw [List.filter_cons_of_pos (by simpa using fun hb=>hx (AB.1 hb)),List.filter_cons_of_pos (by simpa using hx)]
        simp only [List.map_cons,h.1.1,h.1.2,ih']
    exact key _ _ (fun z hz=>by unfold leftOf at hz; rw [Array.toList_filter] at hz; exact (List.mem_filter.1 hz).1) A
   ·cases hq
    exact ⟨e,seen,F,U,U,hk.symm,hv.symm⟩
   ·refine ⟨?_,?_,?_,?_,fun q hq hn=>?_⟩
    ·rcases H with rfl|rfl<;>rfl
    ·rcases H with rfl|rfl<;>rfl
    ·rcases H with rfl|rfl<;>rfl
    ·show w.heap.size≤(N.heap.setIfInBounds r _).size
     simp [B]
    ·show (N.heap.setIfInBounds r _)[q]? =_
     rw [Array.getElem?_setIfInBounds_ne (fun e=>hn (.inl e.symm)),B]
theorem xO {xi:Operand} {r b:Nat} {m left:List (K×Value)} {x:K} {v:Value} (i:Nat) (hg:j0 ops L g=true) (hm:ev L xi=some (.pointer (some ⟨r,0,none⟩))) (hC:C[i]? =some (zZ kV r b m left (some (x,v)))):
 SD E ops ⟨dst,.entry xi,ty,ps,af,g⟩ D L C (.tuple [kV x,v].toArray):=
 eE hg sm fun a w F hs=>by
  obtain ⟨N,es,c,since,seen,st,J,hi,M,H,O,AA,G,B⟩:=hs.holds _ (aR hC)
  obtain ⟨e,A,he,rfl,rfl,hk,hv⟩:=B _ rfl
  have:=run_entry_at (P:=E.P) w r b since A es st e M J he hi.born
  simp [execOp,F.ev hm,this,hk,hv]
theorem wS (hinj: ∀ x y,kV x=kV y→x=y) {β:Type} {f:β→Value} {xi:Operand} {r b:Nat} {m:List (K×Value)} {ll:List (K×β)} {cur:Option (K×Value)} (i:Nat) (hg:j0 ops L g=true) (hm:ev L xi=some (.pointer (some ⟨r,0,none⟩))) (hC:C[i]? =some (zZ kV r b m (cK f ll) cur)) (hd:Nat.blt d E.n=true)
 (k0:ll=[]→RJ E ops Q rest D ((d,.tuple [.bool false].toArray)::L) C)
 (k1: ∀ x y,(x,y)∈ll→(ll.map (·.1)).Nodup→RJ E ops Q rest D ((d,.tuple [.bool true,kV x,f y].toArray)::L) (C.set i (zZ kV r b m (cK f (eO ll x)) (some (x,f y))))):
 RJ E ops Q (⟨some d,.next xi false,ty,ps,af,g⟩::rest) D L C:=by
 refine JW hinj i hg hm hC hd (fun h=>k0 (List.map_eq_nil_iff.1 h)) (fun x v B hn=>?_)
 obtain ⟨p,hp,A⟩:=cr.1 B
 simp only [Prod.mk.injEq] at A
 obtain ⟨rfl,rfl⟩:=A
 have:=k1 p.1 p.2 hp (by simpa [cK,Function.comp_def] using hn)
 rwa [nj] at this
end
end
end
section
structure bS where
 Start:Int
 fJ:Int
 pU:List Int
 vn:List (List (Int×ag))
 eP:Int
 iI:Int
 N_:Int
def bS.n (w:bS):Nat:=w.pU.length
def e7 (s:Int):aC:=if s<0 then ⟨0,1⟩ else ⟨1,0⟩
def dv (a b:aC):aC:=⟨a.right+b.right,a.eG+b.eG⟩
def tW (w:bS) (b:Nat):List (Int×ag):=(w.vn[b]?).getD []
def iH (w:bS) (b:Nat):List (Int×ag):=(-1,⟨w.Start,w.fJ⟩)::tW w b
def bY (w:bS) (b:Nat):Int:=(w.pU[b]?).getD 0
def kK (w:bS) (b:Nat) (p:aC×Int) (o:Int×ag):Option (aC×Int):=if max (p.2+bY w b) o.2.Lo≤min o.2.Hi w.fJ then some (dv p.1 (e7 o.1),max (p.2+bY w b) o.2.Lo) else none
def fwd (w:bS):Nat→List (aC×Int)
 |0=>[(⟨0,0⟩,w.Start)]
 |b+1=>(fwd w b).flatMap fun p=>(iH w b).filterMap (kK w b p)
def nM (w:bS) (b:Nat) (p:aC×Int) (o:Int×ag):Option (aC×Int):=if o.2.Lo≤min p.2 o.2.Hi then some (dv p.1 (e7 o.1),min p.2 o.2.Hi-bY w b) else none
def bwd (w:bS):Nat→List (aC×Int)
 |0=>[(⟨0,0⟩,w.fJ)]
 |k+1=>(⟨0,0⟩,w.fJ)::(bwd w k).flatMap fun p=>(iH w (w.n-(k+1))).filterMap (nM w (w.n-(k+1)) p)
def back (w:bS) (b:Nat):List (aC×Int):=bwd w (w.n-b)
def ks (w:bS) (t:aC):Bool:=decide (t.eG≤w.eP∧w.N_-t.right≤w.iI)
theorem fO {w:bS} {b:Nat} {q:aC×Int}:q∈fwd w (b+1)↔ ∃ p∈fwd w b,∃ o∈iH w b,kK w b p o=some q:=by
 simp only [fwd,List.mem_flatMap,List.mem_filterMap]
theorem uv {w:bS} {b:Nat} (h:w.n≤b):back w b=[(⟨0,0⟩,w.fJ)]:=by
 unfold back; rw [Nat.sub_eq_zero_of_le h]; rfl
theorem oP {w:bS} {b:Nat} (h:b<w.n) {q:aC×Int}:q∈back w b↔q=(⟨0,0⟩,w.fJ)∨ ∃ p∈back w (b+1),∃ o∈iH w b,nM w b p o=some q:=by
 unfold back
 have e:w.n-b=(w.n-(b+1))+1:=by omega
 rw [e]
 simp only [bwd,bO,List.mem_flatMap,List.mem_filterMap]
 rw [show w.n-(w.n-(b+1)+1)=b by omega]
def tf (m c:List (aC×Int)):Prop:=(∀ t v,m.lookup t=some v→(t,v)∈c)∧ ∀ t y,(t,y)∈c→ ∃ v,m.lookup t=some v∧v≤y
def vj (m c:List (aC×Int)):Prop:=(∀ t v,m.lookup t=some v→(t,v)∈c)∧ ∀ t y,(t,y)∈c→ ∃ v,m.lookup t=some v∧y≤v
def u6 (m c:List (aC×Int)):Prop:= ∀ t v,m.lookup t=some v→(t,v)∈c
theorem lf {K β:Type} [DecidableEq K] {m:List (K×β)} {x t:K} {y:β}:(dz m x y).lookup t=if t=x then some y else m.lookup t:=by
 unfold dz
 by_cases hx:(m.lookup x).isSome
 ·rw [if_pos hx]
  have key: ∀ l:List (K×β),(l.lookup x).isSome∨True→(l.map (fun p=>if p.1=x then (x,y) else p)).lookup t=if t=x then (if (l.lookup x).isSome then some y else none) else l.lookup t:=by
   intro l _
   induction l with
   |nil=>simp
   |cons p l ih=>
    obtain ⟨k,v⟩:=p
    have ih:=ih (.inr trivial)
    by_cases hk:k=x
    ·subst hk
     by_cases ht:t=k
     ·subst ht; simp [List.lookup]
     ·have:(t==k)=false:=by simpa using ht
      simp only [List.map_cons,if_true,List.lookup,this,ih,if_neg ht]
    ·have hk':(x==k)=false:=by simpa using fun e=>hk e.symm
     by_cases ht:t=k
     ·subst ht; simp [List.lookup,hk]
     ·have A:(t==k)=false:=by simpa using ht
      simp only [List.map_cons,if_neg hk,List.lookup,A,ih,hk']
  rw [key m (.inr trivial)]
  by_cases ht:t=x
  ·subst ht
   rw [if_pos rfl,if_pos rfl,if_pos hx]
  ·rw [if_neg ht,if_neg ht]
 ·rw [if_neg hx]
  have hn:m.lookup x=none:=by cases h0:m.lookup x with
   |none=>rfl
   |some v=>exact absurd (by rw [h0]; rfl) hx
  by_cases ht:t=x
  ·subst ht
   rw [if_pos rfl]
   have:=hZ.1 hn
   clear hn hx
   induction m with
   |nil=>simp
   |cons p m ih=>
    obtain ⟨k,v⟩:=p
    have hk:(t==k)=false:=by simpa using fun e=>this (k,v) sm e.symm
    simp only [List.cons_append,List.lookup,hk]
    exact ih (fun q hq=>this q (dJ _ hq))
  ·rw [if_neg ht]
   clear hn hx
   induction m with
   |nil=>
    have:(t==x)=false:=by simpa using ht
    simp [List.lookup,this]
   |cons p m ih=>
    obtain ⟨k,v⟩:=p
    by_cases hk:t=k
    ·subst hk; simp [List.lookup]
    ·have:(t==k)=false:=by simpa using hk
     simp only [List.cons_append,List.lookup,this]
     exact ih
/-- what a map is after a try -/
def o_ (m:List (aC×Int)) (q:aC×Int):List (aC×Int):=match m.lookup q.1 with
 |none=>dz m q.1 q.2
 |some v=>if q.2<v then dz m q.1 q.2 else m
def oH (m:List (aC×Int)) (q:aC×Int):List (aC×Int):=match m.lookup q.1 with
 |none=>dz m q.1 q.2
 |some v=>if v<q.2 then dz m q.1 q.2 else m
theorem wB {m:List (aC×Int)} {q:aC×Int} {t:aC}:(o_ m q).lookup t=if t=q.1 then some (match m.lookup q.1 with |none=>q.2|some v=>min q.2 v) else m.lookup t:=by
 unfold o_
 cases h:m.lookup q.1 with
 |none=>simp only; rw [lf]
 |some v=>
  simp only
  split
  ·rename_i A
   rw [lf,Int.min_eq_left om]
  ·rename_i A
   split
   ·rename_i e; subst e; rw [h,Int.min_eq_right om]
   ·rfl
theorem wZ {m:List (aC×Int)} {q:aC×Int} {t:aC}:(oH m q).lookup t=if t=q.1 then some (match m.lookup q.1 with |none=>q.2|some v=>max q.2 v) else m.lookup t:=by
 unfold oH
 cases h:m.lookup q.1 with
 |none=>simp only; rw [lf]
 |some v=>
  simp only
  split
  ·rename_i A
   rw [lf,Int.max_eq_left om]
  ·rename_i A
   split
   ·rename_i e; subst e; rw [h,Int.max_eq_right om]
   ·rfl
def wH (m m':List (aC×Int)):Prop:= ∀ t v,m.lookup t=some v→ ∃ v',m'.lookup t=some v'∧v'≤v
def xo (m m':List (aC×Int)):Prop:= ∀ t v,m.lookup t=some v→ ∃ v',m'.lookup t=some v'∧v≤v'
theorem wH.refl (m:List (aC×Int)):wH m m:=fun t v h=>⟨v,h,om⟩
theorem xo.refl (m:List (aC×Int)):xo m m:=fun t v h=>⟨v,h,om⟩
theorem vb {m:List (aC×Int)} {q:aC×Int}:wH m (o_ m q):=fun t v h=>by
 rw [wB]
 split
 ·rename_i e; subst e; rw [h]; exact ⟨_,rfl,by simp only; omega⟩
 ·exact ⟨v,h,om⟩
theorem qC {m:List (aC×Int)} {q:aC×Int}:xo m (oH m q):=fun t v h=>by
 rw [wZ]
 split
 ·rename_i e; subst e; rw [h]; exact ⟨_,rfl,by simp only; omega⟩
 ·exact ⟨v,h,om⟩
theorem Gv {m c:List (aC×Int)} {q:aC×Int} (h:u6 m c) (hq:q∈c):u6 (o_ m q) c:=fun t v hv=>by
 rw [wB] at hv
 split at hv
 ·rename_i e
  subst e
  cases hm:m.lookup q.1 with
  |none=>simp only [hm,Option.some.injEq] at hv; subst hv; exact hq
  |some x=>
   simp only [hm,Option.some.injEq] at hv; subst hv
   rcases Int.lt_or_le q.2 x with A|A
   ·rw [Int.min_eq_left om]; exact hq
   ·rw [Int.min_eq_right om]; exact h _ _ hm
 ·exact h t v hv
theorem F9 {m c:List (aC×Int)} {q:aC×Int} (h:u6 m c) (hq:q∈c):u6 (oH m q) c:=fun t v hv=>by
 rw [wZ] at hv
 split at hv
 ·rename_i e
  subst e
  cases hm:m.lookup q.1 with
  |none=>simp only [hm,Option.some.injEq] at hv; subst hv; exact hq
  |some x=>
   simp only [hm,Option.some.injEq] at hv; subst hv
   rcases Int.lt_or_le q.2 x with A|A
   ·rw [Int.max_eq_right om]; exact h _ _ hm
   ·rw [Int.max_eq_left om]; exact hq
 ·exact h t v hv
theorem FT {m:List (aC×Int)} {q:aC×Int}: ∃ v,(o_ m q).lookup q.1=some v∧v≤q.2:=by
 rw [wB,if_pos rfl]
 refine ⟨_,U,?_⟩
 cases m.lookup q.1<;>simp only <;>omega
theorem Fe {m:List (aC×Int)} {q:aC×Int}: ∃ v,(oH m q).lookup q.1=some v∧q.2≤v:=by
 rw [wZ,if_pos rfl]
 refine ⟨_,U,?_⟩
 cases m.lookup q.1<;>simp only <;>omega
/-- all that comes of one entry, by some options, is held -/
def jl (w:bS) (b:Nat) (m:List (aC×Int)) (p:aC×Int) (os:List (Int×ag)):Prop:= ∀ o∈os,∀ q,kK w b p o=some q→ ∃ v,m.lookup q.1=some v∧v≤q.2
def jk (w:bS) (b:Nat) (m:List (aC×Int)) (p:aC×Int) (os:List (Int×ag)):Prop:= ∀ o∈os,∀ q,nM w b p o=some q→ ∃ v,m.lookup q.1=some v∧q.2≤v
theorem jl.lower {w:bS} {b:Nat} {m m':List (aC×Int)} {p:aC×Int} {os:List (Int×ag)} (h:jl w b m p os) (hl:wH m m'):jl w b m' p os:=fun o ho q hq=>by
 obtain ⟨v,A,C⟩:=h o ho q hq
 obtain ⟨v',B,D⟩:=hl _ _ A
 exact ⟨v',B,om⟩
theorem jk.upper {w:bS} {b:Nat} {m m':List (aC×Int)} {p:aC×Int} {os:List (Int×ag)} (h:jk w b m p os) (hl:xo m m'):jk w b m' p os:=fun o ho q hq=>by
 obtain ⟨v,A,C⟩:=h o ho q hq
 obtain ⟨v',B,D⟩:=hl _ _ A
 exact ⟨v',B,om⟩
theorem jl.sub {w:bS} {b:Nat} {m:List (aC×Int)} {p:aC×Int} {os os':List (Int×ag)} (h:jl w b m p os) (hs: ∀ o∈os',o∈os):jl w b m p os':=fun o ho=>h o (hs o ho)
theorem jk.sub {w:bS} {b:Nat} {m:List (aC×Int)} {p:aC×Int} {os os':List (Int×ag)} (h:jk w b m p os) (hs: ∀ o∈os',o∈os):jk w b m p os':=fun o ho=>h o (hs o ho)
theorem jl.add {w:bS} {b:Nat} {m m':List (aC×Int)} {p:aC×Int} {os:List (Int×ag)} {o:Int×ag} (h:jl w b m p os) (hl:wH m m') (hn: ∀ q,kK w b p o=some q→ ∃ v,m'.lookup q.1=some v∧v≤q.2):jl w b m' p (os++[o]):=fun o' ho q hq=>by
 rcases gR.1 ho with ho|ho
 ·exact h.lower hl o' ho q hq
 ·simp only [cd] at ho; subst ho; exact hn q hq
theorem jk.add {w:bS} {b:Nat} {m m':List (aC×Int)} {p:aC×Int} {os:List (Int×ag)} {o:Int×ag} (h:jk w b m p os) (hl:xo m m') (hn: ∀ q,nM w b p o=some q→ ∃ v,m'.lookup q.1=some v∧q.2≤v):jk w b m' p (os++[o]):=fun o' ho q hq=>by
 rcases gR.1 ho with ho|ho
 ·exact h.upper hl o' ho q hq
 ·simp only [cd] at ho; subst ho; exact hn q hq
theorem fr {m:List (aC×Int)} (hn:(m.map (·.1)).Nodup) {t:aC} {v:Int}:(t,v)∈m↔m.lookup t=some v:=kR hn
theorem oI {z t:aC} {x v:Int}:List.lookup t [(z,x)]=some v↔t=z∧v=x:=by
 by_cases e:t=z
 ·subst e; simp [List.lookup,eq_comm]
 ·have:(t==z)=false:=by simpa using e
  simp [List.lookup,this,e]
theorem Fb {w:bS}:tf [(⟨0,0⟩,w.Start)] (fwd w 0):=by
 refine ⟨fun t v h=>?_,fun t y h=>?_⟩
 ·obtain ⟨rfl,rfl⟩:=oI.1 h
  simp [fwd]
 ·simp only [fwd,cd,Prod.mk.injEq] at h
  obtain ⟨rfl,rfl⟩:=h
  exact ⟨w.Start,oI.2 ⟨U,U⟩,Int.le_refl _⟩
theorem G6 {w:bS} {b:Nat} {mb m:List (aC×Int)} (hn:(mb.map (·.1)).Nodup) (h:tf mb (fwd w b)) (hs:u6 m (fwd w (b+1))) (hd: ∀ p∈mb,jl w b m p (iH w b)):tf m (fwd w (b+1)):=⟨hs,fun t y hy=>by
 obtain ⟨p,hp,o,ho,e⟩:=fO.1 hy
 obtain ⟨v,B,E⟩:=h.2 p.1 p.2 hp
 unfold kK at e
 split at e
 ·rename_i D
  simp only [Option.some.injEq,Prod.mk.injEq] at e
  obtain ⟨v',A,C⟩:=hd (p.1,v) ((fr hn).2 B) o ho (dv p.1 (e7 o.1),max (v+bY w b) o.2.Lo) (by unfold kK; rw [if_pos (by simp only; omega)])
  simp only at A C
  rw [e.1] at A
  exact ⟨v',A,om⟩
 ·cases e⟩
theorem IL {w:bS} {b:Nat} (hb:w.n≤b):vj [(⟨0,0⟩,w.fJ)] (back w b):=by
 rw [uv hb]
 refine ⟨fun t v h=>?_,fun t y h=>?_⟩
 ·obtain ⟨rfl,rfl⟩:=oI.1 h
  simp
 ·simp only [cd,Prod.mk.injEq] at h
  obtain ⟨rfl,rfl⟩:=h
  exact ⟨w.fJ,oI.2 ⟨U,U⟩,Int.le_refl _⟩
theorem Iv {w:bS} {b:Nat} (hb:b<w.n) {mb m:List (aC×Int)} (hn:(mb.map (·.1)).Nodup) (h:vj mb (back w (b+1))) (hs:u6 m (back w b)) (h0: ∃ v,m.lookup ⟨0,0⟩=some v∧w.fJ≤v) (hd: ∀ p∈mb,jk w b m p (iH w b)):vj m (back w b):=⟨hs,fun t y hy=>by
 rcases (oP hb).1 hy with e|⟨p,hp,o,ho,e⟩
 ·simp only [Prod.mk.injEq] at e
  obtain ⟨rfl,rfl⟩:=e
  exact h0
 obtain ⟨v,B,E⟩:=h.2 p.1 p.2 hp
 unfold nM at e
 split at e
 ·rename_i D
  simp only [Option.some.injEq,Prod.mk.injEq] at e
  obtain ⟨v',A,C⟩:=hd (p.1,v) ((fr hn).2 B) o ho (dv p.1 (e7 o.1),min v o.2.Hi-bY w b) (by unfold nM; rw [if_pos (by simp only; omega)])
  simp only at A C
  rw [e.1] at A
  exact ⟨v',A,om⟩
 ·cases e⟩
end
section
def jx (w:bS) (b:Nat) (p u:aC×Int) (o:Int×ag):ag:=⟨max (p.2+bY w b) o.2.Lo,min u.2 o.2.Hi⟩
def w4 (p u:aC×Int) (o:Int×ag):aC:=dv (dv p.1 u.1) (e7 o.1)
def l8 (w:bS) (b:Nat) (p u:aC×Int) (o:Int×ag):Option (Int×ag):=if (jx w b p u o).Lo≤(jx w b p u o).Hi∧ks w (w4 p u o)=true then some (o.1,jx w b p u o) else none
def p9 (w:bS) (b:Nat) (mf mb:List (aC×Int)):List (Int×ag):=(iH w b).flatMap fun o=>mf.flatMap fun p=>mb.filterMap fun u=>l8 w b p u o
def ml (w:bS) (b:Nat):List (Int×ag):=p9 w b (fwd w b) (back w (b+1))
theorem ir {w:bS} {b:Nat} {mf mb:List (aC×Int)} {q:Int×ag}:q∈p9 w b mf mb↔ ∃ o∈iH w b,∃ p∈mf,∃ u∈mb,l8 w b p u o=some q:=by
 simp only [p9,List.mem_flatMap,List.mem_filterMap]
theorem jq {w:bS} {b:Nat} {p u:aC×Int} {o q:Int×ag}:l8 w b p u o=some q↔(jx w b p u o).Lo≤(jx w b p u o).Hi∧ks w (w4 p u o)=true∧q=(o.1,jx w b p u o):=by
 unfold l8
 split
 ·rename_i h
  simp only [Option.some.injEq]
  exact ⟨fun e=>⟨h.1,h.2,e.symm⟩,fun e=>e.2.2.symm⟩
 ·rename_i h
  simp only [reduceCtorEq,false_iff]
  exact fun e=>h ⟨e.1,e.2.1⟩
theorem mM {w:bS} {b:Nat} {mf mb:List (aC×Int)} {q:Int×ag} (h:q∈p9 w b mf mb):q.2.Lo≤q.2.Hi:=by
 obtain ⟨o,_,p,_,u,_,e⟩:=ir.1 h
 obtain ⟨A,_,rfl⟩:=jq.1 e
 exact A
/-- what the maps tell is what all ways tell -/
theorem LL {w:bS} {b:Nat} {mf mb:List (aC×Int)} (hf:tf mf (fwd w b)) (hb:vj mb (back w (b+1))) (nf:(mf.map (·.1)).Nodup) (nb:(mb.map (·.1)).Nodup) {q:Int×ag} (h:q∈p9 w b mf mb):q∈ml w b:=by
 obtain ⟨o,ho,p,hp,u,hu,e⟩:=ir.1 h
 exact ir.2 ⟨o,ho,p,hf.1 _ _ ((fr nf).1 hp),u,hb.1 _ _ ((fr nb).1 hu),e⟩
theorem Ko {w:bS} {b:Nat} {mf mb:List (aC×Int)} (hf:tf mf (fwd w b)) (hb:vj mb (back w (b+1))) (nf:(mf.map (·.1)).Nodup) (nb:(mb.map (·.1)).Nodup) {q:Int×ag} (h:q∈ml w b): ∃ q'∈p9 w b mf mb,q'.1=q.1∧q'.2.Lo≤q.2.Lo∧q.2.Hi≤q'.2.Hi:=by
 obtain ⟨o,ho,p,hp,u,hu,e⟩:=ir.1 h
 obtain ⟨A,B,rfl⟩:=jq.1 e
 obtain ⟨v,hv,C⟩:=hf.2 p.1 p.2 hp
 obtain ⟨y,hy,D⟩:=hb.2 u.1 u.2 hu
 simp only [jx] at A
 refine ⟨(o.1,jx w b (p.1,v) (u.1,y) o),ir.2 ⟨o,ho,(p.1,v),(fr nf).2 hv,(u.1,y),(fr nb).2 hy,jq.2 ⟨?_,B,U⟩⟩,U,?_,?_⟩
 ·simp only [jx]; omega
 ·simp only [jx]; omega
 ·simp only [jx]; omega
def l6:ag:=⟨1,0⟩
def mq (h x:ag):ag:=if h=l6 then x else ⟨min x.Lo h.Lo,max x.Hi h.Hi⟩
def vc (l:List (Int×ag)):ag:=l.foldl (fun h q=>mq h q.2) l6
structure oz (l:List (Int×ag)) (h:ag):Prop where
 le:h.Lo≤h.Hi
 lo: ∃ x∈l,x.2.Lo=h.Lo
 hi: ∃ x∈l,x.2.Hi=h.Hi
 all: ∀ x∈l,h.Lo≤x.2.Lo∧x.2.Hi≤h.Hi
def ki (l:List (Int×ag)) (h:ag):Prop:=(l=[]∧h=l6)∨oz l h
theorem oz.ne {l:List (Int×ag)} {h:ag} (hh:oz l h):h≠l6:=fun e=>by
 have:=hh.le; rw [e] at this; simp [l6] at this
theorem B8:ki [] l6:= .inl ⟨rfl,rfl⟩
theorem ug {l:List (Int×ag)} {h:ag} {q:Int×ag} (hh:ki l h) (hq:q.2.Lo≤q.2.Hi):ki (l++[q]) (mq h q.2):=by
 right
 rcases hh with ⟨rfl,rfl⟩|hh
 ·unfold mq
  rw [if_pos rfl]
  exact ⟨hq,⟨q,sm,rfl⟩,⟨q,sm,rfl⟩,fun x hx=>by simp at hx; subst hx; exact ⟨Int.le_refl _,Int.le_refl _⟩⟩
 ·unfold mq
  rw [if_neg hh.ne]
  have A:=hh.le
  obtain ⟨a,ha,ea⟩:=hh.lo
  obtain ⟨c,hc,ec⟩:=hh.hi
  refine ⟨by simp only; omega,?_,?_,fun x hx=>?_⟩
  ·rcases Int.lt_or_le q.2.Lo h.Lo with p|p
   ·exact ⟨q,sm,by simp only; omega⟩
   ·exact ⟨a,by simp [ha],by simp only; omega⟩
  ·rcases Int.lt_or_le h.Hi q.2.Hi with p|p
   ·exact ⟨q,sm,by simp only; omega⟩
   ·exact ⟨c,by simp [hc],by simp only; omega⟩
  ·rcases gR.1 hx with hx|hx
   ·have:=hh.all x hx; simp only; omega
   ·simp at hx; subst hx; simp only; omega
theorem uW {l:List (Int×ag)} (hl: ∀ q∈l,q.2.Lo≤q.2.Hi):ki l (vc l):=by
 have key: ∀ (r d:List (Int×ag)) (h:ag),(∀ q∈r,q.2.Lo≤q.2.Hi)→ki d h→ki (d++r) (r.foldl (fun h q=>mq h q.2) h):=by
  intro r
  induction r with
  |nil=>intro d h _ hd; simpa using hd
  |cons q r ih=>
   intro d h hr hd
   have:=ih (d++[q]) (mq h q.2) (fun x hx=>hr x (dJ _ hx)) (ug hd (hr q sm))
   simpa using this
 have:=key l [] l6 hl B8
 rw [List.nil_append] at this
 exact this
def Da (a b:List (Int×ag)):Prop:= ∀ x∈b,∃ y∈a,y.2.Lo≤x.2.Lo∧x.2.Hi≤y.2.Hi
theorem K3 {a b:List (Int×ag)} {h k:ag} (ha:ki a h) (hb:ki b k) (hab:Da a b) (hba:Da b a):h=k:=by
 rcases ha with ⟨rfl,rfl⟩|ha
 ·rcases hb with ⟨rfl,rfl⟩|hb
  ·rfl
  ·obtain ⟨x,hx,_⟩:=hb.lo
   obtain ⟨y,hy,_⟩:=hab x hx
   cases hy
 ·rcases hb with ⟨rfl,rfl⟩|hb
  ·obtain ⟨x,hx,_⟩:=ha.lo
   obtain ⟨y,hy,_⟩:=hba x hx
   cases hy
  ·have le: ∀ {a b:List (Int×ag)} {h k:ag},oz a h→oz b k→Da a b→h.Lo≤k.Lo∧k.Hi≤h.Hi:=fun {a b h k} ha hb hab=>by
    obtain ⟨x,hx,ex⟩:=hb.lo
    obtain ⟨z,hz,ez⟩:=hb.hi
    obtain ⟨y,hy,ey⟩:=hab x hx
    obtain ⟨y',hy',ey'⟩:=hab z hz
    have A:=ha.all y hy
    have B:=ha.all y' hy'
    omega
   have A:=le ha hb hab
   have B:=le hb ha hba
   rw [ag.ext_iff]; omega
theorem x5 {w:bS} {b:Nat} {mf mb:List (aC×Int)} {l:List (Int×ag)} {h:ag} (hf:tf mf (fwd w b)) (hb:vj mb (back w (b+1))) (nf:(mf.map (·.1)).Nodup) (nb:(mb.map (·.1)).Nodup)
 (hl: ∀ q∈l,q∈p9 w b mf mb) (hl2: ∀ q∈p9 w b mf mb,q∈l) (hh:ki l h):h=vc (ml w b):=
 K3 hh (uW fun q hq=>mM hq) (fun x hx=>by
  obtain ⟨q,hq,_,A,B⟩:=Ko hf hb nf nb hx
  exact ⟨q,hl2 q hq,A,B⟩) (fun x hx=>⟨x,LL hf hb nf nb (hl x hx),Int.le_refl _,Int.le_refl _⟩)
def jt (w:bS) (m:List (aC×Int)):Bool:=m.any fun p=>ks w p.1
theorem As {w:bS} {b:Nat} {m:List (aC×Int)} (h:tf m (fwd w b)) (nf:(m.map (·.1)).Nodup):jt w m=jt w (fwd w b):=by
 unfold jt
 rw [Bool.eq_iff_iff,List.any_eq_true,List.any_eq_true]
 constructor
 ·rintro ⟨p,hp,A⟩
  exact ⟨p,h.1 _ _ ((fr nf).1 hp),A⟩
 ·rintro ⟨p,hp,A⟩
  obtain ⟨v,hv,_⟩:=h.2 p.1 p.2 hp
  exact ⟨(p.1,v),(fr nf).2 hv,A⟩
def ke (w:bS) (k:Nat):List Int:=((List.range k).filter fun i=>jt w (fwd w i)).map fun (i:Nat)=>(i:Int)
def gX (w:bS):List Int:=ke w (w.n+1)
theorem CK {w:bS} {k:Nat} (h:jt w (fwd w k)=true):ke w (k+1)=ke w k++[(k:Int)]:=by simp [ke,List.range_succ,h]
theorem GS {w:bS} {k:Nat} (h:jt w (fwd w k)=false):ke w (k+1)=ke w k:=by simp [ke,List.range_succ,h]
theorem se {w:bS} {k:Nat}:(ke w k).length≤k:=by
 unfold ke
 rw [List.length_map]
 exact Nat.le_trans (List.length_filter_le _ _) sm
end
section
open Go.RowKit
theorem Gt {P:Program} {t:Nat} {k:IntKind} (hu:P.underlying t=some (.int k)) (e:Bool) (n:Nat) (v:Value) (w:World):(Instr.checkKey e (n+1) t v).run P w= .ok () w:=by
 unfold Instr.checkKey
 simp only [Sem.run_bind,run_underlying hu,Result.andThen]
 cases v<;>rfl
theorem zQ {P:Program} {kt:Nat} {l:List (Nat×Nat)} (hl:fL P kt=some l) (e:Bool) (n:Nat) (cs:Array Value) (w:World)
 (hf: ∀ p∈l,(∃ v,(part p.1 cs p.2).run P w= .ok v w)∧ ∃ k,P.underlying p.1=some (.int k)):(Instr.checkKey e (n+2) kt (.agg cs)).run P w= .ok () w:=by
 unfold fL at hl
 cases hu:P.underlying kt with
 |none=>simp [hu] at hl
 |some d=>
  cases d<;>simp [hu] at hl
  rename_i fs
  obtain ⟨hn,hl⟩:=hl
  rw [show n+2=(n+1)+1 from rfl,Instr.checkKey]
  simp only [Sem.run_bind,run_underlying hu,Result.andThen_ok]
  rw [← Array.forIn_toList]
  have A: ∀ f∈fs.toList,(∃ v,(part f.type cs f.offset).run P w= .ok v w)∧ ∃ k,P.underlying f.type=some (.int k):=fun f hf'=>hf (f.type,f.offset) (by rw [← hl]; exact cr.2 ⟨f,hf',rfl⟩)
  have B: ∀ f∈fs.toList,f.name≠"_":=fun f hf'=>by
   obtain ⟨i,hi,rfl⟩:=List.getElem_of_mem hf'
   exact hn.1.1 i (by simpa using hi)
  clear hl hn hf
  generalize fs.toList=L at A B
  induction L with
  |nil=>simp
  |cons f L ih=>
   obtain ⟨⟨v,hv⟩,k,hk⟩:=A f sm
   have C:=B f sm
   simp only [List.forIn_cons,Sem.run_bind,C,ne_eq,not_false_eq_true,if_true,Result.andThen_ok,hv,Gt hk,Sem.run_pure]
   exact ih (fun y hy=>A y (by simp [hy])) (fun y hy=>B y (by simp [hy]))
theorem Bs {P:Program} {kt:Nat} {K:Type} [DecidableEq K] {kV:K→Value} (hw: ∀ (k:Value) (es:List MapEntry) (w:World),(Instr.findKey kt k es).run P w=(Instr.findAsking kt k es).run P w)
 (heq: ∀ x y w,(Op.equal kt (kV x) (kV y)).run P w= .ok (decide (x=y)) w) (inj: ∀ x y,kV x=kV y→x=y) (x:K) (w:World) (es:List MapEntry) (hk: ∀ e∈es,∃ k,e.key=kV k):
 ((Instr.findKey kt (kV x) es).run P w= .ok none w∧ ∀ e∈es,e.key≠kV x)∨ ∃ j e,(Instr.findKey kt (kV x) es).run P w= .ok (some (j,e.val)) w∧es[j]? =some e∧e.key=kV x:=by
 have key: ∀ (es:List MapEntry) (i:Nat),(∀ e∈es,∃ k,e.key=kV k)→((Instr.findAsking kt (kV x) es i).run P w= .ok none w∧ ∀ e∈es,e.key≠kV x)∨ ∃ j e,(Instr.findAsking kt (kV x) es i).run P w= .ok (some (i+j,e.val)) w∧es[j]? =some e∧e.key=kV x:=by
  intro es
  induction es with
  |nil=>intro i _; exact .inl ⟨by simp [Instr.findAsking],sm⟩
  |cons e es ih=>
   intro i B
   obtain ⟨k,A⟩:=B e sm
   by_cases h:x=k
   ·refine .inr ⟨0,e,?_,U,by rw [A,h]⟩
    subst h
    simp [Instr.findAsking,A,heq]
   ·rcases ih (i+1) (fun y hy=>B y (by simp [hy])) with ⟨C,D⟩|⟨j,e',C,D,E⟩
    ·refine .inl ⟨by simp [Instr.findAsking,A,heq,h,C],fun y hy=>?_⟩
     rcases bO.1 hy with rfl|hy
     ·rw [A]; exact fun q=>h (inj _ _ q).symm
     ·exact D y hy
    ·exact .inr ⟨j+1,e',by simp [Instr.findAsking,A,heq,h,C]; omega,by simpa using D,E⟩
 rw [hw]
 rcases key es 0 hk with h|⟨j,e,C,D,E⟩
 ·exact .inl h
 ·exact .inr ⟨j,e,by simpa using C,D,E⟩
theorem Dv {P:Program} {kt:Nat} {l:List (Nat×Nat)} (hl:fL P kt=some l) (k:Value) (es:List MapEntry) (w:World):(Instr.findKey kt k es).run P w=(Instr.findAsking kt k es).run P w:=by
 refine run_findKey_eq w ?_ k es
 unfold fL at hl
 cases hu:P.underlying kt with
 |none=>simp [hu] at hl
 |some d=>cases d<;>simp [hu] at hl ⊢
theorem Le {P:Program} {kt:Nat} {K:Type} [DecidableEq K] {kV:K→Value} {l:List (Nat×Nat)} (hl:fL P kt=some l) (heq: ∀ x y w,(Op.equal kt (kV x) (kV y)).run P w= .ok (decide (x=y)) w) (inj: ∀ x y,kV x=kV y→x=y)
 (hb: ∀ x,Instr.sameBits 10000 (kV x) (kV x)=true) (hp: ∀ x w,∃ cs,kV x= .agg cs∧ ∀ p∈l,(∃ v,(part p.1 cs p.2).run P w= .ok v w)∧ ∃ k,P.underlying p.1=some (.int k)):uE P kt kV:=
 ⟨fun e x w=>by obtain ⟨cs,A,B⟩:=hp x w; rw [A]; exact zQ hl e 9998 cs w B,fun x w es=>Bs (Dv hl) heq inj x w es,hb,inj⟩
end
section
open Go.RowKit
set_option linter.unusedSectionVars false
theorem gJ {P:Program} {kt:Nat} (hk:P.underlying kt=some (.int .i64)):uE P kt (Value.int .i64):=by
 refine ⟨fun e x w=>E9 hk e,fun x w es A=>?_,fun x=>by simp [Instr.sameBits],fun x y h=>by injection h⟩
 have key: ∀ (es:List MapEntry) (i:Nat),(∀ e∈es,∃ k:Int,e.key= .int .i64 k)→(Instr.findNow (.int .i64) (.int .i64 x) es i=some none∧ ∀ e∈es,e.key≠ .int .i64 x)∨ ∃ j e,Instr.findNow (.int .i64) (.int .i64 x) es i=some (some (i+j,e.val))∧es[j]? =some e∧e.key= .int .i64 x:=by
  intro es
  induction es with
  |nil=>intro i _; exact .inl ⟨rfl,sm⟩
  |cons e es ih=>
   intro i A
   obtain ⟨k,B⟩:=A e sm
   by_cases h:x=k
   ·subst h
    exact .inr ⟨0,e,by simp [Instr.findNow,Instr.sameNow,B],U,B⟩
   ·have hb:(x==k)=false:=by simpa using h
    rcases ih (i+1) (fun y hy=>A y (by simp [hy])) with ⟨C,D⟩|⟨j,e',C,D,E⟩
    ·refine .inl ⟨by simp [Instr.findNow,Instr.sameNow,B,hb,C],fun y hy=>?_⟩
     rcases bO.1 hy with rfl|hy
     ·rw [B]; intro q; injection q with _ q; exact h q.symm
     ·exact D y hy
    ·refine .inr ⟨j+1,e',?_,by simpa using D,E⟩
     simp only [Instr.findNow,Instr.sameNow,B,hb,if_true,C]
     simp; omega
 rcases key es 0 A with ⟨C,D⟩|⟨j,e,C,D,E⟩
 ·exact .inl ⟨MapKept.run_findKey hk C,D⟩
 ·exact .inr ⟨j,e,MapKept.run_findKey hk (by simpa using C),D,E⟩
theorem St.Ma {S:BS} {w0 w w':World} {C:List av} {A N:av} (h:St S w0 C w) (i:Nat) (hA:C[i]? =some A) (k:dE no w w') (hN:N.holds w') (hf: ∀ b,N.eW b→w.heap.size≤b∨A.eW b∧ ¬ A.wf b∧ ¬ N.wf b):St S w0 (N::C) w':=by
 have h':=h.same k
 have G:=aR hA
 have hi:=(aW.1 hA).1
 have B:C[i]=A:=(aW.1 hA).2
 refine ⟨h'.keeps,fun X hX=>?_,List.Pairwise.cons (fun X hX b hb hb'=>?_) h'.sep,fun X hX b hb=>?_,fun X hX b hb=>?_⟩
 ·rcases bO.1 hX with rfl|hX
  ·exact hN
  ·exact h'.holds X hX
 ·rcases hf b hb with E|⟨E,AA,H⟩
  ·have:=X.lt w (h.holds X hX) b hb'; omega
  ·refine ⟨H,?_⟩
   obtain ⟨j,hj,D⟩:=List.mem_iff_getElem.1 hX
   by_cases e:j=i
   ·subst e; rw [← D,B]; exact AA
   ·rcases Nat.lt_or_gt_of_ne e with F|F
    ·have:=eC.1 h.sep j i hj hi F b (by rw [D]; exact hb') (by rw [B]; exact E)
     rw [← D]; exact this.1
    ·have:=eC.1 h.sep i j hi hj F b (by rw [B]; exact E) (by rw [D]; exact hb')
     rw [← D]; exact this.2
 ·rcases bO.1 hX with rfl|hX
  ·rcases hf b (X.j_ b hb) with E|⟨_,_,H⟩
   ·exact .inl (Nat.le_trans h.keeps.size E)
   ·exact absurd hb H
  ·exact h'.own X hX b hb
 ·rcases bO.1 hX with rfl|hX
  ·rcases hf b hb with E|⟨E,_,_⟩
   ·exact .inl (Nat.le_trans h.keeps.size E)
   ·exact h.seen A G b E
  ·exact h'.seen X hX b hb
section
variable {K:Type} [DecidableEq K] {kV:K→Value}
/-- an iterator over a map that is read alone -/
def Ch (kV:K→Value) (r b:Nat) (m left:List (K×Value)) (cur:Option (K×Value)):av where
 eW k:=k=r∨k=b
 wf k:=k=r
 holds w:=r≠b∧ ∃ (es:Array MapEntry) (c since:Nat) (seen:Array Nat) (st:Nat),w.heap[b]? =some (.map es c)∧jh kV es c m∧w.heap[r]? =some (.mapIter (some b) since seen st)∧(∀ e∈es.toList,e.born<since)∧since≤st∧since≤c∧
  (leftOf es seen).toList.map (fun (e:MapEntry)=>(e.key,e.val))=left.map (fun p=>(kV p.1,p.2))∧
  ∀ p,cur=some p→ ∃ (e:MapEntry) (seen0:Array Nat),e∈es.toList∧seen=seen0.push e.born∧st=c∧e.key=kV p.1∧e.val=p.2
 wr:=false
 j_ _ h:= .inl h
 whole h:=by cases h
 lt w h k hk:=by
  obtain ⟨_,es,c,since,seen,st,h1,_,h2,_⟩:=h
  rcases hk with rfl|rfl
  ·exact dA h2
  ·exact dA h1
 oy w w' hk h:=by
  obtain ⟨hne,es,c,since,seen,st,h1,h2,h3,h4⟩:=h
  exact ⟨hne,es,c,since,seen,st,(hk b (.inr rfl)).trans h1,h2,(hk r (.inl rfl)).trans h3,h4⟩
theorem oR {r b:Nat} {m left:List (K×Value)} {cur:Option (K×Value)}:(∀ w,(Ch kV r b m left cur).holds w→(Ch kV r b m left none).holds w)∧(∀ k,(Ch kV r b m left none).eW k→(Ch kV r b m left cur).eW k)∧ ∀ k,(Ch kV r b m left none).wf k→(Ch kV r b m left cur).wf k:=
 ⟨fun w h=>by
  obtain ⟨A,es,c,since,seen,st,B,C,D,E,F,h5',G,_⟩:=h
  exact ⟨A,es,c,since,seen,st,B,C,D,E,F,h5',G,fun p hp=>by cases hp⟩,fun _ h=>h,fun _ h=>h⟩
section
variable {E:eT} {ops:Array Oper} {Q:cZ} {rest:List Oper} {D:List Deferred} {L:List (Nat×Value)} {C:List av}
variable {dst:Option Tmp} {d:Nat} {ty:TypeId} {ps:String} {af:Array Edge} {g:Option (Nat×Bool)}
theorem pK {t kt et:TypeId} {xm:Operand} {b:Nat} {m:List (K×Value)} {A:av} (i:Nat) (hg:j0 ops L g=true) (hm:ev L xm=some (.map (some b))) (ht:E.P.underlying t=some (.map kt et)) (hA:C[i]? =some A) (hAf:A.eW b∧ ¬ A.wf b) (hC:iN C (jM kV b m).holds) (hd:Nat.blt d E.n=true)
 (k: ∀ r,RJ E ops Q rest D ((d,.pointer (some ⟨r,0,none⟩))::L) (Ch kV r b m m none::C)):RJ E ops Q (⟨some d,.range t xm,ty,ps,af,g⟩::rest) D L C:=by
 intro a w B hs
 have hd':d<E.n:=by rw [← Nat.blt_eq]; exact hd
 unfold rX
 rw [if_pos (ed B hg)]
 obtain ⟨es,c,he,hi⟩:=hs.has hC
 have G:b<w.heap.size:=dA he
 have F:(getObj b).run E.P w= .ok (.map es c) w:=MapKept.run_getObj_map he
 refine iP (v:= .pointer (some ⟨w.heap.size,0,none⟩)) (w':=w.alloc (.mapIter (some b) c #[] c)) sm ?_ ?_
 ·simp [execOp,Instr.range,B.ev hm,run_underlying ht,F,newObj,Sem.run]
 ·refine k _ _ _ (B.put hd' _) (hs.Ma i hA (dE.alloc no w _) ⟨om,es,c,c,#[],c,?_,hi,heap_alloc_new w _,hi.G5,Nat.le_refl _,Nat.le_refl _,?_,fun p hp=>by cases hp⟩ (fun q hq=>?_))
  ·rw [Below.heap_alloc w _ b G]; exact he
  ·have:leftOf es #[]=es:=by unfold leftOf; exact Array.filter_eq_self.2 sm
   rw [this]; exact hi.list
  ·rcases hq with rfl|rfl
   ·exact .inl (Nat.le_refl _)
   ·refine .inr ⟨hAf.1,hAf.2,fun (e:q=w.heap.size)=>by omega⟩
theorem FC (hinj: ∀ x y,kV x=kV y→x=y) {xi:Operand} {r b:Nat} {m left:List (K×Value)} {cur:Option (K×Value)} (i:Nat) (hg:j0 ops L g=true) (hm:ev L xi=some (.pointer (some ⟨r,0,none⟩))) (hC:C[i]? =some (Ch kV r b m left cur)) (hd:Nat.blt d E.n=true)
 (k0:left=[]→RJ E ops Q rest D ((d,.tuple [.bool false].toArray)::L) C)
 (k1: ∀ x v,(x,v)∈left→(left.map (·.1)).Nodup→RJ E ops Q rest D ((d,.tuple [.bool true,kV x,v].toArray)::L) (C.set i (Ch kV r b m (eO left x) (some (x,v))))):
 RJ E ops Q (⟨some d,.next xi false,ty,ps,af,g⟩::rest) D L C:=by
 intro a w G hs
 have hd':d<E.n:=by rw [← Nat.blt_eq]; exact hd
 unfold rX
 rw [if_pos (ed G hg)]
 obtain ⟨R,es,c,since,seen,st,X,hi,Y,J,V,M,A,_⟩:=hs.holds _ (aR hC)
 rcases run_next_at (P:=E.P) w ty r b since st seen es c Y X J V with ⟨Z,hr⟩|⟨e,he,N,H,hr⟩
 ·refine iP (v:= .tuple #[.bool false]) (w':=w) sm ?_ ?_
  ·simp [execOp,G.ev hm,hr]
  ·refine k0 ?_ _ _ (G.put hd' _) hs
   have:(leftOf es seen).toList=[]:=by rw [← List.length_eq_zero_iff,Array.length_toList]; exact Z
   rw [this] at A
   exact List.map_eq_nil_iff.1 A.symm
 ·have O:(e.key,e.val)∈left.map (fun p=>(kV p.1,p.2)):=by rw [← A]; exact cr.2 ⟨e,he,rfl⟩
  obtain ⟨p,hp,S⟩:=cr.1 O
  obtain ⟨x,v⟩:=p
  simp only [Prod.mk.injEq] at S
  obtain ⟨hk,hv⟩:=S
  refine iP (v:= .tuple #[.bool true,e.key,e.val]) (w':=ChangeMaps.setBlock N r (.mapIter (some b) since (seen.push e.born) c)) sm ?_ ?_
  ·simp [execOp,G.ev hm,hr]
  ·rw [← hk,← hv]
   have AA:=xD hinj hi A
   have F:e∈es.toList:=by unfold leftOf at he; rw [Array.toList_filter] at he; exact (List.mem_filter.1 he).1
   have f:c=c:=rfl
   have B:N.heap=w.heap:=by rcases H with rfl|rfl<;>rfl
   refine k1 x v hp AA _ _ (G.put hd' _) (hs.mv i hC ⟨⟨R,es,c,since,seen.push e.born,c,?_,hi,?_,J,M,M,?_,fun q hq=>?_⟩,?_,fun q hq=> .inl hq,fun q hq=> .inl hq⟩)
   ·show (N.heap.setIfInBounds r _)[b]? =_
    rw [Array.getElem?_setIfInBounds_ne R,B]; exact X
   ·show (N.heap.setIfInBounds r _)[r]? =_
    rw [Array.getElem?_setIfInBounds_self_of_lt (by rw [B]; exact dA Y)]
   ·have T:leftOf es (seen.push e.born)=(leftOf es seen).filter (fun z=> !(z.born==e.born)):=by
     unfold leftOf
     rw [Array.filter_filter]
     congr 1
     funext z
     simp only [Array.contains_push,Bool.not_or]
     rw [Bool.and_comm]
    rw [T,Array.toList_filter]
    have key: ∀ (l:List MapEntry) (ll:List (K×Value)),(∀ z∈l,z∈es.toList)→l.map (fun (e:MapEntry)=>(e.key,e.val))=ll.map (fun p=>(kV p.1,p.2))→
     (l.filter (fun z=> !(z.born==e.born))).map (fun (e:MapEntry)=>(e.key,e.val))=(eO ll x).map (fun p=>(kV p.1,p.2)):=by
     intro l
     induction l with
     |nil=>intro ll _ h; cases ll with
      |nil=>rfl
      |cons p ll=>simp at h
     |cons z l ih=>
      intro ll hz h
      cases ll with
      |nil=>simp at h
      |cons p ll=>
       simp only [List.map_cons,List.cons.injEq,Prod.mk.injEq] at h
       have ih':=ih ll (fun y hy=>hz y (by simp [hy])) h.2
       have AB:(z.born=e.born)↔(p.1=x):=by
        constructor
        ·intro hb
         have:z=e:=Cb hi.born (hz z sm) F hb
         rw [this] at h
         have:=h.1.1.symm.trans hk.symm
         exact hinj _ _ this
        ·intro hx
         have W:z.key=e.key:=by rw [h.1.1,hx,hk]
         rw [AK hinj hi (hz z sm) F W]
       unfold eO at ih' ⊢
       by_cases hx:p.1=x
       ·rw [List.filter_cons_of_neg (by simp [AB.2 hx]),List.filter_cons_of_neg (by simp [hx])]; exact ih'
       ·rw [List.filter_cons_of_pos (by simpa using fun hb=>hx (AB.1 hb)),List.filter_cons_of_pos (by simpa using hx)]
        simp only [List.map_cons,h.1.1,h.1.2,ih']
    exact key _ _ (fun z hz=>by unfold leftOf at hz; rw [Array.toList_filter] at hz; exact (List.mem_filter.1 hz).1) A
   ·cases hq
    exact ⟨e,seen,F,U,U,hk.symm,hv.symm⟩
   ·refine ⟨?_,?_,?_,?_,fun q hq hn=>?_⟩
    ·rcases H with rfl|rfl<;>rfl
    ·rcases H with rfl|rfl<;>rfl
    ·rcases H with rfl|rfl<;>rfl
    ·show w.heap.size≤(N.heap.setIfInBounds r _).size
     simp [B]
    ·show (N.heap.setIfInBounds r _)[q]? =_
     rw [Array.getElem?_setIfInBounds_ne (fun e=>hn e.symm),B]
theorem nU {xi:Operand} {r b:Nat} {m left:List (K×Value)} {x:K} {v:Value} (i:Nat) (hg:j0 ops L g=true) (hm:ev L xi=some (.pointer (some ⟨r,0,none⟩))) (hC:C[i]? =some (Ch kV r b m left (some (x,v)))):
 SD E ops ⟨dst,.entry xi,ty,ps,af,g⟩ D L C (.tuple [kV x,v].toArray):=
 eE hg sm fun a w F hs=>by
  obtain ⟨N,es,c,since,seen,st,J,hi,M,H,O,AA,G,B⟩:=hs.holds _ (aR hC)
  obtain ⟨e,A,he,rfl,rfl,hk,hv⟩:=B _ rfl
  have:=run_entry_at (P:=E.P) w r b since A es st e M J he hi.born
  simp [execOp,F.ev hm,this,hk,hv]
theorem nZ (hinj: ∀ x y,kV x=kV y→x=y) {β:Type} {f:β→Value} {xi:Operand} {r b:Nat} {m:List (K×Value)} {ll:List (K×β)} {cur:Option (K×Value)} (i:Nat) (hg:j0 ops L g=true) (hm:ev L xi=some (.pointer (some ⟨r,0,none⟩))) (hC:C[i]? =some (Ch kV r b m (cK f ll) cur)) (hd:Nat.blt d E.n=true)
 (k0:ll=[]→RJ E ops Q rest D ((d,.tuple [.bool false].toArray)::L) C)
 (k1: ∀ x y,(x,y)∈ll→(ll.map (·.1)).Nodup→RJ E ops Q rest D ((d,.tuple [.bool true,kV x,f y].toArray)::L) (C.set i (Ch kV r b m (cK f (eO ll x)) (some (x,f y))))):
 RJ E ops Q (⟨some d,.next xi false,ty,ps,af,g⟩::rest) D L C:=by
 refine FC hinj i hg hm hC hd (fun h=>k0 (List.map_eq_nil_iff.1 h)) (fun x v B hn=>?_)
 obtain ⟨p,hp,A⟩:=cr.1 B
 simp only [Prod.mk.injEq] at A
 obtain ⟨rfl,rfl⟩:=A
 have:=k1 p.1 p.2 hp (by simpa [cK,Function.comp_def] using hn)
 rwa [nj] at this
theorem yk {t kt et:TypeId} {xm xk xv:Operand} {b:Nat} {x:K} {v:Value} {m m':List (K×Value)} {C':List av} (i:Nat) (hg:j0 ops L g=true) (hm:ev L xm=some (.map (some b))) (hk:ev L xk=some (kV x)) (hv:ev L xv=some v)
 (ht:E.P.underlying t=some (.map kt et)) (hkt:uE E.P kt kV) (hC:C[i]? =some (jM kV b m)) (hm':dz m x v=m') (hC':C.set i (jM kV b m')=C') (k:RJ E ops Q rest D L C'):
 RJ E ops Q (⟨none,.insert t xm xk xv,ty,ps,af,g⟩::rest) D L C:=by
 subst hm' hC'
 intro a w A hs
 unfold rX
 rw [if_pos (ed A hg)]
 obtain ⟨es,c,he,hi⟩:=hs.holds _ (aR hC)
 have B:(getObj b).run E.P w= .ok (.map es c) w:=MapKept.run_getObj_map he
 rcases oJ (P:=E.P) (w:=w) (x:=x) hkt hi with ⟨AA,F⟩|⟨j,N,AA,F,J⟩
 ·refine rH (w':={w with heap:=w.heap.setIfInBounds b (.map (es.push {key:=kV x,val:=v,born:=c}) (c+1))}) sm ?_ ?_
  ·simp [execOp,A.ev hm,A.ev hk,A.ev hv,Instr.mapUpdate,run_underlying ht,B,iZ hkt,AA,MapKept.run_setObj_map _ he]
  ·refine k _ _ ⟨A.defers,A.size,A.at_⟩ (hs.x7 (b:=b) i hC U U (mX _) (fun _ h=>h) ⟨_,_,o8 he,?_⟩)
   have:dz m x v=m++[(x,v)]:=by unfold dz; rw [F]; rfl
   rw [this]; exact hi.push F v
 ·have M:=hi.size
  have G:j<es.size:=by have:=(aW.1 F).1; omega
  have H:(es[j]).key=kV x:=by
   have:=congrArg (fun l=>l[j]?) hi.list
   simp [G,F] at this
   exact this.1
  refine rH (w':={w with heap:=w.heap.setIfInBounds b (.map (es.modify j fun e=>{e with key:=kV x,val:=v}) c)}) sm ?_ ?_
  ·simp [execOp,A.ev hm,A.ev hk,A.ev hv,Instr.mapUpdate,run_underlying ht,B,iZ hkt,AA,MapKept.run_setObj_map _ he,Instr.keyThatStays,G,H,hkt.bits x]
  ·exact k _ _ ⟨A.defers,A.size,A.at_⟩ (hs.x7 (b:=b) i hC U U (mX _) (fun _ h=>h) ⟨_,_,o8 he,hi.set F J v⟩)
end
end
end
section
open Go.RowKit
def Ub {σ:Type} (w0:World) (P:Program) (l:Nat) (step:σ→List Value→σ→Prop) (J:σ→av→Prop) (Z:av→Prop):Prop:=
 ∀ k x k' A w,step k x k'→J k A→w0.heap.size≤w.heap.size→A.holds w→YieldAt (Fw none) 0 P l x.toArray w fun e w'=>
  (e= .returned (.bool true)∧ ∃ B,J k' B∧Mv A B w w')∨(e= .returned (.bool false)∧ ∃ B,Z B∧Mv A B w w')
def Bw {σ:Type} (J:σ→av→Prop) (Z:av→Prop) (fin:σ→Prop) (A0:av) (w0:World) (e:Ending) (w':World):Prop:=
 ∃ v,e= .returned v∧((∃ s B,fin s∧J s B∧Mv A0 B w0 w')∨ ∃ B,Z B∧Mv A0 B w0 w')
structure Lu {σ:Type} (P:Program) (f:FuncId) (fi ca:List Value) (Cp:List av) (s0:σ) (step:σ→List Value→σ→Prop) (fin:σ→Prop):Prop where
 go:sf P f=true
 run: ∀ (l:Nat) (J:σ→av→Prop) (Z:av→Prop) (A0:av) (w:World),Ub w P l step J Z→J s0 A0→A0.holds w→(∀ A∈Cp,A.holds w)→(∀ A∈Cp,Ca A0 A.ro)→
  Calls P f (fi++Value.func (.yield l) #[] #[]::ca).toArray w (Bw J Z fin A0 w)
theorem Oz {σ:Type} {J:σ→av→Prop} {Z:av→Prop} {n:σ} {fin:σ→Prop} {A0 B:av} {w0 w:World} {C:List av} {v:Value} (i:Nat) (hC:C[i]? =some B) (hfin:fin n) (hJ:J n B) (hF:Fo A0 w0 B) (hs:St ⟨A0.wf,fun _=>True⟩ w0 C w):Bw J Z fin A0 w0 (.returned v) w:=
 ⟨v,rfl,.inl ⟨n,B,hfin,hJ,hs.holds B (aR hC),hs.keeps,fun b hb=>(hs.own B (aR hC) b hb).symm,hF⟩⟩
theorem D_ {σ:Type} {J:σ→av→Prop} {Z:av→Prop} {fin:σ→Prop} {A0 B:av} {w0 w:World} {C:List av} {v:Value} (i:Nat) (hC:C[i]? =some B) (hJ:Z B) (hF:Fo A0 w0 B) (hs:St ⟨A0.wf,fun _=>True⟩ w0 C w):Bw J Z fin A0 w0 (.returned v) w:=
 ⟨v,rfl,.inr ⟨B,hJ,hs.holds B (aR hC),hs.keeps,fun b hb=>(hs.own B (aR hC) b hb).symm,hF⟩⟩
theorem EE {σ:Type} {P:Program} {f:FuncId} {fn:Func} {c:Code} {fi ca:List Value} {Cp:List av} {s0:σ} {step:σ→List Value→σ→Prop} {fin:σ→Prop} (hgo:sf P f=true) (hf:P.funcs[f]? =some fn) (hb:fn.body=some c) (hn:Nat.ble (fi.length+ca.length+1) fn.ntmps=true)
 (h: ∀ (l:Nat) (J:σ→av→Prop) (Z:av→Prop) (A0:av) (w0:World) (Q:cZ),Ub w0 P l step J Z→J s0 A0→Fo A0 w0 A0→
  (∀ D L C,LJ ⟨P,none,fn.ntmps,⟨A0.wf,fun _=>True⟩,w0⟩ fn (Bw J Z fin A0 w0) D L C→KJ ⟨P,none,fn.ntmps,⟨A0.wf,fun _=>True⟩,w0⟩ (Q .ret) D L C)→
  (∀ D L C,LJ ⟨P,none,fn.ntmps,⟨A0.wf,fun _=>True⟩,w0⟩ fn (Bw J Z fin A0 w0) D L C→KJ ⟨P,none,fn.ntmps,⟨A0.wf,fun _=>True⟩,w0⟩ (Q .normal) D L C)→
  WJ ⟨P,none,fn.ntmps,⟨A0.wf,fun _=>True⟩,w0⟩ c Q [] (Nk (fi++Value.func (.yield l) #[] #[]::ca)) (A0::Cp.map av.ro)):Lu P f fi ca Cp s0 step fin:=by
 refine ⟨hgo,fun l J Z A0 w hY hJ hA F E=>?_⟩
 refine zn hf hb (by simpa [Nat.add_assoc] using hn) (h l J Z A0 w · hY hJ (fun b hb=> .inl hb)) ?_
 have G:=qh F
 refine ⟨dE.refl _ _,fun A hA'=>?_,List.Pairwise.cons (fun B hB=>?_) G.sep,fun A hA' b hb=>?_,fun _ _ _ _=> .inr trivial⟩
 ·rcases bO.1 hA' with rfl|hA'
  ·exact hA
  ·exact G.holds A hA'
 ·obtain ⟨B',hB',rfl⟩:=cr.1 hB
  exact E B' hB'
 ·rcases bO.1 hA' with rfl|hA'
  ·exact .inr hb
  ·obtain ⟨B',hB',rfl⟩:=cr.1 hA'
   exact hb.elim
section
variable {E:eT} {ops:Array Oper} {Q:cZ} {rest:List Oper} {D:List Deferred} {L:List (Nat×Value)} {C:List av}
variable {d:Nat} {ty:TypeId} {ps:String} {af:Array Edge} {g:Option (Nat×Bool)}
/-- a call of yield -/
theorem xP {σ:Type} {fop:Operand} {xs:Array Operand} {ts:Array TypeId} {l:Nat} {k k':σ} {vs:List Value} {step:σ→List Value→σ→Prop} {J:σ→av→Prop} {Z:av→Prop} {A0 A:av} {w1:World} (i:Nat) (hw1:w1.heap.size≤E.w0.heap.size) (hY:Ub w1 E.P l step J Z) (hJ:J k A) (hF:Fo A0 w1 A) (hg:j0 ops L g=true) (hf:ev L fop=some (.func (.yield l) #[] #[]))
 (hx:evs L xs.toList=some vs) (hk:step k vs k') (hC:C[i]? =some A) (hd:Nat.blt d E.n=true)
 (k1: ∀ B,J k' B→Fo A0 w1 B→RJ E ops Q rest D ((d,.bool true)::L) (C.set i B))
 (k2: ∀ B,Z B→Fo A0 w1 B→RJ E ops Q rest D ((d,.bool false)::L) (C.set i B)):
 RJ E ops Q (⟨some d,.call {callee:= .value fop,args:=xs,argTypes:=ts},ty,ps,af,g⟩::rest) D L C:=by
 intro a w F hs
 have hd':d<E.n:=by rw [← Nat.blt_eq]; exact hd
 unfold rX
 rw [if_pos (ed F hg)]
 have K:xs.map a.eval=vs.toArray:=by
  have:=F.evs hx
  apply Array.ext'
  simp [this]
 obtain ⟨fn,tmps,assign,body,hy,hr⟩:=hY k vs k' A w hk hJ (Nat.le_trans hw1 hs.keeps.size) (hs.holds A (aR hC))
 have H:(execOp a.eval ⟨some d,.call {callee:= .value fop,args:=xs,argTypes:=ts},ty,ps,af,g⟩).run E.P w= .ok (.round l fn tmps assign body) w:=by
  simp [execOp,resolve,F.ev hf,Deferred.ofValue,invoke,K,hy]
 refine ⟨fun _ _=>trivial,?_⟩
 rw [Oper.semAt_eq _ _ _ sm,H]
 refine ⟨fun h=>by simp at h,?_⟩
 have G: ∀ (B:av) (w':World),Mv A B w w'→Fo A0 w1 B:=fun B w' m b hb=>by
  rcases m.eW b hb with AA|AA
  ·exact hF b AA
  ·exact .inr (Nat.le_trans hw1 (Nat.le_trans hs.keeps.size AA))
 have hr':RoundIn (Fw E.r) 0 E.P l fn tmps assign body w _:=hr
 refine hr'.mono fun e w' he=>?_
 rcases he with ⟨rfl,B,hB,m⟩|⟨rfl,B,hB,m⟩
 ·exact k1 B hB (G B w' m) _ _ (F.put hd' _) (hs.mv i hC m)
 ·exact k2 B hB (G B w' m) _ _ (F.put hd' _) (hs.mv i hC m)
end
theorem tq {σ:Type} {E:eT} {Q:cZ} {D:g6} {L L0:di} {C F:List av} {g:Operand} {ps:Array Tmp} {assign body:Code} {f:FuncId} {fi ca:List Value} {Cp:List av} {s0:σ} {step:σ→List Value→σ→Prop} {fin_:σ→Prop} {ι κ:Type}
 (inv:σ→ι→Prop) (Ci:σ→ι→List av) (invx:Code→κ→Prop) (Cx:Code→κ→List av) (isJ isF:List Nat) (y0:ι)
 (hr:E.r=none) (hg:ev L g=some (.func (.func f) fi.toArray ca.toArray)) (hs:Lu E.P f fi ca Cp s0 step fin_)
 (hnd:decide (isJ++isF).Nodup=true) (hJ:kh C isJ=Ci s0 y0) (hF:kh C isF=F) (h0:inv s0 y0) (hCp: ∀ A∈Cp,∃ B∈F,Js B A)
 (hps: ∀ k x k',step k x k'→x.length=ps.size) (hpn:ps.toList.all (fun t=>Nat.blt t E.n)=true) (hL:df L L0)
 (round: ∀ (k:σ) (x:List Value) (k':σ) (y:ι) (l:Nat) (ra rb:Loop) (S:BS) (w0:World) (K:Act→World→Prop) (Qr:cZ),E.w0.heap.size≤w0.heap.size→step k x k'→inv k y→
  (∀ L' C',WJ ⟨E.P,some l,E.n,S,w0⟩ body Qr [] L' (jc l (.loop rb)::C')→KJ ⟨E.P,some l,E.n,S,w0⟩ K [] L' (jc l (.loop ra)::C'))→
  (∀ y' L' C',inv k' y'→(∀ w,St S w0 C' w→St S w0 (jc l (.loop rb)::Ci k' y') w)→KJ ⟨E.P,some l,E.n,S,w0⟩ (Qr .normal) [] L' C')→
  (∀ id z L' C',invx (.exit id) z→(∀ w,St S w0 C' w→St S w0 (jc l (.loop rb)::Cx (.exit id) z) w)→KJ ⟨E.P,some l,E.n,S,w0⟩ (Qr (.exit id)) [] L' C')→
  (∀ z L' C',invx .ret z→(∀ w,St S w0 C' w→St S w0 (jc l (.loop rb)::Cx .ret z) w)→KJ ⟨E.P,some l,E.n,S,w0⟩ (Qr .ret) [] L' C')→
  WJ ⟨E.P,some l,E.n,S,w0⟩ assign (Exit.then K (fun _ _ _=>False)) [] (xZ ps.toList x L0) (jc l (.loop ra)::Ci k y))
 (fin: ∀ r s y,fin_ s→inv s y→KJ E (Q .normal) (jE r::D) L0 (jc r (.deferred (some []))::(F++Ci s y)))
 (finx: ∀ r id z,invx (.exit id) z→KJ E (Q (.exit id)) (jE r::D) L0 (jc r (.deferred (some []))::(F++Cx (.exit id) z)))
 (finr: ∀ r z,invx .ret z→KJ E (Q .ret) (jE r::D) L0 (jc r (.deferred (some []))::(F++Cx .ret z))):WJ E (.rangeFunc g ps assign body) Q D L C:=by
 intro a w hf q
 refine wpIn_rangeFunc fun fn _=>?_
 show ∃ l jE w₁ d w₁' f args w₂,(Instr.enterLoop fn a.tmps ps assign body E.r).run E.P w= .ok (l,jE) w₁∧_
 rw [hr]
 obtain ⟨rec,G⟩: ∃ rec:LoopState→Option Code→Loop,rec=fun st pe=>{state:=st,pending:=pe,fn,tmps:=a.tmps,params:=ps,assign,body,defers:=w.heap.size}:=⟨_,rfl⟩
 obtain ⟨W1,R⟩: ∃ W1,(w.alloc (.deferred (some []))).alloc (.loop (rec .ready none))=W1:=⟨_,rfl⟩
 have A2:a.eval g= .func (.func f) fi.toArray ca.toArray:=hf.ev hg
 have p:(Instr.enterLoop fn a.tmps ps assign body none).run E.P w= .ok (w.heap.size+1,[jE w.heap.size]) W1:=by
  rw [← R,G]; exact run_enterLoop_outer _ _ _ _ _
 -- the state with the record and the block
 have u:St E.S E.w0 ((jc (w.heap.size+1) (.loop (rec .ready none))::Ci s0 y0)++(jc w.heap.size (.deferred (some []))::F)) W1:=by
  have X:St E.S E.w0 (Ci s0 y0++F) w:=St.kh (isJ++isF) hnd (by have X:=hJ; have j:=hF; unfold Go.Proofs.YtijpnoadncadoaaGreatDoor.kh at X j ⊢; rw [List.filterMap_append,X,j]) q
  have hn:Kv w W1 [jc (w.heap.size+1) (.loop (rec .ready none)),jc w.heap.size (.deferred (some []))]:=by
   refine ⟨fun A hA=>?_,fun A hA b hb=>?_,?_⟩
   ·rcases bO.1 hA with rfl|hA
    ·show W1.heap[w.heap.size+1]? =_
     rw [← R]; have:=World.alloc_heap_new (w.alloc (.deferred (some []))) (.loop (rec .ready none)); rwa [World.size_alloc] at this
    ·simp only [cd] at hA; subst hA
     show W1.heap[w.heap.size]? =_
     rw [← R]; exact (Below.heap_alloc _ _ _ sm).trans (World.alloc_heap_new w _)
   ·rcases bO.1 hA with rfl|hA
    ·have:b=w.heap.size+1:=hb
     omega
    ·simp only [cd] at hA; subst hA
     have:b=w.heap.size:=hb
     omega
   ·refine List.Pairwise.cons (fun B hB b X j=>?_) (List.pairwise_singleton _ _)
    simp only [cd] at hB; subst hB
    have V:b=w.heap.size+1:=X
    have O:b=w.heap.size:=j
    omega
  have hk:dE no w W1:=by rw [← R]; exact (dE.alloc no w _).trans (dE.alloc no _ _)
  have j:=X.grow hk hn
  refine j.perm ?_
  simp only [List.cons_append,List.nil_append]
  exact List.Perm.cons _ (List.perm_middle.symm)
 have Y:=u.tied
 obtain ⟨H,A7⟩:=List.pairwise_cons.1 Y.sep
 have A0:=Y.holds _ (ct ..)
 let J:σ→av→Prop:=fun k A=> ∃ y,inv k y∧A=bX (jc (w.heap.size+1) (.loop (rec .ready none))::Ci k y)
 let Z:av→Prop:=fun A=> ∃ c z,(c= .ret∨ ∃ id,c= .exit id)∧invx c z∧A=bX (jc (w.heap.size+1) (.loop (rec .done (some c)))::Cx c z)
 refine ⟨w.heap.size+1,[jE w.heap.size],W1,{target:= .fn (.func f) ca.toArray,args:=fi.toArray++ #[.func (.yield (w.heap.size+1)) #[] #[]]},W1,f,
  (fi++Value.func (.yield (w.heap.size+1)) #[] #[]::ca).toArray,W1,p,?_,fun _ _=>trivial,?_,fun h=>by simp at h,?_⟩
 ·simp only [resolve,A2]
  simp [Deferred.ofValue,Act.eval]
 ·have:fi.toArray++ #[Value.func (.yield (w.heap.size+1)) #[] #[]]++ca.toArray=(fi++Value.func (.yield (w.heap.size+1)) #[] #[]::ca).toArray:=by simp
  simp [invoke,mK hs.go]
 ·refine (o5 E.r (hs.run (w.heap.size+1) J Z _ W1 ?_ ⟨y0,h0,U⟩ A0 ?_ ?_)).mono ?_
  ·-- a round
   rintro k x k' A W hx ⟨y,hy,rfl⟩ A1 hA
   have hl:W.heap[w.heap.size+1]? =some (.loop (rec .ready none)):=hA.1 _ (ct ..)
   have AC:=run_yield (P:=E.P) (args:=x.toArray) hl (by rw [G]; simpa using hps k x k' hx)
   rw [G] at AC
   refine ⟨fn,_,assign,body,AC,roundIn_of_wpIn trivial ?_⟩
   let A:av:=bX (jc (w.heap.size+1) (.loop (rec .ready none))::Ci k y)
   have A3:Fr E.n [] (xZ ps.toList x L0) {tmps:=(ps.zip x.toArray).foldl (fun tmps (t,a)=>tmps.setIfInBounds t a) a.tmps,defers:=[]}:=by
    have X:=C7 ps.toList x L0 a.tmps (fun t ht=>by have:=cT.1 hpn t ht; rwa [Nat.blt_eq] at this) ⟨rfl,hf.size,fun t v hv=>hf.at_ t v (hL t v hv)⟩
    rw [← Array.foldl_toList]
    simpa using X
   have o: ∀ (c:Option Code) (b:Bool),({rec .busy none with state:=if b then .ready else .done,pending:=c}:Loop)=rec (if b then .ready else .done) c:=fun c b=>by rw [G]
   have T: ∀ (c:Option Code) (N:World) (C':List av) (S:BS),St S W (jc (w.heap.size+1) (.loop (rec .busy none))::C') N→
    ∃ M,(Instr.endRound (w.heap.size+1) c).run E.P N= .ok (.bool c.isNone) M∧St S W (jc (w.heap.size+1) (.loop (rec (if c.isNone then .ready else .done) c))::C') M:=fun c N C' S H=>by
    have AB:N.heap[w.heap.size+1]? =some (.loop (rec .busy none)):=H.holds _ (ct ..)
    refine ⟨_,run_endRound c AB,?_⟩
    have:=H.x7 (b:=w.heap.size+1) (A':=jc (w.heap.size+1) (.loop (rec (if c.isNone then .ready else .done) c))) 0 rfl rfl rfl (gU _) (fun _ h=>h) (World.putObj_heap_same (dA AB))
    rw [o]
    exact this
   refine round k x k' y (w.heap.size+1) (rec .ready none) (rec .busy none) ⟨A.wf,A.eW⟩ W _ (roundPost E.P (w.heap.size+1) (fun e w'=>(e= .returned (.bool true)∧ ∃ B,J k' B∧Mv A B W w')∨(e= .returned (.bool false)∧ ∃ B,Z B∧Mv A B W w'))) (Nat.le_trans (Nat.le_trans q.keeps.size (by rw [← R]; simp; omega)) A1) hx hy ?_ ?_ ?_ ?_ _ _ A3 (St.zu hA)
   ·intro L' C' hW a1 N i H
    have AB:N.heap[w.heap.size+1]? =some (.loop (rec .ready none)):=H.holds _ (ct ..)
    refine ⟨_,run_beginRound AB (by rw [G]),hW _ _ i ?_⟩
    have:=H.x7 (b:=w.heap.size+1) (A':=jc (w.heap.size+1) (.loop (rec .busy none))) 0 rfl rfl rfl (gU _) (fun _ h=>h) (World.putObj_heap_same (dA AB))
    have e:({rec .ready none with state:= .busy}:Loop)=rec .busy none:=by rw [G]
    rw [e]; exact this
   ·intro y' L' C' hy' hC' a1 N i H
    obtain ⟨M,V,O⟩:=T none N _ _ (hC' _ H)
    exact ⟨_,M,V,.inl ⟨U,_,⟨y',hy',U⟩,Mv.of O⟩⟩
   ·intro id z L' C' hz hC' a1 N i H
    obtain ⟨M,V,O⟩:=T (some (.exit id)) N _ _ (hC' _ H)
    exact ⟨_,M,V,.inr ⟨U,_,⟨_,z,.inr ⟨id,U⟩,hz,U⟩,Mv.of O⟩⟩
   ·intro z L' C' hz hC' a1 N i H
    obtain ⟨M,V,O⟩:=T (some .ret) N _ _ (hC' _ H)
    exact ⟨_,M,V,.inr ⟨U,_,⟨_,z,.inl U,hz,U⟩,Mv.of O⟩⟩
  ·intro A hA
   obtain ⟨B,hB,hc⟩:=hCp A hA
   exact hc.holds _ (Y.holds B (dJ _ (dJ _ hB)))
  ·intro A hA b hb hb'
   obtain ⟨B,hB,hc⟩:=hCp A hA
   exact ⟨(H B (dJ _ hB) b hb (hc.eW b hb')).1,fun h=>h⟩
  ·rintro e w' ⟨v,rfl,hh⟩
   have AA:Fr E.n (jE w.heap.size::D) L0 {a with defers:=[jE w.heap.size]++a.defers}:=⟨by simp [hf.defers],hf.size,fun t v hv=>hf.at_ t v (hL t v hv)⟩
   have hleave: ∀ (st:LoopState) (c:Option Code) (C':List av),st≠ .busy→Mv (bX (jc (w.heap.size+1) (.loop (rec .ready none))::Ci s0 y0)) (bX (jc (w.heap.size+1) (.loop (rec st c))::C')) W1 w'→
    ∃ M,(Instr.endLoop (w.heap.size+1)).run E.P w'= .ok c M∧St E.S E.w0 (jc w.heap.size (.deferred (some []))::(F++C')) M:=fun st c C' A5 m=>by
    have X:=(Y.mv 0 rfl m).je
    have h1':St E.S E.w0 ((jc (w.heap.size+1) (.loop (rec st c))::C')++(jc w.heap.size (.deferred (some []))::F)) w':=X
    have AB:w'.heap[w.heap.size+1]? =some (.loop (rec st c)):=h1'.holds (jc (w.heap.size+1) (.loop (rec st c))) sm
    refine ⟨_,by have:=run_endLoop (P:=E.P) AB (by rw [G]; exact A5); rw [this,G],?_⟩
    have j:=h1'.x7 (b:=w.heap.size+1) (A':=jc (w.heap.size+1) (.loop {rec st c with state:= .exhausted})) 0 rfl rfl rfl (gU _) (fun _ h=>h) (World.putObj_heap_same (dA AB))
    have h3:St E.S E.w0 (C'++(jc w.heap.size (.deferred (some []))::F)) _:=j.take (List.sublist_cons_self _ _)
    rw [G] at h3
    refine h3.perm ?_
    exact (List.perm_append_comm).trans sm
   rcases hh with ⟨s,B,A4,⟨y,hy,rfl⟩,m⟩|⟨B,⟨c,z,hc,hz,rfl⟩,m⟩
   ·obtain ⟨M,V,O⟩:=hleave .ready none _ sm m
    exact ⟨none,M,V,fin w.heap.size s y A4 hy _ _ AA O⟩
   ·obtain ⟨M,V,O⟩:=hleave .done (some c) _ sm m
    refine ⟨some c,M,V,?_⟩
    rcases hc with rfl|⟨id,rfl⟩
    ·exact wpIn_ret (finr w.heap.size z hz _ _ AA O)
    ·exact wpIn_exit (finx w.heap.size id z hz _ _ AA O)
end
section
open Go.RowKit
/-- where a row lies, and its capacity -/
abbrev RA:=OA×Nat
/-- what is asked of memory by all elements -/
def br {M A:Type} (f:M→A→List av):List M→List A→List av
 |m::ms,a::asl=>f m a++br f ms asl
 |_,_=>[]
theorem bM {M A:Type} {f:M→A→List av}: ∀ {ms:List M} {asl:List A} {k:Nat} {m:M} {a:A} {X:av},ms[k]? =some m→asl[k]? =some a→X∈f m a→X∈br f ms asl
 |[],_,k,m,a,X,h,_,_=>by simp at h
 |_::_,[],k,m,a,X,_,h,_=>by simp at h
 |x::ms,y::asl,0,m,a,X,h,h2,hX=>by
  simp at h h2; subst h h2
  exact List.mem_append_left _ hX
 |x::ms,y::asl,k+1,m,a,X,h,h2,hX=>List.mem_append_right _ (bM (ms:=ms) (asl:=asl) (k:=k) (by simpa using h) (by simpa using h2) hX)
theorem jW {M A:Type} {f:M→A→List av}: ∀ {ms:List M} {asl:List A} {X:av},X∈br f ms asl→ ∃ (k:Nat) (m:M) (a:A),ms[k]? =some m∧asl[k]? =some a∧X∈f m a
 |[],_,X,h=>by cases h
 |_::_,[],X,h=>by cases h
 |x::ms,y::asl,X,h=>by
  rcases gR.1 h with h|h
  ·exact ⟨0,x,y,U,U,h⟩
  ·obtain ⟨k,m,a,B,C,D⟩:=jW h
   exact ⟨k+1,m,a,by simpa using B,by simpa using C,D⟩
theorem kT {M A:Type} {f:M→A→List av}: ∀ {ms:List M} {asl:List A} {ns:List M} {bs:List A},ms.length=asl.length→br f (ms++ns) (asl++bs)=br f ms asl++br f ns bs
 |[],[],ns,bs,_=>rfl
 |[],_::_,ns,bs,h=>by simp at h
 |_::_,[],ns,bs,h=>by simp at h
 |x::ms,y::asl,ns,bs,h=>by
  simp only [List.cons_append,br,List.append_assoc]
  rw [kT (by simpa using h)]
theorem dC {M A β:Type} {f:M→A→β} {ms:List M} {asl:List A} {k:Nat} {m:M} {a:A} (h:ms[k]? =some m) (h2:asl[k]? =some a):(List.zipWith f ms asl)[k]? =some (f m a):=by
 rw [List.getElem?_zipWith,h,h2]
theorem cR {C L:List av} {A:av} (i:Nat) (hC:C[i]? =some (dL L).ro) (hm:A∈L):iN C A.holds:=fun w hw=>hw _ (aR hC) A hm
theorem fM {M A:Type} {f g:M→A→List av} {ms:List M} {asl:List A} {C:List av} (i:Nat) (hC:C[i]? =some (bX (br g ms asl))) (h: ∀ m a w,(∀ X∈g m a,X.holds w)→ ∀ X∈f m a,X.holds w):iN C (dL (br f ms asl)).holds:=fun w hw X hX=>by
 have hb:=hw _ (aR hC)
 obtain ⟨k,m,a,B,D,E⟩:=jW hX
 exact h m a w (fun Y hY=>hb.1 Y (bM B D hY)) X E
/-- a row that is part of another one -/
theorem KO {C:List av} {A:OA} {n k sz:Nat} {es:List (List Value)} (hR:iN C (rd A n sz es).holds) (hk:k≤n):iN C (rd A k sz (es.take k)).holds:=fun w hw=>by
 obtain ⟨D,E,F⟩:=hR w hw
 refine ⟨by rw [List.length_take,D]; omega,fun x hx=>E x (List.mem_of_mem_take hx),fun hp=>?_⟩
 have G:0<k:=Nat.pos_of_mul_pos_right hp
 have hs:0<sz:=Nat.pos_of_mul_pos_left hp
 obtain ⟨ad,hA,B⟩:=F (Nat.mul_pos om hs)
 refine ⟨ad,hA,fun i e j v he hv=>B i e j v ?_ hv⟩
 rw [List.getElem?_take] at he
 split at he
 ·exact he
 ·cases he
section
variable {E:eT} {ops:Array Oper} {Q:cZ} {rest:List Oper} {D:List Deferred} {L:List (Nat×Value)} {C:List av}
variable {d:Nat} {ty:TypeId} {ps:String} {af:Array Edge} {g:Option (Nat×Bool)}
/-- an element of a slice that is the head of a row -/
theorem UN (k:Nat) {x ix:Operand} {A:OA} {n n' c sz e t:Nat} {es:List (List Value)} {j:Int} (h:bF E.n ops L d g x ix=some (.slice A n' c,.int .i64 j)) (hR:iN C (rd A n sz es).holds)
 (ht:tE E.P t=some (e,sz)) (hz:0<sz) (hj:j=(k:Int)) (hk:k<n') (hn:n'≤n):SE E ops ⟨some d,.indexAddr t x ix,ty,ps,af,g⟩ D L C (.pointer (qm A (k*sz))) d:=IA k h (KO hR hn) ht hz hj hk
end
theorem St.tie {S:BS} {w0 w:World} {C:List av} {A:av} {L L':List av} (h:St S w0 (A::bX L::C) w) (e:L++[A]=L'):St S w0 (bX L'::C) w:=by
 subst e
 have B:St S w0 (bX L::A::C) w:=h.perm (List.Perm.swap _ _ _)
 have D:St S w0 (L++(A::C)) w:=B.je
 have E:St S w0 ((L++[A])++C) w:=by simpa using D
 exact E.tied
theorem St.Oo {S:BS} {w0 w:World} {C:List av} (h:St S w0 C w):St S w0 (bX []::C) w:=St.tied (C1:=[]) h
section
variable {E:eT} {Q:cZ} {D:List Deferred} {L:List (Nat×Value)} {C:List av}
theorem qE {c:Code} (h:WJ E c Q D L (bX []::C)):WJ E c Q D L C:=fun a w hf hs=>h a w hf hs.Oo
theorem w6 {ops:Array Oper} {rest:List Oper} (h:RJ E ops Q rest D L (bX []::C)):RJ E ops Q rest D L C:=fun a w hf hs=>h a w hf hs.Oo
theorem yc {K:Act→World→Prop} {C1:List av} {A:av} {X X':List av} (i j:Nat) (hn:decide (j::i::(List.range C.length).filter fun k=>k != i&&k != j).Nodup=true) (hC:kh C (j::i::(List.range C.length).filter fun k=>k != i&&k != j)=A::bX X::C1) (e:X++[A]=X')
 (h:KJ E K D L (bX X'::C1)):KJ E K D L C:=fun a w hf hs=>h a w hf ((St.kh _ hn hC hs).tie e)
theorem Na {ops:Array Oper} {rest:List Oper} {C1:List av} {A:av} {X X':List av} (i j:Nat) (hn:decide (j::i::(List.range C.length).filter fun k=>k != i&&k != j).Nodup=true) (hC:kh C (j::i::(List.range C.length).filter fun k=>k != i&&k != j)=A::bX X::C1) (e:X++[A]=X')
 (h:RJ E ops Q rest D L (bX X'::C1)):RJ E ops Q rest D L C:=fun a w hf hs=>h a w hf ((St.kh _ hn hC hs).tie e)
end
end
section
open Go.RowKit
abbrev jG:ag→Value:=fun s=>vA (ag.cells s)
abbrev d_:aC→Value:=fun s=>vA (aC.cells s)
abbrev TM:=List (Int×ag)
abbrev FM:=List (aC×Int)
def f_ {α:Type} (m:α) (b:Nat):List Value:=[Value.map (some b)]
def pf (m:TM) (b:Nat):List av:=[jM iV b (cK jG m)]
def mE (m:FM) (b:Nat):List av:=[jM d_ b (cK iV m)]
theorem k8 {M A:Type} {f:M→A→List av}: ∀ (m:M) (a:A) (w:World),(∀ X∈f m a,X.holds w)→ ∀ X∈f m a,X.holds w:=fun _ _ _ h=>h
/-- untied -/
theorem Em {E:eT} {ops:Array Oper} {Q:cZ} {rest:List Oper} {D:g6} {L:di} {C X C1:List av} (i:Nat) (hn:decide (i::(List.range C.length).filter fun k=>k != i).Nodup=true) (hC:kh C (i::(List.range C.length).filter fun k=>k != i)=bX X::C1)
 (h:RJ E ops Q rest D L (X++C1)):RJ E ops Q rest D L C:=fun a w hf hs=>h a w hf (St.je (St.kh _ hn hC hs))
end
section
def cO (ln:cV) (rd:cN) (e:List Int) (tms:List TM):bS:=⟨rd.Start,rd.fJ,e,tms,ln.eP,ln.iI,(rd.aa.n:Int)⟩
def Nm (o:Int×ag):List Value:=[.int .i64 o.1,.agg (ag.cells o.2).toArray]
structure Ft (w:bS):Prop where
 n:w.n≤6
 times:w.vn.length=w.n
 now:0≤w.Start∧w.Start≤w.fJ∧w.fJ≤86400000
 least: ∀ x∈w.pU,1≤x∧x≤500000000
 EF: ∀ t∈w.vn,∀ p∈t,(0≤p.1∧p.1≤10)∧0≤p.2.Lo∧p.2.Lo≤p.2.Hi∧p.2.Hi≤86400000
theorem Ft.opt {w:bS} (h:Ft w) {b:Nat} {o:Int×ag} (ho:o∈iH w b):(-1≤o.1∧o.1≤10)∧0≤o.2.Lo∧o.2.Lo≤o.2.Hi∧o.2.Hi≤86400000:=by
 unfold iH tW at ho
 rcases bO.1 ho with rfl|ho
 ·have:=h.now; simp only; omega
 ·cases ht:w.vn[b]? with
  |none=>simp [ht] at ho
  |some t=>
   rw [ht] at ho
   have:=h.EF t (aR ht) o ho
   omega
theorem Ft.bY {w:bS} (h:Ft w) (b:Nat):0≤bY w b∧bY w b≤500000000:=by
 unfold Go.Proofs.YtijpnoadncadoaaGreatDoor.bY
 cases ht:w.pU[b]? with
 |none=>simp
 |some x=>have:=h.least x (aR ht); simp only [Option.getD_some]; omega
theorem uK (s:Int):(0≤(e7 s).right∧0≤(e7 s).eG)∧(e7 s).right+(e7 s).eG=1:=by unfold e7; split<;>simp
theorem HS {w:bS} (h:Ft w): ∀ (b:Nat) p,p∈fwd w b→(0≤p.2∧p.2≤86400000)∧(0≤p.1.right∧0≤p.1.eG)∧p.1.right+p.1.eG=(b:Int):=by
 intro b
 induction b with
 |zero=>
  intro p hp
  simp only [fwd,cd] at hp
  subst hp
  have:=h.now; simp only; omega
 |succ b ih=>
  intro q hq
  obtain ⟨p,hp,o,ho,e⟩:=fO.1 hq
  have A:=ih p hp
  have B:=h.opt ho
  have C:=h.bY b
  have D:=h.now
  have E:=uK o.1
  unfold kK at e
  split at e
  ·simp only [Option.some.injEq] at e
   subst e
   simp only [dv]
   omega
  ·cases e
theorem PQ {w:bS} (h:Ft w): ∀ (k:Nat) p,p∈bwd w k→(-(500000000*(k:Int))≤p.2∧p.2≤86400000)∧(0≤p.1.right∧0≤p.1.eG)∧p.1.right+p.1.eG≤(k:Int):=by
 intro k
 induction k with
 |zero=>
  intro p hp
  simp only [bwd,cd] at hp
  subst hp
  have:=h.now; simp only; omega
 |succ k ih=>
  intro q hq
  simp only [bwd,bO,List.mem_flatMap,List.mem_filterMap] at hq
  rcases hq with rfl|⟨p,hp,o,ho,e⟩
  ·have:=h.now; simp only; omega
  ·have A:=ih p hp
   have B:=h.opt ho
   have C:=h.bY (w.n-(k+1))
   have D:=h.now
   have E:=uK o.1
   unfold nM at e
   split at e
   ·simp only [Option.some.injEq] at e
    subst e
    simp only [dv]
    omega
   ·cases e
theorem G0 {w:bS} (h:Ft w) {b:Nat} {p:aC×Int} (hp:p∈back w b):(-3000000000≤p.2∧p.2≤86400000)∧(0≤p.1.right∧0≤p.1.eG)∧p.1.right+p.1.eG≤6:=by
 have:=PQ h _ _ hp
 have:=h.n
 omega
theorem xg {w:bS} {b:Nat} {t:TM} (ht:w.vn[b]? =some t) {o:Int×ag}:o∈iH w b↔o=(-1,⟨w.Start,w.fJ⟩)∨o∈t:=by
 unfold iH tW; rw [ht]; simp
theorem lU {K β:Type} [DecidableEq K] {l:List (K×β)} {x:K} {y:β} (hn:(l.map (·.1)).Nodup) (hm:(x,y)∈l) {o:K×β} (h:o∈l):o∈eO l x∨o=(x,y):=by
 by_cases e:o.1=x
 ·right
  obtain ⟨k,v⟩:=o
  simp only at e
  subst e
  have B:=(kR hn).1 h
  have A:=(kR hn).1 hm
  rw [B] at A
  cases A; rfl
 ·exact .inl (yT.2 ⟨h,e⟩)
theorem Gr {K β:Type} [DecidableEq K] {t l ys:List (K×β)} {x:K} {y:β} (hn:(l.map (·.1)).Nodup) (hm:(x,y)∈l) (h: ∀ o∈t,o∈l∨o∈ys): ∀ o∈t,o∈eO l x∨o∈ys++[(x,y)]:=fun o ho=>by
 rcases h o ho with h|h
 ·rcases lU hn hm h with h|h
  ·exact .inl h
  ·exact .inr (by simp [h])
 ·exact .inr (by simp [h])
theorem l7 {K β:Type} [DecidableEq K] {t l:List (K×β)} {x:K} (h: ∀ o∈l,o∈t): ∀ o∈eO l x,o∈t:=fun o ho=>h o (yT.1 ho).1
theorem HK {w:bS} {m left:List (aC×Int)} (h: ∀ p∈m,p∈left∨ks w p.1=false) (h0:left=[]):jt w m=false:=by
 unfold jt
 rw [List.any_eq_false]
 intro p hp
 rcases h p hp with q|q
 ·rw [h0] at q; cases q
 ·simp [q]
theorem KL {w:bS} {m:List (aC×Int)} {p:aC×Int} (hp:p∈m) (h:ks w p.1=true):jt w m=true:=List.any_eq_true.2 ⟨p,hp,h⟩
theorem Ji {w:bS} {m left:List (aC×Int)} {t:aC} {v:Int} (hn:(left.map (·.1)).Nodup) (hm:(t,v)∈left) (h: ∀ p∈m,p∈left∨ks w p.1=false) (hf:ks w t=false): ∀ p∈m,p∈eO left t∨ks w p.1=false:=fun p hp=>by
 rcases h p hp with q|q
 ·rcases lU hn hm q with q|q
  ·exact .inl q
  ·right; rw [q]; exact hf
 ·exact .inr q
/-- what the maps of a watch are -/
structure u0 (w:bS) (fs:List (List (aC×Int))):Prop where
 len:fs.length=w.n+1
 min: ∀ (b:Nat) m,fs[b]? =some m→tf m (fwd w b)
 keys: ∀ (b:Nat) m,fs[b]? =some m→(m.map (·.1)).Nodup
structure r_ (w:bS) (bs:List (List (aC×Int))):Prop where
 len:bs.length=w.n+1
 max: ∀ (b:Nat) m,bs[b]? =some m→vj m (back w b)
 keys: ∀ (b:Nat) m,bs[b]? =some m→(m.map (·.1)).Nodup
theorem u0.mem {w:bS} {fs:List (List (aC×Int))} (h:u0 w fs) {b:Nat} {m:List (aC×Int)} (hm:fs[b]? =some m) {p:aC×Int} (hp:p∈m):p∈fwd w b:=(h.min b m hm).1 _ _ ((fr (h.keys b m hm)).1 hp)
theorem r_.mem {w:bS} {fs:List (List (aC×Int))} (h:r_ w fs) {b:Nat} {m:List (aC×Int)} (hm:fs[b]? =some m) {p:aC×Int} (hp:p∈m):p∈back w b:=(h.max b m hm).1 _ _ ((fr (h.keys b m hm)).1 hp)
theorem GO {w:bS} {b:Nat} {t l ys:List (Int×ag)} (ht:w.vn[b]? =some t) (h: ∀ o∈t,o∈l∨o∈ys) (h0:l=[]) (hs:(-1,(⟨w.Start,w.fJ⟩:ag))∈ys): ∀ o∈iH w b,o∈ys:=fun o ho=>by
 rcases (xg ht).1 ho with rfl|ho
 ·exact hs
 ·rcases h o ho with q|q
  ·rw [h0] at q; cases q
  ·exact q
end
section
/-- by these options all is yielded -/
def ly (w:bS) (b:Nat) (mf mb:List (aC×Int)) (os ys:List (Int×ag)):Prop:= ∀ o∈os,∀ p∈mf,∀ u∈mb,∀ q,l8 w b p u o=some q→q∈ys
def nx (w:bS) (b:Nat) (mf mb:List (aC×Int)) (o:Int×ag) (left:List (aC×Int)) (ys:List (Int×ag)):Prop:= ∀ p∈mf,p∈left∨ ∀ u∈mb,∀ q,l8 w b p u o=some q→q∈ys
def nz (w:bS) (b:Nat) (mb:List (aC×Int)) (o:Int×ag) (p:aC×Int) (left:List (aC×Int)) (ys:List (Int×ag)):Prop:= ∀ u∈mb,u∈left∨ ∀ q,l8 w b p u o=some q→q∈ys
variable {w:bS} {b:Nat} {mf mb left:List (aC×Int)} {o x:Int×ag} {os ys:List (Int×ag)} {p u:aC×Int}
theorem ly.nil:ly w b mf mb [] ys:=fun o ho=>by cases ho
theorem ly.app (h:ly w b mf mb os ys):ly w b mf mb os (ys++[x]):=fun o ho p hp u hu q e=>List.mem_append_left _ (h o ho p hp u hu q e)
theorem nx.app (h:nx w b mf mb o left ys):nx w b mf mb o left (ys++[x]):=fun p hp=>(h p hp).imp id fun h u hu q e=>List.mem_append_left _ (h u hu q e)
theorem nx.start:nx w b mf mb o mf ys:=fun p hp=> .inl hp
theorem nz.start:nz w b mb o p mb ys:=fun p hp=> .inl hp
theorem nz.skip {t:aC} {v:Int} (hn:(left.map (·.1)).Nodup) (hm:(t,v)∈left) (h:nz w b mb o p left ys) (he:l8 w b p (t,v) o=none):nz w b mb o p (eO left t) ys:=fun u hu=>by
 rcases h u hu with q|q
 ·rcases lU hn hm q with q|q
  ·exact .inl q
  ·right; intro z hz; rw [q,he] at hz; cases hz
 ·exact .inr q
theorem nz.TI {t:aC} {v:Int} (hn:(left.map (·.1)).Nodup) (hm:(t,v)∈left) (h:nz w b mb o p left ys) (he:l8 w b p (t,v) o=some x):nz w b mb o p (eO left t) (ys++[x]):=fun u hu=>by
 rcases h u hu with q|q
 ·rcases lU hn hm q with q|q
  ·exact .inl q
  ·right; intro z hz; rw [q,he] at hz; cases hz; simp
 ·right; intro z hz; exact List.mem_append_left _ (q z hz)
theorem nx.next {t:aC} {v:Int} {l2:List (aC×Int)} (hn:(left.map (·.1)).Nodup) (hm:(t,v)∈left) (h:nx w b mf mb o left ys) (hq:nz w b mb o (t,v) l2 ys) (h0:l2=[]):nx w b mf mb o (eO left t) ys:=fun p hp=>by
 rcases h p hp with q|q
 ·rcases lU hn hm q with q|q
  ·exact .inl q
  ·right; intro u hu z hz; subst q
   rcases hq u hu with q|q
   ·rw [h0] at q; cases q
   ·exact q z hz
 ·exact .inr q
theorem ly.next (h:ly w b mf mb os ys) (hp:nx w b mf mb o left ys) (h0:left=[]):ly w b mf mb (os++[o]) ys:=fun o' ho p hp' u hu q e=>by
 rcases gR.1 ho with ho|ho
 ·exact h o' ho p hp' u hu q e
 ·simp only [cd] at ho; subst ho
  rcases hp p hp' with z|z
  ·rw [h0] at z; cases z
  ·exact z u hu q e
theorem ly.fin (h:ly w b mf mb os ys) (ho: ∀ o∈iH w b,o∈os): ∀ q∈p9 w b mf mb,q∈ys:=fun q hq=>by
 obtain ⟨o,A,p,B,u,C,e⟩:=ir.1 hq
 exact h o (ho o A) p B u C q e
theorem FV (h:max (p.2+bY w b) o.2.Lo≤min u.2 o.2.Hi) (h2:ks w (dv (dv p.1 u.1) (e7 o.1))=true):l8 w b p u o=some (o.1,⟨max (p.2+bY w b) o.2.Lo,min u.2 o.2.Hi⟩):=by
 unfold l8 jx w4; rw [if_pos ⟨h,h2⟩]
theorem Kp (h: ¬ max (p.2+bY w b) o.2.Lo≤min u.2 o.2.Hi):l8 w b p u o=none:=by
 unfold l8 jx; rw [if_neg (fun q=>h q.1)]
theorem Fp (h2:ks w (dv (dv p.1 u.1) (e7 o.1))=false):l8 w b p u o=none:=by
 unfold l8 w4; rw [if_neg (fun q=>by rw [h2] at q; exact absurd q.2 dc)]
theorem nF {v:Int} (h:w.pU[b]? =some v):bY w b=v:=by unfold bY; rw [h]; rfl
theorem BO {t q:aC} {v z y:Int} (hy:w.pU[b]? =some y) (h:max (v+y) o.2.Lo≤min z o.2.Hi) (h2:ks w (dv (dv t q) (e7 o.1))=true):l8 w b (t,v) (q,z) o=some (o.1,⟨max (v+y) o.2.Lo,min z o.2.Hi⟩):=by
 have e:=nF hy
 subst e
 exact FV h h2
theorem Gy {t q:aC} {v z y:Int} (hy:w.pU[b]? =some y) (h: ¬ max (v+y) o.2.Lo≤min z o.2.Hi):l8 w b (t,v) (q,z) o=none:=by
 have e:=nF hy
 subst e
 exact Kp h
theorem nS {m:List (aC×Int)} {k:aC} {y:Int} (h:(m.map (·.1)).Nodup):((dz m k y).map (·.1)).Nodup:=by
 unfold dz
 by_cases hx:(m.lookup k).isSome
 ·rw [if_pos hx,List.map_map]
  have e:m.map ((fun p=>p.1)∘fun p=>if p.1=k then (k,y) else p)=m.map (·.1):=by
   apply List.map_congr_left
   intro p _
   simp only [Function.comp]
   split
   ·rename_i e; exact e.symm
   ·rfl
  rw [e]; exact h
 ·rw [if_neg hx,List.map_append,List.nodup_append]
  refine ⟨h,sm,?_⟩
  intro a ha c hc
  simp only [List.map_cons,List.map_nil,cd] at hc
  rw [hc]
  obtain ⟨p,hp,rfl⟩:=cr.1 ha
  have hn:m.lookup k=none:=by cases h0:m.lookup k with
   |none=>rfl
   |some v=>exact absurd (by rw [h0]; rfl) hx
  exact hZ.1 hn p hp
theorem B4 {m:List (aC×Int)} {q:aC×Int} (h:(m.map (·.1)).Nodup):((o_ m q).map (·.1)).Nodup:=by
 unfold o_; split
 ·exact nS h
 ·split
  ·exact nS h
  ·exact h
theorem AF {m:List (aC×Int)} {q:aC×Int} (h:(m.map (·.1)).Nodup):((oH m q).map (·.1)).Nodup:=by
 unfold oH; split
 ·exact nS h
 ·split
  ·exact nS h
  ·exact h
/-- a map of the first times, on its way -/
structure xK (w:bS) (b:Nat) (m:List (aC×Int)):Prop where
 snd:u6 m (fwd w (b+1))
 keys:(m.map (·.1)).Nodup
structure vE (w:bS) (b:Nat) (m:List (aC×Int)):Prop where
 snd:u6 m (back w b)
 keys:(m.map (·.1)).Nodup
 zero: ∃ v,m.lookup ⟨0,0⟩=some v∧w.fJ≤v
theorem Jl (h:max (p.2+bY w b) o.2.Lo≤min o.2.Hi w.fJ):kK w b p o=some (dv p.1 (e7 o.1),max (p.2+bY w b) o.2.Lo):=by unfold kK; rw [if_pos h]
theorem MF (h: ¬ max (p.2+bY w b) o.2.Lo≤min o.2.Hi w.fJ):kK w b p o=none:=by unfold kK; rw [if_neg h]
theorem I0 (h:o.2.Lo≤min p.2 o.2.Hi):nM w b p o=some (dv p.1 (e7 o.1),min p.2 o.2.Hi-bY w b):=by unfold nM; rw [if_pos h]
theorem Lr (h: ¬ o.2.Lo≤min p.2 o.2.Hi):nM w b p o=none:=by unfold nM; rw [if_neg h]
theorem xK.start:xK w b []:=⟨fun t v h=>by simp at h,List.nodup_nil⟩
theorem xK.add {m:List (aC×Int)} {q:aC×Int} (h:xK w b m) (hp:p∈fwd w b) (ho:o∈iH w b) (he:kK w b p o=some q):xK w b (o_ m q):=⟨Gv h.snd (fO.2 ⟨p,hp,o,ho,he⟩),B4 h.keys⟩
theorem vE.start (hb:b<w.n):vE w b [(⟨0,0⟩,w.fJ)]:=⟨fun t v h=>by
 obtain ⟨rfl,rfl⟩:=oI.1 h
 exact (oP hb).2 (.inl U),sm,w.fJ,oI.2 ⟨U,U⟩,Int.le_refl _⟩
theorem vE.add {m:List (aC×Int)} {q:aC×Int} (hb:b<w.n) (h:vE w b m) (hp:p∈back w (b+1)) (ho:o∈iH w b) (he:nM w b p o=some q):vE w b (oH m q):=⟨F9 h.snd ((oP hb).2 (.inr ⟨p,hp,o,ho,he⟩)),AF h.keys,by
 obtain ⟨v,A,C⟩:=h.zero
 obtain ⟨v',B,D⟩:=qC (q:=q) _ _ A
 exact ⟨v',B,om⟩⟩
theorem jl.none_ {m:List (aC×Int)} (h:jl w b m p os) (he:kK w b p o=none):jl w b m p (os++[o]):=h.add (wH.refl _) fun q hq=>by rw [he] at hq; cases hq
theorem jl.Kf {m:List (aC×Int)} {q:aC×Int} (h:jl w b m p os) (he:kK w b p o=some q):jl w b (o_ m q) p (os++[o]):=h.add vb fun q' hq=>by rw [he] at hq; cases hq; exact FT
theorem jk.none_ {m:List (aC×Int)} (h:jk w b m p os) (he:nM w b p o=none):jk w b m p (os++[o]):=h.add (xo.refl _) fun q hq=>by rw [he] at hq; cases hq
theorem jk.Kf {m:List (aC×Int)} {q:aC×Int} (h:jk w b m p os) (he:nM w b p o=some q):jk w b (oH m q) p (os++[o]):=h.add qC fun q' hq=>by rw [he] at hq; cases hq; exact Fe
/-- what of a map of the beam before is used already -/
def jU (w:bS) (b:Nat) (mb m left:List (aC×Int)):Prop:= ∀ p∈mb,p∈left∨jl w b m p (iH w b)
def jD (w:bS) (b:Nat) (mb m left:List (aC×Int)):Prop:= ∀ p∈mb,p∈left∨jk w b m p (iH w b)
theorem jU.start {m:List (aC×Int)}:jU w b mb m mb:=fun p hp=> .inl hp
theorem jD.start {m:List (aC×Int)}:jD w b mb m mb:=fun p hp=> .inl hp
theorem jU.lower {m m':List (aC×Int)} (h:jU w b mb m left) (hl:wH m m'):jU w b mb m' left:=fun p hp=>(h p hp).imp id fun h=>h.lower hl
theorem jD.upper {m m':List (aC×Int)} (h:jD w b mb m left) (hl:xo m m'):jD w b mb m' left:=fun p hp=>(h p hp).imp id fun h=>h.upper hl
theorem jU.next {m:List (aC×Int)} {t:aC} {v:Int} (hn:(left.map (·.1)).Nodup) (hm:(t,v)∈left) (h:jU w b mb m left) (hd:jl w b m (t,v) os) (ho: ∀ o∈iH w b,o∈os):jU w b mb m (eO left t):=fun p hp=>by
 rcases h p hp with q|q
 ·rcases lU hn hm q with q|q
  ·exact .inl q
  ·right; rw [q]; exact hd.sub ho
 ·exact .inr q
theorem jD.next {m:List (aC×Int)} {t:aC} {v:Int} (hn:(left.map (·.1)).Nodup) (hm:(t,v)∈left) (h:jD w b mb m left) (hd:jk w b m (t,v) os) (ho: ∀ o∈iH w b,o∈os):jD w b mb m (eO left t):=fun p hp=>by
 rcases h p hp with q|q
 ·rcases lU hn hm q with q|q
  ·exact .inl q
  ·right; rw [q]; exact hd.sub ho
 ·exact .inr q
theorem jU.fin {m:List (aC×Int)} (h:jU w b mb m left) (h0:left=[]): ∀ p∈mb,jl w b m p (iH w b):=fun p hp=>by
 rcases h p hp with q|q
 ·rw [h0] at q; cases q
 ·exact q
theorem jD.fin {m:List (aC×Int)} (h:jD w b mb m left) (h0:left=[]): ∀ p∈mb,jk w b m p (iH w b):=fun p hp=>by
 rcases h p hp with q|q
 ·rw [h0] at q; cases q
 ·exact q
end
section
def l5 (a b:ag):ag:=⟨a.Lo+b.Lo,a.Hi+b.Hi⟩
def gF:ag:=⟨0,0⟩
def kl (a:ag) (l:List ag):ag:=l.foldl l5 a
def lv (z:ag):Prop:=(-1000000000≤z.Lo∧z.Lo≤1000000000)∧ -1000000000≤z.Hi∧z.Hi≤1000000000
theorem yo {a:ag} {l:List ag} {i:Nat} {z:ag} (h:l[i]? =some z):kl a (l.take (i+1))=l5 (kl a (l.take i)) z:=by
 rw [List.take_add_one,h]; unfold kl; simp
theorem OF {a:ag} {l:List ag} (ha:lv a) (hl: ∀ z∈l,lv z): ∀ i:Nat,(-1000000000-1000000000*(i:Int)≤(kl a (l.take i)).Lo∧(kl a (l.take i)).Lo≤1000000000+1000000000*(i:Int))∧ -1000000000-1000000000*(i:Int)≤(kl a (l.take i)).Hi∧(kl a (l.take i)).Hi≤1000000000+1000000000*(i:Int):=by
 intro i
 induction i with
 |zero=>unfold lv at ha; simp [kl]; omega
 |succ i ih=>
  cases h:l[i]? with
  |none=>rw [List.take_add_one,h]; simp only [Option.toList_none,List.append_nil]; omega
  |some z=>
   have hz:=hl z (aR h)
   unfold lv at hz
   rw [yo h]
   simp only [l5]
   omega
theorem Ke {a:ag} {l:List ag} {i:Nat} (h:l.length≤i):kl a (l.take i)=kl a l:=by rw [List.take_of_length_le h]
theorem nE {a z:ag}:vA (ag.cells (kl a [z]))=vA (ag.cells (l5 a z)):=rfl
theorem AI {a y z:ag}:vA (ag.cells (kl a [y,z]))=vA (ag.cells (l5 (l5 a y) z)):=rfl
/-- how long the run is from one mark, over so many stretches; by how much it falls -/
def ei (ts:List ao) (f:Nat):Nat→ag
 |0=>gF
 |k+1=>match ts[f+k]? with
  |some x=>l5 (ei ts f k) x.ko
  |none=>ei ts f k
def gp (ts:List ao) (f:Nat):Nat→ag
 |0=>gF
 |k+1=>match ts[f+k]? with
  |some x=>l5 (gp ts f k) x.lS
  |none=>gp ts f k
theorem pQ {ts:List ao} {f k:Nat} {x:ao} (h:ts[f+k]? =some x):ei ts f (k+1)=l5 (ei ts f k) x.ko:=by simp [ei,h]
theorem pH {ts:List ao} {f k:Nat} {x:ao} (h:ts[f+k]? =some x):gp ts f (k+1)=l5 (gp ts f k) x.lS:=by simp [gp,h]
theorem l4 {ts:List ao} (ht: ∀ x∈ts,bP x) (f:Nat): ∀ k:Nat,(0≤(ei ts f k).Lo∧(ei ts f k).Lo≤(ei ts f k).Hi)∧(ei ts f k).Hi≤30000*(k:Int):=by
 intro k
 induction k with
 |zero=>simp [ei,gF]
 |succ k ih=>
  simp only [ei]
  cases h:ts[f+k]? with
  |none=>simp only; omega
  |some x=>
   have hx:=(ht x (aR h)).2.1
   simp only [dQ] at hx
   simp only [l5]
   omega
theorem D7 {ts:List ao} (ht: ∀ x∈ts,bP x) (f:Nat): ∀ k:Nat,(0≤(gp ts f k).Lo∧(gp ts f k).Lo≤(gp ts f k).Hi)∧(gp ts f k).Hi≤5000*(k:Int):=by
 intro k
 induction k with
 |zero=>simp [gp,gF]
 |succ k ih=>
  simp only [gp]
  cases h:ts[f+k]? with
  |none=>simp only; omega
  |some x=>
   have hx:=(ht x (aR h)).2.2.1
   simp only [dQ] at hx
   simp only [l5]
   omega
theorem qs {ts:List ao} (ht: ∀ x∈ts,bP x) {f k:Nat} (hk:k≤13):lv (ei ts f k):=by
 have:=l4 ht f k; unfold lv; omega
theorem wG {ts:List ao} (ht: ∀ x∈ts,bP x) {f k:Nat} (hk:k≤13):lv (gp ts f k):=by
 have:=D7 ht f k; unfold lv; omega
theorem uq {x:ao} (h:bP x):lv x.ko:=by have:=h.2.1; simp only [dQ] at this; unfold lv; omega
theorem uR {x:ao} (h:bP x):lv x.lS:=by have:=h.2.2.1; simp only [dQ] at this; unfold lv; omega
theorem x8 {ts:List ao} (h: ¬ (if c8 ts=true then (0:Int) else 10)=0):c8 ts=false∧(if c8 ts=true then (0:Int) else 10)=10:=by
 cases ht:c8 ts with
 |true=>rw [ht] at h; exact absurd rfl h
 |false=>exact ⟨rfl,rfl⟩
theorem C_ {ts:List ao} (h:(if c8 ts=true then (0:Int) else 10)=0):c8 ts=true:=by
 cases ht:c8 ts with
 |true=>rfl
 |false=>rw [ht] at h; exact absurd h dc
/-- what the iterator of marks yields -/
def tI (ts:List ao) (f:Nat):List (List Value):=(List.range (ts.length-f+1)).map fun (k:Nat)=>[.agg (ei ts f k).cells.toArray,.agg (gp ts f k).cells.toArray]
theorem sT {ts:List ao} {f:Nat}:(tI ts f).length=ts.length-f+1:=by simp [tI]
theorem yR {ts:List ao} {f k:Nat} (h:k≤ts.length-f):(tI ts f)[k]? =some [.agg (ei ts f k).cells.toArray,.agg (gp ts f k).cells.toArray]:=by
 simp [tI,List.getElem?_range (show k<ts.length-f+1 by omega)]
theorem GD {ts:List ao} {f k:Nat} {x:List Value} (h:(tI ts f)[k]? =some x):k≤ts.length-f∧x=[.agg (ei ts f k).cells.toArray,.agg (gp ts f k).cells.toArray]:=by
 have hi:k<ts.length-f+1:=by
  have:=(aW.1 h).1
  simpa [tI] using this
 rw [yR om] at h
 exact ⟨om,(Option.some.inj h).symm⟩
theorem DH {ts:List ao} {f:Nat}: ∀ x∈tI ts f,x.length=2:=fun x hx=>by
 obtain ⟨k,_,rfl⟩:=cr.1 hx; rfl
end
section
def fh (ts:List ao) (s:cy):Prop:=(0≤s.bu∧s.bu<(ts.length:Int))∧ ∃ x,ts[s.bu.toNat]? =some x∧dQ s.mu 0 (x.ko.Lo-1)
noncomputable instance (ts:List ao) (s:cy):Decidable (fh ts s):=Classical.propDecidable _
theorem Ah {ts:List ao} {s:cy} {x:ao} (h:0≤s.bu∧s.bu<(ts.length:Int)) (hx:ts[s.bu.toNat]? =some x):fh ts s↔dQ s.mu 0 (x.ko.Lo-1):=
 ⟨fun A=>by obtain ⟨y,hy,B⟩:=A.2; rw [hx] at hy; cases hy; exact B,fun A=>⟨h,x,hx,A⟩⟩
theorem BY {ts:List ao} {s:cy} (h: ¬ (0≤s.bu∧s.bu<(ts.length:Int))): ¬ fh ts s:=fun A=>h A.1
theorem zW {ts:List ao} {s:cy} (ht: ∀ x∈ts,bP x) (h:fh ts s):(0≤s.mu.Lo∧s.mu.Lo≤s.mu.Hi)∧s.mu.Hi≤30000:=by
 obtain ⟨x,hx,A⟩:=h.2
 have:=(ht x (aR hx)).2.1
 simp only [dQ] at A this
 omega
theorem CR {ts:List ao} {a:cy}:vB (decide (∀ s∈[a],fh ts s))=vB (decide (fh ts a)):=congrArg _ (gv.2 sm)
theorem CD {ts:List ao} {a b:cy}:vB (decide (∀ s∈[a,b],fh ts s))=vB (decide (fh ts a∧fh ts b)):=congrArg _ (gv.2 sm)
def nW (z:ag):ag:=⟨-z.Hi,-z.Lo⟩
def Kx (ts:List ao) (s:cy):ag:=l5 (ei ts 0 s.bu.toNat) s.mu
noncomputable def Ed (ts:List ao) (s:cy):Int:=if c8 ts=true then (if fh ts s then 0 else 12) else 10
noncomputable def ND (ts:List ao) (s:cy):ag:=if Ed ts s=0 then Kx ts s else gF
theorem JZ {ts:List ao} {s:cy} (h:c8 ts=false):Ed ts s=10∧ND ts s=gF:=by
 have e:Ed ts s=10:=by unfold Ed; rw [h]; rfl
 exact ⟨e,by unfold ND; rw [e]; rfl⟩
theorem IT {ts:List ao} {s:cy} (h:c8 ts=true) (h2: ¬ fh ts s):Ed ts s=12∧ND ts s=gF:=by
 have e:Ed ts s=12:=by unfold Ed; rw [if_pos h,if_neg h2]
 exact ⟨e,by unfold ND; rw [e]; rfl⟩
theorem wc {ts:List ao} {s:cy} (h:c8 ts=true) (h2:fh ts s):Ed ts s=0∧ND ts s=Kx ts s:=by
 have e:Ed ts s=0:=by unfold Ed; rw [if_pos h,if_pos h2]
 exact ⟨e,if_pos e⟩
theorem EG {ts:List ao} {s:cy} (h:c8 ts=true):Ed ts s=0↔fh ts s:=by
 unfold Ed; rw [if_pos h]; split<;>simp [*]
def xQ (ts:List ao) (a b:cy):ag:=ei ts (min a.bu b.bu).toNat (max a.bu b.bu-min a.bu b.bu).toNat
def jQ (ts:List ao) (a b:cy):ag:=l5 (l5 (if b.bu<a.bu then nW (xQ ts a b) else xQ ts a b) b.mu) (nW a.mu)
noncomputable def lK (ts:List ao) (a b:cy):Int:=if c8 ts=true then (if fh ts a∧fh ts b then 0 else 12) else 10
noncomputable def kN (ts:List ao) (a b:cy):ag:=if lK ts a b=0 then jQ ts a b else gF
theorem uk {ts:List ao} {a b:cy} (h:c8 ts=false):lK ts a b=10∧kN ts a b=gF:=by
 have e:lK ts a b=10:=by unfold lK; rw [h]; rfl
 exact ⟨e,by unfold kN; rw [e]; rfl⟩
theorem oO {ts:List ao} {a b:cy} (h:c8 ts=true) (h2: ¬ (fh ts a∧fh ts b)):lK ts a b=12∧kN ts a b=gF:=by
 have e:lK ts a b=12:=by unfold lK; rw [if_pos h,if_neg h2]
 exact ⟨e,by unfold kN; rw [e]; rfl⟩
theorem lp {ts:List ao} {a b:cy} (h:c8 ts=true) (h2:fh ts a∧fh ts b):lK ts a b=0∧kN ts a b=jQ ts a b:=by
 have e:lK ts a b=0:=by unfold lK; rw [if_pos h,if_pos h2]
 exact ⟨e,if_pos e⟩
theorem zV {z:ag} (h:lv z):lv (nW z):=by unfold lv nW at *; simp only; omega
theorem qp {ts:List ao} {s:cy} (ht: ∀ x∈ts,bP x) (h:fh ts s):lv s.mu:=by have:=zW ht h; unfold lv; omega
theorem Po {ts:List ao} {a b:cy} (ht: ∀ x∈ts,bP x) (hl:ts.length≤12) (ha:fh ts a) (hb:fh ts b):(0≤(xQ ts a b).Lo∧(xQ ts a b).Lo≤(xQ ts a b).Hi)∧(xQ ts a b).Hi≤360000:=by
 have h:=l4 ht (min a.bu b.bu).toNat (max a.bu b.bu-min a.bu b.bu).toNat
 have A:=ha.1
 have B:=hb.1
 unfold xQ
 omega
theorem wM {ts:List ao} {a b:cy} (ht: ∀ x∈ts,bP x) (hl:ts.length≤12) (ha:fh ts a) (hb:fh ts b):(-400000≤(jQ ts a b).Lo∧(jQ ts a b).Lo≤(jQ ts a b).Hi)∧(jQ ts a b).Hi≤400000:=by
 have h:=Po ht hl ha hb
 have A:=zW ht ha
 have B:=zW ht hb
 unfold jQ l5 nW
 split<;>simp only <;>omega
theorem QX {ts:List ao} {s:cy} (ht: ∀ x∈ts,bP x) (hl:ts.length≤12) (h:fh ts s):(0≤(Kx ts s).Lo∧(Kx ts s).Lo≤(Kx ts s).Hi)∧(Kx ts s).Hi≤400000:=by
 have A:=l4 ht 0 s.bu.toNat
 have B:=zW ht h
 have C:=h.1
 unfold Kx l5
 simp only; omega
theorem Fu {α:Type} {p:Nat→α→Bool} {l:List α}:((l.zipIdx.filter fun q=>p q.2 q.1).map fun q=>(q.2:Int))=[]↔ ∀ (i:Nat) x,l[i]? =some x→p i x=false:=by
 rw [List.map_eq_nil_iff,List.filter_eq_nil_iff]
 constructor
 ·intro h i x hx
  have:=h (x,i) (by rw [List.mem_zipIdx_iff_getElem?]; simpa using hx)
  simpa using this
 ·rintro h ⟨x,i⟩ hm
  rw [List.mem_zipIdx_iff_getElem?] at hm
  simpa using h i x (by simpa using hm)
/-- the places of a list at which something is so -/
def sB {α:Type} (p:Nat→α→Bool) (l:List α) (n:Nat):List Int:=(((l.take n).zipIdx.filter fun q=>p q.2 q.1).map fun q=>(q.2:Int))
theorem I1 {α:Type} {p:Nat→α→Bool} {l:List α} {i:Nat} {x:α} (hx:l[i]? =some x) (h:p i x=true):sB p l (i+1)=sB p l i++[(i:Int)]:=by
 have hi:=(aW.1 hx).1
 unfold sB
 rw [List.take_add_one,hx,List.zipIdx_append,List.filter_append,List.map_append]
 simp [Nat.min_eq_left (Nat.le_of_lt hi),h]
theorem Lz {α:Type} {p:Nat→α→Bool} {l:List α} {i:Nat} {x:α} (hx:l[i]? =some x) (h:p i x=false):sB p l (i+1)=sB p l i:=by
 have hi:=(aW.1 hx).1
 unfold sB
 rw [List.take_add_one,hx,List.zipIdx_append,List.filter_append,List.map_append]
 simp [Nat.min_eq_left (Nat.le_of_lt hi),h]
theorem AR {α:Type} {p:Nat→α→Bool} {l:List α} {n:Nat}:(sB p l n).length≤n:=by
 unfold sB
 rw [List.length_map]
 refine Nat.le_trans (List.length_filter_le _ _) ?_
 rw [List.length_zipIdx,List.length_take]; omega
def HV {α:Type} (p:Nat→α→Bool) (l:List α):List Int:=sB p l l.length
theorem Lt {α:Type} {p:Nat→α→Bool} {l:List α} {n:Nat} (h:n=l.length):sB p l n=HV p l:=by rw [h]; rfl
theorem Fm {α:Type} {p:Nat→α→Bool} {l:List α}:(HV p l).length=0↔ ∀ (i:Nat) x,l[i]? =some x→p i x=false:=by
 unfold HV sB
 rw [List.length_eq_zero_iff,List.take_length]
 exact Fu
end
section
theorem yu (p:Int→Bool) (n:Nat): ∃ r:Int,r=((List.range n).findIdx fun (k:Nat)=>p (k:Int):Nat):=⟨_,rfl⟩
noncomputable def fp (p:Int→Bool) (n:Nat):Int:=Classical.choose (yu p n)
theorem sx (p:Int→Bool) (n:Nat):fp p n=((List.range n).findIdx fun (k:Nat)=>p (k:Int):Nat):=Classical.choose_spec (yu p n)
theorem iz {p:Int→Bool} {n:Nat}:0≤fp p n∧fp p n≤n:=by
 rw [sx]
 have:=List.findIdx_le_length (xs:=List.range n) (p:=fun (k:Nat)=>p (k:Int))
 rw [List.length_range] at this
 omega
theorem uh {p:Int→Bool} {n:Nat} {x:Int} (h0:0≤x) (h:x<fp p n):p x=false:=by
 have hb:=iz (p:=p) (n:=n)
 rw [sx] at h
 have B:x.toNat<(List.range n).findIdx fun (k:Nat)=>p (k:Int):=by omega
 have A:=List.not_of_lt_findIdx B
 simp only [List.getElem_range] at A
 rw [show (x.toNat:Int)=x by omega] at A
 simpa using A
theorem yD {p:Int→Bool} {n:Nat} (h:fp p n<n):p (fp p n)=true:=by
 rw [sx] at h ⊢
 have A:((List.range n).findIdx fun (k:Nat)=>p (k:Int))<(List.range n).length:=by rw [List.length_range]; omega
 have:=List.findIdx_getElem (w:=A)
 simpa using this
theorem yn {p:Int→Bool} {n:Nat} {r:Int} (h0:0≤r) (hn:r<n) (hr:p r=true) (hb: ∀ x,0≤x→x<r→p x=false):fp p n=r:=by
 have A:=iz (p:=p) (n:=n)
 rcases Int.lt_trichotomy (fp p n) r with h|h|h
 ·have:=hb _ A.1 h
  have e:=yD (p:=p) (n:=n) om
  rw [e] at this; cases this
 ·exact h
 ·have:=uh h0 h
  rw [hr] at this; cases this
end
section
def oE (n by_:Int):Int:=(n+by_-1)/by_
/-- by how much a sync may be off -/
def sb (c:ay) (at_:Int) (x:cQ):Int:=oE (c.dj*max (at_-x.At) (x.At-at_)) 1000000
def lG (c:ay) (at_:Int) (s:ag) (x:cQ):ag:=⟨max s.Lo (x.eh.Lo-sb c at_ x),min s.Hi (x.eh.Hi+sb c at_ x)⟩
def gD (c:ay) (at_:Int) (k:Nat):ag:=(c.bG.take k).foldl (lG c at_) ⟨-1099511627776,1099511627776⟩
def iv (c:ay) (at_:Int):ag:=c.bG.foldl (lG c at_) ⟨-1099511627776,1099511627776⟩
theorem jS {c:ay} {at_:Int} {k:Nat} {x:cQ} (h:c.bG[k]? =some x):gD c at_ (k+1)=lG c at_ (gD c at_ k) x:=by
 unfold gD; rw [List.take_add_one,h,List.foldl_append]; rfl
theorem nI {c:ay} {at_:Int} {k:Nat} (h:c.bG.length≤k):gD c at_ k=iv c at_:=by unfold gD iv; rw [List.take_of_length_le h]
def kg (c:ay) (i:Nat):Int:=if i=0 then-1 else ((c.bG[i-1]?).map (·.At)).getD 0
def e9 (c:ay) (i:Nat) (x:cQ):Prop:=(kg c i<x.At∧x.At≤86400000)∧ -10000≤x.eh.Lo∧x.eh.Lo≤x.eh.Hi∧x.eh.Hi≤10000
def nG (c:ay) (x o:cQ):Prop:=x.eh.Lo-o.eh.Hi≤oE (c.dj*(x.At-o.At)) 1000000∧o.eh.Lo-x.eh.Hi≤oE (c.dj*(x.At-o.At)) 1000000
structure eM (c:ay):Prop where
 rR:0≤c.dj∧c.dj≤1000
 len:1≤c.bG.length∧c.bG.length≤5
 sync: ∀ (i:Nat) x,c.bG[i]? =some x→e9 c i x
 pair: ∀ (i k:Nat) x o,c.bG[i]? =some x→k<i→c.bG[k]? =some o→nG c x o
noncomputable instance (c:ay):Decidable (eM c):=Classical.propDecidable _
theorem gE {c:ay} {i:Nat} (h:i=0):kg c i= -1:=if_pos h
theorem wk {c:ay} {i:Nat} {y:cQ} (h:0<i) (hy:c.bG[i-1]? =some y):kg c i=y.At:=by unfold kg; rw [if_neg om,hy]; rfl
theorem od {c:ay} {i:Nat} {y:cQ} (hy:c.bG[i]? =some y):kg c (i+1)=y.At:=by unfold kg; rw [if_neg om,Nat.add_sub_cancel,hy]; rfl
/-- the times of the syncs -/
theorem ML {c:ay} (h: ∀ (i:Nat) x,c.bG[i]? =some x→e9 c i x): ∀ (i:Nat) x,c.bG[i]? =some x→0≤x.At∧ ∀ (k:Nat) o,k<i→c.bG[k]? =some o→o.At<x.At:=by
 intro i
 induction i with
 |zero=>
  intro x hx
  have:=(h 0 x hx).1.1
  rw [gE rfl] at this
  exact ⟨om,fun k o hk=>by omega⟩
 |succ i ih=>
  intro x hx
  have hi:=(aW.1 hx).1
  have hy:c.bG[i]? =some (c.bG[i]'om):=e_ om
  have B:=ih _ hy
  have A:=(h (i+1) x hx).1.1
  rw [od hy] at A
  refine ⟨om,fun k o hk ho=>?_⟩
  by_cases e:k=i
  ·subst e; rw [hy] at ho; cases ho; exact A
  ·have:=B.2 k o om ho; omega
theorem eM.uo {c:ay} (h:eM c) {i:Nat} {x:cQ} (hx:c.bG[i]? =some x):(0≤x.At∧x.At≤86400000)∧ -10000≤x.eh.Lo∧x.eh.Lo≤x.eh.Hi∧x.eh.Hi≤10000:=by
 have A:=h.sync i x hx
 exact ⟨⟨(ML h.sync i x hx).1,A.1.2⟩,A.2⟩
theorem EL {d a b:Int} (hd:0≤d∧d≤1000) (ha:0≤a∧a≤90000000) (hb:0≤b∧b≤90000000):0≤d*max (a-b) (b-a)∧d*max (a-b) (b-a)≤90000000000:=by
 have:=Pq (a:=d) (b:=max (a-b) (b-a)) (A:=1000) (B:=90000000) hd.1 hd.2 om om
 omega
theorem uj {c:ay} {at_:Int} {x:cQ} (hd:0≤c.dj∧c.dj≤1000) (ha:0≤at_∧at_≤90000000) (hx:0≤x.At∧x.At≤86400000):0≤sb c at_ x∧sb c at_ x≤90001:=by
 have h:=EL hd ha (show 0≤x.At∧x.At≤90000000 by omega)
 unfold sb oE; omega
theorem Bi {c:ay} {at_:Int} (h:eM c) (ha:0≤at_∧at_≤90000000): ∀ k:Nat,(-1099511627776≤(gD c at_ k).Lo∧(gD c at_ k).Lo≤10000)∧ -10000≤(gD c at_ k).Hi∧(gD c at_ k).Hi≤1099511627776:=by
 intro k
 induction k with
 |zero=>simp [gD]
 |succ k ih=>
  cases hx:c.bG[k]? with
  |none=>unfold gD at ih ⊢; rw [List.take_add_one,hx]; simpa using ih
  |some x=>
   have hb:=h.uo hx
   have ho:=uj h.rR ha hb.1
   rw [jS hx]
   unfold lG
   simp only
   omega
theorem qJ {c:ay} {at_:Int} (h:eM c) (ha:0≤at_∧at_≤90000000):(-110000≤(iv c at_).Lo∧(iv c at_).Lo≤10000)∧ -10000≤(iv c at_).Hi∧(iv c at_).Hi≤110000:=by
 obtain ⟨n,hn⟩: ∃ n,c.bG.length=n+1:=⟨c.bG.length-1,by have:=h.len; omega⟩
 have hx:c.bG[n]? =some (c.bG[n]'om):=e_ om
 have hb:=h.uo hx
 have ho:=uj h.rR ha hb.1
 have A:=Bi h ha n
 rw [← nI (k:=n+1) om,jS hx]
 unfold lG
 simp only
 omega
/-- as time goes on, time and what a clock may be ahead, together, never go back -/
theorem CN {c:ay} (h:eM c) {a b:Int} (ha:0≤a) (hab:a≤b) (hb:b≤90000000): ∀ k:Nat,(a+(gD c a k).Lo≤b+(gD c b k).Lo∨(gD c a k).Lo= -1099511627776)∧a+(gD c a k).Hi≤b+(gD c b k).Hi:=by
 have step: ∀ (x:cQ),0≤x.At∧x.At≤86400000→ ∀ a b:Int,0≤a→a≤b→b≤90000000→sb c a x≤sb c b x+(b-a)∧sb c b x≤sb c a x+(b-a):=by
  intro x hx a b ha hab hb
  have hd:=h.rR
  have e: ∀ u v:Int,u≤v+1000000*(b-a)→oE u 1000000≤oE v 1000000+(b-a):=by intro u v C; unfold oE; omega
  have m: ∀ p q:Int,p≤q+(b-a)→c.dj*p≤c.dj*q+1000000*(b-a):=by
   intro p q A
   have D:c.dj*p≤c.dj*(q+(b-a)):=Int.mul_le_mul_of_nonneg_left A hd.1
   have E:c.dj*(q+(b-a))=c.dj*q+c.dj*(b-a):=Int.mul_add _ _ _
   have F:c.dj*(b-a)≤1000*(b-a):=Int.mul_le_mul_of_nonneg_right hd.2 om
   omega
  exact ⟨e _ _ (m _ _ om),e _ _ (m _ _ om)⟩
 intro k
 induction k with
 |zero=>simp [gD]; omega
 |succ k ih=>
  cases hx:c.bG[k]? with
  |none=>
   have e: ∀ t,gD c t (k+1)=gD c t k:=fun t=>by unfold gD; rw [List.take_add_one,hx]; simp
   rw [e,e]; exact ih
  |some x=>
   have hs:=h.uo hx
   have:=step x hs.1 a b ha hab hb
   have B:=uj (at_:=a) h.rR ⟨ha,om⟩ hs.1
   rw [jS hx,jS hx]
   unfold lG
   simp only
   omega
theorem n7 {c:ay} (h:eM c) {a b:Int} (ha:0≤a) (hab:a≤b) (hb:b≤90000000):a+(iv c a).Lo≤b+(iv c b).Lo∧a+(iv c a).Hi≤b+(iv c b).Hi:=by
 have A:=CN h ha hab hb c.bG.length
 have B:=qJ h (at_:=a) ⟨ha,om⟩
 rw [nI (Nat.le_refl _),nI (Nat.le_refl _)] at A
 omega
noncomputable def kY (l:bg) (i:Nat):Int:=match l.ab[i]? with
 |some b=>if i=0 then (Kx l.aV b.mx).Lo else (match l.ab[i-1]? with
  |some a=>(jQ l.aV a.mx b.mx).Lo
  |none=>0)
 |none=>0
theorem yi {l:bg} {b:bI} (h:l.ab[0]? =some b):kY l 0=(Kx l.aV b.mx).Lo:=by unfold kY; rw [h]; rfl
theorem BC {l:bg} {i:Nat} {a b:bI} (hi:0<i) (h:l.ab[i]? =some b) (ha:l.ab[i-1]? =some a):kY l i=(jQ l.aV a.mx b.mx).Lo:=by unfold kY; rw [h,ha]; simp only; rw [if_neg om]
def jR (l:bg) (b:bI):Prop:=fh l.aV b.mx∧0≤b.jX∧b.jX<(l.ar.length:Int)
def eL (l:bg):Prop:=(1≤l.ku∧l.ku≤5000)∧(1≤(l.ar.length:Int)∧(l.ar.length:Int)≤4)∧(1≤(l.ab.length:Int)∧(l.ab.length:Int)≤6)∧(0≤l.cD∧l.cD≤(l.ab.length:Int)-1)∧(0≤l.iI∧l.iI≤3)∧0≤l.eP∧l.eP≤3
structure kZ (l:bg):Prop where
 head:eL l
 clock: ∀ c∈l.ar,eM c
 sZ: ∀ b∈l.ab,jR l b
 Pv: ∀ i,i<l.ab.length→1≤kY l i
noncomputable instance (l:bg):Decidable (kZ l):=Classical.propDecidable _
noncomputable def dw (l:bg):Int:=if c8 l.aV=true then (if kZ l then 0 else 50) else 10
theorem x9 {l:bg} (h:c8 l.aV=false):dw l=10:=by unfold dw; rw [h]; rfl
theorem qk {l:bg} (h:c8 l.aV=true) (h2: ¬ kZ l):dw l=50:=by unfold dw; rw [if_pos h,if_neg h2]
theorem wv {l:bg} (h:c8 l.aV=true) (h2:kZ l):dw l=0:=by unfold dw; rw [if_pos h,if_pos h2]
theorem dK {l:bg} (h:dw l=0):c8 l.aV=true∧kZ l:=by
 unfold dw at h
 split at h
 ·split at h
  ·exact ⟨asm,asm⟩
  ·omega
 ·omega
theorem Aj {l:bg} (ht:c8 l.aV=true) (hb: ∀ b∈l.ab,jR l b) (i:Nat): -400000≤kY l i∧kY l i≤400000:=by
 have A:=jV ht
 have hl:=kF ht
 unfold kY
 cases h:l.ab[i]? with
 |none=>simp
 |some b=>
  have B:=(hb b (aR h)).1
  simp only
  split
  ·have:=QX A hl B; omega
  ·cases h2:l.ab[i-1]? with
   |none=>simp
   |some a=>
    have C:=(hb a (aR h2)).1
    have:=wM A hl C B
    simp only; omega
def pS (l:bg) (s:aF):ay:=((l.ab[s.eZ.toNat]?).bind fun b=>l.ar[b.jX.toNat]?).getD ⟨0,[]⟩
def gh (c:ay) (r t:Int):Bool:=decide (r≤t+(iv c t).Hi)
def gl (c:ay) (r t:Int):Bool:=decide (r<t+(iv c t).Lo)
noncomputable def qv (c:ay) (r:Int):ag:=⟨fp (gh c r) 86400001,fp (gl c r) 86400001-1⟩
noncomputable def cJ (l:bg) (s:aF):ag:=qv (pS l s) s.Read
noncomputable def dV (l:bg) (i:Nat):Int:=oE (1000*kY l i) l.ku
end
section
open Go.RowKit
def Ad (n:Int):Int:=IntKind.i64.wrap n
theorem zI {n:Int} (h:qP n):Ad n=n:=og h
theorem PS (n:Int): -9223372036854775808≤Ad n∧Ad n≤9223372036854775807:=by
 unfold Ad
 rw [IntKind.wrap_i64]
 omega
section
variable {P:Program} {t:TypeId} {x y:Operand} {a b:Int}
theorem Pp:iA P .add t x y (.int .i64 a) (.int .i64 b) (.int .i64 (Ad (a+b))):=fun w=>by simp [eqGuard_add,binOp_add,Op.intArith,Ad]
theorem IJ:iA P .sub t x y (.int .i64 a) (.int .i64 b) (.int .i64 (Ad (a-b))):=fun w=>by simp [eqGuard_sub,binOp_sub,Op.intArith,Ad]
theorem Pm:iA P .mul t x y (.int .i64 a) (.int .i64 b) (.int .i64 (Ad (a*b))):=fun w=>by simp [eqGuard_mul,binOp_mul,Op.intArith,Ad]
end
/-- divided, and rounded up, as it comes out -/
def Qh (n by_:Int):Int:=(Ad (Ad (n+by_)-1)).tdiv by_
theorem NK {a b:Int} (ha: -9223372036854775808≤a∧a≤9223372036854775807) (hb:2≤b):qP (a.tdiv b):=by
 have A:a.tdiv b=a/b+if a % b≠0∧a<0 then 1 else 0:=by
  rcases Int.lt_or_le a 0 with h|h
  ·rw [Int.tdiv_eq_ediv]
   have:b.sign=1:=Int.sign_eq_one_of_pos om
   rw [this]
   by_cases hd:b∣a
   ·have:a % b=0:=Int.emod_eq_zero_of_dvd hd
    simp [hd,this]
   ·have:a % b≠0:=fun e=>hd (Int.dvd_of_emod_eq_zero e)
    have hn: ¬ 0≤a:=by omega
    simp [hd,this,h,hn]
  ·rw [Int.tdiv_eq_ediv_of_nonneg h]
   have: ¬ a<0:=by omega
   simp [this]
 have B:a/b*b+a % b=a:=by rw [Int.mul_comm]; exact Int.mul_ediv_add_emod a b
 have C:0≤a % b:=Int.emod_nonneg _ om
 have D:a % b<b:=Int.emod_lt_of_pos _ om
 have E: -9223372036854775808≤a/b∧a/b≤4611686018427387904:=by
  constructor
  ·refine Int.le_ediv_of_mul_le om ?_
   have:(-9223372036854775808:Int)*b≤ -9223372036854775808*1:=Int.mul_le_mul_of_nonpos_left om om
   omega
  ·refine Int.ediv_le_of_le_mul om ?_
   have:(4611686018427387904:Int)*2≤4611686018427387904*b:=Int.mul_le_mul_of_nonneg_left hb om
   omega
 rw [A]
 unfold qP
 split<;>omega
theorem OQ {n by_:Int} (h0:0≤n) (h1:n≤1000000000000000000) (hb:1≤by_∧by_≤1000000000000):Qh n by_=(n+by_-1)/by_:=by
 unfold Qh
 rw [zI (show qP (n+by_) from ⟨om,om⟩),zI (show qP (n+by_-1) from ⟨om,om⟩),Int.tdiv_eq_ediv_of_nonneg om]
end
section
def l0 (c:ay) (i:Nat) (x:cQ) (k:Nat):Prop:=e9 c i x∧ ∀ (j:Nat) o,j<k→c.bG[j]? =some o→nG c x o
def sw (c:ay) (n:Nat):Prop:= ∀ (i:Nat) x,i<n→c.bG[i]? =some x→l0 c i x i
noncomputable instance (c:ay) (i:Nat) (x:cQ) (k:Nat):Decidable (l0 c i x k):=Classical.propDecidable _
instance (c:ay) (i:Nat) (x:cQ):Decidable (e9 c i x):=by unfold e9; infer_instance
theorem CG {c:ay} {i:Nat} {x:cQ}:l0 c i x 0↔e9 c i x:=⟨fun h=>h.1,fun h=>⟨h,fun j o hj=>by omega⟩⟩
theorem sr {c:ay} {i k:Nat} {x o:cQ} (h:c.bG[k]? =some o):l0 c i x (k+1)↔l0 c i x k∧nG c x o:=by
 constructor
 ·intro hr
  exact ⟨⟨hr.1,fun j o' hj ho=>hr.2 j o' om ho⟩,hr.2 k o om h⟩
 ·rintro ⟨hr,hp⟩
  refine ⟨hr.1,fun j o' hj ho=>?_⟩
  by_cases e:j=k
  ·subst e; rw [h] at ho; cases ho; exact hp
  ·exact hr.2 j o' om ho
theorem Gf {c:ay}:sw c 0:=fun i x hi=>by omega
theorem Fi {c:ay} {i:Nat} {x:cQ} (h:sw c i) (hx:c.bG[i]? =some x) (hr:l0 c i x i):sw c (i+1):=fun j y hj hy=>by
 by_cases e:j=i
 ·subst e; rw [hx] at hy; cases hy; exact hr
 ·exact h j y om hy
theorem Jz {c:ay} {i:Nat} {x:cQ} (hx:c.bG[i]? =some x) (h: ¬ l0 c i x i): ¬ eM c:=fun hc=>h ⟨hc.sync i x hx,fun j o hj ho=>hc.pair i j x o hx hj ho⟩
theorem Gm {c:ay} (h1:0≤c.dj∧c.dj≤1000) (h2:1≤c.bG.length∧c.bG.length≤5) (h:sw c c.bG.length):eM c:=
 ⟨h1,h2,fun i x hx=>(h i x (aW.1 hx).1 hx).1,fun i k x o hx hk ho=>(h i x (aW.1 hx).1 hx).2 k o hk ho⟩
/-- syncs so far -/
theorem ur {c:ay} {n:Nat} (h: ∀ (i:Nat) x,i<n→c.bG[i]? =some x→e9 c i x): ∀ (i:Nat) x,i<n→c.bG[i]? =some x→0≤x.At∧ ∀ (k:Nat) o,k<i→c.bG[k]? =some o→o.At<x.At:=by
 intro i
 induction i with
 |zero=>
  intro x hn hx
  have:=(h 0 x hn hx).1.1
  rw [gE rfl] at this
  exact ⟨om,fun k o hk=>by omega⟩
 |succ i ih=>
  intro x hn hx
  have hi:=(aW.1 hx).1
  have hy:c.bG[i]? =some (c.bG[i]'om):=e_ om
  have B:=ih _ om hy
  have A:=(h (i+1) x hn hx).1.1
  rw [od hy] at A
  refine ⟨om,fun k o hk ho=>?_⟩
  by_cases e:k=i
  ·subst e; rw [hy] at ho; cases ho; exact A
  ·have:=B.2 k o om ho; omega
theorem Hw {c:ay} {i:Nat} (hi:i≤c.bG.length) (h: ∀ (j:Nat) y,j<i→c.bG[j]? =some y→e9 c j y): -1≤kg c i∧kg c i≤86400000:=by
 cases i with
 |zero=>rw [gE rfl]; omega
 |succ i=>
  have hy:c.bG[i]? =some (c.bG[i]'om):=e_ om
  have A:=(ur (n:=i+1) h i _ om hy).1
  have B:=(h i _ om hy).1.2
  rw [od hy]; omega
theorem N6 {c:ay} {i:Nat} (hi:i≤c.bG.length) (h:sw c i): -1≤kg c i∧kg c i≤86400000:=Hw hi fun j y hj hy=>(h j y hj hy).1
theorem ux {c:ay} {i k:Nat} {x o:cQ} (hs: ∀ (j:Nat) y,j<i→c.bG[j]? =some y→e9 c j y) (hx:c.bG[i]? =some x) (hok:e9 c i x) (hk:k<i) (ho:c.bG[k]? =some o):
 (0≤o.At∧o.At<x.At∧x.At≤86400000)∧(-10000≤x.eh.Lo∧x.eh.Lo≤x.eh.Hi∧x.eh.Hi≤10000)∧ -10000≤o.eh.Lo∧o.eh.Lo≤o.eh.Hi∧o.eh.Hi≤10000:=by
 have h: ∀ (j:Nat) y,j<i+1→c.bG[j]? =some y→e9 c j y:=fun j y hj hy=>by
  by_cases e:j=i
  ·subst e; rw [hx] at hy; cases hy; exact hok
  ·exact hs j y om hy
 have A:=(ur h i x om hx).2 k o hk ho
 have B:=(ur h k o om ho).1
 exact ⟨⟨B,A,hok.1.2⟩,hok.2,(h k o om ho).2⟩
theorem K2 {d a b:Int} (hd:0≤d∧d≤1000) (h:0≤b∧b<a∧a≤86400000):Qh (Ad (d*Ad (a-b))) 1000000=oE (d*(a-b)) 1000000:=by
 have C:0≤d*(a-b)∧d*(a-b)≤90000000000:=by
  have:=Pq (a:=d) (b:=a-b) (A:=1000) (B:=90000000) hd.1 hd.2 om om
  omega
 rw [zI (show qP (a-b) from ⟨om,om⟩),zI (show qP (d*(a-b)) from ⟨om,om⟩),OQ C.1 om om]
 rfl
/-- what is asked of a line, however wrong it is -/
structure eo (l:bg) (asl:List RA):Prop where
 sH:l.aV.length≤1000000
 side: ∀ x∈l.aV,0≤x.iY∧x.iY≤255
 sI:l.ar.length≤1000000
 ot:asl.length=l.ar.length
 sL:l.ab.length≤1000000
 Sw: ∀ (k:Nat) m (a:RA),l.ar[k]? =some m→asl[k]? =some a→m.bG.length≤a.2∧m.bG.length≤1000000
noncomputable instance (l:bg):Decidable (eL l):=by unfold eL; infer_instance
noncomputable instance (l:bg) (b:bI):Decidable (jR l b):=Classical.propDecidable _
theorem yN {l:bg} (h:eL l) (h2: ∀ c∈l.ar,eM c) (h3: ∀ b∈l.ab,jR l b) (h4: ∀ i,i<l.ab.length→1≤kY l i):kZ l:=⟨h,h2,h3,h4⟩
theorem DN {l:bg}:((!(l.ar.any fun m=> !decide (eM m)))=true)↔ ∀ c∈l.ar,eM c:=by simp
theorem Gu {l:bg}:((!(l.ab.any fun b=> !decide (jR l b)))=true)↔ ∀ b∈l.ab,jR l b:=by simp
theorem kQ {c:ay} (h:eM c) {r x:Int} (h0:0≤x) (h1:x<86400001):
 (x<fp (gh c r) 86400001→gh c r x=false)∧(fp (gh c r) 86400001≤x→gh c r x=true)∧(x<fp (gl c r) 86400001→gl c r x=false)∧(fp (gl c r) 86400001≤x→gl c r x=true):=by
 have up: ∀ (q:Int→Bool),(∀ a b,0≤a→a≤b→b<86400001→q a=true→q b=true)→fp q 86400001≤x→q x=true:=fun q hq hx=>by
  have hb:=iz (p:=q) (n:=86400001)
  exact hq _ _ hb.1 hx h1 (yD om)
 refine ⟨uh h0,up _ fun a b ha A hb hq=>?_,uh h0,up _ fun a b ha A hb hq=>?_⟩
 ·have:=n7 h ha A om
  simp only [gh,decide_eq_true_eq] at hq ⊢; omega
 ·have:=n7 h ha A om
  simp only [gl,decide_eq_true_eq] at hq ⊢; omega
theorem wL {l:bg} {s:aF} {b:bI} {c:ay} (hb:l.ab[s.eZ.toNat]? =some b) (hc:l.ar[b.jX.toNat]? =some c):pS l s=c:=by
 unfold pS; rw [hb]; simp only [Option.bind_some]; rw [hc]; rfl
end
section
def kv (sg:List aF) (i:Nat):aF:=if i=0 then ⟨-1,0⟩ else (sg[i-1]?).getD ⟨-1,0⟩
theorem jP {sg:List aF} {i:Nat} {s:aF} (h:sg[i]? =some s):kv sg (i+1)=s:=by unfold kv; rw [if_neg om,Nat.add_sub_cancel,h]; rfl
def ij (l:bg) (s:aF):Prop:=(0≤s.eZ∧s.eZ≤(l.ab.length:Int)-1)∧0≤s.Read∧s.Read≤86400000
def g5 (l:bg) (sg:List aF) (i:Nat) (s:aF):Prop:=ij l s∧ ¬ s.eZ<(kv sg i).eZ∧ ¬ (s.eZ=(kv sg i).eZ∧s.Read≤(kv sg i).Read)
def ou (l:bg) (sg:List aF) (i:Nat):Prop:= ∀ (j:Nat) s,j<i→sg[j]? =some s→g5 l sg j s
structure dR (l:bg) (r:cx):Prop where
 time:0≤r.Start∧r.Start≤r.fJ∧r.fJ≤86400000
 len:r.aa.length≤10
 sig: ∀ (i:Nat) s,r.aa[i]? =some s→g5 l r.aa i s
noncomputable instance (l:bg) (r:cx):Decidable (dR l r):=Classical.propDecidable _
theorem uM {l:bg} {sg:List aF}:ou l sg 0:=fun j s hj=>absurd hj (Nat.not_lt_zero _)
theorem ji {l:bg} {sg:List aF} {i:Nat} {s:aF} (h:ou l sg i) (hs:sg[i]? =some s) (ho:g5 l sg i s):ou l sg (i+1):=fun j z hj hz=>by
 rcases Nat.lt_or_ge j i with q|q
 ·exact h j z q hz
 ·obtain rfl:j=i:=by omega
  rw [hs] at hz; cases hz; exact ho
theorem xd {l:bg} {r:cx} {i:Nat} (h1:0≤r.Start∧r.Start≤r.fJ∧r.fJ≤86400000) (h2:r.aa.length≤10) (h:ou l r.aa i) (hi:r.aa.length≤i):dR l r:=
 ⟨h1,h2,fun j s hs=>h j s (by have:=(aW.1 hs).1; omega) hs⟩
noncomputable def nu (l:bg) (sg:List aF) (b k:Nat):Option (Int×ag):=(sg[k]?).bind fun s=>if s.eZ=(b:Int)∧(cJ l s).Lo≤(cJ l s).Hi then some ((k:Int),cJ l s) else none
noncomputable def kO (l:bg) (sg:List aF) (i b:Nat):TM:=(List.range i).filterMap (nu l sg b)
noncomputable def cG (l:bg) (sg:List aF) (i:Nat):List TM:=(List.range l.ab.length).map (kO l sg i)
noncomputable def b_ (l:bg) (n:Nat):List Int:=(List.range n).map (dV l)
theorem qx {l:bg} {n:Nat}:b_ l (n+1)=b_ l n++[dV l n]:=by simp [b_,List.range_succ]
theorem cP {l:bg} {n:Nat}:(b_ l n).length=n:=by simp [b_]
theorem gr {l:bg} {sg:List aF} {i:Nat}:(cG l sg i).length=l.ab.length:=by simp [cG]
theorem oL {l:bg} {sg:List aF} {i b:Nat} (h:b<l.ab.length):(cG l sg i)[b]? =some (kO l sg i b):=by simp [cG,h]
theorem pq {l:bg} {sg:List aF} {b k:Nat} {q:Int×ag}:nu l sg b k=some q↔ ∃ s,sg[k]? =some s∧(s.eZ=(b:Int)∧(cJ l s).Lo≤(cJ l s).Hi)∧q=((k:Int),cJ l s):=by
 unfold nu
 cases h:sg[k]? with
 |none=>simp
 |some s=>
  simp only [Option.bind_some,Option.some.injEq]
  by_cases e:s.eZ=(b:Int)∧(cJ l s).Lo≤(cJ l s).Hi
  ·rw [if_pos e]
   constructor
   ·intro h; cases h; exact ⟨s,rfl,e,rfl⟩
   ·rintro ⟨s',rfl,_,rfl⟩; rfl
  ·rw [if_neg e]
   constructor
   ·intro h; cases h
   ·rintro ⟨s',rfl,e',_⟩; exact absurd e' e
theorem rZ {l:bg} {sg:List aF} {i b:Nat} {q:Int×ag}:q∈kO l sg i b↔ ∃ k,k<i∧ ∃ s,sg[k]? =some s∧(s.eZ=(b:Int)∧(cJ l s).Lo≤(cJ l s).Hi)∧q=((k:Int),cJ l s):=by
 unfold kO
 simp only [List.mem_filterMap,List.mem_range,pq]
theorem kU {l:bg} {sg:List aF} {i b:Nat}:kO l sg (i+1) b=kO l sg i b++(nu l sg b i).toList:=by
 unfold kO
 rw [List.range_succ,List.filterMap_append]
 congr 1
theorem xw {l:bg} {sg:List aF}:cG l sg 0=List.replicate l.ab.length []:=by
 unfold cG
 rw [List.eq_replicate_iff]
 refine ⟨sm,fun t ht=>?_⟩
 obtain ⟨b,_,rfl⟩:=cr.1 ht
 rfl
theorem px {l:bg} {sg:List aF} {i:Nat} {s:aF} (hs:sg[i]? =some s) (h: ¬ (cJ l s).Lo≤(cJ l s).Hi):cG l sg (i+1)=cG l sg i:=by
 unfold cG
 apply List.map_congr_left
 intro b _
 rw [kU]
 have:nu l sg b i=none:=by
  cases e:nu l sg b i with
  |none=>rfl
  |some q=>obtain ⟨s',A,⟨_,B⟩,_⟩:=pq.1 e; rw [hs] at A; cases A; exact absurd B h
 rw [this]; simp
theorem rq {l:bg} {sg:List aF} {i:Nat} {s:aF} (hs:sg[i]? =some s) (hb:0≤s.eZ∧s.eZ≤(l.ab.length:Int)-1) (h:(cJ l s).Lo≤(cJ l s).Hi) {x:TM} (hx:(cG l sg i)[s.eZ.toNat]? =some x):
 (cG l sg i).set s.eZ.toNat (dz x (i:Int) (cJ l s))=cG l sg (i+1):=by
 have A:s.eZ.toNat<l.ab.length:=by omega
 rw [oL A] at hx
 cases hx
 have B:dz (kO l sg i s.eZ.toNat) (i:Int) (cJ l s)=kO l sg (i+1) s.eZ.toNat:=by
  have hn:(kO l sg i s.eZ.toNat).lookup (i:Int)=none:=hZ.2 fun p hp e=>by
   obtain ⟨k,hk,_,_,_,rfl⟩:=rZ.1 hp
   simp only at e; omega
  have ho:nu l sg s.eZ.toNat i=some ((i:Int),cJ l s):=pq.2 ⟨s,hs,⟨om,h⟩,rfl⟩
  rw [kU,ho]
  unfold dz; rw [hn]; rfl
 rw [B]
 apply List.ext_getElem?
 intro b
 rw [List.getElem?_set]
 by_cases e:s.eZ.toNat=b
 ·rw [if_pos e,gr,← e,if_pos A,oL A]
 ·rw [if_neg e]
  by_cases hb':b<l.ab.length
  ·rw [oL hb',oL hb',kU]
   have:nu l sg b i=none:=by
    cases e2:nu l sg b i with
    |none=>rfl
    |some q=>obtain ⟨s',C,⟨D,_⟩,_⟩:=pq.1 e2; rw [hs] at C; cases C; exact absurd om e
   rw [this]; simp
  ·rw [List.getElem?_eq_none (by rw [gr]; omega),List.getElem?_eq_none (by rw [gr]; omega)]
noncomputable def bW (l:bg) (r:cx):bS:=⟨r.Start,r.fJ,b_ l l.ab.length,cG l r.aa r.aa.length,l.eP,l.iI,(r.aa.length:Int)⟩
theorem JS {l:bg} (ht:c8 l.aV=true) (h:kZ l) {i:Nat} (hi:i<l.ab.length):1≤dV l i∧dV l i≤500000000:=by
 have A:=Aj ht h.sZ i
 have B:=h.Pv i hi
 have C:=h.head.1
 unfold dV oE
 refine ⟨(Int.le_ediv_iff_mul_le om).2 om,?_⟩
 have:(1000*kY l i+l.ku-1)/l.ku≤1000*kY l i+l.ku-1:=Int.ediv_le_self _ om
 omega
theorem LY (l:bg) (s:aF):0≤(cJ l s).Lo∧(cJ l s).Hi≤86400000:=by
 have A:=iz (p:=gh (pS l s) s.Read) (n:=86400001)
 have B:=iz (p:=gl (pS l s) s.Read) (n:=86400001)
 unfold cJ qv
 simp only
 omega
theorem lg {l:bg} {r:cx} (ht:c8 l.aV=true) (h:kZ l) (hr:dR l r):Ft (bW l r):=by
 have hh:=h.head
 unfold eL at hh
 refine ⟨?_,by simp [bW,gr,bS.n,cP],hr.time,fun x hx=>?_,fun t A p hp=>?_⟩
 ·show (b_ l l.ab.length).length≤6
  rw [cP]; omega
 ·obtain ⟨i,hi,rfl⟩:=cr.1 hx
  exact JS ht h (List.mem_range.1 hi)
 ·obtain ⟨b,hb,rfl⟩:=cr.1 A
  obtain ⟨k,hk,s,hs,⟨_,B⟩,rfl⟩:=rZ.1 hp
  have C:=LY l s
  have D:=hr.len
  simp only
  omega
noncomputable def dF (l:bg) (r:cx) (me:Int):Int:=if dw l=0 then (if dR l r then (if me=0 then (if gX (bW l r)=[] then 8 else 0) else me) else 51) else dw l
theorem fX {l:bg} {r:cx} {me:Int} (h: ¬ dw l=0):dF l r me=dw l:=if_neg h
theorem cY {l:bg} {r:cx} {me:Int} (h:dw l=0) (h2: ¬ dR l r):dF l r me=51:=by unfold dF; rw [if_pos h,if_neg h2]
theorem qN {l:bg} {r:cx} {me:Int} (h:dw l=0) (h2:dR l r) (h3: ¬ me=0):dF l r me=me:=by unfold dF; rw [if_pos h,if_pos h2,if_neg h3]
theorem gQ {l:bg} {r:cx} {me:Int} (h:dw l=0) (h2:dR l r) (h3:me=0) (h4:gX (bW l r)=[]):dF l r me=8:=by unfold dF; rw [if_pos h,if_pos h2,if_pos h3,if_pos h4]
theorem kP {l:bg} {r:cx} {me:Int} (h:dw l=0) (h2:dR l r) (h3:me=0) (h4: ¬ gX (bW l r)=[]):dF l r me=0:=by unfold dF; rw [if_pos h,if_pos h2,if_pos h3,if_neg h4]
theorem iw {l:bg} {r:cx} {me:Int} (h:dF l r me=0):dw l=0∧dR l r∧me=0∧ ¬ gX (bW l r)=[]:=by
 unfold dF at h
 split at h
 ·split at h
  ·split at h
   ·split at h
    ·omega
    ·exact ⟨asm,asm,asm,asm⟩
   ·omega
  ·omega
 ·omega
end
section
def nt (l:List Int):Int:=(l.drop 1).foldl min (l.headD 0)
theorem HO {l:List Int} {i:Nat} {x:Int} (h:l[i]? =some x) (hi:1≤i):nt (l.take (i+1))=min (nt (l.take i)) x:=by
 have e:l.take (i+1)=l.take i++[x]:=by rw [List.take_add_one,h]; rfl
 have hl:1≤(l.take i).length:=by have:=(aW.1 h).1; rw [List.length_take]; omega
 rw [e]
 cases ht:l.take i with
 |nil=>rw [ht] at hl; simp at hl
 |cons y ys=>simp [nt,List.foldl_append]
theorem Gk {l:List Int} {x:Int} (h:l[0]? =some x):nt (l.take 1)=x:=by
 cases l with
 |nil=>simp at h
 |cons y ys=>simp at h; subst h; simp [nt]
theorem BU: ∀ (l:List Int) (a:Int),(l.foldl min a=a∨l.foldl min a∈l)∧l.foldl min a≤a∧ ∀ x∈l,l.foldl min a≤x
 |[],a=>⟨.inl rfl,sm,sm⟩
 |y::l,a=>by
  obtain ⟨A,C,B⟩:=BU l (min a y)
  simp only [List.foldl_cons]
  refine ⟨?_,om,?_⟩
  ·rcases A with A|A
   ·rw [A]
    rcases Int.le_total a y with q|q
    ·left; omega
    ·right; rw [show min a y=y by omega]; simp
   ·right; exact dJ _ A
  ·intro x hx
   rcases bO.1 hx with rfl|hx
   ·omega
   ·exact B x hx
theorem E4 {l:List Int} (h:l≠[]):nt l∈l∧ ∀ x∈l,nt l≤x:=by
 cases l with
 |nil=>exact absurd rfl h
 |cons y ys=>
  obtain ⟨A,B,C⟩:=BU ys y
  refine ⟨?_,fun x hx=>?_⟩
  ·rcases A with A|A
   ·simp [nt,A]
   ·exact dJ _ (by simpa [nt] using A)
  ·rcases bO.1 hx with rfl|hx
   ·simpa [nt] using B
   ·simpa [nt] using C x hx
noncomputable def g4 (l:bg) (r:cx):List Int:=if dF l r 0=0 then gX (bW l r) else []
theorem j2 {l:bg} {r:cx} (h:dF l r 0=0):g4 l r=gX (bW l r):=if_pos h
theorem mW {l:bg} {r:cx} (h: ¬ dF l r 0=0):g4 l r=[]:=if_neg h
theorem uO {l:bg} {r:cx} (h:dF l r 0=0):g4 l r≠[]:=by rw [j2 h]; exact (iw h).2.2.2
theorem DO {l:bg} {r:cx} (h:dF l r 0=0):1≤(g4 l r).length:=List.length_pos_iff.2 (uO h)
theorem Dk {l:bg} {r:cx}:(g4 l r).length≤100:=by
 unfold g4
 split
 ·rename_i h
  obtain ⟨A,B,_⟩:=iw h
  obtain ⟨ht,ho⟩:=dK A
  have:=(lg ht ho B).n
  have C:=se (w:=bW l r) (k:=(bW l r).n+1)
  unfold gX; omega
 ·simp
noncomputable def jn (l:bg) (b:Int):Int:=if 0≤b∧b≤(l.ab.length:Int)-1 then 0 else 2
theorem sP {l:bg} {b:Int} (h:0≤b∧b≤(l.ab.length:Int)-1):jn l b=0:=if_pos h
theorem Dw {l:bg} {b:Int} (h:jn l b=0):0≤b∧b≤(l.ab.length:Int)-1:=by
 unfold jn at h
 split at h
 ·assumption
 ·omega
noncomputable def mo (l:bg) (r:cx) (b:Nat):ag:=vc (ml (bW l r) b)
noncomputable def dI (l:bg) (r:cx) (b:Int):Int:=if dF l r (jn l b)=0 then (if mo l r b.toNat=l6 then 6 else 0) else dF l r (jn l b)
noncomputable def dD (l:bg) (r:cx) (b:Int):ag:=if dI l r b=0 then mo l r b.toNat else gF
theorem lH {l:bg} {r:cx} {b:Int} (h: ¬ dF l r (jn l b)=0):dI l r b=dF l r (jn l b)∧dD l r b=gF:=by
 have e:dI l r b=dF l r (jn l b):=if_neg h
 exact ⟨e,by unfold dD; rw [if_neg (by rw [e]; exact h)]⟩
theorem qn {l:bg} {r:cx} {b:Nat} (h:dF l r (jn l b)=0) (h2:mo l r b=l6):dI l r b=6∧dD l r b=gF:=by
 have e:dI l r b=6:=by unfold dI; rw [if_pos h,Int.toNat_natCast,if_pos h2]
 exact ⟨e,by unfold dD; rw [if_neg (by rw [e]; omega)]⟩
theorem nX {l:bg} {r:cx} {b:Nat} (h:dF l r (jn l b)=0) (h2: ¬ mo l r b=l6):dI l r b=0∧dD l r b=mo l r b:=by
 have e:dI l r b=0:=by unfold dI; rw [if_pos h,Int.toNat_natCast,if_neg h2]
 exact ⟨e,by unfold dD; rw [if_pos e,Int.toNat_natCast]⟩
theorem I_ {w:bS} (h:Ft w) {b:Nat} {q:Int×ag} (hq:q∈ml w b):0≤q.2.Lo∧q.2.Lo≤q.2.Hi∧q.2.Hi≤86400000:=by
 have A:=mM hq
 obtain ⟨o,ho,p,hp,u,hu,e⟩:=ir.1 hq
 obtain ⟨_,_,rfl⟩:=jq.1 e
 have B:=h.opt ho
 simp only [jx] at A ⊢
 omega
theorem tg {l:bg} {r:cx} {b:Int} (h:dI l r b=0):0≤(dD l r b).Lo∧(dD l r b).Lo≤(dD l r b).Hi∧(dD l r b).Hi≤86400000:=by
 have ho:dF l r (jn l b)=0:=by
  by_cases e:dF l r (jn l b)=0
  ·exact e
  ·rw [(lH e).1] at h; exact absurd h e
 obtain ⟨B,C,_⟩:=iw ho
 obtain ⟨ht,A⟩:=dK B
 have hw:=lg ht A C
 have hv:dD l r b=mo l r b.toNat:=by unfold dD; rw [if_pos h]
 have hn:mo l r b.toNat≠l6:=fun e=>by unfold dI at h; rw [if_pos ho,if_pos e] at h; omega
 have hh:=uW (l:=ml (bW l r) b.toNat) fun q hq=>mM hq
 rw [hv]
 unfold mo at hn ⊢
 rcases hh with ⟨_,e⟩|hh
 ·exact absurd e hn
 ·obtain ⟨x,hx,ex⟩:=hh.lo
  obtain ⟨y,hy,ey⟩:=hh.hi
  have:=I_ hw hx
  have:=I_ hw hy
  have:=hh.le
  omega
noncomputable def zd (l:bg) (r:cx):ag:=if dI l r l.cD=0 then ⟨(dD l r l.cD).Lo-r.Start,(dD l r l.cD).Hi-r.Start⟩ else gF
theorem zD {l:bg} {r:cx} (h:dI l r l.cD=0):zd l r=⟨(dD l r l.cD).Lo-r.Start,(dD l r l.cD).Hi-r.Start⟩:=if_pos h
theorem DV {l:bg} {r:cx} (h: ¬ dI l r l.cD=0):zd l r=gF:=if_neg h
theorem vd {l:bg} {r:cx} {b:Int} (h:dI l r b=0):dR l r:=by
 by_cases e:dF l r (jn l b)=0
 ·exact (iw e).2.1
 ·rw [(lH e).1] at h; exact absurd h e
theorem yl {k:List (Int×ag)} {h:ag} {q:Int×ag} {z:ag} (hh:ki k h) (hq:q.2.Lo≤q.2.Hi) (hz:mq h q.2=z):ki (k++[q]) z:=by subst hz; exact ug hh hq
end
section
def mA (l:bg):Prop:=(20<(l.aV.length:Int)∨8<(l.ar.length:Int)∨10<(l.ab.length:Int))∨ ∃ c∈l.ar,10<(c.bG.length:Int)
noncomputable instance (l:bg):Decidable (mA l):=Classical.propDecidable _
/-- what is asked of a line that comes in -/
structure sS (l:bg) (az:List RA):Prop where
 sH:l.aV.length≤9223372036854775807
 side: ∀ x∈l.aV,0≤x.iY∧x.iY≤255
 sI:l.ar.length≤9223372036854775807
 ot:az.length=l.ar.length
 sL:l.ab.length≤9223372036854775807
 Sw: ∀ (k:Nat) m (a:RA),l.ar[k]? =some m→az[k]? =some a→m.bG.length≤a.2∧m.bG.length≤9223372036854775807
def zt (l:bg) (i:Nat):Prop:= ∀ (j:Nat) c,j<i→l.ar[j]? =some c→(c.bG.length:Int)≤10
theorem Ki {l:bg} {i:Nat} (h: ¬ (20<(l.aV.length:Int))∧ ¬ (8<(l.ar.length:Int))∧ ¬ (10<(l.ab.length:Int))) (hi:l.ar.length≤i) (hs:zt l i): ¬ mA l:=by
 rintro (A|⟨c,hc,B⟩)
 ·omega
 ·obtain ⟨k,hk⟩:=List.getElem?_of_mem hc
  have:=hs k c (by have:=(aW.1 hk).1; omega) hk
  omega
theorem Hm {l:bg} {i:Nat} {c:ay} (hc:l.ar[i]? =some c) (h:10<(c.bG.length:Int)):mA l:= .inr ⟨c,aR hc,h⟩
theorem lQ {α:Type} {l:List α} {P:Nat→α→Prop} {i:Nat} {x:α} (h: ∀ (j:Nat) y,j<i→l[j]? =some y→P j y) (hx:l[i]? =some x) (hp:P i x): ∀ (j:Nat) y,j<i+1→l[j]? =some y→P j y:=fun j y hj hy=>by
 by_cases e:j=i
 ·subst e; rw [hx] at hy; cases hy; exact hp
 ·exact h j y om hy
theorem v_ {α:Type} {l:List α} {P:Nat→α→Prop} {i:Nat} (hi:l.length≤i) (h: ∀ (j:Nat) y,j<i→l[j]? =some y→P j y): ∀ (j:Nat) y,l[j]? =some y→P j y:=fun j y hy=>h j y (by have:=(aW.1 hy).1; omega) hy
theorem vY {α:Type} {l:List α} {P:α→Prop} {i:Nat} (hi:l.length≤i) (h: ∀ (j:Nat) y,j<i→l[j]? =some y→P y): ∀ y∈l,P y:=fun y hy=>by
 obtain ⟨k,hk⟩:=List.getElem?_of_mem hy
 exact v_ (P:=fun _ y=>P y) hi h k y hk
theorem Jx {l:bg} (h: ¬ mA l):(l.aV.length:Int)≤20∧(l.ar.length:Int)≤8∧(l.ab.length:Int)≤10∧ ∀ c∈l.ar,(c.bG.length:Int)≤10:=by
 unfold mA at h
 rw [not_or] at h
 refine ⟨om,om,om,fun c hc=>?_⟩
 have:=h.2
 rcases Int.lt_or_le 10 (c.bG.length:Int) with q|q
 ·exact absurd ⟨c,hc,q⟩ this
 ·exact q
theorem sS.small {l:bg} {az:List RA} (h:sS l az) (hg: ¬ mA l):eo l az:=by
 have A:=Jx hg
 exact ⟨om,h.side,om,h.ot,om,fun k m a hm ha=>⟨(h.Sw k m a hm ha).1,by have:=A.2.2.2 m (aR hm); omega⟩⟩
def Es (c:ay) (x:cQ) (k:Nat):Prop:= ∀ (j:Nat) o,j<k→c.bG[j]? =some o→nG c x o
def uc (c:ay) (m:Nat):Prop:= ∀ (i:Nat) x,i<m→c.bG[i]? =some x→Es c x i
theorem Kb {c:ay} {m:Nat} (h1:0≤c.dj∧c.dj≤1000) (h2:1≤c.bG.length∧c.bG.length≤5) (hs: ∀ (i:Nat) x,c.bG[i]? =some x→e9 c i x) (hm:c.bG.length≤m) (hp:uc c m):eM c:=
 ⟨h1,h2,hs,fun i k x o hx hk ho=>hp i x (by have:=(aW.1 hx).1; omega) hx k o hk ho⟩
theorem Df {c:ay} {m k:Nat} (h:uc c m) (hk: ∀ y,c.bG[m]? =some y→Es c y k) (e:k=m):uc c (m+1):=by
 subst e
 intro i x hi hx
 by_cases e:i=k
 ·subst e; exact hk x hx
 ·exact h i x om hx
noncomputable def kE (c:ay) (at_:Int) (i:Nat):ag:=if i=0 then gF else gD c at_ i
theorem CB {c:ay} {at_:Int} {i:Nat} (h:eM c) (hi:c.bG.length≤i):kE c at_ i=iv c at_:=by
 have:=h.len
 unfold kE; rw [if_neg om,nI hi]
theorem z4 {c:ay} {at_:Int} {i:Nat} {x:cQ} (h:eM c) (ha:0≤at_∧at_≤90000000) (hx:c.bG[i]? =some x) (hi:i=0):
 kE c at_ (i+1)=⟨max (x.eh.Lo-sb c at_ x) (x.eh.Lo-sb c at_ x),min (x.eh.Hi+sb c at_ x) (x.eh.Hi+sb c at_ x)⟩:=by
 subst hi
 have hb:=h.uo hx
 have ho:=uj h.rR ha hb.1
 unfold kE
 rw [if_neg om,jS hx]
 unfold lG gD
 simp only [List.take_zero,List.foldl_nil,ag.mk.injEq]
 omega
theorem BA {c:ay} {at_:Int} {i:Nat} {x:cQ} (hx:c.bG[i]? =some x) (hi: ¬ i=0):kE c at_ (i+1)=⟨max (kE c at_ i).Lo (x.eh.Lo-sb c at_ x),min (kE c at_ i).Hi (x.eh.Hi+sb c at_ x)⟩:=by
 unfold kE
 rw [if_neg om,if_neg hi,jS hx]; rfl
def ia (ts:List ao) (n:Nat):List ag:=(List.range n).map fun k=>ei ts 0 k
theorem B7 {ts:List ao} {n:Nat}:ia ts (n+1)=ia ts n++[ei ts 0 n]:=by simp [ia,List.range_succ]
theorem ow {ts:List ao} {n:Nat}:(ia ts n).length=n:=by simp [ia]
theorem pd {ts:List ao} {n k:Nat} {x:ag} (h:(ia ts n)[k]? =some x):x=ei ts 0 k:=by
 unfold ia at h
 rw [fz] at h
 cases hk:(List.range n)[k]? with
 |none=>simp [hk] at h
 |some v=>
  have:=aW.1 hk
  simp at this
  simp [hk] at h
  rw [← h,← this.2]
theorem Dc {ts:List ao} {a b:cy} (h:b.bu<a.bu):jQ ts a b=nW (jQ ts b a):=by
 unfold jQ
 rw [if_pos h,if_neg om]
 unfold xQ
 rw [Int.min_comm b.bu a.bu,Int.max_comm b.bu a.bu]
 unfold nW l5
 simp only [ag.mk.injEq]
 omega
theorem qA {ts:List ao} {a b:cy} (h: ¬ b.bu<a.bu):jQ ts a b=l5 (l5 (ei ts a.bu.toNat (b.bu-a.bu).toNat) b.mu) (nW a.mu):=by
 unfold jQ xQ
 rw [if_neg h,Int.min_eq_left om,Int.max_eq_right om]
end
section
def eY (m:List aw) (a:dG):List av:=rd a.1.1 m.length 7 (List.zipWith aw.cells m a.2)::br aw.gn m a.2
structure Pr (h:List aw) (a:dG):Prop where
 len:h.length≤1000000
 ot:a.2.length=h.length
 sig: ∀ d∈h,d.bw.aa.length≤1000000
structure ov (r:eV) (az:List RA) (ha:List dG):Prop where
 line:eo r.au az
 iW:r.bj.length≤1000000
 draw:r.cq.length≤12
 iX:r.aH.length≤1000000
 has:ha.length=r.aH.length
 gj: ∀ (k:Nat) h (a:dG),r.aH[k]? =some h→ha[k]? =some a→Pr h a
structure tx (r:eV) (az:List RA) (ha:List dG):Prop where
 line:sS r.au az
 iW:r.bj.length≤9223372036854775807
 draw:r.cq.length≤9223372036854775807
 iX:r.aH.length≤9223372036854775807
 has:ha.length=r.aH.length
 gj: ∀ (k:Nat) h (a:dG),r.aH[k]? =some h→ha[k]? =some a→h.length≤9223372036854775807∧a.2.length=h.length∧ ∀ d∈h,d.bw.aa.length≤9223372036854775807
def o0 (h:List aw):Prop:=8<(h.length:Int)∨ ∃ d∈h,15<(d.bw.aa.length:Int)
def mw (r:eV):Prop:=(mA r.au∨8<(r.bj.length:Int)∨8<(r.cq.length:Int)∨5<(r.aH.length:Int))∨ ∃ h∈r.aH,o0 h
noncomputable instance (r:eV):Decidable (mw r):=Classical.propDecidable _
theorem KG {r:eV} (h: ¬ mw r): ¬ mA r.au∧(r.bj.length:Int)≤8∧(r.cq.length:Int)≤8∧(r.aH.length:Int)≤5∧ ∀ h∈r.aH,(h.length:Int)≤8∧ ∀ d∈h,(d.bw.aa.length:Int)≤15:=by
 unfold mw at h
 obtain ⟨A,B⟩:=not_or.1 h
 obtain ⟨C,E⟩:=not_or.1 A
 refine ⟨C,om,om,om,fun x hx=>?_⟩
 have hn: ¬ o0 x:=fun q=>B ⟨x,hx,q⟩
 obtain ⟨F,D⟩:=not_or.1 hn
 refine ⟨om,fun d hd=>?_⟩
 rcases Int.lt_or_le 15 (d.bw.aa.length:Int) with q|q
 ·exact absurd ⟨d,hd,q⟩ D
 ·exact q
theorem tx.small {r:eV} {az:List RA} {ha:List dG} (h:tx r az ha) (hg: ¬ mw r):ov r az ha:=by
 have B:=KG hg
 refine ⟨h.line.small B.1,om,om,om,h.has,fun k x a hx A=>?_⟩
 have C:=B.2.2.2.2 x (aR hx)
 have D:=h.gj k x a hx A
 exact ⟨om,D.2.1,fun d hd=>by have:=C.2 d hd; omega⟩
def mC (r:cx):Prop:=r.Start=0∧r.fJ=0∧(r.aa.length:Int)=0
instance (r:cx):Decidable (mC r):=by unfold mC; infer_instance
def lE (s:ag):Prop:=1≤s.Lo∧s.Lo≤s.Hi∧s.Hi≤600000
instance (s:ag):Decidable (lE s):=by unfold lE; infer_instance
def iM (l:bg) (d:aw):Prop:=if d.Out=true then d.c_=false∧d.Time=gF∧mC d.bw else if d.c_=true then lE d.Time∧mC d.bw else dI l d.bw l.cD=0∧d.Time=gF
noncomputable instance (l:bg) (d:aw):Decidable (iM l d):=Classical.propDecidable _
noncomputable def fP (l:bg) (d:aw):ag:=if d.Out=true∨d.c_=true then d.Time else zd l d.bw
/-- which kind a descent is of -/
def oq (d:aw):Int:=if d.Out=true then 0 else if d.c_=true then 1 else 2
theorem Mp {w:bS} (h:Ft w): ∀ (b:Nat) (p:aC×Int),p∈fwd w b→w.Start≤p.2:=by
 have hl: ∀ b,0≤bY w b:=fun b=>by
  unfold bY
  cases e:w.pU[b]? with
  |none=>simp
  |some x=>have:=h.least x (aR e); simp; omega
 intro b
 induction b with
 |zero=>intro p hp; simp only [fwd,cd] at hp; subst hp; exact Int.le_refl _
 |succ b ih=>
  intro q hq
  obtain ⟨p,hp,o,ho,e⟩:=fO.1 hq
  unfold kK at e
  split at e
  ·simp only [Option.some.injEq] at e
   subst e
   have:=ih p hp
   have:=hl b
   simp only; omega
  ·cases e
theorem Lh {l:bg} {r:cx} {b:Int} (h:dI l r b=0):r.Start≤(dD l r b).Lo:=by
 have ho:dF l r (jn l b)=0:=by
  by_cases e:dF l r (jn l b)=0
  ·exact e
  ·rw [(lH e).1] at h; exact absurd h e
 obtain ⟨B,C,_⟩:=iw ho
 obtain ⟨ht,A⟩:=dK B
 have hw:=lg ht A C
 have hv:dD l r b=mo l r b.toNat:=by unfold dD; rw [if_pos h]
 have hn:mo l r b.toNat≠l6:=fun e=>by unfold dI at h; rw [if_pos ho,if_pos e] at h; omega
 have hh:=uW (l:=ml (bW l r) b.toNat) fun q hq=>mM hq
 rw [hv]
 unfold mo at hn ⊢
 rcases hh with ⟨_,e⟩|hh
 ·exact absurd e hn
 ·obtain ⟨x,hx,ex⟩:=hh.lo
  obtain ⟨o,ho,p,hp,u,hu,e⟩:=ir.1 hx
  obtain ⟨_,_,rfl⟩:=jq.1 e
  have D:r.Start≤p.2:=Mp hw _ p hp
  have E:0≤bY (bW l r) b.toNat:=by
   unfold bY
   cases e:(bW l r).pU[b.toNat]? with
   |none=>simp
   |some x=>have:=hw.least x (aR e); simp; omega
  simp only [jx] at ex
  omega
theorem ES {l:bg} {d:aw} (h:iM l d):0≤(fP l d).Lo∧(fP l d).Lo≤(fP l d).Hi∧(fP l d).Hi≤86400000:=by
 unfold iM at h
 unfold fP
 split at h
 ·rename_i q; rw [if_pos (Or.inl q),h.2.1]; simp [gF]
 ·rename_i q
  split at h
  ·rename_i A
   rw [if_pos (Or.inr A)]
   obtain ⟨⟨B,C,D⟩,_⟩:=h
   omega
  ·rename_i A
   rw [if_neg (fun z=>z.elim q A),zD h.1]
   have B:=tg h.1
   have C:=(vd h.1).time
   have D:=Lh h.1
   simp only
   omega
theorem D3 {l:bg} {d:aw} (h:d.Out=true):fP l d=d.Time:=if_pos (Or.inl h)
theorem D1 {l:bg} {d:aw} (h:d.Out=false∧d.c_=true):fP l d=d.Time:=if_pos (Or.inr h.2)
theorem D9 {l:bg} {d:aw} (h:d.Out=false∧d.c_=false):fP l d=zd l d.bw:=if_neg (by simp [h])
theorem qS {l:bg} {d:aw} (h:d.Out=true):iM l d=(d.c_=false∧d.Time=gF∧mC d.bw):=if_pos h
theorem tG {l:bg} {d:aw} (h:d.Out=false∧d.c_=true):iM l d=(lE d.Time∧mC d.bw):=by unfold iM; rw [if_neg (by simp [h]),if_pos h.2]
theorem sV {l:bg} {d:aw} (h:d.Out=false∧d.c_=false):iM l d=(dI l d.bw l.cD=0∧d.Time=gF):=by unfold iM; rw [if_neg (by simp [h]),if_neg (by simp [h])]
structure fj (r:eV):Prop where
 num:1≤(r.bj.length:Int)∧(r.bj.length:Int)≤5
 z3:0≤r.qe∧r.qe≤5
 nh:1≤(r.aH.length:Int)∧(r.aH.length:Int)≤3
 ids: ∀ (i:Nat) x,r.bj[i]? =some x→(0≤x∧x≤9999)∧ ∀ y,0<i→r.bj[i-1]? =some y→y<x
 draw:r.cq.Perm ((List.range r.bj.length).map fun (k:Nat)=>(k:Int))
 gj: ∀ h∈r.aH,h.length=r.bj.length∧ ∀ d∈h,iM r.au d
noncomputable instance (r:eV):Decidable (fj r):=Classical.propDecidable _
noncomputable def jv (r:eV):Int:=if dw r.au=0 then (if fj r then 0 else 60) else dw r.au
end
section
theorem m6 {α β:Type} {f g:α→Option β}: ∀ {l:List α},(∀ x∈l,f x=g x)→l.filterMap f=l.filterMap g
 |[],_=>rfl
 |x::l,h=>by simp only [List.filterMap_cons,h x ct,m6 (l:=l) (fun y hy=>h y (dJ _ hy))]
abbrev sE:=List (Int×ag)
/-- the sum of a sled in some heats, the first ones -/
noncomputable def jL (l:bg) (hs:List (List aw)) (i:Nat):Nat→Option ag
 |0=>some ⟨0,0⟩
 |k+1=>match jL l hs i k,(hs[k]?).bind (·[i]?) with
  |some s,some d=>if d.Out=true then none else some ⟨s.Lo+(fP l d).Lo/10,s.Hi+(fP l d).Hi/10⟩
  |_,_=>none
noncomputable def dY (l:bg) (hs:List (List aw)) (n h i:Nat):sE:=(List.range n).filterMap fun q=>(jL l hs q (if q<i then h+1 else h)).map fun s=>((q:Int),s)
noncomputable def AY (r:eV) (k:Nat):sE:=(List.range r.bj.length).filterMap fun q=>(jL r.au r.aH q k).map fun s=>((q:Int),s)
noncomputable def M3 (r:eV):sE:=AY r r.aH.length
section
variable {l:bg} {hs:List (List aw)} {n h i q:Nat} {s:ag} {d:aw}
theorem Ak:dY l hs n h 0=(List.range n).filterMap fun q=>(jL l hs q h).map fun s=>((q:Int),s):=by
 unfold dY
 apply m6
 intro q _
 rw [if_neg (Nat.not_lt_zero _)]
theorem LI:dY l hs n h n=dY l hs n (h+1) 0:=by
 rw [Ak]
 unfold dY
 apply m6
 intro q hq
 rw [if_pos (List.mem_range.1 hq)]
theorem FL {x:List aw} (hx:hs[h]? =some x) (hd:x[i]? =some d) (ho:d.Out=true):jL l hs i (h+1)=none:=by
 unfold jL
 rw [hx]
 simp only [Option.bind_some,hd]
 cases jL l hs i h with
 |none=>rfl
 |some s=>simp [ho]
theorem DL (h0:jL l hs i h=none):jL l hs i (h+1)=none:=by unfold jL; rw [h0]
theorem Cs {x:List aw} (hx:hs[h]? =some x) (hd:x[i]? =some d) (ho: ¬ d.Out=true) (hs0:jL l hs i h=some s):jL l hs i (h+1)=some ⟨s.Lo+(fP l d).Lo/10,s.Hi+(fP l d).Hi/10⟩:=by
 unfold jL
 rw [hx,hs0]
 simp only [Option.bind_some,hd,if_neg ho]
end
section
variable {l:bg} {hs:List (List aw)} {n h i q:Nat} {s t:ag}
theorem PD {K β:Type} [DecidableEq K] {L Y:List (K×β)} {t:K}:(L++Y).lookup t=match L.lookup t with |some v=>some v|none=>Y.lookup t:=by
 induction L with
 |nil=>rfl
 |cons p L ih=>
  obtain ⟨k,u⟩:=p
  by_cases e:t==k
  ·simp [List.lookup,e]
  ·have:(t==k)=false:=by simpa using e
   simp only [List.cons_append,List.lookup,this,ih]
theorem uS {f:Nat→Option ag}: ∀ (n i:Nat),((List.range n).filterMap fun q=>(f q).map fun s=>((q:Int),s)).lookup (i:Int)=if i<n then f i else none
 |0,i=>by simp
 |n+1,i=>by
  rw [List.range_succ,List.filterMap_append,PD,uS n i]
  by_cases c:i<n
  ·rw [if_pos c,if_pos om]
   cases e:f i with
   |some s=>rfl
   |none=>
    simp only
    cases e2:f n with
    |none=>simp [e2]
    |some u=>
     have:((i:Int)==(n:Int))=false:=by simp only [beq_eq_false_iff_ne,ne_eq]; omega
     simp [e2,List.lookup,this]
  ·rw [if_neg c]
   simp only
   by_cases A:i=n
   ·subst A
    rw [if_pos om]
    cases e2:f i with
    |none=>simp [e2]
    |some u=>simp [e2]
   ·rw [if_neg om]
    have:((i:Int)==(n:Int))=false:=by simp only [beq_eq_false_iff_ne,ne_eq]; omega
    cases e2:f n with
    |none=>simp [e2]
    |some u=>simp [e2,List.lookup,this]
theorem xA:(dY l hs n h i).lookup (q:Int)=if q<n then jL l hs q (if q<i then h+1 else h) else none:=uS n q
theorem NC {f g:Nat→Option ag} {n i:Nat} (hi:i<n) {s:ag} (hf:(f i).isSome=true) (hg:g i=some s) (hfg: ∀ q,q≠i→f q=g q):dz ((List.range n).filterMap fun q=>(f q).map fun s=>((q:Int),s)) (i:Int) s=(List.range n).filterMap fun q=>(g q).map fun s=>((q:Int),s):=by
 unfold dz
 rw [if_pos (by rw [uS,if_pos hi]; exact hf),List.map_filterMap]
 apply m6
 intro q _
 by_cases e:q=i
 ·subst e
  obtain ⟨u,hu⟩:=Option.isSome_iff_exists.1 hf
  rw [hu,hg]; simp
 ·rw [hfg q e]
  cases g q with
  |none=>rfl
  |some u=>
   have: ¬ ((q:Int)=(i:Int)):=by omega
   simp [this]
theorem Pf {f g:Nat→Option ag} {n i:Nat} (hg:g i=none) (hfg: ∀ q,q≠i→f q=g q):eO ((List.range n).filterMap fun q=>(f q).map fun s=>((q:Int),s)) (i:Int)=(List.range n).filterMap fun q=>(g q).map fun s=>((q:Int),s):=by
 unfold eO
 rw [List.filter_filterMap]
 apply m6
 intro q _
 by_cases e:q=i
 ·subst e
  rw [hg]
  cases f q with
  |none=>rfl
  |some u=>simp
 ·rw [hfg q e]
  cases g q with
  |none=>rfl
  |some u=>
   have: ¬ ((q:Int)=(i:Int)):=by omega
   simp [this]
theorem LU (hi:i<n) (h0:(jL l hs i h).isSome=true) (h1:jL l hs i (h+1)=some s):dz (dY l hs n h i) (i:Int) s=dY l hs n h (i+1):=by
 unfold dY
 refine NC hi (by rw [if_neg (Nat.lt_irrefl i)]; exact h0) (by rw [if_pos (Nat.lt_succ_self i)]; exact h1) fun q hq=>?_
 by_cases c:q<i
 ·rw [if_pos c,if_pos om]
 ·rw [if_neg c,if_neg om]
theorem DX (h1:jL l hs i (h+1)=none):eO (dY l hs n h i) (i:Int)=dY l hs n h (i+1):=by
 unfold dY
 refine Pf (by rw [if_pos (Nat.lt_succ_self i)]; exact h1) fun q hq=>?_
 by_cases c:q<i
 ·rw [if_pos c,if_pos om]
 ·rw [if_neg c,if_neg om]
end
def zr (m:sE) (i:Int):sE:=m.filter fun p=> !decide (p.1=i)
def Sh (m:sE) (i n:Int):Nat:=(zr m i).countP fun p=>decide (p.2.Hi<n)
def S9 (m:sE) (i n:Int):Nat:=(zr m i).countP fun p=>decide (p.2.Lo<n)
def MJ (m:sE) (i:Int) (own:ag):List Int:=own.Lo::((zr m i).flatMap fun p=>[p.2.Lo+1,p.2.Hi+1]).filter fun n=>decide (own.Lo≤n∧n≤own.Hi)
def Oi (m:sE) (i:Int) (own:ag) (k:Int):Prop:= ∃ n∈MJ m i own,(Sh m i n:Int)+1≤k∧k≤(S9 m i n:Int)+1
noncomputable instance (m:sE) (i:Int) (own:ag) (k:Int):Decidable (Oi m i own k):=Classical.propDecidable _
section
variable {m:sE} {i:Int} {own:ag}
end
end
section
def qL (l:List Int):List (List Value):=l.map fun x=>[vI x]
theorem tH {l:List Int}:(qL l).length=l.length:=by simp [qL]
theorem GR {l:List Int} {k:Nat} {x:Int} (h:l[k]? =some x):(qL l)[k]? =some [vI x]:=by simp [qL,h]
theorem GA {l:List Int} {k:Nat} {x:List Value} (h:(qL l)[k]? =some x): ∃ y,l[k]? =some y∧x=[vI y]:=by
 simp only [qL,fz,Option.map_eq_some_iff] at h
 obtain ⟨y,hy,rfl⟩:=h
 exact ⟨y,hy,U⟩
theorem Dt {l:List Int}: ∀ x∈qL l,x.length=1:=fun x hx=>by
 simp only [qL,cr] at hx
 obtain ⟨y,_,rfl⟩:=hx
 rfl
theorem xV {l:List Int}:l.take (qL l).length=l:=by rw [tH,List.take_of_length_le (Nat.le_refl _)]
theorem Du {l:List Int} {k:Nat} {x:Int} (h:l[k]? =some x):l.take (k+1)=l.take k++[x]:=by
 rw [List.take_add_one,h]; rfl
def m8 (l:List Int):List Int:=l.mergeSort fun a b=>decide (a≤b)
theorem lM {l:List Int}:(m8 l).Perm l:=List.mergeSort_perm _ _
theorem sQ {l:List Int}:(m8 l).Pairwise (· ≤ ·):=by
 have:=List.pairwise_mergeSort (le:=fun (a b:Int)=>decide (a≤b)) (fun a b c A B=>by simp at A B ⊢; omega) (fun a b=>by simp; omega) l
 exact this.imp fun h=>by simpa using h
@[simp] theorem sX {l:List Int}:(m8 l).length=l.length:=lM.length_eq
theorem AM {l m:List Int} (h1:m.Perm l) (h2:m.Pairwise (· ≤ ·)):m=m8 l:=rU (h1.trans lM.symm) h2 sQ
end
section
open Go.RowKit
def sC (s:bH):List Value:=[vS s.a s.n s.c]
theorem yA: ∀ s,(sC s).length=1:=fun s=>rfl
theorem Jf (l:List bH): ∀ v∈(l.map sC).flatten,v.oneCell'=true:=tJ (fun s=>rfl) l
def Ay (l:List ag) (a:RA):bH:=⟨a.1,l.length,a.2⟩
def K_ (l:List ag) (a:RA):List Value:=[vS a.1 l.length a.2]
def PF (l:List ag) (a:RA):List av:=[rd a.1 l.length 2 (l.map ag.cells)]
def D4 (l:List ag) (a:RA):List av:=[own a.1 a.2 HM 2 (l.map ag.cells)]
theorem yE {ls:List (List ag)} {az:List RA}:(List.zipWith Ay ls az).map sC=List.zipWith K_ ls az:=by
 rw [List.map_zipWith]; rfl
theorem Sl: ∀ (m:List ag) (a:RA) (w:World),(∀ X∈D4 m a,X.holds w)→ ∀ X∈PF m a,X.holds w:=fun m a w h X hX=>by
 simp only [PF,cd] at hX
 subst hX
 have:=nv (h _ (cd.2 rfl))
 simpa using this
theorem DR {l:List (List ag)} {bz:List RA}:(bX (br D4 l bz)).wr=true:=by
 show (br D4 l bz).all (·.wr)=true
 rw [cT]
 intro X hX
 obtain ⟨k,m,a,_,_,h⟩:=jW hX
 simp only [D4,cd] at h
 subst h; rfl
theorem L_ {ls:List (List ag)} {az:List RA} (h:az.length=ls.length):(List.zipWith K_ ls az).length=ls.length:=by simp [h]
noncomputable def gH (r:eV) (i:Nat):List (List ag):=(r.aH.take i).map fun h=>h.map (fP r.au)
noncomputable def fB (r:eV):List (List ag):=gH r r.aH.length
section
variable {r:eV} {i:Nat} {h:List aw} {tz:List RA} {a:RA}
theorem vk (hh:r.aH[i]? =some h):gH r (i+1)=gH r i++[h.map (fP r.au)]:=by unfold gH; rw [List.take_add_one,hh,List.map_append]; rfl
theorem kJ (hi:i≤r.aH.length):(gH r i).length=i:=by unfold gH; rw [List.length_map,List.length_take]; omega
theorem kH:(fB r).length=r.aH.length:=kJ (Nat.le_refl _)
theorem CU (hh:r.aH[i]? =some h):(fB r)[i]? =some (h.map (fP r.au)):=by
 unfold fB gH
 rw [List.take_length,fz,hh]; rfl
theorem FH {m:List ag} (hh:r.aH[i]? =some h) (hm:(fB r)[i]? =some m):m=h.map (fP r.au):=by
 rw [CU hh] at hm
 exact (Option.some.inj hm).symm
theorem tp (hh:r.aH[i]? =some h) (hl:tz.length=i):List.zipWith Ay (gH r (i+1)) (tz++[a])=List.zipWith Ay (gH r i) tz++[Ay (h.map (fP r.au)) a]:=by
 have hi:=(aW.1 hh).1
 rw [vk hh,List.zipWith_append (by rw [kJ om,hl])]
 rfl
theorem BT (hh:r.aH[i]? =some h) (hl:tz.length=i):br D4 (gH r i) tz++[own a.1 a.2 HM 2 ((h.map (fP r.au)).map ag.cells)]=br D4 (gH r (i+1)) (tz++[a]):=by
 have hi:=(aW.1 hh).1
 rw [vk hh,kT (by rw [kJ om,hl])]
 simp [br,D4]
end
theorem yG {lo hi:Int} {l:List Int}:pW lo hi l=true↔ ∀ x∈l,lo≤x∧x≤hi:=by
 unfold pW
 rw [Bool.not_eq_true',List.any_eq_false]
 constructor
 ·intro h x hx; have:=h x hx; simp only [decide_eq_true_eq] at this; omega
 ·intro h x hx; have:=h x hx; simp only [decide_eq_true_eq]; omega
abbrev GI (n:Nat):List Int:=(List.range n).map fun (k:Nat)=>(k:Int)
theorem wT (n:Nat):(GI n).Pairwise (· ≤ ·):=by
 unfold GI
 rw [List.pairwise_map]
 exact List.pairwise_lt_range.imp fun h=>by omega
theorem BJ {l:List Int} {n:Nat} (h:l.Perm (GI n)):m8 l=GI n:=(AM h.symm (wT n)).symm
theorem Fq {l:List Int} {n:Nat} (hl:l.length=n) (h: ∀ j,j<n→ ∀ x,(m8 l)[j]? =some x→x=(j:Int)):l.Perm (GI n):=by
 have e:m8 l=GI n:=by
  apply List.ext_getElem
  ·simp [hl]
  ·intro j A B
   have C:j<n:=by simpa using B
   have:=h j C _ (e_ A)
   simpa using this
 rw [← e]; exact lM.symm
def rp (r:eV) (i:Nat):Prop:= ∀ j,j<i→(∀ x,(m8 r.cq)[j]? =some x→x=(j:Int))∧ ∀ x y,r.bj[j]? =some x→0<j→r.bj[j-1]? =some y→y<x
def Co (r:eV) (h:List aw):Prop:=h.length=r.bj.length∧ ∀ d∈h,iM r.au d
def j7 (r:eV) (i:Nat):Prop:= ∀ (j:Nat) h,j<i→r.aH[j]? =some h→Co r h
def nR (l:bg) (h:List aw) (k:Nat):Prop:= ∀ (j:Nat) d,j<k→h[j]? =some d→iM l d
section
variable {r:eV} {i:Nat}
theorem DG:rp r 0:=fun j hj=>absurd hj (Nat.not_lt_zero _)
theorem xG {x:Int} (h:rp r i) (hd:(m8 r.cq)[i]? =some x) (e:x=(i:Int)) (hs: ∀ x y,r.bj[i]? =some x→0<i→r.bj[i-1]? =some y→y<x):rp r (i+1):=fun j hj=>by
 rcases Nat.lt_or_ge j i with q|q
 ·exact h j q
 ·obtain rfl:j=i:=by omega
  exact ⟨fun y hy=>by rw [hd] at hy; cases hy; exact e,hs⟩
theorem vZ:j7 r 0:=fun j h hj=>absurd hj (Nat.not_lt_zero _)
theorem v8 {h:List aw} (hh:j7 r i) (hx:r.aH[i]? =some h) (ho:Co r h):j7 r (i+1):=fun j y hj hy=>by
 rcases Nat.lt_or_ge j i with q|q
 ·exact hh j y q hy
 ·obtain rfl:j=i:=by omega
  rw [hx] at hy; cases hy; exact ho
theorem vq {l:bg} {h:List aw}:nR l h 0:=fun j d hj=>absurd hj (Nat.not_lt_zero _)
theorem vh {l:bg} {h:List aw} {d:aw} (ht:nR l h i) (hx:h[i]? =some d) (ho:iM l d):nR l h (i+1):=fun j y hj hy=>by
 rcases Nat.lt_or_ge j i with q|q
 ·exact ht j y q hy
 ·obtain rfl:j=i:=by omega
  rw [hx] at hy; cases hy; exact ho
theorem Ep {h:List aw} (hl:h.length=r.bj.length) (ht:nR r.au h i) (hi:h.length≤i):Co r h:=⟨hl,fun d hd=>by
 obtain ⟨j,hj⟩:=List.getElem?_of_mem hd
 exact ht j d (by have:=(aW.1 hj).1; omega) hj⟩
theorem Kh {n:Nat} (hn:n=r.bj.length) (h1:1≤(r.bj.length:Int)∧(r.bj.length:Int)≤5) (h2:r.cq.length=r.bj.length) (h3:0≤r.qe∧r.qe≤5) (h4:1≤(r.aH.length:Int)∧(r.aH.length:Int)≤3) (h5:pW 0 9999 r.bj=true)
 (h6:rp r n) (h7:j7 r i) (hi:r.aH.length≤i):fj r:=by
 subst hn
 refine ⟨h1,h3,h4,fun k x hx=>⟨yG.1 h5 x (aR hx),fun y hk hy=>?_⟩,Fq h2 fun j hj=>(h6 j hj).1,fun h hh=>?_⟩
 ·exact (h6 k (aW.1 hx).1).2 x y hx hk hy
 ·obtain ⟨j,hj⟩:=List.getElem?_of_mem hh
  exact h7 j h (by have:=(aW.1 hj).1; omega) hj
theorem fj.zi (h:fj r):r.cq.length=r.bj.length:=by have:=h.draw.length_eq; simpa using this
theorem fj.ins (h:fj r):pW 0 9999 r.bj=true:=yG.2 fun x hx=>by
 obtain ⟨j,hj⟩:=List.getElem?_of_mem hx
 exact (h.ids j x hj).1
theorem fj.drawn (h:fj r) {x:Int} (hx:(m8 r.cq)[i]? =some x):x=(i:Int):=by
 rw [BJ h.draw] at hx
 have hi:=(aW.1 hx).1
 simp at hi
 rw [fz,List.getElem?_range hi] at hx
 exact (Option.some.inj hx).symm
theorem fj.KW (h:fj r):j7 r i:=fun j x _ hx=>h.gj x (aR hx)
theorem yB (h: ¬ dw r.au=0):jv r=dw r.au:=if_neg h
theorem kj (h:dw r.au=0) (hn: ¬ fj r):jv r=60:=by unfold jv; rw [if_pos h,if_neg hn]
theorem BM (h:dw r.au=0) (hn:fj r):jv r=0:=by unfold jv; rw [if_pos h,if_pos hn]
theorem eQ (h:jv r=0):dw r.au=0∧fj r:=by
 unfold jv at h
 split at h
 ·split at h
  ·exact ⟨asm,asm⟩
  ·cases h
 ·exact absurd h asm
end
section
variable {r:eV} {k i n h:Nat} {s:ag} {l:bg} {hs:List (List aw)}
theorem DZ: ∀ {k:Nat} {s:ag},j7 r k→k≤r.aH.length→jL r.au r.aH i k=some s→0≤s.Lo∧s.Lo≤s.Hi∧s.Hi≤8640000*(k:Int)
 |0,s,_,_,h=>by
  simp only [jL,Option.some.injEq] at h
  subst h; simp
 |k+1,s,hh,hk,h=>by
  unfold jL at h
  split at h
  ·rename_i u d hu hd
   split at h
   ·cases h
   ·cases h
    have A:=DZ (fun j x hj hx=>hh j x om hx) om hu
    obtain ⟨x,hx,hd⟩:=Option.bind_eq_some_iff.1 hd
    have B:=ES ((hh k x om hx).2 d (aR hd))
    simp only
    push_cast
    omega
  ·cases h
theorem Mn:dz (dY l hs i 0 0) (i:Int) ⟨0,0⟩=dY l hs (i+1) 0 0:=by
 have A:(dY l hs i 0 0).lookup (i:Int)=none:=by rw [xA,if_neg (Nat.lt_irrefl i)]
 unfold dz
 rw [A]
 simp only [Option.isSome_none,Bool.false_eq_true,if_false]
 unfold dY
 rw [List.range_succ,List.filterMap_append]
 simp [jL]
theorem J0 (hi:i<n):(dY l hs n h i).lookup (i:Int)=jL l hs i h:=by rw [xA,if_pos hi,if_neg (Nat.lt_irrefl i)]
theorem N0 {α β:Type} {f:α→β} {tr:List β} {ht:List α} {x:β} {d:α} (e:tr=ht.map f) (hx:tr[i]? =some x) (hd:ht[i]? =some d):x=f d:=by
 rw [e,fz,hd] at hx
 exact (Option.some.inj hx).symm
theorem Mf:dY r.au r.aH r.bj.length h 0=AY r h:=Ak
end
end
section
def qf (r:eV) (i:Int):Prop:=0≤i∧i≤(r.bj.length:Int)-1
instance (r:eV) (i:Int):Decidable (qf r i):=by unfold qf; infer_instance
section
variable {r:eV} {i a b:Int}
end
end
section
def nq (d:aw):Prop:=d.Out=false∧d.c_=false
instance (d:aw):Decidable (nq d):=by unfold nq; infer_instance
def eD (l:bg) (f:aS):Prop:=(1≤f.Kind∧f.Kind≤3)∧(0≤f.l_∧f.l_≤f.To∧f.To≤86400000)∧0≤f.g9∧f.g9≤(if f.Kind=1 then 0 else l.cD)
instance (l:bg) (f:aS):Decidable (eD l f):=by unfold eD; infer_instance
/-- the descent that a protest is of -/
def m_ (j:cH) (p:aZ):Option aw:=(j.Race.aH[p.iu.toNat]?).bind (·[p.hP.toNat]?)
structure ui (j:cH) (i:Nat) (p:aZ):Prop where
 id:0≤p.Id∧p.Id≤9999
 up: ∀ q,0<i→j.ax[i-1]? =some q→q.Id<p.Id
 kM:qf j.Race p.hP
 gj:0≤p.iu∧p.iu≤(j.Race.aH.length:Int)-1
 fault:0≤p.fZ∧p.fZ≤(j.aI.length:Int)-1
 jy: ∃ d,m_ j p=some d∧nq d∧d.bw.Start≤p.At∧p.At≤86400000
structure oB (j:cH):Prop where
 nf:(j.aI.length:Int)≤5
 fault: ∀ f∈j.aI,eD j.Race.au f
 min_:0≤j.gV∧j.gV≤60
 rY:0≤j.Cf∧j.Cf≤100000
 np:(j.ax.length:Int)≤8
 gO: ∀ (i:Nat) p,j.ax[i]? =some p→ui j i p
noncomputable instance (j:cH):Decidable (oB j):=Classical.propDecidable _
noncomputable def dU (j:cH):Int:=if jv j.Race=0 then (if oB j then 0 else 70) else jv j.Race
theorem yC {j:cH} (h: ¬ jv j.Race=0):dU j=jv j.Race:=if_neg h
theorem jw {j:cH} (h:jv j.Race=0) (hn: ¬ oB j):dU j=70:=by unfold dU; rw [if_pos h,if_neg hn]
theorem xI {j:cH} (h:jv j.Race=0) (hn:oB j):dU j=0:=by unfold dU; rw [if_pos h,if_pos hn]
theorem eH {j:cH} (h:dU j=0):jv j.Race=0∧oB j:=by
 unfold dU at h
 split at h
 ·split at h
  ·exact ⟨asm,asm⟩
  ·cases h
 ·rename_i q; exact absurd h q
structure yg where
 Lo:Int
 Hi:Int
 each:Bool
 never:Bool
/-- whether it passed the beam in each truth -/
noncomputable def tD (l:bg) (r:cx) (b:Int):Bool:=(g4 l r).all fun n=>decide (b<n)
noncomputable def cL (l:bg) (r:cx) (b:Int):yg:=
 if b<0 then ⟨r.Start,r.Start,true,false⟩
 else if dI l r b=0 then ⟨(dD l r b).Lo,if tD l r b=true then (dD l r b).Hi else 86400000,tD l r b,false⟩
 else ⟨86400000,86400000,false,true⟩
def yq (f:aS):Int:=if f.Kind=1 then-1 else if f.Kind=2 then f.g9-1 else f.g9
def PH (l:bg) (f:aS):Int:=if f.Kind=1 then l.cD else f.g9
def sU (f:aS) (a b:yg):Prop:=if f.Kind=3 then f.l_≤a.Lo∧a.Hi≤f.To else a.Hi≤f.To∧f.l_≤b.Lo
instance (f:aS) (a b:yg):Decidable (sU f a b):=by unfold sU; infer_instance
def m7 (f:aS) (a b:yg):Int:=if a.never=true∨f.To<a.Lo∨b.Hi<f.l_ then 0 else if a.each=true∧sU f a b then 2 else 1
noncomputable def fK (l:bg) (f:aS) (d:aw):Int:=if nq d then m7 f (cL l d.bw (yq f)) (cL l d.bw (PH l f)) else 0
theorem o2 {l:bg} {f:aS} {d:aw} (h: ¬ nq d):fK l f d=0:=if_neg h
def iQ (P:Nat→Bool) (n:Nat):List Int:=((List.range n).filter P).map fun (i:Nat)=>(i:Int)
section
variable {P:Nat→Bool} {n q:Nat} {x:Int}
theorem qD (h:P n=true):iQ P (n+1)=iQ P n++[(n:Int)]:=by unfold iQ; rw [List.range_succ,List.filter_append,List.map_append]; simp [h]
theorem oW (h:P n=false):iQ P (n+1)=iQ P n:=by unfold iQ; rw [List.range_succ,List.filter_append,List.map_append]; simp [h]
theorem nk:(iQ P n).length≤n:=by unfold iQ; rw [List.length_map]; exact Nat.le_trans (List.length_filter_le _ _) (by rw [List.length_range]; exact Nat.le_refl _)
theorem DC:x∈iQ P n↔ ∃ i:Nat,i<n∧x=(i:Int)∧P i=true:=by
 unfold iQ
 simp only [cr,List.mem_filter,List.mem_range]
 constructor
 ·rintro ⟨i,⟨A,B⟩,rfl⟩; exact ⟨i,A,rfl,B⟩
 ·rintro ⟨i,A,rfl,B⟩; exact ⟨i,⟨A,B⟩,rfl⟩
theorem Dl: ∀ m,∃ l,iQ P (q+m)=iQ P q++l∧ ∀ y∈l,(q:Int)≤y
 |0=>⟨[],sm,fun y h=>by cases h⟩
 |m+1=>by
  obtain ⟨l,e,hl⟩:=Dl m
  cases hb:P (q+m) with
  |true=>exact ⟨l++[((q+m:Nat):Int)],by rw [show q+(m+1)=(q+m)+1 from rfl,qD hb,e,List.append_assoc],fun y hy=>by
   rcases gR.1 hy with h|h
   ·exact hl y h
   ·rw [cd.1 h]; omega⟩
  |false=>exact ⟨l,by rw [show q+(m+1)=(q+m)+1 from rfl,oW hb,e],hl⟩
/-- the pointer that goes beside: the next one is this, if it is so, and a later one, or none, if not -/
theorem M1 (h:P q=true) (hq:q<n):(iQ P n)[(iQ P q).length]? =some (q:Int):=by
 obtain ⟨l,hl,_⟩:=Dl (P:=P) (q:=q+1) (n-(q+1))
 rw [show q+1+(n-(q+1))=n by omega,qD h] at hl
 rw [hl,List.append_assoc,List.getElem?_append_right (Nat.le_refl _),Nat.sub_self]; rfl
theorem Pe (h:P q=false) (hq:q<n) (hx:(iQ P n)[(iQ P q).length]? =some x):x≠(q:Int):=by
 obtain ⟨l,hl,hy⟩:=Dl (P:=P) (q:=q+1) (n-(q+1))
 rw [show q+1+(n-(q+1))=n by omega,oW h] at hl
 rw [hl,List.getElem?_append_right (Nat.le_refl _),Nat.sub_self] at hx
 have:=hy x (aR hx)
 omega
end
noncomputable def lz (j:cH) (p:aZ):Int:=match m_ j p with
 |some d=>if p.At≤(cL j.Race.au d.bw j.Race.au.cD).Lo+60000*j.gV then 0 else if p.At≤(cL j.Race.au d.bw j.Race.au.cD).Hi+60000*j.gV then 1 else 2
 |none=>2
noncomputable def eI (j:cH) (p:aZ):Bool:=match m_ j p,j.aI[p.fZ.toNat]? with
 |some d,some f=>decide (lz j p≠2)&&decide (fK j.Race.au f d≠0)
 |_,_=>false
/-- which protests are granted, so far -/
noncomputable def te (j:cH) (n:Nat):List Int:=iQ (fun i=>(j.ax[i]?).any (eI j)) n
noncomputable def iF (j:cH):List Int:=te j j.ax.length
theorem sj {j:cH} {n:Nat} {x:Int}:x∈te j n↔ ∃ i:Nat,i<n∧x=(i:Int)∧ ∃ p,j.ax[i]? =some p∧eI j p=true:=by
 unfold te
 rw [DC]
 refine exists_congr fun i=>and_congr Iff.rfl (and_congr Iff.rfl ?_)
 cases h:j.ax[i]? with
 |none=>simp
 |some p=>simp
/-- by faults of which something is so -/
def Dz (l:bg) (F:aS→Prop) (fs:List aS) (d:aw):Prop:= ∃ f∈fs,F f∧ ¬ fK l f d=0
noncomputable def wE (l:bg) (F:aS→Prop) (fs:List aS) (h:List aw) (n:Nat):List Int:=iQ (fun s=>(h[s]?).any fun d=> @decide (Dz l F fs d) (Classical.propDecidable _)) n
noncomputable def g8 (j:cH) (F:aS→Prop):List (List Int):=j.Race.aH.map fun h=>wE j.Race.au F j.aI h h.length
/-- about which a protest is granted -/
def lZ (j:cH) (f:aS):Prop:= ∃ (i:Nat) (p:aZ),j.ax[i]? =some p∧eI j p=true∧j.aI[p.fZ.toNat]? =some f
noncomputable def jY (j:cH):List (List Int):=g8 j (lZ j)
noncomputable def H3 (j:cH) (s:Int) (n:Nat):Nat:=(List.range n).countP fun i=>(j.ax[i]?).any fun p=>decide (p.hP=s)&& !eI j p
noncomputable def Dp (j:cH) (s:Int):Int:= -(H3 j s j.ax.length:Int)*j.Cf
noncomputable def yw (j:cH):Int:=((iF j).length:Int)*j.Cf
noncomputable def Eu (j:cH):Int:=(j.ax.length:Int)*j.Cf-yw j
end
section
/-- the places of which something is so; from the k-th on, all of them -/
def hU (P:Nat→Bool) (n k:Nat):List (Int×Bool):=((List.range n).filter fun q=>decide (k≤q)||P q).map fun (q:Nat)=>((q:Int),true)
section
variable {P:Nat→Bool} {n k q:Nat}
theorem w7 {p:Int×Bool}:p∈hU P n k↔ ∃ q:Nat,q<n∧(k≤q∨P q=true)∧p=((q:Int),true):=by
 unfold hU
 simp only [cr,List.mem_filter,List.mem_range,Bool.or_eq_true,decide_eq_true_eq]
 constructor
 ·rintro ⟨q,⟨A,B⟩,rfl⟩; exact ⟨q,A,B,rfl⟩
 ·rintro ⟨q,A,B,rfl⟩; exact ⟨q,⟨A,B⟩,rfl⟩
theorem FQ:((hU P n k).map (·.1)).Nodup:=by
 unfold hU
 rw [List.map_map,List.nodup_iff_pairwise_ne,List.pairwise_map]
 have h:(List.range n).Pairwise (· ≠ ·):=by rw [← List.nodup_iff_pairwise_ne]; exact List.nodup_range
 exact (h.sublist List.filter_sublist).imp fun {a b} A e=>A (by have B:(a:Int)=(b:Int):=e; omega)
theorem I8:dz (hU P n 0) (n:Int) true=hU P (n+1) 0:=by
 have A:(hU P n 0).lookup (n:Int)=none:=hZ.2 fun p hp e=>by
  obtain ⟨q,B,_,rfl⟩:=w7.1 hp
  simp only at e; omega
 unfold dz
 rw [A]
 show hU P n 0++[((n:Int),true)]=_
 unfold hU
 rw [List.range_succ,List.filter_append,List.map_append]
 simp
theorem HP (h:P k=false):eO (hU P n k) (k:Int)=hU P n (k+1):=by
 unfold eO hU
 rw [List.filter_map,List.filter_filter]
 congr 1
 apply List.filter_congr
 intro q _
 by_cases e:q=k
 ·subst e; simp [h]
 ·have A:decide ((q:Int)=(k:Int))=false:=bD om
  have B:decide (k≤q)=decide (k+1≤q):=gv.2 om
  simp only [Function.comp_def,A,B,Bool.not_false,Bool.true_and]
theorem Gs (h:P k=true):hU P n k=hU P n (k+1):=by
 unfold hU
 congr 1
 apply List.filter_congr
 intro q _
 by_cases e:q=k
 ·subst e; simp [h]
 ·have A:decide (k≤q)=decide (k+1≤q):=gv.2 om
  rw [A]
theorem yf (hq:q<n):((hU P n n).lookup (q:Int)).getD false=P q:=by
 cases h:P q with
 |true=>
  have:((q:Int),true)∈hU P n n:=w7.2 ⟨q,hq,.inr h,rfl⟩
  rw [(kR FQ).1 this]; rfl
 |false=>
  have:(hU P n n).lookup (q:Int)=none:=hZ.2 fun p hp e=>by
   obtain ⟨u,B,A,rfl⟩:=w7.1 hp
   simp only at e
   obtain rfl:u=q:=by omega
   rcases A with A|A
   ·omega
   ·rw [h] at A; cases A
  rw [this]; rfl
end
end
section
section
variable {j j':cH} {p:aZ} {l:bg} {F G:aS→Prop} {fs:List aS} {h:List aw} {n:Nat} {x:Int}
theorem GF (hFG: ∀ f∈fs,(F f↔G f)):wE l F fs h n=wE l G fs h n:=by
 unfold wE
 congr 1
 funext s
 cases e:h[s]? with
 |none=>rfl
 |some d=>
  simp only [Option.any_some]
  rw [gv]
  exact ⟨fun ⟨f,A,B,C⟩=>⟨f,A,(hFG f A).1 B,C⟩,fun ⟨f,A,B,C⟩=>⟨f,A,(hFG f A).2 B,C⟩⟩
theorem Eo {k:Nat} {h:List aw} (hh:j.Race.aH[k]? =some h):(g8 j F)[k]? =some (wE j.Race.au F j.aI h h.length):=by unfold g8; rw [fz,hh]; rfl
theorem I3:(g8 j F).length=j.Race.aH.length:=by unfold g8; rw [List.length_map]
end
end
section
open Go.RowKit
structure gZ (j:cH) (az:List RA) (ha:List dG):Prop where
 race:ov j.Race az ha
 nf:j.aI.length≤1000000
 np:j.ax.length≤1000000
 kind: ∀ f∈j.aI,0≤f.Kind∧f.Kind≤255
structure q_ (j:cH) (az:List RA) (ha:List dG):Prop where
 race:tx j.Race az ha
 nf:j.aI.length≤9223372036854775807
 np:j.ax.length≤9223372036854775807
 kind: ∀ f∈j.aI,0≤f.Kind∧f.Kind≤255
def pC (j:cH):Prop:=(mw j.Race∨10<(j.aI.length:Int))∨15<(j.ax.length:Int)
noncomputable instance (j:cH):Decidable (pC j):=Classical.propDecidable _
theorem KC {j:cH} (h: ¬ pC j): ¬ mw j.Race∧(j.aI.length:Int)≤10∧(j.ax.length:Int)≤15:=by
 unfold pC at h
 have A: ¬ mw j.Race:=fun q=>h (.inl (.inl q))
 have B: ¬ 10<(j.aI.length:Int):=fun q=>h (.inl (.inr q))
 have C: ¬ 15<(j.ax.length:Int):=fun q=>h (.inr q)
 exact ⟨A,om,om⟩
theorem q_.small {j:cH} {az:List RA} {ha:List dG} (h:q_ j az ha) (hg: ¬ pC j):gZ j az ha:=by
 have A:=KC hg
 exact ⟨h.race.small A.1,om,om,h.kind⟩
def oj (fin:Int) (f:aS):Prop:=(1≤f.Kind∧f.Kind≤3)∧(0≤f.l_∧f.l_≤f.To∧f.To≤86400000)∧0≤f.g9∧f.g9≤(if f.Kind=1 then 0 else fin)
instance (fin:Int) (f:aS):Decidable (oj fin f):=by unfold oj; infer_instance
theorem MI {P:Nat→Bool} {n i:Nat} (h: ¬ 0<((iQ P n).length:Int)) (hi:i<n):P i=false:=by
 cases e:P i with
 |false=>rfl
 |true=>
  have:(i:Int)∈iQ P n:=DC.2 ⟨i,hi,rfl,e⟩
  have:=List.length_pos_of_mem this
  omega
theorem LZ {P:Nat→Bool} {n:Nat} (h:0<((iQ P n).length:Int)): ∃ i,i<n∧P i=true:=by
 obtain ⟨x,hx⟩:=List.exists_mem_of_length_pos (l:=iQ P n) om
 obtain ⟨i,A,_,B⟩:=DC.1 hx
 exact ⟨i,A,B⟩
def hO {α:Type} (l:List α) (p:Int→α→Bool) (i:Nat):Bool:=(l[i]?).any (p (i:Int))
theorem rr {α:Type} {l:List α} {p:Int→α→Bool} {i:Nat} {x:α} (h:l[i]? =some x):hO l p i=p (i:Int) x:=by unfold hO; rw [h]; rfl
section
variable {fin:Int} {f:aS} {j:cH}
theorem tF (hk:f.Kind=1):oj fin f↔(0≤f.l_∧f.l_≤f.To∧f.To≤86400000)∧0≤f.g9∧f.g9≤0:=by
 unfold oj; rw [if_pos hk]; omega
theorem tN (hk: ¬ f.Kind=1):oj fin f↔(1≤f.Kind∧f.Kind≤3)∧(0≤f.l_∧f.l_≤f.To∧f.To≤86400000)∧0≤f.g9∧f.g9≤fin:=by
 unfold oj; rw [if_neg hk]
theorem Dr (h:0<((iQ (hO j.aI fun _ f=>decide (¬ oj j.Race.au.cD f)) j.aI.length).length:Int)): ¬ oB j:=fun q=>by
 obtain ⟨i,hi,hb⟩:=LZ h
 have hx:j.aI[i]? =some (j.aI[i]'hi):=e_ hi
 rw [rr hx] at hb
 exact (of_decide_eq_true hb) (q.fault _ (aR hx))
theorem BK (h: ¬ 0<((iQ (hO j.aI fun _ f=>decide (¬ oj j.Race.au.cD f)) j.aI.length).length:Int)): ∀ f∈j.aI,eD j.Race.au f:=fun f hf=>by
 obtain ⟨i,hi⟩:=List.mem_iff_getElem?.1 hf
 have hb:=MI h (aW.1 hi).1
 rw [rr hi] at hb
 exact Decidable.of_not_not (of_decide_eq_false hb)
theorem Ac {b:Bool} {p q:Prop} (h1:b=false) (h2: ¬ p) (h3: ¬ q): ¬ (b=true∨p∨q):=by
 rintro (h|h|h)
 ·rw [h1] at h; cases h
 ·exact h2 h
 ·exact h3 h
end
section
variable {l:bg} {r:cx} {b:Int} {f:aS} {d:aw} {a c:yg}
theorem Fh (h:b<0):cL l r b=⟨r.Start,r.Start,true,false⟩:=if_pos h
theorem AS (h: ¬ b<0) (e: ¬ dI l r b=0):cL l r b=⟨86400000,86400000,false,true⟩:=by unfold cL; rw [if_neg h,if_neg e]
theorem yv (h: ¬ b<0) (e:dI l r b=0) (q:tD l r b=true):cL l r b=⟨(dD l r b).Lo,(dD l r b).Hi,true,false⟩:=by unfold cL; rw [if_neg h,if_pos e,q]; rfl
theorem wK (h: ¬ b<0) (e:dI l r b=0) (q:tD l r b=false):cL l r b=⟨(dD l r b).Lo,86400000,false,false⟩:=by unfold cL; rw [if_neg h,if_pos e,q]; rfl
theorem uY (h:dI l r b=0) (hb:0≤b):dF l r 0=0:=by
 by_cases e:dF l r (jn l b)=0
 ·by_cases c:0≤b∧b≤(l.ab.length:Int)-1
  ·rw [sP c] at e; exact e
  ·rw [show jn l b=2 from if_neg c] at e
   have:=(iw e).2.2.1
   omega
 ·rw [(lH e).1] at h; exact absurd h e
theorem A_ (h:dF l r 0=0):tD l r b=decide (b<nt (g4 l r)):=by
 have hm:=E4 (uO h)
 unfold tD
 rw [Bool.eq_iff_iff,cT,decide_eq_true_iff]
 constructor
 ·intro q; exact of_decide_eq_true (q _ hm.1)
 ·intro q x hx
  have:=hm.2 x hx
  exact dq om
theorem KF (hb:0≤b):(0≤(cL l r b).Lo∧(cL l r b).Lo≤86400000)∧0≤(cL l r b).Hi∧(cL l r b).Hi≤86400000:=by
 by_cases e:dI l r b=0
 ·have A:=tg e
  cases q:tD l r b with
  |true=>rw [yv om e q]; simp only; omega
  |false=>rw [wK om e q]; simp only; omega
 ·rw [AS om e]; simp only; omega
theorem jB (hk:f.Kind=1) (hr:nq d):fK l f d=m7 f (cL l d.bw (-1)) (cL l d.bw l.cD):=by
 unfold fK yq PH; rw [if_pos hr,if_pos hk,if_pos hk]
theorem ju (hk:f.Kind=2) (hr:nq d):fK l f d=m7 f (cL l d.bw (f.g9-1)) (cL l d.bw f.g9):=by
 unfold fK yq PH; rw [if_pos hr,if_neg om,if_pos hk,if_neg om]
theorem jz (hk:f.Kind=3) (hr:nq d):fK l f d=m7 f (cL l d.bw f.g9) (cL l d.bw f.g9):=by
 unfold fK yq PH; rw [if_pos hr,if_neg om,if_neg om,if_neg om]
theorem gL (h:a.never=true∨f.To<a.Lo∨c.Hi<f.l_):m7 f a c=0:=if_pos h
theorem o4 (h: ¬ (a.never=true∨f.To<a.Lo∨c.Hi<f.l_)) (q:a.each=true) (s:sU f a c):m7 f a c=2:=by unfold m7; rw [if_neg h,if_pos ⟨q,s⟩]
theorem jA (h: ¬ (a.never=true∨f.To<a.Lo∨c.Hi<f.l_)) (q: ¬ (a.each=true∧sU f a c)):m7 f a c=1:=by unfold m7; rw [if_neg h,if_neg q]
theorem nY (hk: ¬ f.Kind=3):sU f a c↔a.Hi≤f.To∧f.l_≤c.Lo:=by unfold sU; rw [if_neg hk]
theorem z5 (hk:f.Kind=3):sU f a c↔ag.mk (max a.Lo f.l_) (min a.Hi f.To)=ag.mk a.Lo a.Hi:=by
 unfold sU; rw [if_pos hk]
 constructor
 ·intro q; congr 1<;>omega
 ·intro q; injection q with A B; omega
end
section
variable {j:cH} {p:aZ} {d:aw} {f:aS}
theorem O4 (hd:m_ j p=some d) (h:p.At≤(cL j.Race.au d.bw j.Race.au.cD).Lo+60000*j.gV):lz j p=0:=by unfold lz; rw [hd]; exact if_pos h
theorem Oh (hd:m_ j p=some d) (h: ¬ p.At≤(cL j.Race.au d.bw j.Race.au.cD).Lo+60000*j.gV) (h2:p.At≤(cL j.Race.au d.bw j.Race.au.cD).Hi+60000*j.gV):lz j p=1:=by unfold lz; rw [hd]; simp only; rw [if_neg h,if_pos h2]
theorem PA (hd:m_ j p=some d) (h: ¬ p.At≤(cL j.Race.au d.bw j.Race.au.cD).Lo+60000*j.gV) (h2: ¬ p.At≤(cL j.Race.au d.bw j.Race.au.cD).Hi+60000*j.gV):lz j p=2:=by unfold lz; rw [hd]; simp only; rw [if_neg h,if_neg h2]
theorem IU (h:lz j p=2):eI j p=false:=by unfold eI; split<;>simp [h]
theorem Kg (hd:m_ j p=some d) (hf:j.aI[p.fZ.toNat]? =some f) (h: ¬ lz j p=2):eI j p= !decide (fK j.Race.au f d=0):=by unfold eI; rw [hd,hf]; simp [h]
end
section
variable {j:cH} {i k:Nat} {p q:aZ} {f:aS} {d:aw}
/-- the first faults are right -/
def oK (j:cH) (k:Nat):Prop:= ∀ (i:Nat) f,i<k→j.aI[i]? =some f→eD j.Race.au f
theorem BN:oK j 0:=fun i f h=>absurd h (Nat.not_lt_zero _)
theorem qB (h:oK j k) (hf:j.aI[k]? =some f) (ho:eD j.Race.au f):oK j (k+1):=fun i g hi hg=>by
 rcases Nat.lt_or_ge i k with c|c
 ·exact h i g c hg
 ·obtain rfl:i=k:=by omega
  rw [hf] at hg; cases hg; exact ho
theorem dB (h:oK j k) (hk:j.aI.length≤k): ∀ f∈j.aI,eD j.Race.au f:=fun f hf=>by
 obtain ⟨i,hi⟩:=List.mem_iff_getElem?.1 hf
 exact h i f (by have:=(aW.1 hi).1; omega) hi
/-- the first protests are right -/
def nO (j:cH) (k:Nat):Prop:= ∀ (i:Nat) p,i<k→j.ax[i]? =some p→ui j i p
theorem xh:nO j 0:=fun i f h=>absurd h (Nat.not_lt_zero _)
theorem su (h:nO j k) (hp:j.ax[k]? =some p) (ho:ui j k p):nO j (k+1):=fun i g hi hg=>by
 rcases Nat.lt_or_ge i k with c|c
 ·exact h i g c hg
 ·obtain rfl:i=k:=by omega
  rw [hp] at hg; cases hg; exact ho
/-- the number of the last protest, so far -/
def pb (j:cH) (k:Nat):Int:=match k with
 |0=> -1
 |k+1=>match j.ax[k]? with
  |some p=>p.Id
  |none=> -1
theorem nc (hp:j.ax[k]? =some p):pb j (k+1)=p.Id:=by unfold pb; simp only [hp]
theorem L8 (h:nO j k) (hk:k≤j.ax.length): -1≤pb j k∧pb j k≤9999:=by
 cases k with
 |zero=>exact ⟨by simp [pb],by simp [pb]⟩
 |succ k=>
  obtain ⟨p,hp⟩: ∃ p,j.ax[k]? =some p:=⟨j.ax[k]'om,e_ _⟩
  have:=(h k p om hp).id
  rw [nc hp]; omega
theorem oG {ht:List aw} (hh:j.Race.aH[p.iu.toNat]? =some ht) (hd:ht[p.hP.toNat]? =some d):m_ j p=some d:=by
 unfold m_; rw [hh]; exact hd
theorem Mu (hp:j.ax[k]? =some p) (hi:pb j k+1≤p.Id∧p.Id≤9999) (h0: -1≤pb j k) (hs:0≤p.hP∧p.hP≤(j.Race.bj.length:Int)-1) (hh:0≤p.iu∧p.iu≤(j.Race.aH.length:Int)-1) (hf:0≤p.fZ∧p.fZ≤(j.aI.length:Int)-1) (hd:m_ j p=some d) (hr:nq d) (ha:d.bw.Start≤p.At∧p.At≤86400000):ui j k p:=by
 refine ⟨om,fun q B A=>?_,hs,hh,hf,d,hd,hr,ha⟩
 cases k with
 |zero=>omega
 |succ k=>
  rw [Nat.add_sub_cancel] at A
  rw [nc A] at hi
  omega
/-- one that is wrong -/
theorem rD (hp:j.ax[k]? =some p) (h: ¬ ui j k p): ¬ oB j:=fun q=>h (q.gO k p hp)
theorem vM (h:ui j k p) (hk:k≤j.ax.length):pb j k+1≤p.Id:=by
 cases k with
 |zero=>have:=h.id; show-1+1≤p.Id; omega
 |succ k=>
  obtain ⟨q,hq⟩: ∃ q,j.ax[k]? =some q:=⟨j.ax[k]'om,e_ _⟩
  have:=h.up q om (by rw [Nat.add_sub_cancel]; exact hq)
  rw [nc hq]; omega
end
def oo (l:List aS) (f:aS):Int:=match l.findIdx? (fun x=>decide (x=f)) with
 |some i=>(i:Int)
 |none=> -1
section
variable {l:List aS} {f g x:aS} {i:Nat}
theorem MO (hx:l[i]? =some x) (h:x=f) (hb: ∀ (q:Nat) y,q<i→l[q]? =some y→y≠f):oo l f=(i:Int):=by
 unfold oo
 have:l.findIdx? (fun x=>decide (x=f))=some i:=by
  rw [List.findIdx?_eq_some_iff_getElem]
  obtain ⟨hi,e⟩:=aW.1 hx
  refine ⟨hi,by rw [e]; simp [h],fun q hq=>?_⟩
  have:=hb q (l[q]'om) hq (e_ _)
  simpa using this
 rw [this]
theorem MD (hb: ∀ (q:Nat) y,q<i→l[q]? =some y→y≠f) (hi:l.length≤i):oo l f= -1:=by
 unfold oo
 have:l.findIdx? (fun x=>decide (x=f))=none:=by
  rw [List.findIdx?_eq_none_iff]
  intro y hy
  obtain ⟨q,hq⟩:=List.mem_iff_getElem?.1 hy
  have:=hb q y (by have:=(aW.1 hq).1; omega) hq
  simpa using this
 rw [this]
theorem Ao (hf:f∈l): ∃ i:Nat,oo l f=(i:Int)∧l[i]? =some f:=by
 unfold oo
 cases h:l.findIdx? (fun x=>decide (x=f)) with
 |none=>
  rw [List.findIdx?_eq_none_iff] at h
  have:=h f hf
  simp at this
 |some i=>
  rw [List.findIdx?_eq_some_iff_getElem] at h
  obtain ⟨hi,e,_⟩:=h
  exact ⟨i,U,by rw [e_ hi]; simpa using e⟩
theorem JM (hf:f∈l) (hg:g∈l) (h:oo l f=oo l g):f=g:=by
 obtain ⟨i,C,A⟩:=Ao hf
 obtain ⟨k,D,B⟩:=Ao hg
 have:i=k:=by omega
 subst this
 exact Option.some.inj (A.symm.trans B)
end
end
end Go.Proofs.YtijpnoadncadoaaGreatDoor
