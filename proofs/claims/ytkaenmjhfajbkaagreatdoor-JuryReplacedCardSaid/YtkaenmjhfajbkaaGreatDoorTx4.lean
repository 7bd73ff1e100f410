/-
 The statement juryReplaced_said, part 4 of 9: Short, Grow, Global, RunA, Tab, Run, Comp, Ret, LoopK, MapK, Watch, Passes, Keys, MapR, RangeG, Nest, WMaps, WBounds, PassG, Drop, Spot, First, Line, Wrap, Goes, OpenW, Wheres, LineR, Race, RaceS, Vals, RaceO, RaceV, Jury, JMore, RankP, NestS, Grp.
 Conditions: none.
-/
import Derived.Test.YtkaenmjhfajbkaaGreatDoorTx1
import Derived.Test.YtkaenmjhfajbkaaGreatDoorTx2
import Derived.Test.YtkaenmjhfajbkaaGreatDoorTx3
import Derived.Test.YtkaenmjhfajbkaaGreatDoorProg
import Derived.KernelRfl
import Derived.WideKeyRuns
namespace Go.Proofs.YtkaenmjhfajbkaaGreatDoor
set_option maxRecDepth 100000
set_option maxHeartbeats 4000000
set_option linter.unusedVariables false
section
open Go.RowKit
/-- an operation that hands v to its slot d -/
structure SE (E:fh) (ops:Array Oper) (o:Oper) (D:g_) (L:dq) (C:List aA) (v:Value) (d:Nat):Prop where
 h:SD E ops o D L C v
 o:o.dst=some d
 n:Nat.blt d E.n=true
theorem rS {E:fh} {ops:Array Oper} {Q:dj} {o:Oper} {rest:List Oper} {D:g_} {L:dq} {C:List aA} {v:Value} {d:Nat}
 (h:SE E ops o D L C v d) (k:RJ E ops Q rest D ((d,v)::L) C):RJ E ops Q (o::rest) D L C:=Sh h.h h.o h.n k
theorem dS {E:fh} {ops:Array Oper} {F:dq→Prop} {o:Oper} {rest:List Oper} {D:g_} {L:dq} {C:List aA} {v:Value} {d:Nat}
 (h:SE E ops o D L C v d) (k:DJ E ops D C F rest ((d,v)::L)):DJ E ops D C F (o::rest) L:=SR h.h h.o h.n k
theorem eS {E:fh} {ops:Array Oper} {D:g_} {C' C1:List aA} {F:dq→Prop} {bs:List Bool} {o:Oper} {l rest:List Oper} {L:dq} {v:Value} {d:Nat}
 (hl:l=o::rest) (h:SE E ops o D L C' v d) (k:qM E ops D C' C1 F bs rest ((d,v)::L)):qM E ops D C' C1 F (false::bs) l L:=RM h.h hl h.o h.n k
theorem fS {E:fh} {ops:Array Oper} {D:g_} {C' C1:List aA} {F:dq→Prop} {bs:List Bool} {o:Oper} {l rest:List Oper} {L:dq} {v:Value} {d:Nat}
 (hl:l=o::rest) (h:SE E ops o D L C1 v d) (k:qM E ops D C' C1 F bs rest ((d,v)::L)):qM E ops D C' C1 F (true::bs) l L:=RZ h.h hl h.o h.n k
def gB (n:Nat) (ops:Array Oper) (L:dq) (d:Nat) (g:Option (Nat×Bool)):Bool:=j_ ops L g&&Nat.blt d n
theorem OY {n:Nat} {ops:Array Oper} {L:dq} {d:Nat} {g:Option (Nat×Bool)} (h:gB n ops L d g=true):j_ ops L g=true:=by
 unfold gB at h; rw [di] at h; exact h.1
theorem OT {n:Nat} {ops:Array Oper} {L:dq} {d:Nat} {g:Option (Nat×Bool)} (h:gB n ops L d g=true):Nat.blt d n=true:=by
 unfold gB at h; rw [di] at h; exact h.2
def vF (n:Nat) (ops:Array Oper) (L:dq) (d:Nat) (g:Option (Nat×Bool)) (x:Operand):Option Value:=match gB n ops L d g with
 |true=>ev L x
 |false=>none
def bF (n:Nat) (ops:Array Oper) (L:dq) (d:Nat) (g:Option (Nat×Bool)) (x y:Operand):Option (Value×Value):=match gB n ops L d g with
 |true=>match ev L x,ev L y with
  |some u,some v=>some (u,v)
  |_,_=>none
 |false=>none
def pF (n:Nat) (ops:Array Oper) (L:dq) (d:Nat) (g:Option (Nat×Bool)) (c x y:Operand):Option Value:=match gB n ops L d g with
 |true=>match ev L c with
  |some (.bool true)=>ev L x
  |some (.bool false)=>ev L y
  |_=>none
 |false=>none
def xF (n:Nat) (ops:Array Oper) (L:dq) (d:Nat) (g:Option (Nat×Bool)) (x:Operand) (i:Nat):Option Value:=match vF n ops L d g x with
 |some (.tuple vs)=>vs.toList[i]?
 |_=>none
def uF (n:Nat) (ops:Array Oper) (L:dq) (d:Nat) (g:Option (Nat×Bool)) (xs ys:List Operand):Option (List Value×List Value):=match gB n ops L d g with
 |true=>match evs L xs,evs L ys with
  |some u,some v=>some (u,v)
  |_,_=>none
 |false=>none
def cF (n:Nat) (ops:Array Oper) (L:dq) (d:Nat) (g:Option (Nat×Bool)) (fop:Operand) (xs:List Operand):Option (FuncId×List Value):=match gB n ops L d g with
 |true=>match ev L fop,evs L xs with
  |some (.func (.func f) fi ca),some vs=>some (f,fi.toList++vs++ca.toList)
  |_,_=>none
 |false=>none
theorem js {n:Nat} {ops:Array Oper} {L:dq} {d:Nat} {g:Option (Nat×Bool)} {x:Operand} {v:Value} (h:vF n ops L d g x=some v):j_ ops L g=true∧Nat.blt d n=true∧ev L x=some v:=by
 unfold vF at h
 split at h
 ·rename_i hb; exact ⟨OY hb,OT hb,h⟩
 ·cases h
theorem tF {n:Nat} {ops:Array Oper} {L:dq} {d:Nat} {g:Option (Nat×Bool)} {x y:Operand} {u v:Value} (h:bF n ops L d g x y=some (u,v)):j_ ops L g=true∧Nat.blt d n=true∧ev L x=some u∧ev L y=some v:=by
 unfold bF at h
 split at h
 ·rename_i hb
  split at h
  ·rename_i hx hy; cases h; exact ⟨OY hb,OT hb,hx,hy⟩
  ·cases h
 ·cases h
theorem Pf {n:Nat} {ops:Array Oper} {L:dq} {d:Nat} {g:Option (Nat×Bool)} {x y:List Operand} {u v:List Value} (h:uF n ops L d g x y=some (u,v)):j_ ops L g=true∧Nat.blt d n=true∧evs L x=some u∧evs L y=some v:=by
 unfold uF at h
 split at h
 ·rename_i hb
  split at h
  ·rename_i hx hy; cases h; exact ⟨OY hb,OT hb,hx,hy⟩
  ·cases h
 ·cases h
section
variable {E:fh} {ops:Array Oper} {Q:dj} {rest:List Oper} {D:List Deferred} {L:List (Nat×Value)} {C:List aA}
variable {d:Nat} {ty:TypeId} {ps:String} {af:Array Edge} {g:Option (Nat×Bool)}
theorem SX {o:Oper} {v:Value} (h:SD E ops o D L C v) (ho:o.dst=some d) (hd:Nat.blt d E.n=true):SE E ops o D L C v d:=⟨h,ho,hd⟩
theorem MV {x:Operand} {v:Value} (h:vF E.n ops L d g x=some v):SE E ops ⟨some d,.move x,ty,ps,af,g⟩ D L C v d:=by
 obtain ⟨A,B,F⟩:=js h; exact ⟨EK A F,rfl,B⟩
theorem AG {x:Operand} {v:Value} (h:vF E.n ops L d g x=some v):SE E ops ⟨some d,.assign x,ty,ps,af,g⟩ D L C v d:=by
 obtain ⟨A,B,F⟩:=js h; exact ⟨zj A F,rfl,B⟩
theorem OX {op:Op} (h:(Dc ops L g&&Nat.blt d E.n)=true):SE E ops ⟨some d,op,ty,ps,af,g⟩ D L C undef d:=by
 rw [di] at h; exact ⟨Jk h.1,rfl,h.2⟩
theorem NT {xt:TypeId} {x:Operand} {b:Bool} (h:vF E.n ops L d g x=some (.bool b)):SE E ops ⟨some d,.unOp .not xt x,ty,ps,af,g⟩ D L C (.bool !b) d:=by
 obtain ⟨A,B,F⟩:=js h; exact ⟨KT A F,rfl,B⟩
theorem NG {xt:TypeId} {x:Operand} {n:Int} (h:vF E.n ops L d g x=some (.int .i64 n)) (hb:rn (-n)):SE E ops ⟨some d,.unOp .neg xt x,ty,ps,af,g⟩ D L C (.int .i64 (-n)) d:=by
 obtain ⟨A,B,F⟩:=js h; exact ⟨PD A F hb,rfl,B⟩
theorem PK {c x y:Operand} {v:Value} (h:pF E.n ops L d g c x y=some v):SE E ops ⟨some d,.pick c x y,ty,ps,af,g⟩ D L C v d:=by
 unfold pF at h
 split at h
 ·rename_i hb
  split at h
  ·rename_i hc; exact ⟨zO (OY hb) hc h,rfl,OT hb⟩
  ·rename_i hc; exact ⟨zP (OY hb) hc h,rfl,OT hb⟩
  ·cases h
 ·cases h
theorem EX {x:Operand} {i:Nat} {v:Value} (h:xF E.n ops L d g x i=some v):SE E ops ⟨some d,.extract x i,ty,ps,af,g⟩ D L C v d:=by
 unfold xF at h
 split at h
 ·rename_i vs hv
  obtain ⟨A,B,F⟩:=js hv
  exact ⟨x8 (vs:=vs.toList) A (by simpa using F) h,U,B⟩
 ·cases h
theorem LN {x:Operand} {t e:TypeId} {A:OA} {n c:Nat} (h:vF E.n ops L d g x=some (.slice A n c)) (ht:E.P.underlying t=some (.slice e)):
 SE E ops ⟨some d,.call {callee:= .builtin .len,args:= #[x],argTypes:= #[t]},ty,ps,af,g⟩ D L C (.int .i64 n) d:=by
 obtain ⟨B,F,G⟩:=js h; exact ⟨Kf B G ht,rfl,F⟩
theorem BI {op:BinOp} {xt yt:TypeId} {x y:Operand} {u v r:Value} (h:bF E.n ops L d g x y=some (u,v)) (hb:gY E.P op xt x y u v r):SE E ops ⟨some d,.binOp op xt x y yt,ty,ps,af,g⟩ D L C r d:=by
 obtain ⟨A,B,F,G⟩:=tF h; exact ⟨fM A F G hb,rfl,B⟩
theorem MN {x y:Operand} {ts:Array TypeId} {a b:Int} {k:IntKind} (h:bF E.n ops L d g x y=some (.int k a,.int k b)):
 SE E ops ⟨some d,.call {callee:= .builtin .min,args:= #[x,y],argTypes:=ts},ty,ps,af,g⟩ D L C (.int k (min a b)) d:=by
 obtain ⟨A,B,F,G⟩:=tF h; exact ⟨QO A F G,rfl,B⟩
theorem MX {x y:Operand} {ts:Array TypeId} {a b:Int} {k:IntKind} (h:bF E.n ops L d g x y=some (.int k a,.int k b)):
 SE E ops ⟨some d,.call {callee:= .builtin .max,args:= #[x,y],argTypes:=ts},ty,ps,af,g⟩ D L C (.int k (max a b)) d:=by
 obtain ⟨A,B,F,G⟩:=tF h; exact ⟨QQ A F G,rfl,B⟩
theorem FA (o':Nat) {x:Operand} {b o s f k:Nat} (h:vF E.n ops L d g x=some (.pointer (some ⟨b,o,none⟩))) (hf:u_ E.P s f=some k) (ho:o+k=o'):
 SE E ops ⟨some d,.fieldAddr s x f,ty,ps,af,g⟩ D L C (.pointer (some ⟨b,o',none⟩)) d:=by
 obtain ⟨A,B,F⟩:=js h; exact ⟨OH A F hf ho,rfl,B⟩
theorem pO (k':Nat) {x:Operand} {A:OA} {n sz:Nat} {es:List (List Value)} {k0 s f k:Nat} (h:vF E.n ops L d g x=some (.pointer (l8 A k0))) (hR:fY C (rd A n sz es).holds) (hn:0<n*sz)
 (hf:u_ E.P s f=some k) (ho:k0+k=k'):SE E ops ⟨some d,.fieldAddr s x f,ty,ps,af,g⟩ D L C (.pointer (l8 A k')) d:=by
 obtain ⟨B,F,G⟩:=js h; exact ⟨KX B G hR hn hf ho,rfl,F⟩
theorem VN (k':Nat) {x:Operand} {A:OA} {ad:Addr} {k0 s f k:Nat} (h:vF E.n ops L d g x=some (.pointer (l8 A k0))) (hA:A=some ad)
 (hf:u_ E.P s f=some k) (ho:k0+k=k'):SE E ops ⟨some d,.fieldAddr s x f,ty,ps,af,g⟩ D L C (.pointer (l8 A k')) d:=by
 obtain ⟨B,F,G⟩:=js h; exact ⟨Ku B G hA hf ho,rfl,F⟩
theorem IA (k:Nat) {x ix:Operand} {A:OA} {n c sz e t:Nat} {es:List (List Value)} {j:Int} (h:bF E.n ops L d g x ix=some (.slice A n c,.int .i64 j)) (hR:fY C (rd A n sz es).holds)
 (ht:tE E.P t=some (e,sz)) (hz:0<sz) (hj:j=(k:Int)) (hk:k<n):SE E ops ⟨some d,.indexAddr t x ix,ty,ps,af,g⟩ D L C (.pointer (l8 A (k*sz))) d:=by
 obtain ⟨B,F,G,H⟩:=tF h; exact ⟨Rw B G H hR ht hz hj hk,rfl,F⟩
theorem VR (k o':Nat) {x ix:Operand} {b o n c sz e t:Nat} {j:Int} (h:bF E.n ops L d g x ix=some (.slice (some ⟨b,o,none⟩) n c,.int .i64 j))
 (ht:tE E.P t=some (e,sz)) (hj:j=(k:Int)) (hk:k<n) (ho:o+k*sz=o'):SE E ops ⟨some d,.indexAddr t x ix,ty,ps,af,g⟩ D L C (.pointer (some ⟨b,o',none⟩)) d:=by
 obtain ⟨A,B,F,G⟩:=tF h; exact ⟨NY A F G ht hj hk ho,rfl,B⟩
/-- the whole of a block, a part of it, one cell -/
theorem LW (i:Nat) {x:Operand} {b t tt n:Nat} {cs:List Value} (h:vF E.n ops L d g x=some (.pointer (some ⟨b,0,none⟩))) (ht:tK E.P t=some (true,n)) (hC:C[i]? =some (cz b tt cs)) (hn:cs.length=n):
 SE E ops ⟨some d,.load t x,ty,ps,af,g⟩ D L C (.agg cs.toArray) d:=by
 obtain ⟨A,B,F⟩:=js h; exact ⟨yA A F ht (pZ i hC sm) hn,rfl,B⟩
theorem LP (vs:List Value) (i:Nat) {x:Operand} {b o t tt n:Nat} {cs:List Value} (h:vF E.n ops L d g x=some (.pointer (some ⟨b,o,none⟩))) (ht:tK E.P t=some (true,n)) (hC:C[i]? =some (cz b tt cs)) (hv:(cs.drop o).take vs.length=vs) (hn:vs.length=n):
 SE E ops ⟨some d,.load t x,ty,ps,af,g⟩ D L C (.agg vs.toArray) d:=by
 obtain ⟨A,B,F⟩:=js h; exact ⟨yA A F ht (pZ i hC hv) hn,rfl,B⟩
theorem VV (vs:List Value) (i:Nat) {x:Operand} {b o t tt n:Nat} {cs:List Value} (h:vF E.n ops L d g x=some (.pointer (some ⟨b,o,none⟩))) (ht:tK E.P t=some (true,n)) (hC:C[i]? =some (cz b tt cs).ro) (hv:(cs.drop o).take vs.length=vs) (hn:vs.length=n):
 SE E ops ⟨some d,.load t x,ty,ps,af,g⟩ D L C (.agg vs.toArray) d:=by
 obtain ⟨A,B,F⟩:=js h; exact ⟨yA A F ht (wP i hC hv) hn,rfl,B⟩
theorem L1 (v:Value) (i:Nat) {x:Operand} {b o t tt n:Nat} {cs:List Value} (h:vF E.n ops L d g x=some (.pointer (some ⟨b,o,none⟩))) (ht:tK E.P t=some (false,n)) (hC:C[i]? =some (cz b tt cs)) (hv:(cs.drop o).take 1=[v]):
 SE E ops ⟨some d,.load t x,ty,ps,af,g⟩ D L C v d:=by
 obtain ⟨A,B,F⟩:=js h; exact ⟨vQ A F ht (pZ i hC hv),rfl,B⟩
theorem IE (v:Value) (i:Nat) {x:Operand} {b o t tt n:Nat} {cs:List Value} (h:vF E.n ops L d g x=some (.pointer (some ⟨b,o,none⟩))) (ht:tK E.P t=some (false,n)) (hC:C[i]? =some (cz b tt cs).ro) (hv:(cs.drop o).take 1=[v]):
 SE E ops ⟨some d,.load t x,ty,ps,af,g⟩ D L C v d:=by
 obtain ⟨A,B,F⟩:=js h; exact ⟨vQ A F ht (wP i hC hv),rfl,B⟩
theorem DA (i:Nat) {x:Operand} {b t tt n:Nat} {v:Value} (h:vF E.n ops L d g x=some (.pointer (some ⟨b,0,none⟩))) (ht:tK E.P t=some (false,n)) (hC:C[i]? =some (cz b tt [v])):
 SE E ops ⟨some d,.load t x,ty,ps,af,g⟩ D L C v d:=by
 obtain ⟨A,B,F⟩:=js h; exact ⟨vQ A F ht (pZ i hC rfl),rfl,B⟩
theorem VK (i:Nat) {x:Operand} {b t tt n:Nat} {v:Value} (h:vF E.n ops L d g x=some (.pointer (some ⟨b,0,none⟩))) (ht:tK E.P t=some (false,n)) (hC:C[i]? =some (cz b tt [v]).ro):
 SE E ops ⟨some d,.load t x,ty,ps,af,g⟩ D L C v d:=by
 obtain ⟨A,B,F⟩:=js h; exact ⟨vQ A F ht (wP i hC rfl),rfl,B⟩
/-- what is read of a row -/
theorem gD (k o:Nat) (v:Value) {x:Operand} {A:OA} {t m n sz:Nat} {es:List (List Value)} {e:List Value} (h:vF E.n ops L d g x=some (.pointer (l8 A m))) {nn:Nat} (ht:tK E.P t=some (false,nn)) (hR:fY C (rd A n sz es).holds) (he:es[k]? =some e) (hm:m=k*sz+o) (hz:0<sz) (hv:(e.drop o).take 1=[v]):
 SE E ops ⟨some d,.load t x,ty,ps,af,g⟩ D L C v d:=by
 obtain ⟨B,F,G⟩:=js h; exact ⟨vQ B G ht (OS hR he hm hz hv),rfl,F⟩
theorem jD (k o:Nat) (vs:List Value) {x:Operand} {A:OA} {t m n sz:Nat} {es:List (List Value)} {e:List Value} (h:vF E.n ops L d g x=some (.pointer (l8 A m))) {nn:Nat} (ht:tK E.P t=some (true,nn)) (hR:fY C (rd A n sz es).holds) (he:es[k]? =some e) (hm:m=k*sz+o) (hz:0<sz) (hv:(e.drop o).take vs.length=vs) (hn:vs.length=nn):
 SE E ops ⟨some d,.load t x,ty,ps,af,g⟩ D L C (.agg vs.toArray) d:=by
 obtain ⟨B,F,G⟩:=js h; exact ⟨yA B G ht (OS hR he hm hz hv) hn,rfl,F⟩
theorem CL {fop:Operand} {xs:Array Operand} {ts:Array TypeId} {f:FuncId} {args:List Value} {Cp:List aA} {v:Value} (c:dB E.P f args Cp v) (hC:kM C Cp) (h:cF E.n ops L d g fop xs.toList=some (f,args)):
 SE E ops ⟨some d,.call {callee:= .value fop,args:=xs,argTypes:=ts},ty,ps,af,g⟩ D L C v d:=by
 unfold cF at h
 split at h
 ·rename_i hb
  split at h
  ·rename_i hf hx; cases h; exact ⟨Fv (OY hb) hf hx rfl c hC,rfl,OT hb⟩
  ·cases h
 ·cases h
theorem FU {fn:Fn} {xs ys:Array Operand} {us vs:List Value} (h:uF E.n ops L d g xs.toList ys.toList=some (us,vs)):SE E ops ⟨some d,.makeFunc fn xs ys,ty,ps,af,g⟩ D L C (.func fn us.toArray vs.toArray) d:=by
 obtain ⟨A,B,F,G⟩:=Pf h; exact ⟨Mh A F G,rfl,B⟩
theorem cX {fop:Operand} {xs:Array Operand} {ts:Array TypeId} {f:FuncId} {args:List Value} {Cp:List aA} {α:Type} {V:α→Value} {p:α→Prop} {N:α→List aA} (c:nG E.P f args Cp V p N) (hC:kM C Cp)
 (h:cF E.n ops L d g fop xs.toList=some (f,args)) (k: ∀ x,p x→RJ E ops Q rest D ((d,V x)::L) (N x++C)):
 RJ E ops Q (⟨some d,.call {callee:= .value fop,args:=xs,argTypes:=ts},ty,ps,af,g⟩::rest) D L C:=by
 unfold cF at h
 split at h
 ·rename_i hb
  split at h
  ·rename_i hf hx; cases h; exact QP (OY hb) hf hx rfl c hC (OT hb) k
  ·cases h
 ·cases h
/-- a box of a struct, of one cell -/
theorem eJ {t:TypeId} {x:Operand} {cs:List Value} (h:vF E.n ops L d g x=some (.agg cs.toArray)) (k: ∀ b,RJ E ops Q rest D ((d,.pointer (some ⟨b,0,none⟩))::L) (cz b t cs::C)):
 RJ E ops Q (⟨some d,.box t x,ty,ps,af,g⟩::rest) D L C:=by
 obtain ⟨A,B,F⟩:=js h; exact OP A F rfl B k
theorem wM {t:TypeId} {x:Operand} {v:Value} (h:vF E.n ops L d g x=some v) (hv:v.cells.toList=[v]) (k: ∀ b,RJ E ops Q rest D ((d,.pointer (some ⟨b,0,none⟩))::L) (cz b t [v]::C)):
 RJ E ops Q (⟨some d,.box t x,ty,ps,af,g⟩::rest) D L C:=by
 obtain ⟨A,B,F⟩:=js h; exact OP A F hv B k
theorem AL {t:TypeId} {cs:List Value} (h:gB E.n ops L d g=true) (hz:tZ E.P t=some cs) (k: ∀ b,RJ E ops Q rest D ((d,.pointer (some ⟨b,0,none⟩))::L) (cz b t cs::C)):
 RJ E ops Q (⟨some d,.alloc t,ty,ps,af,g⟩::rest) D L C:=MW (OY h) hz (OT h) k
/-- a store into the block at the place i of the state -/
def sF (ops:Array Oper) (L:dq) (g:Option (Nat×Bool)) (x y:Operand):Option (Value×Value):=match j_ ops L g with
 |true=>match ev L x,ev L y with
  |some u,some v=>some (u,v)
  |_,_=>none
 |false=>none
theorem DD {ops:Array Oper} {L:dq} {g:Option (Nat×Bool)} {x y:Operand} {u v:Value} (h:sF ops L g x y=some (u,v)):j_ ops L g=true∧ev L x=some u∧ev L y=some v:=by
 unfold sF at h
 split at h
 ·rename_i hb
  split at h
  ·rename_i hx hy; cases h; exact ⟨hb,hx,hy⟩
  ·cases h
 ·cases h
theorem QK {t n b o tt:Nat} {x y:Operand} {v:Value} {cs cs':List Value} {C':List aA} (i:Nat) (h:sF ops L g x y=some (.pointer (some ⟨b,o,none⟩),v)) (ht:(tK E.P t).map (·.2)=some n) (hC:C[i]? =some (cz b tt cs))
 (hk:(v.cells.toList.length==n&&v.cells.toList.all Value.oneCell'&&Nat.ble (o+n) cs.length)=true) (hcs:cs.take o++v.cells.toList++cs.drop (o+n)=cs') (hC':C.set i (cz b tt cs')=C') (k:RJ E ops Q rest D L C'):
 RJ E ops Q (⟨none,.store t x y,ty,ps,af,g⟩::rest) D L C:=by
 obtain ⟨A,B,F⟩:=DD h
 simp only [di,beq_iff_eq] at hk
 exact g5 i A B F ht U hk.1.1 hk.1.2 hC hk.2 hcs hC' k
/-- a store of a whole block, by a struct, by one cell -/
theorem Od {t n b tt:Nat} {x y:Operand} {cs cs':List Value} {C':List aA} (i:Nat) (h:sF ops L g x y=some (.pointer (some ⟨b,0,none⟩),.agg cs'.toArray)) (ht:(tK E.P t).map (·.2)=some n) (hC:C[i]? =some (cz b tt cs))
 (hk:(Nat.beq cs'.length n&&cs'.all Value.oneCell'&&Nat.beq n cs.length)=true) (hC':C.set i (cz b tt cs')=C') (k:RJ E ops Q rest D L C'):
 RJ E ops Q (⟨none,.store t x y,ty,ps,af,g⟩::rest) D L C:=by
 obtain ⟨AA,J,K⟩:=DD h
 simp only [di] at hk
 obtain ⟨⟨A,B⟩,F⟩:=hk
 have H:=Nat.eq_of_beq_eq_true A
 have G:=Nat.eq_of_beq_eq_true F
 exact g5 i AA J K ht U H B hC (by rw [Nat.zero_add,G]; exact Nat.ble_self_eq_true _) (by rw [Nat.zero_add,G,List.take_zero,List.drop_length]; show []++cs'++[]=cs'; simp) hC' k
theorem T1 {t n b tt:Nat} {x y:Operand} {v u:Value} {C':List aA} (i:Nat) (h:sF ops L g x y=some (.pointer (some ⟨b,0,none⟩),v)) (ht:(tK E.P t).map (·.2)=some n) (hC:C[i]? =some (cz b tt [u]))
 (hv:v.cells.toList=[v]) (hk:(Nat.beq n 1&&v.oneCell')=true) (hC':C.set i (cz b tt [v])=C') (k:RJ E ops Q rest D L C'):
 RJ E ops Q (⟨none,.store t x y,ty,ps,af,g⟩::rest) D L C:=by
 obtain ⟨G,H,AA⟩:=DD h
 rw [di] at hk
 obtain ⟨A,B⟩:=hk
 have F:=Nat.eq_of_beq_eq_true A
 subst F
 exact g5 i G H AA ht hv U (by simp [B]) hC U U hC' k
theorem eN {t n b tt:Nat} {x y:Operand} {cs cs':List Value} (h:sF ops L g x y=some (.pointer (some ⟨b,0,none⟩),.agg cs'.toArray)) (ht:(tK E.P t).map (·.2)=some n) (hk:(Nat.beq cs'.length n&&cs'.all Value.oneCell'&&Nat.beq n cs.length)=true) (k:RJ E ops Q rest D L (cz b tt cs'::C)):RJ E ops Q (⟨none,.store t x y,ty,ps,af,g⟩::rest) D L (cz b tt cs::C):=Od 0 h ht rfl hk rfl k
theorem L8 {t n b tt:Nat} {x y:Operand} {v u:Value} (h:sF ops L g x y=some (.pointer (some ⟨b,0,none⟩),v)) (ht:(tK E.P t).map (·.2)=some n) (hv:v.cells.toList=[v]) (hk:(Nat.beq n 1&&v.oneCell')=true) (k:RJ E ops Q rest D L (cz b tt [v]::C)):RJ E ops Q (⟨none,.store t x y,ty,ps,af,g⟩::rest) D L (cz b tt [u]::C):=T1 0 h ht rfl hv hk rfl k
theorem qN {t n b tt:Nat} {x y:Operand} {cs cs':List Value} {A0:aA} (h:sF ops L g x y=some (.pointer (some ⟨b,0,none⟩),.agg cs'.toArray)) (ht:(tK E.P t).map (·.2)=some n) (hk:(Nat.beq cs'.length n&&cs'.all Value.oneCell'&&Nat.beq n cs.length)=true) (k:RJ E ops Q rest D L (A0::cz b tt cs'::C)):RJ E ops Q (⟨none,.store t x y,ty,ps,af,g⟩::rest) D L (A0::cz b tt cs::C):=Od 1 h ht rfl hk rfl k
theorem VU (cs':List Value) {t n b o tt:Nat} {x y:Operand} {v:Value} {cs:List Value} {A0:aA} (h:sF ops L g x y=some (.pointer (some ⟨b,o,none⟩),v)) (ht:(tK E.P t).map (·.2)=some n) (hk:(v.cells.toList.length==n&&v.cells.toList.all Value.oneCell'&&Nat.ble (o+n) cs.length)=true) (hcs:cs.take o++v.cells.toList++cs.drop (o+n)=cs') (k:RJ E ops Q rest D L (A0::cz b tt cs'::C)):RJ E ops Q (⟨none,.store t x y,ty,ps,af,g⟩::rest) D L (A0::cz b tt cs::C):=QK 1 h ht rfl hk hcs rfl k
theorem GM {t n b tt:Nat} {x y:Operand} {cs cs':List Value} {A0 A1:aA} (h:sF ops L g x y=some (.pointer (some ⟨b,0,none⟩),.agg cs'.toArray)) (ht:(tK E.P t).map (·.2)=some n) (hk:(Nat.beq cs'.length n&&cs'.all Value.oneCell'&&Nat.beq n cs.length)=true) (k:RJ E ops Q rest D L (A0::A1::cz b tt cs'::C)):RJ E ops Q (⟨none,.store t x y,ty,ps,af,g⟩::rest) D L (A0::A1::cz b tt cs::C):=Od 2 h ht rfl hk rfl k
theorem V2 (cs':List Value) {t n b o tt:Nat} {x y:Operand} {v:Value} {cs:List Value} {A0 A1:aA} (h:sF ops L g x y=some (.pointer (some ⟨b,o,none⟩),v)) (ht:(tK E.P t).map (·.2)=some n) (hk:(v.cells.toList.length==n&&v.cells.toList.all Value.oneCell'&&Nat.ble (o+n) cs.length)=true) (hcs:cs.take o++v.cells.toList++cs.drop (o+n)=cs') (k:RJ E ops Q rest D L (A0::A1::cz b tt cs'::C)):RJ E ops Q (⟨none,.store t x y,ty,ps,af,g⟩::rest) D L (A0::A1::cz b tt cs::C):=QK 2 h ht rfl hk hcs rfl k
theorem RG {t n b tt:Nat} {x y:Operand} {cs cs':List Value} {A0 A1 A2:aA} (h:sF ops L g x y=some (.pointer (some ⟨b,0,none⟩),.agg cs'.toArray)) (ht:(tK E.P t).map (·.2)=some n) (hk:(Nat.beq cs'.length n&&cs'.all Value.oneCell'&&Nat.beq n cs.length)=true) (k:RJ E ops Q rest D L (A0::A1::A2::cz b tt cs'::C)):RJ E ops Q (⟨none,.store t x y,ty,ps,af,g⟩::rest) D L (A0::A1::A2::cz b tt cs::C):=Od 3 h ht rfl hk rfl k
theorem VY {t n b tt:Nat} {x y:Operand} {v u:Value} {A0 A1 A2:aA} (h:sF ops L g x y=some (.pointer (some ⟨b,0,none⟩),v)) (ht:(tK E.P t).map (·.2)=some n) (hv:v.cells.toList=[v]) (hk:(Nat.beq n 1&&v.oneCell')=true) (k:RJ E ops Q rest D L (A0::A1::A2::cz b tt [v]::C)):RJ E ops Q (⟨none,.store t x y,ty,ps,af,g⟩::rest) D L (A0::A1::A2::cz b tt [u]::C):=T1 3 h ht rfl hv hk rfl k
theorem RS (cs':List Value) {t n b o tt:Nat} {x y:Operand} {v:Value} {cs:List Value} {A0 A1 A2:aA} (h:sF ops L g x y=some (.pointer (some ⟨b,o,none⟩),v)) (ht:(tK E.P t).map (·.2)=some n) (hk:(v.cells.toList.length==n&&v.cells.toList.all Value.oneCell'&&Nat.ble (o+n) cs.length)=true) (hcs:cs.take o++v.cells.toList++cs.drop (o+n)=cs') (k:RJ E ops Q rest D L (A0::A1::A2::cz b tt cs'::C)):RJ E ops Q (⟨none,.store t x y,ty,ps,af,g⟩::rest) D L (A0::A1::A2::cz b tt cs::C):=QK 3 h ht rfl hk hcs rfl k
theorem Q5 {t n b tt:Nat} {x y:Operand} {cs cs':List Value} {A0 A1 A2 A3:aA} (h:sF ops L g x y=some (.pointer (some ⟨b,0,none⟩),.agg cs'.toArray)) (ht:(tK E.P t).map (·.2)=some n) (hk:(Nat.beq cs'.length n&&cs'.all Value.oneCell'&&Nat.beq n cs.length)=true) (k:RJ E ops Q rest D L (A0::A1::A2::A3::cz b tt cs'::C)):RJ E ops Q (⟨none,.store t x y,ty,ps,af,g⟩::rest) D L (A0::A1::A2::A3::cz b tt cs::C):=Od 4 h ht rfl hk rfl k
theorem VX {t n b tt:Nat} {x y:Operand} {v u:Value} {A0 A1 A2 A3:aA} (h:sF ops L g x y=some (.pointer (some ⟨b,0,none⟩),v)) (ht:(tK E.P t).map (·.2)=some n) (hv:v.cells.toList=[v]) (hk:(Nat.beq n 1&&v.oneCell')=true) (k:RJ E ops Q rest D L (A0::A1::A2::A3::cz b tt [v]::C)):RJ E ops Q (⟨none,.store t x y,ty,ps,af,g⟩::rest) D L (A0::A1::A2::A3::cz b tt [u]::C):=T1 4 h ht rfl hv hk rfl k
theorem U7 (cs':List Value) {t n b o tt:Nat} {x y:Operand} {v:Value} {cs:List Value} {A0 A1 A2 A3:aA} (h:sF ops L g x y=some (.pointer (some ⟨b,o,none⟩),v)) (ht:(tK E.P t).map (·.2)=some n) (hk:(v.cells.toList.length==n&&v.cells.toList.all Value.oneCell'&&Nat.ble (o+n) cs.length)=true) (hcs:cs.take o++v.cells.toList++cs.drop (o+n)=cs') (k:RJ E ops Q rest D L (A0::A1::A2::A3::cz b tt cs'::C)):RJ E ops Q (⟨none,.store t x y,ty,ps,af,g⟩::rest) D L (A0::A1::A2::A3::cz b tt cs::C):=QK 4 h ht rfl hk hcs rfl k
theorem G1 {t n b tt:Nat} {x y:Operand} {cs cs':List Value} {A0 A1 A2 A3 A4:aA} (h:sF ops L g x y=some (.pointer (some ⟨b,0,none⟩),.agg cs'.toArray)) (ht:(tK E.P t).map (·.2)=some n) (hk:(Nat.beq cs'.length n&&cs'.all Value.oneCell'&&Nat.beq n cs.length)=true) (k:RJ E ops Q rest D L (A0::A1::A2::A3::A4::cz b tt cs'::C)):RJ E ops Q (⟨none,.store t x y,ty,ps,af,g⟩::rest) D L (A0::A1::A2::A3::A4::cz b tt cs::C):=Od 5 h ht rfl hk rfl k
theorem PA {t n b tt:Nat} {x y:Operand} {cs cs':List Value} {A0 A1 A2 A3 A4 A5:aA} (h:sF ops L g x y=some (.pointer (some ⟨b,0,none⟩),.agg cs'.toArray)) (ht:(tK E.P t).map (·.2)=some n) (hk:(Nat.beq cs'.length n&&cs'.all Value.oneCell'&&Nat.beq n cs.length)=true) (k:RJ E ops Q rest D L (A0::A1::A2::A3::A4::A5::cz b tt cs'::C)):RJ E ops Q (⟨none,.store t x y,ty,ps,af,g⟩::rest) D L (A0::A1::A2::A3::A4::A5::cz b tt cs::C):=Od 6 h ht rfl hk rfl k
theorem VS {t n b tt:Nat} {x y:Operand} {v u:Value} {A0 A1 A2 A3 A4 A5:aA} (h:sF ops L g x y=some (.pointer (some ⟨b,0,none⟩),v)) (ht:(tK E.P t).map (·.2)=some n) (hv:v.cells.toList=[v]) (hk:(Nat.beq n 1&&v.oneCell')=true) (k:RJ E ops Q rest D L (A0::A1::A2::A3::A4::A5::cz b tt [v]::C)):RJ E ops Q (⟨none,.store t x y,ty,ps,af,g⟩::rest) D L (A0::A1::A2::A3::A4::A5::cz b tt [u]::C):=T1 6 h ht rfl hv hk rfl k
theorem U4 (cs':List Value) {t n b o tt:Nat} {x y:Operand} {v:Value} {cs:List Value} {A0 A1 A2 A3 A4 A5:aA} (h:sF ops L g x y=some (.pointer (some ⟨b,o,none⟩),v)) (ht:(tK E.P t).map (·.2)=some n) (hk:(v.cells.toList.length==n&&v.cells.toList.all Value.oneCell'&&Nat.ble (o+n) cs.length)=true) (hcs:cs.take o++v.cells.toList++cs.drop (o+n)=cs') (k:RJ E ops Q rest D L (A0::A1::A2::A3::A4::A5::cz b tt cs'::C)):RJ E ops Q (⟨none,.store t x y,ty,ps,af,g⟩::rest) D L (A0::A1::A2::A3::A4::A5::cz b tt cs::C):=QK 6 h ht rfl hk hcs rfl k
theorem Q6 {t n b tt:Nat} {x y:Operand} {cs cs':List Value} {A0 A1 A2 A3 A4 A5 A6 A7:aA} (h:sF ops L g x y=some (.pointer (some ⟨b,0,none⟩),.agg cs'.toArray)) (ht:(tK E.P t).map (·.2)=some n) (hk:(Nat.beq cs'.length n&&cs'.all Value.oneCell'&&Nat.beq n cs.length)=true) (k:RJ E ops Q rest D L (A0::A1::A2::A3::A4::A5::A6::A7::cz b tt cs'::C)):RJ E ops Q (⟨none,.store t x y,ty,ps,af,g⟩::rest) D L (A0::A1::A2::A3::A4::A5::A6::A7::cz b tt cs::C):=Od 8 h ht rfl hk rfl k
theorem Vs (cs':List Value) {t n b o tt:Nat} {x y:Operand} {v:Value} {cs:List Value} {A0 A1 A2 A3 A4 A5 A6 A7 A8 A9:aA} (h:sF ops L g x y=some (.pointer (some ⟨b,o,none⟩),v)) (ht:(tK E.P t).map (·.2)=some n) (hk:(v.cells.toList.length==n&&v.cells.toList.all Value.oneCell'&&Nat.ble (o+n) cs.length)=true) (hcs:cs.take o++v.cells.toList++cs.drop (o+n)=cs') (k:RJ E ops Q rest D L (A0::A1::A2::A3::A4::A5::A6::A7::A8::A9::cz b tt cs'::C)):RJ E ops Q (⟨none,.store t x y,ty,ps,af,g⟩::rest) D L (A0::A1::A2::A3::A4::A5::A6::A7::A8::A9::cz b tt cs::C):=QK 10 h ht rfl hk hcs rfl k
theorem Ug (cs':List Value) {t n b o tt:Nat} {x y:Operand} {v:Value} {cs:List Value} {A0 A1 A2 A3 A4 A5 A6 A7 A8 A9 A10:aA} (h:sF ops L g x y=some (.pointer (some ⟨b,o,none⟩),v)) (ht:(tK E.P t).map (·.2)=some n) (hk:(v.cells.toList.length==n&&v.cells.toList.all Value.oneCell'&&Nat.ble (o+n) cs.length)=true) (hcs:cs.take o++v.cells.toList++cs.drop (o+n)=cs') (k:RJ E ops Q rest D L (A0::A1::A2::A3::A4::A5::A6::A7::A8::A9::A10::cz b tt cs'::C)):RJ E ops Q (⟨none,.store t x y,ty,ps,af,g⟩::rest) D L (A0::A1::A2::A3::A4::A5::A6::A7::A8::A9::A10::cz b tt cs::C):=QK 11 h ht rfl hk hcs rfl k
end
section
variable {E:fh} {y:Code} {Q:dj} {D:List Deferred} {L:List (Nat×Value)} {C:List aA}
theorem WS {id:Nat} {ops:Array Oper} (h: ∀ K:Act→World→Prop,(∀ D L C,WJ E y Q D L C→KJ E K D L C)→RJ E ops (Exit.then K Q) ops.toList D L C):WJ E (.seq (.region id ops false) y) Q D L C:=aq fun K hK=>aw (h K hK)
theorem RK {ops:Array Oper} {K:Act→World→Prop} {Q':dj} (hK: ∀ D L C,WJ E y Q D L C→KJ E K D L C) (k:WJ E y Q D L C):RJ E ops (Exit.then K Q') [] D L C:=aK (bu (hK _ _ _ k))
theorem KK {K:Act→World→Prop} {Q':dj} (hK: ∀ D L C,WJ E y Q D L C→KJ E K D L C) (k:WJ E y Q D L C):KJ E (Exit.then K Q' .normal) D L C:=bu (hK _ _ _ k)
theorem WK {K:Act→World→Prop} {Q':dj} (hK: ∀ D L C,WJ E y Q D L C→KJ E K D L C) (k:WJ E y Q D L C):WJ E .skip (Exit.then K Q') D L C:=cj (bu (hK _ _ _ k))
end
theorem DT {p:Prop} [Decidable p] (h:decide p=true):p:=of_decide_eq_true h
theorem DF {p:Prop} [Decidable p] (h:decide p=false): ¬ p:=of_decide_eq_false h
theorem XT {p:Prop} [Decidable p] (h:(!decide p)=true): ¬ p:=by simpa using h
theorem XF {p:Prop} [Decidable p] (h:(!decide p)=false):p:=by simpa using h
/-- what a function hands back: one result, two, three, that lie in slots -/
theorem Q1 {E:fh} {fn:Func} {K:Act→World→Prop} {L:dq} {C:List aA} {t:Nat} {u v:Value} (hQ: ∀ D L C,LJ E fn (Ad E.w0 v) D L C→KJ E K D L C) (hS:E.S=tQ) (hr:fn.results.toList=[.tmp t]) (hl:L.lookup t=some u) (e:u=v):KJ E K [] L C:=
 hQ _ _ _ (j0 (vs:=[u]) (by rw [hr]; exact ⟨hl,trivial⟩) fun w hs=>Co e (by rw [hS] at hs; exact hs))
theorem Q2 {E:fh} {fn:Func} {K:Act→World→Prop} {L:dq} {C:List aA} {t s:Nat} {u x v:Value} (hQ: ∀ D L C,LJ E fn (Ad E.w0 v) D L C→KJ E K D L C) (hS:E.S=tQ) (hr:fn.results.toList=[.tmp t,.tmp s]) (hl:L.lookup t=some u) (hm:L.lookup s=some x) (e:vT [u,x]=v):KJ E K [] L C:=
 hQ _ _ _ (j0 (vs:=[u,x]) (by rw [hr]; exact ⟨hl,hm,trivial⟩) fun w hs=>Co e (by rw [hS] at hs; exact hs))
theorem Q3 {E:fh} {fn:Func} {K:Act→World→Prop} {L:dq} {C:List aA} {t s r:Nat} {u x y v:Value} (hQ: ∀ D L C,LJ E fn (Ad E.w0 v) D L C→KJ E K D L C) (hS:E.S=tQ) (hr:fn.results.toList=[.tmp t,.tmp s,.tmp r]) (hl:L.lookup t=some u) (hm:L.lookup s=some x) (hn:L.lookup r=some y) (e:vT [u,x,y]=v):KJ E K [] L C:=
 hQ _ _ _ (j0 (vs:=[u,x,y]) (by rw [hr]; exact ⟨hl,hm,hn,trivial⟩) fun w hs=>Co e (by rw [hS] at hs; exact hs))
theorem N1 {E:fh} {ops:Array Oper} {D:g_} {C' C1:List aA} {F:dq→List aA→Prop} {tb rem:List Nat} {n:Nat} {L:dq} {C:List aA} (i:Nat)
 (h:Bs E ops D C' C1 F tb n (rem.filter (· != i)) i L C) (hm:rem.filter (fun i=>rem.all fun j=> !iR (qA ops) j i)=[i]:=by kernel_rfl):TN E ops D C' C1 F tb (n+1) rem L C:=fp [i] hm (cK h gV)
theorem NO {E:fh} {ops:Array Oper} {D:g_} {C' C1:List aA} {F:dq→List aA→Prop} {tb rem:List Nat} {n i:Nat} {L:dq} {C:List aA} {o:Oper} (ho:ops[i]? =some o) (ht:tb.contains i=false) (rem':List Nat)
 (h: ∀ K:Act→World→Prop,(∀ L' C'',(∀ w,St E.S E.w0 C'' w→St E.S E.w0 C' w)→TN E ops D C' C1 F tb n rem' L' C''→KJ E K D L' C'')→RJ E ops (NQ K) [o] D L C) (hr:rem=rem':=by kernel_rfl):Bs E ops D C' C1 F tb n rem i L C:=dT ho hr ht h
theorem RD {E:fh} {ops:Array Oper} {K:Act→World→Prop} {D:g_} {L:dq} {C C':List aA} {X:dq→List aA→Prop} (hT: ∀ L' C'',(∀ w,St E.S E.w0 C'' w→St E.S E.w0 C' w)→X L' C''→KJ E K D L' C'')
 (k:Nat) (h2:C.drop k=C') (h:X L C):RJ E ops (NQ K) [] D L C:=aK (hT _ _ (fun w hs=>h2▸hs.take (List.drop_sublist k C)) h)
theorem bD {L L':dq} (h:L'.map (fun p=>L.lookup p.1)=L'.map (fun p=>some p.2)):dp L L':=by
 induction L' with
 |nil=>exact dp.nil _
 |cons p t ih=>
  simp only [List.map_cons,List.cons.injEq] at h
  exact dp.cons h.1 (ih h.2)
theorem Qb {C:List aA} {A A' B B' D D':aA} (i j k:Nat) (h1:C[i]? =some A') (e1:A'.holds=A.holds) (h2:C[j]? =some B') (e2:B'.holds=B.holds) (h3:C[k]? =some D') (e3:D'.holds=D.holds):kM C [A,B,D]:=dM i h1 e1 (dM j h2 e2 (dM k h3 e3 aL))
theorem bR {E:fh} {c:Operand} {x y:Code} {b:Bool} {Q:dj} {D:List Deferred} {L:List (Nat×Value)} {C:List aA} (hc:ev L c=some (.bool b)) (h2:b=false→WJ E y Q D L C) (h1:b=true→WJ E x Q D L C):WJ E (.cond c x y) Q D L C:=ck hc h1 h2
theorem cG {E:fh} {ops:Array Oper} {Q:dj} {rest:List Oper} {D:List Deferred} {L:List (Nat×Value)} {C:List aA} {t:Nat} {b:Bool} (h:L.lookup t=some (.bool b)) (h2:b=false→RJ E ops Q rest D ((t,.bool false)::L) C) (h1:b=true→RJ E ops Q rest D ((t,.bool true)::L) C):RJ E ops Q rest D L C:=bT h h1 h2
theorem hP {E:fh} {ops:Array Oper} {Q:dj} {rest:List Oper} {D:List Deferred} {L:List (Nat×Value)} {C:List aA} {t:Nat} {b:Bool} {os:List Oper} (h:L.lookup t=some (.bool b)) (h2:b=false→DJ E ops D C (fun L2=>RJ E ops Q rest D L2 C) os ((t,.bool false)::L)) (h1:b=true→DJ E ops D C (fun L2=>RJ E ops Q rest D L2 C) os ((t,.bool true)::L)):DJ E ops D C (fun L2=>RJ E ops Q rest D L2 C) os L:=gP h h1 h2
theorem cP {L:List (Nat×Value)}: ∀ (k:Nat) {L2:List (Nat×Value)} (q:dp L (L2.drop k)) (h:(L2.take k).map (fun p=>L.lookup p.1)=(L2.take k).map (fun p=>some p.2):=by rfl),dp L L2
 |0,_,q,_=>q
 |_+1,[],_,_=>dp.nil _
 |k+1,p::L2,q,h=>by
  obtain ⟨A,B⟩:=List.cons.inj (show L.lookup p.1::(L2.take k).map (fun p=>L.lookup p.1)=some p.2::(L2.take k).map (fun p=>some p.2) from h)
  exact dp.cons (t:=p.1) (v:=p.2) A (cP k q B)
theorem oX {E:fh} {ops:Array Oper} {Q:dj} {rest:List Oper} {D:List Deferred} {L:List (Nat×Value)} {C:List aA} {d:Nat} {ty:TypeId} {ps:String} {af:Array Edge} {g:Option (Nat×Bool)} {op:Op} (k:RJ E ops Q rest D ((d,undef)::L) C) (h:(Dc ops L g&&Nat.blt d E.n)=true:=by rfl):RJ E ops Q (⟨some d,op,ty,ps,af,g⟩::rest) D L C:=rS (OX h) k
theorem dX {E:fh} {ops:Array Oper} {F:List (Nat×Value)→Prop} {rest:List Oper} {D:List Deferred} {L:List (Nat×Value)} {C:List aA} {d:Nat} {ty:TypeId} {ps:String} {af:Array Edge} {g:Option (Nat×Bool)} {op:Op} (k:DJ E ops D C F rest ((d,undef)::L)) (h:(Dc ops L g&&Nat.blt d E.n)=true:=by rfl):DJ E ops D C F (⟨some d,op,ty,ps,af,g⟩::rest) L:=dS (OX h) k
end
section
open Go.RowKit
section
variable {E:fh} {ops:Array Oper} {Q:dj} {rest:List Oper} {D:List Deferred} {L:List (Nat×Value)} {C:List aA}
variable {d:Nat} {ty:TypeId} {ps:String} {af:Array Edge} {g:Option (Nat×Bool)}
theorem Nw {P:Program} {t e sz:Nat} (h:tE P t=some (e,sz)) (w:World):P.underlying t=some (.slice e)∧(sizeOf e).run P w= .ok sz w:=by
 unfold tE at h
 split at h
 ·rename_i e' hu
  split at h
  ·rename_i i hi
   cases h
   exact ⟨hu,by simp [sizeOf,typeInfo,hi]⟩
  ·cases h
 ·cases h
theorem E5 {P:Program} {t e:Nat} (h:P.underlying t=some (.slice e)):P.underlying t=some (.slice (P.elem t)):=by
 rw [h]; simp [Program.elem,h]
theorem Mq {P:Program} {t e:Nat} (h:P.underlying t=some (.slice e)):P.elem t=e:=by simp [Program.elem,h]
/-- s[:k] -/
theorem V1 (k:Nat) {x hi:Operand} {t e sz n c:Nat} {A:OA} {j:Int} (h:bF E.n ops L d g x hi=some (.slice A n c,.int .i64 j)) (ht:tE E.P t=some (e,sz)) (hj:j=(k:Int)) (hk:k≤c):
 SE E ops ⟨some d,.slice t x none (some hi) none,ty,ps,af,g⟩ D L C (.slice A k c) d:=by
 obtain ⟨H,AA,J,K⟩:=tF h
 subst hj
 refine ⟨eL H sm fun a w B hs=>?_,U,AA⟩
 obtain ⟨hu,hz⟩:=Nw ht w
 have hr:=run_slice_h (P:=E.P) w t A n c (E5 hu) .i64 (k:Int) I I
 rw [Mq hu,hz] at hr
 have G:(if c=0 then A else A.map (·.add (0*sz)))=A:=by
  split
  ·rfl
  ·cases A with
   |none=>rfl
   |some ad=>simp [Addr.add]
 simp only [Result.andThen,Int.toNat_natCast,sliced,G,Nat.sub_zero] at hr
 have F:=run_sliceAt_slice (P:=E.P) w t (.slice A n c) none (some (.int .i64 (k:Int))) none (E5 hu)
 simp [execOp,B.ev J,B.ev K,F,hr]
/-- an element of a row whose place is known -/
theorem VW (k:Nat) {x ix:Operand} {A:OA} {ad:Addr} {n c sz e t:Nat} {j:Int} (h:bF E.n ops L d g x ix=some (.slice A n c,.int .i64 j)) (hA:A=some ad) (ht:tE E.P t=some (e,sz)) (hj:j=(k:Int)) (hk:k<n):
 SE E ops ⟨some d,.indexAddr t x ix,ty,ps,af,g⟩ D L C (.pointer (l8 A (k*sz))) d:=by
 obtain ⟨F,G,H,AA⟩:=tF h
 refine ⟨eL F sm fun a w B hs=>?_,U,G⟩
 subst hA hj
 simp [execOp,B.ev H,B.ev AA,l8,qO ht hk]
end
theorem Nc {w:World} {a:OA} {c e sz:Nat} {es:List (List Value)} (h:(own a c e sz es).holds w):es.length≤c:=by
 rcases h.2.2 with ⟨A,B⟩|⟨g,cap,cur,hv,_,_,C,_⟩
 ·omega
 ·injection hv with _ _ hc; omega
end
section
open Go.RowKit
/-- an array's length, its elements' type and their size -/
def aE (P:Program) (t:TypeId):Option (Nat×TypeId×Nat):=
 match P.underlying t with
 |some (.array n e)=>match P.info? e with
  |some i=>some (n,e,i.size)
  |none=>none
 |_=>none
theorem F7 {P:Program} {t n e sz:Nat} (h:aE P t=some (n,e,sz)) (w:World):P.underlying t=some (.array n e)∧(sizeOf e).run P w= .ok sz w:=by
 unfold aE at h
 split at h
 ·rename_i n' e' hu
  split at h
  ·rename_i i hi
   cases h
   exact ⟨hu,by simp [sizeOf,typeInfo,hi]⟩
  ·cases h
 ·cases h
theorem wE {P:Program} {t n e sz:Nat} (h:aE P t=some (n,e,sz)) (a:Addr) (w:World):
 (Instr.sliceAt t (.pointer (some a)) none none none).run P w= .ok (.slice (some a) n n) w:=by
 obtain ⟨hu,hz⟩:=F7 h w
 have A:a.add 0=a:=by simp [Addr.add]
 simp [Instr.sliceAt,underlying,hu,Instr.sureAddr,Instr.sliceBounds,hz,A]
theorem wH {P:Program} {t n e sz:Nat} (h:aE P t=some (n,e,sz)) (a:Addr) {k:Nat} (hk:k<n) (w:World):
 (Instr.indexAt t (.pointer (some a)) (.int .i64 (k:Int))).run P w= .ok (.pointer (some (a.add (k*sz)))) w:=by
 obtain ⟨hu,hz⟩:=F7 h w
 have A: ¬ n≤k:=by omega
 simp [Instr.indexAt,underlying,hu,Instr.sureAddr,asIntOf,hz,A]
 try exact fun h=>absurd h A
 try omega
section
variable {E:fh} {ops:Array Oper} {Q:dj} {rest:List Oper} {D:List Deferred} {L:List (Nat×Value)} {C:List aA}
variable {dst:Option Nat} {ty:TypeId} {ps:String} {af:Array Edge} {g:Option (Nat×Bool)}
theorem Dr {x:Operand} {a:Addr} {t n e sz:Nat} (hg:j_ ops L g=true) (hx:ev L x=some (.pointer (some a))) (ht:aE E.P t=some (n,e,sz)):
 SD E ops ⟨dst,.slice t x none none none,ty,ps,af,g⟩ D L C (.slice (some a) n n):=
 eL hg sm fun b w A hs=>by
  simp [execOp,A.ev hx,wE ht]
theorem DY {x ix:Operand} {a:Addr} {t n e sz k:Nat} {j:Int} (hg:j_ ops L g=true) (hx:ev L x=some (.pointer (some a))) (hi:ev L ix=some (.int .i64 j)) (ht:aE E.P t=some (n,e,sz)) (hj:j=(k:Int)) (hk:k<n):
 SD E ops ⟨dst,.indexAddr t x ix,ty,ps,af,g⟩ D L C (.pointer (l8 (some a) (k*sz))):=
 eL hg sm fun b w A hs=>by
  subst hj
  simp [execOp,A.ev hx,A.ev hi,l8,wH ht a hk]
end
end
section
open Go.RowKit
/-- a table of facts on the program's types -/
structure Dk where
 tk:List (Nat×Bool×Nat)
 fo:List (Nat×List (Option Nat))
 sl:List Nat
def Q8 {α:Type}:List (Nat×α)→Nat→Option α
 |[],_=>none
 |(k,v)::l,t=>match Nat.beq k t with
  |true=>some v
  |false=>Q8 l t
theorem AE {α:Type}: ∀ {l:List (Nat×α)} {t:Nat} {v:α},Q8 l t=some v→(t,v)∈l
 |[],t,v,h=>by simp [Q8] at h
 |(k,u)::l,t,v,h=>by
  unfold Q8 at h
  split at h
  ·rename_i hb
   cases h
   rw [Nat.eq_of_beq_eq_true hb]; exact bY
  ·exact dh _ (AE h)
def LR:List Nat→Nat→Bool
 |[],_=>false
 |k::l,t=>match Nat.beq k t with
  |true=>true
  |false=>LR l t
theorem BG: ∀ {l:List Nat} {t:Nat},LR l t=true→t∈l
 |[],t,h=>by simp [LR] at h
 |k::l,t,h=>by
  unfold LR at h
  split at h
  ·rename_i hb
   rw [Nat.eq_of_beq_eq_true hb]; exact bY
  ·exact dh _ (BG h)
def Dk.Je (T:Dk) (t:Nat):Option (Bool×Nat):=Q8 T.tk t
def Dk.foF (T:Dk) (s f:Nat):Option Nat:=match Q8 T.fo s with
 |some l=>match l[f]? with
  |some (some k)=>some k
  |_=>none
 |none=>none
structure lJ (P:Program) (T:Dk):Prop where
 tk: ∀ p∈T.tk,tK P p.1=some p.2
 fo: ∀ p∈T.fo,∀ f k,p.2[f]? =some (some k)→u_ P p.1 f=some k
 sl: ∀ t∈T.sl,∃ e,P.underlying t=some (.slice e)
theorem lJ.Je {P:Program} {T:Dk} (h:lJ P T) {t:Nat} {r:Bool×Nat} (e:T.Je t=some r):tK P t=some r:=h.tk _ (AE e)
theorem lJ.foF {P:Program} {T:Dk} (h:lJ P T) {s f k:Nat} (e:T.foF s f=some k):u_ P s f=some k:=by
 unfold Dk.foF at e
 split at e
 ·rename_i l hl
  split at e
  ·rename_i k' hk
   cases e
   exact h.fo _ (AE hl) f k hk
  ·cases e
 ·cases e
def TY (P:Program) (T:Dk):Bool:=(T.tk.all fun p=>decide (tK P p.1=some p.2))&&(T.fo.all fun p=>(List.range p.2.length).all fun f=>match p.2[f]? with
 |some (some k)=>decide (u_ P p.1 f=some k)
 |_=>true)&&T.sl.all fun t=>match P.underlying t with
 |some (.slice _)=>true
 |_=>false
theorem Qj {P:Program} {T:Dk} (h:TY P T=true):lJ P T:=by
 unfold TY at h
 rw [di,di] at h
 obtain ⟨⟨B,C⟩,D⟩:=h
 refine ⟨fun p hp=>by simpa using df.1 B p hp,fun p hp f k hk=>?_,fun t ht=>?_⟩
 ·have A:=df.1 (df.1 C p hp) f (List.mem_range.2 (bf.1 hk).1)
  rw [hk] at A
  simpa using A
 ·have A:=df.1 D t ht
  split at A
  ·rename_i e he; exact ⟨e,he⟩
  ·cases A
end
section
theorem uL:tK Tryz.prog 3=some (false,1):=by kernel_rfl
theorem T2:tK Tryz.prog 5=some (false,1):=by kernel_rfl
theorem U8:tK Tryz.prog 22=some (false,1):=by kernel_rfl
theorem Vf:tK Tryz.prog 25=some (false,1):=by kernel_rfl
theorem Vy:tK Tryz.prog 26=some (false,1):=by kernel_rfl
theorem U9:tK Tryz.prog 28=some (true,7):=by kernel_rfl
theorem Ur:tK Tryz.prog 29=some (false,1):=by kernel_rfl
theorem Vc:tK Tryz.prog 30=some (false,1):=by kernel_rfl
theorem Vm:tK Tryz.prog 32=some (true,11):=by kernel_rfl
theorem Vl:tK Tryz.prog 36=some (true,15):=by kernel_rfl
theorem yk:tK Tryz.prog 38=some (true,2):=by kernel_rfl
theorem Uu:tK Tryz.prog 39=some (false,1):=by kernel_rfl
theorem Un:tK Tryz.prog 41=some (true,3):=by kernel_rfl
theorem U_:tK Tryz.prog 43=some (true,7):=by kernel_rfl
theorem UL:tK Tryz.prog 51=some (false,1):=by kernel_rfl
theorem VF:tK Tryz.prog 75=some (false,1):=by kernel_rfl
theorem Vg:tK Tryz.prog 86=some (true,4):=by kernel_rfl
theorem Up:tK Tryz.prog 97=some (true,15):=by kernel_rfl
theorem RP:tK Tryz.prog 102=some (true,5):=by kernel_rfl
theorem SB:tK Tryz.prog 105=some (false,1):=by kernel_rfl
theorem Rd:tK Tryz.prog 113=some (true,2):=by kernel_rfl
theorem Sa:tK Tryz.prog 121=some (false,1):=by kernel_rfl
theorem RV:tK Tryz.prog 122=some (false,1):=by kernel_rfl
theorem Tk:tK Tryz.prog 123=some (false,1):=by kernel_rfl
theorem S6:tK Tryz.prog 128=some (true,9):=by kernel_rfl
theorem SH:tK Tryz.prog 130=some (true,3):=by kernel_rfl
theorem RT:tK Tryz.prog 131=some (false,1):=by kernel_rfl
theorem Rg:tK Tryz.prog 133=some (true,2):=by kernel_rfl
theorem JF:tK Tryz.prog 135=some (true,3):=by kernel_rfl
theorem Rn:tK Tryz.prog 179=some (true,2):=by kernel_rfl
theorem RI:tK Tryz.prog 180=some (true,8):=by kernel_rfl
theorem TS:tK Tryz.prog 183=some (true,4):=by kernel_rfl
theorem Sc:tK Tryz.prog 199=some (true,1):=by kernel_rfl
theorem Sr:tK Tryz.prog 200=some (true,4):=by kernel_rfl
theorem TU:tK Tryz.prog 251=some (true,1):=by kernel_rfl
theorem Tw:tK Tryz.prog 274=some (false,1):=by kernel_rfl
theorem TA:tK Tryz.prog 279=some (false,1):=by kernel_rfl
theorem Rb:tK Tryz.prog 281=some (true,2):=by kernel_rfl
theorem Ss:tK Tryz.prog 287=some (true,3):=by kernel_rfl
theorem FT:(tK Tryz.prog 3).map (·.2)=some 1:=by rw [uL]; rfl
theorem UR:(tK Tryz.prog 22).map (·.2)=some 1:=by rw [U8]; rfl
theorem Uj:(tK Tryz.prog 25).map (·.2)=some 1:=by rw [Vf]; rfl
theorem Uk:(tK Tryz.prog 26).map (·.2)=some 1:=by rw [Vy]; rfl
theorem UT:(tK Tryz.prog 28).map (·.2)=some 7:=by rw [U9]; rfl
theorem G7:(tK Tryz.prog 29).map (·.2)=some 1:=by rw [Ur]; rfl
theorem Uf:(tK Tryz.prog 30).map (·.2)=some 1:=by rw [Vc]; rfl
theorem jE:(tK Tryz.prog 32).map (·.2)=some 11:=by rw [Vm]; rfl
theorem UX:(tK Tryz.prog 36).map (·.2)=some 15:=by rw [Vl]; rfl
theorem cT:(tK Tryz.prog 38).map (·.2)=some 2:=by rw [yk]; rfl
theorem Sx:(tK Tryz.prog 39).map (·.2)=some 1:=by rw [Uu]; rfl
theorem U5:(tK Tryz.prog 41).map (·.2)=some 3:=by rw [Un]; rfl
theorem Ef:(tK Tryz.prog 43).map (·.2)=some 7:=by rw [U_]; rfl
theorem Va:(tK Tryz.prog 51).map (·.2)=some 1:=by rw [UL]; rfl
theorem UY:(tK Tryz.prog 75).map (·.2)=some 1:=by rw [VF]; rfl
theorem RL:(tK Tryz.prog 86).map (·.2)=some 4:=by rw [Vg]; rfl
theorem Er:(tK Tryz.prog 97).map (·.2)=some 15:=by rw [Up]; rfl
theorem Jj:(tK Tryz.prog 102).map (·.2)=some 5:=by rw [RP]; rfl
theorem RF:(tK Tryz.prog 105).map (·.2)=some 1:=by rw [SB]; rfl
theorem pj:(tK Tryz.prog 113).map (·.2)=some 2:=by rw [Rd]; rfl
theorem Rp:(tK Tryz.prog 121).map (·.2)=some 1:=by rw [Sa]; rfl
theorem S8:(tK Tryz.prog 122).map (·.2)=some 1:=by rw [RV]; rfl
theorem FJ:(tK Tryz.prog 123).map (·.2)=some 1:=by rw [Tk]; rfl
theorem IG:(tK Tryz.prog 128).map (·.2)=some 9:=by rw [S6]; rfl
theorem uq:(tK Tryz.prog 130).map (·.2)=some 3:=by rw [SH]; rfl
theorem Rv:(tK Tryz.prog 131).map (·.2)=some 1:=by rw [RT]; rfl
theorem zd:(tK Tryz.prog 133).map (·.2)=some 2:=by rw [Rg]; rfl
theorem OK:(tK Tryz.prog 135).map (·.2)=some 3:=by rw [JF]; rfl
theorem I5:(tK Tryz.prog 179).map (·.2)=some 2:=by rw [Rn]; rfl
theorem Ti:(tK Tryz.prog 180).map (·.2)=some 8:=by rw [RI]; rfl
theorem mO:(tK Tryz.prog 183).map (·.2)=some 4:=by rw [TS]; rfl
theorem FP:(tK Tryz.prog 199).map (·.2)=some 1:=by rw [Sc]; rfl
theorem Ro:(tK Tryz.prog 200).map (·.2)=some 4:=by rw [Sr]; rfl
theorem Kp:(tK Tryz.prog 251).map (·.2)=some 1:=by rw [TU]; rfl
theorem yZ:(tK Tryz.prog 274).map (·.2)=some 1:=by rw [Tw]; rfl
theorem JG:(tK Tryz.prog 279).map (·.2)=some 1:=by rw [TA]; rfl
theorem sZ:(tK Tryz.prog 281).map (·.2)=some 2:=by rw [Rb]; rfl
theorem Re:(tK Tryz.prog 287).map (·.2)=some 3:=by rw [Ss]; rfl
theorem zm:aE Tryz.prog 207=some (3,206,2):=by kernel_rfl
theorem kY (l:List ai): ∀ v∈(l.map ai.cells).flatten,v.oneCell'=true:=mP (fun _=>rfl) l
theorem uA (l:List aF): ∀ v∈(l.map aF.cells).flatten,v.oneCell'=true:=mP (fun _=>rfl) l
theorem tJ (l:List au): ∀ v∈(l.map au.cells).flatten,v.oneCell'=true:=mP (fun _=>rfl) l
theorem wx (l:List ct): ∀ v∈(l.map ct.cells).flatten,v.oneCell'=true:=mP (fun _=>rfl) l
theorem wF (l:List bK): ∀ v∈(l.map bK.cells).flatten,v.oneCell'=true:=mP (fun _=>rfl) l
theorem UB:tA Tryz.prog 22=some (128,9,72,(Value.agg [(vI 0),(vI 0),(vI 0),(vI 0),(vI 0),(vI 0),(vI 0),(Value.int .u8 0),(vI 0)].toArray)):=by kernel_rfl
theorem VB:tA Tryz.prog 25=some (133,2,32,(Value.agg [(vI 0),(vS none 0 0)].toArray)):=by kernel_rfl
theorem UF:tA Tryz.prog 26=some (137,4,32,(Value.agg [(vI 0),(vI 0),(vI 0),(vI 0)].toArray)):=by kernel_rfl
theorem te:tA Tryz.prog 29=some (3,1,8,(vI 0)):=by kernel_rfl
theorem Vu:tA Tryz.prog 30=some (75,1,24,(vS none 0 0)):=by kernel_rfl
theorem UW:tA Tryz.prog 39=some (113,2,16,(Value.agg [(vI 0),(vI 0)].toArray)):=by kernel_rfl
theorem Ux:tA Tryz.prog 51=some (29,1,24,(vS none 0 0)):=by kernel_rfl
theorem Ue:tA Tryz.prog 75=some (43,7,64,(Value.agg [(vB false),(vB false),(vI 0),(vI 0),(vI 0),(vI 0),(vS none 0 0)].toArray)):=by kernel_rfl
theorem SQ:tA Tryz.prog 105=some (4,1,1,(vB false)):=by kernel_rfl
theorem EP:tA Tryz.prog 121=some (38,2,16,(Value.agg [(vI 0),(vI 0)].toArray)):=by kernel_rfl
theorem On:tA Tryz.prog 122=some (121,1,24,(vS none 0 0)):=by kernel_rfl
theorem Si:tA Tryz.prog 131=some (130,3,24,(Value.agg [(vI 0),(vI 0),(vI 0)].toArray)):=by kernel_rfl
theorem OR:tA Tryz.prog 236=some (240,3,72,(Value.agg [(vS none 0 0),(vS none 0 0),(vS none 0 0)].toArray)):=by kernel_rfl
theorem OU:tA Tryz.prog 273=some (123,1,8,(Value.map none)):=by kernel_rfl
theorem CZ:tA Tryz.prog 274=some (279,1,8,(Value.map none)):=by kernel_rfl
theorem Vx:tB Tryz.prog 24=some ([(vS none 0 0)],[(0,1)]):=by kernel_rfl
theorem Uo:tB Tryz.prog 28=some ([(vS none 0 0),(vI 0),(vS none 0 0),(vS none 0 0),(vI 0),(vI 0),(vI 0)],[(0,1),(1,1),(2,1),(3,1),(4,1),(5,1),(6,1)]):=by kernel_rfl
theorem Gg:tB Tryz.prog 32=some ([(vS none 0 0),(vI 0),(vS none 0 0),(vS none 0 0),(vI 0),(vI 0),(vI 0),(vS none 0 0),(vS none 0 0),(vI 0),(vS none 0 0)],[(0,7),(7,1),(8,1),(9,1),(10,1)]):=by kernel_rfl
theorem U2:tB Tryz.prog 36=some ([(vS none 0 0),(vI 0),(vS none 0 0),(vS none 0 0),(vI 0),(vI 0),(vI 0),(vS none 0 0),(vS none 0 0),(vI 0),(vS none 0 0),(vS none 0 0),(vS none 0 0),(vI 0),(vI 0)],[(0,11),(11,1),(12,1),(13,1),(14,1)]):=by kernel_rfl
theorem gM:tB Tryz.prog 38=some ([(vI 0),(vI 0)],[(0,1),(1,1)]):=by kernel_rfl
theorem Ve:tB Tryz.prog 41=some ([(vI 0),(vI 0),(vS none 0 0)],[(0,1),(1,1),(2,1)]):=by kernel_rfl
theorem SY:tB Tryz.prog 43=some ([(vB false),(vB false),(vI 0),(vI 0),(vI 0),(vI 0),(vS none 0 0)],[(0,1),(1,1),(2,2),(4,3)]):=by kernel_rfl
theorem MP:tB Tryz.prog 86=some ([(Value.int .u8 0),(vI 0),(vI 0),(vI 0)],[(0,1),(1,1),(2,1),(3,1)]):=by kernel_rfl
theorem UI:tB Tryz.prog 97=some ([(vS none 0 0),(vI 0),(vS none 0 0),(vS none 0 0),(vI 0),(vI 0),(vI 0),(vS none 0 0),(vS none 0 0),(vI 0),(vS none 0 0),(vS none 0 0),(vS none 0 0),(vI 0),(vI 0)],[(0,15)]):=by kernel_rfl
theorem Jv:tB Tryz.prog 102=some ([(vI 0),(vI 0),(vI 0),(vI 0),(vI 0)],[(0,1),(1,1),(2,1),(3,1),(4,1)]):=by kernel_rfl
theorem Bi:tB Tryz.prog 113=some ([(vI 0),(vI 0)],[(0,1),(1,1)]):=by kernel_rfl
theorem Sv:tB Tryz.prog 125=some ([(vS none 0 0),(vI 0),(vS none 0 0),(vS none 0 0),(vI 0),(vI 0),(vI 0),(vS none 0 0),(vS none 0 0),(vI 0),(vS none 0 0),(vS none 0 0),(Value.map none)],[(0,11),(11,1),(12,1)]):=by kernel_rfl
theorem SP:tB Tryz.prog 128=some ([(vI 0),(vI 0),(vI 0),(vI 0),(vI 0),(vI 0),(vI 0),(Value.int .u8 0),(vI 0)],[(0,1),(1,2),(3,2),(5,2),(7,1),(8,1)]):=by kernel_rfl
theorem Oj:tB Tryz.prog 130=some ([(vI 0),(vI 0),(vI 0)],[(0,1),(1,2)]):=by kernel_rfl
theorem Sk:tB Tryz.prog 133=some ([(vI 0),(vS none 0 0)],[(0,1),(1,1)]):=by kernel_rfl
theorem Ld:tB Tryz.prog 135=some ([(vI 0),(vI 0),(vI 0)],[(0,1),(1,2)]):=by kernel_rfl
theorem H4:tB Tryz.prog 137=some ([(vI 0),(vI 0),(vI 0),(vI 0)],[(0,3),(3,1)]):=by kernel_rfl
theorem I_:tB Tryz.prog 179=some ([Value.nilFunc,Value.nilFunc],[(0,1),(1,1)]):=by kernel_rfl
theorem Te:tB Tryz.prog 180=some ([Value.nilFunc,Value.nilFunc,Value.nilFunc,Value.nilFunc,Value.nilFunc,Value.nilFunc,Value.nilFunc,Value.nilFunc],[(0,2),(2,2),(4,2),(6,2)]):=by kernel_rfl
theorem Fx:tB Tryz.prog 183=some ([(vI 0),(vI 0),(vB false),(vB false)],[(0,2),(2,1),(3,1)]):=by kernel_rfl
theorem FD:tB Tryz.prog 199=some ([Value.nilFunc],[(0,1)]):=by kernel_rfl
theorem S7:tB Tryz.prog 200=some ([Value.nilFunc,Value.nilFunc,Value.nilFunc,Value.nilFunc],[(0,1),(1,1),(2,1),(3,1)]):=by kernel_rfl
theorem Rf:tB Tryz.prog 240=some ([(vS none 0 0),(vS none 0 0),(vS none 0 0)],[(0,1),(1,1),(2,1)]):=by kernel_rfl
theorem Tm:tB Tryz.prog 251=some ([(vS none 0 0)],[(0,1)]):=by kernel_rfl
theorem Ow:tB Tryz.prog 276=some ([(vS none 0 0),(vI 0),(vS none 0 0),(vS none 0 0),(vI 0),(vI 0),(vI 0),(vI 0),(vI 0),(vS none 0 0),(vS none 0 0),(vS none 0 0),(vS none 0 0),(vS none 0 0)],[(0,7),(7,3),(10,1),(11,1),(12,1),(13,1)]):=by kernel_rfl
theorem Cu:tB Tryz.prog 281=some ([(vI 0),(vI 0)],[(0,1),(1,1)]):=by kernel_rfl
theorem wG:tE Tryz.prog 22=some (128,9):=by kernel_rfl
theorem yf:tE Tryz.prog 25=some (133,2):=by kernel_rfl
theorem uE:tE Tryz.prog 26=some (137,4):=by kernel_rfl
theorem dy:tE Tryz.prog 29=some (3,1):=by kernel_rfl
theorem j8:tE Tryz.prog 30=some (75,1):=by kernel_rfl
theorem C5:tE Tryz.prog 33=some (86,4):=by kernel_rfl
theorem D_:tE Tryz.prog 34=some (102,5):=by kernel_rfl
theorem wD:tE Tryz.prog 39=some (113,2):=by kernel_rfl
theorem BA:tE Tryz.prog 51=some (29,1):=by kernel_rfl
theorem mM:tE Tryz.prog 75=some (43,7):=by kernel_rfl
theorem OV:tE Tryz.prog 105=some (4,1):=by kernel_rfl
theorem kX:tE Tryz.prog 121=some (38,2):=by kernel_rfl
theorem Fq:tE Tryz.prog 122=some (121,1):=by kernel_rfl
theorem nR:tE Tryz.prog 131=some (130,3):=by kernel_rfl
theorem H2:tE Tryz.prog 204=some (206,2):=by kernel_rfl
theorem FK:tE Tryz.prog 236=some (240,3):=by kernel_rfl
theorem OW:tE Tryz.prog 272=some (231,1):=by kernel_rfl
theorem yH:tE Tryz.prog 273=some (123,1):=by kernel_rfl
theorem oL:tE Tryz.prog 274=some (279,1):=by kernel_rfl
theorem IL:tE Tryz.prog 291=some (135,3):=by kernel_rfl
theorem Jx:(match Tryz.prog.underlying 38 with |some (.struct fs)=>(fs[0]?).map (fun fl=>tK Tryz.prog fl.type)|_=>none)=some (some (false,1)):=by kernel_rfl
theorem KY:(match Tryz.prog.underlying 38 with |some (.struct fs)=>(fs[1]?).map (fun fl=>tK Tryz.prog fl.type)|_=>none)=some (some (false,1)):=by kernel_rfl
theorem VH:tV Tryz.prog 3=some (vI 0):=by kernel_rfl
theorem VM:tV Tryz.prog 4=some (vB false):=by kernel_rfl
theorem U0:tV Tryz.prog 38=some (Value.agg [(vI 0),(vI 0)].toArray):=by kernel_rfl
theorem Iz:tX Tryz.prog 180=some (4,179):=by kernel_rfl
theorem Ff:tX Tryz.prog 200=some (4,199):=by kernel_rfl
theorem j7:tZ Tryz.prog 3=some [(vI 0)]:=by kernel_rfl
theorem VQ:tZ Tryz.prog 4=some [(vB false)]:=by kernel_rfl
theorem US:tZ Tryz.prog 28=some [(vS none 0 0),(vI 0),(vS none 0 0),(vS none 0 0),(vI 0),(vI 0),(vI 0)]:=by kernel_rfl
theorem RB:tZ Tryz.prog 29=some [(vS none 0 0)]:=by kernel_rfl
theorem pB:tZ Tryz.prog 32=some [(vS none 0 0),(vI 0),(vS none 0 0),(vS none 0 0),(vI 0),(vI 0),(vI 0),(vS none 0 0),(vS none 0 0),(vI 0),(vS none 0 0)]:=by kernel_rfl
theorem UD:tZ Tryz.prog 36=some [(vS none 0 0),(vI 0),(vS none 0 0),(vS none 0 0),(vI 0),(vI 0),(vI 0),(vS none 0 0),(vS none 0 0),(vI 0),(vS none 0 0),(vS none 0 0),(vS none 0 0),(vI 0),(vI 0)]:=by kernel_rfl
theorem dU:tZ Tryz.prog 38=some [(vI 0),(vI 0)]:=by kernel_rfl
theorem UQ:tZ Tryz.prog 41=some [(vI 0),(vI 0),(vS none 0 0)]:=by kernel_rfl
theorem BX:tZ Tryz.prog 43=some [(vB false),(vB false),(vI 0),(vI 0),(vI 0),(vI 0),(vS none 0 0)]:=by kernel_rfl
theorem UJ:tZ Tryz.prog 75=some [(vS none 0 0)]:=by kernel_rfl
theorem Ql:tZ Tryz.prog 86=some [(Value.int .u8 0),(vI 0),(vI 0),(vI 0)]:=by kernel_rfl
theorem DH:tZ Tryz.prog 97=some [(vS none 0 0),(vI 0),(vS none 0 0),(vS none 0 0),(vI 0),(vI 0),(vI 0),(vS none 0 0),(vS none 0 0),(vI 0),(vS none 0 0),(vS none 0 0),(vS none 0 0),(vI 0),(vI 0)]:=by kernel_rfl
theorem E7:tZ Tryz.prog 102=some [(vI 0),(vI 0),(vI 0),(vI 0),(vI 0)]:=by kernel_rfl
theorem zG:tZ Tryz.prog 113=some [(vI 0),(vI 0)]:=by kernel_rfl
theorem Oy:tZ Tryz.prog 121=some [(vS none 0 0)]:=by kernel_rfl
theorem Tz:tZ Tryz.prog 123=some [(Value.map none)]:=by kernel_rfl
theorem E2:tZ Tryz.prog 128=some [(vI 0),(vI 0),(vI 0),(vI 0),(vI 0),(vI 0),(vI 0),(Value.int .u8 0),(vI 0)]:=by kernel_rfl
theorem sV:tZ Tryz.prog 130=some [(vI 0),(vI 0),(vI 0)]:=by kernel_rfl
theorem xA:tZ Tryz.prog 133=some [(vI 0),(vS none 0 0)]:=by kernel_rfl
theorem Fs:tZ Tryz.prog 135=some [(vI 0),(vI 0),(vI 0)]:=by kernel_rfl
theorem Ra:tZ Tryz.prog 137=some [(vI 0),(vI 0),(vI 0),(vI 0)]:=by kernel_rfl
theorem Jl:tZ Tryz.prog 179=some [Value.nilFunc,Value.nilFunc]:=by kernel_rfl
theorem TF:tZ Tryz.prog 180=some [Value.nilFunc,Value.nilFunc,Value.nilFunc,Value.nilFunc,Value.nilFunc,Value.nilFunc,Value.nilFunc,Value.nilFunc]:=by kernel_rfl
theorem oq:tZ Tryz.prog 183=some [(vI 0),(vI 0),(vB false),(vB false)]:=by kernel_rfl
theorem FG:tZ Tryz.prog 199=some [Value.nilFunc]:=by kernel_rfl
theorem Tc:tZ Tryz.prog 200=some [Value.nilFunc,Value.nilFunc,Value.nilFunc,Value.nilFunc]:=by kernel_rfl
theorem TE:tZ Tryz.prog 231=some [Value.nilFunc]:=by kernel_rfl
theorem Sj:tZ Tryz.prog 240=some [(vS none 0 0),(vS none 0 0),(vS none 0 0)]:=by kernel_rfl
theorem JZ:tZ Tryz.prog 251=some [(vS none 0 0)]:=by kernel_rfl
theorem uI:tZ Tryz.prog 281=some [(vI 0),(vI 0)]:=by kernel_rfl
theorem O4:tZ Tryz.prog 287=some [(vS none 0 0),(vS none 0 0),(vS none 0 0)]:=by kernel_rfl
theorem qn:Tryz.prog.underlying 3=some (.int .i64):=by kernel_rfl
theorem T3:Tryz.prog.underlying 4=some .bool:=by kernel_rfl
theorem HU:Tryz.prog.underlying 5=some (.int .u8):=by kernel_rfl
theorem VZ:Tryz.prog.underlying 9=some .string:=by kernel_rfl
theorem Pd:Tryz.prog.underlying 22=some (.slice 128):=by kernel_rfl
theorem TL:Tryz.prog.underlying 25=some (.slice 133):=by kernel_rfl
theorem Nj:Tryz.prog.underlying 26=some (.slice 137):=by kernel_rfl
theorem SI:Tryz.prog.underlying 29=some (.slice 3):=by kernel_rfl
theorem Sl:Tryz.prog.underlying 30=some (.slice 75):=by kernel_rfl
theorem UH:Tryz.prog.underlying 33=some (.slice 86):=by kernel_rfl
theorem VE:Tryz.prog.underlying 34=some (.slice 102):=by kernel_rfl
theorem Rh:Tryz.prog.underlying 39=some (.slice 113):=by kernel_rfl
theorem Tt:Tryz.prog.underlying 75=some (.slice 43):=by kernel_rfl
theorem sX:Tryz.prog.underlying 123=some (.map 3 38):=by kernel_rfl
theorem Og:Tryz.prog.underlying 131=some (.slice 130):=by kernel_rfl
theorem CM:Tryz.prog.underlying 144=some (.map 3 4):=by kernel_rfl
theorem So:Tryz.prog.underlying 227=some (.int .u64):=by kernel_rfl
theorem SN:Tryz.prog.underlying 271=some (.int .u64):=by kernel_rfl
theorem pK:Tryz.prog.underlying 279=some (.map 281 3):=by kernel_rfl
theorem Ov:fL Tryz.prog 113=some [(3,0),(3,1)]:=by kernel_rfl
theorem Qf (d:Nat) (s z:aF) (w:World):(Op.equalIn (d+2) 113 (.agg s.cells.toArray) (.agg z.cells.toArray)).run Tryz.prog w= .ok (decide (s=z)) w:=by
 have hc:(decide (s.fH=z.fH)&&(decide (s.Read=z.Read)&&true))=decide (s=z):=by rw [Bool.eq_iff_iff]; simp [aF.ext_iff]
 rw [← hc]
 exact kj (d+1) Ov w (fW w (dK uL U w) (dK uL U w) (jn _ qn w) (fW w (dK uL U w) (dK uL U w) (jn _ qn w) (oB w)))
theorem PM (x y:Operand) (s z:aF):gY Tryz.prog .neq 113 x y (.agg s.cells.toArray) (.agg z.cells.toArray) (.bool (!decide (s=z))):=po x y (oh Ov) fun w=>Qf 9998 s z w
theorem P4:fL Tryz.prog 38=some [(3,0),(3,1)]:=by kernel_rfl
theorem yi (d:Nat) (s z:ai) (w:World):(Op.equalIn (d+2) 38 (.agg s.cells.toArray) (.agg z.cells.toArray)).run Tryz.prog w= .ok (decide (s=z)) w:=by
 have hc:(decide (s.Lo=z.Lo)&&(decide (s.Hi=z.Hi)&&true))=decide (s=z):=by rw [Bool.eq_iff_iff]; simp [ai.ext_iff]
 rw [← hc]
 exact kj (d+1) P4 w (fW w (dK uL U w) (dK uL U w) (jn _ qn w) (fW w (dK uL U w) (dK uL U w) (jn _ qn w) (oB w)))
theorem tU (x y:Operand) (s z:ai):gY Tryz.prog .eql 38 x y (.agg s.cells.toArray) (.agg z.cells.toArray) (.bool (decide (s=z))):=zW x y (oh P4) fun w=>yi 9998 s z w
theorem OQ (x y:Operand) (s z:ai):gY Tryz.prog .neq 38 x y (.agg s.cells.toArray) (.agg z.cells.toArray) (.bool (!decide (s=z))):=po x y (oh P4) fun w=>yi 9998 s z w
theorem O5:fL Tryz.prog 128=some [(3,0),(38,1),(38,3),(38,5),(5,7),(3,8)]:=by kernel_rfl
theorem Qv (d:Nat) (s z:au) (w:World):(Op.equalIn (d+3) 128 (.agg s.cells.toArray) (.agg z.cells.toArray)).run Tryz.prog w= .ok (decide (s=z)) w:=by
 have hc:(decide (s.Id=z.Id)&&(decide (s.jJ=z.jJ)&&(decide (s.kK=z.kK)&&(decide (s.dY=z.dY)&&(decide (s.iU=z.iU)&&(decide (s.yF=z.yF)&&true))))))=decide (s=z):=by rw [Bool.eq_iff_iff]; simp [au.ext_iff]
 rw [← hc]
 exact kj (d+2) O5 w (fW w (dK uL U w) (dK uL U w) (jn _ qn w) (fW w (jd (vs:=ai.cells s.jJ) yk U w) (jd (vs:=ai.cells z.jJ) yk U w) (yi (d+0) s.jJ z.jJ w) (fW w (jd (vs:=ai.cells s.kK) yk U w) (jd (vs:=ai.cells z.kK) yk U w) (yi (d+0) s.kK z.kK w) (fW w (jd (vs:=ai.cells s.dY) yk U w) (jd (vs:=ai.cells z.dY) yk U w) (yi (d+0) s.dY z.dY w) (fW w (dK T2 U w) (dK T2 U w) (jn _ HU w) (fW w (dK uL U w) (dK uL U w) (jn _ qn w) (oB w)))))))
theorem O7 (x y:Operand) (s z:au):gY Tryz.prog .neq 128 x y (.agg s.cells.toArray) (.agg z.cells.toArray) (.bool (!decide (s=z))):=po x y (oh O5) fun w=>Qv 9997 s z w
theorem Oo:fL Tryz.prog 130=some [(3,0),(38,1)]:=by kernel_rfl
theorem QG (d:Nat) (s z:ct) (w:World):(Op.equalIn (d+3) 130 (.agg s.cells.toArray) (.agg z.cells.toArray)).run Tryz.prog w= .ok (decide (s=z)) w:=by
 have hc:(decide (s.At=z.At)&&(decide (s.eg=z.eg)&&true))=decide (s=z):=by rw [Bool.eq_iff_iff]; simp [ct.ext_iff]
 rw [← hc]
 exact kj (d+2) Oo w (fW w (dK uL U w) (dK uL U w) (jn _ qn w) (fW w (jd (vs:=ai.cells s.eg) yk U w) (jd (vs:=ai.cells z.eg) yk U w) (yi (d+0) s.eg z.eg w) (oB w)))
theorem KN (x y:Operand) (s z:ct):gY Tryz.prog .neq 130 x y (.agg s.cells.toArray) (.agg z.cells.toArray) (.bool (!decide (s=z))):=po x y (oh Oo) fun w=>QG 9997 s z w
theorem RE:fL Tryz.prog 135=some [(3,0),(38,1)]:=by kernel_rfl
theorem PE (d:Nat) (s z:cH) (w:World):(Op.equalIn (d+3) 135 (.agg s.cells.toArray) (.agg z.cells.toArray)).run Tryz.prog w= .ok (decide (s=z)) w:=by
 have hc:(decide (s.bG=z.bG)&&(decide (s.lX=z.lX)&&true))=decide (s=z):=by rw [Bool.eq_iff_iff]; simp [cH.ext_iff]
 rw [← hc]
 exact kj (d+2) RE w (fW w (dK uL U w) (dK uL U w) (jn _ qn w) (fW w (jd (vs:=ai.cells s.lX) yk U w) (jd (vs:=ai.cells z.lX) yk U w) (yi (d+0) s.lX z.lX w) (oB w)))
theorem Oz:fL Tryz.prog 137=some [(135,0),(3,3)]:=by kernel_rfl
theorem Pk (d:Nat) (s z:bK) (w:World):(Op.equalIn (d+4) 137 (.agg s.cells.toArray) (.agg z.cells.toArray)).run Tryz.prog w= .ok (decide (s=z)) w:=by
 have hc:(decide (s.lp=z.lp)&&(decide (s.jG=z.jG)&&true))=decide (s=z):=by rw [Bool.eq_iff_iff]; simp [bK.ext_iff]
 rw [← hc]
 exact kj (d+3) Oz w (fW w (jd (vs:=cH.cells s.lp) JF U w) (jd (vs:=cH.cells z.lp) JF U w) (PE (d+0) s.lp z.lp w) (fW w (dK uL U w) (dK uL U w) (jn _ qn w) (oB w)))
theorem Qt (x y:Operand) (s z:bK):gY Tryz.prog .neq 137 x y (.agg s.cells.toArray) (.agg z.cells.toArray) (.bool (!decide (s=z))):=po x y (oh Oz) fun w=>Pk 9996 s z w
theorem Oe:fL Tryz.prog 281=some [(3,0),(3,1)]:=by kernel_rfl
theorem QH (d:Nat) (s z:aQ) (w:World):(Op.equalIn (d+2) 281 (.agg s.cells.toArray) (.agg z.cells.toArray)).run Tryz.prog w= .ok (decide (s=z)) w:=by
 have hc:(decide (s.right=z.right)&&(decide (s.fB=z.fB)&&true))=decide (s=z):=by rw [Bool.eq_iff_iff]; simp [aQ.ext_iff]
 rw [← hc]
 exact kj (d+1) Oe w (fW w (dK uL U w) (dK uL U w) (jn _ qn w) (fW w (dK uL U w) (dK uL U w) (jn _ qn w) (oB w)))
theorem TV:fL Tryz.prog 86=some [(5,0),(3,1),(3,2),(3,3)]:=by kernel_rfl
theorem Rc (d:Nat) (s z:aZ) (w:World):(Op.equalIn (d+2) 86 (.agg s.cells.toArray) (.agg z.cells.toArray)).run Tryz.prog w= .ok (decide (s=z)) w:=by
 have hc:(decide (s.Kind=z.Kind)&&(decide (s.ig=z.ig)&&(decide (s.mN=z.mN)&&(decide (s.To=z.To)&&true))))=decide (s=z):=by rw [Bool.eq_iff_iff]; simp [aZ.ext_iff]
 rw [← hc]
 exact kj (d+1) TV w (fW w (dK T2 U w) (dK T2 U w) (jn _ HU w) (fW w (dK uL U w) (dK uL U w) (jn _ qn w) (fW w (dK uL U w) (dK uL U w) (jn _ qn w) (fW w (dK uL U w) (dK uL U w) (jn _ qn w) (oB w)))))
theorem RH (x y:Operand) (s z:aZ):gY Tryz.prog .eql 86 x y (.agg s.cells.toArray) (.agg z.cells.toArray) (.bool (decide (s=z))):=zW x y (oh TV) fun w=>Rc 9998 s z w
theorem cg:Tryz.prog.follows .mixedOrders=true:=by kernel_rfl
def TT:Dk:=⟨[(1,false,1),(2,false,1),(3,false,1),(4,false,1),(5,false,1),(6,false,1),(7,true,4),(8,true,4),(12,false,1),(15,false,1),(16,false,1),(17,false,1),(18,true,1),(19,true,1),(21,false,1),(22,false,1),(23,true,1),(24,true,1),(25,false,1),(26,false,1),(27,true,7),(28,true,7),(29,false,1),(30,false,1),(31,true,11),(32,true,11),(33,false,1),(34,false,1),(35,true,15),(36,true,15),(37,true,2),(38,true,2),(39,false,1),(40,true,3),(41,true,3),(42,true,7),(43,true,7),(44,false,1),(45,false,1),(46,false,1),(48,false,1),(50,false,1),(51,false,1),(53,false,1),(55,false,1),(56,false,1),(57,false,1),(59,false,1),(61,false,1),(63,false,1),(65,false,1),(67,false,1),(69,false,1),(70,false,1),(71,false,1),(72,false,1),(73,false,1),(74,false,1),(75,false,1),(76,false,1),(78,false,1),(79,false,1),(80,false,1),(81,false,1),(82,false,1),(83,false,1),(84,false,1),(85,true,4),(86,true,4),(88,false,1),(89,false,1),(90,false,1),(91,false,1),(92,false,1),(93,false,1),(94,false,1),(95,false,1),(96,true,15),(97,true,15),(99,false,1),(100,false,1),(101,true,5),(102,true,5),(103,false,1),(104,false,1),(105,false,1),(106,false,1),(107,false,1),(108,false,1),(109,false,1),(110,false,1),(111,false,1),(112,true,2),(113,true,2),(114,false,1),(115,false,1),(116,false,1),(117,false,1),(119,false,1),(120,false,1),(121,false,1),(122,false,1),(123,false,1),(124,true,13),(125,true,13),(126,false,1),(127,true,9),(128,true,9),(129,true,3),(130,true,3),(131,false,1),(132,true,2),(133,true,2),(134,true,3),(135,true,3),(136,true,4),(137,true,4),(138,false,1),(139,false,1),(140,false,1),(141,false,1),(142,false,1),(143,false,1),(144,false,1),(145,false,1),(146,false,1),(147,false,1),(148,false,1),(149,false,1),(150,false,1),(151,false,1),(152,false,1),(153,false,1),(154,false,1),(155,false,1),(156,false,1),(157,false,1),(158,false,1),(159,false,1),(160,false,1),(161,false,1),(162,false,1),(163,false,1),(164,false,1),(166,false,1),(167,false,1),(168,false,1),(169,false,1),(170,false,1),(171,false,1),(172,false,1),(174,false,1),(175,false,1),(176,false,1),(177,false,1),(178,true,2),(179,true,2),(180,true,8),(181,false,1),(182,true,4),(183,true,4),(184,false,1),(185,false,1),(186,false,1),(187,false,1),(188,false,1),(189,false,1),(190,false,1),(191,true,4),(192,true,4),(193,false,1),(194,false,1),(195,false,1),(197,false,1),(198,false,1),(199,true,1),(200,true,4),(201,false,1),(202,false,1),(203,false,1),(204,false,1),(205,true,2),(206,true,2),(207,true,6),(208,false,1),(209,false,1),(210,false,1),(211,false,1),(212,false,1),(213,false,1),(214,false,1),(216,false,1),(217,false,1),(218,false,1),(219,false,1),(220,false,1),(221,false,1),(222,false,1),(223,false,1),(224,false,1),(225,false,1),(226,false,1),(227,false,1),(228,false,1),(230,false,1),(231,false,1),(232,false,1),(233,false,1),(234,false,1),(235,false,1),(236,false,1),(238,false,1),(239,true,3),(240,true,3),(241,false,1),(242,false,1),(243,false,1),(244,false,1),(245,false,1),(246,false,1),(247,false,1),(248,false,1),(249,false,1),(250,true,1),(251,true,1),(253,false,1),(254,false,1),(256,false,1),(257,false,1),(258,false,1),(259,false,1),(260,false,1),(262,false,1),(263,false,1),(264,false,1),(265,false,1),(267,false,1),(268,false,1),(269,false,1),(270,false,1),(271,false,1),(272,false,1),(273,false,1),(274,false,1),(275,true,14),(276,true,14),(277,false,1),(278,false,1),(279,false,1),(280,true,2),(281,true,2),(282,false,1),(283,false,1),(284,false,1),(285,false,1),(286,true,3),(287,true,3),(288,false,1),(289,false,1),(290,false,1),(291,false,1),(292,false,1),(293,false,1),(294,false,1),(295,false,1),(296,false,1),(297,false,1),(298,false,1),(299,false,1),(300,false,1),(301,false,1),(302,false,1),(303,false,1),(304,false,1),(305,false,1),(306,false,1),(307,false,1),(308,false,1),(309,false,1),(310,false,1),(311,false,1),(312,false,1),(313,false,1),(316,true,0),(317,true,0),(318,true,0),(319,false,1),(320,false,1),(321,false,1),(322,false,1),(323,false,1),(324,false,1),(325,false,1),(326,true,11),(327,true,11),(328,false,1),(330,false,1)],[(7,[some 0,some 1,some 2,some 3]),(8,[some 0,some 1,some 2,some 3]),(18,[some 0]),(19,[some 0]),(23,[some 0]),(24,[some 0]),(27,[some 0,some 1,some 2,some 3,some 4,some 5,some 6]),(28,[some 0,some 1,some 2,some 3,some 4,some 5,some 6]),(31,[some 0,some 7,some 8,some 9,some 10]),(32,[some 0,some 7,some 8,some 9,some 10]),(35,[some 0,some 11,some 12,some 13,some 14]),(36,[some 0,some 11,some 12,some 13,some 14]),(37,[some 0,some 1]),(38,[some 0,some 1]),(40,[some 0,some 1,some 2]),(41,[some 0,some 1,some 2]),(42,[some 0,some 1,some 2,some 4]),(43,[some 0,some 1,some 2,some 4]),(85,[some 0,some 1,some 2,some 3]),(86,[some 0,some 1,some 2,some 3]),(96,[some 0]),(97,[some 0]),(101,[some 0,some 1,some 2,some 3,some 4]),(102,[some 0,some 1,some 2,some 3,some 4]),(112,[some 0,some 1]),(113,[some 0,some 1]),(124,[some 0,some 11,some 12]),(125,[some 0,some 11,some 12]),(127,[some 0,some 1,some 3,some 5,some 7,some 8]),(128,[some 0,some 1,some 3,some 5,some 7,some 8]),(129,[some 0,some 1]),(130,[some 0,some 1]),(132,[some 0,some 1]),(133,[some 0,some 1]),(134,[some 0,some 1]),(135,[some 0,some 1]),(136,[some 0,some 3]),(137,[some 0,some 3]),(178,[some 0,some 1]),(179,[some 0,some 1]),(182,[some 0,some 2,some 3]),(183,[some 0,some 2,some 3]),(191,[some 0,some 1,some 2,some 3]),(192,[some 0,some 1,some 2,some 3]),(199,[some 0]),(205,[some 0,some 1]),(206,[some 0,some 1]),(239,[some 0,some 1,some 2]),(240,[some 0,some 1,some 2]),(250,[some 0]),(251,[some 0]),(275,[some 0,some 7,some 10,some 11,some 12,some 13]),(276,[some 0,some 7,some 10,some 11,some 12,some 13]),(280,[some 0,some 1]),(281,[some 0,some 1]),(286,[some 0,some 1,some 2]),(287,[some 0,some 1,some 2]),(326,[some 0,some 1,some 2,some 3,some 4,some 5,some 6,some 7,some 8,some 9,some 10]),(327,[some 0,some 1,some 2,some 3,some 4,some 5,some 6,some 7,some 8,some 9,some 10])],[22,25,26,29,30,33,34,39,51,75,105,121,122,131,204,236,272,273,274,291]⟩
theorem qG:lJ Tryz.prog TT:=Qj kr
theorem bU {t:TypeId} {x:Bool×Nat} (h:TT.Je t=some x:=by rfl):tK Tryz.prog t=some x:=qG.Je h
theorem eU {s f k:Nat} (h:TT.foF s f=some k:=by rfl):u_ Tryz.prog s f=some k:=qG.foF h
end
section
open Go.RowKit
/-- blocks that are read -/
def MM (C:List aA) (M:List (Nat×List Value)):Prop:= ∀ p∈M,∀ o vs,(p.2.drop o).take vs.length=vs→At C (some ⟨p.1,o,none⟩) vs
theorem mn {C:List aA}:MM C []:=fun p h=>by cases h
theorem mc {C:List aA} {b t:Nat} {cs:List Value} {M:List (Nat×List Value)} (i:Nat) (hC:C[i]? =some (cz b t cs)) (h:MM C M):MM C ((b,cs)::M):=fun p hp o vs hv=>by
 rcases b_.1 hp with rfl|hp
 ·exact pZ i hC hv
 ·exact h p hp o vs hv
theorem mr {C:List aA} {b t:Nat} {cs:List Value} {M:List (Nat×List Value)} (i:Nat) (hC:C[i]? =some (cz b t cs).ro) (h:MM C M):MM C ((b,cs)::M):=fun p hp o vs hv=>by
 rcases b_.1 hp with rfl|hp
 ·exact wP i hC hv
 ·exact h p hp o vs hv
def pT:List Prop→Prop
 |[]=>True
 |p::l=>p∧pT l
theorem ky {p:Prop} {l:List Prop} (h:p) (h2:pT l):pT (p::l):=⟨h,h2⟩
/-- the value of an operation, what it asks for, and what is left of the list of places -/
def pv (T:Dk) (ops:Array Oper) (M:List (Nat×List Value)) (L:dq) (hs:List Nat) (g:Option (Nat×Bool)) (op:Op):Option (Value×List Prop×List Nat):=
 match Dc ops L g with
 |true=>some (undef,[],hs)
 |false=>match j_ ops L g with
  |false=>none
  |true=>match op with
   | .move x=>match ev L x with
    |some v=>some (v,[],hs)
    |none=>none
   | .assign x=>match ev L x with
    |some v=>some (v,[],hs)
    |none=>none
   | .pick c x y=>match ev L c with
    |some (.bool true)=>match ev L x with
     |some v=>some (v,[],hs)
     |none=>none
    |some (.bool false)=>match ev L y with
     |some v=>some (v,[],hs)
     |none=>none
    |_=>none
   | .unOp .not _ x=>match ev L x with
    |some (.bool b)=>some (.bool !b,[],hs)
    |_=>none
   | .extract x i=>match ev L x with
    |some (.tuple vs)=>match vs.toList[i]? with
     |some v=>some (v,[],hs)
     |none=>none
    |_=>none
   | .fieldAddr s x f=>match ev L x with
    |some (.pointer (some ⟨b,o,none⟩))=>match T.foF s f with
     |some k=>some (.pointer (some ⟨b,o+k,none⟩),[],hs)
     |none=>none
    |_=>none
   | .binOp op _ x y _=>match ev L x with
    |some (.int .i64 a)=>match ev L y with
     |some (.int .i64 b)=>match op with
      | .lss=>some (.bool (decide (a<b)),[],hs)
      | .leq=>some (.bool (decide (a≤b)),[],hs)
      | .gtr=>some (.bool (decide (b<a)),[],hs)
      | .geq=>some (.bool (decide (b≤a)),[],hs)
      | .eql=>some (.bool (decide (a=b)),[],hs)
      | .neq=>some (.bool (!decide (a=b)),[],hs)
      | .add=>some (.int .i64 (a+b),[-9223372036854775808≤a+b,a+b≤9223372036854775807],hs)
      | .sub=>some (.int .i64 (a-b),[-9223372036854775808≤a-b,a-b≤9223372036854775807],hs)
      |_=>none
     |_=>none
    |_=>none
   | .load t x=>match ev L x with
    |some (.pointer (some ⟨b,o,none⟩))=>match M[hs.headD 0]? with
     |some (b',cs)=>match T.Je t with
      |some (false,_)=>match cs[o]? with
       |some v=>some (v,[b'=b],hs.tail)
       |none=>none
      |some (true,n)=>match Nat.beq o 0 with
       |true=>match Nat.beq cs.length n with
        |true=>some (.agg cs.toArray,[b'=b],hs.tail)
        |false=>none
       |false=>none
      |none=>none
     |none=>none
    |_=>none
   | .call c=>match c with
    |{callee:= .builtin .len,args:=xs,argTypes:=ts}=>match xs.toList with
     |[x]=>match ts.toList with
      |[t]=>match ev L x with
       |some (.slice A n c)=>match LR T.sl t with
        |true=>some (.int .i64 n,[],hs)
        |false=>none
       |_=>none
      |_=>none
     |_=>none
    |_=>none
   |_=>none
section
variable {E:fh} {T:Dk} {ops:Array Oper} {M:List (Nat×List Value)} {D:List Deferred} {L:List (Nat×Value)} {C:List aA} {hs hs':List Nat}
theorem wo {cs:List Value} {o:Nat} {v:Value} (h:cs[o]? =some v):(cs.drop o).take [v].length=[v]:=by
 obtain ⟨hl,rfl⟩:=bf.1 h
 rw [List.drop_eq_getElem_cons hl]; rfl
theorem SU {o:Oper} {v:Value} {S:List Prop} (hT:lJ E.P T) (hM:MM C M) (h:pv T ops M L hs o.guard o.op=some (v,S,hs')) (hS:pT S):SD E ops o D L C v:=by
 obtain ⟨dst,op,ty,ps,af,g⟩:=o
 unfold pv at h
 simp only at h
 split at h
 ·rename_i hg
  cases h
  exact Jk hg
 ·split at h
  ·cases h
  ·rename_i hg
   split at h
   ·split at h
    ·rename_i hx; cases h; exact EK hg hx
    ·cases h
   ·split at h
    ·rename_i hx; cases h; exact zj hg hx
    ·cases h
   ·split at h
    ·rename_i hc
     split at h
     ·rename_i hx; cases h; exact zO hg hc hx
     ·cases h
    ·rename_i hc
     split at h
     ·rename_i hx; cases h; exact zP hg hc hx
     ·cases h
    ·cases h
   ·split at h
    ·rename_i hx; cases h; exact KT hg hx
    ·cases h
   ·split at h
    ·rename_i vs hx
     split at h
     ·rename_i v' hv; cases h; exact x8 (vs:=vs.toList) hg (by simpa using hx) hv
     ·cases h
    ·cases h
   ·split at h
    ·rename_i hx
     split at h
     ·rename_i hk; cases h; exact OH hg hx (hT.foF hk) rfl
     ·cases h
    ·cases h
   ·split at h
    ·rename_i hx
     split at h
     ·rename_i hy
      split at h
      ·cases h; exact fM hg hx hy qI
      ·cases h; exact fM hg hx hy Sb
      ·cases h; exact fM hg hx hy Tp
      ·cases h; exact fM hg hx hy Fu
      ·cases h; exact fM hg hx hy m8
      ·cases h; exact fM hg hx hy rm
      ·cases h; exact fM hg hx hy (oP ⟨hS.1,hS.2.1⟩)
      ·cases h; exact fM hg hx hy (xj ⟨hS.1,hS.2.1⟩)
      ·cases h
     ·cases h
    ·cases h
   ·split at h
    ·rename_i hx
     split at h
     ·rename_i b' cs hm
      have A:=aM hm
      split at h
      ·rename_i hk
       split at h
       ·rename_i hv
        cases h
        obtain rfl:=hS.1
        exact vQ hg hx (hT.Je hk) (hM _ A _ _ (wo hv))
       ·cases h
      ·rename_i n hk
       split at h
       ·rename_i ho
        split at h
        ·rename_i hn
         cases h
         obtain rfl:=hS.1
         have H:=Nat.eq_of_beq_eq_true ho
         subst H
         exact yA hg hx (hT.Je hk) (hM _ A 0 cs sm) (Nat.eq_of_beq_eq_true hn)
        ·cases h
       ·cases h
      ·cases h
     ·cases h
    ·cases h
   ·split at h
    ·rename_i xs ts
     split at h
     ·rename_i x G
      split at h
      ·rename_i t F
       split at h
       ·rename_i hx
        split at h
        ·rename_i B
         cases h
         obtain ⟨e,he⟩:=hT.sl t (BG B)
         have AA:xs= #[x]:=by apply Array.ext'; simpa using G
         have J:ts= #[t]:=by apply Array.ext'; simpa using F
         subst AA J
         exact Kf hg hx he
        ·cases h
       ·cases h
      ·cases h
     ·cases h
    ·cases h
   ·cases h
def pr (T:Dk) (n:Nat) (ops:Array Oper) (M:List (Nat×List Value)):Nat→List Nat→dq→List Oper→Option (dq×List Oper×List Prop)
 |0,_,L,rest=>some (L,rest,[])
 |k+1,hs,L,[]=>none
 |k+1,hs,L,o::rest=>match o.dst with
  |none=>none
  |some d=>match Nat.blt d n with
   |false=>none
   |true=>match pv T ops M L hs o.guard o.op with
    |none=>none
    |some (v,S,hs')=>match pr T n ops M k hs' ((d,v)::L) rest with
     |none=>none
     |some (L',rest',S')=>some (L',rest',S++S')
theorem xG: ∀ {S S':List Prop},pT (S++S')→pT S∧pT S'
 |[],S',h=>⟨trivial,h⟩
 |p::S,S',h=>⟨⟨h.1,(xG h.2).1⟩,(xG h.2).2⟩
/-- whatever is closed under single steps -/
theorem Ky {J:List Oper→dq→Prop} (hT:lJ E.P T) (hM:MM C M) (hJ: ∀ o rest L d v,SD E ops o D L C v→o.dst=some d→Nat.blt d E.n=true→J rest ((d,v)::L)→J (o::rest) L):
 ∀ (k:Nat) (hs:List Nat) (L:dq) (rest:List Oper) {L':dq} {rest':List Oper} {S:List Prop},pr T E.n ops M k hs L rest=some (L',rest',S)→pT S→J rest' L'→J rest L
 |0,hs,L,rest,L',rest',S,h,hS,hj=>by
  unfold pr at h
  cases h
  exact hj
 |k+1,hs,L,[],L',rest',S,h,hS,hj=>by unfold pr at h; cases h
 |k+1,hs,L,o::rest,L',rest',S,h,hS,hj=>by
  unfold pr at h
  split at h
  ·cases h
  ·rename_i d hd
   split at h
   ·cases h
   ·rename_i hn
    split at h
    ·cases h
    ·rename_i v S1 A hv
     split at h
     ·cases h
     ·rename_i L1 G S2 hr
      cases h
      obtain ⟨B,F⟩:=xG hS
      exact hJ o rest L d v (SU hT hM hv B) hd hn (Ky hT hM hJ k A _ rest hr F hj)
variable {Q:dj} {rest rest':List Oper} {L0 L':List (Nat×Value)} {S:List Prop} {F:List (Nat×Value)→Prop}
/-- a run of operations, one after the other -/
theorem rP (k:Nat) (hs:List Nat) (hM:MM C M) (j:RJ E ops Q rest' D L' C) (hT:lJ E.P T:=by exact qG) (h:pr T E.n ops M k hs L rest=some (L0,rest',S):=by rfl) (hL:L0=L':=by (try dsimp only)<;>rfl) (hS:pT S:=by repeat' first|exact True.intro |refine ky ?_ ?_ |exact rfl|omega|(dsimp only; omega)):RJ E ops Q rest D L C:=by
 subst hL
 exact Ky (J:=fun r L=>RJ E ops Q r D L C) hT hM (fun o rest L d v A B F G=>Sh A B F G) k hs L rest h hS j
theorem dP (k:Nat) (hs:List Nat) (hM:MM C M) (j:DJ E ops D C F rest' L') (hT:lJ E.P T:=by exact qG) (h:pr T E.n ops M k hs L rest=some (L0,rest',S):=by rfl) (hL:L0=L':=by (try dsimp only)<;>rfl) (hS:pT S:=by repeat' first|exact True.intro |refine ky ?_ ?_ |exact rfl|omega|(dsimp only; omega)):DJ E ops D C F rest L:=by
 subst hL
 exact Ky (J:=fun r L=>DJ E ops D C F r L) hT hM (fun o rest L d v A B G H=>SR A B G H) k hs L rest h hS j
end
section
variable {P:Program} {r:Option Nat} {n:Nat} {B:BS} {w0:World} {ops:Array Oper} {M:List (Nat×List Value)} {D:List Deferred} {L L':List (Nat×Value)} {C:List aA} {Q:dj} {rest rest':List Oper} {S:List Prop} {F:List (Nat×Value)→Prop}
theorem eV (k:Nat) (hs:List Nat) (hM:MM C M) (h:pr TT n ops M k hs L rest=some (L',rest',S)) (j:RJ ⟨P,r,n,B,w0⟩ ops Q rest' D L' C) (hS:pT S:=by repeat' first|exact True.intro |refine ky ?_ ?_ |exact rfl|omega|(dsimp only; omega)) (hT:lJ P TT:=by exact qG):RJ ⟨P,r,n,B,w0⟩ ops Q rest D L C:=rP k hs hM j hT h rfl hS
theorem kv (k:Nat) (hs:List Nat) (hM:MM C M) (h:pr TT n ops M k hs L rest=some (L',rest',S)) (j:DJ ⟨P,r,n,B,w0⟩ ops D C F rest' L') (hS:pT S:=by repeat' first|exact True.intro |refine ky ?_ ?_ |exact rfl|omega|(dsimp only; omega)) (hT:lJ P TT:=by exact qG):DJ ⟨P,r,n,B,w0⟩ ops D C F rest L:=dP k hs hM j hT h rfl hS
theorem bI (k:Nat) (h:pr TT n ops [] k [] L rest=some (L',rest',S)) (j:RJ ⟨P,r,n,B,w0⟩ ops Q rest' D L' C) (hS:pT S:=by repeat' first|exact True.intro |refine ky ?_ ?_ |exact rfl|omega|(dsimp only; omega)) (hT:lJ P TT:=by exact qG):RJ ⟨P,r,n,B,w0⟩ ops Q rest D L C:=rP k [] mn j hT h rfl hS
theorem kR (k:Nat) (h:pr TT n ops [] k [] L rest=some (L',rest',S)) (j:DJ ⟨P,r,n,B,w0⟩ ops D C F rest' L') (hS:pT S:=by repeat' first|exact True.intro |refine ky ?_ ?_ |exact rfl|omega|(dsimp only; omega)) (hT:lJ P TT:=by exact qG):DJ ⟨P,r,n,B,w0⟩ ops D C F rest L:=dP k [] mn j hT h rfl hS
end
end
section
open Go.RowKit
/-- parts of a context, reckoned to the end -/
def l0 (C:List aA):List Nat→Option (List aA)
 |[]=>some []
 |i::is=>match C[i]? with
  |some A=>match l0 C is with
   |some l=>some (A::l)
   |none=>none
  |none=>none
theorem j4 {C:List aA}: ∀ {is:List Nat} {C':List aA},l0 C is=some C'→j5 C is=C'
 |[],C',h=>by cases h; rfl
 |i::is,C',h=>by
  unfold l0 at h
  split at h
  ·rename_i A hA
   split at h
   ·rename_i l hl
    cases h
    show List.filterMap (C[·]?) (i::is)=A::l
    rw [List.filterMap_cons_some hA]
    exact congrArg _ (j4 hl)
   ·cases h
  ·cases h
/-- a part of a context in place of the whole -/
theorem aR {S:BS} {w0:World} {C C':List aA} (is:List Nat) (hn:decide is.Nodup=true:=by rfl) (hC:j5 C is=C':=by rfl): ∀ w,St S w0 C w→St S w0 C' w:=fun w h=>St.j5 is hn hC h
theorem NA {S:BS} {w0:World} {C C':List aA} (is:List Nat) (hC:l0 C is=some C') (hn:decide is.Nodup=true:=by rfl): ∀ w,St S w0 C w→St S w0 C' w:=fun w h=>St.j5 is hn (j4 hC) h
def LK (C:List aA) (i:Nat) (B:aA):Option (List aA):=match i,C with
 |0,_::C=>some (B::C)
 |i+1,A::C=>match LK C i B with
  |some l=>some (A::l)
  |none=>none
 |_,[]=>none
theorem AU: ∀ {C:List aA} {i:Nat} {B:aA} {C':List aA},LK C i B=some C'→C.set i B=C'
 |[],0,B,C',h=>by cases h
 |[],i+1,B,C',h=>by cases h
 |A::C,0,B,C',h=>by cases h; rfl
 |A::C,i+1,B,C',h=>by
  unfold LK at h
  split at h
  ·rename_i l hl
   cases h
   exact congrArg _ (AU hl)
  ·cases h
theorem re {E:fh} {K:Act→World→Prop} {D:g_} {L:dq} {C C':List aA} {A B:aA} (i:Nat) (hC:C[i]? =some A) (hh:(∀ w,A.holds w→B.holds w)∧(∀ b,B.fg b→A.fg b)∧ ∀ b,B.wf b→A.wf b) (hC':LK C i B=some C') (h:KJ E K D L C'):KJ E K D L C:=Ik i hC hh (AU hC') h
/-- the operations of a region but these; marks of some places -/
def Tn (n:Nat) (T:List Nat):List Nat:=(List.range n).filter fun i=> !T.contains i
def Ud (k:Nat) (t:List Nat):List Bool:=(List.range k).map fun i=>t.contains i
theorem dH {E:fh} {id:Nat} {ops:Array Oper} {Q:dj} {D:g_} {L:dq} {C:List aA} (hm:E.P.follows .mixedOrders=true) (T fe tb i1 i2:List Nat) {C' C1:List aA} {free:List Nat} {feb tbb:List Bool}
 (h1:l0 C i1=some C') (h2:l0 C i2=some C1) (hf:free=Tn ops.size T) (hfe:feb=Ud free.length fe) (htb:tbb=Ud T.length tb)
 (h:qM E ops D C' C1 (fun L'=>TJ E ops D C' C1 (fun L C=>KJ E (Q .normal) D L C) tbb (eW ops T) L' C) feb (eW ops free) L)
 (hc:M3 ops free T feb tbb=true:=by kernel_rfl) (n1:decide i1.Nodup=true:=by rfl) (n2:decide i2.Nodup=true:=by rfl):WJ E (.region id ops true) Q D L C:=
 My hm free T feb tbb C' C1 hc (NA i1 h1 n1) (NA i2 h2 n2) h
end
section
open Go.RowKit
def wI (T:Dk) (M:List (Nat×List Value)) (L:dq):List ResultVar→List Nat→Option (List Value×List Prop)
 |[],_=>some ([],[])
 | .tmp t::rs,hs=>match L.lookup t with
  |some v=>match wI T M L rs hs with
   |some (vs,S)=>some (v::vs,S)
   |none=>none
  |none=>none
 | .cell a t::rs,hs=>match L.lookup a with
  |some (.pointer (some ⟨b,o,none⟩))=>match M[hs.headD 0]? with
   |some (b',cs)=>match T.Je t with
    |some (false,_)=>match cs[o]? with
     |some v=>match wI T M L rs hs.tail with
      |some (vs,S)=>some (v::vs,(b'=b)::S)
      |none=>none
     |none=>none
    |some (true,n)=>match Nat.beq o 0 with
     |true=>match Nat.beq cs.length n with
      |true=>match wI T M L rs hs.tail with
       |some (vs,S)=>some (.agg cs.toArray::vs,(b'=b)::S)
       |none=>none
      |false=>none
     |false=>match wI T M L rs hs.tail with
      |some (vs,S)=>some (.agg ((cs.drop o).take n).toArray::vs,(b'=b)::(((cs.drop o).take n).length=n)::S)
      |none=>none
    |none=>none
   |none=>none
  |_=>none
theorem oF {P:Program} {T:Dk} {M:List (Nat×List Value)} {L:dq} {C:List aA} (hT:lJ P T) (hM:MM C M): ∀ (rs:List ResultVar) (hs:List Nat) {vs:List Value} {S:List Prop},wI T M L rs hs=some (vs,S)→pT S→GY P L C rs vs
 |[],_,vs,S,h,hS=>by unfold wI at h; cases h; exact trivial
 | .tmp t::rs,hs,vs,S,h,hS=>by
  unfold wI at h
  split at h
  ·rename_i v hv
   split at h
   ·rename_i vs' S' hr
    cases h
    exact ⟨hv,oF hT hM rs hs hr hS⟩
   ·cases h
  ·cases h
 | .cell a t::rs,hs,vs,S,h,hS=>by
  unfold wI at h
  split at h
  ·rename_i b o hl
   split at h
   ·rename_i b' cs hm
    have A:=aM hm
    split at h
    ·rename_i hk
     split at h
     ·rename_i v hv
      split at h
      ·rename_i vs' S' hr
       cases h
       obtain ⟨rfl,hS⟩:=hS
       exact ⟨⟨_,hl,.inr ⟨_,hT.Je hk,hM _ A _ _ (wo hv)⟩⟩,oF hT hM rs _ hr hS⟩
      ·cases h
     ·cases h
    ·rename_i n hk
     split at h
     ·rename_i ho
      split at h
      ·rename_i hn
       split at h
       ·rename_i vs' S' hr
        cases h
        obtain ⟨rfl,hS⟩:=hS
        have D:=Nat.eq_of_beq_eq_true ho
        subst D
        exact ⟨⟨_,hl,.inl ⟨_,cs,hT.Je hk,hM _ A 0 cs sm,Nat.eq_of_beq_eq_true hn,U⟩⟩,oF hT hM rs _ hr hS⟩
       ·cases h
      ·cases h
     ·split at h
      ·rename_i vs' S' hr
       cases h
       obtain ⟨rfl,B,hS⟩:=hS
       exact ⟨⟨_,hl,.inl ⟨_,_,hT.Je hk,hM _ A o _ (by rw [B]),B,U⟩⟩,oF hT hM rs _ hr hS⟩
      ·cases h
    ·cases h
   ·cases h
  ·cases h
section
variable {P:Program} {n:Nat} {fn:Func} {w0:World} {K:Act→World→Prop} {L:List (Nat×Value)} {C:List aA} {M:List (Nat×List Value)} {vs:List Value} {S:List Prop} {u x v:Value}
theorem Dg (hQ: ∀ D L C,LJ ⟨P,none,n,tQ,w0⟩ fn (Ad w0 v) D L C→KJ ⟨P,none,n,tQ,w0⟩ K D L C) (hs:List Nat) (hM:MM C M) (h:wI TT M L fn.results.toList hs=some ([u],S)) (e:u=v) (hS:pT S:=by repeat' first|exact True.intro |refine ky rfl ?_) (hT:lJ P TT:=by exact qG):KJ ⟨P,none,n,tQ,w0⟩ K [] L C:=
 hQ _ _ _ (j0 (oF hT hM _ _ h hS) fun w hs=>Co e hs)
theorem l5 (hQ: ∀ D L C,LJ ⟨P,none,n,tQ,w0⟩ fn (Ad w0 v) D L C→KJ ⟨P,none,n,tQ,w0⟩ K D L C) (hs:List Nat) (hM:MM C M) (h:wI TT M L fn.results.toList hs=some (u::x::vs,S)) (e:Value.tuple (u::x::vs).toArray=v) (hS:pT S:=by repeat' first|exact True.intro |refine ky rfl ?_) (hT:lJ P TT:=by exact qG):KJ ⟨P,none,n,tQ,w0⟩ K [] L C:=
 hQ _ _ _ (j0 (oF hT hM _ _ h hS) fun w hs=>Co e hs)
theorem LX {α:Type} {V:α→Value} {p:α→Prop} {N:α→List aA} (hQ: ∀ D L C,LJ ⟨P,none,n,tQ,w0⟩ fn (H5 w0 V p N) D L C→KJ ⟨P,none,n,tQ,w0⟩ K D L C) (x:α) (is hs:List Nat) (hM:MM C M) (h:wI TT M L fn.results.toList hs=some (vs,S)) (hw:(N x).all (·.wr)=true) (hN:j5 C is=N x) (hV:QX vs=V x) (hp:p x) (hn:decide is.Nodup=true:=by rfl) (hS:pT S:=by repeat' first|exact True.intro |refine ky rfl ?_) (hT:lJ P TT:=by exact qG):KJ ⟨P,none,n,tQ,w0⟩ K [] L C:=
 hQ _ _ _ (j0 (oF hT hM _ _ h hS) fun w hs=>Qy x is hV hp hn hN hw hs)
theorem LM {A:aA} {α:Type} {V:α→Value} {p:α→Prop} {A':α→aA} (hQ: ∀ D L C,LJ ⟨P,none,n,⟨A.wf,fun _=>True⟩,w0⟩ fn (MZ w0 A V p A') D L C→KJ ⟨P,none,n,⟨A.wf,fun _=>True⟩,w0⟩ K D L C) (x:α) (i:Nat) (hs:List Nat) (hM:MM C M) (h:wI TT M L fn.results.toList hs=some (vs,S)) (hw:(A' x).wr=true) (hC:C[i]? =some (A' x)) (hV:QX vs=V x) (hp:p x) (hS:pT S:=by repeat' exact True.intro) (hT:lJ P TT:=by exact qG):KJ ⟨P,none,n,⟨A.wf,fun _=>True⟩,w0⟩ K [] L C:=
 hQ _ _ _ (j0 (oF hT hM _ _ h hS) fun w hs=>SG x i hV hp hC hw hs)
end
end
section
open Go.RowKit
def EI {α:Type _}:List α→List α→Option (List α)
 |[],m=>some m
 |a::l,m=>match EI l m with
  |some r=>some (a::r)
  |none=>none
theorem FO {α:Type _}: ∀ {l m r:List α},EI l m=some r→l++m=r
 |[],m,r,h=>by cases h; rfl
 |a::l,m,r,h=>by
  unfold EI at h
  split at h
  ·rename_i r' hr
   cases h
   exact congrArg (a:: ·) (FO hr)
  ·cases h
def TW (L:dq):List Nat→Option (dq)
 |[]=>some []
 |t::ts=>match L.lookup t with
  |some v=>match TW L ts with
   |some r=>some ((t,v)::r)
   |none=>none
  |none=>none
theorem E_ {L M:dq} (k:dp L M): ∀ {ts:List Nat} {r:dq},TW L ts=some r→dp L (r++M)
 |[],r,h=>by cases h; exact k
 |t::ts,r,h=>by
  unfold TW at h
  split at h
  ·rename_i v hv
   split at h
   ·rename_i r' hr
    cases h
    exact dp.cons hv (E_ k hr)
   ·cases h
  ·cases h
section
variable {E:fh} {Q:dj} {D:List Deferred} {L L0:List (Nat×Value)} {C C0:List aA} {ι:Type} {Li:ι→List (Nat×Value)} {Ci:ι→List aA}
theorem bS {c:Code} (kL kC:List Nat) (hL:TW L kL=some L0) (hC0:l0 C kC=some C0) (S:ι→dq) (G:ι→List aA) (hLi: ∀ x,EI L0 (S x)=some (Li x)) (hCi: ∀ x,EI C0 (G x)=some (Ci x)) (μ:ι→Nat) (x0:ι)
 (h0:dp L (S x0)) (hC: ∀ w,St E.S E.w0 C w→St E.S E.w0 (Ci x0) w)
 (round: ∀ x (J:Act→World→Prop),(∀ y D' L' C',D'=D→μ y<μ x→dp L' (Li y)→(∀ w,St E.S E.w0 C' w→St E.S E.w0 (Ci y) w)→KJ E J D' L' C')→WJ E c (Exit.then J Q) D (Li x) (Ci x)):WJ E (.loop c) Q D L C:=
 Pu Li Ci μ x0 (FO (hLi x0)▸E_ h0 hL) hC round
theorem nq {x y:Code} (kL kC:List Nat) (hL:TW L kL=some L0) (hC0:l0 C kC=some C0) (S:ι→dq) (G:ι→List aA) (hLi: ∀ x,EI L0 (S x)=some (Li x)) (hCi: ∀ x,EI C0 (G x)=some (Ci x))
 (hy: ∀ z,WJ E y Q D (Li z) (Ci z)) (h: ∀ K:Act→World→Prop,(∀ z,KJ E K D (Li z) (Ci z))→WJ E x (Exit.then K Q) D L C):WJ E (.seq x y) Q D L C:=Qo Li Ci hy h
end
end
section
open Go.RowKit
set_option linter.unusedSectionVars false
/-- what is asked of keys -/
structure vR (P:Program) (kt:Nat) {K:Type} (kV:K→Value):Prop where
 check: ∀ (e:Bool) (x:K) (w:World),(Instr.checkKey e 10000 kt (kV x)).run P w= .ok () w
 find: ∀ (x:K) (w:World) (es:List MapEntry),(∀ e∈es,∃ k,e.key=kV k)→
  ((Instr.findKey kt (kV x) es).run P w= .ok none w∧ ∀ e∈es,e.key≠kV x)∨ ∃ j e,(Instr.findKey kt (kV x) es).run P w= .ok (some (j,e.val)) w∧es[j]? =some e∧e.key=kV x
 bits: ∀ x,Instr.sameBits 10000 (kV x) (kV x)=true
 inj: ∀ x y,kV x=kV y→x=y
section
variable {K:Type} [DecidableEq K] {kV:K→Value}
def eB {β:Type} (l:List (K×β)) (x:K) (y:β):List (K×β):=if (l.lookup x).isSome then l.map (fun p=>if p.1=x then (x,y) else p) else l++[(x,y)]
def fz {β:Type} (l:List (K×β)) (x:K):List (K×β):=l.filter fun p=> !decide (p.1=x)
def cU {β γ:Type} (f:β→γ) (l:List (K×β)):List (K×γ):=l.map fun p=>(p.1,f p.2)
theorem nu {β γ:Type} (f:β→γ) (x:K): ∀ l:List (K×β),(cU f l).lookup x=(l.lookup x).map f
 |[]=>rfl
 |p::l=>by
  obtain ⟨k,v⟩:=p
  have ih:=nu f x l
  by_cases h:x=k
  ·subst h; simp [cU,List.lookup]
  ·have:(x==k)=false:=by simpa using h
   simp only [cU,List.map_cons,List.lookup,this] at ih ⊢
   exact ih
theorem gR {β γ:Type} (f:β→γ) (l:List (K×β)) (x:K) (y:β):cU f (eB l x y)=eB (cU f l) x (f y):=by
 unfold eB
 rw [nu,Option.isSome_map]
 split
 ·simp only [cU,List.map_map]
  refine List.map_congr_left fun p _=>?_
  simp only [Function.comp]
  split<;>rfl
 ·simp [cU]
theorem nU {β γ:Type} (f:β→γ) (l:List (K×β)) (x:K):cU f (fz l x)=fz (cU f l) x:=by
 unfold fz cU
 rw [List.filter_map]
 rfl
theorem iB {β:Type} {x:K}: ∀ {l:List (K×β)},l.lookup x=none↔ ∀ p∈l,p.1≠x
 |[]=>by simp
 |p::l=>by
  obtain ⟨k,v⟩:=p
  by_cases h:x=k
  ·subst h; simp [List.lookup]
  ·have hb:(x==k)=false:=by simpa using h
   simp only [List.lookup,hb,b_,forall_eq_or_imp]
   rw [iB (l:=l)]
   exact ⟨fun q=>⟨fun e=>h e.symm,q⟩,fun q=>q.2⟩
theorem lB {β:Type} {x:K} {y:β}: ∀ {l:List (K×β)},(l.map (·.1)).Nodup→((x,y)∈l↔l.lookup x=some y)
 |[],_=>by simp
 |p::l,hn=>by
  obtain ⟨k,v⟩:=p
  simp only [List.map_cons,List.nodup_cons] at hn
  by_cases h:x=k
  ·subst h
   simp only [List.lookup,beq_self_eq_true,b_,Prod.mk.injEq,true_and,Option.some.injEq]
   constructor
   ·rintro (e|e)
    ·exact e.symm
    ·exact absurd (db.2 ⟨_,e,U⟩) hn.1
   ·intro e; exact .inl e.symm
  ·have hb:(x==k)=false:=by simpa using h
   simp only [List.lookup,hb,b_,Prod.mk.injEq,h,false_and,false_or]
   exact lB hn.2
structure jq (kV:K→Value) (es:Array MapEntry) (c:Nat) (m:List (K×Value)):Prop where
 list:es.toList.map (fun (e:MapEntry)=>(e.key,e.val))=m.map (fun p=>(kV p.1,p.2))
 keys:(m.map (·.1)).Nodup
 QS: ∀ e∈es.toList,e.born<c
 born:(es.toList.map (·.born)).Nodup
def ku (kV:K→Value) (b:Nat) (m:List (K×Value)):aA where
 fg k:=k=b
 wf k:=k=b
 holds w:= ∃ es c,w.heap[b]? =some (.map es c)∧jq kV es c m
 wr:=true
 kO _ h:=h
 whole _ _ h:=h
 lt w h k hk:=by obtain ⟨es,c,he,_⟩:=h; exact hk▸eu he
 pI w w' hk h:=by obtain ⟨es,c,he,hm⟩:=h; exact ⟨es,c,(hk b rfl).trans he,hm⟩
theorem jq.nil:jq kV #[] 0 []:=⟨rfl,List.nodup_nil,sm,List.nodup_nil⟩
theorem jq.size {es:Array MapEntry} {c:Nat} {m:List (K×Value)} (h:jq kV es c m):es.size=m.length:=by
 have:=congrArg List.length h.list
 simpa using this
theorem Eo {P:Program} {kt:Nat} (hk:vR P kt kV) (x:K): ∀ (es:List MapEntry) (m:List (K×Value)),es.map (fun (e:MapEntry)=>(e.key,e.val))=m.map (fun p=>(kV p.1,p.2))→
 ((∀ e∈es,e.key≠kV x)→m.lookup x=none)∧ ∀ (j:Nat) (e:MapEntry),es[j]? =some e→e.key=kV x→m[j]? =some (x,e.val):=by
 intro es m h
 refine ⟨fun hn=>iB.2 fun p hp e=>?_,fun j e he hx=>?_⟩
 ·have:(kV p.1,p.2)∈es.map (fun (e:MapEntry)=>(e.key,e.val)):=by rw [h]; exact db.2 ⟨p,hp,rfl⟩
  obtain ⟨z,hz,B⟩:=db.1 this
  simp only [Prod.mk.injEq] at B
  exact hn z hz (by rw [B.1,e])
 ·have A:(es.map (fun (e:MapEntry)=>(e.key,e.val)))[j]? =some (e.key,e.val):=by rw [gn,he]; rfl
  rw [h,gn] at A
  cases hm:m[j]? with
  |none=>simp [hm] at A
  |some p=>
   simp only [hm,Option.map_some,Option.some.injEq,Prod.mk.injEq] at A
   have:=hk.inj _ _ (A.1.trans hx)
   obtain ⟨k,v⟩:=p
   simp only at this A
   rw [this,A.2]
theorem pf {P:Program} {w:World} {kt:Nat} {x:K} {es:Array MapEntry} {c:Nat} {m:List (K×Value)} (hk:vR P kt kV) (h:jq kV es c m):
 ((Instr.findKey kt (kV x) es.toList).run P w= .ok none w∧m.lookup x=none)∨
 ∃ j v,(Instr.findKey kt (kV x) es.toList).run P w= .ok (some (j,v)) w∧m[j]? =some (x,v)∧m.lookup x=some v:=by
 obtain ⟨D,E⟩:=Eo hk x es.toList m h.list
 rcases hk.find x w es.toList (fun e he=>by
  have:(e.key,e.val)∈m.map (fun p=>(kV p.1,p.2)):=by rw [← h.list]; exact db.2 ⟨e,he,rfl⟩
  obtain ⟨p,_,hp⟩:=db.1 this
  simp only [Prod.mk.injEq] at hp
  exact ⟨p.1,hp.1.symm⟩) with ⟨A,B⟩|⟨j,e,A,B,C⟩
 ·exact .inl ⟨A,D B⟩
 ·have:=E j e B C
  exact .inr ⟨j,e.val,A,this,(lB h.keys).1 (aM this)⟩
theorem jg {P:Program} {w:World} {kt:Nat} {x:K} (hk:vR P kt kV) (e:Bool):(Instr.checkKey e 10000 kt (kV x)).run P w= .ok () w:=hk.check e x w
section
variable {E:fh} {ops:Array Oper} {Q:dj} {rest:List Oper} {D:List Deferred} {L:List (Nat×Value)} {C:List aA}
variable {dst:Option Tmp} {d:Nat} {ty:TypeId} {ps:String} {af:Array Edge} {g:Option (Nat×Bool)}
theorem mJ {t:TypeId} (hg:j_ ops L g=true) (hd:Nat.blt d E.n=true) (k: ∀ b,RJ E ops Q rest D ((d,.map (some b))::L) (ku kV b []::C)):RJ E ops Q (⟨some d,.makeMap t none,ty,ps,af,g⟩::rest) D L C:=by
 intro a w B hs
 have hd':d<E.n:=by rw [← Nat.blt_eq]; exact hd
 unfold s_
 rw [if_pos (eG B hg)]
 refine jf (v:= .map (some w.heap.size)) (w':=w.alloc (.map #[] 0)) sm ?_ ?_
 ·simp [execOp,Instr.makeMap,newObj,Sem.run]
 ·refine k _ _ _ (B.put hd' _) (hs.grow (dV.alloc no w _) (N:=[ku kV w.heap.size []]) ⟨fun A hA=>?_,fun A hA b hb=>?_,List.pairwise_singleton _ _⟩)
  ·simp at hA; subst hA; exact ⟨#[],0,heap_alloc_new w _,jq.nil⟩
  ·simp at hA; subst hA; exact Nat.le_of_eq (Eq.symm hb)
theorem jq.push {es:Array MapEntry} {c:Nat} {m:List (K×Value)} (h:jq kV es c m) {x:K} (hx:m.lookup x=none) (v:Value):jq kV (es.push {key:=kV x,val:=v,born:=c}) (c+1) (m++[(x,v)]):=by
 refine ⟨by simp [h.list],?_,?_,?_⟩
 ·rw [List.map_append,List.nodup_append]
  refine ⟨h.keys,sm,fun a ha b hb=>?_⟩
  simp at hb; subst hb
  obtain ⟨p,hp,rfl⟩:=db.1 ha
  exact iB.1 hx p hp
 ·intro e he
  simp only [Array.toList_push,gH,cE] at he
  rcases he with he|rfl
  ·exact Nat.lt_succ_of_lt (h.QS e he)
  ·exact Nat.lt_succ_self _
 ·simp only [Array.toList_push,List.map_append,List.map_cons,List.map_nil]
  rw [List.nodup_append]
  refine ⟨h.born,sm,fun a ha b hb=>?_⟩
  simp at hb; subst hb
  obtain ⟨p,hp,rfl⟩:=db.1 ha
  exact Nat.ne_of_lt (h.QS p hp)
theorem NN {m:List (K×Value)} {j:Nat} {x:K} {v0 v:Value} (hn:(m.map (·.1)).Nodup) (hj:m[j]? =some (x,v0)):m.map (fun p=>if p.1=x then (x,v) else p)=m.set j (x,v):=by
 refine List.ext_getElem? fun i=>?_
 rw [gn,List.getElem?_set]
 by_cases e:j=i
 ·subst e
  have hl:=(bf.1 hj).1
  rw [hj]; simp [hl]
 ·rw [if_neg e]
  cases hi:m[i]? with
  |none=>rfl
  |some p=>
   simp only [Option.map_some]
   rw [if_neg]
   intro hp
   have B:(m.map (·.1))[i]? =some x:=by rw [gn,hi]; simp [hp]
   have C:(m.map (·.1))[j]? =some x:=by rw [gn,hj]; rfl
   have A:=(bf.1 B).1
   exact e (((List.getElem?_inj A hn).1 (B.trans C.symm)).symm)
theorem jq.set {es:Array MapEntry} {c:Nat} {m:List (K×Value)} (h:jq kV es c m) {x:K} {j:Nat} {v0:Value} (hj:m[j]? =some (x,v0)) (hx:m.lookup x=some v0) (v:Value):
 jq kV (es.modify j fun e=>{e with key:=kV x,val:=v}) c (eB m x v):=by
 have C:eB m x v=m.set j (x,v):=by unfold eB; rw [hx]; simpa using NN h.keys hj
 have hl:=(bf.1 hj).1
 have E:=h.size
 have A:j<es.size:=by omega
 have B:(es.modify j fun e=>{e with key:=kV x,val:=v}).toList=es.toList.set j {(es[j]) with key:=kV x,val:=v}:=by
  refine List.ext_getElem? fun i=>?_
  rw [Array.getElem?_toList,Array.getElem?_modify,List.getElem?_set]
  by_cases e:j=i
  ·subst e; simp [A]
  ·simp [e]
 have D:(es.toList.set j {(es[j]) with key:=kV x,val:=v}).map (·.born)=es.toList.map (·.born):=by
  rw [List.map_set]
  refine List.ext_getElem? fun i=>?_
  rw [List.getElem?_set]
  by_cases e:j=i
  ·subst e; simp [A]
  ·rw [if_neg e]
 refine ⟨?_,?_,?_,?_⟩
 ·rw [B,C,List.map_set,List.map_set,h.list]
 ·rw [C,List.map_set]
  have:(m.map (·.1)).set j x=m.map (·.1):=by
   refine List.ext_getElem? fun i=>?_
   rw [List.getElem?_set]
   by_cases e:j=i
   ·subst e; simp [hl]; simpa using (congrArg Prod.fst ((bf.1 hj).2)).symm
   ·rw [if_neg e]
  simp only [this]
  exact h.keys
 ·intro e he
  rw [B] at he
  have hb:e.born∈(es.toList.set j {(es[j]) with key:=kV x,val:=v}).map (·.born):=db.2 ⟨e,he,rfl⟩
  rw [D] at hb
  obtain ⟨e',he',hq⟩:=db.1 hb
  rw [← hq]; exact h.QS e' he'
 ·rw [B,D]; exact h.born
/-- m[x] = y -/
theorem iY {t kt et:TypeId} {xm xk xv:Operand} {b:Nat} {x:K} {v:Value} {m m':List (K×Value)} {C':List aA} (i:Nat) (hg:j_ ops L g=true) (hm:ev L xm=some (.map (some b))) (hk:ev L xk=some (kV x)) (hv:ev L xv=some v)
 (ht:E.P.underlying t=some (.map kt et)) (hkt:vR E.P kt kV) (hC:C[i]? =some (ku kV b m)) (hm':eB m x v=m') (hC':C.set i (ku kV b m')=C') (k:RJ E ops Q rest D L C'):
 RJ E ops Q (⟨none,.mapUpdate t xm xk xv,ty,ps,af,g⟩::rest) D L C:=by
 subst hm' hC'
 intro a w A hs
 unfold s_
 rw [if_pos (eG A hg)]
 obtain ⟨es,c,he,hi⟩:=hs.holds _ (aM hC)
 have B:(getObj b).run E.P w= .ok (.map es c) w:=MapKept.run_getObj_map he
 rcases pf (P:=E.P) (w:=w) (x:=x) hkt hi with ⟨AA,F⟩|⟨j,N,AA,F,J⟩
 ·refine sP (w':={w with heap:=w.heap.setIfInBounds b (.map (es.push {key:=kV x,val:=v,born:=c}) (c+1))}) sm ?_ ?_
  ·simp [execOp,A.ev hm,A.ev hk,A.ev hv,Instr.mapUpdate,run_underlying ht,B,jg hkt,AA,MapKept.run_setObj_map _ he]
  ·refine k _ _ ⟨A.defers,A.size,A.at_⟩ (hs.y_ (b:=b) i hC U U (ny _) (fun _ h=>h) ⟨_,_,pL he,?_⟩)
   have:eB m x v=m++[(x,v)]:=by unfold eB; rw [F]; rfl
   rw [this]; exact hi.push F v
 ·have M:=hi.size
  have G:j<es.size:=by have:=(bf.1 F).1; omega
  have H:(es[j]).key=kV x:=by
   have:=congrArg (fun l=>l[j]?) hi.list
   simp [G,F] at this
   exact this.1
  refine sP (w':={w with heap:=w.heap.setIfInBounds b (.map (es.modify j fun e=>{e with key:=kV x,val:=v}) c)}) sm ?_ ?_
  ·simp [execOp,A.ev hm,A.ev hk,A.ev hv,Instr.mapUpdate,run_underlying ht,B,jg hkt,AA,MapKept.run_setObj_map _ he,Instr.keyThatStays,G,H,hkt.bits x]
  ·exact k _ _ ⟨A.defers,A.size,A.at_⟩ (hs.y_ (b:=b) i hC U U (ny _) (fun _ h=>h) ⟨_,_,pL he,hi.set F J v⟩)
theorem jq.del {es:Array MapEntry} {c:Nat} {m:List (K×Value)} (h:jq kV es c m) {x:K} {j:Nat} {v0:Value} (hj:m[j]? =some (x,v0)):jq kV (es.eraseIdxIfInBounds j) c (fz m x):=by
 have hl:=(bf.1 hj).1
 have D:=h.size
 have A:j<es.size:=by omega
 have B:(es.eraseIdxIfInBounds j).toList=es.toList.eraseIdx j:=by simp [Array.eraseIdxIfInBounds,A]
 have E:fz m x=m.eraseIdx j:=by
  have hn:=h.keys
  clear h D A B
  induction m generalizing j with
  |nil=>simp at hj
  |cons p m ih=>
   obtain ⟨k,v⟩:=p
   simp only [List.map_cons,List.nodup_cons] at hn
   cases j with
   |zero=>
    simp at hj
    obtain ⟨rfl,rfl⟩:=hj
    simp only [fz,List.eraseIdx_zero,List.tail_cons]
    rw [List.filter_cons_of_neg sm]
    refine List.filter_eq_self.2 fun p hp=>?_
    have:p.1≠k:=fun e=>hn.1 (db.2 ⟨p,hp,e⟩)
    simpa using this
   |succ j=>
    simp only [List.getElem?_cons_succ] at hj
    have C:k≠x:=fun e=>hn.1 (db.2 ⟨_,aM hj,e.symm⟩)
    simp only [fz,List.eraseIdx_cons_succ] at ih ⊢
    rw [List.filter_cons_of_pos (by simpa using C),ih hj (by simpa using (bf.1 hj).1) hn.2]
 have sub:(es.eraseIdxIfInBounds j).toList.Sublist es.toList:=by rw [B]; exact List.eraseIdx_sublist _ _
 refine ⟨?_,?_,fun e he=>h.QS e (sub.subset he),h.born.sublist (sub.map _)⟩
 ·rw [B,E,ChangeMaps.map_eraseIdx,ChangeMaps.map_eraseIdx,h.list]
 ·rw [E]; exact h.keys.sublist ((List.eraseIdx_sublist _ _).map _)
theorem Dt {m:List (K×Value)} {x:K} (h:m.lookup x=none):fz m x=m:=List.filter_eq_self.2 fun p hp=>by simpa using iB.1 h p hp
/-- y, ok := m[x] -/
theorem Lm {t kt et:TypeId} {xm xk:Operand} {b:Nat} {x:K} {z:Value} {m:List (K×Value)} (hg:j_ ops L g=true) (hm:ev L xm=some (.map (some b))) (hk:ev L xk=some (kV x))
 (ht:E.P.underlying t=some (.map kt et)) (hkt:vR E.P kt kV) (hz:tV E.P et=some z) (hC:fY C (ku kV b m).holds):
 SD E ops ⟨dst,.lookup t xm xk true,ty,ps,af,g⟩ D L C (.tuple [(m.lookup x).getD z,.bool (m.lookup x).isSome].toArray):=
 eL hg sm fun a w A hs=>by
  obtain ⟨es,c,he,hi⟩:=hs.has hC
  have B:(getObj b).run E.P w= .ok (.map es c) w:=MapKept.run_getObj_map he
  rcases pf (P:=E.P) (w:=w) (x:=x) hkt hi with ⟨F,G⟩|⟨j,AA,F,G,H⟩
  ·simp [execOp,Instr.lookup,A.ev hm,A.ev hk,run_underlying ht,B,jg hkt,F,G,I9 hz]
  ·simp [execOp,Instr.lookup,A.ev hm,A.ev hk,run_underlying ht,B,jg hkt,F,H]
/-- m[x] -/
theorem HM {t kt et:TypeId} {xm xk:Operand} {b:Nat} {x:K} {z:Value} {m:List (K×Value)} (hg:j_ ops L g=true) (hm:ev L xm=some (.map (some b))) (hk:ev L xk=some (kV x))
 (ht:E.P.underlying t=some (.map kt et)) (hkt:vR E.P kt kV) (hz:tV E.P et=some z) (hC:fY C (ku kV b m).holds):
 SD E ops ⟨dst,.lookup t xm xk false,ty,ps,af,g⟩ D L C ((m.lookup x).getD z):=
 eL hg sm fun a w A hs=>by
  obtain ⟨es,c,he,hi⟩:=hs.has hC
  have B:(getObj b).run E.P w= .ok (.map es c) w:=MapKept.run_getObj_map he
  rcases pf (P:=E.P) (w:=w) (x:=x) hkt hi with ⟨F,G⟩|⟨j,AA,F,G,H⟩
  ·simp [execOp,Instr.lookup,A.ev hm,A.ev hk,run_underlying ht,B,jg hkt,F,G,I9 hz]
  ·simp [execOp,Instr.lookup,A.ev hm,A.ev hk,run_underlying ht,B,jg hkt,F,H]
theorem tH {β:Type} {t kt et:TypeId} {xm xk:Operand} {b:Nat} {x:K} {f:β→Value} {z:β} {l:List (K×β)} (hg:j_ ops L g=true) (hm:ev L xm=some (.map (some b))) (hk:ev L xk=some (kV x))
 (ht:E.P.underlying t=some (.map kt et)) (hkt:vR E.P kt kV) (hz:tV E.P et=some (f z)) (hC:fY C (ku kV b (cU f l)).holds):
 SD E ops ⟨dst,.lookup t xm xk true,ty,ps,af,g⟩ D L C (.tuple [f ((l.lookup x).getD z),.bool (l.lookup x).isSome].toArray):=by
 have:=Lm (dst:=dst) (ty:=ty) (ps:=ps) (af:=af) (D:=D) hg hm hk ht hkt hz hC
 rw [nu] at this
 have A:((l.lookup x).map f).getD (f z)=f ((l.lookup x).getD z):=by cases l.lookup x<;>rfl
 rw [A,Option.isSome_map] at this
 exact this
theorem wj {β:Type} {t kt et:TypeId} {xm xk:Operand} {b:Nat} {x:K} {f:β→Value} {z:β} {l:List (K×β)} (hg:j_ ops L g=true) (hm:ev L xm=some (.map (some b))) (hk:ev L xk=some (kV x))
 (ht:E.P.underlying t=some (.map kt et)) (hkt:vR E.P kt kV) (hz:tV E.P et=some (f z)) (hC:fY C (ku kV b (cU f l)).holds):
 SD E ops ⟨dst,.lookup t xm xk false,ty,ps,af,g⟩ D L C (f ((l.lookup x).getD z)):=by
 have:=HM (dst:=dst) (ty:=ty) (ps:=ps) (af:=af) (D:=D) hg hm hk ht hkt hz hC
 rw [nu] at this
 have A:((l.lookup x).map f).getD (f z)=f ((l.lookup x).getD z):=by cases l.lookup x<;>rfl
 rw [A] at this
 exact this
end
theorem mY {β:Type} {x:K} {y:β} {l:List (K×β)} (h:(x,y)∈l):(fz l x).length<l.length:=by
 unfold fz
 exact List.length_filter_lt_length_iff_exists.2 ⟨_,h,sm⟩
theorem zt {β:Type} {x:K} {p:K×β} {l:List (K×β)}:p∈fz l x↔p∈l∧p.1≠x:=by simp [fz]
/-- an iterator over a map: what is left; what came last -/
def AJ (kV:K→Value) (r b:Nat) (m left:List (K×Value)) (cur:Option (K×Value)):aA where
 fg k:=k=r∨k=b
 wf k:=k=r∨k=b
 holds w:=r≠b∧ ∃ (es:Array MapEntry) (c since:Nat) (seen:Array Nat) (st:Nat),w.heap[b]? =some (.map es c)∧jq kV es c m∧w.heap[r]? =some (.mapIter (some b) since seen st)∧(∀ e∈es.toList,e.born<since)∧since≤st∧since≤c∧
  (leftOf es seen).toList.map (fun (e:MapEntry)=>(e.key,e.val))=left.map (fun p=>(kV p.1,p.2))∧
  ∀ p,cur=some p→ ∃ (e:MapEntry) (seen0:Array Nat),e∈es.toList∧seen=seen0.push e.born∧st=c∧e.key=kV p.1∧e.val=p.2
 wr:=true
 kO _ h:=h
 whole _ _ h:=h
 lt w h k hk:=by
  obtain ⟨_,es,c,since,seen,st,h1,_,h2,_⟩:=h
  rcases hk with rfl|rfl
  ·exact eu h2
  ·exact eu h1
 pI w w' hk h:=by
  obtain ⟨hne,es,c,since,seen,st,h1,h2,h3,h4⟩:=h
  exact ⟨hne,es,c,since,seen,st,(hk b (.inr rfl)).trans h1,h2,(hk r (.inl rfl)).trans h3,h4⟩
theorem Bh {r b:Nat} {m left:List (K×Value)} {cur:Option (K×Value)}:(∀ w,(AJ kV r b m left cur).holds w→(AJ kV r b m left none).holds w)∧(∀ k,(AJ kV r b m left none).fg k→(AJ kV r b m left cur).fg k)∧ ∀ k,(AJ kV r b m left none).wf k→(AJ kV r b m left cur).wf k:=
 ⟨fun w h=>by
  obtain ⟨A,es,c,since,seen,st,B,C,D,E,F,h5',G,_⟩:=h
  exact ⟨A,es,c,since,seen,st,B,C,D,E,F,h5',G,fun p hp=>by cases hp⟩,fun _ h=>h,fun _ h=>h⟩
theorem H3 {r b:Nat} {m left:List (K×Value)} {cur:Option (K×Value)}:(∀ w,(AJ kV r b m left cur).holds w→(ku kV b m).holds w)∧(∀ k,(ku kV b m).fg k→(AJ kV r b m left cur).fg k)∧ ∀ k,(ku kV b m).wf k→(AJ kV r b m left cur).wf k:=
 ⟨fun w h=>by
  obtain ⟨C,es,c,since,seen,st,A,B,_⟩:=h
  exact ⟨es,c,A,B⟩,fun _ h=> .inr h,fun _ h=> .inr h⟩
theorem BT {es:Array MapEntry} {c:Nat} {m:List (K×Value)} (hinj: ∀ x y,kV x=kV y→x=y) (hi:jq kV es c m) {x y:MapEntry} (hx:x∈es.toList) (hy:y∈es.toList) (e:x.key=y.key):x=y:=by
 have hk:(es.toList.map (·.key))=(m.map (·.1)).map kV:=by
  have:=congrArg (List.map Prod.fst) hi.list
  simpa [Function.comp_def] using this
 have h:(es.toList.map (·.key)).Nodup:=by
  rw [hk,List.nodup_iff_pairwise_ne,List.pairwise_map]
  exact hi.keys.imp (fun B he=>B (hinj _ _ he))
 obtain ⟨i,A⟩:=List.getElem?_of_mem hx
 obtain ⟨j,hj⟩:=List.getElem?_of_mem hy
 have C:(es.toList.map (·.key))[i]? =some x.key:=by rw [gn,A]; rfl
 have D:(es.toList.map (·.key))[j]? =some x.key:=by rw [gn,hj,e]; rfl
 have E:=(List.getElem?_inj (bf.1 C).1 h).1 (C.trans D.symm)
 subst E
 exact Option.some.inj (A.symm.trans hj)
section
variable {E:fh} {ops:Array Oper} {Q:dj} {rest:List Oper} {D:List Deferred} {L:List (Nat×Value)} {C:List aA}
variable {dst:Option Tmp} {d:Nat} {ty:TypeId} {ps:String} {af:Array Edge} {g:Option (Nat×Bool)}
theorem zD {t kt et:TypeId} {xm:Operand} {b:Nat} {m:List (K×Value)} (i:Nat) (hg:j_ ops L g=true) (hm:ev L xm=some (.map (some b))) (ht:E.P.underlying t=some (.map kt et)) (hC:C[i]? =some (ku kV b m)) (hd:Nat.blt d E.n=true)
 (k: ∀ r,RJ E ops Q rest D ((d,.pointer (some ⟨r,0,none⟩))::L) (C.set i (AJ kV r b m m none))):RJ E ops Q (⟨some d,.range t xm,ty,ps,af,g⟩::rest) D L C:=by
 intro a w A hs
 have hd':d<E.n:=by rw [← Nat.blt_eq]; exact hd
 unfold s_
 rw [if_pos (eG A hg)]
 obtain ⟨es,c,he,hi⟩:=hs.holds _ (aM hC)
 have F:b<w.heap.size:=eu he
 have B:(getObj b).run E.P w= .ok (.map es c) w:=MapKept.run_getObj_map he
 refine jf (v:= .pointer (some ⟨w.heap.size,0,none⟩)) (w':=w.alloc (.mapIter (some b) c #[] c)) sm ?_ ?_
 ·simp [execOp,Instr.range,A.ev hm,run_underlying ht,B,newObj,Sem.run]
 ·refine k _ _ _ (A.put hd' _) (hs.mv i hC ⟨⟨I,es,c,c,#[],c,?_,hi,heap_alloc_new w _,hi.QS,Nat.le_refl _,Nat.le_refl _,?_,fun p hp=>by cases hp⟩,dV.alloc _ w _,fun q hq=>?_,fun q hq=>?_⟩)
  ·rw [Below.heap_alloc w _ b F]; exact he
  ·have:leftOf es #[]=es:=by unfold leftOf; exact Array.filter_eq_self.2 sm
   rw [this]; exact hi.list
  ·rcases hq with rfl|rfl
   ·exact .inr (Nat.le_refl _)
   ·exact .inl U
  ·rcases hq with rfl|rfl
   ·exact .inr (Nat.le_refl _)
   ·exact .inl U
theorem yp {es:Array MapEntry} {c:Nat} {m left:List (K×Value)} {seen:Array Nat} (hinj: ∀ x y,kV x=kV y→x=y) (hi:jq kV es c m) (h:(leftOf es seen).toList.map (fun (e:MapEntry)=>(e.key,e.val))=left.map (fun p=>(kV p.1,p.2))):(left.map (·.1)).Nodup:=by
 have B:((leftOf es seen).toList.map (·.key)).Sublist (es.toList.map (·.key)):=by
  unfold leftOf; rw [Array.toList_filter]; exact List.filter_sublist.map _
 have D:(es.toList.map (·.key))=(m.map (·.1)).map kV:=by
  have:=congrArg (List.map Prod.fst) hi.list
  simpa [Function.comp_def] using this
 have E:((leftOf es seen).toList.map (·.key))=(left.map (·.1)).map kV:=by
  have:=congrArg (List.map Prod.fst) h
  simpa [Function.comp_def] using this
 rw [D,E] at B
 have F:((m.map (·.1)).map kV).Nodup:=by
  rw [List.nodup_iff_pairwise_ne,List.pairwise_map]
  exact hi.keys.imp (fun A he=>A (hinj _ _ he))
 have C:=F.sublist B
 rw [List.nodup_iff_pairwise_ne,List.pairwise_map] at C
 rw [List.nodup_iff_pairwise_ne]
 exact C.imp (fun A he=>A (by rw [he]))
theorem LC (hinj: ∀ x y,kV x=kV y→x=y) {xi:Operand} {r b:Nat} {m left:List (K×Value)} {cur:Option (K×Value)} (i:Nat) (hg:j_ ops L g=true) (hm:ev L xi=some (.pointer (some ⟨r,0,none⟩))) (hC:C[i]? =some (AJ kV r b m left cur)) (hd:Nat.blt d E.n=true)
 (k0:left=[]→RJ E ops Q rest D ((d,.tuple [.bool false].toArray)::L) C)
 (k1: ∀ x v,(x,v)∈left→(left.map (·.1)).Nodup→RJ E ops Q rest D ((d,.tuple [.bool true,kV x,v].toArray)::L) (C.set i (AJ kV r b m (fz left x) (some (x,v))))):
 RJ E ops Q (⟨some d,.next xi false,ty,ps,af,g⟩::rest) D L C:=by
 intro a w G hs
 have hd':d<E.n:=by rw [← Nat.blt_eq]; exact hd
 unfold s_
 rw [if_pos (eG G hg)]
 obtain ⟨R,es,c,since,seen,st,X,hi,Y,J,V,M,A,_⟩:=hs.holds _ (aM hC)
 rcases run_next_at (P:=E.P) w ty r b since st seen es c Y X J V with ⟨Z,hr⟩|⟨e,he,N,H,hr⟩
 ·refine jf (v:= .tuple #[.bool false]) (w':=w) sm ?_ ?_
  ·simp [execOp,G.ev hm,hr]
  ·refine k0 ?_ _ _ (G.put hd' _) hs
   have:(leftOf es seen).toList=[]:=by rw [← List.length_eq_zero_iff,Array.length_toList]; exact Z
   rw [this] at A
   exact List.map_eq_nil_iff.1 A.symm
 ·have O:(e.key,e.val)∈left.map (fun p=>(kV p.1,p.2)):=by rw [← A]; exact db.2 ⟨e,he,rfl⟩
  obtain ⟨p,hp,S⟩:=db.1 O
  obtain ⟨x,v⟩:=p
  simp only [Prod.mk.injEq] at S
  obtain ⟨hk,hv⟩:=S
  refine jf (v:= .tuple #[.bool true,e.key,e.val]) (w':=ChangeMaps.setBlock N r (.mapIter (some b) since (seen.push e.born) c)) sm ?_ ?_
  ·simp [execOp,G.ev hm,hr]
  ·rw [← hk,← hv]
   have AA:=yp hinj hi A
   have F:e∈es.toList:=by unfold leftOf at he; rw [Array.toList_filter] at he; exact (List.mem_filter.1 he).1
   have f:c=c:=rfl
   have B:N.heap=w.heap:=by rcases H with rfl|rfl<;>rfl
   refine k1 x v hp AA _ _ (G.put hd' _) (hs.mv i hC ⟨⟨R,es,c,since,seen.push e.born,c,?_,hi,?_,J,M,M,?_,fun q hq=>?_⟩,?_,fun q hq=> .inl hq,fun q hq=> .inl hq⟩)
   ·show (N.heap.setIfInBounds r _)[b]? =_
    rw [Array.getElem?_setIfInBounds_ne R,B]; exact X
   ·show (N.heap.setIfInBounds r _)[r]? =_
    rw [Array.getElem?_setIfInBounds_self_of_lt (by rw [B]; exact eu Y)]
   ·have T:leftOf es (seen.push e.born)=(leftOf es seen).filter (fun z=> !(z.born==e.born)):=by
     unfold leftOf
     rw [Array.filter_filter]
     congr 1
     funext z
     simp only [Array.contains_push,Bool.not_or]
     rw [Bool.and_comm]
    rw [T,Array.toList_filter]
    have key: ∀ (l:List MapEntry) (ll:List (K×Value)),(∀ z∈l,z∈es.toList)→l.map (fun (e:MapEntry)=>(e.key,e.val))=ll.map (fun p=>(kV p.1,p.2))→
     (l.filter (fun z=> !(z.born==e.born))).map (fun (e:MapEntry)=>(e.key,e.val))=(fz ll x).map (fun p=>(kV p.1,p.2)):=by
     intro l
     induction l with
     |nil=>intro ll _ h; cases ll with
      |nil=>rfl
      |cons p ll=>simp at h
     |cons z l ih=>
      intro ll hz h
      cases ll with
      |nil=>simp at h
      |cons p ll=>
       simp only [List.map_cons,List.cons.injEq,Prod.mk.injEq] at h
       have ih':=ih ll (fun y hy=>hz y (by simp [hy])) h.2
       have AB:(z.born=e.born)↔(p.1=x):=by
        constructor
        ·intro hb
         have:z=e:=Dd hi.born (hz z sm) F hb
         rw [this] at h
         have:=h.1.1.symm.trans hk.symm
         exact hinj _ _ this
        ·intro hx
         have W:z.key=e.key:=by rw [h.1.1,hx,hk]
         rw [BT hinj hi (hz z sm) F W]
       unfold fz at ih' ⊢
       by_cases hx:p.1=x
       ·rw [List.filter_cons_of_neg (by simp [AB.2 hx]),List.filter_cons_of_neg (by simp [hx])]; exact ih'
       ·rw [List.filter_cons_of_pos (by simpa using fun hb=>hx (AB.1 hb)),List.filter_cons_of_pos (by simpa using hx)]
        simp only [List.map_cons,h.1.1,h.1.2,ih']
    exact key _ _ (fun z hz=>by unfold leftOf at hz; rw [Array.toList_filter] at hz; exact (List.mem_filter.1 hz).1) A
   ·cases hq
    exact ⟨e,seen,F,U,U,hk.symm,hv.symm⟩
   ·refine ⟨?_,?_,?_,?_,fun q hq hn=>?_⟩
    ·rcases H with rfl|rfl<;>rfl
    ·rcases H with rfl|rfl<;>rfl
    ·rcases H with rfl|rfl<;>rfl
    ·show w.heap.size≤(N.heap.setIfInBounds r _).size
     simp [B]
    ·show (N.heap.setIfInBounds r _)[q]? =_
     rw [Array.getElem?_setIfInBounds_ne (fun e=>hn (.inl e.symm)),B]
theorem yd {xi:Operand} {r b:Nat} {m left:List (K×Value)} {x:K} {v:Value} (i:Nat) (hg:j_ ops L g=true) (hm:ev L xi=some (.pointer (some ⟨r,0,none⟩))) (hC:C[i]? =some (AJ kV r b m left (some (x,v)))):
 SD E ops ⟨dst,.entry xi,ty,ps,af,g⟩ D L C (.tuple [kV x,v].toArray):=
 eL hg sm fun a w F hs=>by
  obtain ⟨N,es,c,since,seen,st,J,hi,M,H,O,AA,G,B⟩:=hs.holds _ (aM hC)
  obtain ⟨e,A,he,rfl,rfl,hk,hv⟩:=B _ rfl
  have:=run_entry_at (P:=E.P) w r b since A es st e M J he hi.born
  simp [execOp,F.ev hm,this,hk,hv]
theorem xX (hinj: ∀ x y,kV x=kV y→x=y) {β:Type} {f:β→Value} {xi:Operand} {r b:Nat} {m:List (K×Value)} {ll:List (K×β)} {cur:Option (K×Value)} (i:Nat) (hg:j_ ops L g=true) (hm:ev L xi=some (.pointer (some ⟨r,0,none⟩))) (hC:C[i]? =some (AJ kV r b m (cU f ll) cur)) (hd:Nat.blt d E.n=true)
 (k0:ll=[]→RJ E ops Q rest D ((d,.tuple [.bool false].toArray)::L) C)
 (k1: ∀ x y,(x,y)∈ll→(ll.map (·.1)).Nodup→RJ E ops Q rest D ((d,.tuple [.bool true,kV x,f y].toArray)::L) (C.set i (AJ kV r b m (cU f (fz ll x)) (some (x,f y))))):
 RJ E ops Q (⟨some d,.next xi false,ty,ps,af,g⟩::rest) D L C:=by
 refine LC hinj i hg hm hC hd (fun h=>k0 (List.map_eq_nil_iff.1 h)) (fun x v B hn=>?_)
 obtain ⟨p,hp,A⟩:=db.1 B
 simp only [Prod.mk.injEq] at A
 obtain ⟨rfl,rfl⟩:=A
 have:=k1 p.1 p.2 hp (by simpa [cU,Function.comp_def] using hn)
 rwa [nU] at this
end
end
end
section
structure cr where
 Start:Int
 gj:Int
 qB:List Int
 zr:List (List (Int×ai))
 dC:Int
 fJ:Int
 Vw:Int
def cr.n (w:cr):Nat:=w.qB.length
def gl (s:Int):aQ:=if s<0 then ⟨0,1⟩ else ⟨1,0⟩
def dL (a b:aQ):aQ:=⟨a.right+b.right,a.fB+b.fB⟩
def wN (w:cr) (b:Nat):List (Int×ai):=(w.zr[b]?).getD []
def jV (w:cr) (b:Nat):List (Int×ai):=(-1,⟨w.Start,w.gj⟩)::wN w b
def de (w:cr) (b:Nat):Int:=(w.qB[b]?).getD 0
def m6 (w:cr) (b:Nat) (p:aQ×Int) (o:Int×ai):Option (aQ×Int):=if max (p.2+de w b) o.2.Lo≤min o.2.Hi w.gj then some (dL p.1 (gl o.1),max (p.2+de w b) o.2.Lo) else none
def qx (w:cr):Nat→List (aQ×Int)
 |0=>[(⟨0,0⟩,w.Start)]
 |b+1=>(qx w b).flatMap fun p=>(jV w b).filterMap (m6 w b p)
def pA (w:cr) (b:Nat) (p:aQ×Int) (o:Int×ai):Option (aQ×Int):=if o.2.Lo≤min p.2 o.2.Hi then some (dL p.1 (gl o.1),min p.2 o.2.Hi-de w b) else none
def N9 (w:cr):Nat→List (aQ×Int)
 |0=>[(⟨0,0⟩,w.gj)]
 |k+1=>(⟨0,0⟩,w.gj)::(N9 w k).flatMap fun p=>(jV w (w.n-(k+1))).filterMap (pA w (w.n-(k+1)) p)
def back (w:cr) (b:Nat):List (aQ×Int):=N9 w (w.n-b)
def m0 (w:cr) (t:aQ):Bool:=decide (t.fB≤w.dC∧w.Vw-t.right≤w.fJ)
theorem kF {w:cr} {b:Nat} {q:aQ×Int}:q∈qx w (b+1)↔ ∃ p∈qx w b,∃ o∈jV w b,m6 w b p o=some q:=by
 simp only [qx,List.mem_flatMap,List.mem_filterMap]
theorem vr {w:cr} {b:Nat} (h:w.n≤b):back w b=[(⟨0,0⟩,w.gj)]:=by
 unfold back; rw [Nat.sub_eq_zero_of_le h]; rfl
theorem o9 {w:cr} {b:Nat} (h:b<w.n) {q:aQ×Int}:q∈back w b↔q=(⟨0,0⟩,w.gj)∨ ∃ p∈back w (b+1),∃ o∈jV w b,pA w b p o=some q:=by
 unfold back
 have e:w.n-b=(w.n-(b+1))+1:=by omega
 rw [e]
 simp only [N9,b_,List.mem_flatMap,List.mem_filterMap]
 rw [show w.n-(w.n-(b+1)+1)=b by omega]
def uf (m c:List (aQ×Int)):Prop:=(∀ t v,m.lookup t=some v→(t,v)∈c)∧ ∀ t y,(t,y)∈c→ ∃ v,m.lookup t=some v∧v≤y
def vZ (m c:List (aQ×Int)):Prop:=(∀ t v,m.lookup t=some v→(t,v)∈c)∧ ∀ t y,(t,y)∈c→ ∃ v,m.lookup t=some v∧y≤v
def v_ (m c:List (aQ×Int)):Prop:= ∀ t v,m.lookup t=some v→(t,v)∈c
theorem lI {K β:Type} [DecidableEq K] {m:List (K×β)} {x t:K} {y:β}:(eB m x y).lookup t=if t=x then some y else m.lookup t:=by
 unfold eB
 by_cases hx:(m.lookup x).isSome
 ·rw [if_pos hx]
  have key: ∀ l:List (K×β),(l.lookup x).isSome∨True→(l.map (fun p=>if p.1=x then (x,y) else p)).lookup t=if t=x then (if (l.lookup x).isSome then some y else none) else l.lookup t:=by
   intro l _
   induction l with
   |nil=>simp
   |cons p l ih=>
    obtain ⟨k,v⟩:=p
    have ih:=ih (.inr trivial)
    by_cases hk:k=x
    ·subst hk
     by_cases ht:t=k
     ·subst ht; simp [List.lookup]
     ·have:(t==k)=false:=by simpa using ht
      simp only [List.map_cons,if_true,List.lookup,this,ih,if_neg ht]
    ·have hk':(x==k)=false:=by simpa using fun e=>hk e.symm
     by_cases ht:t=k
     ·subst ht; simp [List.lookup,hk]
     ·have A:(t==k)=false:=by simpa using ht
      simp only [List.map_cons,if_neg hk,List.lookup,A,ih,hk']
  rw [key m (.inr trivial)]
  by_cases ht:t=x
  ·subst ht
   rw [if_pos rfl,if_pos rfl,if_pos hx]
  ·rw [if_neg ht,if_neg ht]
 ·rw [if_neg hx]
  have hn:m.lookup x=none:=by cases h0:m.lookup x with
   |none=>rfl
   |some v=>exact absurd (by rw [h0]; rfl) hx
  by_cases ht:t=x
  ·subst ht
   rw [if_pos rfl]
   have:=iB.1 hn
   clear hn hx
   induction m with
   |nil=>simp
   |cons p m ih=>
    obtain ⟨k,v⟩:=p
    have hk:(t==k)=false:=by simpa using fun e=>this (k,v) sm e.symm
    simp only [List.cons_append,List.lookup,hk]
    exact ih (fun q hq=>this q (dh _ hq))
  ·rw [if_neg ht]
   clear hn hx
   induction m with
   |nil=>
    have:(t==x)=false:=by simpa using ht
    simp [List.lookup,this]
   |cons p m ih=>
    obtain ⟨k,v⟩:=p
    by_cases hk:t=k
    ·subst hk; simp [List.lookup]
    ·have:(t==k)=false:=by simpa using hk
     simp only [List.cons_append,List.lookup,this]
     exact ih
/-- what a map is after a try -/
def pM (m:List (aQ×Int)) (q:aQ×Int):List (aQ×Int):=match m.lookup q.1 with
 |none=>eB m q.1 q.2
 |some v=>if q.2<v then eB m q.1 q.2 else m
def pg (m:List (aQ×Int)) (q:aQ×Int):List (aQ×Int):=match m.lookup q.1 with
 |none=>eB m q.1 q.2
 |some v=>if v<q.2 then eB m q.1 q.2 else m
theorem yu {m:List (aQ×Int)} {q:aQ×Int} {t:aQ}:(pM m q).lookup t=if t=q.1 then some (match m.lookup q.1 with |none=>q.2|some v=>min q.2 v) else m.lookup t:=by
 unfold pM
 cases h:m.lookup q.1 with
 |none=>simp only; rw [lI]
 |some v=>
  simp only
  split
  ·rename_i A
   rw [lI,Int.min_eq_left I]
  ·rename_i A
   split
   ·rename_i e; subst e; rw [h,Int.min_eq_right I]
   ·rfl
theorem yx {m:List (aQ×Int)} {q:aQ×Int} {t:aQ}:(pg m q).lookup t=if t=q.1 then some (match m.lookup q.1 with |none=>q.2|some v=>max q.2 v) else m.lookup t:=by
 unfold pg
 cases h:m.lookup q.1 with
 |none=>simp only; rw [lI]
 |some v=>
  simp only
  split
  ·rename_i A
   rw [lI,Int.max_eq_left I]
  ·rename_i A
   split
   ·rename_i e; subst e; rw [h,Int.max_eq_right I]
   ·rfl
def xq (m m':List (aQ×Int)):Prop:= ∀ t v,m.lookup t=some v→ ∃ v',m'.lookup t=some v'∧v'≤v
def x4 (m m':List (aQ×Int)):Prop:= ∀ t v,m.lookup t=some v→ ∃ v',m'.lookup t=some v'∧v≤v'
theorem xq.refl (m:List (aQ×Int)):xq m m:=fun t v h=>⟨v,h,I⟩
theorem x4.refl (m:List (aQ×Int)):x4 m m:=fun t v h=>⟨v,h,I⟩
theorem wk {m:List (aQ×Int)} {q:aQ×Int}:xq m (pM m q):=fun t v h=>by
 rw [yu]
 split
 ·rename_i e; subst e; rw [h]; exact ⟨_,rfl,by simp only; omega⟩
 ·exact ⟨v,h,I⟩
theorem rz {m:List (aQ×Int)} {q:aQ×Int}:x4 m (pg m q):=fun t v h=>by
 rw [yx]
 split
 ·rename_i e; subst e; rw [h]; exact ⟨_,rfl,by simp only; omega⟩
 ·exact ⟨v,h,I⟩
theorem Hy {m c:List (aQ×Int)} {q:aQ×Int} (h:v_ m c) (hq:q∈c):v_ (pM m q) c:=fun t v hv=>by
 rw [yu] at hv
 split at hv
 ·rename_i e
  subst e
  cases hm:m.lookup q.1 with
  |none=>simp only [hm,Option.some.injEq] at hv; subst hv; exact hq
  |some x=>
   simp only [hm,Option.some.injEq] at hv; subst hv
   rcases Int.lt_or_le q.2 x with A|A
   ·rw [Int.min_eq_left I]; exact hq
   ·rw [Int.min_eq_right I]; exact h _ _ hm
 ·exact h t v hv
theorem GK {m c:List (aQ×Int)} {q:aQ×Int} (h:v_ m c) (hq:q∈c):v_ (pg m q) c:=fun t v hv=>by
 rw [yx] at hv
 split at hv
 ·rename_i e
  subst e
  cases hm:m.lookup q.1 with
  |none=>simp only [hm,Option.some.injEq] at hv; subst hv; exact hq
  |some x=>
   simp only [hm,Option.some.injEq] at hv; subst hv
   rcases Int.lt_or_le q.2 x with A|A
   ·rw [Int.max_eq_right I]; exact h _ _ hm
   ·rw [Int.max_eq_left I]; exact hq
 ·exact h t v hv
theorem HN {m:List (aQ×Int)} {q:aQ×Int}: ∃ v,(pM m q).lookup q.1=some v∧v≤q.2:=by
 rw [yu,if_pos rfl]
 refine ⟨_,U,?_⟩
 cases m.lookup q.1<;>simp only <;>omega
theorem GP {m:List (aQ×Int)} {q:aQ×Int}: ∃ v,(pg m q).lookup q.1=some v∧q.2≤v:=by
 rw [yx,if_pos rfl]
 refine ⟨_,U,?_⟩
 cases m.lookup q.1<;>simp only <;>omega
/-- all that comes of one entry, by some options, is held -/
def jt (w:cr) (b:Nat) (m:List (aQ×Int)) (p:aQ×Int) (os:List (Int×ai)):Prop:= ∀ o∈os,∀ q,m6 w b p o=some q→ ∃ v,m.lookup q.1=some v∧v≤q.2
def jo (w:cr) (b:Nat) (m:List (aQ×Int)) (p:aQ×Int) (os:List (Int×ai)):Prop:= ∀ o∈os,∀ q,pA w b p o=some q→ ∃ v,m.lookup q.1=some v∧q.2≤v
theorem jt.lower {w:cr} {b:Nat} {m m':List (aQ×Int)} {p:aQ×Int} {os:List (Int×ai)} (h:jt w b m p os) (hl:xq m m'):jt w b m' p os:=fun o ho q hq=>by
 obtain ⟨v,A,C⟩:=h o ho q hq
 obtain ⟨v',B,D⟩:=hl _ _ A
 exact ⟨v',B,I⟩
theorem jo.upper {w:cr} {b:Nat} {m m':List (aQ×Int)} {p:aQ×Int} {os:List (Int×ai)} (h:jo w b m p os) (hl:x4 m m'):jo w b m' p os:=fun o ho q hq=>by
 obtain ⟨v,A,C⟩:=h o ho q hq
 obtain ⟨v',B,D⟩:=hl _ _ A
 exact ⟨v',B,I⟩
theorem jt.sub {w:cr} {b:Nat} {m:List (aQ×Int)} {p:aQ×Int} {os os':List (Int×ai)} (h:jt w b m p os) (hs: ∀ o∈os',o∈os):jt w b m p os':=fun o ho=>h o (hs o ho)
theorem jo.sub {w:cr} {b:Nat} {m:List (aQ×Int)} {p:aQ×Int} {os os':List (Int×ai)} (h:jo w b m p os) (hs: ∀ o∈os',o∈os):jo w b m p os':=fun o ho=>h o (hs o ho)
theorem jt.add {w:cr} {b:Nat} {m m':List (aQ×Int)} {p:aQ×Int} {os:List (Int×ai)} {o:Int×ai} (h:jt w b m p os) (hl:xq m m') (hn: ∀ q,m6 w b p o=some q→ ∃ v,m'.lookup q.1=some v∧v≤q.2):jt w b m' p (os++[o]):=fun o' ho q hq=>by
 rcases gH.1 ho with ho|ho
 ·exact h.lower hl o' ho q hq
 ·simp only [cE] at ho; subst ho; exact hn q hq
theorem jo.add {w:cr} {b:Nat} {m m':List (aQ×Int)} {p:aQ×Int} {os:List (Int×ai)} {o:Int×ai} (h:jo w b m p os) (hl:x4 m m') (hn: ∀ q,pA w b p o=some q→ ∃ v,m'.lookup q.1=some v∧q.2≤v):jo w b m' p (os++[o]):=fun o' ho q hq=>by
 rcases gH.1 ho with ho|ho
 ·exact h.upper hl o' ho q hq
 ·simp only [cE] at ho; subst ho; exact hn q hq
theorem fU {m:List (aQ×Int)} (hn:(m.map (·.1)).Nodup) {t:aQ} {v:Int}:(t,v)∈m↔m.lookup t=some v:=lB hn
theorem pH {z t:aQ} {x v:Int}:List.lookup t [(z,x)]=some v↔t=z∧v=x:=by
 by_cases e:t=z
 ·subst e; simp [List.lookup,eq_comm]
 ·have:(t==z)=false:=by simpa using e
  simp [List.lookup,this,e]
theorem HE {w:cr}:uf [(⟨0,0⟩,w.Start)] (qx w 0):=by
 refine ⟨fun t v h=>?_,fun t y h=>?_⟩
 ·obtain ⟨rfl,rfl⟩:=pH.1 h
  simp [qx]
 ·simp only [qx,cE,Prod.mk.injEq] at h
  obtain ⟨rfl,rfl⟩:=h
  exact ⟨w.Start,pH.2 ⟨U,U⟩,Int.le_refl _⟩
theorem Jo {w:cr} {b:Nat} {mb m:List (aQ×Int)} (hn:(mb.map (·.1)).Nodup) (h:uf mb (qx w b)) (hs:v_ m (qx w (b+1))) (hd: ∀ p∈mb,jt w b m p (jV w b)):uf m (qx w (b+1)):=⟨hs,fun t y hy=>by
 obtain ⟨p,hp,o,ho,e⟩:=kF.1 hy
 obtain ⟨v,B,E⟩:=h.2 p.1 p.2 hp
 unfold m6 at e
 split at e
 ·rename_i D
  simp only [Option.some.injEq,Prod.mk.injEq] at e
  obtain ⟨v',A,C⟩:=hd (p.1,v) ((fU hn).2 B) o ho (dL p.1 (gl o.1),max (v+de w b) o.2.Lo) (by unfold m6; rw [if_pos (by simp only; omega)])
  simp only at A C
  rw [e.1] at A
  exact ⟨v',A,I⟩
 ·cases e⟩
theorem Jn {w:cr} {b:Nat} (hb:w.n≤b):vZ [(⟨0,0⟩,w.gj)] (back w b):=by
 rw [vr hb]
 refine ⟨fun t v h=>?_,fun t y h=>?_⟩
 ·obtain ⟨rfl,rfl⟩:=pH.1 h
  simp
 ·simp only [cE,Prod.mk.injEq] at h
  obtain ⟨rfl,rfl⟩:=h
  exact ⟨w.gj,pH.2 ⟨U,U⟩,Int.le_refl _⟩
theorem Ig {w:cr} {b:Nat} (hb:b<w.n) {mb m:List (aQ×Int)} (hn:(mb.map (·.1)).Nodup) (h:vZ mb (back w (b+1))) (hs:v_ m (back w b)) (h0: ∃ v,m.lookup ⟨0,0⟩=some v∧w.gj≤v) (hd: ∀ p∈mb,jo w b m p (jV w b)):vZ m (back w b):=⟨hs,fun t y hy=>by
 rcases (o9 hb).1 hy with e|⟨p,hp,o,ho,e⟩
 ·simp only [Prod.mk.injEq] at e
  obtain ⟨rfl,rfl⟩:=e
  exact h0
 obtain ⟨v,B,E⟩:=h.2 p.1 p.2 hp
 unfold pA at e
 split at e
 ·rename_i D
  simp only [Option.some.injEq,Prod.mk.injEq] at e
  obtain ⟨v',A,C⟩:=hd (p.1,v) ((fU hn).2 B) o ho (dL p.1 (gl o.1),min v o.2.Hi-de w b) (by unfold pA; rw [if_pos (by simp only; omega)])
  simp only at A C
  rw [e.1] at A
  exact ⟨v',A,I⟩
 ·cases e⟩
end
section
def lx (w:cr) (b:Nat) (p u:aQ×Int) (o:Int×ai):ai:=⟨max (p.2+de w b) o.2.Lo,min u.2 o.2.Hi⟩
def zl (p u:aQ×Int) (o:Int×ai):aQ:=dL (dL p.1 u.1) (gl o.1)
def mR (w:cr) (b:Nat) (p u:aQ×Int) (o:Int×ai):Option (Int×ai):=if (lx w b p u o).Lo≤(lx w b p u o).Hi∧m0 w (zl p u o)=true then some (o.1,lx w b p u o) else none
def qy (w:cr) (b:Nat) (mf mb:List (aQ×Int)):List (Int×ai):=(jV w b).flatMap fun o=>mf.flatMap fun p=>mb.filterMap fun u=>mR w b p u o
def q6 (w:cr) (b:Nat):List (Int×ai):=qy w b (qx w b) (back w (b+1))
theorem ju {w:cr} {b:Nat} {mf mb:List (aQ×Int)} {q:Int×ai}:q∈qy w b mf mb↔ ∃ o∈jV w b,∃ p∈mf,∃ u∈mb,mR w b p u o=some q:=by
 simp only [qy,List.mem_flatMap,List.mem_filterMap]
theorem lj {w:cr} {b:Nat} {p u:aQ×Int} {o q:Int×ai}:mR w b p u o=some q↔(lx w b p u o).Lo≤(lx w b p u o).Hi∧m0 w (zl p u o)=true∧q=(o.1,lx w b p u o):=by
 unfold mR
 split
 ·rename_i h
  simp only [Option.some.injEq]
  exact ⟨fun e=>⟨h.1,h.2,e.symm⟩,fun e=>e.2.2.symm⟩
 ·rename_i h
  simp only [reduceCtorEq,false_iff]
  exact fun e=>h ⟨e.1,e.2.1⟩
theorem oJ {w:cr} {b:Nat} {mf mb:List (aQ×Int)} {q:Int×ai} (h:q∈qy w b mf mb):q.2.Lo≤q.2.Hi:=by
 obtain ⟨o,_,p,_,u,_,e⟩:=ju.1 h
 obtain ⟨A,_,rfl⟩:=lj.1 e
 exact A
/-- what the maps tell is what all ways tell -/
theorem N2 {w:cr} {b:Nat} {mf mb:List (aQ×Int)} (hf:uf mf (qx w b)) (hb:vZ mb (back w (b+1))) (nf:(mf.map (·.1)).Nodup) (nb:(mb.map (·.1)).Nodup) {q:Int×ai} (h:q∈qy w b mf mb):q∈q6 w b:=by
 obtain ⟨o,ho,p,hp,u,hu,e⟩:=ju.1 h
 exact ju.2 ⟨o,ho,p,hf.1 _ _ ((fU nf).1 hp),u,hb.1 _ _ ((fU nb).1 hu),e⟩
theorem JB {w:cr} {b:Nat} {mf mb:List (aQ×Int)} (hf:uf mf (qx w b)) (hb:vZ mb (back w (b+1))) (nf:(mf.map (·.1)).Nodup) (nb:(mb.map (·.1)).Nodup) {q:Int×ai} (h:q∈q6 w b): ∃ q'∈qy w b mf mb,q'.1=q.1∧q'.2.Lo≤q.2.Lo∧q.2.Hi≤q'.2.Hi:=by
 obtain ⟨o,ho,p,hp,u,hu,e⟩:=ju.1 h
 obtain ⟨A,B,rfl⟩:=lj.1 e
 obtain ⟨v,hv,C⟩:=hf.2 p.1 p.2 hp
 obtain ⟨y,hy,D⟩:=hb.2 u.1 u.2 hu
 simp only [lx] at A
 refine ⟨(o.1,lx w b (p.1,v) (u.1,y) o),ju.2 ⟨o,ho,(p.1,v),(fU nf).2 hv,(u.1,y),(fU nb).2 hy,lj.2 ⟨?_,B,U⟩⟩,U,?_,?_⟩
 ·simp only [lx]; omega
 ·simp only [lx]; omega
 ·simp only [lx]; omega
def mX:ai:=⟨1,0⟩
def mT (h x:ai):ai:=if h=mX then x else ⟨min x.Lo h.Lo,max x.Hi h.Hi⟩
def wc (l:List (Int×ai)):ai:=l.foldl (fun h q=>mT h q.2) mX
structure oU (l:List (Int×ai)) (h:ai):Prop where
 le:h.Lo≤h.Hi
 lo: ∃ x∈l,x.2.Lo=h.Lo
 hi: ∃ x∈l,x.2.Hi=h.Hi
 all: ∀ x∈l,h.Lo≤x.2.Lo∧x.2.Hi≤h.Hi
def kJ (l:List (Int×ai)) (h:ai):Prop:=(l=[]∧h=mX)∨oU l h
theorem oU.ne {l:List (Int×ai)} {h:ai} (hh:oU l h):h≠mX:=fun e=>by
 have:=hh.le; rw [e] at this; simp [mX] at this
theorem B8:kJ [] mX:= .inl ⟨rfl,rfl⟩
theorem vj {l:List (Int×ai)} {h:ai} {q:Int×ai} (hh:kJ l h) (hq:q.2.Lo≤q.2.Hi):kJ (l++[q]) (mT h q.2):=by
 right
 rcases hh with ⟨rfl,rfl⟩|hh
 ·unfold mT
  rw [if_pos rfl]
  exact ⟨hq,⟨q,sm,rfl⟩,⟨q,sm,rfl⟩,fun x hx=>by simp at hx; subst hx; exact ⟨Int.le_refl _,Int.le_refl _⟩⟩
 ·unfold mT
  rw [if_neg hh.ne]
  have A:=hh.le
  obtain ⟨a,ha,ea⟩:=hh.lo
  obtain ⟨c,hc,ec⟩:=hh.hi
  refine ⟨by simp only; omega,?_,?_,fun x hx=>?_⟩
  ·rcases Int.lt_or_le q.2.Lo h.Lo with p|p
   ·exact ⟨q,sm,by simp only; omega⟩
   ·exact ⟨a,by simp [ha],by simp only; omega⟩
  ·rcases Int.lt_or_le h.Hi q.2.Hi with p|p
   ·exact ⟨q,sm,by simp only; omega⟩
   ·exact ⟨c,by simp [hc],by simp only; omega⟩
  ·rcases gH.1 hx with hx|hx
   ·have:=hh.all x hx; simp only; omega
   ·simp at hx; subst hx; simp only; omega
theorem vk {l:List (Int×ai)} (hl: ∀ q∈l,q.2.Lo≤q.2.Hi):kJ l (wc l):=by
 have key: ∀ (r d:List (Int×ai)) (h:ai),(∀ q∈r,q.2.Lo≤q.2.Hi)→kJ d h→kJ (d++r) (r.foldl (fun h q=>mT h q.2) h):=by
  intro r
  induction r with
  |nil=>intro d h _ hd; simpa using hd
  |cons q r ih=>
   intro d h hr hd
   have:=ih (d++[q]) (mT h q.2) (fun x hx=>hr x (dh _ hx)) (vj hd (hr q sm))
   simpa using this
 have:=key l [] mX hl B8
 rw [List.nil_append] at this
 exact this
def Ew (a b:List (Int×ai)):Prop:= ∀ x∈b,∃ y∈a,y.2.Lo≤x.2.Lo∧x.2.Hi≤y.2.Hi
theorem Mt {a b:List (Int×ai)} {h k:ai} (ha:kJ a h) (hb:kJ b k) (hab:Ew a b) (hba:Ew b a):h=k:=by
 rcases ha with ⟨rfl,rfl⟩|ha
 ·rcases hb with ⟨rfl,rfl⟩|hb
  ·rfl
  ·obtain ⟨x,hx,_⟩:=hb.lo
   obtain ⟨y,hy,_⟩:=hab x hx
   cases hy
 ·rcases hb with ⟨rfl,rfl⟩|hb
  ·obtain ⟨x,hx,_⟩:=ha.lo
   obtain ⟨y,hy,_⟩:=hba x hx
   cases hy
  ·have le: ∀ {a b:List (Int×ai)} {h k:ai},oU a h→oU b k→Ew a b→h.Lo≤k.Lo∧k.Hi≤h.Hi:=fun {a b h k} ha hb hab=>by
    obtain ⟨x,hx,ex⟩:=hb.lo
    obtain ⟨z,hz,ez⟩:=hb.hi
    obtain ⟨y,hy,ey⟩:=hab x hx
    obtain ⟨y',hy',ey'⟩:=hab z hz
    have A:=ha.all y hy
    have B:=ha.all y' hy'
    omega
   have A:=le ha hb hab
   have B:=le hb ha hba
   rw [ai.ext_iff]; omega
theorem yT {w:cr} {b:Nat} {mf mb:List (aQ×Int)} {l:List (Int×ai)} {h:ai} (hf:uf mf (qx w b)) (hb:vZ mb (back w (b+1))) (nf:(mf.map (·.1)).Nodup) (nb:(mb.map (·.1)).Nodup)
 (hl: ∀ q∈l,q∈qy w b mf mb) (hl2: ∀ q∈qy w b mf mb,q∈l) (hh:kJ l h):h=wc (q6 w b):=
 Mt hh (vk fun q hq=>oJ hq) (fun x hx=>by
  obtain ⟨q,hq,_,A,B⟩:=JB hf hb nf nb hx
  exact ⟨q,hl2 q hq,A,B⟩) (fun x hx=>⟨x,N2 hf hb nf nb (hl x hx),Int.le_refl _,Int.le_refl _⟩)
def lM (w:cr) (m:List (aQ×Int)):Bool:=m.any fun p=>m0 w p.1
theorem Bl {w:cr} {b:Nat} {m:List (aQ×Int)} (h:uf m (qx w b)) (nf:(m.map (·.1)).Nodup):lM w m=lM w (qx w b):=by
 unfold lM
 rw [Bool.eq_iff_iff,List.any_eq_true,List.any_eq_true]
 constructor
 ·rintro ⟨p,hp,A⟩
  exact ⟨p,h.1 _ _ ((fU nf).1 hp),A⟩
 ·rintro ⟨p,hp,A⟩
  obtain ⟨v,hv,_⟩:=h.2 p.1 p.2 hp
  exact ⟨(p.1,v),(fU nf).2 hv,A⟩
def k9 (w:cr) (k:Nat):List Int:=((List.range k).filter fun i=>lM w (qx w i)).map fun (i:Nat)=>(i:Int)
def l3 (w:cr):List Int:=k9 w (w.n+1)
theorem Eb {w:cr} {k:Nat} (h:lM w (qx w k)=true):k9 w (k+1)=k9 w k++[(k:Int)]:=by simp [k9,List.range_succ,h]
theorem GA {w:cr} {k:Nat} (h:lM w (qx w k)=false):k9 w (k+1)=k9 w k:=by simp [k9,List.range_succ,h]
theorem tN {w:cr} {k:Nat}:(k9 w k).length≤k:=by
 unfold k9
 rw [List.length_map]
 exact Nat.le_trans (List.length_filter_le _ _) sm
end
section
open Go.RowKit
theorem GV {P:Program} {t:Nat} {k:IntKind} (hu:P.underlying t=some (.int k)) (e:Bool) (n:Nat) (v:Value) (w:World):(Instr.checkKey e (n+1) t v).run P w= .ok () w:=by
 unfold Instr.checkKey
 simp only [Sem.run_bind,run_underlying hu,Result.andThen]
 cases v<;>rfl
theorem z7 {P:Program} {kt:Nat} {l:List (Nat×Nat)} (hl:fL P kt=some l) (e:Bool) (n:Nat) (cs:Array Value) (w:World)
 (hf: ∀ p∈l,(∃ v,(part p.1 cs p.2).run P w= .ok v w)∧ ∃ k,P.underlying p.1=some (.int k)):(Instr.checkKey e (n+2) kt (.agg cs)).run P w= .ok () w:=by
 unfold fL at hl
 cases hu:P.underlying kt with
 |none=>simp [hu] at hl
 |some d=>
  cases d<;>simp [hu] at hl
  rename_i fs
  obtain ⟨hn,hl⟩:=hl
  rw [show n+2=(n+1)+1 from rfl,Instr.checkKey]
  simp only [Sem.run_bind,run_underlying hu,Result.andThen_ok]
  rw [← Array.forIn_toList]
  have A: ∀ f∈fs.toList,(∃ v,(part f.type cs f.offset).run P w= .ok v w)∧ ∃ k,P.underlying f.type=some (.int k):=fun f hf'=>hf (f.type,f.offset) (by rw [← hl]; exact db.2 ⟨f,hf',rfl⟩)
  have B: ∀ f∈fs.toList,f.name≠"_":=fun f hf'=>by
   obtain ⟨i,hi,rfl⟩:=List.getElem_of_mem hf'
   exact hn.1.1 i (by simpa using hi)
  clear hl hn hf
  generalize fs.toList=L at A B
  induction L with
  |nil=>simp
  |cons f L ih=>
   obtain ⟨⟨v,hv⟩,k,hk⟩:=A f sm
   have C:=B f sm
   simp only [List.forIn_cons,Sem.run_bind,C,ne_eq,not_false_eq_true,if_true,Result.andThen_ok,hv,GV hk,Sem.run_pure]
   exact ih (fun y hy=>A y (by simp [hy])) (fun y hy=>B y (by simp [hy]))
theorem Cr {P:Program} {kt:Nat} {K:Type} [DecidableEq K] {kV:K→Value} (hw: ∀ (k:Value) (es:List MapEntry) (w:World),(Instr.findKey kt k es).run P w=(Instr.findAsking kt k es).run P w)
 (heq: ∀ x y w,(Op.equal kt (kV x) (kV y)).run P w= .ok (decide (x=y)) w) (inj: ∀ x y,kV x=kV y→x=y) (x:K) (w:World) (es:List MapEntry) (hk: ∀ e∈es,∃ k,e.key=kV k):
 ((Instr.findKey kt (kV x) es).run P w= .ok none w∧ ∀ e∈es,e.key≠kV x)∨ ∃ j e,(Instr.findKey kt (kV x) es).run P w= .ok (some (j,e.val)) w∧es[j]? =some e∧e.key=kV x:=by
 have key: ∀ (es:List MapEntry) (i:Nat),(∀ e∈es,∃ k,e.key=kV k)→((Instr.findAsking kt (kV x) es i).run P w= .ok none w∧ ∀ e∈es,e.key≠kV x)∨ ∃ j e,(Instr.findAsking kt (kV x) es i).run P w= .ok (some (i+j,e.val)) w∧es[j]? =some e∧e.key=kV x:=by
  intro es
  induction es with
  |nil=>intro i _; exact .inl ⟨by simp [Instr.findAsking],sm⟩
  |cons e es ih=>
   intro i B
   obtain ⟨k,A⟩:=B e sm
   by_cases h:x=k
   ·refine .inr ⟨0,e,?_,U,by rw [A,h]⟩
    subst h
    simp [Instr.findAsking,A,heq]
   ·rcases ih (i+1) (fun y hy=>B y (by simp [hy])) with ⟨C,D⟩|⟨j,e',C,D,E⟩
    ·refine .inl ⟨by simp [Instr.findAsking,A,heq,h,C],fun y hy=>?_⟩
     rcases b_.1 hy with rfl|hy
     ·rw [A]; exact fun q=>h (inj _ _ q).symm
     ·exact D y hy
    ·exact .inr ⟨j+1,e',by simp [Instr.findAsking,A,heq,h,C]; omega,by simpa using D,E⟩
 rw [hw]
 rcases key es 0 hk with h|⟨j,e,C,D,E⟩
 ·exact .inl h
 ·exact .inr ⟨j,e,by simpa using C,D,E⟩
theorem EA {P:Program} {kt:Nat} {l:List (Nat×Nat)} (hl:fL P kt=some l) (k:Value) (es:List MapEntry) (w:World):(Instr.findKey kt k es).run P w=(Instr.findAsking kt k es).run P w:=by
 refine run_findKey_eq w ?_ k es
 unfold fL at hl
 cases hu:P.underlying kt with
 |none=>simp [hu] at hl
 |some d=>cases d<;>simp [hu] at hl ⊢
theorem NW {P:Program} {kt:Nat} {K:Type} [DecidableEq K] {kV:K→Value} {l:List (Nat×Nat)} (hl:fL P kt=some l) (heq: ∀ x y w,(Op.equal kt (kV x) (kV y)).run P w= .ok (decide (x=y)) w) (inj: ∀ x y,kV x=kV y→x=y)
 (hb: ∀ x,Instr.sameBits 10000 (kV x) (kV x)=true) (hp: ∀ x w,∃ cs,kV x= .agg cs∧ ∀ p∈l,(∃ v,(part p.1 cs p.2).run P w= .ok v w)∧ ∃ k,P.underlying p.1=some (.int k)):vR P kt kV:=
 ⟨fun e x w=>by obtain ⟨cs,A,B⟩:=hp x w; rw [A]; exact z7 hl e 9998 cs w B,fun x w es=>Cr (EA hl) heq inj x w es,hb,inj⟩
end
section
open Go.RowKit
set_option linter.unusedSectionVars false
theorem iJ {P:Program} {kt:Nat} (hk:P.underlying kt=some (.int .i64)):vR P kt (Value.int .i64):=by
 refine ⟨fun e x w=>Gp hk e,fun x w es A=>?_,fun x=>by simp [Instr.sameBits],fun x y h=>by injection h⟩
 have key: ∀ (es:List MapEntry) (i:Nat),(∀ e∈es,∃ k:Int,e.key= .int .i64 k)→(Instr.findNow (.int .i64) (.int .i64 x) es i=some none∧ ∀ e∈es,e.key≠ .int .i64 x)∨ ∃ j e,Instr.findNow (.int .i64) (.int .i64 x) es i=some (some (i+j,e.val))∧es[j]? =some e∧e.key= .int .i64 x:=by
  intro es
  induction es with
  |nil=>intro i _; exact .inl ⟨rfl,sm⟩
  |cons e es ih=>
   intro i A
   obtain ⟨k,B⟩:=A e sm
   by_cases h:x=k
   ·subst h
    exact .inr ⟨0,e,by simp [Instr.findNow,Instr.sameNow,B],U,B⟩
   ·have hb:(x==k)=false:=by simpa using h
    rcases ih (i+1) (fun y hy=>A y (by simp [hy])) with ⟨C,D⟩|⟨j,e',C,D,E⟩
    ·refine .inl ⟨by simp [Instr.findNow,Instr.sameNow,B,hb,C],fun y hy=>?_⟩
     rcases b_.1 hy with rfl|hy
     ·rw [B]; intro q; injection q with _ q; exact h q.symm
     ·exact D y hy
    ·refine .inr ⟨j+1,e',?_,by simpa using D,E⟩
     simp only [Instr.findNow,Instr.sameNow,B,hb,if_true,C]
     simp; omega
 rcases key es 0 A with ⟨C,D⟩|⟨j,e,C,D,E⟩
 ·exact .inl ⟨MapKept.run_findKey hk C,D⟩
 ·exact .inr ⟨j,e,MapKept.run_findKey hk (by simpa using C),D,E⟩
theorem St.MI {S:BS} {w0 w w':World} {C:List aA} {A N:aA} (h:St S w0 C w) (i:Nat) (hA:C[i]? =some A) (k:dV no w w') (hN:N.holds w') (hf: ∀ b,N.fg b→w.heap.size≤b∨A.fg b∧ ¬ A.wf b∧ ¬ N.wf b):St S w0 (N::C) w':=by
 have h':=h.same k
 have G:=aM hA
 have hi:=(bf.1 hA).1
 have B:C[i]=A:=(bf.1 hA).2
 refine ⟨h'.keeps,fun X hX=>?_,List.Pairwise.cons (fun X hX b hb hb'=>?_) h'.sep,fun X hX b hb=>?_,fun X hX b hb=>?_⟩
 ·rcases b_.1 hX with rfl|hX
  ·exact hN
  ·exact h'.holds X hX
 ·rcases hf b hb with E|⟨E,AA,H⟩
  ·have:=X.lt w (h.holds X hX) b hb'; omega
  ·refine ⟨H,?_⟩
   obtain ⟨j,hj,D⟩:=List.mem_iff_getElem.1 hX
   by_cases e:j=i
   ·subst e; rw [← D,B]; exact AA
   ·rcases Nat.lt_or_gt_of_ne e with F|F
    ·have:=e9.1 h.sep j i hj hi F b (by rw [D]; exact hb') (by rw [B]; exact E)
     rw [← D]; exact this.1
    ·have:=e9.1 h.sep i j hi hj F b (by rw [B]; exact E) (by rw [D]; exact hb')
     rw [← D]; exact this.2
 ·rcases b_.1 hX with rfl|hX
  ·rcases hf b (X.kO b hb) with E|⟨_,_,H⟩
   ·exact .inl (Nat.le_trans h.keeps.size E)
   ·exact absurd hb H
  ·exact h'.own X hX b hb
 ·rcases b_.1 hX with rfl|hX
  ·rcases hf b hb with E|⟨E,_,_⟩
   ·exact .inl (Nat.le_trans h.keeps.size E)
   ·exact h.seen A G b E
  ·exact h'.seen X hX b hb
section
variable {K:Type} [DecidableEq K] {kV:K→Value}
/-- an iterator over a map that is read alone -/
def Dh (kV:K→Value) (r b:Nat) (m left:List (K×Value)) (cur:Option (K×Value)):aA where
 fg k:=k=r∨k=b
 wf k:=k=r
 holds w:=r≠b∧ ∃ (es:Array MapEntry) (c since:Nat) (seen:Array Nat) (st:Nat),w.heap[b]? =some (.map es c)∧jq kV es c m∧w.heap[r]? =some (.mapIter (some b) since seen st)∧(∀ e∈es.toList,e.born<since)∧since≤st∧since≤c∧
  (leftOf es seen).toList.map (fun (e:MapEntry)=>(e.key,e.val))=left.map (fun p=>(kV p.1,p.2))∧
  ∀ p,cur=some p→ ∃ (e:MapEntry) (seen0:Array Nat),e∈es.toList∧seen=seen0.push e.born∧st=c∧e.key=kV p.1∧e.val=p.2
 wr:=false
 kO _ h:= .inl h
 whole h:=by cases h
 lt w h k hk:=by
  obtain ⟨_,es,c,since,seen,st,h1,_,h2,_⟩:=h
  rcases hk with rfl|rfl
  ·exact eu h2
  ·exact eu h1
 pI w w' hk h:=by
  obtain ⟨hne,es,c,since,seen,st,h1,h2,h3,h4⟩:=h
  exact ⟨hne,es,c,since,seen,st,(hk b (.inr rfl)).trans h1,h2,(hk r (.inl rfl)).trans h3,h4⟩
theorem o6 {r b:Nat} {m left:List (K×Value)} {cur:Option (K×Value)}:(∀ w,(Dh kV r b m left cur).holds w→(Dh kV r b m left none).holds w)∧(∀ k,(Dh kV r b m left none).fg k→(Dh kV r b m left cur).fg k)∧ ∀ k,(Dh kV r b m left none).wf k→(Dh kV r b m left cur).wf k:=
 ⟨fun w h=>by
  obtain ⟨A,es,c,since,seen,st,B,C,D,E,F,h5',G,_⟩:=h
  exact ⟨A,es,c,since,seen,st,B,C,D,E,F,h5',G,fun p hp=>by cases hp⟩,fun _ h=>h,fun _ h=>h⟩
section
variable {E:fh} {ops:Array Oper} {Q:dj} {rest:List Oper} {D:List Deferred} {L:List (Nat×Value)} {C:List aA}
variable {dst:Option Tmp} {d:Nat} {ty:TypeId} {ps:String} {af:Array Edge} {g:Option (Nat×Bool)}
theorem qa {t kt et:TypeId} {xm:Operand} {b:Nat} {m:List (K×Value)} {A:aA} (i:Nat) (hg:j_ ops L g=true) (hm:ev L xm=some (.map (some b))) (ht:E.P.underlying t=some (.map kt et)) (hA:C[i]? =some A) (hAf:A.fg b∧ ¬ A.wf b) (hC:fY C (ku kV b m).holds) (hd:Nat.blt d E.n=true)
 (k: ∀ r,RJ E ops Q rest D ((d,.pointer (some ⟨r,0,none⟩))::L) (Dh kV r b m m none::C)):RJ E ops Q (⟨some d,.range t xm,ty,ps,af,g⟩::rest) D L C:=by
 intro a w B hs
 have hd':d<E.n:=by rw [← Nat.blt_eq]; exact hd
 unfold s_
 rw [if_pos (eG B hg)]
 obtain ⟨es,c,he,hi⟩:=hs.has hC
 have G:b<w.heap.size:=eu he
 have F:(getObj b).run E.P w= .ok (.map es c) w:=MapKept.run_getObj_map he
 refine jf (v:= .pointer (some ⟨w.heap.size,0,none⟩)) (w':=w.alloc (.mapIter (some b) c #[] c)) sm ?_ ?_
 ·simp [execOp,Instr.range,B.ev hm,run_underlying ht,F,newObj,Sem.run]
 ·refine k _ _ _ (B.put hd' _) (hs.MI i hA (dV.alloc no w _) ⟨I,es,c,c,#[],c,?_,hi,heap_alloc_new w _,hi.QS,Nat.le_refl _,Nat.le_refl _,?_,fun p hp=>by cases hp⟩ (fun q hq=>?_))
  ·rw [Below.heap_alloc w _ b G]; exact he
  ·have:leftOf es #[]=es:=by unfold leftOf; exact Array.filter_eq_self.2 sm
   rw [this]; exact hi.list
  ·rcases hq with rfl|rfl
   ·exact .inl (Nat.le_refl _)
   ·refine .inr ⟨hAf.1,hAf.2,fun (e:q=w.heap.size)=>by omega⟩
theorem Hn (hinj: ∀ x y,kV x=kV y→x=y) {xi:Operand} {r b:Nat} {m left:List (K×Value)} {cur:Option (K×Value)} (i:Nat) (hg:j_ ops L g=true) (hm:ev L xi=some (.pointer (some ⟨r,0,none⟩))) (hC:C[i]? =some (Dh kV r b m left cur)) (hd:Nat.blt d E.n=true)
 (k0:left=[]→RJ E ops Q rest D ((d,.tuple [.bool false].toArray)::L) C)
 (k1: ∀ x v,(x,v)∈left→(left.map (·.1)).Nodup→RJ E ops Q rest D ((d,.tuple [.bool true,kV x,v].toArray)::L) (C.set i (Dh kV r b m (fz left x) (some (x,v))))):
 RJ E ops Q (⟨some d,.next xi false,ty,ps,af,g⟩::rest) D L C:=by
 intro a w G hs
 have hd':d<E.n:=by rw [← Nat.blt_eq]; exact hd
 unfold s_
 rw [if_pos (eG G hg)]
 obtain ⟨R,es,c,since,seen,st,X,hi,Y,J,V,M,A,_⟩:=hs.holds _ (aM hC)
 rcases run_next_at (P:=E.P) w ty r b since st seen es c Y X J V with ⟨Z,hr⟩|⟨e,he,N,H,hr⟩
 ·refine jf (v:= .tuple #[.bool false]) (w':=w) sm ?_ ?_
  ·simp [execOp,G.ev hm,hr]
  ·refine k0 ?_ _ _ (G.put hd' _) hs
   have:(leftOf es seen).toList=[]:=by rw [← List.length_eq_zero_iff,Array.length_toList]; exact Z
   rw [this] at A
   exact List.map_eq_nil_iff.1 A.symm
 ·have O:(e.key,e.val)∈left.map (fun p=>(kV p.1,p.2)):=by rw [← A]; exact db.2 ⟨e,he,rfl⟩
  obtain ⟨p,hp,S⟩:=db.1 O
  obtain ⟨x,v⟩:=p
  simp only [Prod.mk.injEq] at S
  obtain ⟨hk,hv⟩:=S
  refine jf (v:= .tuple #[.bool true,e.key,e.val]) (w':=ChangeMaps.setBlock N r (.mapIter (some b) since (seen.push e.born) c)) sm ?_ ?_
  ·simp [execOp,G.ev hm,hr]
  ·rw [← hk,← hv]
   have AA:=yp hinj hi A
   have F:e∈es.toList:=by unfold leftOf at he; rw [Array.toList_filter] at he; exact (List.mem_filter.1 he).1
   have f:c=c:=rfl
   have B:N.heap=w.heap:=by rcases H with rfl|rfl<;>rfl
   refine k1 x v hp AA _ _ (G.put hd' _) (hs.mv i hC ⟨⟨R,es,c,since,seen.push e.born,c,?_,hi,?_,J,M,M,?_,fun q hq=>?_⟩,?_,fun q hq=> .inl hq,fun q hq=> .inl hq⟩)
   ·show (N.heap.setIfInBounds r _)[b]? =_
    rw [Array.getElem?_setIfInBounds_ne R,B]; exact X
   ·show (N.heap.setIfInBounds r _)[r]? =_
    rw [Array.getElem?_setIfInBounds_self_of_lt (by rw [B]; exact eu Y)]
   ·have T:leftOf es (seen.push e.born)=(leftOf es seen).filter (fun z=> !(z.born==e.born)):=by
     unfold leftOf
     rw [Array.filter_filter]
     congr 1
     funext z
     simp only [Array.contains_push,Bool.not_or]
     rw [Bool.and_comm]
    rw [T,Array.toList_filter]
    have key: ∀ (l:List MapEntry) (ll:List (K×Value)),(∀ z∈l,z∈es.toList)→l.map (fun (e:MapEntry)=>(e.key,e.val))=ll.map (fun p=>(kV p.1,p.2))→
     (l.filter (fun z=> !(z.born==e.born))).map (fun (e:MapEntry)=>(e.key,e.val))=(fz ll x).map (fun p=>(kV p.1,p.2)):=by
     intro l
     induction l with
     |nil=>intro ll _ h; cases ll with
      |nil=>rfl
      |cons p ll=>simp at h
     |cons z l ih=>
      intro ll hz h
      cases ll with
      |nil=>simp at h
      |cons p ll=>
       simp only [List.map_cons,List.cons.injEq,Prod.mk.injEq] at h
       have ih':=ih ll (fun y hy=>hz y (by simp [hy])) h.2
       have AB:(z.born=e.born)↔(p.1=x):=by
        constructor
        ·intro hb
         have:z=e:=Dd hi.born (hz z sm) F hb
         rw [this] at h
         have:=h.1.1.symm.trans hk.symm
         exact hinj _ _ this
        ·intro hx
         have W:z.key=e.key:=by rw [h.1.1,hx,hk]
         rw [BT hinj hi (hz z sm) F W]
       unfold fz at ih' ⊢
       by_cases hx:p.1=x
       ·rw [List.filter_cons_of_neg (by simp [AB.2 hx]),List.filter_cons_of_neg (by simp [hx])]; exact ih'
       ·rw [List.filter_cons_of_pos (by simpa using fun hb=>hx (AB.1 hb)),List.filter_cons_of_pos (by simpa using hx)]
        simp only [List.map_cons,h.1.1,h.1.2,ih']
    exact key _ _ (fun z hz=>by unfold leftOf at hz; rw [Array.toList_filter] at hz; exact (List.mem_filter.1 hz).1) A
   ·cases hq
    exact ⟨e,seen,F,U,U,hk.symm,hv.symm⟩
   ·refine ⟨?_,?_,?_,?_,fun q hq hn=>?_⟩
    ·rcases H with rfl|rfl<;>rfl
    ·rcases H with rfl|rfl<;>rfl
    ·rcases H with rfl|rfl<;>rfl
    ·show w.heap.size≤(N.heap.setIfInBounds r _).size
     simp [B]
    ·show (N.heap.setIfInBounds r _)[q]? =_
     rw [Array.getElem?_setIfInBounds_ne (fun e=>hn e.symm),B]
theorem oE {xi:Operand} {r b:Nat} {m left:List (K×Value)} {x:K} {v:Value} (i:Nat) (hg:j_ ops L g=true) (hm:ev L xi=some (.pointer (some ⟨r,0,none⟩))) (hC:C[i]? =some (Dh kV r b m left (some (x,v)))):
 SD E ops ⟨dst,.entry xi,ty,ps,af,g⟩ D L C (.tuple [kV x,v].toArray):=
 eL hg sm fun a w F hs=>by
  obtain ⟨N,es,c,since,seen,st,J,hi,M,H,O,AA,G,B⟩:=hs.holds _ (aM hC)
  obtain ⟨e,A,he,rfl,rfl,hk,hv⟩:=B _ rfl
  have:=run_entry_at (P:=E.P) w r b since A es st e M J he hi.born
  simp [execOp,F.ev hm,this,hk,hv]
theorem oR (hinj: ∀ x y,kV x=kV y→x=y) {β:Type} {f:β→Value} {xi:Operand} {r b:Nat} {m:List (K×Value)} {ll:List (K×β)} {cur:Option (K×Value)} (i:Nat) (hg:j_ ops L g=true) (hm:ev L xi=some (.pointer (some ⟨r,0,none⟩))) (hC:C[i]? =some (Dh kV r b m (cU f ll) cur)) (hd:Nat.blt d E.n=true)
 (k0:ll=[]→RJ E ops Q rest D ((d,.tuple [.bool false].toArray)::L) C)
 (k1: ∀ x y,(x,y)∈ll→(ll.map (·.1)).Nodup→RJ E ops Q rest D ((d,.tuple [.bool true,kV x,f y].toArray)::L) (C.set i (Dh kV r b m (cU f (fz ll x)) (some (x,f y))))):
 RJ E ops Q (⟨some d,.next xi false,ty,ps,af,g⟩::rest) D L C:=by
 refine Hn hinj i hg hm hC hd (fun h=>k0 (List.map_eq_nil_iff.1 h)) (fun x v B hn=>?_)
 obtain ⟨p,hp,A⟩:=db.1 B
 simp only [Prod.mk.injEq] at A
 obtain ⟨rfl,rfl⟩:=A
 have:=k1 p.1 p.2 hp (by simpa [cU,Function.comp_def] using hn)
 rwa [nU] at this
theorem zT {t kt et:TypeId} {xm xk xv:Operand} {b:Nat} {x:K} {v:Value} {m m':List (K×Value)} {C':List aA} (i:Nat) (hg:j_ ops L g=true) (hm:ev L xm=some (.map (some b))) (hk:ev L xk=some (kV x)) (hv:ev L xv=some v)
 (ht:E.P.underlying t=some (.map kt et)) (hkt:vR E.P kt kV) (hC:C[i]? =some (ku kV b m)) (hm':eB m x v=m') (hC':C.set i (ku kV b m')=C') (k:RJ E ops Q rest D L C'):
 RJ E ops Q (⟨none,.insert t xm xk xv,ty,ps,af,g⟩::rest) D L C:=by
 subst hm' hC'
 intro a w A hs
 unfold s_
 rw [if_pos (eG A hg)]
 obtain ⟨es,c,he,hi⟩:=hs.holds _ (aM hC)
 have B:(getObj b).run E.P w= .ok (.map es c) w:=MapKept.run_getObj_map he
 rcases pf (P:=E.P) (w:=w) (x:=x) hkt hi with ⟨AA,F⟩|⟨j,N,AA,F,J⟩
 ·refine sP (w':={w with heap:=w.heap.setIfInBounds b (.map (es.push {key:=kV x,val:=v,born:=c}) (c+1))}) sm ?_ ?_
  ·simp [execOp,A.ev hm,A.ev hk,A.ev hv,Instr.mapUpdate,run_underlying ht,B,jg hkt,AA,MapKept.run_setObj_map _ he]
  ·refine k _ _ ⟨A.defers,A.size,A.at_⟩ (hs.y_ (b:=b) i hC U U (ny _) (fun _ h=>h) ⟨_,_,pL he,?_⟩)
   have:eB m x v=m++[(x,v)]:=by unfold eB; rw [F]; rfl
   rw [this]; exact hi.push F v
 ·have M:=hi.size
  have G:j<es.size:=by have:=(bf.1 F).1; omega
  have H:(es[j]).key=kV x:=by
   have:=congrArg (fun l=>l[j]?) hi.list
   simp [G,F] at this
   exact this.1
  refine sP (w':={w with heap:=w.heap.setIfInBounds b (.map (es.modify j fun e=>{e with key:=kV x,val:=v}) c)}) sm ?_ ?_
  ·simp [execOp,A.ev hm,A.ev hk,A.ev hv,Instr.mapUpdate,run_underlying ht,B,jg hkt,AA,MapKept.run_setObj_map _ he,Instr.keyThatStays,G,H,hkt.bits x]
  ·exact k _ _ ⟨A.defers,A.size,A.at_⟩ (hs.y_ (b:=b) i hC U U (ny _) (fun _ h=>h) ⟨_,_,pL he,hi.set F J v⟩)
end
end
end
section
open Go.RowKit
def Vo {σ:Type} (w0:World) (P:Program) (l:Nat) (step:σ→List Value→σ→Prop) (J:σ→aA→Prop) (Z:aA→Prop):Prop:=
 ∀ k x k' A w,step k x k'→J k A→w0.heap.size≤w.heap.size→A.holds w→YieldAt (Fw none) 0 P l x.toArray w fun e w'=>
  (e= .returned (.bool true)∧ ∃ B,J k' B∧Mv A B w w')∨(e= .returned (.bool false)∧ ∃ B,Z B∧Mv A B w w')
def B1 {σ:Type} (J:σ→aA→Prop) (Z:aA→Prop) (fin:σ→Prop) (A0:aA) (w0:World) (e:Ending) (w':World):Prop:=
 ∃ v,e= .returned v∧((∃ s B,fin s∧J s B∧Mv A0 B w0 w')∨ ∃ B,Z B∧Mv A0 B w0 w')
structure Mg {σ:Type} (P:Program) (f:FuncId) (fi ca:List Value) (Cp:List aA) (s0:σ) (step:σ→List Value→σ→Prop) (fin:σ→Prop):Prop where
 go:tL P f=true
 run: ∀ (l:Nat) (J:σ→aA→Prop) (Z:aA→Prop) (A0:aA) (w:World),Vo w P l step J Z→J s0 A0→A0.holds w→(∀ A∈Cp,A.holds w)→(∀ A∈Cp,Db A0 A.ro)→
  Calls P f (fi++Value.func (.yield l) #[] #[]::ca).toArray w (B1 J Z fin A0 w)
theorem PG {σ:Type} {J:σ→aA→Prop} {Z:aA→Prop} {n:σ} {fin:σ→Prop} {A0 B:aA} {w0 w:World} {C:List aA} {v:Value} (i:Nat) (hC:C[i]? =some B) (hfin:fin n) (hJ:J n B) (hF:Fo A0 w0 B) (hs:St ⟨A0.wf,fun _=>True⟩ w0 C w):B1 J Z fin A0 w0 (.returned v) w:=
 ⟨v,rfl,.inl ⟨n,B,hfin,hJ,hs.holds B (aM hC),hs.keeps,fun b hb=>(hs.own B (aM hC) b hb).symm,hF⟩⟩
theorem F0 {σ:Type} {J:σ→aA→Prop} {Z:aA→Prop} {fin:σ→Prop} {A0 B:aA} {w0 w:World} {C:List aA} {v:Value} (i:Nat) (hC:C[i]? =some B) (hJ:Z B) (hF:Fo A0 w0 B) (hs:St ⟨A0.wf,fun _=>True⟩ w0 C w):B1 J Z fin A0 w0 (.returned v) w:=
 ⟨v,rfl,.inr ⟨B,hJ,hs.holds B (aM hC),hs.keeps,fun b hb=>(hs.own B (aM hC) b hb).symm,hF⟩⟩
theorem FZ {σ:Type} {P:Program} {f:FuncId} {fn:Func} {c:Code} {fi ca:List Value} {Cp:List aA} {s0:σ} {step:σ→List Value→σ→Prop} {fin:σ→Prop} (hgo:tL P f=true) (hf:P.funcs[f]? =some fn) (hb:fn.body=some c) (hn:Nat.ble (fi.length+ca.length+1) fn.ntmps=true)
 (h: ∀ (l:Nat) (J:σ→aA→Prop) (Z:aA→Prop) (A0:aA) (w0:World) (Q:dj),Vo w0 P l step J Z→J s0 A0→Fo A0 w0 A0→
  (∀ D L C,LJ ⟨P,none,fn.ntmps,⟨A0.wf,fun _=>True⟩,w0⟩ fn (B1 J Z fin A0 w0) D L C→KJ ⟨P,none,fn.ntmps,⟨A0.wf,fun _=>True⟩,w0⟩ (Q .ret) D L C)→
  (∀ D L C,LJ ⟨P,none,fn.ntmps,⟨A0.wf,fun _=>True⟩,w0⟩ fn (B1 J Z fin A0 w0) D L C→KJ ⟨P,none,fn.ntmps,⟨A0.wf,fun _=>True⟩,w0⟩ (Q .normal) D L C)→
  WJ ⟨P,none,fn.ntmps,⟨A0.wf,fun _=>True⟩,w0⟩ c Q [] (O2 (fi++Value.func (.yield l) #[] #[]::ca)) (A0::Cp.map aA.ro)):Mg P f fi ca Cp s0 step fin:=by
 refine ⟨hgo,fun l J Z A0 w hY hJ hA F E=>?_⟩
 refine zX hf hb (by simpa [Nat.add_assoc] using hn) (h l J Z A0 w · hY hJ (fun b hb=> .inl hb)) ?_
 have G:=rN F
 refine ⟨dV.refl _ _,fun A hA'=>?_,List.Pairwise.cons (fun B hB=>?_) G.sep,fun A hA' b hb=>?_,fun _ _ _ _=> .inr trivial⟩
 ·rcases b_.1 hA' with rfl|hA'
  ·exact hA
  ·exact G.holds A hA'
 ·obtain ⟨B',hB',rfl⟩:=db.1 hB
  exact E B' hB'
 ·rcases b_.1 hA' with rfl|hA'
  ·exact .inr hb
  ·obtain ⟨B',hB',rfl⟩:=db.1 hA'
   exact hb.elim
section
variable {E:fh} {ops:Array Oper} {Q:dj} {rest:List Oper} {D:List Deferred} {L:List (Nat×Value)} {C:List aA}
variable {d:Nat} {ty:TypeId} {ps:String} {af:Array Edge} {g:Option (Nat×Bool)}
/-- a call of yield -/
theorem yj {σ:Type} {fop:Operand} {xs:Array Operand} {ts:Array TypeId} {l:Nat} {k k':σ} {vs:List Value} {step:σ→List Value→σ→Prop} {J:σ→aA→Prop} {Z:aA→Prop} {A0 A:aA} {w1:World} (i:Nat) (hw1:w1.heap.size≤E.w0.heap.size) (hY:Vo w1 E.P l step J Z) (hJ:J k A) (hF:Fo A0 w1 A) (hg:j_ ops L g=true) (hf:ev L fop=some (.func (.yield l) #[] #[]))
 (hx:evs L xs.toList=some vs) (hk:step k vs k') (hC:C[i]? =some A) (hd:Nat.blt d E.n=true)
 (k1: ∀ B,J k' B→Fo A0 w1 B→RJ E ops Q rest D ((d,.bool true)::L) (C.set i B))
 (k2: ∀ B,Z B→Fo A0 w1 B→RJ E ops Q rest D ((d,.bool false)::L) (C.set i B)):
 RJ E ops Q (⟨some d,.call {callee:= .value fop,args:=xs,argTypes:=ts},ty,ps,af,g⟩::rest) D L C:=by
 intro a w F hs
 have hd':d<E.n:=by rw [← Nat.blt_eq]; exact hd
 unfold s_
 rw [if_pos (eG F hg)]
 have K:xs.map a.eval=vs.toArray:=by
  have:=F.evs hx
  apply Array.ext'
  simp [this]
 obtain ⟨fn,tmps,assign,body,hy,hr⟩:=hY k vs k' A w hk hJ (Nat.le_trans hw1 hs.keeps.size) (hs.holds A (aM hC))
 have H:(execOp a.eval ⟨some d,.call {callee:= .value fop,args:=xs,argTypes:=ts},ty,ps,af,g⟩).run E.P w= .ok (.round l fn tmps assign body) w:=by
  simp [execOp,resolve,F.ev hf,Deferred.ofValue,invoke,K,hy]
 refine ⟨fun _ _=>trivial,?_⟩
 rw [Oper.semAt_eq _ _ _ sm,H]
 refine ⟨fun h=>by simp at h,?_⟩
 have G: ∀ (B:aA) (w':World),Mv A B w w'→Fo A0 w1 B:=fun B w' m b hb=>by
  rcases m.fg b hb with AA|AA
  ·exact hF b AA
  ·exact .inr (Nat.le_trans hw1 (Nat.le_trans hs.keeps.size AA))
 have hr':RoundIn (Fw E.r) 0 E.P l fn tmps assign body w _:=hr
 refine hr'.mono fun e w' he=>?_
 rcases he with ⟨rfl,B,hB,m⟩|⟨rfl,B,hB,m⟩
 ·exact k1 B hB (G B w' m) _ _ (F.put hd' _) (hs.mv i hC m)
 ·exact k2 B hB (G B w' m) _ _ (F.put hd' _) (hs.mv i hC m)
end
theorem ub {σ:Type} {E:fh} {Q:dj} {D:g_} {L L0:dq} {C F:List aA} {g:Operand} {ps:Array Tmp} {assign body:Code} {f:FuncId} {fi ca:List Value} {Cp:List aA} {s0:σ} {step:σ→List Value→σ→Prop} {fin_:σ→Prop} {ι κ:Type}
 (inv:σ→ι→Prop) (Ci:σ→ι→List aA) (invx:Code→κ→Prop) (Cx:Code→κ→List aA) (isJ isF:List Nat) (y0:ι)
 (hr:E.r=none) (hg:ev L g=some (.func (.func f) fi.toArray ca.toArray)) (hs:Mg E.P f fi ca Cp s0 step fin_)
 (hnd:decide (isJ++isF).Nodup=true) (hJ:j5 C isJ=Ci s0 y0) (hF:j5 C isF=F) (h0:inv s0 y0) (hCp: ∀ A∈Cp,∃ B∈F,H0 B A)
 (hps: ∀ k x k',step k x k'→x.length=ps.size) (hpn:ps.toList.all (fun t=>Nat.blt t E.n)=true) (hL:dp L L0)
 (round: ∀ (k:σ) (x:List Value) (k':σ) (y:ι) (l:Nat) (ra rb:Loop) (S:BS) (w0:World) (K:Act→World→Prop) (Qr:dj),E.w0.heap.size≤w0.heap.size→step k x k'→inv k y→
  (∀ L' C',WJ ⟨E.P,some l,E.n,S,w0⟩ body Qr [] L' (ji l (.loop rb)::C')→KJ ⟨E.P,some l,E.n,S,w0⟩ K [] L' (ji l (.loop ra)::C'))→
  (∀ y' L' C',inv k' y'→(∀ w,St S w0 C' w→St S w0 (ji l (.loop rb)::Ci k' y') w)→KJ ⟨E.P,some l,E.n,S,w0⟩ (Qr .normal) [] L' C')→
  (∀ id z L' C',invx (.exit id) z→(∀ w,St S w0 C' w→St S w0 (ji l (.loop rb)::Cx (.exit id) z) w)→KJ ⟨E.P,some l,E.n,S,w0⟩ (Qr (.exit id)) [] L' C')→
  (∀ z L' C',invx .ret z→(∀ w,St S w0 C' w→St S w0 (ji l (.loop rb)::Cx .ret z) w)→KJ ⟨E.P,some l,E.n,S,w0⟩ (Qr .ret) [] L' C')→
  WJ ⟨E.P,some l,E.n,S,w0⟩ assign (Exit.then K (fun _ _ _=>False)) [] (yP ps.toList x L0) (ji l (.loop ra)::Ci k y))
 (fin: ∀ r s y,fin_ s→inv s y→KJ E (Q .normal) (jU r::D) L0 (ji r (.deferred (some []))::(F++Ci s y)))
 (finx: ∀ r id z,invx (.exit id) z→KJ E (Q (.exit id)) (jU r::D) L0 (ji r (.deferred (some []))::(F++Cx (.exit id) z)))
 (finr: ∀ r z,invx .ret z→KJ E (Q .ret) (jU r::D) L0 (ji r (.deferred (some []))::(F++Cx .ret z))):WJ E (.rangeFunc g ps assign body) Q D L C:=by
 intro a w hf q
 refine wpIn_rangeFunc fun fn _=>?_
 show ∃ l jU w₁ d w₁' f args w₂,(Instr.enterLoop fn a.tmps ps assign body E.r).run E.P w= .ok (l,jU) w₁∧_
 rw [hr]
 obtain ⟨rec,G⟩: ∃ rec:LoopState→Option Code→Loop,rec=fun st pe=>{state:=st,pending:=pe,fn,tmps:=a.tmps,params:=ps,assign,body,defers:=w.heap.size}:=⟨_,rfl⟩
 obtain ⟨W1,R⟩: ∃ W1,(w.alloc (.deferred (some []))).alloc (.loop (rec .ready none))=W1:=⟨_,rfl⟩
 have A2:a.eval g= .func (.func f) fi.toArray ca.toArray:=hf.ev hg
 have p:(Instr.enterLoop fn a.tmps ps assign body none).run E.P w= .ok (w.heap.size+1,[jU w.heap.size]) W1:=by
  rw [← R,G]; exact run_enterLoop_outer _ _ _ _ _
 -- the state with the record and the block
 have u:St E.S E.w0 ((ji (w.heap.size+1) (.loop (rec .ready none))::Ci s0 y0)++(ji w.heap.size (.deferred (some []))::F)) W1:=by
  have X:St E.S E.w0 (Ci s0 y0++F) w:=St.j5 (isJ++isF) hnd (by have X:=hJ; have j:=hF; unfold Go.Proofs.YtkaenmjhfajbkaaGreatDoor.j5 at X j ⊢; rw [List.filterMap_append,X,j]) q
  have hn:LZ w W1 [ji (w.heap.size+1) (.loop (rec .ready none)),ji w.heap.size (.deferred (some []))]:=by
   refine ⟨fun A hA=>?_,fun A hA b hb=>?_,?_⟩
   ·rcases b_.1 hA with rfl|hA
    ·show W1.heap[w.heap.size+1]? =_
     rw [← R]; have:=World.alloc_heap_new (w.alloc (.deferred (some []))) (.loop (rec .ready none)); rwa [World.size_alloc] at this
    ·simp only [cE] at hA; subst hA
     show W1.heap[w.heap.size]? =_
     rw [← R]; exact (Below.heap_alloc _ _ _ sm).trans (World.alloc_heap_new w _)
   ·rcases b_.1 hA with rfl|hA
    ·have:b=w.heap.size+1:=hb
     omega
    ·simp only [cE] at hA; subst hA
     have:b=w.heap.size:=hb
     omega
   ·refine List.Pairwise.cons (fun B hB b X j=>?_) (List.pairwise_singleton _ _)
    simp only [cE] at hB; subst hB
    have V:b=w.heap.size+1:=X
    have O:b=w.heap.size:=j
    omega
  have hk:dV no w W1:=by rw [← R]; exact (dV.alloc no w _).trans (dV.alloc no _ _)
  have j:=X.grow hk hn
  refine j.perm ?_
  simp only [List.cons_append,List.nil_append]
  exact List.Perm.cons _ (List.perm_middle.symm)
 have Y:=u.tied
 obtain ⟨H,A7⟩:=List.pairwise_cons.1 Y.sep
 have A0:=Y.holds _ (bY ..)
 let J:σ→aA→Prop:=fun k A=> ∃ y,inv k y∧A=bM (ji (w.heap.size+1) (.loop (rec .ready none))::Ci k y)
 let Z:aA→Prop:=fun A=> ∃ c z,(c= .ret∨ ∃ id,c= .exit id)∧invx c z∧A=bM (ji (w.heap.size+1) (.loop (rec .done (some c)))::Cx c z)
 refine ⟨w.heap.size+1,[jU w.heap.size],W1,{target:= .fn (.func f) ca.toArray,args:=fi.toArray++ #[.func (.yield (w.heap.size+1)) #[] #[]]},W1,f,
  (fi++Value.func (.yield (w.heap.size+1)) #[] #[]::ca).toArray,W1,p,?_,fun _ _=>trivial,?_,fun h=>by simp at h,?_⟩
 ·simp only [resolve,A2]
  simp [Deferred.ofValue,Act.eval]
 ·have:fi.toArray++ #[Value.func (.yield (w.heap.size+1)) #[] #[]]++ca.toArray=(fi++Value.func (.yield (w.heap.size+1)) #[] #[]::ca).toArray:=by simp
  simp [invoke,nk hs.go]
 ·refine (pE E.r (hs.run (w.heap.size+1) J Z _ W1 ?_ ⟨y0,h0,U⟩ A0 ?_ ?_)).mono ?_
  ·-- a round
   rintro k x k' A W hx ⟨y,hy,rfl⟩ A1 hA
   have hl:W.heap[w.heap.size+1]? =some (.loop (rec .ready none)):=hA.1 _ (bY ..)
   have AC:=run_yield (P:=E.P) (args:=x.toArray) hl (by rw [G]; simpa using hps k x k' hx)
   rw [G] at AC
   refine ⟨fn,_,assign,body,AC,roundIn_of_wpIn trivial ?_⟩
   let A:aA:=bM (ji (w.heap.size+1) (.loop (rec .ready none))::Ci k y)
   have A3:Fr E.n [] (yP ps.toList x L0) {tmps:=(ps.zip x.toArray).foldl (fun tmps (t,a)=>tmps.setIfInBounds t a) a.tmps,defers:=[]}:=by
    have X:=D9 ps.toList x L0 a.tmps (fun t ht=>by have:=df.1 hpn t ht; rwa [Nat.blt_eq] at this) ⟨rfl,hf.size,fun t v hv=>hf.at_ t v (hL t v hv)⟩
    rw [← Array.foldl_toList]
    simpa using X
   have o: ∀ (c:Option Code) (b:Bool),({rec .busy none with state:=if b then .ready else .done,pending:=c}:Loop)=rec (if b then .ready else .done) c:=fun c b=>by rw [G]
   have T: ∀ (c:Option Code) (N:World) (C':List aA) (S:BS),St S W (ji (w.heap.size+1) (.loop (rec .busy none))::C') N→
    ∃ M,(Instr.endRound (w.heap.size+1) c).run E.P N= .ok (.bool c.isNone) M∧St S W (ji (w.heap.size+1) (.loop (rec (if c.isNone then .ready else .done) c))::C') M:=fun c N C' S H=>by
    have AB:N.heap[w.heap.size+1]? =some (.loop (rec .busy none)):=H.holds _ (bY ..)
    refine ⟨_,run_endRound c AB,?_⟩
    have:=H.y_ (b:=w.heap.size+1) (A':=ji (w.heap.size+1) (.loop (rec (if c.isNone then .ready else .done) c))) 0 rfl rfl rfl (hO _) (fun _ h=>h) (World.putObj_heap_same (eu AB))
    rw [o]
    exact this
   refine round k x k' y (w.heap.size+1) (rec .ready none) (rec .busy none) ⟨A.wf,A.fg⟩ W _ (roundPost E.P (w.heap.size+1) (fun e w'=>(e= .returned (.bool true)∧ ∃ B,J k' B∧Mv A B W w')∨(e= .returned (.bool false)∧ ∃ B,Z B∧Mv A B W w'))) (Nat.le_trans (Nat.le_trans q.keeps.size (by rw [← R]; simp; omega)) A1) hx hy ?_ ?_ ?_ ?_ _ _ A3 (St.AK hA)
   ·intro L' C' hW a1 N i H
    have AB:N.heap[w.heap.size+1]? =some (.loop (rec .ready none)):=H.holds _ (bY ..)
    refine ⟨_,run_beginRound AB (by rw [G]),hW _ _ i ?_⟩
    have:=H.y_ (b:=w.heap.size+1) (A':=ji (w.heap.size+1) (.loop (rec .busy none))) 0 rfl rfl rfl (hO _) (fun _ h=>h) (World.putObj_heap_same (eu AB))
    have e:({rec .ready none with state:= .busy}:Loop)=rec .busy none:=by rw [G]
    rw [e]; exact this
   ·intro y' L' C' hy' hC' a1 N i H
    obtain ⟨M,V,O⟩:=T none N _ _ (hC' _ H)
    exact ⟨_,M,V,.inl ⟨U,_,⟨y',hy',U⟩,Mv.of O⟩⟩
   ·intro id z L' C' hz hC' a1 N i H
    obtain ⟨M,V,O⟩:=T (some (.exit id)) N _ _ (hC' _ H)
    exact ⟨_,M,V,.inr ⟨U,_,⟨_,z,.inr ⟨id,U⟩,hz,U⟩,Mv.of O⟩⟩
   ·intro z L' C' hz hC' a1 N i H
    obtain ⟨M,V,O⟩:=T (some .ret) N _ _ (hC' _ H)
    exact ⟨_,M,V,.inr ⟨U,_,⟨_,z,.inl U,hz,U⟩,Mv.of O⟩⟩
  ·intro A hA
   obtain ⟨B,hB,hc⟩:=hCp A hA
   exact hc.holds _ (Y.holds B (dh _ (dh _ hB)))
  ·intro A hA b hb hb'
   obtain ⟨B,hB,hc⟩:=hCp A hA
   exact ⟨(H B (dh _ hB) b hb (hc.fg b hb')).1,fun h=>h⟩
  ·rintro e w' ⟨v,rfl,hh⟩
   have AA:Fr E.n (jU w.heap.size::D) L0 {a with defers:=[jU w.heap.size]++a.defers}:=⟨by simp [hf.defers],hf.size,fun t v hv=>hf.at_ t v (hL t v hv)⟩
   have hleave: ∀ (st:LoopState) (c:Option Code) (C':List aA),st≠ .busy→Mv (bM (ji (w.heap.size+1) (.loop (rec .ready none))::Ci s0 y0)) (bM (ji (w.heap.size+1) (.loop (rec st c))::C')) W1 w'→
    ∃ M,(Instr.endLoop (w.heap.size+1)).run E.P w'= .ok c M∧St E.S E.w0 (ji w.heap.size (.deferred (some []))::(F++C')) M:=fun st c C' A5 m=>by
    have X:=(Y.mv 0 rfl m).iz
    have h1':St E.S E.w0 ((ji (w.heap.size+1) (.loop (rec st c))::C')++(ji w.heap.size (.deferred (some []))::F)) w':=X
    have AB:w'.heap[w.heap.size+1]? =some (.loop (rec st c)):=h1'.holds (ji (w.heap.size+1) (.loop (rec st c))) sm
    refine ⟨_,by have:=run_endLoop (P:=E.P) AB (by rw [G]; exact A5); rw [this,G],?_⟩
    have j:=h1'.y_ (b:=w.heap.size+1) (A':=ji (w.heap.size+1) (.loop {rec st c with state:= .exhausted})) 0 rfl rfl rfl (hO _) (fun _ h=>h) (World.putObj_heap_same (eu AB))
    have h3:St E.S E.w0 (C'++(ji w.heap.size (.deferred (some []))::F)) _:=j.take (List.sublist_cons_self _ _)
    rw [G] at h3
    refine h3.perm ?_
    exact (List.perm_append_comm).trans sm
   rcases hh with ⟨s,B,A4,⟨y,hy,rfl⟩,m⟩|⟨B,⟨c,z,hc,hz,rfl⟩,m⟩
   ·obtain ⟨M,V,O⟩:=hleave .ready none _ sm m
    exact ⟨none,M,V,fin w.heap.size s y A4 hy _ _ AA O⟩
   ·obtain ⟨M,V,O⟩:=hleave .done (some c) _ sm m
    refine ⟨some c,M,V,?_⟩
    rcases hc with rfl|⟨id,rfl⟩
    ·exact wpIn_ret (finr w.heap.size z hz _ _ AA O)
    ·exact wpIn_exit (finx w.heap.size id z hz _ _ AA O)
end
section
open Go.RowKit
/-- where a row lies, and its capacity -/
abbrev RA:=OA×Nat
/-- what is asked of memory by all elements -/
def bg {M A:Type} (f:M→A→List aA):List M→List A→List aA
 |m::ms,a::asl=>f m a++bg f ms asl
 |_,_=>[]
theorem a_ {M A:Type} {f:M→A→List aA}: ∀ {ms:List M} {asl:List A} {k:Nat} {m:M} {a:A} {X:aA},ms[k]? =some m→asl[k]? =some a→X∈f m a→X∈bg f ms asl
 |[],_,k,m,a,X,h,_,_=>by simp at h
 |_::_,[],k,m,a,X,_,h,_=>by simp at h
 |x::ms,y::asl,0,m,a,X,h,h2,hX=>by
  simp at h h2; subst h h2
  exact List.mem_append_left _ hX
 |x::ms,y::asl,k+1,m,a,X,h,h2,hX=>List.mem_append_right _ (a_ (ms:=ms) (asl:=asl) (k:=k) (by simpa using h) (by simpa using h2) hX)
theorem jx {M A:Type} {f:M→A→List aA}: ∀ {ms:List M} {asl:List A} {X:aA},X∈bg f ms asl→ ∃ (k:Nat) (m:M) (a:A),ms[k]? =some m∧asl[k]? =some a∧X∈f m a
 |[],_,X,h=>by cases h
 |_::_,[],X,h=>by cases h
 |x::ms,y::asl,X,h=>by
  rcases gH.1 h with h|h
  ·exact ⟨0,x,y,U,U,h⟩
  ·obtain ⟨k,m,a,B,C,D⟩:=jx h
   exact ⟨k+1,m,a,by simpa using B,by simpa using C,D⟩
theorem ko {M A:Type} {f:M→A→List aA}: ∀ {ms:List M} {asl:List A} {ns:List M} {bs:List A},ms.length=asl.length→bg f (ms++ns) (asl++bs)=bg f ms asl++bg f ns bs
 |[],[],ns,bs,_=>rfl
 |[],_::_,ns,bs,h=>by simp at h
 |_::_,[],ns,bs,h=>by simp at h
 |x::ms,y::asl,ns,bs,h=>by
  simp only [List.cons_append,bg,List.append_assoc]
  rw [ko (by simpa using h)]
theorem cv {M A β:Type} {f:M→A→β} {ms:List M} {asl:List A} {k:Nat} {m:M} {a:A} (h:ms[k]? =some m) (h2:asl[k]? =some a):(List.zipWith f ms asl)[k]? =some (f m a):=by
 rw [List.getElem?_zipWith,h,h2]
theorem m7 {C L:List aA} {A:aA} (i:Nat) (hC:C[i]? =some (dE L)) (hm:A∈L):fY C A.holds:=fun w hw=>hw _ (aM hC) A hm
theorem bX {C L:List aA} {A:aA} (i:Nat) (hC:C[i]? =some (dE L).ro) (hm:A∈L):fY C A.holds:=fun w hw=>hw _ (aM hC) A hm
theorem dR {M A:Type} {f g:M→A→List aA} {ms:List M} {asl:List A} {C:List aA} (i:Nat) (hC:C[i]? =some (bM (bg g ms asl))) (h: ∀ m a w,(∀ X∈g m a,X.holds w)→ ∀ X∈f m a,X.holds w):fY C (dE (bg f ms asl)).holds:=fun w hw X hX=>by
 have hb:=hw _ (aM hC)
 obtain ⟨k,m,a,B,D,E⟩:=jx hX
 exact h m a w (fun Y hY=>hb.1 Y (a_ B D hY)) X E
/-- a row that is part of another one -/
theorem MR {C:List aA} {A:OA} {n k sz:Nat} {es:List (List Value)} (hR:fY C (rd A n sz es).holds) (hk:k≤n):fY C (rd A k sz (es.take k)).holds:=fun w hw=>by
 obtain ⟨D,E,F⟩:=hR w hw
 refine ⟨by rw [List.length_take,D]; omega,fun x hx=>E x (List.mem_of_mem_take hx),fun hp=>?_⟩
 have G:0<k:=Nat.pos_of_mul_pos_right hp
 have hs:0<sz:=Nat.pos_of_mul_pos_left hp
 obtain ⟨ad,hA,B⟩:=F (Nat.mul_pos I hs)
 refine ⟨ad,hA,fun i e j v he hv=>B i e j v ?_ hv⟩
 rw [List.getElem?_take] at he
 split at he
 ·exact he
 ·cases he
section
variable {E:fh} {ops:Array Oper} {Q:dj} {rest:List Oper} {D:List Deferred} {L:List (Nat×Value)} {C:List aA}
variable {d:Nat} {ty:TypeId} {ps:String} {af:Array Edge} {g:Option (Nat×Bool)}
/-- an element of a slice that is the head of a row -/
theorem V0 (k:Nat) {x ix:Operand} {A:OA} {n n' c sz e t:Nat} {es:List (List Value)} {j:Int} (h:bF E.n ops L d g x ix=some (.slice A n' c,.int .i64 j)) (hR:fY C (rd A n sz es).holds)
 (ht:tE E.P t=some (e,sz)) (hz:0<sz) (hj:j=(k:Int)) (hk:k<n') (hn:n'≤n):SE E ops ⟨some d,.indexAddr t x ix,ty,ps,af,g⟩ D L C (.pointer (l8 A (k*sz))) d:=IA k h (MR hR hn) ht hz hj hk
end
theorem St.tie {S:BS} {w0 w:World} {C:List aA} {A:aA} {L L':List aA} (h:St S w0 (A::bM L::C) w) (e:L++[A]=L'):St S w0 (bM L'::C) w:=by
 subst e
 have B:St S w0 (bM L::A::C) w:=h.perm (List.Perm.swap _ _ _)
 have D:St S w0 (L++(A::C)) w:=B.iz
 have E:St S w0 ((L++[A])++C) w:=by simpa using D
 exact E.tied
theorem St.Qx {S:BS} {w0 w:World} {C:List aA} (h:St S w0 C w):St S w0 (bM []::C) w:=St.tied (C1:=[]) h
section
variable {E:fh} {Q:dj} {D:List Deferred} {L:List (Nat×Value)} {C:List aA}
theorem nN {c:Code} (h:WJ E c Q D L (bM []::C)):WJ E c Q D L C:=fun a w hf hs=>h a w hf hs.Qx
theorem yr {ops:Array Oper} {rest:List Oper} (h:RJ E ops Q rest D L (bM []::C)):RJ E ops Q rest D L C:=fun a w hf hs=>h a w hf hs.Qx
theorem zS {K:Act→World→Prop} {C1:List aA} {A:aA} {X X':List aA} (i j:Nat) (hn:decide (j::i::(List.range C.length).filter fun k=>k != i&&k != j).Nodup=true) (hC:j5 C (j::i::(List.range C.length).filter fun k=>k != i&&k != j)=A::bM X::C1) (e:X++[A]=X')
 (h:KJ E K D L (bM X'::C1)):KJ E K D L C:=fun a w hf hs=>h a w hf ((St.j5 _ hn hC hs).tie e)
theorem OG {ops:Array Oper} {rest:List Oper} {C1:List aA} {A:aA} {X X':List aA} (i j:Nat) (hn:decide (j::i::(List.range C.length).filter fun k=>k != i&&k != j).Nodup=true) (hC:j5 C (j::i::(List.range C.length).filter fun k=>k != i&&k != j)=A::bM X::C1) (e:X++[A]=X')
 (h:RJ E ops Q rest D L (bM X'::C1)):RJ E ops Q rest D L C:=fun a w hf hs=>h a w hf ((St.j5 _ hn hC hs).tie e)
end
end
section
open Go.RowKit
abbrev jW:ai→Value:=fun s=>vA (ai.cells s)
abbrev eH:aQ→Value:=fun s=>vA (aQ.cells s)
abbrev TM:=List (Int×ai)
abbrev FM:=List (aQ×Int)
def gF {α:Type} (m:α) (b:Nat):List Value:=[Value.map (some b)]
def pS (m:TM) (b:Nat):List aA:=[ku iV b (cU jW m)]
def m_ (m:FM) (b:Nat):List aA:=[ku eH b (cU iV m)]
theorem lL {M A:Type} {f:M→A→List aA}: ∀ (m:M) (a:A) (w:World),(∀ X∈f m a,X.holds w)→ ∀ X∈f m a,X.holds w:=fun _ _ _ h=>h
/-- untied -/
theorem FH {E:fh} {ops:Array Oper} {Q:dj} {rest:List Oper} {D:g_} {L:dq} {C X C1:List aA} (i:Nat) (hn:decide (i::(List.range C.length).filter fun k=>k != i).Nodup=true) (hC:j5 C (i::(List.range C.length).filter fun k=>k != i)=bM X::C1)
 (h:RJ E ops Q rest D L (X++C1)):RJ E ops Q rest D L C:=fun a w hf hs=>h a w hf (St.iz (St.j5 _ hn hC hs))
end
section
def cZ (ln:cm) (rd:cL) (e:List Int) (tms:List TM):cr:=⟨rd.Start,rd.gj,e,tms,ln.dC,ln.fJ,(rd.aa.n:Int)⟩
def Ot (o:Int×ai):List Value:=[.int .i64 o.1,.agg (ai.cells o.2).toArray]
structure GN (w:cr):Prop where
 n:w.n≤6
 times:w.zr.length=w.n
 now:0≤w.Start∧w.Start≤w.gj∧w.gj≤86400000
 least: ∀ x∈w.qB,1≤x∧x≤500000000
 FQ: ∀ t∈w.zr,∀ p∈t,(0≤p.1∧p.1≤10)∧0≤p.2.Lo∧p.2.Lo≤p.2.Hi∧p.2.Hi≤86400000
theorem GN.opt {w:cr} (h:GN w) {b:Nat} {o:Int×ai} (ho:o∈jV w b):(-1≤o.1∧o.1≤10)∧0≤o.2.Lo∧o.2.Lo≤o.2.Hi∧o.2.Hi≤86400000:=by
 unfold jV wN at ho
 rcases b_.1 ho with rfl|ho
 ·have:=h.now; simp only; omega
 ·cases ht:w.zr[b]? with
  |none=>simp [ht] at ho
  |some t=>
   rw [ht] at ho
   have:=h.FQ t (aM ht) o ho
   omega
theorem GN.de {w:cr} (h:GN w) (b:Nat):0≤de w b∧de w b≤500000000:=by
 unfold Go.Proofs.YtkaenmjhfajbkaaGreatDoor.de
 cases ht:w.qB[b]? with
 |none=>simp
 |some x=>have:=h.least x (aM ht); simp only [Option.getD_some]; omega
theorem vG (s:Int):(0≤(gl s).right∧0≤(gl s).fB)∧(gl s).right+(gl s).fB=1:=by unfold gl; split<;>simp
theorem KQ {w:cr} (h:GN w): ∀ (b:Nat) p,p∈qx w b→(0≤p.2∧p.2≤86400000)∧(0≤p.1.right∧0≤p.1.fB)∧p.1.right+p.1.fB=(b:Int):=by
 intro b
 induction b with
 |zero=>
  intro p hp
  simp only [qx,cE] at hp
  subst hp
  have:=h.now; simp only; omega
 |succ b ih=>
  intro q hq
  obtain ⟨p,hp,o,ho,e⟩:=kF.1 hq
  have A:=ih p hp
  have B:=h.opt ho
  have C:=h.de b
  have D:=h.now
  have E:=vG o.1
  unfold m6 at e
  split at e
  ·simp only [Option.some.injEq] at e
   subst e
   simp only [dL]
   omega
  ·cases e
theorem TC {w:cr} (h:GN w): ∀ (k:Nat) p,p∈N9 w k→(-(500000000*(k:Int))≤p.2∧p.2≤86400000)∧(0≤p.1.right∧0≤p.1.fB)∧p.1.right+p.1.fB≤(k:Int):=by
 intro k
 induction k with
 |zero=>
  intro p hp
  simp only [N9,cE] at hp
  subst hp
  have:=h.now; simp only; omega
 |succ k ih=>
  intro q hq
  simp only [N9,b_,List.mem_flatMap,List.mem_filterMap] at hq
  rcases hq with rfl|⟨p,hp,o,ho,e⟩
  ·have:=h.now; simp only; omega
  ·have A:=ih p hp
   have B:=h.opt ho
   have C:=h.de (w.n-(k+1))
   have D:=h.now
   have E:=vG o.1
   unfold pA at e
   split at e
   ·simp only [Option.some.injEq] at e
    subst e
    simp only [dL]
    omega
   ·cases e
theorem Kd {w:cr} (h:GN w) {b:Nat} {p:aQ×Int} (hp:p∈back w b):(-3000000000≤p.2∧p.2≤86400000)∧(0≤p.1.right∧0≤p.1.fB)∧p.1.right+p.1.fB≤6:=by
 have:=TC h _ _ hp
 have:=h.n
 omega
theorem xN {w:cr} {b:Nat} {t:TM} (ht:w.zr[b]? =some t) {o:Int×ai}:o∈jV w b↔o=(-1,⟨w.Start,w.gj⟩)∨o∈t:=by
 unfold jV wN; rw [ht]; simp
theorem mw {K β:Type} [DecidableEq K] {l:List (K×β)} {x:K} {y:β} (hn:(l.map (·.1)).Nodup) (hm:(x,y)∈l) {o:K×β} (h:o∈l):o∈fz l x∨o=(x,y):=by
 by_cases e:o.1=x
 ·right
  obtain ⟨k,v⟩:=o
  simp only at e
  subst e
  have B:=(lB hn).1 h
  have A:=(lB hn).1 hm
  rw [B] at A
  cases A; rfl
 ·exact .inl (zt.2 ⟨h,e⟩)
theorem HQ {K β:Type} [DecidableEq K] {t l ys:List (K×β)} {x:K} {y:β} (hn:(l.map (·.1)).Nodup) (hm:(x,y)∈l) (h: ∀ o∈t,o∈l∨o∈ys): ∀ o∈t,o∈fz l x∨o∈ys++[(x,y)]:=fun o ho=>by
 rcases h o ho with h|h
 ·rcases mw hn hm h with h|h
  ·exact .inl h
  ·exact .inr (by simp [h])
 ·exact .inr (by simp [h])
theorem mW {K β:Type} [DecidableEq K] {t l:List (K×β)} {x:K} (h: ∀ o∈l,o∈t): ∀ o∈fz l x,o∈t:=fun o ho=>h o (zt.1 ho).1
theorem Ip {w:cr} {m left:List (aQ×Int)} (h: ∀ p∈m,p∈left∨m0 w p.1=false) (h0:left=[]):lM w m=false:=by
 unfold lM
 rw [List.any_eq_false]
 intro p hp
 rcases h p hp with q|q
 ·rw [h0] at q; cases q
 ·simp [q]
theorem M6 {w:cr} {m:List (aQ×Int)} {p:aQ×Int} (hp:p∈m) (h:m0 w p.1=true):lM w m=true:=List.any_eq_true.2 ⟨p,hp,h⟩
theorem Ke {w:cr} {m left:List (aQ×Int)} {t:aQ} {v:Int} (hn:(left.map (·.1)).Nodup) (hm:(t,v)∈left) (h: ∀ p∈m,p∈left∨m0 w p.1=false) (hf:m0 w t=false): ∀ p∈m,p∈fz left t∨m0 w p.1=false:=fun p hp=>by
 rcases h p hp with q|q
 ·rcases mw hn hm q with q|q
  ·exact .inl q
  ·right; rw [q]; exact hf
 ·exact .inr q
/-- what the maps of a watch are -/
structure wg (w:cr) (fs:List (List (aQ×Int))):Prop where
 len:fs.length=w.n+1
 min: ∀ (b:Nat) m,fs[b]? =some m→uf m (qx w b)
 keys: ∀ (b:Nat) m,fs[b]? =some m→(m.map (·.1)).Nodup
structure tO (w:cr) (bs:List (List (aQ×Int))):Prop where
 len:bs.length=w.n+1
 max: ∀ (b:Nat) m,bs[b]? =some m→vZ m (back w b)
 keys: ∀ (b:Nat) m,bs[b]? =some m→(m.map (·.1)).Nodup
theorem wg.mem {w:cr} {fs:List (List (aQ×Int))} (h:wg w fs) {b:Nat} {m:List (aQ×Int)} (hm:fs[b]? =some m) {p:aQ×Int} (hp:p∈m):p∈qx w b:=(h.min b m hm).1 _ _ ((fU (h.keys b m hm)).1 hp)
theorem tO.mem {w:cr} {fs:List (List (aQ×Int))} (h:tO w fs) {b:Nat} {m:List (aQ×Int)} (hm:fs[b]? =some m) {p:aQ×Int} (hp:p∈m):p∈back w b:=(h.max b m hm).1 _ _ ((fU (h.keys b m hm)).1 hp)
theorem GS {w:cr} {b:Nat} {t l ys:List (Int×ai)} (ht:w.zr[b]? =some t) (h: ∀ o∈t,o∈l∨o∈ys) (h0:l=[]) (hs:(-1,(⟨w.Start,w.gj⟩:ai))∈ys): ∀ o∈jV w b,o∈ys:=fun o ho=>by
 rcases (xN ht).1 ho with rfl|ho
 ·exact hs
 ·rcases h o ho with q|q
  ·rw [h0] at q; cases q
  ·exact q
end
section
/-- by these options all is yielded -/
def l4 (w:cr) (b:Nat) (mf mb:List (aQ×Int)) (os ys:List (Int×ai)):Prop:= ∀ o∈os,∀ p∈mf,∀ u∈mb,∀ q,mR w b p u o=some q→q∈ys
def nW (w:cr) (b:Nat) (mf mb:List (aQ×Int)) (o:Int×ai) (left:List (aQ×Int)) (ys:List (Int×ai)):Prop:= ∀ p∈mf,p∈left∨ ∀ u∈mb,∀ q,mR w b p u o=some q→q∈ys
def nX (w:cr) (b:Nat) (mb:List (aQ×Int)) (o:Int×ai) (p:aQ×Int) (left:List (aQ×Int)) (ys:List (Int×ai)):Prop:= ∀ u∈mb,u∈left∨ ∀ q,mR w b p u o=some q→q∈ys
variable {w:cr} {b:Nat} {mf mb left:List (aQ×Int)} {o x:Int×ai} {os ys:List (Int×ai)} {p u:aQ×Int}
theorem l4.nil:l4 w b mf mb [] ys:=fun o ho=>by cases ho
theorem l4.app (h:l4 w b mf mb os ys):l4 w b mf mb os (ys++[x]):=fun o ho p hp u hu q e=>List.mem_append_left _ (h o ho p hp u hu q e)
theorem nW.app (h:nW w b mf mb o left ys):nW w b mf mb o left (ys++[x]):=fun p hp=>(h p hp).imp id fun h u hu q e=>List.mem_append_left _ (h u hu q e)
theorem nW.start:nW w b mf mb o mf ys:=fun p hp=> .inl hp
theorem nX.start:nX w b mb o p mb ys:=fun p hp=> .inl hp
theorem nX.skip {t:aQ} {v:Int} (hn:(left.map (·.1)).Nodup) (hm:(t,v)∈left) (h:nX w b mb o p left ys) (he:mR w b p (t,v) o=none):nX w b mb o p (fz left t) ys:=fun u hu=>by
 rcases h u hu with q|q
 ·rcases mw hn hm q with q|q
  ·exact .inl q
  ·right; intro z hz; rw [q,he] at hz; cases hz
 ·exact .inr q
theorem nX.U1 {t:aQ} {v:Int} (hn:(left.map (·.1)).Nodup) (hm:(t,v)∈left) (h:nX w b mb o p left ys) (he:mR w b p (t,v) o=some x):nX w b mb o p (fz left t) (ys++[x]):=fun u hu=>by
 rcases h u hu with q|q
 ·rcases mw hn hm q with q|q
  ·exact .inl q
  ·right; intro z hz; rw [q,he] at hz; cases hz; simp
 ·right; intro z hz; exact List.mem_append_left _ (q z hz)
theorem nW.next {t:aQ} {v:Int} {l2:List (aQ×Int)} (hn:(left.map (·.1)).Nodup) (hm:(t,v)∈left) (h:nW w b mf mb o left ys) (hq:nX w b mb o (t,v) l2 ys) (h0:l2=[]):nW w b mf mb o (fz left t) ys:=fun p hp=>by
 rcases h p hp with q|q
 ·rcases mw hn hm q with q|q
  ·exact .inl q
  ·right; intro u hu z hz; subst q
   rcases hq u hu with q|q
   ·rw [h0] at q; cases q
   ·exact q z hz
 ·exact .inr q
theorem l4.next (h:l4 w b mf mb os ys) (hp:nW w b mf mb o left ys) (h0:left=[]):l4 w b mf mb (os++[o]) ys:=fun o' ho p hp' u hu q e=>by
 rcases gH.1 ho with ho|ho
 ·exact h o' ho p hp' u hu q e
 ·simp only [cE] at ho; subst ho
  rcases hp p hp' with z|z
  ·rw [h0] at z; cases z
  ·exact z u hu q e
theorem l4.fin (h:l4 w b mf mb os ys) (ho: ∀ o∈jV w b,o∈os): ∀ q∈qy w b mf mb,q∈ys:=fun q hq=>by
 obtain ⟨o,A,p,B,u,C,e⟩:=ju.1 hq
 exact h o (ho o A) p B u C q e
theorem Hx (h:max (p.2+de w b) o.2.Lo≤min u.2 o.2.Hi) (h2:m0 w (dL (dL p.1 u.1) (gl o.1))=true):mR w b p u o=some (o.1,⟨max (p.2+de w b) o.2.Lo,min u.2 o.2.Hi⟩):=by
 unfold mR lx zl; rw [if_pos ⟨h,h2⟩]
theorem Kk (h: ¬ max (p.2+de w b) o.2.Lo≤min u.2 o.2.Hi):mR w b p u o=none:=by
 unfold mR lx; rw [if_neg (fun q=>h q.1)]
theorem Hh (h2:m0 w (dL (dL p.1 u.1) (gl o.1))=false):mR w b p u o=none:=by
 unfold mR zl; rw [if_neg (fun q=>by rw [h2] at q; exact absurd q.2 dc)]
theorem od {v:Int} (h:w.qB[b]? =some v):de w b=v:=by unfold de; rw [h]; rfl
theorem BW {t q:aQ} {v z y:Int} (hy:w.qB[b]? =some y) (h:max (v+y) o.2.Lo≤min z o.2.Hi) (h2:m0 w (dL (dL t q) (gl o.1))=true):mR w b (t,v) (q,z) o=some (o.1,⟨max (v+y) o.2.Lo,min z o.2.Hi⟩):=by
 have e:=od hy
 subst e
 exact Hx h h2
theorem GQ {t q:aQ} {v z y:Int} (hy:w.qB[b]? =some y) (h: ¬ max (v+y) o.2.Lo≤min z o.2.Hi):mR w b (t,v) (q,z) o=none:=by
 have e:=od hy
 subst e
 exact Kk h
theorem oo {m:List (aQ×Int)} {k:aQ} {y:Int} (h:(m.map (·.1)).Nodup):((eB m k y).map (·.1)).Nodup:=by
 unfold eB
 by_cases hx:(m.lookup k).isSome
 ·rw [if_pos hx,List.map_map]
  have e:m.map ((fun p=>p.1)∘fun p=>if p.1=k then (k,y) else p)=m.map (·.1):=by
   apply List.map_congr_left
   intro p _
   simp only [Function.comp]
   split
   ·rename_i e; exact e.symm
   ·rfl
  rw [e]; exact h
 ·rw [if_neg hx,List.map_append,List.nodup_append]
  refine ⟨h,sm,?_⟩
  intro a ha c hc
  simp only [List.map_cons,List.map_nil,cE] at hc
  rw [hc]
  obtain ⟨p,hp,rfl⟩:=db.1 ha
  have hn:m.lookup k=none:=by cases h0:m.lookup k with
   |none=>rfl
   |some v=>exact absurd (by rw [h0]; rfl) hx
  exact iB.1 hn p hp
theorem By {m:List (aQ×Int)} {q:aQ×Int} (h:(m.map (·.1)).Nodup):((pM m q).map (·.1)).Nodup:=by
 unfold pM; split
 ·exact oo h
 ·split
  ·exact oo h
  ·exact h
theorem CW {m:List (aQ×Int)} {q:aQ×Int} (h:(m.map (·.1)).Nodup):((pg m q).map (·.1)).Nodup:=by
 unfold pg; split
 ·exact oo h
 ·split
  ·exact oo h
  ·exact h
/-- a map of the first times, on its way -/
structure yD (w:cr) (b:Nat) (m:List (aQ×Int)):Prop where
 snd:v_ m (qx w (b+1))
 keys:(m.map (·.1)).Nodup
structure wy (w:cr) (b:Nat) (m:List (aQ×Int)):Prop where
 snd:v_ m (back w b)
 keys:(m.map (·.1)).Nodup
 zero: ∃ v,m.lookup ⟨0,0⟩=some v∧w.gj≤v
theorem Jw (h:max (p.2+de w b) o.2.Lo≤min o.2.Hi w.gj):m6 w b p o=some (dL p.1 (gl o.1),max (p.2+de w b) o.2.Lo):=by unfold m6; rw [if_pos h]
theorem MU (h: ¬ max (p.2+de w b) o.2.Lo≤min o.2.Hi w.gj):m6 w b p o=none:=by unfold m6; rw [if_neg h]
theorem Il (h:o.2.Lo≤min p.2 o.2.Hi):pA w b p o=some (dL p.1 (gl o.1),min p.2 o.2.Hi-de w b):=by unfold pA; rw [if_pos h]
theorem NZ (h: ¬ o.2.Lo≤min p.2 o.2.Hi):pA w b p o=none:=by unfold pA; rw [if_neg h]
theorem yD.start:yD w b []:=⟨fun t v h=>by simp at h,List.nodup_nil⟩
theorem yD.add {m:List (aQ×Int)} {q:aQ×Int} (h:yD w b m) (hp:p∈qx w b) (ho:o∈jV w b) (he:m6 w b p o=some q):yD w b (pM m q):=⟨Hy h.snd (kF.2 ⟨p,hp,o,ho,he⟩),By h.keys⟩
theorem wy.start (hb:b<w.n):wy w b [(⟨0,0⟩,w.gj)]:=⟨fun t v h=>by
 obtain ⟨rfl,rfl⟩:=pH.1 h
 exact (o9 hb).2 (.inl U),sm,w.gj,pH.2 ⟨U,U⟩,Int.le_refl _⟩
theorem wy.add {m:List (aQ×Int)} {q:aQ×Int} (hb:b<w.n) (h:wy w b m) (hp:p∈back w (b+1)) (ho:o∈jV w b) (he:pA w b p o=some q):wy w b (pg m q):=⟨GK h.snd ((o9 hb).2 (.inr ⟨p,hp,o,ho,he⟩)),CW h.keys,by
 obtain ⟨v,A,C⟩:=h.zero
 obtain ⟨v',B,D⟩:=rz (q:=q) _ _ A
 exact ⟨v',B,I⟩⟩
theorem jt.none_ {m:List (aQ×Int)} (h:jt w b m p os) (he:m6 w b p o=none):jt w b m p (os++[o]):=h.add (xq.refl _) fun q hq=>by rw [he] at hq; cases hq
theorem jt.Kl {m:List (aQ×Int)} {q:aQ×Int} (h:jt w b m p os) (he:m6 w b p o=some q):jt w b (pM m q) p (os++[o]):=h.add wk fun q' hq=>by rw [he] at hq; cases hq; exact HN
theorem jo.none_ {m:List (aQ×Int)} (h:jo w b m p os) (he:pA w b p o=none):jo w b m p (os++[o]):=h.add (x4.refl _) fun q hq=>by rw [he] at hq; cases hq
theorem jo.Kl {m:List (aQ×Int)} {q:aQ×Int} (h:jo w b m p os) (he:pA w b p o=some q):jo w b (pg m q) p (os++[o]):=h.add rz fun q' hq=>by rw [he] at hq; cases hq; exact GP
/-- what of a map of the beam before is used already -/
def km (w:cr) (b:Nat) (mb m left:List (aQ×Int)):Prop:= ∀ p∈mb,p∈left∨jt w b m p (jV w b)
def jQ (w:cr) (b:Nat) (mb m left:List (aQ×Int)):Prop:= ∀ p∈mb,p∈left∨jo w b m p (jV w b)
theorem km.start {m:List (aQ×Int)}:km w b mb m mb:=fun p hp=> .inl hp
theorem jQ.start {m:List (aQ×Int)}:jQ w b mb m mb:=fun p hp=> .inl hp
theorem km.lower {m m':List (aQ×Int)} (h:km w b mb m left) (hl:xq m m'):km w b mb m' left:=fun p hp=>(h p hp).imp id fun h=>h.lower hl
theorem jQ.upper {m m':List (aQ×Int)} (h:jQ w b mb m left) (hl:x4 m m'):jQ w b mb m' left:=fun p hp=>(h p hp).imp id fun h=>h.upper hl
theorem km.next {m:List (aQ×Int)} {t:aQ} {v:Int} (hn:(left.map (·.1)).Nodup) (hm:(t,v)∈left) (h:km w b mb m left) (hd:jt w b m (t,v) os) (ho: ∀ o∈jV w b,o∈os):km w b mb m (fz left t):=fun p hp=>by
 rcases h p hp with q|q
 ·rcases mw hn hm q with q|q
  ·exact .inl q
  ·right; rw [q]; exact hd.sub ho
 ·exact .inr q
theorem jQ.next {m:List (aQ×Int)} {t:aQ} {v:Int} (hn:(left.map (·.1)).Nodup) (hm:(t,v)∈left) (h:jQ w b mb m left) (hd:jo w b m (t,v) os) (ho: ∀ o∈jV w b,o∈os):jQ w b mb m (fz left t):=fun p hp=>by
 rcases h p hp with q|q
 ·rcases mw hn hm q with q|q
  ·exact .inl q
  ·right; rw [q]; exact hd.sub ho
 ·exact .inr q
theorem km.fin {m:List (aQ×Int)} (h:km w b mb m left) (h0:left=[]): ∀ p∈mb,jt w b m p (jV w b):=fun p hp=>by
 rcases h p hp with q|q
 ·rw [h0] at q; cases q
 ·exact q
theorem jQ.fin {m:List (aQ×Int)} (h:jQ w b mb m left) (h0:left=[]): ∀ p∈mb,jo w b m p (jV w b):=fun p hp=>by
 rcases h p hp with q|q
 ·rw [h0] at q; cases q
 ·exact q
end
section
def mV (a b:ai):ai:=⟨a.Lo+b.Lo,a.Hi+b.Hi⟩
def eQ:ai:=⟨0,0⟩
def kS (a:ai) (l:List ai):ai:=l.foldl mV a
def lZ (z:ai):Prop:=(-1000000000≤z.Lo∧z.Lo≤1000000000)∧ -1000000000≤z.Hi∧z.Hi≤1000000000
theorem zg {a:ai} {l:List ai} {i:Nat} {z:ai} (h:l[i]? =some z):kS a (l.take (i+1))=mV (kS a (l.take i)) z:=by
 rw [List.take_add_one,h]; unfold kS; simp
theorem Pc {a:ai} {l:List ai} (ha:lZ a) (hl: ∀ z∈l,lZ z): ∀ i:Nat,(-1000000000-1000000000*(i:Int)≤(kS a (l.take i)).Lo∧(kS a (l.take i)).Lo≤1000000000+1000000000*(i:Int))∧ -1000000000-1000000000*(i:Int)≤(kS a (l.take i)).Hi∧(kS a (l.take i)).Hi≤1000000000+1000000000*(i:Int):=by
 intro i
 induction i with
 |zero=>unfold lZ at ha; simp [kS]; omega
 |succ i ih=>
  cases h:l[i]? with
  |none=>rw [List.take_add_one,h]; simp only [Option.toList_none,List.append_nil]; omega
  |some z=>
   have hz:=hl z (aM h)
   unfold lZ at hz
   rw [zg h]
   simp only [mV]
   omega
theorem LF {a:ai} {l:List ai} {i:Nat} (h:l.length≤i):kS a (l.take i)=kS a l:=by rw [List.take_of_length_le h]
theorem n_ {a z:ai}:vA (ai.cells (kS a [z]))=vA (ai.cells (mV a z)):=rfl
theorem CS {a y z:ai}:vA (ai.cells (kS a [y,z]))=vA (ai.cells (mV (mV a y) z)):=rfl
/-- how long the run is from one mark, over so many stretches; by how much it falls -/
def eP (ts:List au) (f:Nat):Nat→ai
 |0=>eQ
 |k+1=>match ts[f+k]? with
  |some x=>mV (eP ts f k) x.jJ
  |none=>eP ts f k
def gL (ts:List au) (f:Nat):Nat→ai
 |0=>eQ
 |k+1=>match ts[f+k]? with
  |some x=>mV (gL ts f k) x.kK
  |none=>gL ts f k
theorem pQ {ts:List au} {f k:Nat} {x:au} (h:ts[f+k]? =some x):eP ts f (k+1)=mV (eP ts f k) x.jJ:=by simp [eP,h]
theorem pP {ts:List au} {f k:Nat} {x:au} (h:ts[f+k]? =some x):gL ts f (k+1)=mV (gL ts f k) x.kK:=by simp [gL,h]
theorem mE {ts:List au} (ht: ∀ x∈ts,bZ x) (f:Nat): ∀ k:Nat,(0≤(eP ts f k).Lo∧(eP ts f k).Lo≤(eP ts f k).Hi)∧(eP ts f k).Hi≤30000*(k:Int):=by
 intro k
 induction k with
 |zero=>simp [eP,eQ]
 |succ k ih=>
  simp only [eP]
  cases h:ts[f+k]? with
  |none=>simp only; omega
  |some x=>
   have hx:=(ht x (aM h)).2.1
   simp only [ei] at hx
   simp only [mV]
   omega
theorem Fb {ts:List au} (ht: ∀ x∈ts,bZ x) (f:Nat): ∀ k:Nat,(0≤(gL ts f k).Lo∧(gL ts f k).Lo≤(gL ts f k).Hi)∧(gL ts f k).Hi≤5000*(k:Int):=by
 intro k
 induction k with
 |zero=>simp [gL,eQ]
 |succ k ih=>
  simp only [gL]
  cases h:ts[f+k]? with
  |none=>simp only; omega
  |some x=>
   have hx:=(ht x (aM h)).2.2.1
   simp only [ei] at hx
   simp only [mV]
   omega
theorem qU {ts:List au} (ht: ∀ x∈ts,bZ x) {f k:Nat} (hk:k≤13):lZ (eP ts f k):=by
 have:=mE ht f k; unfold lZ; omega
theorem wX {ts:List au} (ht: ∀ x∈ts,bZ x) {f k:Nat} (hk:k≤13):lZ (gL ts f k):=by
 have:=Fb ht f k; unfold lZ; omega
theorem vX {x:au} (h:bZ x):lZ x.jJ:=by have:=h.2.1; simp only [ei] at this; unfold lZ; omega
theorem vo {x:au} (h:bZ x):lZ x.kK:=by have:=h.2.2.1; simp only [ei] at this; unfold lZ; omega
theorem zM {ts:List au} (h: ¬ (if du ts=true then (0:Int) else 10)=0):du ts=false∧(if du ts=true then (0:Int) else 10)=10:=by
 cases ht:du ts with
 |true=>rw [ht] at h; exact absurd rfl h
 |false=>exact ⟨rfl,rfl⟩
theorem Dn {ts:List au} (h:(if du ts=true then (0:Int) else 10)=0):du ts=true:=by
 cases ht:du ts with
 |true=>rfl
 |false=>rw [ht] at h; exact absurd h dc
/-- what the iterator of marks yields -/
def ux (ts:List au) (f:Nat):List (List Value):=(List.range (ts.length-f+1)).map fun (k:Nat)=>[.agg (eP ts f k).cells.toArray,.agg (gL ts f k).cells.toArray]
theorem uN {ts:List au} {f:Nat}:(ux ts f).length=ts.length-f+1:=by simp [ux]
theorem zq {ts:List au} {f k:Nat} (h:k≤ts.length-f):(ux ts f)[k]? =some [.agg (eP ts f k).cells.toArray,.agg (gL ts f k).cells.toArray]:=by
 simp [ux,List.getElem?_range (show k<ts.length-f+1 by omega)]
theorem GH {ts:List au} {f k:Nat} {x:List Value} (h:(ux ts f)[k]? =some x):k≤ts.length-f∧x=[.agg (eP ts f k).cells.toArray,.agg (gL ts f k).cells.toArray]:=by
 have hi:k<ts.length-f+1:=by
  have:=(bf.1 h).1
  simpa [ux] using this
 rw [zq I] at h
 exact ⟨I,(Option.some.inj h).symm⟩
theorem EF {ts:List au} {f:Nat}: ∀ x∈ux ts f,x.length=2:=fun x hx=>by
 obtain ⟨k,_,rfl⟩:=db.1 hx; rfl
end
section
def fP (ts:List au) (s:cH):Prop:=(0≤s.bG∧s.bG<(ts.length:Int))∧ ∃ x,ts[s.bG.toNat]? =some x∧ei s.lX 0 (x.jJ.Lo-1)
noncomputable instance (ts:List au) (s:cH):Decidable (fP ts s):=Classical.propDecidable _
theorem C7 {ts:List au} {s:cH} {x:au} (h:0≤s.bG∧s.bG<(ts.length:Int)) (hx:ts[s.bG.toNat]? =some x):fP ts s↔ei s.lX 0 (x.jJ.Lo-1):=
 ⟨fun A=>by obtain ⟨y,hy,B⟩:=A.2; rw [hx] at hy; cases hy; exact B,fun A=>⟨h,x,hx,A⟩⟩
theorem Bj {ts:List au} {s:cH} (h: ¬ (0≤s.bG∧s.bG<(ts.length:Int))): ¬ fP ts s:=fun A=>h A.1
theorem zZ {ts:List au} {s:cH} (ht: ∀ x∈ts,bZ x) (h:fP ts s):(0≤s.lX.Lo∧s.lX.Lo≤s.lX.Hi)∧s.lX.Hi≤30000:=by
 obtain ⟨x,hx,A⟩:=h.2
 have:=(ht x (aM hx)).2.1
 simp only [ei] at A this
 omega
theorem DP {ts:List au} {a:cH}:vB (decide (∀ s∈[a],fP ts s))=vB (decide (fP ts a)):=congrArg _ (gU.2 sm)
theorem Et {ts:List au} {a b:cH}:vB (decide (∀ s∈[a,b],fP ts s))=vB (decide (fP ts a∧fP ts b)):=congrArg _ (gU.2 sm)
def oy (z:ai):ai:=⟨-z.Hi,-z.Lo⟩
def L4 (ts:List au) (s:cH):ai:=mV (eP ts 0 s.bG.toNat) s.lX
noncomputable def FE (ts:List au) (s:cH):Int:=if du ts=true then (if fP ts s then 0 else 12) else 10
noncomputable def PH (ts:List au) (s:cH):ai:=if FE ts s=0 then L4 ts s else eQ
theorem IT {ts:List au} {s:cH} (h:du ts=false):FE ts s=10∧PH ts s=eQ:=by
 have e:FE ts s=10:=by unfold FE; rw [h]; rfl
 exact ⟨e,by unfold PH; rw [e]; rfl⟩
theorem H8 {ts:List au} {s:cH} (h:du ts=true) (h2: ¬ fP ts s):FE ts s=12∧PH ts s=eQ:=by
 have e:FE ts s=12:=by unfold FE; rw [if_pos h,if_neg h2]
 exact ⟨e,by unfold PH; rw [e]; rfl⟩
theorem xw {ts:List au} {s:cH} (h:du ts=true) (h2:fP ts s):FE ts s=0∧PH ts s=L4 ts s:=by
 have e:FE ts s=0:=by unfold FE; rw [if_pos h,if_pos h2]
 exact ⟨e,if_pos e⟩
theorem Fe {ts:List au} {s:cH} (h:du ts=true):FE ts s=0↔fP ts s:=by
 unfold FE; rw [if_pos h]; split<;>simp [*]
def xW (ts:List au) (a b:cH):ai:=eP ts (min a.bG b.bG).toNat (max a.bG b.bG-min a.bG b.bG).toNat
def kf (ts:List au) (a b:cH):ai:=mV (mV (if b.bG<a.bG then oy (xW ts a b) else xW ts a b) b.lX) (oy a.lX)
noncomputable def mu (ts:List au) (a b:cH):Int:=if du ts=true then (if fP ts a∧fP ts b then 0 else 12) else 10
noncomputable def lg (ts:List au) (a b:cH):ai:=if mu ts a b=0 then kf ts a b else eQ
theorem vM {ts:List au} {a b:cH} (h:du ts=false):mu ts a b=10∧lg ts a b=eQ:=by
 have e:mu ts a b=10:=by unfold mu; rw [h]; rfl
 exact ⟨e,by unfold lg; rw [e]; rfl⟩
theorem o3 {ts:List au} {a b:cH} (h:du ts=true) (h2: ¬ (fP ts a∧fP ts b)):mu ts a b=12∧lg ts a b=eQ:=by
 have e:mu ts a b=12:=by unfold mu; rw [if_pos h,if_neg h2]
 exact ⟨e,by unfold lg; rw [e]; rfl⟩
theorem lV {ts:List au} {a b:cH} (h:du ts=true) (h2:fP ts a∧fP ts b):mu ts a b=0∧lg ts a b=kf ts a b:=by
 have e:mu ts a b=0:=by unfold mu; rw [if_pos h,if_pos h2]
 exact ⟨e,if_pos e⟩
theorem Ae {z:ai} (h:lZ z):lZ (oy z):=by unfold lZ oy at *; simp only; omega
theorem rh {ts:List au} {s:cH} (ht: ∀ x∈ts,bZ x) (h:fP ts s):lZ s.lX:=by have:=zZ ht h; unfold lZ; omega
theorem Pp {ts:List au} {a b:cH} (ht: ∀ x∈ts,bZ x) (hl:ts.length≤12) (ha:fP ts a) (hb:fP ts b):(0≤(xW ts a b).Lo∧(xW ts a b).Lo≤(xW ts a b).Hi)∧(xW ts a b).Hi≤360000:=by
 have h:=mE ht (min a.bG b.bG).toNat (max a.bG b.bG-min a.bG b.bG).toNat
 have A:=ha.1
 have B:=hb.1
 unfold xW
 omega
theorem xn {ts:List au} {a b:cH} (ht: ∀ x∈ts,bZ x) (hl:ts.length≤12) (ha:fP ts a) (hb:fP ts b):(-400000≤(kf ts a b).Lo∧(kf ts a b).Lo≤(kf ts a b).Hi)∧(kf ts a b).Hi≤400000:=by
 have h:=Pp ht hl ha hb
 have A:=zZ ht ha
 have B:=zZ ht hb
 unfold kf mV oy
 split<;>simp only <;>omega
theorem Tu {ts:List au} {s:cH} (ht: ∀ x∈ts,bZ x) (hl:ts.length≤12) (h:fP ts s):(0≤(L4 ts s).Lo∧(L4 ts s).Lo≤(L4 ts s).Hi)∧(L4 ts s).Hi≤400000:=by
 have A:=mE ht 0 s.bG.toNat
 have B:=zZ ht h
 have C:=h.1
 unfold L4 mV
 simp only; omega
theorem GL {α:Type} {p:Nat→α→Bool} {l:List α}:((l.zipIdx.filter fun q=>p q.2 q.1).map fun q=>(q.2:Int))=[]↔ ∀ (i:Nat) x,l[i]? =some x→p i x=false:=by
 rw [List.map_eq_nil_iff,List.filter_eq_nil_iff]
 constructor
 ·intro h i x hx
  have:=h (x,i) (by rw [List.mem_zipIdx_iff_getElem?]; simpa using hx)
  simpa using this
 ·rintro h ⟨x,i⟩ hm
  rw [List.mem_zipIdx_iff_getElem?] at hm
  simpa using h i x (by simpa using hm)
/-- the places of a list at which something is so -/
def tM {α:Type} (p:Nat→α→Bool) (l:List α) (n:Nat):List Int:=(((l.take n).zipIdx.filter fun q=>p q.2 q.1).map fun q=>(q.2:Int))
theorem Jt {α:Type} {p:Nat→α→Bool} {l:List α} {i:Nat} {x:α} (hx:l[i]? =some x) (h:p i x=true):tM p l (i+1)=tM p l i++[(i:Int)]:=by
 have hi:=(bf.1 hx).1
 unfold tM
 rw [List.take_add_one,hx,List.zipIdx_append,List.filter_append,List.map_append]
 simp [Nat.min_eq_left (Nat.le_of_lt hi),h]
theorem MY {α:Type} {p:Nat→α→Bool} {l:List α} {i:Nat} {x:α} (hx:l[i]? =some x) (h:p i x=false):tM p l (i+1)=tM p l i:=by
 have hi:=(bf.1 hx).1
 unfold tM
 rw [List.take_add_one,hx,List.zipIdx_append,List.filter_append,List.map_append]
 simp [Nat.min_eq_left (Nat.le_of_lt hi),h]
theorem C4 {α:Type} {p:Nat→α→Bool} {l:List α} {n:Nat}:(tM p l n).length≤n:=by
 unfold tM
 rw [List.length_map]
 refine Nat.le_trans (List.length_filter_le _ _) ?_
 rw [List.length_zipIdx,List.length_take]; omega
def JQ {α:Type} (p:Nat→α→Bool) (l:List α):List Int:=tM p l l.length
theorem NU {α:Type} {p:Nat→α→Bool} {l:List α} {n:Nat} (h:n=l.length):tM p l n=JQ p l:=by rw [h]; rfl
theorem Gm {α:Type} {p:Nat→α→Bool} {l:List α}:(JQ p l).length=0↔ ∀ (i:Nat) x,l[i]? =some x→p i x=false:=by
 unfold JQ tM
 rw [List.length_eq_zero_iff,List.take_length]
 exact GL
end
section
theorem zN (p:Int→Bool) (n:Nat): ∃ r:Int,r=((List.range n).findIdx fun (k:Nat)=>p (k:Int):Nat):=⟨_,rfl⟩
noncomputable def fO (p:Int→Bool) (n:Nat):Int:=Classical.choose (zN p n)
theorem tf (p:Int→Bool) (n:Nat):fO p n=((List.range n).findIdx fun (k:Nat)=>p (k:Int):Nat):=Classical.choose_spec (zN p n)
theorem iK {p:Int→Bool} {n:Nat}:0≤fO p n∧fO p n≤n:=by
 rw [tf]
 have:=List.findIdx_le_length (xs:=List.range n) (p:=fun (k:Nat)=>p (k:Int))
 rw [List.length_range] at this
 omega
theorem vE {p:Int→Bool} {n:Nat} {x:Int} (h0:0≤x) (h:x<fO p n):p x=false:=by
 have hb:=iK (p:=p) (n:=n)
 rw [tf] at h
 have B:x.toNat<(List.range n).findIdx fun (k:Nat)=>p (k:Int):=by omega
 have A:=List.not_of_lt_findIdx B
 simp only [List.getElem_range] at A
 rw [show (x.toNat:Int)=x by omega] at A
 simpa using A
theorem zw {p:Int→Bool} {n:Nat} (h:fO p n<n):p (fO p n)=true:=by
 rw [tf] at h ⊢
 have A:((List.range n).findIdx fun (k:Nat)=>p (k:Int))<(List.range n).length:=by rw [List.length_range]; omega
 have:=List.findIdx_getElem (w:=A)
 simpa using this
theorem zH {p:Int→Bool} {n:Nat} {r:Int} (h0:0≤r) (hn:r<n) (hr:p r=true) (hb: ∀ x,0≤x→x<r→p x=false):fO p n=r:=by
 have A:=iK (p:=p) (n:=n)
 rcases Int.lt_trichotomy (fO p n) r with h|h|h
 ·have:=hb _ A.1 h
  have e:=zw (p:=p) (n:=n) I
  rw [e] at this; cases this
 ·exact h
 ·have:=vE h0 h
  rw [hr] at this; cases this
end
section
def o1 (n by_:Int):Int:=(n+by_-1)/by_
/-- by how much a sync may be off -/
def tD (c:ax) (at_:Int) (x:ct):Int:=o1 (c.dw*max (at_-x.At) (x.At-at_)) 1000000
def my (c:ax) (at_:Int) (s:ai) (x:ct):ai:=⟨max s.Lo (x.eg.Lo-tD c at_ x),min s.Hi (x.eg.Hi+tD c at_ x)⟩
def gO (c:ax) (at_:Int) (k:Nat):ai:=(c.bB.take k).foldl (my c at_) ⟨-1099511627776,1099511627776⟩
def iI (c:ax) (at_:Int):ai:=c.bB.foldl (my c at_) ⟨-1099511627776,1099511627776⟩
theorem kb {c:ax} {at_:Int} {k:Nat} {x:ct} (h:c.bB[k]? =some x):gO c at_ (k+1)=my c at_ (gO c at_ k) x:=by
 unfold gO; rw [List.take_add_one,h,List.foldl_append]; rfl
theorem nV {c:ax} {at_:Int} {k:Nat} (h:c.bB.length≤k):gO c at_ k=iI c at_:=by unfold gO iI; rw [List.take_of_length_le h]
def kI (c:ax) (i:Nat):Int:=if i=0 then-1 else ((c.bB[i-1]?).map (·.At)).getD 0
def fT (c:ax) (i:Nat) (x:ct):Prop:=(kI c i<x.At∧x.At≤86400000)∧ -10000≤x.eg.Lo∧x.eg.Lo≤x.eg.Hi∧x.eg.Hi≤10000
def nK (c:ax) (x o:ct):Prop:=x.eg.Lo-o.eg.Hi≤o1 (c.dw*(x.At-o.At)) 1000000∧o.eg.Lo-x.eg.Hi≤o1 (c.dw*(x.At-o.At)) 1000000
structure fy (c:ax):Prop where
 s7:0≤c.dw∧c.dw≤1000
 len:1≤c.bB.length∧c.bB.length≤5
 sync: ∀ (i:Nat) x,c.bB[i]? =some x→fT c i x
 pair: ∀ (i k:Nat) x o,c.bB[i]? =some x→k<i→c.bB[k]? =some o→nK c x o
noncomputable instance (c:ax):Decidable (fy c):=Classical.propDecidable _
theorem gW {c:ax} {i:Nat} (h:i=0):kI c i= -1:=if_pos h
theorem xh {c:ax} {i:Nat} {y:ct} (h:0<i) (hy:c.bB[i-1]? =some y):kI c i=y.At:=by unfold kI; rw [if_neg I,hy]; rfl
theorem oH {c:ax} {i:Nat} {y:ct} (hy:c.bB[i]? =some y):kI c (i+1)=y.At:=by unfold kI; rw [if_neg I,Nat.add_sub_cancel,hy]; rfl
/-- the times of the syncs -/
theorem MB {c:ax} (h: ∀ (i:Nat) x,c.bB[i]? =some x→fT c i x): ∀ (i:Nat) x,c.bB[i]? =some x→0≤x.At∧ ∀ (k:Nat) o,k<i→c.bB[k]? =some o→o.At<x.At:=by
 intro i
 induction i with
 |zero=>
  intro x hx
  have:=(h 0 x hx).1.1
  rw [gW rfl] at this
  exact ⟨I,fun k o hk=>by omega⟩
 |succ i ih=>
  intro x hx
  have hi:=(bf.1 hx).1
  have hy:c.bB[i]? =some (c.bB[i]'I):=fV I
  have B:=ih _ hy
  have A:=(h (i+1) x hx).1.1
  rw [oH hy] at A
  refine ⟨I,fun k o hk ho=>?_⟩
  by_cases e:k=i
  ·subst e; rw [hy] at ho; cases ho; exact A
  ·have:=B.2 k o I ho; omega
theorem fy.vx {c:ax} (h:fy c) {i:Nat} {x:ct} (hx:c.bB[i]? =some x):(0≤x.At∧x.At≤86400000)∧ -10000≤x.eg.Lo∧x.eg.Lo≤x.eg.Hi∧x.eg.Hi≤10000:=by
 have A:=h.sync i x hx
 exact ⟨⟨(MB h.sync i x hx).1,A.1.2⟩,A.2⟩
theorem EV {d a b:Int} (hd:0≤d∧d≤1000) (ha:0≤a∧a≤90000000) (hb:0≤b∧b≤90000000):0≤d*max (a-b) (b-a)∧d*max (a-b) (b-a)≤90000000000:=by
 have:=PC (a:=d) (b:=max (a-b) (b-a)) (A:=1000) (B:=90000000) hd.1 hd.2 I I
 omega
theorem vd {c:ax} {at_:Int} {x:ct} (hd:0≤c.dw∧c.dw≤1000) (ha:0≤at_∧at_≤90000000) (hx:0≤x.At∧x.At≤86400000):0≤tD c at_ x∧tD c at_ x≤90001:=by
 have h:=EV hd ha (show 0≤x.At∧x.At≤90000000 by omega)
 unfold tD o1; omega
theorem BP {c:ax} {at_:Int} (h:fy c) (ha:0≤at_∧at_≤90000000): ∀ k:Nat,(-1099511627776≤(gO c at_ k).Lo∧(gO c at_ k).Lo≤10000)∧ -10000≤(gO c at_ k).Hi∧(gO c at_ k).Hi≤1099511627776:=by
 intro k
 induction k with
 |zero=>simp [gO]
 |succ k ih=>
  cases hx:c.bB[k]? with
  |none=>unfold gO at ih ⊢; rw [List.take_add_one,hx]; simpa using ih
  |some x=>
   have hb:=h.vx hx
   have ho:=vd h.s7 ha hb.1
   rw [kb hx]
   unfold my
   simp only
   omega
theorem rl {c:ax} {at_:Int} (h:fy c) (ha:0≤at_∧at_≤90000000):(-110000≤(iI c at_).Lo∧(iI c at_).Lo≤10000)∧ -10000≤(iI c at_).Hi∧(iI c at_).Hi≤110000:=by
 obtain ⟨n,hn⟩: ∃ n,c.bB.length=n+1:=⟨c.bB.length-1,by have:=h.len; omega⟩
 have hx:c.bB[n]? =some (c.bB[n]'I):=fV I
 have hb:=h.vx hx
 have ho:=vd h.s7 ha hb.1
 have A:=BP h ha n
 rw [← nV (k:=n+1) I,kb hx]
 unfold my
 simp only
 omega
/-- as time goes on, time and what a clock may be ahead, together, never go back -/
theorem D6 {c:ax} (h:fy c) {a b:Int} (ha:0≤a) (hab:a≤b) (hb:b≤90000000): ∀ k:Nat,(a+(gO c a k).Lo≤b+(gO c b k).Lo∨(gO c a k).Lo= -1099511627776)∧a+(gO c a k).Hi≤b+(gO c b k).Hi:=by
 have step: ∀ (x:ct),0≤x.At∧x.At≤86400000→ ∀ a b:Int,0≤a→a≤b→b≤90000000→tD c a x≤tD c b x+(b-a)∧tD c b x≤tD c a x+(b-a):=by
  intro x hx a b ha hab hb
  have hd:=h.s7
  have e: ∀ u v:Int,u≤v+1000000*(b-a)→o1 u 1000000≤o1 v 1000000+(b-a):=by intro u v C; unfold o1; omega
  have m: ∀ p q:Int,p≤q+(b-a)→c.dw*p≤c.dw*q+1000000*(b-a):=by
   intro p q A
   have D:c.dw*p≤c.dw*(q+(b-a)):=Int.mul_le_mul_of_nonneg_left A hd.1
   have E:c.dw*(q+(b-a))=c.dw*q+c.dw*(b-a):=Int.mul_add _ _ _
   have F:c.dw*(b-a)≤1000*(b-a):=Int.mul_le_mul_of_nonneg_right hd.2 I
   omega
  exact ⟨e _ _ (m _ _ I),e _ _ (m _ _ I)⟩
 intro k
 induction k with
 |zero=>simp [gO]; omega
 |succ k ih=>
  cases hx:c.bB[k]? with
  |none=>
   have e: ∀ t,gO c t (k+1)=gO c t k:=fun t=>by unfold gO; rw [List.take_add_one,hx]; simp
   rw [e,e]; exact ih
  |some x=>
   have hs:=h.vx hx
   have:=step x hs.1 a b ha hab hb
   have B:=vd (at_:=a) h.s7 ⟨ha,I⟩ hs.1
   rw [kb hx,kb hx]
   unfold my
   simp only
   omega
theorem oO {c:ax} (h:fy c) {a b:Int} (ha:0≤a) (hab:a≤b) (hb:b≤90000000):a+(iI c a).Lo≤b+(iI c b).Lo∧a+(iI c a).Hi≤b+(iI c b).Hi:=by
 have A:=D6 h ha hab hb c.bB.length
 have B:=rl h (at_:=a) ⟨ha,I⟩
 rw [nV (Nat.le_refl _),nV (Nat.le_refl _)] at A
 omega
noncomputable def lH (l:bH) (i:Nat):Int:=match l.ab[i]? with
 |some b=>if i=0 then (L4 l.aO b.lp).Lo else (match l.ab[i-1]? with
  |some a=>(kf l.aO a.lp b.lp).Lo
  |none=>0)
 |none=>0
theorem zx {l:bH} {b:bK} (h:l.ab[0]? =some b):lH l 0=(L4 l.aO b.lp).Lo:=by unfold lH; rw [h]; rfl
theorem CE {l:bH} {i:Nat} {a b:bK} (hi:0<i) (h:l.ab[i]? =some b) (ha:l.ab[i-1]? =some a):lH l i=(kf l.aO a.lp b.lp).Lo:=by unfold lH; rw [h,ha]; simp only; rw [if_neg I]
def kp (l:bH) (b:bK):Prop:=fP l.aO b.lp∧0≤b.jG∧b.jG<(l.aj.length:Int)
def eZ (l:bH):Prop:=(1≤l.h_∧l.h_≤5000)∧(1≤(l.aj.length:Int)∧(l.aj.length:Int)≤4)∧(1≤(l.ab.length:Int)∧(l.ab.length:Int)≤6)∧(0≤l.cf∧l.cf≤(l.ab.length:Int)-1)∧(0≤l.fJ∧l.fJ≤3)∧0≤l.dC∧l.dC≤3
structure lR (l:bH):Prop where
 head:eZ l
 clock: ∀ c∈l.aj,fy c
 vl: ∀ b∈l.ab,kp l b
 Ps: ∀ i,i<l.ab.length→1≤lH l i
noncomputable instance (l:bH):Decidable (lR l):=Classical.propDecidable _
noncomputable def eT (l:bH):Int:=if du l.aO=true then (if lR l then 0 else 50) else 10
theorem ze {l:bH} (h:du l.aO=false):eT l=10:=by unfold eT; rw [h]; rfl
theorem rq {l:bH} (h:du l.aO=true) (h2: ¬ lR l):eT l=50:=by unfold eT; rw [if_pos h,if_neg h2]
theorem xV {l:bH} (h:du l.aO=true) (h2:lR l):eT l=0:=by unfold eT; rw [if_pos h,if_pos h2]
theorem eh {l:bH} (h:eT l=0):du l.aO=true∧lR l:=by
 unfold eT at h
 split at h
 ·split at h
  ·exact ⟨asm,asm⟩
  ·omega
 ·omega
theorem Cy {l:bH} (ht:du l.aO=true) (hb: ∀ b∈l.ab,kp l b) (i:Nat): -400000≤lH l i∧lH l i≤400000:=by
 have A:=ki ht
 have hl:=lh ht
 unfold lH
 cases h:l.ab[i]? with
 |none=>simp
 |some b=>
  have B:=(hb b (aM h)).1
  simp only
  split
  ·have:=Tu A hl B; omega
  ·cases h2:l.ab[i-1]? with
   |none=>simp
   |some a=>
    have C:=(hb a (aM h2)).1
    have:=xn A hl C B
    simp only; omega
def qw (l:bH) (s:aF):ax:=((l.ab[s.fH.toNat]?).bind fun b=>l.aj[b.jG.toNat]?).getD ⟨0,[]⟩
def gI (c:ax) (r t:Int):Bool:=decide (r≤t+(iI c t).Hi)
def gJ (c:ax) (r t:Int):Bool:=decide (r<t+(iI c t).Lo)
noncomputable def rF (c:ax) (r:Int):ai:=⟨fO (gI c r) 86400001,fO (gJ c r) 86400001-1⟩
noncomputable def cV (l:bH) (s:aF):ai:=rF (qw l s) s.Read
noncomputable def eE (l:bH) (i:Nat):Int:=o1 (1000*lH l i) l.h_
end
section
open Go.RowKit
def Bb (n:Int):Int:=IntKind.i64.wrap n
theorem AN {n:Int} (h:rn n):Bb n=n:=oK h
theorem Tj (n:Int): -9223372036854775808≤Bb n∧Bb n≤9223372036854775807:=by
 unfold Bb
 rw [IntKind.wrap_i64]
 omega
section
variable {P:Program} {t:TypeId} {x y:Operand} {a b:Int}
theorem PB:gY P .add t x y (.int .i64 a) (.int .i64 b) (.int .i64 (Bb (a+b))):=fun w=>by simp [eqGuard_add,binOp_add,Op.intArith,Bb]
theorem Lh:gY P .sub t x y (.int .i64 a) (.int .i64 b) (.int .i64 (Bb (a-b))):=fun w=>by simp [eqGuard_sub,binOp_sub,Op.intArith,Bb]
theorem P3:gY P .mul t x y (.int .i64 a) (.int .i64 b) (.int .i64 (Bb (a*b))):=fun w=>by simp [eqGuard_mul,binOp_mul,Op.intArith,Bb]
end
/-- divided, and rounded up, as it comes out -/
def Tv (n by_:Int):Int:=(Bb (Bb (n+by_)-1)).tdiv by_
theorem PJ {a b:Int} (ha: -9223372036854775808≤a∧a≤9223372036854775807) (hb:2≤b):rn (a.tdiv b):=by
 have A:a.tdiv b=a/b+if a % b≠0∧a<0 then 1 else 0:=by
  rcases Int.lt_or_le a 0 with h|h
  ·rw [Int.tdiv_eq_ediv]
   have:b.sign=1:=Int.sign_eq_one_of_pos I
   rw [this]
   by_cases hd:b∣a
   ·have:a % b=0:=Int.emod_eq_zero_of_dvd hd
    simp [hd,this]
   ·have:a % b≠0:=fun e=>hd (Int.dvd_of_emod_eq_zero e)
    have hn: ¬ 0≤a:=by omega
    simp [hd,this,h,hn]
  ·rw [Int.tdiv_eq_ediv_of_nonneg h]
   have: ¬ a<0:=by omega
   simp [this]
 have B:a/b*b+a % b=a:=by rw [Int.mul_comm]; exact Int.mul_ediv_add_emod a b
 have C:0≤a % b:=Int.emod_nonneg _ I
 have D:a % b<b:=Int.emod_lt_of_pos _ I
 have E: -9223372036854775808≤a/b∧a/b≤4611686018427387904:=by
  constructor
  ·refine Int.le_ediv_of_mul_le I ?_
   have:(-9223372036854775808:Int)*b≤ -9223372036854775808*1:=Int.mul_le_mul_of_nonpos_left I I
   omega
  ·refine Int.ediv_le_of_le_mul I ?_
   have:(4611686018427387904:Int)*2≤4611686018427387904*b:=Int.mul_le_mul_of_nonneg_left hb I
   omega
 rw [A]
 unfold rn
 split<;>omega
theorem P0 {n by_:Int} (h0:0≤n) (h1:n≤1000000000000000000) (hb:1≤by_∧by_≤1000000000000):Tv n by_=(n+by_-1)/by_:=by
 unfold Tv
 rw [AN (show rn (n+by_) from ⟨I,I⟩),AN (show rn (n+by_-1) from ⟨I,I⟩),Int.tdiv_eq_ediv_of_nonneg I]
end
section
def mC (c:ax) (i:Nat) (x:ct) (k:Nat):Prop:=fT c i x∧ ∀ (j:Nat) o,j<k→c.bB[j]? =some o→nK c x o
def tj (c:ax) (n:Nat):Prop:= ∀ (i:Nat) x,i<n→c.bB[i]? =some x→mC c i x i
noncomputable instance (c:ax) (i:Nat) (x:ct) (k:Nat):Decidable (mC c i x k):=Classical.propDecidable _
instance (c:ax) (i:Nat) (x:ct):Decidable (fT c i x):=by unfold fT; infer_instance
theorem Dy {c:ax} {i:Nat} {x:ct}:mC c i x 0↔fT c i x:=⟨fun h=>h.1,fun h=>⟨h,fun j o hj=>by omega⟩⟩
theorem tq {c:ax} {i k:Nat} {x o:ct} (h:c.bB[k]? =some o):mC c i x (k+1)↔mC c i x k∧nK c x o:=by
 constructor
 ·intro hr
  exact ⟨⟨hr.1,fun j o' hj ho=>hr.2 j o' I ho⟩,hr.2 k o I h⟩
 ·rintro ⟨hr,hp⟩
  refine ⟨hr.1,fun j o' hj ho=>?_⟩
  by_cases e:j=k
  ·subst e; rw [h] at ho; cases ho; exact hp
  ·exact hr.2 j o' I ho
theorem Gs {c:ax}:tj c 0:=fun i x hi=>by omega
theorem Hu {c:ax} {i:Nat} {x:ct} (h:tj c i) (hx:c.bB[i]? =some x) (hr:mC c i x i):tj c (i+1):=fun j y hj hy=>by
 by_cases e:j=i
 ·subst e; rw [hx] at hy; cases hy; exact hr
 ·exact h j y I hy
theorem IK {c:ax} {i:Nat} {x:ct} (hx:c.bB[i]? =some x) (h: ¬ mC c i x i): ¬ fy c:=fun hc=>h ⟨hc.sync i x hx,fun j o hj ho=>hc.pair i j x o hx hj ho⟩
theorem Gn {c:ax} (h1:0≤c.dw∧c.dw≤1000) (h2:1≤c.bB.length∧c.bB.length≤5) (h:tj c c.bB.length):fy c:=
 ⟨h1,h2,fun i x hx=>(h i x (bf.1 hx).1 hx).1,fun i k x o hx hk ho=>(h i x (bf.1 hx).1 hx).2 k o hk ho⟩
/-- syncs so far -/
theorem vC {c:ax} {n:Nat} (h: ∀ (i:Nat) x,i<n→c.bB[i]? =some x→fT c i x): ∀ (i:Nat) x,i<n→c.bB[i]? =some x→0≤x.At∧ ∀ (k:Nat) o,k<i→c.bB[k]? =some o→o.At<x.At:=by
 intro i
 induction i with
 |zero=>
  intro x hn hx
  have:=(h 0 x hn hx).1.1
  rw [gW rfl] at this
  exact ⟨I,fun k o hk=>by omega⟩
 |succ i ih=>
  intro x hn hx
  have hi:=(bf.1 hx).1
  have hy:c.bB[i]? =some (c.bB[i]'I):=fV I
  have B:=ih _ I hy
  have A:=(h (i+1) x hn hx).1.1
  rw [oH hy] at A
  refine ⟨I,fun k o hk ho=>?_⟩
  by_cases e:k=i
  ·subst e; rw [hy] at ho; cases ho; exact A
  ·have:=B.2 k o I ho; omega
theorem KR {c:ax} {i:Nat} (hi:i≤c.bB.length) (h: ∀ (j:Nat) y,j<i→c.bB[j]? =some y→fT c j y): -1≤kI c i∧kI c i≤86400000:=by
 cases i with
 |zero=>rw [gW rfl]; omega
 |succ i=>
  have hy:c.bB[i]? =some (c.bB[i]'I):=fV I
  have A:=(vC (n:=i+1) h i _ I hy).1
  have B:=(h i _ I hy).1.2
  rw [oH hy]; omega
theorem QB {c:ax} {i:Nat} (hi:i≤c.bB.length) (h:tj c i): -1≤kI c i∧kI c i≤86400000:=KR hi fun j y hj hy=>(h j y hj hy).1
theorem vw {c:ax} {i k:Nat} {x o:ct} (hs: ∀ (j:Nat) y,j<i→c.bB[j]? =some y→fT c j y) (hx:c.bB[i]? =some x) (hok:fT c i x) (hk:k<i) (ho:c.bB[k]? =some o):
 (0≤o.At∧o.At<x.At∧x.At≤86400000)∧(-10000≤x.eg.Lo∧x.eg.Lo≤x.eg.Hi∧x.eg.Hi≤10000)∧ -10000≤o.eg.Lo∧o.eg.Lo≤o.eg.Hi∧o.eg.Hi≤10000:=by
 have h: ∀ (j:Nat) y,j<i+1→c.bB[j]? =some y→fT c j y:=fun j y hj hy=>by
  by_cases e:j=i
  ·subst e; rw [hx] at hy; cases hy; exact hok
  ·exact hs j y I hy
 have A:=(vC h i x I hx).2 k o hk ho
 have B:=(vC h k o I ho).1
 exact ⟨⟨B,A,hok.1.2⟩,hok.2,(h k o I ho).2⟩
theorem MS {d a b:Int} (hd:0≤d∧d≤1000) (h:0≤b∧b<a∧a≤86400000):Tv (Bb (d*Bb (a-b))) 1000000=o1 (d*(a-b)) 1000000:=by
 have C:0≤d*(a-b)∧d*(a-b)≤90000000000:=by
  have:=PC (a:=d) (b:=a-b) (A:=1000) (B:=90000000) hd.1 hd.2 I I
  omega
 rw [AN (show rn (a-b) from ⟨I,I⟩),AN (show rn (d*(a-b)) from ⟨I,I⟩),P0 C.1 I I]
 rfl
/-- what is asked of a line, however wrong it is -/
structure ej (l:bH) (asl:List RA):Prop where
 rW:l.aO.length≤1000000
 side: ∀ x∈l.aO,0≤x.iU∧x.iU≤255
 sG:l.aj.length≤1000000
 ly:asl.length=l.aj.length
 se:l.ab.length≤1000000
 Q0: ∀ (k:Nat) m (a:RA),l.aj[k]? =some m→asl[k]? =some a→m.bB.length≤a.2∧m.bB.length≤1000000
noncomputable instance (l:bH):Decidable (eZ l):=by unfold eZ; infer_instance
noncomputable instance (l:bH) (b:bK):Decidable (kp l b):=Classical.propDecidable _
theorem yS {l:bH} (h:eZ l) (h2: ∀ c∈l.aj,fy c) (h3: ∀ b∈l.ab,kp l b) (h4: ∀ i,i<l.ab.length→1≤lH l i):lR l:=⟨h,h2,h3,h4⟩
theorem Ec {l:bH}:((!(l.aj.any fun m=> !decide (fy m)))=true)↔ ∀ c∈l.aj,fy c:=by simp
theorem Gq {l:bH}:((!(l.ab.any fun b=> !decide (kp l b)))=true)↔ ∀ b∈l.ab,kp l b:=by simp
theorem lu {c:ax} (h:fy c) {r x:Int} (h0:0≤x) (h1:x<86400001):
 (x<fO (gI c r) 86400001→gI c r x=false)∧(fO (gI c r) 86400001≤x→gI c r x=true)∧(x<fO (gJ c r) 86400001→gJ c r x=false)∧(fO (gJ c r) 86400001≤x→gJ c r x=true):=by
 have up: ∀ (q:Int→Bool),(∀ a b,0≤a→a≤b→b<86400001→q a=true→q b=true)→fO q 86400001≤x→q x=true:=fun q hq hx=>by
  have hb:=iK (p:=q) (n:=86400001)
  exact hq _ _ hb.1 hx h1 (zw I)
 refine ⟨vE h0,up _ fun a b ha A hb hq=>?_,vE h0,up _ fun a b ha A hb hq=>?_⟩
 ·have:=oO h ha A I
  simp only [gI,decide_eq_true_eq] at hq ⊢; omega
 ·have:=oO h ha A I
  simp only [gJ,decide_eq_true_eq] at hq ⊢; omega
theorem xb {l:bH} {s:aF} {b:bK} {c:ax} (hb:l.ab[s.fH.toNat]? =some b) (hc:l.aj[b.jG.toNat]? =some c):qw l s=c:=by
 unfold qw; rw [hb]; simp only [Option.bind_some]; rw [hc]; rfl
end
section
def kQ (sg:List aF) (i:Nat):aF:=if i=0 then ⟨-1,0⟩ else (sg[i-1]?).getD ⟨-1,0⟩
theorem kh {sg:List aF} {i:Nat} {s:aF} (h:sg[i]? =some s):kQ sg (i+1)=s:=by unfold kQ; rw [if_neg I,Nat.add_sub_cancel,h]; rfl
def jw (l:bH) (s:aF):Prop:=(0≤s.fH∧s.fH≤(l.ab.length:Int)-1)∧0≤s.Read∧s.Read≤86400000
def iT (l:bH) (sg:List aF) (i:Nat) (s:aF):Prop:=jw l s∧ ¬ s.fH<(kQ sg i).fH∧ ¬ (s.fH=(kQ sg i).fH∧s.Read≤(kQ sg i).Read)
def oT (l:bH) (sg:List aF) (i:Nat):Prop:= ∀ (j:Nat) s,j<i→sg[j]? =some s→iT l sg j s
structure fQ (l:bH) (r:c_):Prop where
 time:0≤r.Start∧r.Start≤r.gj∧r.gj≤86400000
 len:r.aa.length≤10
 sig: ∀ (i:Nat) s,r.aa[i]? =some s→iT l r.aa i s
noncomputable instance (l:bH) (r:c_):Decidable (fQ l r):=Classical.propDecidable _
theorem vp {l:bH} {sg:List aF}:oT l sg 0:=fun j s hj=>absurd hj (Nat.not_lt_zero _)
theorem jv {l:bH} {sg:List aF} {i:Nat} {s:aF} (h:oT l sg i) (hs:sg[i]? =some s) (ho:iT l sg i s):oT l sg (i+1):=fun j z hj hz=>by
 rcases Nat.lt_or_ge j i with q|q
 ·exact h j z q hz
 ·obtain rfl:j=i:=by omega
  rw [hs] at hz; cases hz; exact ho
theorem xB {l:bH} {r:c_} {i:Nat} (h1:0≤r.Start∧r.Start≤r.gj∧r.gj≤86400000) (h2:r.aa.length≤10) (h:oT l r.aa i) (hi:r.aa.length≤i):fQ l r:=
 ⟨h1,h2,fun j s hs=>h j s (by have:=(bf.1 hs).1; omega) hs⟩
noncomputable def nS (l:bH) (sg:List aF) (b k:Nat):Option (Int×ai):=(sg[k]?).bind fun s=>if s.fH=(b:Int)∧(cV l s).Lo≤(cV l s).Hi then some ((k:Int),cV l s) else none
noncomputable def lf (l:bH) (sg:List aF) (i b:Nat):TM:=(List.range i).filterMap (nS l sg b)
noncomputable def cN (l:bH) (sg:List aF) (i:Nat):List TM:=(List.range l.ab.length).map (lf l sg i)
noncomputable def cu (l:bH) (n:Nat):List Int:=(List.range n).map (eE l)
theorem rD {l:bH} {n:Nat}:cu l (n+1)=cu l n++[eE l n]:=by simp [cu,List.range_succ]
theorem dv {l:bH} {n:Nat}:(cu l n).length=n:=by simp [cu]
theorem gS {l:bH} {sg:List aF} {i:Nat}:(cN l sg i).length=l.ab.length:=by simp [cN]
theorem o7 {l:bH} {sg:List aF} {i b:Nat} (h:b<l.ab.length):(cN l sg i)[b]? =some (lf l sg i b):=by simp [cN,h]
theorem qs {l:bH} {sg:List aF} {b k:Nat} {q:Int×ai}:nS l sg b k=some q↔ ∃ s,sg[k]? =some s∧(s.fH=(b:Int)∧(cV l s).Lo≤(cV l s).Hi)∧q=((k:Int),cV l s):=by
 unfold nS
 cases h:sg[k]? with
 |none=>simp
 |some s=>
  simp only [Option.bind_some,Option.some.injEq]
  by_cases e:s.fH=(b:Int)∧(cV l s).Lo≤(cV l s).Hi
  ·rw [if_pos e]
   constructor
   ·intro h; cases h; exact ⟨s,rfl,e,rfl⟩
   ·rintro ⟨s',rfl,_,rfl⟩; rfl
  ·rw [if_neg e]
   constructor
   ·intro h; cases h
   ·rintro ⟨s',rfl,e',_⟩; exact absurd e' e
theorem th {l:bH} {sg:List aF} {i b:Nat} {q:Int×ai}:q∈lf l sg i b↔ ∃ k,k<i∧ ∃ s,sg[k]? =some s∧(s.fH=(b:Int)∧(cV l s).Lo≤(cV l s).Hi)∧q=((k:Int),cV l s):=by
 unfold lf
 simp only [List.mem_filterMap,List.mem_range,qs]
theorem lz {l:bH} {sg:List aF} {i b:Nat}:lf l sg (i+1) b=lf l sg i b++(nS l sg b i).toList:=by
 unfold lf
 rw [List.range_succ,List.filterMap_append]
 congr 1
theorem xT {l:bH} {sg:List aF}:cN l sg 0=List.replicate l.ab.length []:=by
 unfold cN
 rw [List.eq_replicate_iff]
 refine ⟨sm,fun t ht=>?_⟩
 obtain ⟨b,_,rfl⟩:=db.1 ht
 rfl
theorem p9 {l:bH} {sg:List aF} {i:Nat} {s:aF} (hs:sg[i]? =some s) (h: ¬ (cV l s).Lo≤(cV l s).Hi):cN l sg (i+1)=cN l sg i:=by
 unfold cN
 apply List.map_congr_left
 intro b _
 rw [lz]
 have:nS l sg b i=none:=by
  cases e:nS l sg b i with
  |none=>rfl
  |some q=>obtain ⟨s',A,⟨_,B⟩,_⟩:=qs.1 e; rw [hs] at A; cases A; exact absurd B h
 rw [this]; simp
theorem sx {l:bH} {sg:List aF} {i:Nat} {s:aF} (hs:sg[i]? =some s) (hb:0≤s.fH∧s.fH≤(l.ab.length:Int)-1) (h:(cV l s).Lo≤(cV l s).Hi) {x:TM} (hx:(cN l sg i)[s.fH.toNat]? =some x):
 (cN l sg i).set s.fH.toNat (eB x (i:Int) (cV l s))=cN l sg (i+1):=by
 have A:s.fH.toNat<l.ab.length:=by omega
 rw [o7 A] at hx
 cases hx
 have B:eB (lf l sg i s.fH.toNat) (i:Int) (cV l s)=lf l sg (i+1) s.fH.toNat:=by
  have hn:(lf l sg i s.fH.toNat).lookup (i:Int)=none:=iB.2 fun p hp e=>by
   obtain ⟨k,hk,_,_,_,rfl⟩:=th.1 hp
   simp only at e; omega
  have ho:nS l sg s.fH.toNat i=some ((i:Int),cV l s):=qs.2 ⟨s,hs,⟨I,h⟩,rfl⟩
  rw [lz,ho]
  unfold eB; rw [hn]; rfl
 rw [B]
 apply List.ext_getElem?
 intro b
 rw [List.getElem?_set]
 by_cases e:s.fH.toNat=b
 ·rw [if_pos e,gS,← e,if_pos A,o7 A]
 ·rw [if_neg e]
  by_cases hb':b<l.ab.length
  ·rw [o7 hb',o7 hb',lz]
   have:nS l sg b i=none:=by
    cases e2:nS l sg b i with
    |none=>rfl
    |some q=>obtain ⟨s',C,⟨D,_⟩,_⟩:=qs.1 e2; rw [hs] at C; cases C; exact absurd I e
   rw [this]; simp
  ·rw [List.getElem?_eq_none (by rw [gS]; omega),List.getElem?_eq_none (by rw [gS]; omega)]
noncomputable def dx (l:bH) (r:c_):cr:=⟨r.Start,r.gj,cu l l.ab.length,cN l r.aa r.aa.length,l.dC,l.fJ,(r.aa.length:Int)⟩
theorem IZ {l:bH} (ht:du l.aO=true) (h:lR l) {i:Nat} (hi:i<l.ab.length):1≤eE l i∧eE l i≤500000000:=by
 have A:=Cy ht h.vl i
 have B:=h.Ps i hi
 have C:=h.head.1
 unfold eE o1
 refine ⟨(Int.le_ediv_iff_mul_le I).2 I,?_⟩
 have:(1000*lH l i+l.h_-1)/l.h_≤1000*lH l i+l.h_-1:=Int.ediv_le_self _ I
 omega
theorem NV (l:bH) (s:aF):0≤(cV l s).Lo∧(cV l s).Hi≤86400000:=by
 have A:=iK (p:=gI (qw l s) s.Read) (n:=86400001)
 have B:=iK (p:=gJ (qw l s) s.Read) (n:=86400001)
 unfold cV rF
 simp only
 omega
theorem mI {l:bH} {r:c_} (ht:du l.aO=true) (h:lR l) (hr:fQ l r):GN (dx l r):=by
 have hh:=h.head
 unfold eZ at hh
 refine ⟨?_,by simp [dx,gS,cr.n,dv],hr.time,fun x hx=>?_,fun t A p hp=>?_⟩
 ·show (cu l l.ab.length).length≤6
  rw [dv]; omega
 ·obtain ⟨i,hi,rfl⟩:=db.1 hx
  exact IZ ht h (List.mem_range.1 hi)
 ·obtain ⟨b,hb,rfl⟩:=db.1 A
  obtain ⟨k,hk,s,hs,⟨_,B⟩,rfl⟩:=th.1 hp
  have C:=NV l s
  have D:=hr.len
  simp only
  omega
noncomputable def fu (l:bH) (r:c_) (me:Int):Int:=if eT l=0 then (if fQ l r then (if me=0 then (if l3 (dx l r)=[] then 8 else 0) else me) else 51) else eT l
theorem mS {l:bH} {r:c_} {me:Int} (h: ¬ eT l=0):fu l r me=eT l:=if_neg h
theorem fR {l:bH} {r:c_} {me:Int} (h:eT l=0) (h2: ¬ fQ l r):fu l r me=51:=by unfold fu; rw [if_pos h,if_neg h2]
theorem C6 {l:bH} {r:c_} {me:Int} (h:eT l=0) (h2:fQ l r) (h3: ¬ me=0):fu l r me=me:=by unfold fu; rw [if_pos h,if_pos h2,if_neg h3]
theorem tp {l:bH} {r:c_} {me:Int} (h:eT l=0) (h2:fQ l r) (h3:me=0) (h4:l3 (dx l r)=[]):fu l r me=8:=by unfold fu; rw [if_pos h,if_pos h2,if_pos h3,if_pos h4]
theorem rT {l:bH} {r:c_} {me:Int} (h:eT l=0) (h2:fQ l r) (h3:me=0) (h4: ¬ l3 (dx l r)=[]):fu l r me=0:=by unfold fu; rw [if_pos h,if_pos h2,if_pos h3,if_neg h4]
theorem jh {l:bH} {r:c_} {me:Int} (h:fu l r me=0):eT l=0∧fQ l r∧me=0∧ ¬ l3 (dx l r)=[]:=by
 unfold fu at h
 split at h
 ·split at h
  ·split at h
   ·split at h
    ·omega
    ·exact ⟨asm,asm,asm,asm⟩
   ·omega
  ·omega
 ·omega
end
section
def qg (l:List Int):Int:=(l.drop 1).foldl min (l.headD 0)
theorem J1 {l:List Int} {i:Nat} {x:Int} (h:l[i]? =some x) (hi:1≤i):qg (l.take (i+1))=min (qg (l.take i)) x:=by
 have e:l.take (i+1)=l.take i++[x]:=by rw [List.take_add_one,h]; rfl
 have hl:1≤(l.take i).length:=by have:=(bf.1 h).1; rw [List.length_take]; omega
 rw [e]
 cases ht:l.take i with
 |nil=>rw [ht] at hl; simp at hl
 |cons y ys=>simp [qg,List.foldl_append]
theorem HJ {l:List Int} {x:Int} (h:l[0]? =some x):qg (l.take 1)=x:=by
 cases l with
 |nil=>simp at h
 |cons y ys=>simp at h; subst h; simp [qg]
theorem BH: ∀ (l:List Int) (a:Int),(l.foldl min a=a∨l.foldl min a∈l)∧l.foldl min a≤a∧ ∀ x∈l,l.foldl min a≤x
 |[],a=>⟨.inl rfl,sm,sm⟩
 |y::l,a=>by
  obtain ⟨A,C,B⟩:=BH l (min a y)
  simp only [List.foldl_cons]
  refine ⟨?_,I,?_⟩
  ·rcases A with A|A
   ·rw [A]
    rcases Int.le_total a y with q|q
    ·left; omega
    ·right; rw [show min a y=y by omega]; simp
   ·right; exact dh _ A
  ·intro x hx
   rcases b_.1 hx with rfl|hx
   ·omega
   ·exact B x hx
theorem N_ {l:List Int} (h:l≠[]):qg l∈l∧ ∀ x∈l,qg l≤x:=by
 cases l with
 |nil=>exact absurd rfl h
 |cons y ys=>
  obtain ⟨A,B,C⟩:=BH ys y
  refine ⟨?_,fun x hx=>?_⟩
  ·rcases A with A|A
   ·simp [qg,A]
   ·exact dh _ (by simpa [qg] using A)
  ·rcases b_.1 hx with rfl|hx
   ·simpa [qg] using B
   ·simpa [qg] using C x hx
noncomputable def kl (l:bH) (r:c_):List Int:=if fu l r 0=0 then l3 (dx l r) else []
theorem vi {l:bH} {r:c_} (h:fu l r 0=0):kl l r=l3 (dx l r):=if_pos h
theorem vm {l:bH} {r:c_} (h: ¬ fu l r 0=0):kl l r=[]:=if_neg h
theorem yY {l:bH} {r:c_} (h:fu l r 0=0):kl l r≠[]:=by rw [vi h]; exact (jh h).2.2.2
theorem DU {l:bH} {r:c_} (h:fu l r 0=0):1≤(kl l r).length:=List.length_pos_iff.2 (yY h)
theorem DW {l:bH} {r:c_}:(kl l r).length≤100:=by
 unfold kl
 split
 ·rename_i h
  obtain ⟨A,B,_⟩:=jh h
  obtain ⟨ht,ho⟩:=eh A
  have:=(mI ht ho B).n
  have C:=tN (w:=dx l r) (k:=(dx l r).n+1)
  unfold l3; omega
 ·simp
noncomputable def ke (l:bH) (b:Int):Int:=if 0≤b∧b≤(l.ab.length:Int)-1 then 0 else 2
theorem uW {l:bH} {b:Int} (h:0≤b∧b≤(l.ab.length:Int)-1):ke l b=0:=if_pos h
theorem DC {l:bH} {b:Int} (h:ke l b=0):0≤b∧b≤(l.ab.length:Int)-1:=by
 unfold ke at h
 split at h
 ·assumption
 ·omega
noncomputable def mU (l:bH) (r:c_) (b:Nat):ai:=wc (q6 (dx l r) b)
noncomputable def dW (l:bH) (r:c_) (b:Int):Int:=if fu l r (ke l b)=0 then (if mU l r b.toNat=mX then 6 else 0) else fu l r (ke l b)
noncomputable def dN (l:bH) (r:c_) (b:Int):ai:=if dW l r b=0 then mU l r b.toNat else eQ
theorem mB {l:bH} {r:c_} {b:Int} (h: ¬ fu l r (ke l b)=0):dW l r b=fu l r (ke l b)∧dN l r b=eQ:=by
 have e:dW l r b=fu l r (ke l b):=if_neg h
 exact ⟨e,by unfold dN; rw [if_neg (by rw [e]; exact h)]⟩
theorem qR {l:bH} {r:c_} {b:Nat} (h:fu l r (ke l b)=0) (h2:mU l r b=mX):dW l r b=6∧dN l r b=eQ:=by
 have e:dW l r b=6:=by unfold dW; rw [if_pos h,Int.toNat_natCast,if_pos h2]
 exact ⟨e,by unfold dN; rw [if_neg (by rw [e]; omega)]⟩
theorem ot {l:bH} {r:c_} {b:Nat} (h:fu l r (ke l b)=0) (h2: ¬ mU l r b=mX):dW l r b=0∧dN l r b=mU l r b:=by
 have e:dW l r b=0:=by unfold dW; rw [if_pos h,Int.toNat_natCast,if_neg h2]
 exact ⟨e,by unfold dN; rw [if_pos e,Int.toNat_natCast]⟩
theorem I8 {w:cr} (h:GN w) {b:Nat} {q:Int×ai} (hq:q∈q6 w b):0≤q.2.Lo∧q.2.Lo≤q.2.Hi∧q.2.Hi≤86400000:=by
 have A:=oJ hq
 obtain ⟨o,ho,p,hp,u,hu,e⟩:=ju.1 hq
 obtain ⟨_,_,rfl⟩:=lj.1 e
 have B:=h.opt ho
 simp only [lx] at A ⊢
 omega
theorem uB {l:bH} {r:c_} {b:Int} (h:dW l r b=0):0≤(dN l r b).Lo∧(dN l r b).Lo≤(dN l r b).Hi∧(dN l r b).Hi≤86400000:=by
 have ho:fu l r (ke l b)=0:=by
  by_cases e:fu l r (ke l b)=0
  ·exact e
  ·rw [(mB e).1] at h; exact absurd h e
 obtain ⟨B,C,_⟩:=jh ho
 obtain ⟨ht,A⟩:=eh B
 have hw:=mI ht A C
 have hv:dN l r b=mU l r b.toNat:=by unfold dN; rw [if_pos h]
 have hn:mU l r b.toNat≠mX:=fun e=>by unfold dW at h; rw [if_pos ho,if_pos e] at h; omega
 have hh:=vk (l:=q6 (dx l r) b.toNat) fun q hq=>oJ hq
 rw [hv]
 unfold mU at hn ⊢
 rcases hh with ⟨_,e⟩|hh
 ·exact absurd e hn
 ·obtain ⟨x,hx,ex⟩:=hh.lo
  obtain ⟨y,hy,ey⟩:=hh.hi
  have:=I8 hw hx
  have:=I8 hw hy
  have:=hh.le
  omega
noncomputable def AF (l:bH) (r:c_):ai:=if dW l r l.cf=0 then ⟨(dN l r l.cf).Lo-r.Start,(dN l r l.cf).Hi-r.Start⟩ else eQ
theorem AB {l:bH} {r:c_} (h:dW l r l.cf=0):AF l r=⟨(dN l r l.cf).Lo-r.Start,(dN l r l.cf).Hi-r.Start⟩:=if_pos h
theorem Dp {l:bH} {r:c_} (h: ¬ dW l r l.cf=0):AF l r=eQ:=if_neg h
theorem wu {l:bH} {r:c_} {b:Int} (h:dW l r b=0):fQ l r:=by
 by_cases e:fu l r (ke l b)=0
 ·exact (jh e).2.1
 ·rw [(mB e).1] at h; exact absurd h e
theorem zB {k:List (Int×ai)} {h:ai} {q:Int×ai} {z:ai} (hh:kJ k h) (hq:q.2.Lo≤q.2.Hi) (hz:mT h q.2=z):kJ (k++[q]) z:=by subst hz; exact vj hh hq
end
section
def mm (l:bH):Prop:=(20<(l.aO.length:Int)∨8<(l.aj.length:Int)∨10<(l.ab.length:Int))∨ ∃ c∈l.aj,10<(c.bB.length:Int)
noncomputable instance (l:bH):Decidable (mm l):=Classical.propDecidable _
/-- what is asked of a line that comes in -/
structure uz (l:bH) (az:List RA):Prop where
 rW:l.aO.length≤9223372036854775807
 side: ∀ x∈l.aO,0≤x.iU∧x.iU≤255
 sG:l.aj.length≤9223372036854775807
 ly:az.length=l.aj.length
 se:l.ab.length≤9223372036854775807
 Q0: ∀ (k:Nat) m (a:RA),l.aj[k]? =some m→az[k]? =some a→m.bB.length≤a.2∧m.bB.length≤9223372036854775807
def AV (l:bH) (i:Nat):Prop:= ∀ (j:Nat) c,j<i→l.aj[j]? =some c→(c.bB.length:Int)≤10
theorem Kt {l:bH} {i:Nat} (h: ¬ (20<(l.aO.length:Int))∧ ¬ (8<(l.aj.length:Int))∧ ¬ (10<(l.ab.length:Int))) (hi:l.aj.length≤i) (hs:AV l i): ¬ mm l:=by
 rintro (A|⟨c,hc,B⟩)
 ·omega
 ·obtain ⟨k,hk⟩:=List.getElem?_of_mem hc
  have:=hs k c (by have:=(bf.1 hk).1; omega) hk
  omega
theorem It {l:bH} {i:Nat} {c:ax} (hc:l.aj[i]? =some c) (h:10<(c.bB.length:Int)):mm l:= .inr ⟨c,aM hc,h⟩
theorem mo {α:Type} {l:List α} {P:Nat→α→Prop} {i:Nat} {x:α} (h: ∀ (j:Nat) y,j<i→l[j]? =some y→P j y) (hx:l[i]? =some x) (hp:P i x): ∀ (j:Nat) y,j<i+1→l[j]? =some y→P j y:=fun j y hj hy=>by
 by_cases e:j=i
 ·subst e; rw [hx] at hy; cases hy; exact hp
 ·exact h j y I hy
theorem ym {α:Type} {l:List α} {P:Nat→α→Prop} {i:Nat} (hi:l.length≤i) (h: ∀ (j:Nat) y,j<i→l[j]? =some y→P j y): ∀ (j:Nat) y,l[j]? =some y→P j y:=fun j y hy=>h j y (by have:=(bf.1 hy).1; omega) hy
theorem xY {α:Type} {l:List α} {P:α→Prop} {i:Nat} (hi:l.length≤i) (h: ∀ (j:Nat) y,j<i→l[j]? =some y→P y): ∀ y∈l,P y:=fun y hy=>by
 obtain ⟨k,hk⟩:=List.getElem?_of_mem hy
 exact ym (P:=fun _ y=>P y) hi h k y hk
theorem xz {l:bH} (h: ¬ mm l):(l.aO.length:Int)≤20∧(l.aj.length:Int)≤8∧(l.ab.length:Int)≤10∧ ∀ c∈l.aj,(c.bB.length:Int)≤10:=by
 unfold mm at h
 rw [not_or] at h
 refine ⟨I,I,I,fun c hc=>?_⟩
 have:=h.2
 rcases Int.lt_or_le 10 (c.bB.length:Int) with q|q
 ·exact absurd ⟨c,hc,q⟩ this
 ·exact q
theorem uz.small {l:bH} {az:List RA} (h:uz l az) (hg: ¬ mm l):ej l az:=by
 have A:=xz hg
 exact ⟨I,h.side,I,h.ly,I,fun k m a hm ha=>⟨(h.Q0 k m a hm ha).1,by have:=A.2.2.2 m (aM hm); omega⟩⟩
def EO (c:ax) (x:ct) (k:Nat):Prop:= ∀ (j:Nat) o,j<k→c.bB[j]? =some o→nK c x o
def t_ (c:ax) (m:Nat):Prop:= ∀ (i:Nat) x,i<m→c.bB[i]? =some x→EO c x i
theorem JK {c:ax} {m:Nat} (h1:0≤c.dw∧c.dw≤1000) (h2:1≤c.bB.length∧c.bB.length≤5) (hs: ∀ (i:Nat) x,c.bB[i]? =some x→fT c i x) (hm:c.bB.length≤m) (hp:t_ c m):fy c:=
 ⟨h1,h2,hs,fun i k x o hx hk ho=>hp i x (by have:=(bf.1 hx).1; omega) hx k o hk ho⟩
theorem DM {c:ax} {m k:Nat} (h:t_ c m) (hk: ∀ y,c.bB[m]? =some y→EO c y k) (e:k=m):t_ c (m+1):=by
 subst e
 intro i x hi hx
 by_cases e:i=k
 ·subst e; exact hk x hx
 ·exact h i x I hx
noncomputable def k8 (c:ax) (at_:Int) (i:Nat):ai:=if i=0 then eQ else gO c at_ i
theorem DK {c:ax} {at_:Int} {i:Nat} (h:fy c) (hi:c.bB.length≤i):k8 c at_ i=iI c at_:=by
 have:=h.len
 unfold k8; rw [if_neg I,nV hi]
theorem AT {c:ax} {at_:Int} {i:Nat} {x:ct} (h:fy c) (ha:0≤at_∧at_≤90000000) (hx:c.bB[i]? =some x) (hi:i=0):
 k8 c at_ (i+1)=⟨max (x.eg.Lo-tD c at_ x) (x.eg.Lo-tD c at_ x),min (x.eg.Hi+tD c at_ x) (x.eg.Hi+tD c at_ x)⟩:=by
 subst hi
 have hb:=h.vx hx
 have ho:=vd h.s7 ha hb.1
 unfold k8
 rw [if_neg I,kb hx]
 unfold my gO
 simp only [List.take_zero,List.foldl_nil,ai.mk.injEq]
 omega
theorem CA {c:ax} {at_:Int} {i:Nat} {x:ct} (hx:c.bB[i]? =some x) (hi: ¬ i=0):k8 c at_ (i+1)=⟨max (k8 c at_ i).Lo (x.eg.Lo-tD c at_ x),min (k8 c at_ i).Hi (x.eg.Hi+tD c at_ x)⟩:=by
 unfold k8
 rw [if_neg I,if_neg hi,kb hx]; rfl
def iA (ts:List au) (n:Nat):List ai:=(List.range n).map fun k=>eP ts 0 k
theorem BY {ts:List au} {n:Nat}:iA ts (n+1)=iA ts n++[eP ts 0 n]:=by simp [iA,List.range_succ]
theorem oS {ts:List au} {n:Nat}:(iA ts n).length=n:=by simp [iA]
theorem qu {ts:List au} {n k:Nat} {x:ai} (h:(iA ts n)[k]? =some x):x=eP ts 0 k:=by
 unfold iA at h
 rw [gn] at h
 cases hk:(List.range n)[k]? with
 |none=>simp [hk] at h
 |some v=>
  have:=bf.1 hk
  simp at this
  simp [hk] at h
  rw [← h,← this.2]
theorem Ed {ts:List au} {a b:cH} (h:b.bG<a.bG):kf ts a b=oy (kf ts b a):=by
 unfold kf
 rw [if_pos h,if_neg I]
 unfold xW
 rw [Int.min_comm b.bG a.bG,Int.max_comm b.bG a.bG]
 unfold oy mV
 simp only [ai.mk.injEq]
 omega
theorem rJ {ts:List au} {a b:cH} (h: ¬ b.bG<a.bG):kf ts a b=mV (mV (eP ts a.bG.toNat (b.bG-a.bG).toNat) b.lX) (oy a.lX):=by
 unfold kf xW
 rw [if_neg h,Int.min_eq_left I,Int.max_eq_right I]
end
section
def er (m:List ak) (a:cD):List aA:=rd a.1.1 m.length 7 (List.zipWith ak.cells m a.2)::bg ak.e_ m a.2
structure Qk (h:List ak) (a:cD):Prop where
 len:h.length≤1000000
 ly:a.2.length=h.length
 sig: ∀ d∈h,d.aY.aa.length≤1000000
structure iF (r:eD) (az:List RA) (ha:List cD):Prop where
 line:ej r.ao az
 g7:r.aV.length≤1000000
 draw:r.bV.length≤12
 g8:r.av.length≤1000000
 has:ha.length=r.av.length
 ek: ∀ (k:Nat) h (a:cD),r.av[k]? =some h→ha[k]? =some a→Qk h a
structure u3 (r:eD) (az:List RA) (ha:List cD):Prop where
 line:uz r.ao az
 g7:r.aV.length≤9223372036854775807
 draw:r.bV.length≤9223372036854775807
 g8:r.av.length≤9223372036854775807
 has:ha.length=r.av.length
 ek: ∀ (k:Nat) h (a:cD),r.av[k]? =some h→ha[k]? =some a→h.length≤9223372036854775807∧a.2.length=h.length∧ ∀ d∈h,d.aY.aa.length≤9223372036854775807
def pJ (h:List ak):Prop:=8<(h.length:Int)∨ ∃ d∈h,15<(d.aY.aa.length:Int)
def lT (r:eD):Prop:=(mm r.ao∨8<(r.aV.length:Int)∨8<(r.bV.length:Int)∨5<(r.av.length:Int))∨ ∃ h∈r.av,pJ h
noncomputable instance (r:eD):Decidable (lT r):=Classical.propDecidable _
theorem Ax {r:eD} (h: ¬ lT r): ¬ mm r.ao∧(r.aV.length:Int)≤8∧(r.bV.length:Int)≤8∧(r.av.length:Int)≤5∧ ∀ h∈r.av,(h.length:Int)≤8∧ ∀ d∈h,(d.aY.aa.length:Int)≤15:=by
 unfold lT at h
 obtain ⟨A,B⟩:=not_or.1 h
 obtain ⟨C,E⟩:=not_or.1 A
 refine ⟨C,I,I,I,fun x hx=>?_⟩
 have hn: ¬ pJ x:=fun q=>B ⟨x,hx,q⟩
 obtain ⟨F,D⟩:=not_or.1 hn
 refine ⟨I,fun d hd=>?_⟩
 rcases Int.lt_or_le 15 (d.aY.aa.length:Int) with q|q
 ·exact absurd ⟨d,hd,q⟩ D
 ·exact q
theorem u3.small {r:eD} {az:List RA} {ha:List cD} (h:u3 r az ha) (hg: ¬ lT r):iF r az ha:=by
 have B:=Ax hg
 refine ⟨h.line.small B.1,I,I,I,h.has,fun k x a hx A=>?_⟩
 have C:=B.2.2.2.2 x (aM hx)
 have D:=h.ek k x a hx A
 exact ⟨I,D.2.1,fun d hd=>by have:=C.2 d hd; omega⟩
def ng (r:c_):Prop:=r.Start=0∧r.gj=0∧(r.aa.length:Int)=0
instance (r:c_):Decidable (ng r):=by unfold ng; infer_instance
def mj (s:ai):Prop:=1≤s.Lo∧s.Lo≤s.Hi∧s.Hi≤600000
instance (s:ai):Decidable (mj s):=by unfold mj; infer_instance
def iW (l:bH) (d:ak):Prop:=if d.Out=true then d.cJ=false∧d.Time=eQ∧ng d.aY else if d.cJ=true then mj d.Time∧ng d.aY else dW l d.aY l.cf=0∧d.Time=eQ
noncomputable instance (l:bH) (d:ak):Decidable (iW l d):=Classical.propDecidable _
noncomputable def fX (l:bH) (d:ak):ai:=if d.Out=true∨d.cJ=true then d.Time else AF l d.aY
/-- which kind a descent is of -/
def oZ (d:ak):Int:=if d.Out=true then 0 else if d.cJ=true then 1 else 2
theorem Nm {w:cr} (h:GN w): ∀ (b:Nat) (p:aQ×Int),p∈qx w b→w.Start≤p.2:=by
 have hl: ∀ b,0≤de w b:=fun b=>by
  unfold de
  cases e:w.qB[b]? with
  |none=>simp
  |some x=>have:=h.least x (aM e); simp; omega
 intro b
 induction b with
 |zero=>intro p hp; simp only [qx,cE] at hp; subst hp; exact Int.le_refl _
 |succ b ih=>
  intro q hq
  obtain ⟨p,hp,o,ho,e⟩:=kF.1 hq
  unfold m6 at e
  split at e
  ·simp only [Option.some.injEq] at e
   subst e
   have:=ih p hp
   have:=hl b
   simp only; omega
  ·cases e
theorem Mm {l:bH} {r:c_} {b:Int} (h:dW l r b=0):r.Start≤(dN l r b).Lo:=by
 have ho:fu l r (ke l b)=0:=by
  by_cases e:fu l r (ke l b)=0
  ·exact e
  ·rw [(mB e).1] at h; exact absurd h e
 obtain ⟨B,C,_⟩:=jh ho
 obtain ⟨ht,A⟩:=eh B
 have hw:=mI ht A C
 have hv:dN l r b=mU l r b.toNat:=by unfold dN; rw [if_pos h]
 have hn:mU l r b.toNat≠mX:=fun e=>by unfold dW at h; rw [if_pos ho,if_pos e] at h; omega
 have hh:=vk (l:=q6 (dx l r) b.toNat) fun q hq=>oJ hq
 rw [hv]
 unfold mU at hn ⊢
 rcases hh with ⟨_,e⟩|hh
 ·exact absurd e hn
 ·obtain ⟨x,hx,ex⟩:=hh.lo
  obtain ⟨o,ho,p,hp,u,hu,e⟩:=ju.1 hx
  obtain ⟨_,_,rfl⟩:=lj.1 e
  have D:r.Start≤p.2:=Nm hw _ p hp
  have E:0≤de (dx l r) b.toNat:=by
   unfold de
   cases e:(dx l r).qB[b.toNat]? with
   |none=>simp
   |some x=>have:=hw.least x (aM e); simp; omega
  simp only [lx] at ex
  omega
theorem FX {l:bH} {d:ak} (h:iW l d):0≤(fX l d).Lo∧(fX l d).Lo≤(fX l d).Hi∧(fX l d).Hi≤86400000:=by
 unfold iW at h
 unfold fX
 split at h
 ·rename_i q; rw [if_pos (Or.inl q),h.2.1]; simp [eQ]
 ·rename_i q
  split at h
  ·rename_i A
   rw [if_pos (Or.inr A)]
   obtain ⟨⟨B,C,D⟩,_⟩:=h
   omega
  ·rename_i A
   rw [if_neg (fun z=>z.elim q A),AB h.1]
   have B:=uB h.1
   have C:=(wu h.1).time
   have D:=Mm h.1
   simp only
   omega
theorem FV {l:bH} {d:ak} (h:d.Out=true):fX l d=d.Time:=if_pos (Or.inl h)
theorem Aw {l:bH} {d:ak} (h:d.Out=false∧d.cJ=true):fX l d=d.Time:=if_pos (Or.inr h.2)
theorem Fk {l:bH} {d:ak} (h:d.Out=false∧d.cJ=false):fX l d=AF l d.aY:=if_neg (by simp [h])
theorem rO {l:bH} {d:ak} (h:d.Out=true):iW l d=(d.cJ=false∧d.Time=eQ∧ng d.aY):=if_pos h
theorem tY {l:bH} {d:ak} (h:d.Out=false∧d.cJ=true):iW l d=(mj d.Time∧ng d.aY):=by unfold iW; rw [if_neg (by simp [h]),if_pos h.2]
theorem ur {l:bH} {d:ak} (h:d.Out=false∧d.cJ=false):iW l d=(dW l d.aY l.cf=0∧d.Time=eQ):=by unfold iW; rw [if_neg (by simp [h]),if_neg (by simp [h])]
structure fD (r:eD):Prop where
 num:1≤(r.aV.length:Int)∧(r.aV.length:Int)≤5
 z4:0≤r.j9∧r.j9≤5
 nh:1≤(r.av.length:Int)∧(r.av.length:Int)≤3
 ids: ∀ (i:Nat) x,r.aV[i]? =some x→(0≤x∧x≤9999)∧ ∀ y,0<i→r.aV[i-1]? =some y→y<x
 draw:r.bV.Perm ((List.range r.aV.length).map fun (k:Nat)=>(k:Int))
 ek: ∀ h∈r.av,h.length=r.aV.length∧ ∀ d∈h,iW r.ao d
noncomputable instance (r:eD):Decidable (fD r):=Classical.propDecidable _
noncomputable def gf (r:eD):Int:=if eT r.ao=0 then (if fD r then 0 else 60) else eT r.ao
end
section
theorem nQ {α β:Type} {f g:α→Option β}: ∀ {l:List α},(∀ x∈l,f x=g x)→l.filterMap f=l.filterMap g
 |[],_=>rfl
 |x::l,h=>by simp only [List.filterMap_cons,h x bY,nQ (l:=l) (fun y hy=>h y (dh _ hy))]
abbrev Ct:=List (Int×ai)
/-- the sum of a sled in some heats, the first ones -/
noncomputable def j6 (l:bH) (hs:List (List ak)) (i:Nat):Nat→Option ai
 |0=>some ⟨0,0⟩
 |k+1=>match j6 l hs i k,(hs[k]?).bind (·[i]?) with
  |some s,some d=>if d.Out=true then none else some ⟨s.Lo+(fX l d).Lo/10,s.Hi+(fX l d).Hi/10⟩
  |_,_=>none
noncomputable def eI (l:bH) (hs:List (List ak)) (n h i:Nat):Ct:=(List.range n).filterMap fun q=>(j6 l hs q (if q<i then h+1 else h)).map fun s=>((q:Int),s)
noncomputable def Da (r:eD) (k:Nat):Ct:=(List.range r.aV.length).filterMap fun q=>(j6 r.ao r.av q k).map fun s=>((q:Int),s)
noncomputable def OB (r:eD):Ct:=Da r r.av.length
section
variable {l:bH} {hs:List (List ak)} {n h i q:Nat} {s:ai} {d:ak}
theorem Br:eI l hs n h 0=(List.range n).filterMap fun q=>(j6 l hs q h).map fun s=>((q:Int),s):=by
 unfold eI
 apply nQ
 intro q _
 rw [if_neg (Nat.not_lt_zero _)]
theorem NP:eI l hs n h n=eI l hs n (h+1) 0:=by
 rw [Br]
 unfold eI
 apply nQ
 intro q hq
 rw [if_pos (List.mem_range.1 hq)]
theorem Hk {x:List ak} (hx:hs[h]? =some x) (hd:x[i]? =some d) (ho:d.Out=true):j6 l hs i (h+1)=none:=by
 unfold j6
 rw [hx]
 simp only [Option.bind_some,hd]
 cases j6 l hs i h with
 |none=>rfl
 |some s=>simp [ho]
theorem DG (h0:j6 l hs i h=none):j6 l hs i (h+1)=none:=by unfold j6; rw [h0]
theorem EB {x:List ak} (hx:hs[h]? =some x) (hd:x[i]? =some d) (ho: ¬ d.Out=true) (hs0:j6 l hs i h=some s):j6 l hs i (h+1)=some ⟨s.Lo+(fX l d).Lo/10,s.Hi+(fX l d).Hi/10⟩:=by
 unfold j6
 rw [hx,hs0]
 simp only [Option.bind_some,hd,if_neg ho]
end
section
variable {l:bH} {hs:List (List ak)} {n h i q:Nat} {s t:ai}
theorem QY {K β:Type} [DecidableEq K] {L Y:List (K×β)} {t:K}:(L++Y).lookup t=match L.lookup t with |some v=>some v|none=>Y.lookup t:=by
 induction L with
 |nil=>rfl
 |cons p L ih=>
  obtain ⟨k,u⟩:=p
  by_cases e:t==k
  ·simp [List.lookup,e]
  ·have:(t==k)=false:=by simpa using e
   simp only [List.cons_append,List.lookup,this,ih]
theorem vK {f:Nat→Option ai}: ∀ (n i:Nat),((List.range n).filterMap fun q=>(f q).map fun s=>((q:Int),s)).lookup (i:Int)=if i<n then f i else none
 |0,i=>by simp
 |n+1,i=>by
  rw [List.range_succ,List.filterMap_append,QY,vK n i]
  by_cases c:i<n
  ·rw [if_pos c,if_pos I]
   cases e:f i with
   |some s=>rfl
   |none=>
    simp only
    cases e2:f n with
    |none=>simp [e2]
    |some u=>
     have:((i:Int)==(n:Int))=false:=by simp only [beq_eq_false_iff_ne,ne_eq]; omega
     simp [e2,List.lookup,this]
  ·rw [if_neg c]
   simp only
   by_cases A:i=n
   ·subst A
    rw [if_pos I]
    cases e2:f i with
    |none=>simp [e2]
    |some u=>simp [e2]
   ·rw [if_neg I]
    have:((i:Int)==(n:Int))=false:=by simp only [beq_eq_false_iff_ne,ne_eq]; omega
    cases e2:f n with
    |none=>simp [e2]
    |some u=>simp [e2,List.lookup,this]
theorem wZ:(eI l hs n h i).lookup (q:Int)=if q<n then j6 l hs q (if q<i then h+1 else h) else none:=vK n q
theorem Qn {f g:Nat→Option ai} {n i:Nat} (hi:i<n) {s:ai} (hf:(f i).isSome=true) (hg:g i=some s) (hfg: ∀ q,q≠i→f q=g q):eB ((List.range n).filterMap fun q=>(f q).map fun s=>((q:Int),s)) (i:Int) s=(List.range n).filterMap fun q=>(g q).map fun s=>((q:Int),s):=by
 unfold eB
 rw [if_pos (by rw [vK,if_pos hi]; exact hf),List.map_filterMap]
 apply nQ
 intro q _
 by_cases e:q=i
 ·subst e
  obtain ⟨u,hu⟩:=Option.isSome_iff_exists.1 hf
  rw [hu,hg]; simp
 ·rw [hfg q e]
  cases g q with
  |none=>rfl
  |some u=>
   have: ¬ ((q:Int)=(i:Int)):=by omega
   simp [this]
theorem PT {f g:Nat→Option ai} {n i:Nat} (hg:g i=none) (hfg: ∀ q,q≠i→f q=g q):fz ((List.range n).filterMap fun q=>(f q).map fun s=>((q:Int),s)) (i:Int)=(List.range n).filterMap fun q=>(g q).map fun s=>((q:Int),s):=by
 unfold fz
 rw [List.filter_filterMap]
 apply nQ
 intro q _
 by_cases e:q=i
 ·subst e
  rw [hg]
  cases f q with
  |none=>rfl
  |some u=>simp
 ·rw [hfg q e]
  cases g q with
  |none=>rfl
  |some u=>
   have: ¬ ((q:Int)=(i:Int)):=by omega
   simp [this]
theorem M9 (hi:i<n) (h0:(j6 l hs i h).isSome=true) (h1:j6 l hs i (h+1)=some s):eB (eI l hs n h i) (i:Int) s=eI l hs n h (i+1):=by
 unfold eI
 refine Qn hi (by rw [if_neg (Nat.lt_irrefl i)]; exact h0) (by rw [if_pos (Nat.lt_succ_self i)]; exact h1) fun q hq=>?_
 by_cases c:q<i
 ·rw [if_pos c,if_pos I]
 ·rw [if_neg c,if_neg I]
theorem EL (h1:j6 l hs i (h+1)=none):fz (eI l hs n h i) (i:Int)=eI l hs n h (i+1):=by
 unfold eI
 refine PT (by rw [if_pos (Nat.lt_succ_self i)]; exact h1) fun q hq=>?_
 by_cases c:q<i
 ·rw [if_pos c,if_pos I]
 ·rw [if_neg c,if_neg I]
end
section
variable {m:Ct} {i:Int} {own:ai}
end
end
section
def rQ (l:List Int):List (List Value):=l.map fun x=>[vI x]
theorem uv {l:List Int}:(rQ l).length=l.length:=by simp [rQ]
theorem Hj {l:List Int} {k:Nat} {x:Int} (h:l[k]? =some x):(rQ l)[k]? =some [vI x]:=by simp [rQ,h]
theorem Gy {l:List Int} {k:Nat} {x:List Value} (h:(rQ l)[k]? =some x): ∃ y,l[k]? =some y∧x=[vI y]:=by
 simp only [rQ,gn,Option.map_eq_some_iff] at h
 obtain ⟨y,hy,rfl⟩:=h
 exact ⟨y,hy,U⟩
theorem DB {l:List Int}: ∀ x∈rQ l,x.length=1:=fun x hx=>by
 simp only [rQ,db] at hx
 obtain ⟨y,_,rfl⟩:=hx
 rfl
theorem yO {l:List Int}:l.take (rQ l).length=l:=by rw [uv,List.take_of_length_le (Nat.le_refl _)]
theorem yL {l:List Int} {k:Nat} {x:Int} (h:l[k]? =some x):l.take (k+1)=l.take k++[x]:=by
 rw [List.take_add_one,h]; rfl
def nH (l:List Int):List Int:=l.mergeSort fun a b=>decide (a≤b)
theorem mg {l:List Int}:(nH l).Perm l:=List.mergeSort_perm _ _
theorem tS {l:List Int}:(nH l).Pairwise (· ≤ ·):=by
 have:=List.pairwise_mergeSort (le:=fun (a b:Int)=>decide (a≤b)) (fun a b c A B=>by simp at A B ⊢; omega) (fun a b=>by simp; omega) l
 exact this.imp fun h=>by simpa using h
@[simp] theorem uV {l:List Int}:(nH l).length=l.length:=mg.length_eq
theorem BZ {l m:List Int} (h1:m.Perm l) (h2:m.Pairwise (· ≤ ·)):m=nH l:=s8 (h1.trans mg.symm) h2 tS
end
section
open Go.RowKit
def sC (s:bE):List Value:=[vS s.a s.n s.c]
theorem zV: ∀ s,(sC s).length=1:=fun s=>rfl
theorem Ka (l:List bE): ∀ v∈(l.map sC).flatten,v.oneCell'=true:=mP (fun s=>rfl) l
def C_ (l:List ai) (a:RA):bE:=⟨a.1,l.length,a.2⟩
def HT (l:List ai) (a:RA):List Value:=[vS a.1 l.length a.2]
def Ma (l:List ai) (a:RA):List aA:=[rd a.1 l.length 2 (l.map ai.cells)]
def F5 (l:List ai) (a:RA):List aA:=[own a.1 a.2 H7 2 (l.map ai.cells)]
theorem zp {ls:List (List ai)} {az:List RA}:(List.zipWith C_ ls az).map sC=List.zipWith HT ls az:=by
 rw [List.map_zipWith]; rfl
theorem Fp: ∀ (m:List ai) (a:RA) (w:World),(∀ X∈F5 m a,X.holds w)→ ∀ X∈Ma m a,X.holds w:=fun m a w h X hX=>by
 simp only [Ma,cE] at hX
 subst hX
 have:=ob (h _ (cE.2 rfl))
 simpa using this
theorem Ep {l:List (List ai)} {bz:List RA}:(bM (bg F5 l bz)).wr=true:=by
 show (bg F5 l bz).all (·.wr)=true
 rw [df]
 intro X hX
 obtain ⟨k,m,a,_,_,h⟩:=jx hX
 simp only [F5,cE] at h
 subst h; rfl
theorem wT {ls:List (List ai)} {az:List RA} (h:az.length=ls.length):(List.zipWith HT ls az).length=ls.length:=by simp [h]
noncomputable def g0 (r:eD) (i:Nat):List (List ai):=(r.av.take i).map fun h=>h.map (fX r.ao)
noncomputable def eK (r:eD):List (List ai):=g0 r r.av.length
section
variable {r:eD} {i:Nat} {h:List ak} {tz:List RA} {a:RA}
theorem wq (hh:r.av[i]? =some h):g0 r (i+1)=g0 r i++[h.map (fX r.ao)]:=by unfold g0; rw [List.take_add_one,hh,List.map_append]; rfl
theorem lk (hi:i≤r.av.length):(g0 r i).length=i:=by unfold g0; rw [List.length_map,List.length_take]; omega
theorem iL:(eK r).length=r.av.length:=lk (Nat.le_refl _)
theorem DX (hh:r.av[i]? =some h):(eK r)[i]? =some (h.map (fX r.ao)):=by
 unfold eK g0
 rw [List.take_length,gn,hh]; rfl
theorem zE {m:List ai} (hh:r.av[i]? =some h) (hm:(eK r)[i]? =some m):m=h.map (fX r.ao):=by
 rw [DX hh] at hm
 exact (Option.some.inj hm).symm
theorem uQ (hh:r.av[i]? =some h) (hl:tz.length=i):List.zipWith C_ (g0 r (i+1)) (tz++[a])=List.zipWith C_ (g0 r i) tz++[C_ (h.map (fX r.ao)) a]:=by
 have hi:=(bf.1 hh).1
 rw [wq hh,List.zipWith_append (by rw [lk I,hl])]
 rfl
theorem Bo (hh:r.av[i]? =some h) (hl:tz.length=i):bg F5 (g0 r i) tz++[own a.1 a.2 H7 2 ((h.map (fX r.ao)).map ai.cells)]=bg F5 (g0 r (i+1)) (tz++[a]):=by
 have hi:=(bf.1 hh).1
 rw [wq hh,ko (by rw [lk I,hl])]
 simp [bg,F5]
end
theorem zF {lo hi:Int} {l:List Int}:o5 lo hi l=true↔ ∀ x∈l,lo≤x∧x≤hi:=by
 unfold o5
 rw [Bool.not_eq_true',List.any_eq_false]
 constructor
 ·intro h x hx; have:=h x hx; simp only [decide_eq_true_eq] at this; omega
 ·intro h x hx; have:=h x hx; simp only [decide_eq_true_eq]; omega
abbrev Gv (n:Nat):List Int:=(List.range n).map fun (k:Nat)=>(k:Int)
theorem xS (n:Nat):(Gv n).Pairwise (· ≤ ·):=by
 unfold Gv
 rw [List.pairwise_map]
 exact List.pairwise_lt_range.imp fun h=>by omega
theorem B4 {l:List Int} {n:Nat} (h:l.Perm (Gv n)):nH l=Gv n:=(BZ h.symm (xS n)).symm
theorem Gu {l:List Int} {n:Nat} (hl:l.length=n) (h: ∀ j,j<n→ ∀ x,(nH l)[j]? =some x→x=(j:Int)):l.Perm (Gv n):=by
 have e:nH l=Gv n:=by
  apply List.ext_getElem
  ·simp [hl]
  ·intro j A B
   have C:j<n:=by simpa using B
   have:=h j C _ (fV A)
   simpa using this
 rw [← e]; exact mg.symm
def sr (r:eD) (i:Nat):Prop:= ∀ j,j<i→(∀ x,(nH r.bV)[j]? =some x→x=(j:Int))∧ ∀ x y,r.aV[j]? =some x→0<j→r.aV[j-1]? =some y→y<x
def DZ (r:eD) (h:List ak):Prop:=h.length=r.aV.length∧ ∀ d∈h,iW r.ao d
def kz (r:eD) (i:Nat):Prop:= ∀ (j:Nat) h,j<i→r.av[j]? =some h→DZ r h
def oI (l:bH) (h:List ak) (k:Nat):Prop:= ∀ (j:Nat) d,j<k→h[j]? =some d→iW l d
section
variable {r:eD} {i:Nat}
theorem DV:sr r 0:=fun j hj=>absurd hj (Nat.not_lt_zero _)
theorem x_ {x:Int} (h:sr r i) (hd:(nH r.bV)[i]? =some x) (e:x=(i:Int)) (hs: ∀ x y,r.aV[i]? =some x→0<i→r.aV[i-1]? =some y→y<x):sr r (i+1):=fun j hj=>by
 rcases Nat.lt_or_ge j i with q|q
 ·exact h j q
 ·obtain rfl:j=i:=by omega
  exact ⟨fun y hy=>by rw [hd] at hy; cases hy; exact e,hs⟩
theorem yz:kz r 0:=fun j h hj=>absurd hj (Nat.not_lt_zero _)
theorem xI {h:List ak} (hh:kz r i) (hx:r.av[i]? =some h) (ho:DZ r h):kz r (i+1):=fun j y hj hy=>by
 rcases Nat.lt_or_ge j i with q|q
 ·exact hh j y q hy
 ·obtain rfl:j=i:=by omega
  rw [hx] at hy; cases hy; exact ho
theorem wm {l:bH} {h:List ak}:oI l h 0:=fun j d hj=>absurd hj (Nat.not_lt_zero _)
theorem vY {l:bH} {h:List ak} {d:ak} (ht:oI l h i) (hx:h[i]? =some d) (ho:iW l d):oI l h (i+1):=fun j y hj hy=>by
 rcases Nat.lt_or_ge j i with q|q
 ·exact ht j y q hy
 ·obtain rfl:j=i:=by omega
  rw [hx] at hy; cases hy; exact ho
theorem F3 {h:List ak} (hl:h.length=r.aV.length) (ht:oI r.ao h i) (hi:h.length≤i):DZ r h:=⟨hl,fun d hd=>by
 obtain ⟨j,hj⟩:=List.getElem?_of_mem hd
 exact ht j d (by have:=(bf.1 hj).1; omega) hj⟩
theorem KD {n:Nat} (hn:n=r.aV.length) (h1:1≤(r.aV.length:Int)∧(r.aV.length:Int)≤5) (h2:r.bV.length=r.aV.length) (h3:0≤r.j9∧r.j9≤5) (h4:1≤(r.av.length:Int)∧(r.av.length:Int)≤3) (h5:o5 0 9999 r.aV=true)
 (h6:sr r n) (h7:kz r i) (hi:r.av.length≤i):fD r:=by
 subst hn
 refine ⟨h1,h3,h4,fun k x hx=>⟨zF.1 h5 x (aM hx),fun y hk hy=>?_⟩,Gu h2 fun j hj=>(h6 j hj).1,fun h hh=>?_⟩
 ·exact (h6 k (bf.1 hx).1).2 x y hx hk hy
 ·obtain ⟨j,hj⟩:=List.getElem?_of_mem hh
  exact h7 j h (by have:=(bf.1 hj).1; omega) hj
theorem fD.zY (h:fD r):r.bV.length=r.aV.length:=by have:=h.draw.length_eq; simpa using this
theorem fD.ins (h:fD r):o5 0 9999 r.aV=true:=zF.2 fun x hx=>by
 obtain ⟨j,hj⟩:=List.getElem?_of_mem hx
 exact (h.ids j x hj).1
theorem fD.drawn (h:fD r) {x:Int} (hx:(nH r.bV)[i]? =some x):x=(i:Int):=by
 rw [B4 h.draw] at hx
 have hi:=(bf.1 hx).1
 simp at hi
 rw [gn,List.getElem?_range hi] at hx
 exact (Option.some.inj hx).symm
theorem fD.MQ (h:fD r):kz r i:=fun j x _ hx=>h.ek x (aM hx)
theorem zL (h: ¬ eT r.ao=0):gf r=eT r.ao:=if_neg h
theorem kN (h:eT r.ao=0) (hn: ¬ fD r):gf r=60:=by unfold gf; rw [if_pos h,if_neg hn]
theorem Cb (h:eT r.ao=0) (hn:fD r):gf r=0:=by unfold gf; rw [if_pos h,if_pos hn]
theorem d_ (h:gf r=0):eT r.ao=0∧fD r:=by
 unfold gf at h
 split at h
 ·split at h
  ·exact ⟨asm,asm⟩
  ·cases h
 ·exact absurd h asm
end
section
variable {r:eD} {k i n h:Nat} {s:ai} {l:bH} {hs:List (List ak)}
theorem FB: ∀ {k:Nat} {s:ai},kz r k→k≤r.av.length→j6 r.ao r.av i k=some s→0≤s.Lo∧s.Lo≤s.Hi∧s.Hi≤8640000*(k:Int)
 |0,s,_,_,h=>by
  simp only [j6,Option.some.injEq] at h
  subst h; simp
 |k+1,s,hh,hk,h=>by
  unfold j6 at h
  split at h
  ·rename_i u d hu hd
   split at h
   ·cases h
   ·cases h
    have A:=FB (fun j x hj hx=>hh j x I hx) I hu
    obtain ⟨x,hx,hd⟩:=Option.bind_eq_some_iff.1 hd
    have B:=FX ((hh k x I hx).2 d (aM hd))
    simp only
    push_cast
    omega
  ·cases h
theorem Mk:eB (eI l hs i 0 0) (i:Int) ⟨0,0⟩=eI l hs (i+1) 0 0:=by
 have A:(eI l hs i 0 0).lookup (i:Int)=none:=by rw [wZ,if_neg (Nat.lt_irrefl i)]
 unfold eB
 rw [A]
 simp only [Option.isSome_none,Bool.false_eq_true,if_false]
 unfold eI
 rw [List.range_succ,List.filterMap_append]
 simp [j6]
theorem JJ (hi:i<n):(eI l hs n h i).lookup (i:Int)=j6 l hs i h:=by rw [wZ,if_pos hi,if_neg (Nat.lt_irrefl i)]
theorem Ib {α β:Type} {f:α→β} {tr:List β} {ht:List α} {x:β} {d:α} (e:tr=ht.map f) (hx:tr[i]? =some x) (hd:ht[i]? =some d):x=f d:=by
 rw [e,gn,hd] at hx
 exact (Option.some.inj hx).symm
theorem MD:eI r.ao r.av r.aV.length h 0=Da r h:=Br
end
end
section
def mD (r:eD) (i:Int):Prop:=0≤i∧i≤(r.aV.length:Int)-1
instance (r:eD) (i:Int):Decidable (mD r i):=by unfold mD; infer_instance
noncomputable def lD (r:eD) (h i:Int):Int:=if gf r=0 then (if (0≤h∧h≤(r.av.length:Int)-1)∧mD r i then (if ((r.av[h.toNat]?).bind (·[i.toNat]?)).any (·.Out)=true then 6 else 0) else 2) else gf r
noncomputable def jA (r:eD) (h i:Int):ai:=if lD r h i=0 then ((((r.av[h.toNat]?).bind (·[i.toNat]?)).map (fX r.ao)).getD eQ) else eQ
section
variable {r:eD} {i a b:Int}
end
end
section
def nZ (d:ak):Prop:=d.Out=false∧d.cJ=false
instance (d:ak):Decidable (nZ d):=by unfold nZ; infer_instance
def e7 (l:bH) (f:aZ):Prop:=(1≤f.Kind∧f.Kind≤3)∧(0≤f.mN∧f.mN≤f.To∧f.To≤86400000)∧0≤f.ig∧f.ig≤(if f.Kind=1 then 0 else l.cf)
instance (l:bH) (f:aZ):Decidable (e7 l f):=by unfold e7; infer_instance
/-- the descent that a protest is of -/
def qH (j:cS) (p:br):Option ak:=(j.Race.av[p.jm.toNat]?).bind (·[p.iQ.toNat]?)
structure vg (j:cS) (i:Nat) (p:br):Prop where
 id:0≤p.Id∧p.Id≤9999
 up: ∀ q,0<i→j.aJ[i-1]? =some q→q.Id<p.Id
 jT:mD j.Race p.iQ
 ek:0≤p.jm∧p.jm≤(j.Race.av.length:Int)-1
 fault:0≤p.jX∧p.jX≤(j.aS.length:Int)-1
 lY: ∃ d,qH j p=some d∧nZ d∧d.aY.Start≤p.At∧p.At≤86400000
structure pV (j:cS):Prop where
 nf:(j.aS.length:Int)≤5
 fault: ∀ f∈j.aS,e7 j.Race.ao f
 min_:0≤j.iy∧j.iy≤60
 tn:0≤j.Dj∧j.Dj≤100000
 np:(j.aJ.length:Int)≤8
 ib: ∀ (i:Nat) p,j.aJ[i]? =some p→vg j i p
noncomputable instance (j:cS):Decidable (pV j):=Classical.propDecidable _
noncomputable def dG (j:cS):Int:=if gf j.Race=0 then (if pV j then 0 else 70) else gf j.Race
theorem zC {j:cS} (h: ¬ gf j.Race=0):dG j=gf j.Race:=if_neg h
theorem jN {j:cS} (h:gf j.Race=0) (hn: ¬ pV j):dG j=70:=by unfold dG; rw [if_pos h,if_neg hn]
theorem yJ {j:cS} (h:gf j.Race=0) (hn:pV j):dG j=0:=by unfold dG; rw [if_pos h,if_pos hn]
theorem eA {j:cS} (h:dG j=0):gf j.Race=0∧pV j:=by
 unfold dG at h
 split at h
 ·split at h
  ·exact ⟨asm,asm⟩
  ·cases h
 ·rename_i q; exact absurd h q
structure zA where
 Lo:Int
 Hi:Int
 each:Bool
 never:Bool
/-- whether it passed the beam in each truth -/
noncomputable def uo (l:bH) (r:c_) (b:Int):Bool:=(kl l r).all fun n=>decide (b<n)
noncomputable def cQ (l:bH) (r:c_) (b:Int):zA:=
 if b<0 then ⟨r.Start,r.Start,true,false⟩
 else if dW l r b=0 then ⟨(dN l r b).Lo,if uo l r b=true then (dN l r b).Hi else 86400000,uo l r b,false⟩
 else ⟨86400000,86400000,false,true⟩
def yU (f:aZ):Int:=if f.Kind=1 then-1 else if f.Kind=2 then f.ig-1 else f.ig
def Q7 (l:bH) (f:aZ):Int:=if f.Kind=1 then l.cf else f.ig
def uX (f:aZ) (a b:zA):Prop:=if f.Kind=3 then f.mN≤a.Lo∧a.Hi≤f.To else a.Hi≤f.To∧f.mN≤b.Lo
instance (f:aZ) (a b:zA):Decidable (uX f a b):=by unfold uX; infer_instance
def nO (f:aZ) (a b:zA):Int:=if a.never=true∨f.To<a.Lo∨b.Hi<f.mN then 0 else if a.each=true∧uX f a b then 2 else 1
noncomputable def hG (l:bH) (f:aZ) (d:ak):Int:=if nZ d then nO f (cQ l d.aY (yU f)) (cQ l d.aY (Q7 l f)) else 0
theorem sh {l:bH} {f:aZ} {d:ak} (h: ¬ nZ d):hG l f d=0:=if_neg h
def mh (P:Nat→Bool) (n:Nat):List Int:=((List.range n).filter P).map fun (i:Nat)=>(i:Int)
section
variable {P:Nat→Bool} {n q:Nat} {x:Int}
theorem wW (h:P n=true):mh P (n+1)=mh P n++[(n:Int)]:=by unfold mh; rw [List.range_succ,List.filter_append,List.map_append]; simp [h]
theorem sY (h:P n=false):mh P (n+1)=mh P n:=by unfold mh; rw [List.range_succ,List.filter_append,List.map_append]; simp [h]
theorem qv:(mh P n).length≤n:=by unfold mh; rw [List.length_map]; exact Nat.le_trans (List.length_filter_le _ _) (by rw [List.length_range]; exact Nat.le_refl _)
theorem DQ:x∈mh P n↔ ∃ i:Nat,i<n∧x=(i:Int)∧P i=true:=by
 unfold mh
 simp only [db,List.mem_filter,List.mem_range]
 constructor
 ·rintro ⟨i,⟨A,B⟩,rfl⟩; exact ⟨i,A,rfl,B⟩
 ·rintro ⟨i,A,rfl,B⟩; exact ⟨i,⟨A,B⟩,rfl⟩
end
noncomputable def mZ (j:cS) (p:br):Int:=match qH j p with
 |some d=>if p.At≤(cQ j.Race.ao d.aY j.Race.ao.cf).Lo+60000*j.iy then 0 else if p.At≤(cQ j.Race.ao d.aY j.Race.ao.cf).Hi+60000*j.iy then 1 else 2
 |none=>2
noncomputable def iD (j:cS) (p:br):Bool:=match qH j p,j.aS[p.jX.toNat]? with
 |some d,some f=>decide (mZ j p≠2)&&decide (hG j.Race.ao f d≠0)
 |_,_=>false
/-- which protests are granted, so far -/
noncomputable def um (j:cS) (n:Nat):List Int:=mh (fun i=>(j.aJ[i]?).any (iD j)) n
noncomputable def iM (j:cS):List Int:=um j j.aJ.length
theorem tx {j:cS} {n:Nat} {x:Int}:x∈um j n↔ ∃ i:Nat,i<n∧x=(i:Int)∧ ∃ p,j.aJ[i]? =some p∧iD j p=true:=by
 unfold um
 rw [DQ]
 refine exists_congr fun i=>and_congr Iff.rfl (and_congr Iff.rfl ?_)
 cases h:j.aJ[i]? with
 |none=>simp
 |some p=>simp
/-- by faults of which something is so -/
def Lg (l:bH) (F:aZ→Prop) (fs:List aZ) (d:ak):Prop:= ∃ f∈fs,F f∧ ¬ hG l f d=0
noncomputable def xJ (l:bH) (F:aZ→Prop) (fs:List aZ) (h:List ak) (n:Nat):List Int:=mh (fun s=>(h[s]?).any fun d=> @decide (Lg l F fs d) (Classical.propDecidable _)) n
noncomputable def hU (j:cS) (F:aZ→Prop):List (List Int):=j.Race.av.map fun h=>xJ j.Race.ao F j.aS h h.length
/-- about which a protest is granted -/
def oz (j:cS) (f:aZ):Prop:= ∃ (i:Nat) (p:br),j.aJ[i]? =some p∧iD j p=true∧j.aS[p.jX.toNat]? =some f
noncomputable def fF (j:cS):List (List Int):=hU j (oz j)
noncomputable def Ja (j:cS) (s:Int) (n:Nat):Nat:=(List.range n).countP fun i=>(j.aJ[i]?).any fun p=>decide (p.iQ=s)&& !iD j p
noncomputable def D1 (j:cS) (s:Int):Int:= -(Ja j s j.aJ.length:Int)*j.Dj
noncomputable def zk (j:cS):Int:=((iM j).length:Int)*j.Dj
noncomputable def Ft (j:cS):Int:=(j.aJ.length:Int)*j.Dj-zk j
end
section
section
variable {j j':cS} {p:br} {l:bH} {F G:aZ→Prop} {fs:List aZ} {h:List ak} {n:Nat} {x:Int}
theorem Hv (hFG: ∀ f∈fs,(F f↔G f)):xJ l F fs h n=xJ l G fs h n:=by
 unfold xJ
 congr 1
 funext s
 cases e:h[s]? with
 |none=>rfl
 |some d=>
  simp only [Option.any_some]
  rw [gU]
  exact ⟨fun ⟨f,A,B,C⟩=>⟨f,A,(hFG f A).1 B,C⟩,fun ⟨f,A,B,C⟩=>⟨f,A,(hFG f A).2 B,C⟩⟩
theorem F4 {k:Nat} {h:List ak} (hh:j.Race.av[k]? =some h):(hU j F)[k]? =some (xJ j.Race.ao F j.aS h h.length):=by unfold hU; rw [gn,hh]; rfl
theorem x5:(hU j F).length=j.Race.av.length:=by unfold hU; rw [List.length_map]
end
end
section
abbrev Qp:=List (Int×Bool)
section
variable {m:Qp} {P Q:Int→Prop} {k:Int}
end
/-- two rows that go up and have the same numbers, each once -/
theorem HC {a b:List Int} (ha:a.Pairwise (· ≤ ·)) (hb:b.Pairwise (· ≤ ·)) (na:a.Nodup) (nb:b.Nodup) (h: ∀ x,x∈a↔x∈b):a=b:=
 s8 ((List.perm_ext_iff_of_nodup na nb).2 h) ha hb
section
variable {m left:Ct} {i n x:Int} {y:ai}
end
section
variable {m:Ct} {i:Int} {own:ai} {ys:List Int} {nev ranks:Qp} {n a b:Int}
end
section
variable {nw left rk:Qp} {N R:Int→Prop} {u:Int} {v:Bool}
end
section
variable {m left:Ct} {i x n:Int} {own y:ai} {ys:List Int}
end
section
variable {r:eD} {h i:Int} {ht:List ak} {d:ak}
theorem pb (he: ¬ gf r=0):lD r h i=gf r:=if_neg he
theorem pk (he:gf r=0) (hi: ¬ ((0≤h∧h≤(r.av.length:Int)-1)∧0≤i∧i≤(r.aV.length:Int)-1)):lD r h i=2:=by
 unfold lD; rw [if_pos he,if_neg (show ¬ ((0≤h∧h≤(r.av.length:Int)-1)∧mD r i) from hi)]
theorem B_ (he:gf r=0) (hi:(0≤h∧h≤(r.av.length:Int)-1)∧0≤i∧i≤(r.aV.length:Int)-1) (h1:r.av[h.toNat]? =some ht) (h2:ht[i.toNat]? =some d):lD r h i=if d.Out=true then 6 else 0:=by
 unfold lD; rw [if_pos he,if_pos (show (0≤h∧h≤(r.av.length:Int)-1)∧mD r i from hi),h1]
 simp [h2]
theorem n7 (he:gf r=0) (hi:(0≤h∧h≤(r.av.length:Int)-1)∧0≤i∧i≤(r.aV.length:Int)-1) (h1:r.av[h.toNat]? =some ht) (h2:ht[i.toNat]? =some d) (ho:d.Out=true):lD r h i=6:=by rw [B_ he hi h1 h2,if_pos ho]
theorem q9 (he:gf r=0) (hi:(0≤h∧h≤(r.av.length:Int)-1)∧0≤i∧i≤(r.aV.length:Int)-1) (h1:r.av[h.toNat]? =some ht) (h2:ht[i.toNat]? =some d) (ho:d.Out=false):lD r h i=0∧jA r h i=fX r.ao d:=by
 have e:lD r h i=0:=by rw [B_ he hi h1 h2,if_neg (by rw [ho]; decide)]
 refine ⟨e,?_⟩
 unfold jA
 rw [if_pos e,h1]
 simp [h2]
end
end
section
open Go.RowKit
/-- a map, or nil -/
def oC (o:Option Nat):List Value:=[Value.map o]
theorem Ap {α:Type}: ∀ {ms:List α} {asl:List Nat},ms.length=asl.length→List.zipWith gF ms asl=(asl.map some).map oC
 |[],[],_=>rfl
 |[],_::_,h=>by simp at h
 |_::_,[],h=>by simp at h
 |x::ms,y::asl,h=>by simp only [List.zipWith_cons_cons,List.map_cons,Ap (ms:=ms) (asl:=asl) (by simpa using h)]; rfl
/-- what stands for all but one -/
def gN {M A:Type} (f:M→A→List aA) (ms:List M) (asl:List A) (k:Nat):List aA:=bg f (ms.take k) (asl.take k)++bg f (ms.drop (k+1)) (asl.drop (k+1))
theorem l7 {M A:Type} {f:M→A→List aA}: ∀ {ms:List M} {asl:List A} {k:Nat} {m:M} {a:A},ms[k]? =some m→asl[k]? =some a→(bg f ms asl).Perm (f m a++gN f ms asl k)
 |[],_,k,m,a,h,_=>by simp at h
 |_::_,[],k,m,a,_,h=>by simp at h
 |x::ms,y::asl,0,m,a,h,h2=>by
  simp at h h2; subst h h2
  simp [gN,bg]
 |x::ms,y::asl,k+1,m,a,h,h2=>by
  have ih:=l7 (f:=f) (ms:=ms) (asl:=asl) (k:=k) (by simpa using h) (by simpa using h2)
  show (f x y++bg f ms asl).Perm (f m a++gN f (x::ms) (y::asl) (k+1))
  have e:gN f (x::ms) (y::asl) (k+1)=f x y++gN f ms asl k:=by simp [gN,bg,List.append_assoc]
  rw [e]
  refine (ih.append_left (f x y)).trans ?_
  rw [← List.append_assoc,← List.append_assoc]
  exact List.perm_append_comm.append_right _
theorem HG {M A:Type} {f:M→A→List aA} {ms:List M} {asl:List A} {k:Nat} {m':M}:gN f (ms.set k m') asl k=gN f ms asl k:=by
 unfold gN
 rw [List.take_set_of_le (Nat.le_refl k),List.drop_set_of_lt (Nat.lt_succ_self k)]
theorem l9 {S:BS} {w0 w:World} {C X Y:List aA} (hp:X.Perm Y) (h:St S w0 (bM X::C) w):St S w0 (bM Y::C) w:=by
 have A:St S w0 (X++C) w:=h.iz
 exact (A.perm (hp.append_right C)).tied
theorem St.out {M A:Type} {f:M→A→List aA} {S:BS} {w0 w:World} {C:List aA} {ms:List M} {asl:List A} {k:Nat} {m:M} {a:A} {X:aA} (hm:ms[k]? =some m) (ha:asl[k]? =some a) (hf:f m a=[X]) (h:St S w0 (bM (bg f ms asl)::C) w):St S w0 (X::bM (gN f ms asl k)::C) w:=by
 have B:=(l9 (l7 hm ha) h).iz
 rw [hf] at B
 have D:St S w0 (gN f ms asl k++(X::C)) w:=B.perm (List.perm_middle (a:=X) (l₁:=gN f ms asl k) (l₂:=C)).symm
 exact D.tied.perm (List.Perm.swap _ _ _)
theorem St.back {M A:Type} {f:M→A→List aA} {S:BS} {w0 w:World} {C:List aA} {ms:List M} {asl:List A} {k:Nat} {m':M} {a:A} {X:aA} (hk:k<ms.length) (ha:asl[k]? =some a) (hf:f m' a=[X]) (h:St S w0 (X::bM (gN f ms asl k)::C) w):St S w0 (bM (bg f (ms.set k m') asl)::C) w:=by
 have B:St S w0 (bM (gN f ms asl k)::X::C) w:=h.perm (List.Perm.swap _ _ _)
 have D:=B.iz
 have E:St S w0 ((f m' a++gN f (ms.set k m') asl k)++C) w:=by
  rw [hf,HG]
  exact D.perm (List.perm_middle (a:=X) (l₁:=gN f ms asl k) (l₂:=C))
 exact l9 (l7 (List.getElem?_set_self hk) ha).symm E.tied
section
variable {E:fh} {ops:Array Oper} {Q:dj} {rest:List Oper} {D:List Deferred} {L:List (Nat×Value)} {C C1:List aA}
variable {M A:Type} {f:M→A→List aA} {ms:List M} {asl:List A} {k:Nat} {m:M} {a:A} {X:aA}
theorem zI {c:Code} (i:Nat) (hm:ms[k]? =some m) (ha:asl[k]? =some a) (hf:f m a=[X]) (hn:decide (i::(List.range C.length).filter fun k=>k != i).Nodup=true) (hC:j5 C (i::(List.range C.length).filter fun k=>k != i)=bM (bg f ms asl)::C1)
 (h:WJ E c Q D L (X::bM (gN f ms asl k)::C1)):WJ E c Q D L C:=fun a w hf' hs=>h a w hf' (St.out hm ha hf (St.j5 _ hn hC hs))
theorem z6 {K:Act→World→Prop} (i j:Nat) (hk:k<ms.length) (ha:asl[k]? =some a) (hf:f m a=[X]) (hn:decide (j::i::(List.range C.length).filter fun k=>k != i&&k != j).Nodup=true) (hC:j5 C (j::i::(List.range C.length).filter fun k=>k != i&&k != j)=X::bM (gN f ms asl k)::C1)
 (h:KJ E K D L (bM (bg f (ms.set k m) asl)::C1)):KJ E K D L C:=fun a w hf' hs=>h a w hf' (St.back hk ha hf (St.j5 _ hn hC hs))
end
end
section
open Go.RowKit
def tw (l:List Int) (a:RA):List Value:=[vS a.1 l.length a.2]
def LV (l:List Int) (a:RA):List aA:=[rd a.1 l.length 1 (l.map iC)]
def F1 (l:List Int) (a:RA):List aA:=[own a.1 a.2 OI 1 (l.map iC)]
theorem yX: ∀ (m:List Int) (a:RA) (w:World),(∀ X∈F1 m a,X.holds w)→ ∀ X∈LV m a,X.holds w:=fun m a w h X hX=>by
 simp only [LV,cE] at hX
 subst hX
 have:=ob (h _ (cE.2 rfl))
 simpa using this
theorem xd {l:List (List Int)} {bz:List RA}:(bM (bg F1 l bz)).wr=true:=by
 show (bg F1 l bz).all (·.wr)=true
 rw [df]
 intro X hX
 obtain ⟨k,m,a,_,_,h⟩:=jx hX
 simp only [F1,cE] at h
 subst h; rfl
theorem lO {ls:List (List Int)} {az:List RA} (h:az.length=ls.length):(List.zipWith tw ls az).length=ls.length:=by simp [h]
theorem Nt (l:List (List Int)) (az:List RA): ∀ v∈(List.zipWith tw l az).flatten,v.oneCell'=true:=by
 induction l generalizing az with
 |nil=>intro v hv; simp at hv
 |cons x l ih=>
  cases az with
  |nil=>intro v hv; simp at hv
  |cons a az=>
   intro v hv
   rw [List.zipWith_cons_cons,List.flatten_cons,gH] at hv
   rcases hv with hv|hv
   ·simp [tw] at hv; subst hv; rfl
   ·exact ih az v hv
section
variable {M A:Type} {f:M→A→List aA} {ms:List M} {asl:List A} {k:Nat} {m:M} {a:A} {X:aA}
theorem yl:gN f (ms.set k m) (asl.set k a) k=gN f ms asl k:=by
 unfold gN
 rw [List.take_set_of_le (Nat.le_refl k),List.drop_set_of_lt (Nat.lt_succ_self k),List.take_set_of_le (Nat.le_refl k),List.drop_set_of_lt (Nat.lt_succ_self k)]
theorem xQ {β:Type} {c:M→A→β}:(List.zipWith c ms asl).set k (c m a)=List.zipWith c (ms.set k m) (asl.set k a):=by
 apply List.ext_getElem?
 intro j
 rw [List.getElem?_set]
 by_cases e:k=j
 ·subst e
  rw [if_pos rfl,List.length_zipWith,List.getElem?_zipWith,List.getElem?_set,List.getElem?_set,if_pos rfl,if_pos rfl]
  by_cases B:k<ms.length
  ·by_cases C:k<asl.length
   ·rw [if_pos I,if_pos B,if_pos C]
   ·rw [if_neg I,if_pos B,if_neg C]
  ·rw [if_neg I,if_neg B]
 ·rw [if_neg e,List.getElem?_zipWith,List.getElem?_zipWith,List.getElem?_set_ne e,List.getElem?_set_ne e]
variable {E:fh} {ops:Array Oper} {Q:dj} {rest:List Oper} {D:List Deferred} {L:List (Nat×Value)} {C C1:List aA}
abbrev Gi (C:List aA) (i j:Nat):List Nat:=j::i::(List.range C.length).filter fun k=>k != i&&k != j
abbrev SS (C:List aA) (i:Nat):List Nat:=i::(List.range C.length).filter fun k=>k != i
theorem Qs {Y Y':List aA} (i j:Nat) (hn:decide (Gi C i j).Nodup=true) (hC:l0 C (Gi C i j)=some (X::bM Y::C1)) (e:Y++[X]=Y') (h:RJ E ops Q rest D L (bM Y'::C1)):RJ E ops Q rest D L C:=fun a w hf hs=>h a w hf ((St.j5 _ hn (j4 hC) hs).tie e)
theorem Ls {K:Act→World→Prop} {Y Y':List aA} (i j:Nat) (hn:decide (Gi C i j).Nodup=true) (hC:l0 C (Gi C i j)=some (X::bM Y::C1)) (e:Y++[X]=Y') (h:KJ E K D L (bM Y'::C1)):KJ E K D L C:=fun a w hf hs=>h a w hf ((St.j5 _ hn (j4 hC) hs).tie e)
end
theorem DI {M A:Type} {f:M→A→List aA} {ms:List M} {asl:List A} {m:M} {a:A} {X:aA} (h:ms.length=asl.length) (hf:f m a=[X]):bg f ms asl++[X]=bg f (ms++[m]) (asl++[a]):=by
 rw [ko h]; simp [bg,hf]
theorem GO {M A β:Type} {f:M→A→β} {ms:List M} {asl:List A} {m:M} {a:A} (h:ms.length=asl.length):List.zipWith f ms asl++List.zipWith f [m] [a]=List.zipWith f (ms++[m]) (asl++[a]):=(List.zipWith_append h).symm
section
variable {f:Int→ai} {L:List Int} {G:List (List Int)} {g:List Int} {x last:Int} {i j:Nat}
end
end
end Go.Proofs.YtkaenmjhfajbkaaGreatDoor
