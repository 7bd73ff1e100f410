/-
 The statement juryTrue_said, part 4 of 8: Short, Grow, Global, RunA, Tab, Run, Comp, Ret, LoopK, MapK, Watch, Passes, Keys, MapR, RangeG, Nest, WMaps, WBounds, PassG, Drop, Spot, First, Line, Wrap, Goes, OpenW, Wheres, LineR, Race, RaceS, Vals, RaceO, RaceV, Jury, JMore, WLe, Ends5, Can, Sim.
 Conditions: none.
-/
import Derived.Test.YtfhghdbminmhnaaGreatDoorTy1
import Derived.Test.YtfhghdbminmhnaaGreatDoorTy2
import Derived.Test.YtfhghdbminmhnaaGreatDoorTy3
import Derived.Test.YtfhghdbminmhnaaGreatDoorProg
import Derived.KernelRfl
import Derived.WideKeyRuns
namespace Go.Proofs.YtfhghdbminmhnaaGreatDoor
set_option maxRecDepth 100000
set_option maxHeartbeats 4000000
set_option linter.unusedVariables false
section
open Go.RowKit
/-- an operation that hands v to its slot d -/
structure SE (E:fp) (ops:Array Oper) (o:Oper) (D:g8) (L:dA) (C:List ay) (v:Value) (d:Nat):Prop where
 h:SD E ops o D L C v
 o:o.dst=some d
 n:Nat.blt d E.n=true
theorem rS {E:fp} {ops:Array Oper} {Q:dv} {o:Oper} {rest:List Oper} {D:g8} {L:dA} {C:List ay} {v:Value} {d:Nat}
 (h:SE E ops o D L C v d) (k:RJ E ops Q rest D ((d,v)::L) C):RJ E ops Q (o::rest) D L C:=Rw h.h h.o h.n k
theorem dS {E:fp} {ops:Array Oper} {F:dA→Prop} {o:Oper} {rest:List Oper} {D:g8} {L:dA} {C:List ay} {v:Value} {d:Nat}
 (h:SE E ops o D L C v d) (k:DJ E ops D C F rest ((d,v)::L)):DJ E ops D C F (o::rest) L:=R_ h.h h.o h.n k
theorem eS {E:fp} {ops:Array Oper} {D:g8} {C' C1:List ay} {F:dA→Prop} {bs:List Bool} {o:Oper} {l rest:List Oper} {L:dA} {v:Value} {d:Nat}
 (hl:l=o::rest) (h:SE E ops o D L C' v d) (k:qV E ops D C' C1 F bs rest ((d,v)::L)):qV E ops D C' C1 F (false::bs) l L:=SO h.h hl h.o h.n k
theorem fS {E:fp} {ops:Array Oper} {D:g8} {C' C1:List ay} {F:dA→Prop} {bs:List Bool} {o:Oper} {l rest:List Oper} {L:dA} {v:Value} {d:Nat}
 (hl:l=o::rest) (h:SE E ops o D L C1 v d) (k:qV E ops D C' C1 F bs rest ((d,v)::L)):qV E ops D C' C1 F (true::bs) l L:=Ui h.h hl h.o h.n k
def gB (n:Nat) (ops:Array Oper) (L:dA) (d:Nat) (g:Option (Nat×Bool)):Bool:=j1 ops L g&&Nat.blt d n
theorem OL {n:Nat} {ops:Array Oper} {L:dA} {d:Nat} {g:Option (Nat×Bool)} (h:gB n ops L d g=true):j1 ops L g=true:=by
 unfold gB at h; rw [cE] at h; exact h.1
theorem OF {n:Nat} {ops:Array Oper} {L:dA} {d:Nat} {g:Option (Nat×Bool)} (h:gB n ops L d g=true):Nat.blt d n=true:=by
 unfold gB at h; rw [cE] at h; exact h.2
def vF (n:Nat) (ops:Array Oper) (L:dA) (d:Nat) (g:Option (Nat×Bool)) (x:Operand):Option Value:=match gB n ops L d g with
 |true=>ev L x
 |false=>none
def bF (n:Nat) (ops:Array Oper) (L:dA) (d:Nat) (g:Option (Nat×Bool)) (x y:Operand):Option (Value×Value):=match gB n ops L d g with
 |true=>match ev L x,ev L y with
  |some u,some v=>some (u,v)
  |_,_=>none
 |false=>none
def pF (n:Nat) (ops:Array Oper) (L:dA) (d:Nat) (g:Option (Nat×Bool)) (c x y:Operand):Option Value:=match gB n ops L d g with
 |true=>match ev L c with
  |some (.bool true)=>ev L x
  |some (.bool false)=>ev L y
  |_=>none
 |false=>none
def xF (n:Nat) (ops:Array Oper) (L:dA) (d:Nat) (g:Option (Nat×Bool)) (x:Operand) (i:Nat):Option Value:=match vF n ops L d g x with
 |some (.tuple vs)=>vs.toList[i]?
 |_=>none
def uF (n:Nat) (ops:Array Oper) (L:dA) (d:Nat) (g:Option (Nat×Bool)) (xs ys:List Operand):Option (List Value×List Value):=match gB n ops L d g with
 |true=>match evs L xs,evs L ys with
  |some u,some v=>some (u,v)
  |_,_=>none
 |false=>none
def cF (n:Nat) (ops:Array Oper) (L:dA) (d:Nat) (g:Option (Nat×Bool)) (fop:Operand) (xs:List Operand):Option (FuncId×List Value):=match gB n ops L d g with
 |true=>match ev L fop,evs L xs with
  |some (.func (.func f) fi ca),some vs=>some (f,fi.toList++vs++ca.toList)
  |_,_=>none
 |false=>none
theorem jr {n:Nat} {ops:Array Oper} {L:dA} {d:Nat} {g:Option (Nat×Bool)} {x:Operand} {v:Value} (h:vF n ops L d g x=some v):j1 ops L g=true∧Nat.blt d n=true∧ev L x=some v:=by
 unfold vF at h
 split at h
 ·rename_i hb; exact ⟨OL hb,OF hb,h⟩
 ·cases h
theorem tS {n:Nat} {ops:Array Oper} {L:dA} {d:Nat} {g:Option (Nat×Bool)} {x y:Operand} {u v:Value} (h:bF n ops L d g x y=some (u,v)):j1 ops L g=true∧Nat.blt d n=true∧ev L x=some u∧ev L y=some v:=by
 unfold bF at h
 split at h
 ·rename_i hb
  split at h
  ·rename_i hx hy; cases h; exact ⟨OL hb,OF hb,hx,hy⟩
  ·cases h
 ·cases h
theorem Px {n:Nat} {ops:Array Oper} {L:dA} {d:Nat} {g:Option (Nat×Bool)} {x y:List Operand} {u v:List Value} (h:uF n ops L d g x y=some (u,v)):j1 ops L g=true∧Nat.blt d n=true∧evs L x=some u∧evs L y=some v:=by
 unfold uF at h
 split at h
 ·rename_i hb
  split at h
  ·rename_i hx hy; cases h; exact ⟨OL hb,OF hb,hx,hy⟩
  ·cases h
 ·cases h
section
variable {E:fp} {ops:Array Oper} {Q:dv} {rest:List Oper} {D:List Deferred} {L:List (Nat×Value)} {C:List ay}
variable {d:Nat} {ty:TypeId} {ps:String} {af:Array Edge} {g:Option (Nat×Bool)}
theorem SX {o:Oper} {v:Value} (h:SD E ops o D L C v) (ho:o.dst=some d) (hd:Nat.blt d E.n=true):SE E ops o D L C v d:=⟨h,ho,hd⟩
theorem MV {x:Operand} {v:Value} (h:vF E.n ops L d g x=some v):SE E ops ⟨some d,.move x,ty,ps,af,g⟩ D L C v d:=by
 obtain ⟨A,B,F⟩:=jr h; exact ⟨F6 A F,rfl,B⟩
theorem AG {x:Operand} {v:Value} (h:vF E.n ops L d g x=some v):SE E ops ⟨some d,.assign x,ty,ps,af,g⟩ D L C v d:=by
 obtain ⟨A,B,F⟩:=jr h; exact ⟨zg A F,rfl,B⟩
theorem OX {op:Op} (h:(Dm ops L g&&Nat.blt d E.n)=true):SE E ops ⟨some d,op,ty,ps,af,g⟩ D L C undef d:=by
 rw [cE] at h; exact ⟨Im h.1,rfl,h.2⟩
theorem NT {xt:TypeId} {x:Operand} {b:Bool} (h:vF E.n ops L d g x=some (.bool b)):SE E ops ⟨some d,.unOp .not xt x,ty,ps,af,g⟩ D L C (.bool !b) d:=by
 obtain ⟨A,B,F⟩:=jr h; exact ⟨Ix A F,rfl,B⟩
theorem NG {xt:TypeId} {x:Operand} {n:Int} (h:vF E.n ops L d g x=some (.int .i64 n)) (hb:ru (-n)):SE E ops ⟨some d,.unOp .neg xt x,ty,ps,af,g⟩ D L C (.int .i64 (-n)) d:=by
 obtain ⟨A,B,F⟩:=jr h; exact ⟨Qx A F hb,rfl,B⟩
theorem PK {c x y:Operand} {v:Value} (h:pF E.n ops L d g c x y=some v):SE E ops ⟨some d,.pick c x y,ty,ps,af,g⟩ D L C v d:=by
 unfold pF at h
 split at h
 ·rename_i hb
  split at h
  ·rename_i hc; exact ⟨zr (OL hb) hc h,rfl,OF hb⟩
  ·rename_i hc; exact ⟨zp (OL hb) hc h,rfl,OF hb⟩
  ·cases h
 ·cases h
theorem EX {x:Operand} {i:Nat} {v:Value} (h:xF E.n ops L d g x i=some v):SE E ops ⟨some d,.extract x i,ty,ps,af,g⟩ D L C v d:=by
 unfold xF at h
 split at h
 ·rename_i vs hv
  obtain ⟨A,B,F⟩:=jr hv
  exact ⟨yJ (vs:=vs.toList) A (by simpa using F) h,U,B⟩
 ·cases h
theorem LN {x:Operand} {t e:TypeId} {A:OA} {n c:Nat} (h:vF E.n ops L d g x=some (.slice A n c)) (ht:E.P.underlying t=some (.slice e)):
 SE E ops ⟨some d,.call {callee:= .builtin .len,args:= #[x],argTypes:= #[t]},ty,ps,af,g⟩ D L C (.int .i64 n) d:=by
 obtain ⟨B,F,G⟩:=jr h; exact ⟨KX B G ht,rfl,F⟩
theorem BI {op:BinOp} {xt yt:TypeId} {x y:Operand} {u v r:Value} (h:bF E.n ops L d g x y=some (u,v)) (hb:iA E.P op xt x y u v r):SE E ops ⟨some d,.binOp op xt x y yt,ty,ps,af,g⟩ D L C r d:=by
 obtain ⟨A,B,F,G⟩:=tS h; exact ⟨gn A F G hb,rfl,B⟩
theorem MN {x y:Operand} {ts:Array TypeId} {a b:Int} {k:IntKind} (h:bF E.n ops L d g x y=some (.int k a,.int k b)):
 SE E ops ⟨some d,.call {callee:= .builtin .min,args:= #[x,y],argTypes:=ts},ty,ps,af,g⟩ D L C (.int k (min a b)) d:=by
 obtain ⟨A,B,F,G⟩:=tS h; exact ⟨PM A F G,rfl,B⟩
theorem MX {x y:Operand} {ts:Array TypeId} {a b:Int} {k:IntKind} (h:bF E.n ops L d g x y=some (.int k a,.int k b)):
 SE E ops ⟨some d,.call {callee:= .builtin .max,args:= #[x,y],argTypes:=ts},ty,ps,af,g⟩ D L C (.int k (max a b)) d:=by
 obtain ⟨A,B,F,G⟩:=tS h; exact ⟨QW A F G,rfl,B⟩
theorem FA (o':Nat) {x:Operand} {b o s f k:Nat} (h:vF E.n ops L d g x=some (.pointer (some ⟨b,o,none⟩))) (hf:sW E.P s f=some k) (ho:o+k=o'):
 SE E ops ⟨some d,.fieldAddr s x f,ty,ps,af,g⟩ D L C (.pointer (some ⟨b,o',none⟩)) d:=by
 obtain ⟨A,B,F⟩:=jr h; exact ⟨OR A F hf ho,rfl,B⟩
theorem o6 (k':Nat) {x:Operand} {A:OA} {n sz:Nat} {es:List (List Value)} {k0 s f k:Nat} (h:vF E.n ops L d g x=some (.pointer (mB A k0))) (hR:iJ C (rd A n sz es).holds) (hn:0<n*sz)
 (hf:sW E.P s f=some k) (ho:k0+k=k'):SE E ops ⟨some d,.fieldAddr s x f,ty,ps,af,g⟩ D L C (.pointer (mB A k')) d:=by
 obtain ⟨B,F,G⟩:=jr h; exact ⟨KF B G hR hn hf ho,rfl,F⟩
theorem GC (k':Nat) {x:Operand} {A:OA} {ad:Addr} {k0 s f k:Nat} (h:vF E.n ops L d g x=some (.pointer (mB A k0))) (hA:A=some ad)
 (hf:sW E.P s f=some k) (ho:k0+k=k'):SE E ops ⟨some d,.fieldAddr s x f,ty,ps,af,g⟩ D L C (.pointer (mB A k')) d:=by
 obtain ⟨B,F,G⟩:=jr h; exact ⟨I7 B G hA hf ho,rfl,F⟩
theorem IA (k:Nat) {x ix:Operand} {A:OA} {n c sz e t:Nat} {es:List (List Value)} {j:Int} (h:bF E.n ops L d g x ix=some (.slice A n c,.int .i64 j)) (hR:iJ C (rd A n sz es).holds)
 (ht:tE E.P t=some (e,sz)) (hz:0<sz) (hj:j=(k:Int)) (hk:k<n):SE E ops ⟨some d,.indexAddr t x ix,ty,ps,af,g⟩ D L C (.pointer (mB A (k*sz))) d:=by
 obtain ⟨B,F,G,H⟩:=tS h; exact ⟨SZ B G H hR ht hz hj hk,rfl,F⟩
theorem Ur (k o':Nat) {x ix:Operand} {b o n c sz e t:Nat} {j:Int} (h:bF E.n ops L d g x ix=some (.slice (some ⟨b,o,none⟩) n c,.int .i64 j))
 (ht:tE E.P t=some (e,sz)) (hj:j=(k:Int)) (hk:k<n) (ho:o+k*sz=o'):SE E ops ⟨some d,.indexAddr t x ix,ty,ps,af,g⟩ D L C (.pointer (some ⟨b,o',none⟩)) d:=by
 obtain ⟨A,B,F,G⟩:=tS h; exact ⟨MG A F G ht hj hk ho,rfl,B⟩
/-- the whole of a block, a part of it, one cell -/
theorem LW (i:Nat) {x:Operand} {b t tt n:Nat} {cs:List Value} (h:vF E.n ops L d g x=some (.pointer (some ⟨b,0,none⟩))) (ht:tK E.P t=some (true,n)) (hC:C[i]? =some (cp b tt cs)) (hn:cs.length=n):
 SE E ops ⟨some d,.load t x,ty,ps,af,g⟩ D L C (.agg cs.toArray) d:=by
 obtain ⟨A,B,F⟩:=jr h; exact ⟨yl A F ht (qm i hC sm) hn,rfl,B⟩
theorem LP (vs:List Value) (i:Nat) {x:Operand} {b o t tt n:Nat} {cs:List Value} (h:vF E.n ops L d g x=some (.pointer (some ⟨b,o,none⟩))) (ht:tK E.P t=some (true,n)) (hC:C[i]? =some (cp b tt cs)) (hv:(cs.drop o).take vs.length=vs) (hn:vs.length=n):
 SE E ops ⟨some d,.load t x,ty,ps,af,g⟩ D L C (.agg vs.toArray) d:=by
 obtain ⟨A,B,F⟩:=jr h; exact ⟨yl A F ht (qm i hC hv) hn,rfl,B⟩
theorem WE (vs:List Value) (i:Nat) {x:Operand} {b o t tt n:Nat} {cs:List Value} (h:vF E.n ops L d g x=some (.pointer (some ⟨b,o,none⟩))) (ht:tK E.P t=some (true,n)) (hC:C[i]? =some (cp b tt cs).ro) (hv:(cs.drop o).take vs.length=vs) (hn:vs.length=n):
 SE E ops ⟨some d,.load t x,ty,ps,af,g⟩ D L C (.agg vs.toArray) d:=by
 obtain ⟨A,B,F⟩:=jr h; exact ⟨yl A F ht (w4 i hC hv) hn,rfl,B⟩
theorem L1 (v:Value) (i:Nat) {x:Operand} {b o t tt n:Nat} {cs:List Value} (h:vF E.n ops L d g x=some (.pointer (some ⟨b,o,none⟩))) (ht:tK E.P t=some (false,n)) (hC:C[i]? =some (cp b tt cs)) (hv:(cs.drop o).take 1=[v]):
 SE E ops ⟨some d,.load t x,ty,ps,af,g⟩ D L C v d:=by
 obtain ⟨A,B,F⟩:=jr h; exact ⟨vy A F ht (qm i hC hv),rfl,B⟩
theorem JI (v:Value) (i:Nat) {x:Operand} {b o t tt n:Nat} {cs:List Value} (h:vF E.n ops L d g x=some (.pointer (some ⟨b,o,none⟩))) (ht:tK E.P t=some (false,n)) (hC:C[i]? =some (cp b tt cs).ro) (hv:(cs.drop o).take 1=[v]):
 SE E ops ⟨some d,.load t x,ty,ps,af,g⟩ D L C v d:=by
 obtain ⟨A,B,F⟩:=jr h; exact ⟨vy A F ht (w4 i hC hv),rfl,B⟩
theorem EF (i:Nat) {x:Operand} {b t tt n:Nat} {v:Value} (h:vF E.n ops L d g x=some (.pointer (some ⟨b,0,none⟩))) (ht:tK E.P t=some (false,n)) (hC:C[i]? =some (cp b tt [v])):
 SE E ops ⟨some d,.load t x,ty,ps,af,g⟩ D L C v d:=by
 obtain ⟨A,B,F⟩:=jr h; exact ⟨vy A F ht (qm i hC rfl),rfl,B⟩
theorem Wr (i:Nat) {x:Operand} {b t tt n:Nat} {v:Value} (h:vF E.n ops L d g x=some (.pointer (some ⟨b,0,none⟩))) (ht:tK E.P t=some (false,n)) (hC:C[i]? =some (cp b tt [v]).ro):
 SE E ops ⟨some d,.load t x,ty,ps,af,g⟩ D L C v d:=by
 obtain ⟨A,B,F⟩:=jr h; exact ⟨vy A F ht (w4 i hC rfl),rfl,B⟩
/-- what is read of a row -/
theorem gE (k o:Nat) (v:Value) {x:Operand} {A:OA} {t m n sz:Nat} {es:List (List Value)} {e:List Value} (h:vF E.n ops L d g x=some (.pointer (mB A m))) {nn:Nat} (ht:tK E.P t=some (false,nn)) (hR:iJ C (rd A n sz es).holds) (he:es[k]? =some e) (hm:m=k*sz+o) (hz:0<sz) (hv:(e.drop o).take 1=[v]):
 SE E ops ⟨some d,.load t x,ty,ps,af,g⟩ D L C v d:=by
 obtain ⟨B,F,G⟩:=jr h; exact ⟨vy B G ht (O4 hR he hm hz hv),rfl,F⟩
theorem lM (k o:Nat) (vs:List Value) {x:Operand} {A:OA} {t m n sz:Nat} {es:List (List Value)} {e:List Value} (h:vF E.n ops L d g x=some (.pointer (mB A m))) {nn:Nat} (ht:tK E.P t=some (true,nn)) (hR:iJ C (rd A n sz es).holds) (he:es[k]? =some e) (hm:m=k*sz+o) (hz:0<sz) (hv:(e.drop o).take vs.length=vs) (hn:vs.length=nn):
 SE E ops ⟨some d,.load t x,ty,ps,af,g⟩ D L C (.agg vs.toArray) d:=by
 obtain ⟨B,F,G⟩:=jr h; exact ⟨yl B G ht (O4 hR he hm hz hv) hn,rfl,F⟩
theorem CL {fop:Operand} {xs:Array Operand} {ts:Array TypeId} {f:FuncId} {args:List Value} {Cp:List ay} {v:Value} (c:dL E.P f args Cp v) (hC:kB C Cp) (h:cF E.n ops L d g fop xs.toList=some (f,args)):
 SE E ops ⟨some d,.call {callee:= .value fop,args:=xs,argTypes:=ts},ty,ps,af,g⟩ D L C v d:=by
 unfold cF at h
 split at h
 ·rename_i hb
  split at h
  ·rename_i hf hx; cases h; exact ⟨F1 (OL hb) hf hx rfl c hC,rfl,OF hb⟩
  ·cases h
 ·cases h
theorem FU {fn:Fn} {xs ys:Array Operand} {us vs:List Value} (h:uF E.n ops L d g xs.toList ys.toList=some (us,vs)):SE E ops ⟨some d,.makeFunc fn xs ys,ty,ps,af,g⟩ D L C (.func fn us.toArray vs.toArray) d:=by
 obtain ⟨A,B,F,G⟩:=Px h; exact ⟨Ot A F G,rfl,B⟩
theorem cX {fop:Operand} {xs:Array Operand} {ts:Array TypeId} {f:FuncId} {args:List Value} {Cp:List ay} {α:Type} {V:α→Value} {p:α→Prop} {N:α→List ay} (c:pS E.P f args Cp V p N) (hC:kB C Cp)
 (h:cF E.n ops L d g fop xs.toList=some (f,args)) (k: ∀ x,p x→RJ E ops Q rest D ((d,V x)::L) (N x++C)):
 RJ E ops Q (⟨some d,.call {callee:= .value fop,args:=xs,argTypes:=ts},ty,ps,af,g⟩::rest) D L C:=by
 unfold cF at h
 split at h
 ·rename_i hb
  split at h
  ·rename_i hf hx; cases h; exact PU (OL hb) hf hx rfl c hC (OF hb) k
  ·cases h
 ·cases h
/-- a box of a struct, of one cell -/
theorem eO {t:TypeId} {x:Operand} {cs:List Value} (h:vF E.n ops L d g x=some (.agg cs.toArray)) (k: ∀ b,RJ E ops Q rest D ((d,.pointer (some ⟨b,0,none⟩))::L) (cp b t cs::C)):
 RJ E ops Q (⟨some d,.box t x,ty,ps,af,g⟩::rest) D L C:=by
 obtain ⟨A,B,F⟩:=jr h; exact O2 A F rfl B k
theorem wR {t:TypeId} {x:Operand} {v:Value} (h:vF E.n ops L d g x=some v) (hv:v.cells.toList=[v]) (k: ∀ b,RJ E ops Q rest D ((d,.pointer (some ⟨b,0,none⟩))::L) (cp b t [v]::C)):
 RJ E ops Q (⟨some d,.box t x,ty,ps,af,g⟩::rest) D L C:=by
 obtain ⟨A,B,F⟩:=jr h; exact O2 A F hv B k
theorem AL {t:TypeId} {cs:List Value} (h:gB E.n ops L d g=true) (hz:tZ E.P t=some cs) (k: ∀ b,RJ E ops Q rest D ((d,.pointer (some ⟨b,0,none⟩))::L) (cp b t cs::C)):
 RJ E ops Q (⟨some d,.alloc t,ty,ps,af,g⟩::rest) D L C:=MZ (OL h) hz (OF h) k
/-- a store into the block at the place i of the state -/
def sF (ops:Array Oper) (L:dA) (g:Option (Nat×Bool)) (x y:Operand):Option (Value×Value):=match j1 ops L g with
 |true=>match ev L x,ev L y with
  |some u,some v=>some (u,v)
  |_,_=>none
 |false=>none
theorem DH {ops:Array Oper} {L:dA} {g:Option (Nat×Bool)} {x y:Operand} {u v:Value} (h:sF ops L g x y=some (u,v)):j1 ops L g=true∧ev L x=some u∧ev L y=some v:=by
 unfold sF at h
 split at h
 ·rename_i hb
  split at h
  ·rename_i hx hy; cases h; exact ⟨hb,hx,hy⟩
  ·cases h
 ·cases h
theorem H7 {t n b o tt:Nat} {x y:Operand} {v:Value} {cs cs':List Value} {C':List ay} (i:Nat) (h:sF ops L g x y=some (.pointer (some ⟨b,o,none⟩),v)) (ht:(tK E.P t).map (·.2)=some n) (hC:C[i]? =some (cp b tt cs))
 (hk:(v.cells.toList.length==n&&v.cells.toList.all Value.oneCell'&&Nat.ble (o+n) cs.length)=true) (hcs:cs.take o++v.cells.toList++cs.drop (o+n)=cs') (hC':C.set i (cp b tt cs')=C') (k:RJ E ops Q rest D L C'):
 RJ E ops Q (⟨none,.store t x y,ty,ps,af,g⟩::rest) D L C:=by
 obtain ⟨A,B,F⟩:=DH h
 simp only [cE,beq_iff_eq] at hk
 exact il i A B F ht U hk.1.1 hk.1.2 hC hk.2 hcs hC' k
/-- a store of a whole block, by a struct, by one cell -/
theorem Mh {t n b tt:Nat} {x y:Operand} {cs cs':List Value} {C':List ay} (i:Nat) (h:sF ops L g x y=some (.pointer (some ⟨b,0,none⟩),.agg cs'.toArray)) (ht:(tK E.P t).map (·.2)=some n) (hC:C[i]? =some (cp b tt cs))
 (hk:(Nat.beq cs'.length n&&cs'.all Value.oneCell'&&Nat.beq n cs.length)=true) (hC':C.set i (cp b tt cs')=C') (k:RJ E ops Q rest D L C'):
 RJ E ops Q (⟨none,.store t x y,ty,ps,af,g⟩::rest) D L C:=by
 obtain ⟨AA,J,K⟩:=DH h
 simp only [cE] at hk
 obtain ⟨⟨A,B⟩,F⟩:=hk
 have H:=Nat.eq_of_beq_eq_true A
 have G:=Nat.eq_of_beq_eq_true F
 exact il i AA J K ht U H B hC (by rw [Nat.zero_add,G]; exact Nat.ble_self_eq_true _) (by rw [Nat.zero_add,G,List.take_zero,List.drop_length]; show []++cs'++[]=cs'; simp) hC' k
theorem Uq {t n b tt:Nat} {x y:Operand} {v u:Value} {C':List ay} (i:Nat) (h:sF ops L g x y=some (.pointer (some ⟨b,0,none⟩),v)) (ht:(tK E.P t).map (·.2)=some n) (hC:C[i]? =some (cp b tt [u]))
 (hv:v.cells.toList=[v]) (hk:(Nat.beq n 1&&v.oneCell')=true) (hC':C.set i (cp b tt [v])=C') (k:RJ E ops Q rest D L C'):
 RJ E ops Q (⟨none,.store t x y,ty,ps,af,g⟩::rest) D L C:=by
 obtain ⟨G,H,AA⟩:=DH h
 rw [cE] at hk
 obtain ⟨A,B⟩:=hk
 have F:=Nat.eq_of_beq_eq_true A
 subst F
 exact il i G H AA ht hv U (by simp [B]) hC U U hC' k
theorem fJ {t n b tt:Nat} {x y:Operand} {cs cs':List Value} (h:sF ops L g x y=some (.pointer (some ⟨b,0,none⟩),.agg cs'.toArray)) (ht:(tK E.P t).map (·.2)=some n) (hk:(Nat.beq cs'.length n&&cs'.all Value.oneCell'&&Nat.beq n cs.length)=true) (k:RJ E ops Q rest D L (cp b tt cs'::C)):RJ E ops Q (⟨none,.store t x y,ty,ps,af,g⟩::rest) D L (cp b tt cs::C):=Mh 0 h ht rfl hk rfl k
theorem NI {t n b tt:Nat} {x y:Operand} {v u:Value} (h:sF ops L g x y=some (.pointer (some ⟨b,0,none⟩),v)) (ht:(tK E.P t).map (·.2)=some n) (hv:v.cells.toList=[v]) (hk:(Nat.beq n 1&&v.oneCell')=true) (k:RJ E ops Q rest D L (cp b tt [v]::C)):RJ E ops Q (⟨none,.store t x y,ty,ps,af,g⟩::rest) D L (cp b tt [u]::C):=Uq 0 h ht rfl hv hk rfl k
theorem Wt (cs':List Value) {t n b o tt:Nat} {x y:Operand} {v:Value} {cs:List Value} (h:sF ops L g x y=some (.pointer (some ⟨b,o,none⟩),v)) (ht:(tK E.P t).map (·.2)=some n) (hk:(v.cells.toList.length==n&&v.cells.toList.all Value.oneCell'&&Nat.ble (o+n) cs.length)=true) (hcs:cs.take o++v.cells.toList++cs.drop (o+n)=cs') (k:RJ E ops Q rest D L (cp b tt cs'::C)):RJ E ops Q (⟨none,.store t x y,ty,ps,af,g⟩::rest) D L (cp b tt cs::C):=H7 0 h ht rfl hk hcs rfl k
theorem qT {t n b tt:Nat} {x y:Operand} {cs cs':List Value} {A0:ay} (h:sF ops L g x y=some (.pointer (some ⟨b,0,none⟩),.agg cs'.toArray)) (ht:(tK E.P t).map (·.2)=some n) (hk:(Nat.beq cs'.length n&&cs'.all Value.oneCell'&&Nat.beq n cs.length)=true) (k:RJ E ops Q rest D L (A0::cp b tt cs'::C)):RJ E ops Q (⟨none,.store t x y,ty,ps,af,g⟩::rest) D L (A0::cp b tt cs::C):=Mh 1 h ht rfl hk rfl k
theorem Wn (cs':List Value) {t n b o tt:Nat} {x y:Operand} {v:Value} {cs:List Value} {A0:ay} (h:sF ops L g x y=some (.pointer (some ⟨b,o,none⟩),v)) (ht:(tK E.P t).map (·.2)=some n) (hk:(v.cells.toList.length==n&&v.cells.toList.all Value.oneCell'&&Nat.ble (o+n) cs.length)=true) (hcs:cs.take o++v.cells.toList++cs.drop (o+n)=cs') (k:RJ E ops Q rest D L (A0::cp b tt cs'::C)):RJ E ops Q (⟨none,.store t x y,ty,ps,af,g⟩::rest) D L (A0::cp b tt cs::C):=H7 1 h ht rfl hk hcs rfl k
theorem DV {t n b tt:Nat} {x y:Operand} {cs cs':List Value} {A0 A1:ay} (h:sF ops L g x y=some (.pointer (some ⟨b,0,none⟩),.agg cs'.toArray)) (ht:(tK E.P t).map (·.2)=some n) (hk:(Nat.beq cs'.length n&&cs'.all Value.oneCell'&&Nat.beq n cs.length)=true) (k:RJ E ops Q rest D L (A0::A1::cp b tt cs'::C)):RJ E ops Q (⟨none,.store t x y,ty,ps,af,g⟩::rest) D L (A0::A1::cp b tt cs::C):=Mh 2 h ht rfl hk rfl k
theorem Uo (cs':List Value) {t n b o tt:Nat} {x y:Operand} {v:Value} {cs:List Value} {A0 A1:ay} (h:sF ops L g x y=some (.pointer (some ⟨b,o,none⟩),v)) (ht:(tK E.P t).map (·.2)=some n) (hk:(v.cells.toList.length==n&&v.cells.toList.all Value.oneCell'&&Nat.ble (o+n) cs.length)=true) (hcs:cs.take o++v.cells.toList++cs.drop (o+n)=cs') (k:RJ E ops Q rest D L (A0::A1::cp b tt cs'::C)):RJ E ops Q (⟨none,.store t x y,ty,ps,af,g⟩::rest) D L (A0::A1::cp b tt cs::C):=H7 2 h ht rfl hk hcs rfl k
theorem Us {t n b tt:Nat} {x y:Operand} {cs cs':List Value} {A0 A1 A2:ay} (h:sF ops L g x y=some (.pointer (some ⟨b,0,none⟩),.agg cs'.toArray)) (ht:(tK E.P t).map (·.2)=some n) (hk:(Nat.beq cs'.length n&&cs'.all Value.oneCell'&&Nat.beq n cs.length)=true) (k:RJ E ops Q rest D L (A0::A1::A2::cp b tt cs'::C)):RJ E ops Q (⟨none,.store t x y,ty,ps,af,g⟩::rest) D L (A0::A1::A2::cp b tt cs::C):=Mh 3 h ht rfl hk rfl k
theorem WQ {t n b tt:Nat} {x y:Operand} {v u:Value} {A0 A1 A2:ay} (h:sF ops L g x y=some (.pointer (some ⟨b,0,none⟩),v)) (ht:(tK E.P t).map (·.2)=some n) (hv:v.cells.toList=[v]) (hk:(Nat.beq n 1&&v.oneCell')=true) (k:RJ E ops Q rest D L (A0::A1::A2::cp b tt [v]::C)):RJ E ops Q (⟨none,.store t x y,ty,ps,af,g⟩::rest) D L (A0::A1::A2::cp b tt [u]::C):=Uq 3 h ht rfl hv hk rfl k
theorem Qz (cs':List Value) {t n b o tt:Nat} {x y:Operand} {v:Value} {cs:List Value} {A0 A1 A2:ay} (h:sF ops L g x y=some (.pointer (some ⟨b,o,none⟩),v)) (ht:(tK E.P t).map (·.2)=some n) (hk:(v.cells.toList.length==n&&v.cells.toList.all Value.oneCell'&&Nat.ble (o+n) cs.length)=true) (hcs:cs.take o++v.cells.toList++cs.drop (o+n)=cs') (k:RJ E ops Q rest D L (A0::A1::A2::cp b tt cs'::C)):RJ E ops Q (⟨none,.store t x y,ty,ps,af,g⟩::rest) D L (A0::A1::A2::cp b tt cs::C):=H7 3 h ht rfl hk hcs rfl k
theorem Ug {t n b tt:Nat} {x y:Operand} {cs cs':List Value} {A0 A1 A2 A3:ay} (h:sF ops L g x y=some (.pointer (some ⟨b,0,none⟩),.agg cs'.toArray)) (ht:(tK E.P t).map (·.2)=some n) (hk:(Nat.beq cs'.length n&&cs'.all Value.oneCell'&&Nat.beq n cs.length)=true) (k:RJ E ops Q rest D L (A0::A1::A2::A3::cp b tt cs'::C)):RJ E ops Q (⟨none,.store t x y,ty,ps,af,g⟩::rest) D L (A0::A1::A2::A3::cp b tt cs::C):=Mh 4 h ht rfl hk rfl k
theorem WT {t n b tt:Nat} {x y:Operand} {v u:Value} {A0 A1 A2 A3:ay} (h:sF ops L g x y=some (.pointer (some ⟨b,0,none⟩),v)) (ht:(tK E.P t).map (·.2)=some n) (hv:v.cells.toList=[v]) (hk:(Nat.beq n 1&&v.oneCell')=true) (k:RJ E ops Q rest D L (A0::A1::A2::A3::cp b tt [v]::C)):RJ E ops Q (⟨none,.store t x y,ty,ps,af,g⟩::rest) D L (A0::A1::A2::A3::cp b tt [u]::C):=Uq 4 h ht rfl hv hk rfl k
theorem WO (cs':List Value) {t n b o tt:Nat} {x y:Operand} {v:Value} {cs:List Value} {A0 A1 A2 A3:ay} (h:sF ops L g x y=some (.pointer (some ⟨b,o,none⟩),v)) (ht:(tK E.P t).map (·.2)=some n) (hk:(v.cells.toList.length==n&&v.cells.toList.all Value.oneCell'&&Nat.ble (o+n) cs.length)=true) (hcs:cs.take o++v.cells.toList++cs.drop (o+n)=cs') (k:RJ E ops Q rest D L (A0::A1::A2::A3::cp b tt cs'::C)):RJ E ops Q (⟨none,.store t x y,ty,ps,af,g⟩::rest) D L (A0::A1::A2::A3::cp b tt cs::C):=H7 4 h ht rfl hk hcs rfl k
theorem JC {t n b tt:Nat} {x y:Operand} {cs cs':List Value} {A0 A1 A2 A3 A4:ay} (h:sF ops L g x y=some (.pointer (some ⟨b,0,none⟩),.agg cs'.toArray)) (ht:(tK E.P t).map (·.2)=some n) (hk:(Nat.beq cs'.length n&&cs'.all Value.oneCell'&&Nat.beq n cs.length)=true) (k:RJ E ops Q rest D L (A0::A1::A2::A3::A4::cp b tt cs'::C)):RJ E ops Q (⟨none,.store t x y,ty,ps,af,g⟩::rest) D L (A0::A1::A2::A3::A4::cp b tt cs::C):=Mh 5 h ht rfl hk rfl k
theorem Wx (cs':List Value) {t n b o tt:Nat} {x y:Operand} {v:Value} {cs:List Value} {A0 A1 A2 A3 A4:ay} (h:sF ops L g x y=some (.pointer (some ⟨b,o,none⟩),v)) (ht:(tK E.P t).map (·.2)=some n) (hk:(v.cells.toList.length==n&&v.cells.toList.all Value.oneCell'&&Nat.ble (o+n) cs.length)=true) (hcs:cs.take o++v.cells.toList++cs.drop (o+n)=cs') (k:RJ E ops Q rest D L (A0::A1::A2::A3::A4::cp b tt cs'::C)):RJ E ops Q (⟨none,.store t x y,ty,ps,af,g⟩::rest) D L (A0::A1::A2::A3::A4::cp b tt cs::C):=H7 5 h ht rfl hk hcs rfl k
theorem Te {t n b tt:Nat} {x y:Operand} {cs cs':List Value} {A0 A1 A2 A3 A4 A5:ay} (h:sF ops L g x y=some (.pointer (some ⟨b,0,none⟩),.agg cs'.toArray)) (ht:(tK E.P t).map (·.2)=some n) (hk:(Nat.beq cs'.length n&&cs'.all Value.oneCell'&&Nat.beq n cs.length)=true) (k:RJ E ops Q rest D L (A0::A1::A2::A3::A4::A5::cp b tt cs'::C)):RJ E ops Q (⟨none,.store t x y,ty,ps,af,g⟩::rest) D L (A0::A1::A2::A3::A4::A5::cp b tt cs::C):=Mh 6 h ht rfl hk rfl k
theorem WA {t n b tt:Nat} {x y:Operand} {v u:Value} {A0 A1 A2 A3 A4 A5:ay} (h:sF ops L g x y=some (.pointer (some ⟨b,0,none⟩),v)) (ht:(tK E.P t).map (·.2)=some n) (hv:v.cells.toList=[v]) (hk:(Nat.beq n 1&&v.oneCell')=true) (k:RJ E ops Q rest D L (A0::A1::A2::A3::A4::A5::cp b tt [v]::C)):RJ E ops Q (⟨none,.store t x y,ty,ps,af,g⟩::rest) D L (A0::A1::A2::A3::A4::A5::cp b tt [u]::C):=Uq 6 h ht rfl hv hk rfl k
theorem WL (cs':List Value) {t n b o tt:Nat} {x y:Operand} {v:Value} {cs:List Value} {A0 A1 A2 A3 A4 A5:ay} (h:sF ops L g x y=some (.pointer (some ⟨b,o,none⟩),v)) (ht:(tK E.P t).map (·.2)=some n) (hk:(v.cells.toList.length==n&&v.cells.toList.all Value.oneCell'&&Nat.ble (o+n) cs.length)=true) (hcs:cs.take o++v.cells.toList++cs.drop (o+n)=cs') (k:RJ E ops Q rest D L (A0::A1::A2::A3::A4::A5::cp b tt cs'::C)):RJ E ops Q (⟨none,.store t x y,ty,ps,af,g⟩::rest) D L (A0::A1::A2::A3::A4::A5::cp b tt cs::C):=H7 6 h ht rfl hk hcs rfl k
theorem WB (cs':List Value) {t n b o tt:Nat} {x y:Operand} {v:Value} {cs:List Value} {A0 A1 A2 A3 A4 A5 A6:ay} (h:sF ops L g x y=some (.pointer (some ⟨b,o,none⟩),v)) (ht:(tK E.P t).map (·.2)=some n) (hk:(v.cells.toList.length==n&&v.cells.toList.all Value.oneCell'&&Nat.ble (o+n) cs.length)=true) (hcs:cs.take o++v.cells.toList++cs.drop (o+n)=cs') (k:RJ E ops Q rest D L (A0::A1::A2::A3::A4::A5::A6::cp b tt cs'::C)):RJ E ops Q (⟨none,.store t x y,ty,ps,af,g⟩::rest) D L (A0::A1::A2::A3::A4::A5::A6::cp b tt cs::C):=H7 7 h ht rfl hk hcs rfl k
theorem WD {t n b tt:Nat} {x y:Operand} {cs cs':List Value} {A0 A1 A2 A3 A4 A5 A6 A7:ay} (h:sF ops L g x y=some (.pointer (some ⟨b,0,none⟩),.agg cs'.toArray)) (ht:(tK E.P t).map (·.2)=some n) (hk:(Nat.beq cs'.length n&&cs'.all Value.oneCell'&&Nat.beq n cs.length)=true) (k:RJ E ops Q rest D L (A0::A1::A2::A3::A4::A5::A6::A7::cp b tt cs'::C)):RJ E ops Q (⟨none,.store t x y,ty,ps,af,g⟩::rest) D L (A0::A1::A2::A3::A4::A5::A6::A7::cp b tt cs::C):=Mh 8 h ht rfl hk rfl k
theorem Wy (cs':List Value) {t n b o tt:Nat} {x y:Operand} {v:Value} {cs:List Value} {A0 A1 A2 A3 A4 A5 A6 A7:ay} (h:sF ops L g x y=some (.pointer (some ⟨b,o,none⟩),v)) (ht:(tK E.P t).map (·.2)=some n) (hk:(v.cells.toList.length==n&&v.cells.toList.all Value.oneCell'&&Nat.ble (o+n) cs.length)=true) (hcs:cs.take o++v.cells.toList++cs.drop (o+n)=cs') (k:RJ E ops Q rest D L (A0::A1::A2::A3::A4::A5::A6::A7::cp b tt cs'::C)):RJ E ops Q (⟨none,.store t x y,ty,ps,af,g⟩::rest) D L (A0::A1::A2::A3::A4::A5::A6::A7::cp b tt cs::C):=H7 8 h ht rfl hk hcs rfl k
theorem WG (cs':List Value) {t n b o tt:Nat} {x y:Operand} {v:Value} {cs:List Value} {A0 A1 A2 A3 A4 A5 A6 A7 A8:ay} (h:sF ops L g x y=some (.pointer (some ⟨b,o,none⟩),v)) (ht:(tK E.P t).map (·.2)=some n) (hk:(v.cells.toList.length==n&&v.cells.toList.all Value.oneCell'&&Nat.ble (o+n) cs.length)=true) (hcs:cs.take o++v.cells.toList++cs.drop (o+n)=cs') (k:RJ E ops Q rest D L (A0::A1::A2::A3::A4::A5::A6::A7::A8::cp b tt cs'::C)):RJ E ops Q (⟨none,.store t x y,ty,ps,af,g⟩::rest) D L (A0::A1::A2::A3::A4::A5::A6::A7::A8::cp b tt cs::C):=H7 9 h ht rfl hk hcs rfl k
theorem PB {t n b tt:Nat} {x y:Operand} {cs cs':List Value} {A0 A1 A2 A3 A4 A5 A6 A7 A8 A9:ay} (h:sF ops L g x y=some (.pointer (some ⟨b,0,none⟩),.agg cs'.toArray)) (ht:(tK E.P t).map (·.2)=some n) (hk:(Nat.beq cs'.length n&&cs'.all Value.oneCell'&&Nat.beq n cs.length)=true) (k:RJ E ops Q rest D L (A0::A1::A2::A3::A4::A5::A6::A7::A8::A9::cp b tt cs'::C)):RJ E ops Q (⟨none,.store t x y,ty,ps,af,g⟩::rest) D L (A0::A1::A2::A3::A4::A5::A6::A7::A8::A9::cp b tt cs::C):=Mh 10 h ht rfl hk rfl k
theorem RU (cs':List Value) {t n b o tt:Nat} {x y:Operand} {v:Value} {cs:List Value} {A0 A1 A2 A3 A4 A5 A6 A7 A8 A9:ay} (h:sF ops L g x y=some (.pointer (some ⟨b,o,none⟩),v)) (ht:(tK E.P t).map (·.2)=some n) (hk:(v.cells.toList.length==n&&v.cells.toList.all Value.oneCell'&&Nat.ble (o+n) cs.length)=true) (hcs:cs.take o++v.cells.toList++cs.drop (o+n)=cs') (k:RJ E ops Q rest D L (A0::A1::A2::A3::A4::A5::A6::A7::A8::A9::cp b tt cs'::C)):RJ E ops Q (⟨none,.store t x y,ty,ps,af,g⟩::rest) D L (A0::A1::A2::A3::A4::A5::A6::A7::A8::A9::cp b tt cs::C):=H7 10 h ht rfl hk hcs rfl k
theorem Mo (cs':List Value) {t n b o tt:Nat} {x y:Operand} {v:Value} {cs:List Value} {A0 A1 A2 A3 A4 A5 A6 A7 A8 A9 A10:ay} (h:sF ops L g x y=some (.pointer (some ⟨b,o,none⟩),v)) (ht:(tK E.P t).map (·.2)=some n) (hk:(v.cells.toList.length==n&&v.cells.toList.all Value.oneCell'&&Nat.ble (o+n) cs.length)=true) (hcs:cs.take o++v.cells.toList++cs.drop (o+n)=cs') (k:RJ E ops Q rest D L (A0::A1::A2::A3::A4::A5::A6::A7::A8::A9::A10::cp b tt cs'::C)):RJ E ops Q (⟨none,.store t x y,ty,ps,af,g⟩::rest) D L (A0::A1::A2::A3::A4::A5::A6::A7::A8::A9::A10::cp b tt cs::C):=H7 11 h ht rfl hk hcs rfl k
end
section
variable {E:fp} {y:Code} {Q:dv} {D:List Deferred} {L:List (Nat×Value)} {C:List ay}
theorem WS {id:Nat} {ops:Array Oper} (h: ∀ K:Act→World→Prop,(∀ D L C,WJ E y Q D L C→KJ E K D L C)→RJ E ops (Exit.then K Q) ops.toList D L C):WJ E (.seq (.region id ops false) y) Q D L C:=ao fun K hK=>aw (h K hK)
theorem RK {ops:Array Oper} {K:Act→World→Prop} {Q':dv} (hK: ∀ D L C,WJ E y Q D L C→KJ E K D L C) (k:WJ E y Q D L C):RJ E ops (Exit.then K Q') [] D L C:=aH (bq (hK _ _ _ k))
theorem KK {K:Act→World→Prop} {Q':dv} (hK: ∀ D L C,WJ E y Q D L C→KJ E K D L C) (k:WJ E y Q D L C):KJ E (Exit.then K Q' .normal) D L C:=bq (hK _ _ _ k)
theorem WK {K:Act→World→Prop} {Q':dv} (hK: ∀ D L C,WJ E y Q D L C→KJ E K D L C) (k:WJ E y Q D L C):WJ E .skip (Exit.then K Q') D L C:=cu (bq (hK _ _ _ k))
end
theorem DT {p:Prop} [Decidable p] (h:decide p=true):p:=of_decide_eq_true h
theorem DF {p:Prop} [Decidable p] (h:decide p=false): ¬ p:=of_decide_eq_false h
theorem XT {p:Prop} [Decidable p] (h:(!decide p)=true): ¬ p:=by simpa using h
theorem XF {p:Prop} [Decidable p] (h:(!decide p)=false):p:=by simpa using h
/-- what a function hands back: one result, two, three, that lie in slots -/
theorem Q1 {E:fp} {fn:Func} {K:Act→World→Prop} {L:dA} {C:List ay} {t:Nat} {u v:Value} (hQ: ∀ D L C,LJ E fn (AI E.w0 v) D L C→KJ E K D L C) (hS:E.S=tW) (hr:fn.results.toList=[.tmp t]) (hl:L.lookup t=some u) (e:u=v):KJ E K [] L C:=
 hQ _ _ _ (jW (vs:=[u]) (by rw [hr]; exact ⟨hl,trivial⟩) fun w hs=>BZ e (by rw [hS] at hs; exact hs))
theorem Q2 {E:fp} {fn:Func} {K:Act→World→Prop} {L:dA} {C:List ay} {t s:Nat} {u x v:Value} (hQ: ∀ D L C,LJ E fn (AI E.w0 v) D L C→KJ E K D L C) (hS:E.S=tW) (hr:fn.results.toList=[.tmp t,.tmp s]) (hl:L.lookup t=some u) (hm:L.lookup s=some x) (e:vT [u,x]=v):KJ E K [] L C:=
 hQ _ _ _ (jW (vs:=[u,x]) (by rw [hr]; exact ⟨hl,hm,trivial⟩) fun w hs=>BZ e (by rw [hS] at hs; exact hs))
theorem Q3 {E:fp} {fn:Func} {K:Act→World→Prop} {L:dA} {C:List ay} {t s r:Nat} {u x y v:Value} (hQ: ∀ D L C,LJ E fn (AI E.w0 v) D L C→KJ E K D L C) (hS:E.S=tW) (hr:fn.results.toList=[.tmp t,.tmp s,.tmp r]) (hl:L.lookup t=some u) (hm:L.lookup s=some x) (hn:L.lookup r=some y) (e:vT [u,x,y]=v):KJ E K [] L C:=
 hQ _ _ _ (jW (vs:=[u,x,y]) (by rw [hr]; exact ⟨hl,hm,hn,trivial⟩) fun w hs=>BZ e (by rw [hS] at hs; exact hs))
theorem N1 {E:fp} {ops:Array Oper} {D:g8} {C' C1:List ay} {F:dA→List ay→Prop} {tb rem:List Nat} {n:Nat} {L:dA} {C:List ay} (i:Nat)
 (h:Bz E ops D C' C1 F tb n (rem.filter (· != i)) i L C) (hm:rem.filter (fun i=>rem.all fun j=> !iw (oy ops) j i)=[i]:=by kernel_rfl):TN E ops D C' C1 F tb (n+1) rem L C:=m6 [i] hm (iF h qC)
theorem NO {E:fp} {ops:Array Oper} {D:g8} {C' C1:List ay} {F:dA→List ay→Prop} {tb rem:List Nat} {n i:Nat} {L:dA} {C:List ay} {o:Oper} (ho:ops[i]? =some o) (ht:tb.contains i=false) (rem':List Nat)
 (h: ∀ K:Act→World→Prop,(∀ L' C'',(∀ w,St E.S E.w0 C'' w→St E.S E.w0 C' w)→TN E ops D C' C1 F tb n rem' L' C''→KJ E K D L' C'')→RJ E ops (NQ K) [o] D L C) (hr:rem=rem':=by kernel_rfl):Bz E ops D C' C1 F tb n rem i L C:=UB ho hr ht h
theorem RD {E:fp} {ops:Array Oper} {K:Act→World→Prop} {D:g8} {L:dA} {C C':List ay} {X:dA→List ay→Prop} (hT: ∀ L' C'',(∀ w,St E.S E.w0 C'' w→St E.S E.w0 C' w)→X L' C''→KJ E K D L' C'')
 (k:Nat) (h2:C.drop k=C') (h:X L C):RJ E ops (NQ K) [] D L C:=aH (hT _ _ (fun w hs=>h2▸hs.take (List.drop_sublist k C)) h)
theorem bu {L L':dA} (h:L'.map (fun p=>L.lookup p.1)=L'.map (fun p=>some p.2)):dG L L':=by
 induction L' with
 |nil=>exact dG.nil _
 |cons p t ih=>
  simp only [List.map_cons,List.cons.injEq] at h
  exact dG.cons h.1 (ih h.2)
theorem QX {C:List ay} {A A' B B' D D':ay} (i j k:Nat) (h1:C[i]? =some A') (e1:A'.holds=A.holds) (h2:C[j]? =some B') (e2:B'.holds=B.holds) (h3:C[k]? =some D') (e3:D'.holds=D.holds):kB C [A,B,D]:=gJ i h1 e1 (gJ j h2 e2 (gJ k h3 e3 aO))
theorem bW {E:fp} {c:Operand} {x y:Code} {b:Bool} {Q:dv} {D:List Deferred} {L:List (Nat×Value)} {C:List ay} (hc:ev L c=some (.bool b)) (h2:b=false→WJ E y Q D L C) (h1:b=true→WJ E x Q D L C):WJ E (.cond c x y) Q D L C:=cy hc h1 h2
theorem bU {E:fp} {ops:Array Oper} {Q:dv} {rest:List Oper} {D:List Deferred} {L:List (Nat×Value)} {C:List ay} {t:Nat} {b:Bool} (h:L.lookup t=some (.bool b)) (h2:b=false→RJ E ops Q rest D ((t,.bool false)::L) C) (h1:b=true→RJ E ops Q rest D ((t,.bool true)::L) C):RJ E ops Q rest D L C:=bK h h1 h2
theorem jB {E:fp} {ops:Array Oper} {Q:dv} {rest:List Oper} {D:List Deferred} {L:List (Nat×Value)} {C:List ay} {t:Nat} {b:Bool} {os:List Oper} (h:L.lookup t=some (.bool b)) (h2:b=false→DJ E ops D C (fun L2=>RJ E ops Q rest D L2 C) os ((t,.bool false)::L)) (h1:b=true→DJ E ops D C (fun L2=>RJ E ops Q rest D L2 C) os ((t,.bool true)::L)):DJ E ops D C (fun L2=>RJ E ops Q rest D L2 C) os L:=g7 h h1 h2
theorem cY {L:List (Nat×Value)}: ∀ (k:Nat) {L2:List (Nat×Value)} (q:dG L (L2.drop k)) (h:(L2.take k).map (fun p=>L.lookup p.1)=(L2.take k).map (fun p=>some p.2):=by rfl),dG L L2
 |0,_,q,_=>q
 |_+1,[],_,_=>dG.nil _
 |k+1,p::L2,q,h=>by
  obtain ⟨A,B⟩:=List.cons.inj (show L.lookup p.1::(L2.take k).map (fun p=>L.lookup p.1)=some p.2::(L2.take k).map (fun p=>some p.2) from h)
  exact dG.cons (t:=p.1) (v:=p.2) A (cY k q B)
theorem oX {E:fp} {ops:Array Oper} {Q:dv} {rest:List Oper} {D:List Deferred} {L:List (Nat×Value)} {C:List ay} {d:Nat} {ty:TypeId} {ps:String} {af:Array Edge} {g:Option (Nat×Bool)} {op:Op} (k:RJ E ops Q rest D ((d,undef)::L) C) (h:(Dm ops L g&&Nat.blt d E.n)=true:=by rfl):RJ E ops Q (⟨some d,op,ty,ps,af,g⟩::rest) D L C:=rS (OX h) k
theorem dX {E:fp} {ops:Array Oper} {F:List (Nat×Value)→Prop} {rest:List Oper} {D:List Deferred} {L:List (Nat×Value)} {C:List ay} {d:Nat} {ty:TypeId} {ps:String} {af:Array Edge} {g:Option (Nat×Bool)} {op:Op} (k:DJ E ops D C F rest ((d,undef)::L)) (h:(Dm ops L g&&Nat.blt d E.n)=true:=by rfl):DJ E ops D C F (⟨some d,op,ty,ps,af,g⟩::rest) L:=dS (OX h) k
end
section
open Go.RowKit
section
variable {E:fp} {ops:Array Oper} {Q:dv} {rest:List Oper} {D:List Deferred} {L:List (Nat×Value)} {C:List ay}
variable {d:Nat} {ty:TypeId} {ps:String} {af:Array Edge} {g:Option (Nat×Bool)}
theorem Nb {P:Program} {t e sz:Nat} (h:tE P t=some (e,sz)) (w:World):P.underlying t=some (.slice e)∧(sizeOf e).run P w= .ok sz w:=by
 unfold tE at h
 split at h
 ·rename_i e' hu
  split at h
  ·rename_i i hi
   cases h
   exact ⟨hu,by simp [sizeOf,typeInfo,hi]⟩
  ·cases h
 ·cases h
theorem E2 {P:Program} {t e:Nat} (h:P.underlying t=some (.slice e)):P.underlying t=some (.slice (P.elem t)):=by
 rw [h]; simp [Program.elem,h]
theorem NJ {P:Program} {t e:Nat} (h:P.underlying t=some (.slice e)):P.elem t=e:=by simp [Program.elem,h]
/-- s[:k] -/
theorem WR (k:Nat) {x hi:Operand} {t e sz n c:Nat} {A:OA} {j:Int} (h:bF E.n ops L d g x hi=some (.slice A n c,.int .i64 j)) (ht:tE E.P t=some (e,sz)) (hj:j=(k:Int)) (hk:k≤c):
 SE E ops ⟨some d,.slice t x none (some hi) none,ty,ps,af,g⟩ D L C (.slice A k c) d:=by
 obtain ⟨H,AA,J,K⟩:=tS h
 subst hj
 refine ⟨eL H sm fun a w B hs=>?_,U,AA⟩
 obtain ⟨hu,hz⟩:=Nb ht w
 have hr:=run_slice_h (P:=E.P) w t A n c (E2 hu) .i64 (k:Int) om om
 rw [NJ hu,hz] at hr
 have G:(if c=0 then A else A.map (·.add (0*sz)))=A:=by
  split
  ·rfl
  ·cases A with
   |none=>rfl
   |some ad=>simp [Addr.add]
 simp only [Result.andThen,Int.toNat_natCast,sliced,G,Nat.sub_zero] at hr
 have F:=run_sliceAt_slice (P:=E.P) w t (.slice A n c) none (some (.int .i64 (k:Int))) none (E2 hu)
 simp [execOp,B.ev J,B.ev K,F,hr]
/-- an element of a row whose place is known -/
theorem WH (k:Nat) {x ix:Operand} {A:OA} {ad:Addr} {n c sz e t:Nat} {j:Int} (h:bF E.n ops L d g x ix=some (.slice A n c,.int .i64 j)) (hA:A=some ad) (ht:tE E.P t=some (e,sz)) (hj:j=(k:Int)) (hk:k<n):
 SE E ops ⟨some d,.indexAddr t x ix,ty,ps,af,g⟩ D L C (.pointer (mB A (k*sz))) d:=by
 obtain ⟨F,G,H,AA⟩:=tS h
 refine ⟨eL F sm fun a w B hs=>?_,U,G⟩
 subst hA hj
 simp [execOp,B.ev H,B.ev AA,mB,rQ ht hk]
end
theorem MO {w:World} {a:OA} {c e sz:Nat} {es:List (List Value)} (h:(own a c e sz es).holds w):es.length≤c:=by
 rcases h.2.2 with ⟨A,B⟩|⟨g,cap,cur,hv,_,_,C,_⟩
 ·omega
 ·injection hv with _ _ hc; omega
end
section
open Go.RowKit
/-- an array's length, its elements' type and their size -/
def aE (P:Program) (t:TypeId):Option (Nat×TypeId×Nat):=
 match P.underlying t with
 |some (.array n e)=>match P.info? e with
  |some i=>some (n,e,i.size)
  |none=>none
 |_=>none
theorem Gi {P:Program} {t n e sz:Nat} (h:aE P t=some (n,e,sz)) (w:World):P.underlying t=some (.array n e)∧(sizeOf e).run P w= .ok sz w:=by
 unfold aE at h
 split at h
 ·rename_i n' e' hu
  split at h
  ·rename_i i hi
   cases h
   exact ⟨hu,by simp [sizeOf,typeInfo,hi]⟩
  ·cases h
 ·cases h
theorem wJ {P:Program} {t n e sz:Nat} (h:aE P t=some (n,e,sz)) (a:Addr) (w:World):
 (Instr.sliceAt t (.pointer (some a)) none none none).run P w= .ok (.slice (some a) n n) w:=by
 obtain ⟨hu,hz⟩:=Gi h w
 have A:a.add 0=a:=by simp [Addr.add]
 simp [Instr.sliceAt,underlying,hu,Instr.sureAddr,Instr.sliceBounds,hz,A]
theorem wK {P:Program} {t n e sz:Nat} (h:aE P t=some (n,e,sz)) (a:Addr) {k:Nat} (hk:k<n) (w:World):
 (Instr.indexAt t (.pointer (some a)) (.int .i64 (k:Int))).run P w= .ok (.pointer (some (a.add (k*sz)))) w:=by
 obtain ⟨hu,hz⟩:=Gi h w
 have A: ¬ n≤k:=by omega
 simp [Instr.indexAt,underlying,hu,Instr.sureAddr,asIntOf,hz,A]
 try exact fun h=>absurd h A
 try omega
section
variable {E:fp} {ops:Array Oper} {Q:dv} {rest:List Oper} {D:List Deferred} {L:List (Nat×Value)} {C:List ay}
variable {dst:Option Nat} {ty:TypeId} {ps:String} {af:Array Edge} {g:Option (Nat×Bool)}
theorem DW {x:Operand} {a:Addr} {t n e sz:Nat} (hg:j1 ops L g=true) (hx:ev L x=some (.pointer (some a))) (ht:aE E.P t=some (n,e,sz)):
 SD E ops ⟨dst,.slice t x none none none,ty,ps,af,g⟩ D L C (.slice (some a) n n):=
 eL hg sm fun b w A hs=>by
  simp [execOp,A.ev hx,wJ ht]
theorem ER {x ix:Operand} {a:Addr} {t n e sz k:Nat} {j:Int} (hg:j1 ops L g=true) (hx:ev L x=some (.pointer (some a))) (hi:ev L ix=some (.int .i64 j)) (ht:aE E.P t=some (n,e,sz)) (hj:j=(k:Int)) (hk:k<n):
 SD E ops ⟨dst,.indexAddr t x ix,ty,ps,af,g⟩ D L C (.pointer (mB (some a) (k*sz))):=
 eL hg sm fun b w A hs=>by
  subst hj
  simp [execOp,A.ev hx,A.ev hi,mB,wK ht a hk]
end
end
section
open Go.RowKit
/-- a table of facts on the program's types -/
structure Dr where
 tk:List (Nat×Bool×Nat)
 fo:List (Nat×List (Option Nat))
 sl:List Nat
def Ri {α:Type}:List (Nat×α)→Nat→Option α
 |[],_=>none
 |(k,v)::l,t=>match Nat.beq k t with
  |true=>some v
  |false=>Ri l t
theorem AE {α:Type}: ∀ {l:List (Nat×α)} {t:Nat} {v:α},Ri l t=some v→(t,v)∈l
 |[],t,v,h=>by simp [Ri] at h
 |(k,u)::l,t,v,h=>by
  unfold Ri at h
  split at h
  ·rename_i hb
   cases h
   rw [Nat.eq_of_beq_eq_true hb]; exact cx
  ·exact di _ (AE h)
def LZ:List Nat→Nat→Bool
 |[],_=>false
 |k::l,t=>match Nat.beq k t with
  |true=>true
  |false=>LZ l t
theorem BC: ∀ {l:List Nat} {t:Nat},LZ l t=true→t∈l
 |[],t,h=>by simp [LZ] at h
 |k::l,t,h=>by
  unfold LZ at h
  split at h
  ·rename_i hb
   rw [Nat.eq_of_beq_eq_true hb]; exact cx
  ·exact di _ (BC h)
def Dr.Jh (T:Dr) (t:Nat):Option (Bool×Nat):=Ri T.tk t
def Dr.foF (T:Dr) (s f:Nat):Option Nat:=match Ri T.fo s with
 |some l=>match l[f]? with
  |some (some k)=>some k
  |_=>none
 |none=>none
structure lD (P:Program) (T:Dr):Prop where
 tk: ∀ p∈T.tk,tK P p.1=some p.2
 fo: ∀ p∈T.fo,∀ f k,p.2[f]? =some (some k)→sW P p.1 f=some k
 sl: ∀ t∈T.sl,∃ e,P.underlying t=some (.slice e)
theorem lD.Jh {P:Program} {T:Dr} (h:lD P T) {t:Nat} {r:Bool×Nat} (e:T.Jh t=some r):tK P t=some r:=h.tk _ (AE e)
theorem lD.foF {P:Program} {T:Dr} (h:lD P T) {s f k:Nat} (e:T.foF s f=some k):sW P s f=some k:=by
 unfold Dr.foF at e
 split at e
 ·rename_i l hl
  split at e
  ·rename_i k' hk
   cases e
   exact h.fo _ (AE hl) f k hk
  ·cases e
 ·cases e
def Um (P:Program) (T:Dr):Bool:=(T.tk.all fun p=>decide (tK P p.1=some p.2))&&(T.fo.all fun p=>(List.range p.2.length).all fun f=>match p.2[f]? with
 |some (some k)=>decide (sW P p.1 f=some k)
 |_=>true)&&T.sl.all fun t=>match P.underlying t with
 |some (.slice _)=>true
 |_=>false
theorem Qa {P:Program} {T:Dr} (h:Um P T=true):lD P T:=by
 unfold Um at h
 rw [cE,cE] at h
 obtain ⟨⟨B,C⟩,D⟩:=h
 refine ⟨fun p hp=>by simpa using cN.1 B p hp,fun p hp f k hk=>?_,fun t ht=>?_⟩
 ·have A:=cN.1 (cN.1 C p hp) f (List.mem_range.2 (aZ.1 hk).1)
  rw [hk] at A
  simpa using A
 ·have A:=cN.1 D t ht
  split at A
  ·rename_i e he; exact ⟨e,he⟩
  ·cases A
end
section
theorem El:tK Tryz.prog 3=some (false,1):=by kernel_rfl
theorem Wq:tK Tryz.prog 5=some (false,1):=by kernel_rfl
theorem S8:tK Tryz.prog 24=some (true,1):=by kernel_rfl
theorem Ra:tK Tryz.prog 25=some (false,1):=by kernel_rfl
theorem VE:tK Tryz.prog 26=some (false,1):=by kernel_rfl
theorem Vp:tK Tryz.prog 28=some (true,7):=by kernel_rfl
theorem Wh:tK Tryz.prog 29=some (false,1):=by kernel_rfl
theorem VV:tK Tryz.prog 30=some (false,1):=by kernel_rfl
theorem UN:tK Tryz.prog 32=some (true,11):=by kernel_rfl
theorem Va:tK Tryz.prog 33=some (false,1):=by kernel_rfl
theorem UL:tK Tryz.prog 34=some (false,1):=by kernel_rfl
theorem VB:tK Tryz.prog 36=some (true,15):=by kernel_rfl
theorem VC:tK Tryz.prog 41=some (false,1):=by kernel_rfl
theorem U5:tK Tryz.prog 43=some (true,3):=by kernel_rfl
theorem Ux:tK Tryz.prog 48=some (true,2):=by kernel_rfl
theorem Wc:tK Tryz.prog 50=some (true,7):=by kernel_rfl
theorem Vs:tK Tryz.prog 51=some (false,1):=by kernel_rfl
theorem VA:tK Tryz.prog 54=some (true,4):=by kernel_rfl
theorem UA:tK Tryz.prog 56=some (true,5):=by kernel_rfl
theorem Wb:tK Tryz.prog 61=some (false,1):=by kernel_rfl
theorem Vw:tK Tryz.prog 83=some (true,3):=by kernel_rfl
theorem UQ:tK Tryz.prog 87=some (true,2):=by kernel_rfl
theorem UE:tK Tryz.prog 91=some (true,15):=by kernel_rfl
theorem SY:tK Tryz.prog 102=some (true,9):=by kernel_rfl
theorem SJ:tK Tryz.prog 104=some (true,3):=by kernel_rfl
theorem OQ:tK Tryz.prog 105=some (false,1):=by kernel_rfl
theorem Rv:tK Tryz.prog 107=some (true,2):=by kernel_rfl
theorem TO:tK Tryz.prog 125=some (true,2):=by kernel_rfl
theorem Ue:tK Tryz.prog 126=some (true,8):=by kernel_rfl
theorem TZ:tK Tryz.prog 130=some (true,4):=by kernel_rfl
theorem Su:tK Tryz.prog 139=some (false,1):=by kernel_rfl
theorem RZ:tK Tryz.prog 143=some (true,1):=by kernel_rfl
theorem RB:tK Tryz.prog 144=some (true,4):=by kernel_rfl
theorem Tm:tK Tryz.prog 170=some (true,1):=by kernel_rfl
theorem Se:tK Tryz.prog 190=some (false,1):=by kernel_rfl
theorem SQ:tK Tryz.prog 205=some (false,1):=by kernel_rfl
theorem TH:tK Tryz.prog 211=some (false,1):=by kernel_rfl
theorem S9:tK Tryz.prog 216=some (false,1):=by kernel_rfl
theorem TV:tK Tryz.prog 218=some (true,2):=by kernel_rfl
theorem TR:tK Tryz.prog 251=some (false,1):=by kernel_rfl
theorem Ud:tK Tryz.prog 253=some (true,3):=by kernel_rfl
theorem Ab:(tK Tryz.prog 3).map (·.2)=some 1:=by rw [El]; rfl
theorem Sm:(tK Tryz.prog 24).map (·.2)=some 1:=by rw [S8]; rfl
theorem VU:(tK Tryz.prog 25).map (·.2)=some 1:=by rw [Ra]; rfl
theorem Vq:(tK Tryz.prog 26).map (·.2)=some 1:=by rw [VE]; rfl
theorem P4:(tK Tryz.prog 28).map (·.2)=some 7:=by rw [Vp]; rfl
theorem Db:(tK Tryz.prog 29).map (·.2)=some 1:=by rw [Wh]; rfl
theorem RR:(tK Tryz.prog 30).map (·.2)=some 1:=by rw [VV]; rfl
theorem TB:(tK Tryz.prog 32).map (·.2)=some 11:=by rw [UN]; rfl
theorem V6:(tK Tryz.prog 33).map (·.2)=some 1:=by rw [Va]; rfl
theorem Rn:(tK Tryz.prog 34).map (·.2)=some 1:=by rw [UL]; rfl
theorem Qm:(tK Tryz.prog 36).map (·.2)=some 15:=by rw [VB]; rfl
theorem Q6:(tK Tryz.prog 41).map (·.2)=some 1:=by rw [VC]; rfl
theorem CM:(tK Tryz.prog 43).map (·.2)=some 3:=by rw [U5]; rfl
theorem cW:(tK Tryz.prog 48).map (·.2)=some 2:=by rw [Ux]; rfl
theorem Hy:(tK Tryz.prog 50).map (·.2)=some 7:=by rw [Wc]; rfl
theorem U4:(tK Tryz.prog 51).map (·.2)=some 1:=by rw [Vs]; rfl
theorem SR:(tK Tryz.prog 54).map (·.2)=some 4:=by rw [VA]; rfl
theorem Pz:(tK Tryz.prog 56).map (·.2)=some 5:=by rw [UA]; rfl
theorem Vi:(tK Tryz.prog 61).map (·.2)=some 1:=by rw [Wb]; rfl
theorem Rp:(tK Tryz.prog 83).map (·.2)=some 3:=by rw [Vw]; rfl
theorem vN:(tK Tryz.prog 87).map (·.2)=some 2:=by rw [UQ]; rfl
theorem HR:(tK Tryz.prog 91).map (·.2)=some 15:=by rw [UE]; rfl
theorem Jx:(tK Tryz.prog 102).map (·.2)=some 9:=by rw [SY]; rfl
theorem ua:(tK Tryz.prog 104).map (·.2)=some 3:=by rw [SJ]; rfl
theorem Ti:(tK Tryz.prog 105).map (·.2)=some 1:=by rw [OQ]; rfl
theorem OV:(tK Tryz.prog 107).map (·.2)=some 2:=by rw [Rv]; rfl
theorem I0:(tK Tryz.prog 125).map (·.2)=some 2:=by rw [TO]; rfl
theorem Sa:(tK Tryz.prog 126).map (·.2)=some 8:=by rw [Ue]; rfl
theorem mQ:(tK Tryz.prog 130).map (·.2)=some 4:=by rw [TZ]; rfl
theorem Tt:(tK Tryz.prog 139).map (·.2)=some 1:=by rw [Su]; rfl
theorem Fi:(tK Tryz.prog 143).map (·.2)=some 1:=by rw [RZ]; rfl
theorem Ua:(tK Tryz.prog 144).map (·.2)=some 4:=by rw [RB]; rfl
theorem K7:(tK Tryz.prog 170).map (·.2)=some 1:=by rw [Tm]; rfl
theorem Sq:(tK Tryz.prog 190).map (·.2)=some 1:=by rw [Se]; rfl
theorem FN:(tK Tryz.prog 205).map (·.2)=some 1:=by rw [SQ]; rfl
theorem zD:(tK Tryz.prog 211).map (·.2)=some 1:=by rw [TH]; rfl
theorem KY:(tK Tryz.prog 216).map (·.2)=some 1:=by rw [S9]; rfl
theorem sZ:(tK Tryz.prog 218).map (·.2)=some 2:=by rw [TV]; rfl
theorem Ub:(tK Tryz.prog 251).map (·.2)=some 1:=by rw [TR]; rfl
theorem TU:(tK Tryz.prog 253).map (·.2)=some 3:=by rw [Ud]; rfl
theorem zt:aE Tryz.prog 233=some (3,232,2):=by kernel_rfl
theorem IE:sW Tryz.prog 28 2=some 2:=by kernel_rfl
theorem E3:sW Tryz.prog 107 1=some 1:=by kernel_rfl
theorem VM:sU Tryz.prog 47=true:=by kernel_rfl
theorem kU (l:List ag): ∀ v∈(l.map ag.cells).flatten,v.oneCell'=true:=kK (fun _=>rfl) l
theorem vj (l:List aK): ∀ v∈(l.map aK.cells).flatten,v.oneCell'=true:=kK (fun _=>rfl) l
theorem tO (l:List aY): ∀ v∈(l.map aY.cells).flatten,v.oneCell'=true:=kK (fun _=>rfl) l
theorem wI (l:List bJ): ∀ v∈(l.map bJ.cells).flatten,v.oneCell'=true:=kK (fun _=>rfl) l
theorem lJ (l:List aA): ∀ v∈(l.map aA.cells).flatten,v.oneCell'=true:=kK (fun _=>rfl) l
theorem tw (l:List ar): ∀ v∈(l.map ar.cells).flatten,v.oneCell'=true:=kK (fun _=>rfl) l
theorem wO (l:List cM): ∀ v∈(l.map cM.cells).flatten,v.oneCell'=true:=kK (fun _=>rfl) l
theorem Vj:tA Tryz.prog 22=some (102,9,72,(Value.agg [(vI 0),(vI 0),(vI 0),(vI 0),(vI 0),(vI 0),(vI 0),(Value.int .u8 0),(vI 0)].toArray)):=by kernel_rfl
theorem UH:tA Tryz.prog 25=some (107,2,32,(Value.agg [(vI 0),(vS none 0 0)].toArray)):=by kernel_rfl
theorem Vz:tA Tryz.prog 26=some (85,4,32,(Value.agg [(vI 0),(vI 0),(vI 0),(vI 0)].toArray)):=by kernel_rfl
theorem rL:tA Tryz.prog 29=some (3,1,8,(vI 0)):=by kernel_rfl
theorem UT:tA Tryz.prog 30=some (51,1,24,(vS none 0 0)):=by kernel_rfl
theorem VJ:tA Tryz.prog 33=some (54,4,32,(Value.agg [(Value.int .u8 0),(vI 0),(vI 0),(vI 0)].toArray)):=by kernel_rfl
theorem V4:tA Tryz.prog 34=some (56,5,40,(Value.agg [(vI 0),(vI 0),(vI 0),(vI 0),(vI 0)].toArray)):=by kernel_rfl
theorem Qe:tA Tryz.prog 41=some (87,2,16,(Value.agg [(vI 0),(vI 0)].toArray)):=by kernel_rfl
theorem Uz:tA Tryz.prog 51=some (50,7,64,(Value.agg [(vB false),(vB false),(vI 0),(vI 0),(vI 0),(vI 0),(vS none 0 0)].toArray)):=by kernel_rfl
theorem Vo:tA Tryz.prog 61=some (29,1,24,(vS none 0 0)):=by kernel_rfl
theorem SL:tA Tryz.prog 105=some (104,3,24,(Value.agg [(vI 0),(vI 0),(vI 0)].toArray)):=by kernel_rfl
theorem Pd:tA Tryz.prog 139=some (190,1,24,(vS none 0 0)):=by kernel_rfl
theorem Fg:tA Tryz.prog 190=some (48,2,16,(Value.agg [(vI 0),(vI 0)].toArray)):=by kernel_rfl
theorem OP:tA Tryz.prog 210=some (205,1,8,(Value.map none)):=by kernel_rfl
theorem C8:tA Tryz.prog 211=some (216,1,8,(Value.map none)):=by kernel_rfl
theorem Pb:tA Tryz.prog 240=some (256,3,72,(Value.agg [(vS none 0 0),(vS none 0 0),(vS none 0 0)].toArray)):=by kernel_rfl
theorem SV:tA Tryz.prog 251=some (4,1,1,(vB false)):=by kernel_rfl
theorem Th:tB Tryz.prog 24=some ([(vS none 0 0)],[(0,1)]):=by kernel_rfl
theorem U2:tB Tryz.prog 28=some ([(vS none 0 0),(vI 0),(vS none 0 0),(vS none 0 0),(vI 0),(vI 0),(vI 0)],[(0,1),(1,1),(2,1),(3,1),(4,1),(5,1),(6,1)]):=by kernel_rfl
theorem Wd:tB Tryz.prog 32=some ([(vS none 0 0),(vI 0),(vS none 0 0),(vS none 0 0),(vI 0),(vI 0),(vI 0),(vS none 0 0),(vS none 0 0),(vI 0),(vS none 0 0)],[(0,7),(7,1),(8,1),(9,1),(10,1)]):=by kernel_rfl
theorem Wi:tB Tryz.prog 36=some ([(vS none 0 0),(vI 0),(vS none 0 0),(vS none 0 0),(vI 0),(vI 0),(vI 0),(vS none 0 0),(vS none 0 0),(vI 0),(vS none 0 0),(vS none 0 0),(vS none 0 0),(vI 0),(vI 0)],[(0,11),(11,1),(12,1),(13,1),(14,1)]):=by kernel_rfl
theorem We:tB Tryz.prog 43=some ([(vI 0),(vI 0),(vS none 0 0)],[(0,1),(1,1),(2,1)]):=by kernel_rfl
theorem gO:tB Tryz.prog 48=some ([(vI 0),(vI 0)],[(0,1),(1,1)]):=by kernel_rfl
theorem PE:tB Tryz.prog 50=some ([(vB false),(vB false),(vI 0),(vI 0),(vI 0),(vI 0),(vS none 0 0)],[(0,1),(1,1),(2,2),(4,3)]):=by kernel_rfl
theorem Me:tB Tryz.prog 54=some ([(Value.int .u8 0),(vI 0),(vI 0),(vI 0)],[(0,1),(1,1),(2,1),(3,1)]):=by kernel_rfl
theorem Og:tB Tryz.prog 56=some ([(vI 0),(vI 0),(vI 0),(vI 0),(vI 0)],[(0,1),(1,1),(2,1),(3,1),(4,1)]):=by kernel_rfl
theorem Qu:tB Tryz.prog 83=some ([(vI 0),(vI 0),(vI 0)],[(0,1),(1,2)]):=by kernel_rfl
theorem Qq:tB Tryz.prog 85=some ([(vI 0),(vI 0),(vI 0),(vI 0)],[(0,3),(3,1)]):=by kernel_rfl
theorem Et:tB Tryz.prog 87=some ([(vI 0),(vI 0)],[(0,1),(1,1)]):=by kernel_rfl
theorem VX:tB Tryz.prog 91=some ([(vS none 0 0),(vI 0),(vS none 0 0),(vS none 0 0),(vI 0),(vI 0),(vI 0),(vS none 0 0),(vS none 0 0),(vI 0),(vS none 0 0),(vS none 0 0),(vS none 0 0),(vI 0),(vI 0)],[(0,15)]):=by kernel_rfl
theorem Tk:tB Tryz.prog 102=some ([(vI 0),(vI 0),(vI 0),(vI 0),(vI 0),(vI 0),(vI 0),(Value.int .u8 0),(vI 0)],[(0,1),(1,2),(3,2),(5,2),(7,1),(8,1)]):=by kernel_rfl
theorem O8:tB Tryz.prog 104=some ([(vI 0),(vI 0),(vI 0)],[(0,1),(1,2)]):=by kernel_rfl
theorem RH:tB Tryz.prog 107=some ([(vI 0),(vS none 0 0)],[(0,1),(1,1)]):=by kernel_rfl
theorem Lj:tB Tryz.prog 125=some ([Value.nilFunc,Value.nilFunc],[(0,1),(1,1)]):=by kernel_rfl
theorem RL:tB Tryz.prog 126=some ([Value.nilFunc,Value.nilFunc,Value.nilFunc,Value.nilFunc,Value.nilFunc,Value.nilFunc,Value.nilFunc,Value.nilFunc],[(0,2),(2,2),(4,2),(6,2)]):=by kernel_rfl
theorem FQ:tB Tryz.prog 130=some ([(vI 0),(vI 0),(vB false),(vB false)],[(0,2),(2,1),(3,1)]):=by kernel_rfl
theorem Gd:tB Tryz.prog 143=some ([Value.nilFunc],[(0,1)]):=by kernel_rfl
theorem Sy:tB Tryz.prog 144=some ([Value.nilFunc,Value.nilFunc,Value.nilFunc,Value.nilFunc],[(0,1),(1,1),(2,1),(3,1)]):=by kernel_rfl
theorem TX:tB Tryz.prog 170=some ([(vS none 0 0)],[(0,1)]):=by kernel_rfl
theorem T2:tB Tryz.prog 207=some ([(vS none 0 0),(vI 0),(vS none 0 0),(vS none 0 0),(vI 0),(vI 0),(vI 0),(vS none 0 0),(vS none 0 0),(vI 0),(vS none 0 0),(vS none 0 0),(Value.map none)],[(0,11),(11,1),(12,1)]):=by kernel_rfl
theorem OO:tB Tryz.prog 213=some ([(vS none 0 0),(vI 0),(vS none 0 0),(vS none 0 0),(vI 0),(vI 0),(vI 0),(vI 0),(vI 0),(vS none 0 0),(vS none 0 0),(vS none 0 0),(vS none 0 0),(vS none 0 0)],[(0,7),(7,3),(10,1),(11,1),(12,1),(13,1)]):=by kernel_rfl
theorem BH:tB Tryz.prog 218=some ([(vI 0),(vI 0)],[(0,1),(1,1)]):=by kernel_rfl
theorem Rr:tB Tryz.prog 256=some ([(vS none 0 0),(vS none 0 0),(vS none 0 0)],[(0,1),(1,1),(2,1)]):=by kernel_rfl
theorem yO:tE Tryz.prog 22=some (102,9):=by kernel_rfl
theorem yV:tE Tryz.prog 25=some (107,2):=by kernel_rfl
theorem uR:tE Tryz.prog 26=some (85,4):=by kernel_rfl
theorem dk:tE Tryz.prog 29=some (3,1):=by kernel_rfl
theorem oz:tE Tryz.prog 30=some (51,1):=by kernel_rfl
theorem yQ:tE Tryz.prog 33=some (54,4):=by kernel_rfl
theorem Aj:tE Tryz.prog 34=some (56,5):=by kernel_rfl
theorem VR:tE Tryz.prog 38=some (37,1):=by kernel_rfl
theorem wL:tE Tryz.prog 41=some (87,2):=by kernel_rfl
theorem rr:tE Tryz.prog 51=some (50,7):=by kernel_rfl
theorem BX:tE Tryz.prog 61=some (29,1):=by kernel_rfl
theorem rY:tE Tryz.prog 105=some (104,3):=by kernel_rfl
theorem JF:tE Tryz.prog 139=some (190,1):=by kernel_rfl
theorem lu:tE Tryz.prog 190=some (48,2):=by kernel_rfl
theorem Kt:tE Tryz.prog 195=some (83,3):=by kernel_rfl
theorem Oz:tE Tryz.prog 209=some (184,1):=by kernel_rfl
theorem yB:tE Tryz.prog 210=some (205,1):=by kernel_rfl
theorem oU:tE Tryz.prog 211=some (216,1):=by kernel_rfl
theorem JE:tE Tryz.prog 230=some (232,2):=by kernel_rfl
theorem FZ:tE Tryz.prog 240=some (256,3):=by kernel_rfl
theorem Ox:tE Tryz.prog 251=some (4,1):=by kernel_rfl
theorem IX:(match Tryz.prog.underlying 48 with |some (.struct fs)=>(fs[0]?).map (fun fl=>tK Tryz.prog fl.type)|_=>none)=some (some (false,1)):=by kernel_rfl
theorem Ke:(match Tryz.prog.underlying 48 with |some (.struct fs)=>(fs[1]?).map (fun fl=>tK Tryz.prog fl.type)|_=>none)=some (some (false,1)):=by kernel_rfl
theorem Ws:tV Tryz.prog 3=some (vI 0):=by kernel_rfl
theorem Wm:tV Tryz.prog 4=some (vB false):=by kernel_rfl
theorem VF:tV Tryz.prog 48=some (Value.agg [(vI 0),(vI 0)].toArray):=by kernel_rfl
theorem K3:tX Tryz.prog 126=some (4,125):=by kernel_rfl
theorem FB:tX Tryz.prog 144=some (4,143):=by kernel_rfl
theorem jO:tZ Tryz.prog 3=some [(vI 0)]:=by kernel_rfl
theorem WN:tZ Tryz.prog 4=some [(vB false)]:=by kernel_rfl
theorem U3:tZ Tryz.prog 24=some [(vS none 0 0)]:=by kernel_rfl
theorem Td:tZ Tryz.prog 28=some [(vS none 0 0),(vI 0),(vS none 0 0),(vS none 0 0),(vI 0),(vI 0),(vI 0)]:=by kernel_rfl
theorem Sd:tZ Tryz.prog 29=some [(vS none 0 0)]:=by kernel_rfl
theorem Wa:tZ Tryz.prog 32=some [(vS none 0 0),(vI 0),(vS none 0 0),(vS none 0 0),(vI 0),(vI 0),(vI 0),(vS none 0 0),(vS none 0 0),(vI 0),(vS none 0 0)]:=by kernel_rfl
theorem Qk:tZ Tryz.prog 36=some [(vS none 0 0),(vI 0),(vS none 0 0),(vS none 0 0),(vI 0),(vI 0),(vI 0),(vS none 0 0),(vS none 0 0),(vI 0),(vS none 0 0),(vS none 0 0),(vS none 0 0),(vI 0),(vI 0)]:=by kernel_rfl
theorem Lr:tZ Tryz.prog 43=some [(vI 0),(vI 0),(vS none 0 0)]:=by kernel_rfl
theorem ed:tZ Tryz.prog 48=some [(vI 0),(vI 0)]:=by kernel_rfl
theorem AK:tZ Tryz.prog 50=some [(vB false),(vB false),(vI 0),(vI 0),(vI 0),(vI 0),(vS none 0 0)]:=by kernel_rfl
theorem Tz:tZ Tryz.prog 51=some [(vS none 0 0)]:=by kernel_rfl
theorem PI:tZ Tryz.prog 54=some [(Value.int .u8 0),(vI 0),(vI 0),(vI 0)]:=by kernel_rfl
theorem JO:tZ Tryz.prog 56=some [(vI 0),(vI 0),(vI 0),(vI 0),(vI 0)]:=by kernel_rfl
theorem Nd:tZ Tryz.prog 83=some [(vI 0),(vI 0),(vI 0)]:=by kernel_rfl
theorem UP:tZ Tryz.prog 85=some [(vI 0),(vI 0),(vI 0),(vI 0)]:=by kernel_rfl
theorem Cf:tZ Tryz.prog 87=some [(vI 0),(vI 0)]:=by kernel_rfl
theorem HQ:tZ Tryz.prog 91=some [(vS none 0 0),(vI 0),(vS none 0 0),(vS none 0 0),(vI 0),(vI 0),(vI 0),(vS none 0 0),(vS none 0 0),(vI 0),(vS none 0 0),(vS none 0 0),(vS none 0 0),(vI 0),(vI 0)]:=by kernel_rfl
theorem E5:tZ Tryz.prog 102=some [(vI 0),(vI 0),(vI 0),(vI 0),(vI 0),(vI 0),(vI 0),(Value.int .u8 0),(vI 0)]:=by kernel_rfl
theorem s_:tZ Tryz.prog 104=some [(vI 0),(vI 0),(vI 0)]:=by kernel_rfl
theorem JR:tZ Tryz.prog 107=some [(vI 0),(vS none 0 0)]:=by kernel_rfl
theorem H_:tZ Tryz.prog 125=some [Value.nilFunc,Value.nilFunc]:=by kernel_rfl
theorem S6:tZ Tryz.prog 126=some [Value.nilFunc,Value.nilFunc,Value.nilFunc,Value.nilFunc,Value.nilFunc,Value.nilFunc,Value.nilFunc,Value.nilFunc]:=by kernel_rfl
theorem oV:tZ Tryz.prog 130=some [(vI 0),(vI 0),(vB false),(vB false)]:=by kernel_rfl
theorem FH:tZ Tryz.prog 143=some [Value.nilFunc]:=by kernel_rfl
theorem Tu:tZ Tryz.prog 144=some [Value.nilFunc,Value.nilFunc,Value.nilFunc,Value.nilFunc]:=by kernel_rfl
theorem KR:tZ Tryz.prog 170=some [(vS none 0 0)]:=by kernel_rfl
theorem Rx:tZ Tryz.prog 184=some [Value.nilFunc]:=by kernel_rfl
theorem OE:tZ Tryz.prog 190=some [(vS none 0 0)]:=by kernel_rfl
theorem Sp:tZ Tryz.prog 205=some [(Value.map none)]:=by kernel_rfl
theorem ux:tZ Tryz.prog 218=some [(vI 0),(vI 0)]:=by kernel_rfl
theorem ON:tZ Tryz.prog 253=some [(vS none 0 0),(vS none 0 0),(vS none 0 0)]:=by kernel_rfl
theorem Tv:tZ Tryz.prog 256=some [(vS none 0 0),(vS none 0 0),(vS none 0 0)]:=by kernel_rfl
theorem sO:Tryz.prog.underlying 3=some (.int .i64):=by kernel_rfl
theorem Wp:Tryz.prog.underlying 4=some .bool:=by kernel_rfl
theorem M1:Tryz.prog.underlying 5=some (.int .u8):=by kernel_rfl
theorem WU:Tryz.prog.underlying 9=some .string:=by kernel_rfl
theorem Tb:Tryz.prog.underlying 22=some (.slice 102):=by kernel_rfl
theorem U7:Tryz.prog.underlying 25=some (.slice 107):=by kernel_rfl
theorem Po:Tryz.prog.underlying 26=some (.slice 85):=by kernel_rfl
theorem UZ:Tryz.prog.underlying 29=some (.slice 3):=by kernel_rfl
theorem UJ:Tryz.prog.underlying 30=some (.slice 51):=by kernel_rfl
theorem V0:Tryz.prog.underlying 33=some (.slice 54):=by kernel_rfl
theorem Vx:Tryz.prog.underlying 34=some (.slice 56):=by kernel_rfl
theorem IB:Tryz.prog.underlying 37=some (.int .u32):=by kernel_rfl
theorem RW:Tryz.prog.underlying 38=some (.slice 37):=by kernel_rfl
theorem Vd:Tryz.prog.underlying 41=some (.slice 87):=by kernel_rfl
theorem Vv:Tryz.prog.underlying 51=some (.slice 50):=by kernel_rfl
theorem SA:Tryz.prog.underlying 105=some (.slice 104):=by kernel_rfl
theorem CO:Tryz.prog.underlying 132=some (.map 3 4):=by kernel_rfl
theorem s9:Tryz.prog.underlying 205=some (.map 3 48):=by kernel_rfl
theorem pt:Tryz.prog.underlying 216=some (.map 218 3):=by kernel_rfl
theorem TA:Tryz.prog.underlying 247=some (.int .u64):=by kernel_rfl
theorem RM:Tryz.prog.underlying 267=some (.int .u64):=by kernel_rfl
theorem PX:fL Tryz.prog 48=some [(3,0),(3,1)]:=by kernel_rfl
theorem O6 (d:Nat) (s z:ag) (w:World):(Op.equalIn (d+2) 48 (.agg s.cells.toArray) (.agg z.cells.toArray)).run Tryz.prog w= .ok (decide (s=z)) w:=by
 have hc:(decide (s.Lo=z.Lo)&&(decide (s.Hi=z.Hi)&&true))=decide (s=z):=by rw [Bool.eq_iff_iff]; simp [ag.ext_iff]
 rw [← hc]
 exact tJ (d+1) PX w (mP w (gY El U w) (gY El U w) (oY _ sO w) (mP w (gY El U w) (gY El U w) (oY _ sO w) (Au w)))
theorem xC (x y:Operand) (s z:ag):iA Tryz.prog .eql 48 x y (.agg s.cells.toArray) (.agg z.cells.toArray) (.bool (decide (s=z))):=zl x y (yG PX) fun w=>O6 9998 s z w
theorem S_ (x y:Operand) (s z:ag):iA Tryz.prog .neq 48 x y (.agg s.cells.toArray) (.agg z.cells.toArray) (.bool (!decide (s=z))):=HS x y (yG PX) fun w=>O6 9998 s z w
theorem OY:fL Tryz.prog 218=some [(3,0),(3,1)]:=by kernel_rfl
theorem Q0 (d:Nat) (s z:aN) (w:World):(Op.equalIn (d+2) 218 (.agg s.cells.toArray) (.agg z.cells.toArray)).run Tryz.prog w= .ok (decide (s=z)) w:=by
 have hc:(decide (s.right=z.right)&&(decide (s.e7=z.e7)&&true))=decide (s=z):=by rw [Bool.eq_iff_iff]; simp [aN.ext_iff]
 rw [← hc]
 exact tJ (d+1) OY w (mP w (gY El U w) (gY El U w) (oY _ sO w) (mP w (gY El U w) (gY El U w) (oY _ sO w) (Au w)))
theorem RG:fL Tryz.prog 54=some [(5,0),(3,1),(3,2),(3,3)]:=by kernel_rfl
theorem S7 (d:Nat) (s z:aK) (w:World):(Op.equalIn (d+2) 54 (.agg s.cells.toArray) (.agg z.cells.toArray)).run Tryz.prog w= .ok (decide (s=z)) w:=by
 have hc:(decide (s.Kind=z.Kind)&&(decide (s.de=z.de)&&(decide (s.iN=z.iN)&&(decide (s.To=z.To)&&true))))=decide (s=z):=by rw [Bool.eq_iff_iff]; simp [aK.ext_iff]
 rw [← hc]
 exact tJ (d+1) RG w (mP w (gY Wq U w) (gY Wq U w) (oY _ M1 w) (mP w (gY El U w) (gY El U w) (oY _ sO w) (mP w (gY El U w) (gY El U w) (oY _ sO w) (mP w (gY El U w) (gY El U w) (oY _ sO w) (Au w)))))
theorem Sj (x y:Operand) (s z:aK):iA Tryz.prog .eql 54 x y (.agg s.cells.toArray) (.agg z.cells.toArray) (.bool (decide (s=z))):=zl x y (yG RG) fun w=>S7 9998 s z w
theorem cj:Tryz.prog.follows .mixedOrders=true:=by kernel_rfl
def TT:Dr:=⟨[(1,false,1),(2,false,1),(3,false,1),(4,false,1),(5,false,1),(6,false,1),(7,true,4),(8,true,4),(12,false,1),(15,false,1),(16,false,1),(17,false,1),(18,true,1),(19,true,1),(21,false,1),(22,false,1),(23,true,1),(24,true,1),(25,false,1),(26,false,1),(27,true,7),(28,true,7),(29,false,1),(30,false,1),(31,true,11),(32,true,11),(33,false,1),(34,false,1),(35,true,15),(36,true,15),(37,false,1),(38,false,1),(39,false,1),(40,false,1),(41,false,1),(42,true,3),(43,true,3),(45,false,1),(46,false,1),(47,true,2),(48,true,2),(49,true,7),(50,true,7),(51,false,1),(52,false,1),(53,true,4),(54,true,4),(55,true,5),(56,true,5),(57,false,1),(59,false,1),(60,false,1),(61,false,1),(63,false,1),(64,false,1),(65,false,1),(67,false,1),(68,false,1),(70,false,1),(72,false,1),(73,false,1),(74,false,1),(75,false,1),(76,false,1),(77,false,1),(78,false,1),(79,false,1),(81,false,1),(82,true,3),(83,true,3),(84,true,4),(85,true,4),(86,true,2),(87,true,2),(88,false,1),(89,false,1),(90,true,15),(91,true,15),(93,false,1),(94,false,1),(95,false,1),(96,false,1),(97,false,1),(98,false,1),(99,false,1),(100,false,1),(101,true,9),(102,true,9),(103,true,3),(104,true,3),(105,false,1),(106,true,2),(107,true,2),(108,false,1),(109,false,1),(110,false,1),(111,false,1),(112,false,1),(113,false,1),(114,false,1),(115,false,1),(116,false,1),(117,false,1),(118,false,1),(119,false,1),(120,false,1),(121,false,1),(122,false,1),(123,false,1),(124,true,2),(125,true,2),(126,true,8),(127,false,1),(129,true,4),(130,true,4),(131,false,1),(132,false,1),(133,false,1),(134,false,1),(135,false,1),(136,false,1),(137,false,1),(138,false,1),(139,false,1),(141,false,1),(142,false,1),(143,true,1),(144,true,4),(145,false,1),(146,false,1),(147,false,1),(148,false,1),(149,false,1),(150,false,1),(151,false,1),(152,false,1),(153,false,1),(154,false,1),(155,false,1),(156,false,1),(157,false,1),(158,false,1),(159,false,1),(160,false,1),(161,false,1),(163,false,1),(164,false,1),(165,false,1),(166,false,1),(167,false,1),(168,false,1),(169,true,1),(170,true,1),(172,false,1),(173,false,1),(175,false,1),(176,false,1),(177,false,1),(178,false,1),(180,false,1),(181,false,1),(183,false,1),(184,false,1),(185,false,1),(186,false,1),(187,false,1),(188,false,1),(189,false,1),(190,false,1),(192,false,1),(193,false,1),(194,false,1),(195,false,1),(196,false,1),(197,false,1),(198,false,1),(199,false,1),(200,false,1),(201,false,1),(202,false,1),(203,false,1),(204,false,1),(205,false,1),(206,true,13),(207,true,13),(208,false,1),(209,false,1),(210,false,1),(211,false,1),(212,true,14),(213,true,14),(214,false,1),(215,false,1),(216,false,1),(217,true,2),(218,true,2),(219,false,1),(220,false,1),(221,false,1),(222,false,1),(223,false,1),(224,false,1),(226,false,1),(227,false,1),(228,false,1),(229,false,1),(230,false,1),(231,true,2),(232,true,2),(233,true,6),(234,false,1),(235,false,1),(236,false,1),(238,false,1),(239,false,1),(240,false,1),(242,false,1),(243,false,1),(244,false,1),(245,false,1),(246,false,1),(247,false,1),(248,false,1),(249,false,1),(250,false,1),(251,false,1),(252,true,3),(253,true,3),(254,false,1),(255,true,3),(256,true,3),(257,false,1),(258,false,1),(260,false,1),(261,false,1),(262,false,1),(263,false,1),(264,false,1),(265,false,1),(266,false,1),(267,false,1),(268,false,1),(269,false,1),(270,false,1),(271,false,1),(272,false,1),(273,false,1),(274,false,1),(275,false,1),(276,false,1),(277,false,1),(278,false,1),(281,true,0),(282,true,0),(283,true,0),(284,false,1),(285,false,1),(286,false,1),(287,false,1),(288,false,1),(289,false,1),(290,false,1),(291,true,11),(292,true,11),(293,false,1),(295,false,1)],[(7,[some 0,some 1,some 2,some 3]),(8,[some 0,some 1,some 2,some 3]),(18,[some 0]),(19,[some 0]),(23,[some 0]),(24,[some 0]),(27,[some 0,some 1,some 2,some 3,some 4,some 5,some 6]),(28,[some 0,some 1,some 2,some 3,some 4,some 5,some 6]),(31,[some 0,some 7,some 8,some 9,some 10]),(32,[some 0,some 7,some 8,some 9,some 10]),(35,[some 0,some 11,some 12,some 13,some 14]),(36,[some 0,some 11,some 12,some 13,some 14]),(42,[some 0,some 1,some 2]),(43,[some 0,some 1,some 2]),(47,[some 0,some 1]),(48,[some 0,some 1]),(49,[some 0,some 1,some 2,some 4]),(50,[some 0,some 1,some 2,some 4]),(53,[some 0,some 1,some 2,some 3]),(54,[some 0,some 1,some 2,some 3]),(55,[some 0,some 1,some 2,some 3,some 4]),(56,[some 0,some 1,some 2,some 3,some 4]),(82,[some 0,some 1]),(83,[some 0,some 1]),(84,[some 0,some 3]),(85,[some 0,some 3]),(86,[some 0,some 1]),(87,[some 0,some 1]),(90,[some 0]),(91,[some 0]),(101,[some 0,some 1,some 3,some 5,some 7,some 8]),(102,[some 0,some 1,some 3,some 5,some 7,some 8]),(103,[some 0,some 1]),(104,[some 0,some 1]),(106,[some 0,some 1]),(107,[some 0,some 1]),(124,[some 0,some 1]),(125,[some 0,some 1]),(129,[some 0,some 2,some 3]),(130,[some 0,some 2,some 3]),(143,[some 0]),(169,[some 0]),(170,[some 0]),(206,[some 0,some 11,some 12]),(207,[some 0,some 11,some 12]),(212,[some 0,some 7,some 10,some 11,some 12,some 13]),(213,[some 0,some 7,some 10,some 11,some 12,some 13]),(217,[some 0,some 1]),(218,[some 0,some 1]),(231,[some 0,some 1]),(232,[some 0,some 1]),(252,[some 0,some 1,some 2]),(253,[some 0,some 1,some 2]),(255,[some 0,some 1,some 2]),(256,[some 0,some 1,some 2]),(291,[some 0,some 1,some 2,some 3,some 4,some 5,some 6,some 7,some 8,some 9,some 10]),(292,[some 0,some 1,some 2,some 3,some 4,some 5,some 6,some 7,some 8,some 9,some 10])],[22,25,26,29,30,33,34,38,41,51,61,105,139,190,195,209,210,211,230,240,251]⟩
theorem qK:lD Tryz.prog TT:=Qa kr
theorem b_ {t:TypeId} {x:Bool×Nat} (h:TT.Jh t=some x:=by rfl):tK Tryz.prog t=some x:=qK.Jh h
theorem eD {s f k:Nat} (h:TT.foF s f=some k:=by rfl):sW Tryz.prog s f=some k:=qK.foF h
end
section
open Go.RowKit
/-- blocks that are read -/
def MM (C:List ay) (M:List (Nat×List Value)):Prop:= ∀ p∈M,∀ o vs,(p.2.drop o).take vs.length=vs→At C (some ⟨p.1,o,none⟩) vs
theorem I {C:List ay}:MM C []:=fun p h=>by cases h
theorem mc {C:List ay} {b t:Nat} {cs:List Value} {M:List (Nat×List Value)} (i:Nat) (hC:C[i]? =some (cp b t cs)) (h:MM C M):MM C ((b,cs)::M):=fun p hp o vs hv=>by
 rcases bR.1 hp with rfl|hp
 ·exact qm i hC hv
 ·exact h p hp o vs hv
theorem mr {C:List ay} {b t:Nat} {cs:List Value} {M:List (Nat×List Value)} (i:Nat) (hC:C[i]? =some (cp b t cs).ro) (h:MM C M):MM C ((b,cs)::M):=fun p hp o vs hv=>by
 rcases bR.1 hp with rfl|hp
 ·exact w4 i hC hv
 ·exact h p hp o vs hv
def p8:List Prop→Prop
 |[]=>True
 |p::l=>p∧p8 l
theorem ks {p:Prop} {l:List Prop} (h:p) (h2:p8 l):p8 (p::l):=⟨h,h2⟩
/-- the value of an operation, what it asks for, and what is left of the list of places -/
def pv (T:Dr) (ops:Array Oper) (M:List (Nat×List Value)) (L:dA) (hs:List Nat) (g:Option (Nat×Bool)) (op:Op):Option (Value×List Prop×List Nat):=
 match Dm ops L g with
 |true=>some (undef,[],hs)
 |false=>match j1 ops L g with
  |false=>none
  |true=>match op with
   | .move x=>match ev L x with
    |some v=>some (v,[],hs)
    |none=>none
   | .assign x=>match ev L x with
    |some v=>some (v,[],hs)
    |none=>none
   | .pick c x y=>match ev L c with
    |some (.bool true)=>match ev L x with
     |some v=>some (v,[],hs)
     |none=>none
    |some (.bool false)=>match ev L y with
     |some v=>some (v,[],hs)
     |none=>none
    |_=>none
   | .unOp .not _ x=>match ev L x with
    |some (.bool b)=>some (.bool !b,[],hs)
    |_=>none
   | .extract x i=>match ev L x with
    |some (.tuple vs)=>match vs.toList[i]? with
     |some v=>some (v,[],hs)
     |none=>none
    |_=>none
   | .fieldAddr s x f=>match ev L x with
    |some (.pointer (some ⟨b,o,none⟩))=>match T.foF s f with
     |some k=>some (.pointer (some ⟨b,o+k,none⟩),[],hs)
     |none=>none
    |_=>none
   | .binOp op _ x y _=>match ev L x with
    |some (.int .i64 a)=>match ev L y with
     |some (.int .i64 b)=>match op with
      | .lss=>some (.bool (decide (a<b)),[],hs)
      | .leq=>some (.bool (decide (a≤b)),[],hs)
      | .gtr=>some (.bool (decide (b<a)),[],hs)
      | .geq=>some (.bool (decide (b≤a)),[],hs)
      | .eql=>some (.bool (decide (a=b)),[],hs)
      | .neq=>some (.bool (!decide (a=b)),[],hs)
      | .add=>some (.int .i64 (a+b),[-9223372036854775808≤a+b,a+b≤9223372036854775807],hs)
      | .sub=>some (.int .i64 (a-b),[-9223372036854775808≤a-b,a-b≤9223372036854775807],hs)
      |_=>none
     |_=>none
    |_=>none
   | .load t x=>match ev L x with
    |some (.pointer (some ⟨b,o,none⟩))=>match M[hs.headD 0]? with
     |some (b',cs)=>match T.Jh t with
      |some (false,_)=>match cs[o]? with
       |some v=>some (v,[b'=b],hs.tail)
       |none=>none
      |some (true,n)=>match Nat.beq o 0 with
       |true=>match Nat.beq cs.length n with
        |true=>some (.agg cs.toArray,[b'=b],hs.tail)
        |false=>none
       |false=>none
      |none=>none
     |none=>none
    |_=>none
   | .call c=>match c with
    |{callee:= .builtin .len,args:=xs,argTypes:=ts}=>match xs.toList with
     |[x]=>match ts.toList with
      |[t]=>match ev L x with
       |some (.slice A n c)=>match LZ T.sl t with
        |true=>some (.int .i64 n,[],hs)
        |false=>none
       |_=>none
      |_=>none
     |_=>none
    |_=>none
   |_=>none
section
variable {E:fp} {T:Dr} {ops:Array Oper} {M:List (Nat×List Value)} {D:List Deferred} {L:List (Nat×Value)} {C:List ay} {hs hs':List Nat}
theorem wc {cs:List Value} {o:Nat} {v:Value} (h:cs[o]? =some v):(cs.drop o).take [v].length=[v]:=by
 obtain ⟨hl,rfl⟩:=aZ.1 h
 rw [List.drop_eq_getElem_cons hl]; rfl
theorem Rs {o:Oper} {v:Value} {S:List Prop} (hT:lD E.P T) (hM:MM C M) (h:pv T ops M L hs o.guard o.op=some (v,S,hs')) (hS:p8 S):SD E ops o D L C v:=by
 obtain ⟨dst,op,ty,ps,af,g⟩:=o
 unfold pv at h
 simp only at h
 split at h
 ·rename_i hg
  cases h
  exact Im hg
 ·split at h
  ·cases h
  ·rename_i hg
   split at h
   ·split at h
    ·rename_i hx; cases h; exact F6 hg hx
    ·cases h
   ·split at h
    ·rename_i hx; cases h; exact zg hg hx
    ·cases h
   ·split at h
    ·rename_i hc
     split at h
     ·rename_i hx; cases h; exact zr hg hc hx
     ·cases h
    ·rename_i hc
     split at h
     ·rename_i hx; cases h; exact zp hg hc hx
     ·cases h
    ·cases h
   ·split at h
    ·rename_i hx; cases h; exact Ix hg hx
    ·cases h
   ·split at h
    ·rename_i vs hx
     split at h
     ·rename_i v' hv; cases h; exact yJ (vs:=vs.toList) hg (by simpa using hx) hv
     ·cases h
    ·cases h
   ·split at h
    ·rename_i hx
     split at h
     ·rename_i hk; cases h; exact OR hg hx (hT.foF hk) rfl
     ·cases h
    ·cases h
   ·split at h
    ·rename_i hx
     split at h
     ·rename_i hy
      split at h
      ·cases h; exact gn hg hx hy qB
      ·cases h; exact gn hg hx hy SK
      ·cases h; exact gn hg hx hy FI
      ·cases h; exact gn hg hx hy Fl
      ·cases h; exact gn hg hx hy lZ
      ·cases h; exact gn hg hx hy ky
      ·cases h; exact gn hg hx hy (kx ⟨hS.1,hS.2.1⟩)
      ·cases h; exact gn hg hx hy (uA ⟨hS.1,hS.2.1⟩)
      ·cases h
     ·cases h
    ·cases h
   ·split at h
    ·rename_i hx
     split at h
     ·rename_i b' cs hm
      have A:=aP hm
      split at h
      ·rename_i hk
       split at h
       ·rename_i hv
        cases h
        obtain rfl:=hS.1
        exact vy hg hx (hT.Jh hk) (hM _ A _ _ (wc hv))
       ·cases h
      ·rename_i n hk
       split at h
       ·rename_i ho
        split at h
        ·rename_i hn
         cases h
         obtain rfl:=hS.1
         have H:=Nat.eq_of_beq_eq_true ho
         subst H
         exact yl hg hx (hT.Jh hk) (hM _ A 0 cs sm) (Nat.eq_of_beq_eq_true hn)
        ·cases h
       ·cases h
      ·cases h
     ·cases h
    ·cases h
   ·split at h
    ·rename_i xs ts
     split at h
     ·rename_i x G
      split at h
      ·rename_i t F
       split at h
       ·rename_i hx
        split at h
        ·rename_i B
         cases h
         obtain ⟨e,he⟩:=hT.sl t (BC B)
         have AA:xs= #[x]:=by apply Array.ext'; simpa using G
         have J:ts= #[t]:=by apply Array.ext'; simpa using F
         subst AA J
         exact KX hg hx he
        ·cases h
       ·cases h
      ·cases h
     ·cases h
    ·cases h
   ·cases h
def pr (T:Dr) (n:Nat) (ops:Array Oper) (M:List (Nat×List Value)):Nat→List Nat→dA→List Oper→Option (dA×List Oper×List Prop)
 |0,_,L,rest=>some (L,rest,[])
 |k+1,hs,L,[]=>none
 |k+1,hs,L,o::rest=>match o.dst with
  |none=>none
  |some d=>match Nat.blt d n with
   |false=>none
   |true=>match pv T ops M L hs o.guard o.op with
    |none=>none
    |some (v,S,hs')=>match pr T n ops M k hs' ((d,v)::L) rest with
     |none=>none
     |some (L',rest',S')=>some (L',rest',S++S')
theorem xP: ∀ {S S':List Prop},p8 (S++S')→p8 S∧p8 S'
 |[],S',h=>⟨trivial,h⟩
 |p::S,S',h=>⟨⟨h.1,(xP h.2).1⟩,(xP h.2).2⟩
/-- whatever is closed under single steps -/
theorem KZ {J:List Oper→dA→Prop} (hT:lD E.P T) (hM:MM C M) (hJ: ∀ o rest L d v,SD E ops o D L C v→o.dst=some d→Nat.blt d E.n=true→J rest ((d,v)::L)→J (o::rest) L):
 ∀ (k:Nat) (hs:List Nat) (L:dA) (rest:List Oper) {L':dA} {rest':List Oper} {S:List Prop},pr T E.n ops M k hs L rest=some (L',rest',S)→p8 S→J rest' L'→J rest L
 |0,hs,L,rest,L',rest',S,h,hS,hj=>by
  unfold pr at h
  cases h
  exact hj
 |k+1,hs,L,[],L',rest',S,h,hS,hj=>by unfold pr at h; cases h
 |k+1,hs,L,o::rest,L',rest',S,h,hS,hj=>by
  unfold pr at h
  split at h
  ·cases h
  ·rename_i d hd
   split at h
   ·cases h
   ·rename_i hn
    split at h
    ·cases h
    ·rename_i v S1 A hv
     split at h
     ·cases h
     ·rename_i L1 G S2 hr
      cases h
      obtain ⟨B,F⟩:=xP hS
      exact hJ o rest L d v (Rs hT hM hv B) hd hn (KZ hT hM hJ k A _ rest hr F hj)
variable {Q:dv} {rest rest':List Oper} {L0 L':List (Nat×Value)} {S:List Prop} {F:List (Nat×Value)→Prop}
/-- a run of operations, one after the other -/
theorem rP (k:Nat) (hs:List Nat) (hM:MM C M) (j:RJ E ops Q rest' D L' C) (hT:lD E.P T:=by exact qK) (h:pr T E.n ops M k hs L rest=some (L0,rest',S):=by rfl) (hL:L0=L':=by (try dsimp only)<;>rfl) (hS:p8 S:=by repeat' first|exact True.intro |refine ks ?_ ?_ |exact rfl|omega|(dsimp only; omega)):RJ E ops Q rest D L C:=by
 subst hL
 exact KZ (J:=fun r L=>RJ E ops Q r D L C) hT hM (fun o rest L d v A B F G=>Rw A B F G) k hs L rest h hS j
theorem dP (k:Nat) (hs:List Nat) (hM:MM C M) (j:DJ E ops D C F rest' L') (hT:lD E.P T:=by exact qK) (h:pr T E.n ops M k hs L rest=some (L0,rest',S):=by rfl) (hL:L0=L':=by (try dsimp only)<;>rfl) (hS:p8 S:=by repeat' first|exact True.intro |refine ks ?_ ?_ |exact rfl|omega|(dsimp only; omega)):DJ E ops D C F rest L:=by
 subst hL
 exact KZ (J:=fun r L=>DJ E ops D C F r L) hT hM (fun o rest L d v A B G H=>R_ A B G H) k hs L rest h hS j
end
section
variable {P:Program} {r:Option Nat} {n:Nat} {B:BS} {w0:World} {ops:Array Oper} {M:List (Nat×List Value)} {D:List Deferred} {L L':List (Nat×Value)} {C:List ay} {Q:dv} {rest rest':List Oper} {S:List Prop} {F:List (Nat×Value)→Prop}
theorem eV (k:Nat) (hs:List Nat) (hM:MM C M) (h:pr TT n ops M k hs L rest=some (L',rest',S)) (j:RJ ⟨P,r,n,B,w0⟩ ops Q rest' D L' C) (hS:p8 S:=by repeat' first|exact True.intro |refine ks ?_ ?_ |exact rfl|omega|(dsimp only; omega)) (hT:lD P TT:=by exact qK):RJ ⟨P,r,n,B,w0⟩ ops Q rest D L C:=rP k hs hM j hT h rfl hS
theorem lz (k:Nat) (hs:List Nat) (hM:MM C M) (h:pr TT n ops M k hs L rest=some (L',rest',S)) (j:DJ ⟨P,r,n,B,w0⟩ ops D C F rest' L') (hS:p8 S:=by repeat' first|exact True.intro |refine ks ?_ ?_ |exact rfl|omega|(dsimp only; omega)) (hT:lD P TT:=by exact qK):DJ ⟨P,r,n,B,w0⟩ ops D C F rest L:=dP k hs hM j hT h rfl hS
theorem bE (k:Nat) (h:pr TT n ops [] k [] L rest=some (L',rest',S)) (j:RJ ⟨P,r,n,B,w0⟩ ops Q rest' D L' C) (hS:p8 S:=by repeat' first|exact True.intro |refine ks ?_ ?_ |exact rfl|omega|(dsimp only; omega)) (hT:lD P TT:=by exact qK):RJ ⟨P,r,n,B,w0⟩ ops Q rest D L C:=rP k [] I j hT h rfl hS
theorem kE (k:Nat) (h:pr TT n ops [] k [] L rest=some (L',rest',S)) (j:DJ ⟨P,r,n,B,w0⟩ ops D C F rest' L') (hS:p8 S:=by repeat' first|exact True.intro |refine ks ?_ ?_ |exact rfl|omega|(dsimp only; omega)) (hT:lD P TT:=by exact qK):DJ ⟨P,r,n,B,w0⟩ ops D C F rest L:=dP k [] I j hT h rfl hS
end
end
section
open Go.RowKit
/-- parts of a context, reckoned to the end -/
def oD (C:List ay):List Nat→Option (List ay)
 |[]=>some []
 |i::is=>match C[i]? with
  |some A=>match oD C is with
   |some l=>some (A::l)
   |none=>none
  |none=>none
theorem nv {C:List ay}: ∀ {is:List Nat} {C':List ay},oD C is=some C'→j0 C is=C'
 |[],C',h=>by cases h; rfl
 |i::is,C',h=>by
  unfold oD at h
  split at h
  ·rename_i A hA
   split at h
   ·rename_i l hl
    cases h
    show List.filterMap (C[·]?) (i::is)=A::l
    rw [List.filterMap_cons_some hA]
    exact congrArg _ (nv hl)
   ·cases h
  ·cases h
/-- a part of a context in place of the whole -/
theorem aQ {S:BS} {w0:World} {C C':List ay} (is:List Nat) (hn:decide is.Nodup=true:=by rfl) (hC:j0 C is=C':=by rfl): ∀ w,St S w0 C w→St S w0 C' w:=fun w h=>St.j0 is hn hC h
theorem TL {S:BS} {w0:World} {C C':List ay} (is:List Nat) (hC:oD C is=some C') (hn:decide is.Nodup=true:=by rfl): ∀ w,St S w0 C w→St S w0 C' w:=fun w h=>St.j0 is hn (nv hC) h
def Ow (C:List ay) (i:Nat) (B:ay):Option (List ay):=match i,C with
 |0,_::C=>some (B::C)
 |i+1,A::C=>match Ow C i B with
  |some l=>some (A::l)
  |none=>none
 |_,[]=>none
theorem FO: ∀ {C:List ay} {i:Nat} {B:ay} {C':List ay},Ow C i B=some C'→C.set i B=C'
 |[],0,B,C',h=>by cases h
 |[],i+1,B,C',h=>by cases h
 |A::C,0,B,C',h=>by cases h; rfl
 |A::C,i+1,B,C',h=>by
  unfold Ow at h
  split at h
  ·rename_i l hl
   cases h
   exact congrArg _ (FO hl)
  ·cases h
theorem rD {E:fp} {K:Act→World→Prop} {D:g8} {L:dA} {C C':List ay} {A B:ay} (i:Nat) (hC:C[i]? =some A) (hh:(∀ w,A.holds w→B.holds w)∧(∀ b,B.fI b→A.fI b)∧ ∀ b,B.wf b→A.wf b) (hC':Ow C i B=some C') (h:KJ E K D L C'):KJ E K D L C:=LC i hC hh (FO hC') h
/-- the operations of a region but these; marks of some places -/
def Uv (n:Nat) (T:List Nat):List Nat:=(List.range n).filter fun i=> !T.contains i
def Wz (k:Nat) (t:List Nat):List Bool:=(List.range k).map fun i=>t.contains i
theorem dy {E:fp} {id:Nat} {ops:Array Oper} {Q:dv} {D:g8} {L:dA} {C:List ay} (hm:E.P.follows .mixedOrders=true) (T fe tb i1 i2:List Nat) {C' C1:List ay} {free:List Nat} {feb tbb:List Bool}
 (h1:oD C i1=some C') (h2:oD C i2=some C1) (hf:free=Uv ops.size T) (hfe:feb=Wz free.length fe) (htb:tbb=Wz T.length tb)
 (h:qV E ops D C' C1 (fun L'=>TJ E ops D C' C1 (fun L C=>KJ E (Q .normal) D L C) tbb (e9 ops T) L' C) feb (e9 ops free) L)
 (hc:Oi ops free T feb tbb=true:=by kernel_rfl) (n1:decide i1.Nodup=true:=by rfl) (n2:decide i2.Nodup=true:=by rfl):WJ E (.region id ops true) Q D L C:=
 MR hm free T feb tbb C' C1 hc (TL i1 h1 n1) (TL i2 h2 n2) h
end
section
open Go.RowKit
def wQ (T:Dr) (M:List (Nat×List Value)) (L:dA):List ResultVar→List Nat→Option (List Value×List Prop)
 |[],_=>some ([],[])
 | .tmp t::rs,hs=>match L.lookup t with
  |some v=>match wQ T M L rs hs with
   |some (vs,S)=>some (v::vs,S)
   |none=>none
  |none=>none
 | .cell a t::rs,hs=>match L.lookup a with
  |some (.pointer (some ⟨b,o,none⟩))=>match M[hs.headD 0]? with
   |some (b',cs)=>match T.Jh t with
    |some (false,_)=>match cs[o]? with
     |some v=>match wQ T M L rs hs.tail with
      |some (vs,S)=>some (v::vs,(b'=b)::S)
      |none=>none
     |none=>none
    |some (true,n)=>match Nat.beq o 0 with
     |true=>match Nat.beq cs.length n with
      |true=>match wQ T M L rs hs.tail with
       |some (vs,S)=>some (.agg cs.toArray::vs,(b'=b)::S)
       |none=>none
      |false=>none
     |false=>match wQ T M L rs hs.tail with
      |some (vs,S)=>some (.agg ((cs.drop o).take n).toArray::vs,(b'=b)::(((cs.drop o).take n).length=n)::S)
      |none=>none
    |none=>none
   |none=>none
  |_=>none
theorem oR {P:Program} {T:Dr} {M:List (Nat×List Value)} {L:dA} {C:List ay} (hT:lD P T) (hM:MM C M): ∀ (rs:List ResultVar) (hs:List Nat) {vs:List Value} {S:List Prop},wQ T M L rs hs=some (vs,S)→p8 S→GN P L C rs vs
 |[],_,vs,S,h,hS=>by unfold wQ at h; cases h; exact trivial
 | .tmp t::rs,hs,vs,S,h,hS=>by
  unfold wQ at h
  split at h
  ·rename_i v hv
   split at h
   ·rename_i vs' S' hr
    cases h
    exact ⟨hv,oR hT hM rs hs hr hS⟩
   ·cases h
  ·cases h
 | .cell a t::rs,hs,vs,S,h,hS=>by
  unfold wQ at h
  split at h
  ·rename_i b o hl
   split at h
   ·rename_i b' cs hm
    have A:=aP hm
    split at h
    ·rename_i hk
     split at h
     ·rename_i v hv
      split at h
      ·rename_i vs' S' hr
       cases h
       obtain ⟨rfl,hS⟩:=hS
       exact ⟨⟨_,hl,.inr ⟨_,hT.Jh hk,hM _ A _ _ (wc hv)⟩⟩,oR hT hM rs _ hr hS⟩
      ·cases h
     ·cases h
    ·rename_i n hk
     split at h
     ·rename_i ho
      split at h
      ·rename_i hn
       split at h
       ·rename_i vs' S' hr
        cases h
        obtain ⟨rfl,hS⟩:=hS
        have D:=Nat.eq_of_beq_eq_true ho
        subst D
        exact ⟨⟨_,hl,.inl ⟨_,cs,hT.Jh hk,hM _ A 0 cs sm,Nat.eq_of_beq_eq_true hn,U⟩⟩,oR hT hM rs _ hr hS⟩
       ·cases h
      ·cases h
     ·split at h
      ·rename_i vs' S' hr
       cases h
       obtain ⟨rfl,B,hS⟩:=hS
       exact ⟨⟨_,hl,.inl ⟨_,_,hT.Jh hk,hM _ A o _ (by rw [B]),B,U⟩⟩,oR hT hM rs _ hr hS⟩
      ·cases h
    ·cases h
   ·cases h
  ·cases h
section
variable {P:Program} {n:Nat} {fn:Func} {w0:World} {K:Act→World→Prop} {L:List (Nat×Value)} {C:List ay} {M:List (Nat×List Value)} {vs:List Value} {S:List Prop} {u x v:Value}
theorem Dn (hQ: ∀ D L C,LJ ⟨P,none,n,tW,w0⟩ fn (AI w0 v) D L C→KJ ⟨P,none,n,tW,w0⟩ K D L C) (hs:List Nat) (hM:MM C M) (h:wQ TT M L fn.results.toList hs=some ([u],S)) (e:u=v) (hS:p8 S:=by repeat' first|exact True.intro |refine ks rfl ?_) (hT:lD P TT:=by exact qK):KJ ⟨P,none,n,tW,w0⟩ K [] L C:=
 hQ _ _ _ (jW (oR hT hM _ _ h hS) fun w hs=>BZ e hs)
theorem mj (hQ: ∀ D L C,LJ ⟨P,none,n,tW,w0⟩ fn (AI w0 v) D L C→KJ ⟨P,none,n,tW,w0⟩ K D L C) (hs:List Nat) (hM:MM C M) (h:wQ TT M L fn.results.toList hs=some (u::x::vs,S)) (e:Value.tuple (u::x::vs).toArray=v) (hS:p8 S:=by repeat' first|exact True.intro |refine ks rfl ?_) (hT:lD P TT:=by exact qK):KJ ⟨P,none,n,tW,w0⟩ K [] L C:=
 hQ _ _ _ (jW (oR hT hM _ _ h hS) fun w hs=>BZ e hs)
theorem LX {α:Type} {V:α→Value} {p:α→Prop} {N:α→List ay} (hQ: ∀ D L C,LJ ⟨P,none,n,tW,w0⟩ fn (Ll w0 V p N) D L C→KJ ⟨P,none,n,tW,w0⟩ K D L C) (x:α) (is hs:List Nat) (hM:MM C M) (h:wQ TT M L fn.results.toList hs=some (vs,S)) (hw:(N x).all (·.wr)=true) (hN:j0 C is=N x) (hV:Rc vs=V x) (hp:p x) (hn:decide is.Nodup=true:=by rfl) (hS:p8 S:=by repeat' first|exact True.intro |refine ks rfl ?_) (hT:lD P TT:=by exact qK):KJ ⟨P,none,n,tW,w0⟩ K [] L C:=
 hQ _ _ _ (jW (oR hT hM _ _ h hS) fun w hs=>QJ x is hV hp hn hN hw hs)
theorem LM {A:ay} {α:Type} {V:α→Value} {p:α→Prop} {A':α→ay} (hQ: ∀ D L C,LJ ⟨P,none,n,⟨A.wf,fun _=>True⟩,w0⟩ fn (M6 w0 A V p A') D L C→KJ ⟨P,none,n,⟨A.wf,fun _=>True⟩,w0⟩ K D L C) (x:α) (i:Nat) (hs:List Nat) (hM:MM C M) (h:wQ TT M L fn.results.toList hs=some (vs,S)) (hw:(A' x).wr=true) (hC:C[i]? =some (A' x)) (hV:Rc vs=V x) (hp:p x) (hS:p8 S:=by repeat' exact True.intro) (hT:lD P TT:=by exact qK):KJ ⟨P,none,n,⟨A.wf,fun _=>True⟩,w0⟩ K [] L C:=
 hQ _ _ _ (jW (oR hT hM _ _ h hS) fun w hs=>S5 x i hV hp hC hw hs)
end
end
section
open Go.RowKit
def EV {α:Type _}:List α→List α→Option (List α)
 |[],m=>some m
 |a::l,m=>match EV l m with
  |some r=>some (a::r)
  |none=>none
theorem F0 {α:Type _}: ∀ {l m r:List α},EV l m=some r→l++m=r
 |[],m,r,h=>by cases h; rfl
 |a::l,m,r,h=>by
  unfold EV at h
  split at h
  ·rename_i r' hr
   cases h
   exact congrArg (a:: ·) (F0 hr)
  ·cases h
def Uj (L:dA):List Nat→Option (dA)
 |[]=>some []
 |t::ts=>match L.lookup t with
  |some v=>match Uj L ts with
   |some r=>some ((t,v)::r)
   |none=>none
  |none=>none
theorem Gb {L M:dA} (k:dG L M): ∀ {ts:List Nat} {r:dA},Uj L ts=some r→dG L (r++M)
 |[],r,h=>by cases h; exact k
 |t::ts,r,h=>by
  unfold Uj at h
  split at h
  ·rename_i v hv
   split at h
   ·rename_i r' hr
    cases h
    exact dG.cons hv (Gb k hr)
   ·cases h
  ·cases h
section
variable {E:fp} {Q:dv} {D:List Deferred} {L L0:List (Nat×Value)} {C C0:List ay} {ι:Type} {Li:ι→List (Nat×Value)} {Ci:ι→List ay}
theorem bZ {c:Code} (kL kC:List Nat) (hL:Uj L kL=some L0) (hC0:oD C kC=some C0) (S:ι→dA) (G:ι→List ay) (hLi: ∀ x,EV L0 (S x)=some (Li x)) (hCi: ∀ x,EV C0 (G x)=some (Ci x)) (μ:ι→Nat) (x0:ι)
 (h0:dG L (S x0)) (hC: ∀ w,St E.S E.w0 C w→St E.S E.w0 (Ci x0) w)
 (round: ∀ x (J:Act→World→Prop),(∀ y D' L' C',D'=D→μ y<μ x→dG L' (Li y)→(∀ w,St E.S E.w0 C' w→St E.S E.w0 (Ci y) w)→KJ E J D' L' C')→WJ E c (Exit.then J Q) D (Li x) (Ci x)):WJ E (.loop c) Q D L C:=
 Qy Li Ci μ x0 (F0 (hLi x0)▸Gb h0 hL) hC round
theorem kW {x y:Code} (kL kC:List Nat) (hL:Uj L kL=some L0) (hC0:oD C kC=some C0) (S:ι→dA) (G:ι→List ay) (hLi: ∀ x,EV L0 (S x)=some (Li x)) (hCi: ∀ x,EV C0 (G x)=some (Ci x))
 (hy: ∀ z,WJ E y Q D (Li z) (Ci z)) (h: ∀ K:Act→World→Prop,(∀ z,KJ E K D (Li z) (Ci z))→WJ E x (Exit.then K Q) D L C):WJ E (.seq x y) Q D L C:=Pf Li Ci hy h
end
end
section
open Go.RowKit
set_option linter.unusedSectionVars false
/-- what is asked of keys -/
structure vu (P:Program) (kt:Nat) {K:Type} (kV:K→Value):Prop where
 check: ∀ (e:Bool) (x:K) (w:World),(Instr.checkKey e 10000 kt (kV x)).run P w= .ok () w
 find: ∀ (x:K) (w:World) (es:List MapEntry),(∀ e∈es,∃ k,e.key=kV k)→
  ((Instr.findKey kt (kV x) es).run P w= .ok none w∧ ∀ e∈es,e.key≠kV x)∨ ∃ j e,(Instr.findKey kt (kV x) es).run P w= .ok (some (j,e.val)) w∧es[j]? =some e∧e.key=kV x
 bits: ∀ x,Instr.sameBits 10000 (kV x) (kV x)=true
 inj: ∀ x y,kV x=kV y→x=y
section
variable {K:Type} [DecidableEq K] {kV:K→Value}
def ew {β:Type} (l:List (K×β)) (x:K) (y:β):List (K×β):=if (l.lookup x).isSome then l.map (fun p=>if p.1=x then (x,y) else p) else l++[(x,y)]
def fy {β:Type} (l:List (K×β)) (x:K):List (K×β):=l.filter fun p=> !decide (p.1=x)
def cT {β γ:Type} (f:β→γ) (l:List (K×β)):List (K×γ):=l.map fun p=>(p.1,f p.2)
theorem nB {β γ:Type} (f:β→γ) (x:K): ∀ l:List (K×β),(cT f l).lookup x=(l.lookup x).map f
 |[]=>rfl
 |p::l=>by
  obtain ⟨k,v⟩:=p
  have ih:=nB f x l
  by_cases h:x=k
  ·subst h; simp [cT,List.lookup]
  ·have:(x==k)=false:=by simpa using h
   simp only [cT,List.map_cons,List.lookup,this] at ih ⊢
   exact ih
theorem gN {β γ:Type} (f:β→γ) (l:List (K×β)) (x:K) (y:β):cT f (ew l x y)=ew (cT f l) x (f y):=by
 unfold ew
 rw [nB,Option.isSome_map]
 split
 ·simp only [cT,List.map_map]
  refine List.map_congr_left fun p _=>?_
  simp only [Function.comp]
  split<;>rfl
 ·simp [cT]
theorem ou {β γ:Type} (f:β→γ) (l:List (K×β)) (x:K):cT f (fy l x)=fy (cT f l) x:=by
 unfold fy cT
 rw [List.filter_map]
 rfl
theorem im {β:Type} {x:K}: ∀ {l:List (K×β)},l.lookup x=none↔ ∀ p∈l,p.1≠x
 |[]=>by simp
 |p::l=>by
  obtain ⟨k,v⟩:=p
  by_cases h:x=k
  ·subst h; simp [List.lookup]
  ·have hb:(x==k)=false:=by simpa using h
   simp only [List.lookup,hb,bR,forall_eq_or_imp]
   rw [im (l:=l)]
   exact ⟨fun q=>⟨fun e=>h e.symm,q⟩,fun q=>q.2⟩
theorem lk {β:Type} {x:K} {y:β}: ∀ {l:List (K×β)},(l.map (·.1)).Nodup→((x,y)∈l↔l.lookup x=some y)
 |[],_=>by simp
 |p::l,hn=>by
  obtain ⟨k,v⟩:=p
  simp only [List.map_cons,List.nodup_cons] at hn
  by_cases h:x=k
  ·subst h
   simp only [List.lookup,beq_self_eq_true,bR,Prod.mk.injEq,true_and,Option.some.injEq]
   constructor
   ·rintro (e|e)
    ·exact e.symm
    ·exact absurd (cR.2 ⟨_,e,U⟩) hn.1
   ·intro e; exact .inl e.symm
  ·have hb:(x==k)=false:=by simpa using h
   simp only [List.lookup,hb,bR,Prod.mk.injEq,h,false_and,false_or]
   exact lk hn.2
structure jo (kV:K→Value) (es:Array MapEntry) (c:Nat) (m:List (K×Value)):Prop where
 list:es.toList.map (fun (e:MapEntry)=>(e.key,e.val))=m.map (fun p=>(kV p.1,p.2))
 keys:(m.map (·.1)).Nodup
 PN: ∀ e∈es.toList,e.born<c
 born:(es.toList.map (·.born)).Nodup
def kh (kV:K→Value) (b:Nat) (m:List (K×Value)):ay where
 fI k:=k=b
 wf k:=k=b
 holds w:= ∃ es c,w.heap[b]? =some (.map es c)∧jo kV es c m
 wr:=true
 kR _ h:=h
 whole _ _ h:=h
 lt w h k hk:=by obtain ⟨es,c,he,_⟩:=h; exact hk▸eu he
 pw w w' hk h:=by obtain ⟨es,c,he,hm⟩:=h; exact ⟨es,c,(hk b rfl).trans he,hm⟩
theorem jo.nil:jo kV #[] 0 []:=⟨rfl,List.nodup_nil,sm,List.nodup_nil⟩
theorem jo.size {es:Array MapEntry} {c:Nat} {m:List (K×Value)} (h:jo kV es c m):es.size=m.length:=by
 have:=congrArg List.length h.list
 simpa using this
theorem DL {P:Program} {kt:Nat} (hk:vu P kt kV) (x:K): ∀ (es:List MapEntry) (m:List (K×Value)),es.map (fun (e:MapEntry)=>(e.key,e.val))=m.map (fun p=>(kV p.1,p.2))→
 ((∀ e∈es,e.key≠kV x)→m.lookup x=none)∧ ∀ (j:Nat) (e:MapEntry),es[j]? =some e→e.key=kV x→m[j]? =some (x,e.val):=by
 intro es m h
 refine ⟨fun hn=>im.2 fun p hp e=>?_,fun j e he hx=>?_⟩
 ·have:(kV p.1,p.2)∈es.map (fun (e:MapEntry)=>(e.key,e.val)):=by rw [h]; exact cR.2 ⟨p,hp,rfl⟩
  obtain ⟨z,hz,B⟩:=cR.1 this
  simp only [Prod.mk.injEq] at B
  exact hn z hz (by rw [B.1,e])
 ·have A:(es.map (fun (e:MapEntry)=>(e.key,e.val)))[j]? =some (e.key,e.val):=by rw [gf,he]; rfl
  rw [h,gf] at A
  cases hm:m[j]? with
  |none=>simp [hm] at A
  |some p=>
   simp only [hm,Option.map_some,Option.some.injEq,Prod.mk.injEq] at A
   have:=hk.inj _ _ (A.1.trans hx)
   obtain ⟨k,v⟩:=p
   simp only at this A
   rw [this,A.2]
theorem pg {P:Program} {w:World} {kt:Nat} {x:K} {es:Array MapEntry} {c:Nat} {m:List (K×Value)} (hk:vu P kt kV) (h:jo kV es c m):
 ((Instr.findKey kt (kV x) es.toList).run P w= .ok none w∧m.lookup x=none)∨
 ∃ j v,(Instr.findKey kt (kV x) es.toList).run P w= .ok (some (j,v)) w∧m[j]? =some (x,v)∧m.lookup x=some v:=by
 obtain ⟨D,E⟩:=DL hk x es.toList m h.list
 rcases hk.find x w es.toList (fun e he=>by
  have:(e.key,e.val)∈m.map (fun p=>(kV p.1,p.2)):=by rw [← h.list]; exact cR.2 ⟨e,he,rfl⟩
  obtain ⟨p,_,hp⟩:=cR.1 this
  simp only [Prod.mk.injEq] at hp
  exact ⟨p.1,hp.1.symm⟩) with ⟨A,B⟩|⟨j,e,A,B,C⟩
 ·exact .inl ⟨A,D B⟩
 ·have:=E j e B C
  exact .inr ⟨j,e.val,A,this,(lk h.keys).1 (aP this)⟩
theorem jd {P:Program} {w:World} {kt:Nat} {x:K} (hk:vu P kt kV) (e:Bool):(Instr.checkKey e 10000 kt (kV x)).run P w= .ok () w:=hk.check e x w
section
variable {E:fp} {ops:Array Oper} {Q:dv} {rest:List Oper} {D:List Deferred} {L:List (Nat×Value)} {C:List ay}
variable {dst:Option Tmp} {d:Nat} {ty:TypeId} {ps:String} {af:Array Edge} {g:Option (Nat×Bool)}
theorem mT {t:TypeId} (hg:j1 ops L g=true) (hd:Nat.blt d E.n=true) (k: ∀ b,RJ E ops Q rest D ((d,.map (some b))::L) (kh kV b []::C)):RJ E ops Q (⟨some d,.makeMap t none,ty,ps,af,g⟩::rest) D L C:=by
 intro a w B hs
 have hd':d<E.n:=by rw [← Nat.blt_eq]; exact hd
 unfold tg
 rw [if_pos (eJ B hg)]
 refine iX (v:= .map (some w.heap.size)) (w':=w.alloc (.map #[] 0)) sm ?_ ?_
 ·simp [execOp,Instr.makeMap,newObj,Sem.run]
 ·refine k _ _ _ (B.put hd' _) (hs.grow (dZ.alloc no w _) (N:=[kh kV w.heap.size []]) ⟨fun A hA=>?_,fun A hA b hb=>?_,List.pairwise_singleton _ _⟩)
  ·simp at hA; subst hA; exact ⟨#[],0,heap_alloc_new w _,jo.nil⟩
  ·simp at hA; subst hA; exact Nat.le_of_eq (Eq.symm hb)
theorem jo.push {es:Array MapEntry} {c:Nat} {m:List (K×Value)} (h:jo kV es c m) {x:K} (hx:m.lookup x=none) (v:Value):jo kV (es.push {key:=kV x,val:=v,born:=c}) (c+1) (m++[(x,v)]):=by
 refine ⟨by simp [h.list],?_,?_,?_⟩
 ·rw [List.map_append,List.nodup_append]
  refine ⟨h.keys,sm,fun a ha b hb=>?_⟩
  simp at hb; subst hb
  obtain ⟨p,hp,rfl⟩:=cR.1 ha
  exact im.1 hx p hp
 ·intro e he
  simp only [Array.toList_push,gu,cv] at he
  rcases he with he|rfl
  ·exact Nat.lt_succ_of_lt (h.PN e he)
  ·exact Nat.lt_succ_self _
 ·simp only [Array.toList_push,List.map_append,List.map_cons,List.map_nil]
  rw [List.nodup_append]
  refine ⟨h.born,sm,fun a ha b hb=>?_⟩
  simp at hb; subst hb
  obtain ⟨p,hp,rfl⟩:=cR.1 ha
  exact Nat.ne_of_lt (h.PN p hp)
theorem NC {m:List (K×Value)} {j:Nat} {x:K} {v0 v:Value} (hn:(m.map (·.1)).Nodup) (hj:m[j]? =some (x,v0)):m.map (fun p=>if p.1=x then (x,v) else p)=m.set j (x,v):=by
 refine List.ext_getElem? fun i=>?_
 rw [gf,List.getElem?_set]
 by_cases e:j=i
 ·subst e
  have hl:=(aZ.1 hj).1
  rw [hj]; simp [hl]
 ·rw [if_neg e]
  cases hi:m[i]? with
  |none=>rfl
  |some p=>
   simp only [Option.map_some]
   rw [if_neg]
   intro hp
   have B:(m.map (·.1))[i]? =some x:=by rw [gf,hi]; simp [hp]
   have C:(m.map (·.1))[j]? =some x:=by rw [gf,hj]; rfl
   have A:=(aZ.1 B).1
   exact e (((List.getElem?_inj A hn).1 (B.trans C.symm)).symm)
theorem jo.set {es:Array MapEntry} {c:Nat} {m:List (K×Value)} (h:jo kV es c m) {x:K} {j:Nat} {v0:Value} (hj:m[j]? =some (x,v0)) (hx:m.lookup x=some v0) (v:Value):
 jo kV (es.modify j fun e=>{e with key:=kV x,val:=v}) c (ew m x v):=by
 have C:ew m x v=m.set j (x,v):=by unfold ew; rw [hx]; simpa using NC h.keys hj
 have hl:=(aZ.1 hj).1
 have E:=h.size
 have A:j<es.size:=by omega
 have B:(es.modify j fun e=>{e with key:=kV x,val:=v}).toList=es.toList.set j {(es[j]) with key:=kV x,val:=v}:=by
  refine List.ext_getElem? fun i=>?_
  rw [Array.getElem?_toList,Array.getElem?_modify,List.getElem?_set]
  by_cases e:j=i
  ·subst e; simp [A]
  ·simp [e]
 have D:(es.toList.set j {(es[j]) with key:=kV x,val:=v}).map (·.born)=es.toList.map (·.born):=by
  rw [List.map_set]
  refine List.ext_getElem? fun i=>?_
  rw [List.getElem?_set]
  by_cases e:j=i
  ·subst e; simp [A]
  ·rw [if_neg e]
 refine ⟨?_,?_,?_,?_⟩
 ·rw [B,C,List.map_set,List.map_set,h.list]
 ·rw [C,List.map_set]
  have:(m.map (·.1)).set j x=m.map (·.1):=by
   refine List.ext_getElem? fun i=>?_
   rw [List.getElem?_set]
   by_cases e:j=i
   ·subst e; simp [hl]; simpa using (congrArg Prod.fst ((aZ.1 hj).2)).symm
   ·rw [if_neg e]
  simp only [this]
  exact h.keys
 ·intro e he
  rw [B] at he
  have hb:e.born∈(es.toList.set j {(es[j]) with key:=kV x,val:=v}).map (·.born):=cR.2 ⟨e,he,rfl⟩
  rw [D] at hb
  obtain ⟨e',he',hq⟩:=cR.1 hb
  rw [← hq]; exact h.PN e' he'
 ·rw [B,D]; exact h.born
/-- m[x] = y -/
theorem iR {t kt et:TypeId} {xm xk xv:Operand} {b:Nat} {x:K} {v:Value} {m m':List (K×Value)} {C':List ay} (i:Nat) (hg:j1 ops L g=true) (hm:ev L xm=some (.map (some b))) (hk:ev L xk=some (kV x)) (hv:ev L xv=some v)
 (ht:E.P.underlying t=some (.map kt et)) (hkt:vu E.P kt kV) (hC:C[i]? =some (kh kV b m)) (hm':ew m x v=m') (hC':C.set i (kh kV b m')=C') (k:RJ E ops Q rest D L C'):
 RJ E ops Q (⟨none,.mapUpdate t xm xk xv,ty,ps,af,g⟩::rest) D L C:=by
 subst hm' hC'
 intro a w A hs
 unfold tg
 rw [if_pos (eJ A hg)]
 obtain ⟨es,c,he,hi⟩:=hs.holds _ (aP hC)
 have B:(getObj b).run E.P w= .ok (.map es c) w:=MapKept.run_getObj_map he
 rcases pg (P:=E.P) (w:=w) (x:=x) hkt hi with ⟨AA,F⟩|⟨j,N,AA,F,J⟩
 ·refine sR (w':={w with heap:=w.heap.setIfInBounds b (.map (es.push {key:=kV x,val:=v,born:=c}) (c+1))}) sm ?_ ?_
  ·simp [execOp,A.ev hm,A.ev hk,A.ev hv,Instr.mapUpdate,run_underlying ht,B,jd hkt,AA,MapKept.run_setObj_map _ he]
  ·refine k _ _ ⟨A.defers,A.size,A.at_⟩ (hs.zw (b:=b) i hC U U (nJ _) (fun _ h=>h) ⟨_,_,pP he,?_⟩)
   have:ew m x v=m++[(x,v)]:=by unfold ew; rw [F]; rfl
   rw [this]; exact hi.push F v
 ·have M:=hi.size
  have G:j<es.size:=by have:=(aZ.1 F).1; omega
  have H:(es[j]).key=kV x:=by
   have:=congrArg (fun l=>l[j]?) hi.list
   simp [G,F] at this
   exact this.1
  refine sR (w':={w with heap:=w.heap.setIfInBounds b (.map (es.modify j fun e=>{e with key:=kV x,val:=v}) c)}) sm ?_ ?_
  ·simp [execOp,A.ev hm,A.ev hk,A.ev hv,Instr.mapUpdate,run_underlying ht,B,jd hkt,AA,MapKept.run_setObj_map _ he,Instr.keyThatStays,G,H,hkt.bits x]
  ·exact k _ _ ⟨A.defers,A.size,A.at_⟩ (hs.zw (b:=b) i hC U U (nJ _) (fun _ h=>h) ⟨_,_,pP he,hi.set F J v⟩)
theorem jo.del {es:Array MapEntry} {c:Nat} {m:List (K×Value)} (h:jo kV es c m) {x:K} {j:Nat} {v0:Value} (hj:m[j]? =some (x,v0)):jo kV (es.eraseIdxIfInBounds j) c (fy m x):=by
 have hl:=(aZ.1 hj).1
 have D:=h.size
 have A:j<es.size:=by omega
 have B:(es.eraseIdxIfInBounds j).toList=es.toList.eraseIdx j:=by simp [Array.eraseIdxIfInBounds,A]
 have E:fy m x=m.eraseIdx j:=by
  have hn:=h.keys
  clear h D A B
  induction m generalizing j with
  |nil=>simp at hj
  |cons p m ih=>
   obtain ⟨k,v⟩:=p
   simp only [List.map_cons,List.nodup_cons] at hn
   cases j with
   |zero=>
    simp at hj
    obtain ⟨rfl,rfl⟩:=hj
    simp only [fy,List.eraseIdx_zero,List.tail_cons]
    rw [List.filter_cons_of_neg sm]
    refine List.filter_eq_self.2 fun p hp=>?_
    have:p.1≠k:=fun e=>hn.1 (cR.2 ⟨p,hp,e⟩)
    simpa using this
   |succ j=>
    simp only [List.getElem?_cons_succ] at hj
    have C:k≠x:=fun e=>hn.1 (cR.2 ⟨_,aP hj,e.symm⟩)
    simp only [fy,List.eraseIdx_cons_succ] at ih ⊢
    rw [List.filter_cons_of_pos (by simpa using C),ih hj (by simpa using (aZ.1 hj).1) hn.2]
 have sub:(es.eraseIdxIfInBounds j).toList.Sublist es.toList:=by rw [B]; exact List.eraseIdx_sublist _ _
 refine ⟨?_,?_,fun e he=>h.PN e (sub.subset he),h.born.sublist (sub.map _)⟩
 ·rw [B,E,ChangeMaps.map_eraseIdx,ChangeMaps.map_eraseIdx,h.list]
 ·rw [E]; exact h.keys.sublist ((List.eraseIdx_sublist _ _).map _)
theorem Eu {m:List (K×Value)} {x:K} (h:m.lookup x=none):fy m x=m:=List.filter_eq_self.2 fun p hp=>by simpa using im.1 h p hp
/-- y, ok := m[x] -/
theorem Ii {t kt et:TypeId} {xm xk:Operand} {b:Nat} {x:K} {z:Value} {m:List (K×Value)} (hg:j1 ops L g=true) (hm:ev L xm=some (.map (some b))) (hk:ev L xk=some (kV x))
 (ht:E.P.underlying t=some (.map kt et)) (hkt:vu E.P kt kV) (hz:tV E.P et=some z) (hC:iJ C (kh kV b m).holds):
 SD E ops ⟨dst,.lookup t xm xk true,ty,ps,af,g⟩ D L C (.tuple [(m.lookup x).getD z,.bool (m.lookup x).isSome].toArray):=
 eL hg sm fun a w A hs=>by
  obtain ⟨es,c,he,hi⟩:=hs.has hC
  have B:(getObj b).run E.P w= .ok (.map es c) w:=MapKept.run_getObj_map he
  rcases pg (P:=E.P) (w:=w) (x:=x) hkt hi with ⟨F,G⟩|⟨j,AA,F,G,H⟩
  ·simp [execOp,Instr.lookup,A.ev hm,A.ev hk,run_underlying ht,B,jd hkt,F,G,IZ hz]
  ·simp [execOp,Instr.lookup,A.ev hm,A.ev hk,run_underlying ht,B,jd hkt,F,H]
/-- m[x] -/
theorem G4 {t kt et:TypeId} {xm xk:Operand} {b:Nat} {x:K} {z:Value} {m:List (K×Value)} (hg:j1 ops L g=true) (hm:ev L xm=some (.map (some b))) (hk:ev L xk=some (kV x))
 (ht:E.P.underlying t=some (.map kt et)) (hkt:vu E.P kt kV) (hz:tV E.P et=some z) (hC:iJ C (kh kV b m).holds):
 SD E ops ⟨dst,.lookup t xm xk false,ty,ps,af,g⟩ D L C ((m.lookup x).getD z):=
 eL hg sm fun a w A hs=>by
  obtain ⟨es,c,he,hi⟩:=hs.has hC
  have B:(getObj b).run E.P w= .ok (.map es c) w:=MapKept.run_getObj_map he
  rcases pg (P:=E.P) (w:=w) (x:=x) hkt hi with ⟨F,G⟩|⟨j,AA,F,G,H⟩
  ·simp [execOp,Instr.lookup,A.ev hm,A.ev hk,run_underlying ht,B,jd hkt,F,G,IZ hz]
  ·simp [execOp,Instr.lookup,A.ev hm,A.ev hk,run_underlying ht,B,jd hkt,F,H]
theorem tD {β:Type} {t kt et:TypeId} {xm xk:Operand} {b:Nat} {x:K} {f:β→Value} {z:β} {l:List (K×β)} (hg:j1 ops L g=true) (hm:ev L xm=some (.map (some b))) (hk:ev L xk=some (kV x))
 (ht:E.P.underlying t=some (.map kt et)) (hkt:vu E.P kt kV) (hz:tV E.P et=some (f z)) (hC:iJ C (kh kV b (cT f l)).holds):
 SD E ops ⟨dst,.lookup t xm xk true,ty,ps,af,g⟩ D L C (.tuple [f ((l.lookup x).getD z),.bool (l.lookup x).isSome].toArray):=by
 have:=Ii (dst:=dst) (ty:=ty) (ps:=ps) (af:=af) (D:=D) hg hm hk ht hkt hz hC
 rw [nB] at this
 have A:((l.lookup x).map f).getD (f z)=f ((l.lookup x).getD z):=by cases l.lookup x<;>rfl
 rw [A,Option.isSome_map] at this
 exact this
theorem wB {β:Type} {t kt et:TypeId} {xm xk:Operand} {b:Nat} {x:K} {f:β→Value} {z:β} {l:List (K×β)} (hg:j1 ops L g=true) (hm:ev L xm=some (.map (some b))) (hk:ev L xk=some (kV x))
 (ht:E.P.underlying t=some (.map kt et)) (hkt:vu E.P kt kV) (hz:tV E.P et=some (f z)) (hC:iJ C (kh kV b (cT f l)).holds):
 SD E ops ⟨dst,.lookup t xm xk false,ty,ps,af,g⟩ D L C (f ((l.lookup x).getD z)):=by
 have:=G4 (dst:=dst) (ty:=ty) (ps:=ps) (af:=af) (D:=D) hg hm hk ht hkt hz hC
 rw [nB] at this
 have A:((l.lookup x).map f).getD (f z)=f ((l.lookup x).getD z):=by cases l.lookup x<;>rfl
 rw [A] at this
 exact this
end
theorem mR {β:Type} {x:K} {y:β} {l:List (K×β)} (h:(x,y)∈l):(fy l x).length<l.length:=by
 unfold fy
 exact List.length_filter_lt_length_iff_exists.2 ⟨_,h,sm⟩
theorem zh {β:Type} {x:K} {p:K×β} {l:List (K×β)}:p∈fy l x↔p∈l∧p.1≠x:=by simp [fy]
/-- an iterator over a map: what is left; what came last -/
def Af (kV:K→Value) (r b:Nat) (m left:List (K×Value)) (cur:Option (K×Value)):ay where
 fI k:=k=r∨k=b
 wf k:=k=r∨k=b
 holds w:=r≠b∧ ∃ (es:Array MapEntry) (c since:Nat) (seen:Array Nat) (st:Nat),w.heap[b]? =some (.map es c)∧jo kV es c m∧w.heap[r]? =some (.mapIter (some b) since seen st)∧(∀ e∈es.toList,e.born<since)∧since≤st∧since≤c∧
  (leftOf es seen).toList.map (fun (e:MapEntry)=>(e.key,e.val))=left.map (fun p=>(kV p.1,p.2))∧
  ∀ p,cur=some p→ ∃ (e:MapEntry) (seen0:Array Nat),e∈es.toList∧seen=seen0.push e.born∧st=c∧e.key=kV p.1∧e.val=p.2
 wr:=true
 kR _ h:=h
 whole _ _ h:=h
 lt w h k hk:=by
  obtain ⟨_,es,c,since,seen,st,h1,_,h2,_⟩:=h
  rcases hk with rfl|rfl
  ·exact eu h2
  ·exact eu h1
 pw w w' hk h:=by
  obtain ⟨hne,es,c,since,seen,st,h1,h2,h3,h4⟩:=h
  exact ⟨hne,es,c,since,seen,st,(hk b (.inr rfl)).trans h1,h2,(hk r (.inl rfl)).trans h3,h4⟩
theorem Cl {r b:Nat} {m left:List (K×Value)} {cur:Option (K×Value)}:(∀ w,(Af kV r b m left cur).holds w→(Af kV r b m left none).holds w)∧(∀ k,(Af kV r b m left none).fI k→(Af kV r b m left cur).fI k)∧ ∀ k,(Af kV r b m left none).wf k→(Af kV r b m left cur).wf k:=
 ⟨fun w h=>by
  obtain ⟨A,es,c,since,seen,st,B,C,D,E,F,h5',G,_⟩:=h
  exact ⟨A,es,c,since,seen,st,B,C,D,E,F,h5',G,fun p hp=>by cases hp⟩,fun _ h=>h,fun _ h=>h⟩
theorem Ib {r b:Nat} {m left:List (K×Value)} {cur:Option (K×Value)}:(∀ w,(Af kV r b m left cur).holds w→(kh kV b m).holds w)∧(∀ k,(kh kV b m).fI k→(Af kV r b m left cur).fI k)∧ ∀ k,(kh kV b m).wf k→(Af kV r b m left cur).wf k:=
 ⟨fun w h=>by
  obtain ⟨C,es,c,since,seen,st,A,B,_⟩:=h
  exact ⟨es,c,A,B⟩,fun _ h=> .inr h,fun _ h=> .inr h⟩
theorem Dc {es:Array MapEntry} {c:Nat} {m:List (K×Value)} (hinj: ∀ x y,kV x=kV y→x=y) (hi:jo kV es c m) {x y:MapEntry} (hx:x∈es.toList) (hy:y∈es.toList) (e:x.key=y.key):x=y:=by
 have hk:(es.toList.map (·.key))=(m.map (·.1)).map kV:=by
  have:=congrArg (List.map Prod.fst) hi.list
  simpa [Function.comp_def] using this
 have h:(es.toList.map (·.key)).Nodup:=by
  rw [hk,List.nodup_iff_pairwise_ne,List.pairwise_map]
  exact hi.keys.imp (fun B he=>B (hinj _ _ he))
 obtain ⟨i,A⟩:=List.getElem?_of_mem hx
 obtain ⟨j,hj⟩:=List.getElem?_of_mem hy
 have C:(es.toList.map (·.key))[i]? =some x.key:=by rw [gf,A]; rfl
 have D:(es.toList.map (·.key))[j]? =some x.key:=by rw [gf,hj,e]; rfl
 have E:=(List.getElem?_inj (aZ.1 C).1 h).1 (C.trans D.symm)
 subst E
 exact Option.some.inj (A.symm.trans hj)
section
variable {E:fp} {ops:Array Oper} {Q:dv} {rest:List Oper} {D:List Deferred} {L:List (Nat×Value)} {C:List ay}
variable {dst:Option Tmp} {d:Nat} {ty:TypeId} {ps:String} {af:Array Edge} {g:Option (Nat×Bool)}
theorem zE {t kt et:TypeId} {xm:Operand} {b:Nat} {m:List (K×Value)} (i:Nat) (hg:j1 ops L g=true) (hm:ev L xm=some (.map (some b))) (ht:E.P.underlying t=some (.map kt et)) (hC:C[i]? =some (kh kV b m)) (hd:Nat.blt d E.n=true)
 (k: ∀ r,RJ E ops Q rest D ((d,.pointer (some ⟨r,0,none⟩))::L) (C.set i (Af kV r b m m none))):RJ E ops Q (⟨some d,.range t xm,ty,ps,af,g⟩::rest) D L C:=by
 intro a w A hs
 have hd':d<E.n:=by rw [← Nat.blt_eq]; exact hd
 unfold tg
 rw [if_pos (eJ A hg)]
 obtain ⟨es,c,he,hi⟩:=hs.holds _ (aP hC)
 have F:b<w.heap.size:=eu he
 have B:(getObj b).run E.P w= .ok (.map es c) w:=MapKept.run_getObj_map he
 refine iX (v:= .pointer (some ⟨w.heap.size,0,none⟩)) (w':=w.alloc (.mapIter (some b) c #[] c)) sm ?_ ?_
 ·simp [execOp,Instr.range,A.ev hm,run_underlying ht,B,newObj,Sem.run]
 ·refine k _ _ _ (A.put hd' _) (hs.mv i hC ⟨⟨om,es,c,c,#[],c,?_,hi,heap_alloc_new w _,hi.PN,Nat.le_refl _,Nat.le_refl _,?_,fun p hp=>by cases hp⟩,dZ.alloc _ w _,fun q hq=>?_,fun q hq=>?_⟩)
  ·rw [Below.heap_alloc w _ b F]; exact he
  ·have:leftOf es #[]=es:=by unfold leftOf; exact Array.filter_eq_self.2 sm
   rw [this]; exact hi.list
  ·rcases hq with rfl|rfl
   ·exact .inr (Nat.le_refl _)
   ·exact .inl U
  ·rcases hq with rfl|rfl
   ·exact .inr (Nat.le_refl _)
   ·exact .inl U
theorem xO {es:Array MapEntry} {c:Nat} {m left:List (K×Value)} {seen:Array Nat} (hinj: ∀ x y,kV x=kV y→x=y) (hi:jo kV es c m) (h:(leftOf es seen).toList.map (fun (e:MapEntry)=>(e.key,e.val))=left.map (fun p=>(kV p.1,p.2))):(left.map (·.1)).Nodup:=by
 have B:((leftOf es seen).toList.map (·.key)).Sublist (es.toList.map (·.key)):=by
  unfold leftOf; rw [Array.toList_filter]; exact List.filter_sublist.map _
 have D:(es.toList.map (·.key))=(m.map (·.1)).map kV:=by
  have:=congrArg (List.map Prod.fst) hi.list
  simpa [Function.comp_def] using this
 have E:((leftOf es seen).toList.map (·.key))=(left.map (·.1)).map kV:=by
  have:=congrArg (List.map Prod.fst) h
  simpa [Function.comp_def] using this
 rw [D,E] at B
 have F:((m.map (·.1)).map kV).Nodup:=by
  rw [List.nodup_iff_pairwise_ne,List.pairwise_map]
  exact hi.keys.imp (fun A he=>A (hinj _ _ he))
 have C:=F.sublist B
 rw [List.nodup_iff_pairwise_ne,List.pairwise_map] at C
 rw [List.nodup_iff_pairwise_ne]
 exact C.imp (fun A he=>A (by rw [he]))
theorem Kz (hinj: ∀ x y,kV x=kV y→x=y) {xi:Operand} {r b:Nat} {m left:List (K×Value)} {cur:Option (K×Value)} (i:Nat) (hg:j1 ops L g=true) (hm:ev L xi=some (.pointer (some ⟨r,0,none⟩))) (hC:C[i]? =some (Af kV r b m left cur)) (hd:Nat.blt d E.n=true)
 (k0:left=[]→RJ E ops Q rest D ((d,.tuple [.bool false].toArray)::L) C)
 (k1: ∀ x v,(x,v)∈left→(left.map (·.1)).Nodup→RJ E ops Q rest D ((d,.tuple [.bool true,kV x,v].toArray)::L) (C.set i (Af kV r b m (fy left x) (some (x,v))))):
 RJ E ops Q (⟨some d,.next xi false,ty,ps,af,g⟩::rest) D L C:=by
 intro a w G hs
 have hd':d<E.n:=by rw [← Nat.blt_eq]; exact hd
 unfold tg
 rw [if_pos (eJ G hg)]
 obtain ⟨R,es,c,since,seen,st,X,hi,Y,J,V,M,A,_⟩:=hs.holds _ (aP hC)
 rcases run_next_at (P:=E.P) w ty r b since st seen es c Y X J V with ⟨Z,hr⟩|⟨e,he,N,H,hr⟩
 ·refine iX (v:= .tuple #[.bool false]) (w':=w) sm ?_ ?_
  ·simp [execOp,G.ev hm,hr]
  ·refine k0 ?_ _ _ (G.put hd' _) hs
   have:(leftOf es seen).toList=[]:=by rw [← List.length_eq_zero_iff,Array.length_toList]; exact Z
   rw [this] at A
   exact List.map_eq_nil_iff.1 A.symm
 ·have O:(e.key,e.val)∈left.map (fun p=>(kV p.1,p.2)):=by rw [← A]; exact cR.2 ⟨e,he,rfl⟩
  obtain ⟨p,hp,S⟩:=cR.1 O
  obtain ⟨x,v⟩:=p
  simp only [Prod.mk.injEq] at S
  obtain ⟨hk,hv⟩:=S
  refine iX (v:= .tuple #[.bool true,e.key,e.val]) (w':=ChangeMaps.setBlock N r (.mapIter (some b) since (seen.push e.born) c)) sm ?_ ?_
  ·simp [execOp,G.ev hm,hr]
  ·rw [← hk,← hv]
   have AA:=xO hinj hi A
   have F:e∈es.toList:=by unfold leftOf at he; rw [Array.toList_filter] at he; exact (List.mem_filter.1 he).1
   have f:c=c:=rfl
   have B:N.heap=w.heap:=by rcases H with rfl|rfl<;>rfl
   refine k1 x v hp AA _ _ (G.put hd' _) (hs.mv i hC ⟨⟨R,es,c,since,seen.push e.born,c,?_,hi,?_,J,M,M,?_,fun q hq=>?_⟩,?_,fun q hq=> .inl hq,fun q hq=> .inl hq⟩)
   ·show (N.heap.setIfInBounds r _)[b]? =_
    rw [Array.getElem?_setIfInBounds_ne R,B]; exact X
   ·show (N.heap.setIfInBounds r _)[r]? =_
    rw [Array.getElem?_setIfInBounds_self_of_lt (by rw [B]; exact eu Y)]
   ·have T:leftOf es (seen.push e.born)=(leftOf es seen).filter (fun z=> !(z.born==e.born)):=by
     unfold leftOf
     rw [Array.filter_filter]
     congr 1
     funext z
     simp only [Array.contains_push,Bool.not_or]
     rw [Bool.and_comm]
    rw [T,Array.toList_filter]
    have key: ∀ (l:List MapEntry) (ll:List (K×Value)),(∀ z∈l,z∈es.toList)→l.map (fun (e:MapEntry)=>(e.key,e.val))=ll.map (fun p=>(kV p.1,p.2))→
     (l.filter (fun z=> !(z.born==e.born))).map (fun (e:MapEntry)=>(e.key,e.val))=(fy ll x).map (fun p=>(kV p.1,p.2)):=by
     intro l
     induction l with
     |nil=>intro ll _ h; cases ll with
      |nil=>rfl
      |cons p ll=>simp at h
     |cons z l ih=>
      intro ll hz h
      cases ll with
      |nil=>simp at h
      |cons p ll=>
       simp only [List.map_cons,List.cons.injEq,Prod.mk.injEq] at h
       have ih':=ih ll (fun y hy=>hz y (by simp [hy])) h.2
       have AB:(z.born=e.born)↔(p.1=x):=by
        constructor
        ·intro hb
         have:z=e:=Dj hi.born (hz z sm) F hb
         rw [this] at h
         have:=h.1.1.symm.trans hk.symm
         exact hinj _ _ this
        ·intro hx
         have W:z.key=e.key:=by rw [h.1.1,hx,hk]
         rw [Dc hinj hi (hz z sm) F W]
       unfold fy at ih' ⊢
       by_cases hx:p.1=x
       ·rw [List.filter_cons_of_neg (by simp [AB.2 hx]),List.filter_cons_of_neg (by simp [hx])]; exact ih'
       ·rw [List.filter_cons_of_pos (by simpa using fun hb=>hx (AB.1 hb)),List.filter_cons_of_pos (by simpa using hx)]
        simp only [List.map_cons,h.1.1,h.1.2,ih']
    exact key _ _ (fun z hz=>by unfold leftOf at hz; rw [Array.toList_filter] at hz; exact (List.mem_filter.1 hz).1) A
   ·cases hq
    exact ⟨e,seen,F,U,U,hk.symm,hv.symm⟩
   ·refine ⟨?_,?_,?_,?_,fun q hq hn=>?_⟩
    ·rcases H with rfl|rfl<;>rfl
    ·rcases H with rfl|rfl<;>rfl
    ·rcases H with rfl|rfl<;>rfl
    ·show w.heap.size≤(N.heap.setIfInBounds r _).size
     simp [B]
    ·show (N.heap.setIfInBounds r _)[q]? =_
     rw [Array.getElem?_setIfInBounds_ne (fun e=>hn (.inl e.symm)),B]
theorem xb {xi:Operand} {r b:Nat} {m left:List (K×Value)} {x:K} {v:Value} (i:Nat) (hg:j1 ops L g=true) (hm:ev L xi=some (.pointer (some ⟨r,0,none⟩))) (hC:C[i]? =some (Af kV r b m left (some (x,v)))):
 SD E ops ⟨dst,.entry xi,ty,ps,af,g⟩ D L C (.tuple [kV x,v].toArray):=
 eL hg sm fun a w F hs=>by
  obtain ⟨N,es,c,since,seen,st,J,hi,M,H,O,AA,G,B⟩:=hs.holds _ (aP hC)
  obtain ⟨e,A,he,rfl,rfl,hk,hv⟩:=B _ rfl
  have:=run_entry_at (P:=E.P) w r b since A es st e M J he hi.born
  simp [execOp,F.ev hm,this,hk,hv]
theorem xW (hinj: ∀ x y,kV x=kV y→x=y) {β:Type} {f:β→Value} {xi:Operand} {r b:Nat} {m:List (K×Value)} {ll:List (K×β)} {cur:Option (K×Value)} (i:Nat) (hg:j1 ops L g=true) (hm:ev L xi=some (.pointer (some ⟨r,0,none⟩))) (hC:C[i]? =some (Af kV r b m (cT f ll) cur)) (hd:Nat.blt d E.n=true)
 (k0:ll=[]→RJ E ops Q rest D ((d,.tuple [.bool false].toArray)::L) C)
 (k1: ∀ x y,(x,y)∈ll→(ll.map (·.1)).Nodup→RJ E ops Q rest D ((d,.tuple [.bool true,kV x,f y].toArray)::L) (C.set i (Af kV r b m (cT f (fy ll x)) (some (x,f y))))):
 RJ E ops Q (⟨some d,.next xi false,ty,ps,af,g⟩::rest) D L C:=by
 refine Kz hinj i hg hm hC hd (fun h=>k0 (List.map_eq_nil_iff.1 h)) (fun x v B hn=>?_)
 obtain ⟨p,hp,A⟩:=cR.1 B
 simp only [Prod.mk.injEq] at A
 obtain ⟨rfl,rfl⟩:=A
 have:=k1 p.1 p.2 hp (by simpa [cT,Function.comp_def] using hn)
 rwa [ou] at this
end
end
end
section
structure cg where
 Start:Int
 gh:Int
 qJ:List Int
 zH:List (List (Int×ag))
 dq:Int
 fO:Int
 V9:Int
def cg.n (w:cg):Nat:=w.qJ.length
def fV (s:Int):aN:=if s<0 then ⟨0,1⟩ else ⟨1,0⟩
def dM (a b:aN):aN:=⟨a.right+b.right,a.e7+b.e7⟩
def wW (w:cg) (b:Nat):List (Int×ag):=(w.zH[b]?).getD []
def jK (w:cg) (b:Nat):List (Int×ag):=(-1,⟨w.Start,w.gh⟩)::wW w b
def cO (w:cg) (b:Nat):Int:=(w.qJ[b]?).getD 0
def m_ (w:cg) (b:Nat) (p:aN×Int) (o:Int×ag):Option (aN×Int):=if max (p.2+cO w b) o.2.Lo≤min o.2.Hi w.gh then some (dM p.1 (fV o.1),max (p.2+cO w b) o.2.Lo) else none
def pO (w:cg):Nat→List (aN×Int)
 |0=>[(⟨0,0⟩,w.Start)]
 |b+1=>(pO w b).flatMap fun p=>(jK w b).filterMap (m_ w b p)
def pC (w:cg) (b:Nat) (p:aN×Int) (o:Int×ag):Option (aN×Int):=if o.2.Lo≤min p.2 o.2.Hi then some (dM p.1 (fV o.1),min p.2 o.2.Hi-cO w b) else none
def Ov (w:cg):Nat→List (aN×Int)
 |0=>[(⟨0,0⟩,w.gh)]
 |k+1=>(⟨0,0⟩,w.gh)::(Ov w k).flatMap fun p=>(jK w (w.n-(k+1))).filterMap (pC w (w.n-(k+1)) p)
def back (w:cg) (b:Nat):List (aN×Int):=Ov w (w.n-b)
def l8 (w:cg) (t:aN):Bool:=decide (t.e7≤w.dq∧w.V9-t.right≤w.fO)
theorem jA {w:cg} {b:Nat} {q:aN×Int}:q∈pO w (b+1)↔ ∃ p∈pO w b,∃ o∈jK w b,m_ w b p o=some q:=by
 simp only [pO,List.mem_flatMap,List.mem_filterMap]
theorem v8 {w:cg} {b:Nat} (h:w.n≤b):back w b=[(⟨0,0⟩,w.gh)]:=by
 unfold back; rw [Nat.sub_eq_zero_of_le h]; rfl
theorem px {w:cg} {b:Nat} (h:b<w.n) {q:aN×Int}:q∈back w b↔q=(⟨0,0⟩,w.gh)∨ ∃ p∈back w (b+1),∃ o∈jK w b,pC w b p o=some q:=by
 unfold back
 have e:w.n-b=(w.n-(b+1))+1:=by omega
 rw [e]
 simp only [Ov,bR,List.mem_flatMap,List.mem_filterMap]
 rw [show w.n-(w.n-(b+1)+1)=b by omega]
def uB (m c:List (aN×Int)):Prop:=(∀ t v,m.lookup t=some v→(t,v)∈c)∧ ∀ t y,(t,y)∈c→ ∃ v,m.lookup t=some v∧v≤y
def wa (m c:List (aN×Int)):Prop:=(∀ t v,m.lookup t=some v→(t,v)∈c)∧ ∀ t y,(t,y)∈c→ ∃ v,m.lookup t=some v∧y≤v
def wx (m c:List (aN×Int)):Prop:= ∀ t v,m.lookup t=some v→(t,v)∈c
theorem lP {K β:Type} [DecidableEq K] {m:List (K×β)} {x t:K} {y:β}:(ew m x y).lookup t=if t=x then some y else m.lookup t:=by
 unfold ew
 by_cases hx:(m.lookup x).isSome
 ·rw [if_pos hx]
  have key: ∀ l:List (K×β),(l.lookup x).isSome∨True→(l.map (fun p=>if p.1=x then (x,y) else p)).lookup t=if t=x then (if (l.lookup x).isSome then some y else none) else l.lookup t:=by
   intro l _
   induction l with
   |nil=>simp
   |cons p l ih=>
    obtain ⟨k,v⟩:=p
    have ih:=ih (.inr trivial)
    by_cases hk:k=x
    ·subst hk
     by_cases ht:t=k
     ·subst ht; simp [List.lookup]
     ·have:(t==k)=false:=by simpa using ht
      simp only [List.map_cons,if_true,List.lookup,this,ih,if_neg ht]
    ·have hk':(x==k)=false:=by simpa using fun e=>hk e.symm
     by_cases ht:t=k
     ·subst ht; simp [List.lookup,hk]
     ·have A:(t==k)=false:=by simpa using ht
      simp only [List.map_cons,if_neg hk,List.lookup,A,ih,hk']
  rw [key m (.inr trivial)]
  by_cases ht:t=x
  ·subst ht
   rw [if_pos rfl,if_pos rfl,if_pos hx]
  ·rw [if_neg ht,if_neg ht]
 ·rw [if_neg hx]
  have hn:m.lookup x=none:=by cases h0:m.lookup x with
   |none=>rfl
   |some v=>exact absurd (by rw [h0]; rfl) hx
  by_cases ht:t=x
  ·subst ht
   rw [if_pos rfl]
   have:=im.1 hn
   clear hn hx
   induction m with
   |nil=>simp
   |cons p m ih=>
    obtain ⟨k,v⟩:=p
    have hk:(t==k)=false:=by simpa using fun e=>this (k,v) sm e.symm
    simp only [List.cons_append,List.lookup,hk]
    exact ih (fun q hq=>this q (di _ hq))
  ·rw [if_neg ht]
   clear hn hx
   induction m with
   |nil=>
    have:(t==x)=false:=by simpa using ht
    simp [List.lookup,this]
   |cons p m ih=>
    obtain ⟨k,v⟩:=p
    by_cases hk:t=k
    ·subst hk; simp [List.lookup]
    ·have:(t==k)=false:=by simpa using hk
     simp only [List.cons_append,List.lookup,this]
     exact ih
/-- what a map is after a try -/
def pQ (m:List (aN×Int)) (q:aN×Int):List (aN×Int):=match m.lookup q.1 with
 |none=>ew m q.1 q.2
 |some v=>if q.2<v then ew m q.1 q.2 else m
def pz (m:List (aN×Int)) (q:aN×Int):List (aN×Int):=match m.lookup q.1 with
 |none=>ew m q.1 q.2
 |some v=>if v<q.2 then ew m q.1 q.2 else m
theorem yu {m:List (aN×Int)} {q:aN×Int} {t:aN}:(pQ m q).lookup t=if t=q.1 then some (match m.lookup q.1 with |none=>q.2|some v=>min q.2 v) else m.lookup t:=by
 unfold pQ
 cases h:m.lookup q.1 with
 |none=>simp only; rw [lP]
 |some v=>
  simp only
  split
  ·rename_i A
   rw [lP,Int.min_eq_left om]
  ·rename_i A
   split
   ·rename_i e; subst e; rw [h,Int.min_eq_right om]
   ·rfl
theorem xK {m:List (aN×Int)} {q:aN×Int} {t:aN}:(pz m q).lookup t=if t=q.1 then some (match m.lookup q.1 with |none=>q.2|some v=>max q.2 v) else m.lookup t:=by
 unfold pz
 cases h:m.lookup q.1 with
 |none=>simp only; rw [lP]
 |some v=>
  simp only
  split
  ·rename_i A
   rw [lP,Int.max_eq_left om]
  ·rename_i A
   split
   ·rename_i e; subst e; rw [h,Int.max_eq_right om]
   ·rfl
def x5 (m m':List (aN×Int)):Prop:= ∀ t v,m.lookup t=some v→ ∃ v',m'.lookup t=some v'∧v'≤v
def xh (m m':List (aN×Int)):Prop:= ∀ t v,m.lookup t=some v→ ∃ v',m'.lookup t=some v'∧v≤v'
theorem x5.refl (m:List (aN×Int)):x5 m m:=fun t v h=>⟨v,h,om⟩
theorem xh.refl (m:List (aN×Int)):xh m m:=fun t v h=>⟨v,h,om⟩
theorem wF {m:List (aN×Int)} {q:aN×Int}:x5 m (pQ m q):=fun t v h=>by
 rw [yu]
 split
 ·rename_i e; subst e; rw [h]; exact ⟨_,rfl,by simp only; omega⟩
 ·exact ⟨v,h,om⟩
theorem rq {m:List (aN×Int)} {q:aN×Int}:xh m (pz m q):=fun t v h=>by
 rw [xK]
 split
 ·rename_i e; subst e; rw [h]; exact ⟨_,rfl,by simp only; omega⟩
 ·exact ⟨v,h,om⟩
theorem GU {m c:List (aN×Int)} {q:aN×Int} (h:wx m c) (hq:q∈c):wx (pQ m q) c:=fun t v hv=>by
 rw [yu] at hv
 split at hv
 ·rename_i e
  subst e
  cases hm:m.lookup q.1 with
  |none=>simp only [hm,Option.some.injEq] at hv; subst hv; exact hq
  |some x=>
   simp only [hm,Option.some.injEq] at hv; subst hv
   rcases Int.lt_or_le q.2 x with A|A
   ·rw [Int.min_eq_left om]; exact hq
   ·rw [Int.min_eq_right om]; exact h _ _ hm
 ·exact h t v hv
theorem Hj {m c:List (aN×Int)} {q:aN×Int} (h:wx m c) (hq:q∈c):wx (pz m q) c:=fun t v hv=>by
 rw [xK] at hv
 split at hv
 ·rename_i e
  subst e
  cases hm:m.lookup q.1 with
  |none=>simp only [hm,Option.some.injEq] at hv; subst hv; exact hq
  |some x=>
   simp only [hm,Option.some.injEq] at hv; subst hv
   rcases Int.lt_or_le q.2 x with A|A
   ·rw [Int.max_eq_right om]; exact h _ _ hm
   ·rw [Int.max_eq_left om]; exact hq
 ·exact h t v hv
theorem Gy {m:List (aN×Int)} {q:aN×Int}: ∃ v,(pQ m q).lookup q.1=some v∧v≤q.2:=by
 rw [yu,if_pos rfl]
 refine ⟨_,U,?_⟩
 cases m.lookup q.1<;>simp only <;>omega
theorem HN {m:List (aN×Int)} {q:aN×Int}: ∃ v,(pz m q).lookup q.1=some v∧q.2≤v:=by
 rw [xK,if_pos rfl]
 refine ⟨_,U,?_⟩
 cases m.lookup q.1<;>simp only <;>omega
/-- all that comes of one entry, by some options, is held -/
def jt (w:cg) (b:Nat) (m:List (aN×Int)) (p:aN×Int) (os:List (Int×ag)):Prop:= ∀ o∈os,∀ q,m_ w b p o=some q→ ∃ v,m.lookup q.1=some v∧v≤q.2
def ju (w:cg) (b:Nat) (m:List (aN×Int)) (p:aN×Int) (os:List (Int×ag)):Prop:= ∀ o∈os,∀ q,pC w b p o=some q→ ∃ v,m.lookup q.1=some v∧q.2≤v
theorem jt.lower {w:cg} {b:Nat} {m m':List (aN×Int)} {p:aN×Int} {os:List (Int×ag)} (h:jt w b m p os) (hl:x5 m m'):jt w b m' p os:=fun o ho q hq=>by
 obtain ⟨v,A,C⟩:=h o ho q hq
 obtain ⟨v',B,D⟩:=hl _ _ A
 exact ⟨v',B,om⟩
theorem ju.upper {w:cg} {b:Nat} {m m':List (aN×Int)} {p:aN×Int} {os:List (Int×ag)} (h:ju w b m p os) (hl:xh m m'):ju w b m' p os:=fun o ho q hq=>by
 obtain ⟨v,A,C⟩:=h o ho q hq
 obtain ⟨v',B,D⟩:=hl _ _ A
 exact ⟨v',B,om⟩
theorem jt.sub {w:cg} {b:Nat} {m:List (aN×Int)} {p:aN×Int} {os os':List (Int×ag)} (h:jt w b m p os) (hs: ∀ o∈os',o∈os):jt w b m p os':=fun o ho=>h o (hs o ho)
theorem ju.sub {w:cg} {b:Nat} {m:List (aN×Int)} {p:aN×Int} {os os':List (Int×ag)} (h:ju w b m p os) (hs: ∀ o∈os',o∈os):ju w b m p os':=fun o ho=>h o (hs o ho)
theorem jt.add {w:cg} {b:Nat} {m m':List (aN×Int)} {p:aN×Int} {os:List (Int×ag)} {o:Int×ag} (h:jt w b m p os) (hl:x5 m m') (hn: ∀ q,m_ w b p o=some q→ ∃ v,m'.lookup q.1=some v∧v≤q.2):jt w b m' p (os++[o]):=fun o' ho q hq=>by
 rcases gu.1 ho with ho|ho
 ·exact h.lower hl o' ho q hq
 ·simp only [cv] at ho; subst ho; exact hn q hq
theorem ju.add {w:cg} {b:Nat} {m m':List (aN×Int)} {p:aN×Int} {os:List (Int×ag)} {o:Int×ag} (h:ju w b m p os) (hl:xh m m') (hn: ∀ q,pC w b p o=some q→ ∃ v,m'.lookup q.1=some v∧q.2≤v):ju w b m' p (os++[o]):=fun o' ho q hq=>by
 rcases gu.1 ho with ho|ho
 ·exact h.upper hl o' ho q hq
 ·simp only [cv] at ho; subst ho; exact hn q hq
theorem fT {m:List (aN×Int)} (hn:(m.map (·.1)).Nodup) {t:aN} {v:Int}:(t,v)∈m↔m.lookup t=some v:=lk hn
theorem pf {z t:aN} {x v:Int}:List.lookup t [(z,x)]=some v↔t=z∧v=x:=by
 by_cases e:t=z
 ·subst e; simp [List.lookup,eq_comm]
 ·have:(t==z)=false:=by simpa using e
  simp [List.lookup,this,e]
theorem HP {w:cg}:uB [(⟨0,0⟩,w.Start)] (pO w 0):=by
 refine ⟨fun t v h=>?_,fun t y h=>?_⟩
 ·obtain ⟨rfl,rfl⟩:=pf.1 h
  simp [pO]
 ·simp only [pO,cv,Prod.mk.injEq] at h
  obtain ⟨rfl,rfl⟩:=h
  exact ⟨w.Start,pf.2 ⟨U,U⟩,Int.le_refl _⟩
theorem IP {w:cg} {b:Nat} {mb m:List (aN×Int)} (hn:(mb.map (·.1)).Nodup) (h:uB mb (pO w b)) (hs:wx m (pO w (b+1))) (hd: ∀ p∈mb,jt w b m p (jK w b)):uB m (pO w (b+1)):=⟨hs,fun t y hy=>by
 obtain ⟨p,hp,o,ho,e⟩:=jA.1 hy
 obtain ⟨v,B,E⟩:=h.2 p.1 p.2 hp
 unfold m_ at e
 split at e
 ·rename_i D
  simp only [Option.some.injEq,Prod.mk.injEq] at e
  obtain ⟨v',A,C⟩:=hd (p.1,v) ((fT hn).2 B) o ho (dM p.1 (fV o.1),max (v+cO w b) o.2.Lo) (by unfold m_; rw [if_pos (by simp only; omega)])
  simp only at A C
  rw [e.1] at A
  exact ⟨v',A,om⟩
 ·cases e⟩
theorem KT {w:cg} {b:Nat} (hb:w.n≤b):wa [(⟨0,0⟩,w.gh)] (back w b):=by
 rw [v8 hb]
 refine ⟨fun t v h=>?_,fun t y h=>?_⟩
 ·obtain ⟨rfl,rfl⟩:=pf.1 h
  simp
 ·simp only [cv,Prod.mk.injEq] at h
  obtain ⟨rfl,rfl⟩:=h
  exact ⟨w.gh,pf.2 ⟨U,U⟩,Int.le_refl _⟩
theorem KH {w:cg} {b:Nat} (hb:b<w.n) {mb m:List (aN×Int)} (hn:(mb.map (·.1)).Nodup) (h:wa mb (back w (b+1))) (hs:wx m (back w b)) (h0: ∃ v,m.lookup ⟨0,0⟩=some v∧w.gh≤v) (hd: ∀ p∈mb,ju w b m p (jK w b)):wa m (back w b):=⟨hs,fun t y hy=>by
 rcases (px hb).1 hy with e|⟨p,hp,o,ho,e⟩
 ·simp only [Prod.mk.injEq] at e
  obtain ⟨rfl,rfl⟩:=e
  exact h0
 obtain ⟨v,B,E⟩:=h.2 p.1 p.2 hp
 unfold pC at e
 split at e
 ·rename_i D
  simp only [Option.some.injEq,Prod.mk.injEq] at e
  obtain ⟨v',A,C⟩:=hd (p.1,v) ((fT hn).2 B) o ho (dM p.1 (fV o.1),min v o.2.Hi-cO w b) (by unfold pC; rw [if_pos (by simp only; omega)])
  simp only at A C
  rw [e.1] at A
  exact ⟨v',A,om⟩
 ·cases e⟩
end
section
def lp (w:cg) (b:Nat) (p u:aN×Int) (o:Int×ag):ag:=⟨max (p.2+cO w b) o.2.Lo,min u.2 o.2.Hi⟩
def zT (p u:aN×Int) (o:Int×ag):aN:=dM (dM p.1 u.1) (fV o.1)
def mN (w:cg) (b:Nat) (p u:aN×Int) (o:Int×ag):Option (Int×ag):=if (lp w b p u o).Lo≤(lp w b p u o).Hi∧l8 w (zT p u o)=true then some (o.1,lp w b p u o) else none
def qA (w:cg) (b:Nat) (mf mb:List (aN×Int)):List (Int×ag):=(jK w b).flatMap fun o=>mf.flatMap fun p=>mb.filterMap fun u=>mN w b p u o
def qM (w:cg) (b:Nat):List (Int×ag):=qA w b (pO w b) (back w (b+1))
theorem jq {w:cg} {b:Nat} {mf mb:List (aN×Int)} {q:Int×ag}:q∈qA w b mf mb↔ ∃ o∈jK w b,∃ p∈mf,∃ u∈mb,mN w b p u o=some q:=by
 simp only [qA,List.mem_flatMap,List.mem_filterMap]
theorem ld {w:cg} {b:Nat} {p u:aN×Int} {o q:Int×ag}:mN w b p u o=some q↔(lp w b p u o).Lo≤(lp w b p u o).Hi∧l8 w (zT p u o)=true∧q=(o.1,lp w b p u o):=by
 unfold mN
 split
 ·rename_i h
  simp only [Option.some.injEq]
  exact ⟨fun e=>⟨h.1,h.2,e.symm⟩,fun e=>e.2.2.symm⟩
 ·rename_i h
  simp only [reduceCtorEq,false_iff]
  exact fun e=>h ⟨e.1,e.2.1⟩
theorem ny {w:cg} {b:Nat} {mf mb:List (aN×Int)} {q:Int×ag} (h:q∈qA w b mf mb):q.2.Lo≤q.2.Hi:=by
 obtain ⟨o,_,p,_,u,_,e⟩:=jq.1 h
 obtain ⟨A,_,rfl⟩:=ld.1 e
 exact A
/-- what the maps tell is what all ways tell -/
theorem Ni {w:cg} {b:Nat} {mf mb:List (aN×Int)} (hf:uB mf (pO w b)) (hb:wa mb (back w (b+1))) (nf:(mf.map (·.1)).Nodup) (nb:(mb.map (·.1)).Nodup) {q:Int×ag} (h:q∈qA w b mf mb):q∈qM w b:=by
 obtain ⟨o,ho,p,hp,u,hu,e⟩:=jq.1 h
 exact jq.2 ⟨o,ho,p,hf.1 _ _ ((fT nf).1 hp),u,hb.1 _ _ ((fT nb).1 hu),e⟩
theorem K_ {w:cg} {b:Nat} {mf mb:List (aN×Int)} (hf:uB mf (pO w b)) (hb:wa mb (back w (b+1))) (nf:(mf.map (·.1)).Nodup) (nb:(mb.map (·.1)).Nodup) {q:Int×ag} (h:q∈qM w b): ∃ q'∈qA w b mf mb,q'.1=q.1∧q'.2.Lo≤q.2.Lo∧q.2.Hi≤q'.2.Hi:=by
 obtain ⟨o,ho,p,hp,u,hu,e⟩:=jq.1 h
 obtain ⟨A,B,rfl⟩:=ld.1 e
 obtain ⟨v,hv,C⟩:=hf.2 p.1 p.2 hp
 obtain ⟨y,hy,D⟩:=hb.2 u.1 u.2 hu
 simp only [lp] at A
 refine ⟨(o.1,lp w b (p.1,v) (u.1,y) o),jq.2 ⟨o,ho,(p.1,v),(fT nf).2 hv,(u.1,y),(fT nb).2 hy,ld.2 ⟨?_,B,U⟩⟩,U,?_,?_⟩
 ·simp only [lp]; omega
 ·simp only [lp]; omega
 ·simp only [lp]; omega
def mS:ag:=⟨1,0⟩
def mW (h x:ag):ag:=if h=mS then x else ⟨min x.Lo h.Lo,max x.Hi h.Hi⟩
def ud (l:List (Int×ag)):ag:=l.foldl (fun h q=>mW h q.2) mS
structure ow (l:List (Int×ag)) (h:ag):Prop where
 le:h.Lo≤h.Hi
 lo: ∃ x∈l,x.2.Lo=h.Lo
 hi: ∃ x∈l,x.2.Hi=h.Hi
 all: ∀ x∈l,h.Lo≤x.2.Lo∧x.2.Hi≤h.Hi
def kF (l:List (Int×ag)) (h:ag):Prop:=(l=[]∧h=mS)∨ow l h
theorem ow.ne {l:List (Int×ag)} {h:ag} (hh:ow l h):h≠mS:=fun e=>by
 have:=hh.le; rw [e] at this; simp [mS] at this
theorem BO:kF [] mS:= .inl ⟨rfl,rfl⟩
theorem vz {l:List (Int×ag)} {h:ag} {q:Int×ag} (hh:kF l h) (hq:q.2.Lo≤q.2.Hi):kF (l++[q]) (mW h q.2):=by
 right
 rcases hh with ⟨rfl,rfl⟩|hh
 ·unfold mW
  rw [if_pos rfl]
  exact ⟨hq,⟨q,sm,rfl⟩,⟨q,sm,rfl⟩,fun x hx=>by simp at hx; subst hx; exact ⟨Int.le_refl _,Int.le_refl _⟩⟩
 ·unfold mW
  rw [if_neg hh.ne]
  have A:=hh.le
  obtain ⟨a,ha,ea⟩:=hh.lo
  obtain ⟨c,hc,ec⟩:=hh.hi
  refine ⟨by simp only; omega,?_,?_,fun x hx=>?_⟩
  ·rcases Int.lt_or_le q.2.Lo h.Lo with p|p
   ·exact ⟨q,sm,by simp only; omega⟩
   ·exact ⟨a,by simp [ha],by simp only; omega⟩
  ·rcases Int.lt_or_le h.Hi q.2.Hi with p|p
   ·exact ⟨q,sm,by simp only; omega⟩
   ·exact ⟨c,by simp [hc],by simp only; omega⟩
  ·rcases gu.1 hx with hx|hx
   ·have:=hh.all x hx; simp only; omega
   ·simp at hx; subst hx; simp only; omega
theorem th {l:List (Int×ag)} (hl: ∀ q∈l,q.2.Lo≤q.2.Hi):kF l (ud l):=by
 have key: ∀ (r d:List (Int×ag)) (h:ag),(∀ q∈r,q.2.Lo≤q.2.Hi)→kF d h→kF (d++r) (r.foldl (fun h q=>mW h q.2) h):=by
  intro r
  induction r with
  |nil=>intro d h _ hd; simpa using hd
  |cons q r ih=>
   intro d h hr hd
   have:=ih (d++[q]) (mW h q.2) (fun x hx=>hr x (di _ hx)) (vz hd (hr q sm))
   simpa using this
 have:=key l [] mS hl BO
 rw [List.nil_append] at this
 exact this
def Dv (a b:List (Int×ag)):Prop:= ∀ x∈b,∃ y∈a,y.2.Lo≤x.2.Lo∧x.2.Hi≤y.2.Hi
theorem My {a b:List (Int×ag)} {h k:ag} (ha:kF a h) (hb:kF b k) (hab:Dv a b) (hba:Dv b a):h=k:=by
 rcases ha with ⟨rfl,rfl⟩|ha
 ·rcases hb with ⟨rfl,rfl⟩|hb
  ·rfl
  ·obtain ⟨x,hx,_⟩:=hb.lo
   obtain ⟨y,hy,_⟩:=hab x hx
   cases hy
 ·rcases hb with ⟨rfl,rfl⟩|hb
  ·obtain ⟨x,hx,_⟩:=ha.lo
   obtain ⟨y,hy,_⟩:=hba x hx
   cases hy
  ·have le: ∀ {a b:List (Int×ag)} {h k:ag},ow a h→ow b k→Dv a b→h.Lo≤k.Lo∧k.Hi≤h.Hi:=fun {a b h k} ha hb hab=>by
    obtain ⟨x,hx,ex⟩:=hb.lo
    obtain ⟨z,hz,ez⟩:=hb.hi
    obtain ⟨y,hy,ey⟩:=hab x hx
    obtain ⟨y',hy',ey'⟩:=hab z hz
    have A:=ha.all y hy
    have B:=ha.all y' hy'
    omega
   have A:=le ha hb hab
   have B:=le hb ha hba
   rw [ag.ext_iff]; omega
theorem zm {w:cg} {b:Nat} {mf mb:List (aN×Int)} {l:List (Int×ag)} {h:ag} (hf:uB mf (pO w b)) (hb:wa mb (back w (b+1))) (nf:(mf.map (·.1)).Nodup) (nb:(mb.map (·.1)).Nodup)
 (hl: ∀ q∈l,q∈qA w b mf mb) (hl2: ∀ q∈qA w b mf mb,q∈l) (hh:kF l h):h=ud (qM w b):=
 My hh (th fun q hq=>ny hq) (fun x hx=>by
  obtain ⟨q,hq,_,A,B⟩:=K_ hf hb nf nb hx
  exact ⟨q,hl2 q hq,A,B⟩) (fun x hx=>⟨x,Ni hf hb nf nb (hl x hx),Int.le_refl _,Int.le_refl _⟩)
def lf (w:cg) (m:List (aN×Int)):Bool:=m.any fun p=>l8 w p.1
theorem B2 {w:cg} {b:Nat} {m:List (aN×Int)} (h:uB m (pO w b)) (nf:(m.map (·.1)).Nodup):lf w m=lf w (pO w b):=by
 unfold lf
 rw [Bool.eq_iff_iff,List.any_eq_true,List.any_eq_true]
 constructor
 ·rintro ⟨p,hp,A⟩
  exact ⟨p,h.1 _ _ ((fT nf).1 hp),A⟩
 ·rintro ⟨p,hp,A⟩
  obtain ⟨v,hv,_⟩:=h.2 p.1 p.2 hp
  exact ⟨(p.1,v),(fT nf).2 hv,A⟩
def kY (w:cg) (k:Nat):List Int:=((List.range k).filter fun i=>lf w (pO w i)).map fun (i:Nat)=>(i:Int)
def lQ (w:cg):List Int:=kY w (w.n+1)
theorem DU {w:cg} {k:Nat} (h:lf w (pO w k)=true):kY w (k+1)=kY w k++[(k:Int)]:=by simp [kY,List.range_succ,h]
theorem HJ {w:cg} {k:Nat} (h:lf w (pO w k)=false):kY w (k+1)=kY w k:=by simp [kY,List.range_succ,h]
theorem tG {w:cg} {k:Nat}:(kY w k).length≤k:=by
 unfold kY
 rw [List.length_map]
 exact Nat.le_trans (List.length_filter_le _ _) sm
end
section
open Go.RowKit
theorem HE {P:Program} {t:Nat} {k:IntKind} (hu:P.underlying t=some (.int k)) (e:Bool) (n:Nat) (v:Value) (w:World):(Instr.checkKey e (n+1) t v).run P w= .ok () w:=by
 unfold Instr.checkKey
 simp only [Sem.run_bind,run_underlying hu,Result.andThen]
 cases v<;>rfl
theorem AZ {P:Program} {kt:Nat} {l:List (Nat×Nat)} (hl:fL P kt=some l) (e:Bool) (n:Nat) (cs:Array Value) (w:World)
 (hf: ∀ p∈l,(∃ v,(part p.1 cs p.2).run P w= .ok v w)∧ ∃ k,P.underlying p.1=some (.int k)):(Instr.checkKey e (n+2) kt (.agg cs)).run P w= .ok () w:=by
 unfold fL at hl
 cases hu:P.underlying kt with
 |none=>simp [hu] at hl
 |some d=>
  cases d<;>simp [hu] at hl
  rename_i fs
  obtain ⟨hn,hl⟩:=hl
  rw [show n+2=(n+1)+1 from rfl,Instr.checkKey]
  simp only [Sem.run_bind,run_underlying hu,Result.andThen_ok]
  rw [← Array.forIn_toList]
  have A: ∀ f∈fs.toList,(∃ v,(part f.type cs f.offset).run P w= .ok v w)∧ ∃ k,P.underlying f.type=some (.int k):=fun f hf'=>hf (f.type,f.offset) (by rw [← hl]; exact cR.2 ⟨f,hf',rfl⟩)
  have B: ∀ f∈fs.toList,f.name≠"_":=fun f hf'=>by
   obtain ⟨i,hi,rfl⟩:=List.getElem_of_mem hf'
   exact hn.1.1 i (by simpa using hi)
  clear hl hn hf
  generalize fs.toList=L at A B
  induction L with
  |nil=>simp
  |cons f L ih=>
   obtain ⟨⟨v,hv⟩,k,hk⟩:=A f sm
   have C:=B f sm
   simp only [List.forIn_cons,Sem.run_bind,C,ne_eq,not_false_eq_true,if_true,Result.andThen_ok,hv,HE hk,Sem.run_pure]
   exact ih (fun y hy=>A y (by simp [hy])) (fun y hy=>B y (by simp [hy]))
theorem Cj {P:Program} {kt:Nat} {K:Type} [DecidableEq K] {kV:K→Value} (hw: ∀ (k:Value) (es:List MapEntry) (w:World),(Instr.findKey kt k es).run P w=(Instr.findAsking kt k es).run P w)
 (heq: ∀ x y w,(Op.equal kt (kV x) (kV y)).run P w= .ok (decide (x=y)) w) (inj: ∀ x y,kV x=kV y→x=y) (x:K) (w:World) (es:List MapEntry) (hk: ∀ e∈es,∃ k,e.key=kV k):
 ((Instr.findKey kt (kV x) es).run P w= .ok none w∧ ∀ e∈es,e.key≠kV x)∨ ∃ j e,(Instr.findKey kt (kV x) es).run P w= .ok (some (j,e.val)) w∧es[j]? =some e∧e.key=kV x:=by
 have key: ∀ (es:List MapEntry) (i:Nat),(∀ e∈es,∃ k,e.key=kV k)→((Instr.findAsking kt (kV x) es i).run P w= .ok none w∧ ∀ e∈es,e.key≠kV x)∨ ∃ j e,(Instr.findAsking kt (kV x) es i).run P w= .ok (some (i+j,e.val)) w∧es[j]? =some e∧e.key=kV x:=by
  intro es
  induction es with
  |nil=>intro i _; exact .inl ⟨by simp [Instr.findAsking],sm⟩
  |cons e es ih=>
   intro i B
   obtain ⟨k,A⟩:=B e sm
   by_cases h:x=k
   ·refine .inr ⟨0,e,?_,U,by rw [A,h]⟩
    subst h
    simp [Instr.findAsking,A,heq]
   ·rcases ih (i+1) (fun y hy=>B y (by simp [hy])) with ⟨C,D⟩|⟨j,e',C,D,E⟩
    ·refine .inl ⟨by simp [Instr.findAsking,A,heq,h,C],fun y hy=>?_⟩
     rcases bR.1 hy with rfl|hy
     ·rw [A]; exact fun q=>h (inj _ _ q).symm
     ·exact D y hy
    ·exact .inr ⟨j+1,e',by simp [Instr.findAsking,A,heq,h,C]; omega,by simpa using D,E⟩
 rw [hw]
 rcases key es 0 hk with h|⟨j,e,C,D,E⟩
 ·exact .inl h
 ·exact .inr ⟨j,e,by simpa using C,D,E⟩
theorem En {P:Program} {kt:Nat} {l:List (Nat×Nat)} (hl:fL P kt=some l) (k:Value) (es:List MapEntry) (w:World):(Instr.findKey kt k es).run P w=(Instr.findAsking kt k es).run P w:=by
 refine run_findKey_eq w ?_ k es
 unfold fL at hl
 cases hu:P.underlying kt with
 |none=>simp [hu] at hl
 |some d=>cases d<;>simp [hu] at hl ⊢
theorem Mf {P:Program} {kt:Nat} {K:Type} [DecidableEq K] {kV:K→Value} {l:List (Nat×Nat)} (hl:fL P kt=some l) (heq: ∀ x y w,(Op.equal kt (kV x) (kV y)).run P w= .ok (decide (x=y)) w) (inj: ∀ x y,kV x=kV y→x=y)
 (hb: ∀ x,Instr.sameBits 10000 (kV x) (kV x)=true) (hp: ∀ x w,∃ cs,kV x= .agg cs∧ ∀ p∈l,(∃ v,(part p.1 cs p.2).run P w= .ok v w)∧ ∃ k,P.underlying p.1=some (.int k)):vu P kt kV:=
 ⟨fun e x w=>by obtain ⟨cs,A,B⟩:=hp x w; rw [A]; exact AZ hl e 9998 cs w B,fun x w es=>Cj (En hl) heq inj x w es,hb,inj⟩
end
section
open Go.RowKit
set_option linter.unusedSectionVars false
theorem iz {P:Program} {kt:Nat} (hk:P.underlying kt=some (.int .i64)):vu P kt (Value.int .i64):=by
 refine ⟨fun e x w=>GD hk e,fun x w es A=>?_,fun x=>by simp [Instr.sameBits],fun x y h=>by injection h⟩
 have key: ∀ (es:List MapEntry) (i:Nat),(∀ e∈es,∃ k:Int,e.key= .int .i64 k)→(Instr.findNow (.int .i64) (.int .i64 x) es i=some none∧ ∀ e∈es,e.key≠ .int .i64 x)∨ ∃ j e,Instr.findNow (.int .i64) (.int .i64 x) es i=some (some (i+j,e.val))∧es[j]? =some e∧e.key= .int .i64 x:=by
  intro es
  induction es with
  |nil=>intro i _; exact .inl ⟨rfl,sm⟩
  |cons e es ih=>
   intro i A
   obtain ⟨k,B⟩:=A e sm
   by_cases h:x=k
   ·subst h
    exact .inr ⟨0,e,by simp [Instr.findNow,Instr.sameNow,B],U,B⟩
   ·have hb:(x==k)=false:=by simpa using h
    rcases ih (i+1) (fun y hy=>A y (by simp [hy])) with ⟨C,D⟩|⟨j,e',C,D,E⟩
    ·refine .inl ⟨by simp [Instr.findNow,Instr.sameNow,B,hb,C],fun y hy=>?_⟩
     rcases bR.1 hy with rfl|hy
     ·rw [B]; intro q; injection q with _ q; exact h q.symm
     ·exact D y hy
    ·refine .inr ⟨j+1,e',?_,by simpa using D,E⟩
     simp only [Instr.findNow,Instr.sameNow,B,hb,if_true,C]
     simp; omega
 rcases key es 0 A with ⟨C,D⟩|⟨j,e,C,D,E⟩
 ·exact .inl ⟨MapKept.run_findKey hk C,D⟩
 ·exact .inr ⟨j,e,MapKept.run_findKey hk (by simpa using C),D,E⟩
theorem St.NP {S:BS} {w0 w w':World} {C:List ay} {A N:ay} (h:St S w0 C w) (i:Nat) (hA:C[i]? =some A) (k:dZ no w w') (hN:N.holds w') (hf: ∀ b,N.fI b→w.heap.size≤b∨A.fI b∧ ¬ A.wf b∧ ¬ N.wf b):St S w0 (N::C) w':=by
 have h':=h.same k
 have G:=aP hA
 have hi:=(aZ.1 hA).1
 have B:C[i]=A:=(aZ.1 hA).2
 refine ⟨h'.keeps,fun X hX=>?_,List.Pairwise.cons (fun X hX b hb hb'=>?_) h'.sep,fun X hX b hb=>?_,fun X hX b hb=>?_⟩
 ·rcases bR.1 hX with rfl|hX
  ·exact hN
  ·exact h'.holds X hX
 ·rcases hf b hb with E|⟨E,AA,H⟩
  ·have:=X.lt w (h.holds X hX) b hb'; omega
  ·refine ⟨H,?_⟩
   obtain ⟨j,hj,D⟩:=List.mem_iff_getElem.1 hX
   by_cases e:j=i
   ·subst e; rw [← D,B]; exact AA
   ·rcases Nat.lt_or_gt_of_ne e with F|F
    ·have:=eC.1 h.sep j i hj hi F b (by rw [D]; exact hb') (by rw [B]; exact E)
     rw [← D]; exact this.1
    ·have:=eC.1 h.sep i j hi hj F b (by rw [B]; exact E) (by rw [D]; exact hb')
     rw [← D]; exact this.2
 ·rcases bR.1 hX with rfl|hX
  ·rcases hf b (X.kR b hb) with E|⟨_,_,H⟩
   ·exact .inl (Nat.le_trans h.keeps.size E)
   ·exact absurd hb H
  ·exact h'.own X hX b hb
 ·rcases bR.1 hX with rfl|hX
  ·rcases hf b hb with E|⟨E,_,_⟩
   ·exact .inl (Nat.le_trans h.keeps.size E)
   ·exact h.seen A G b E
  ·exact h'.seen X hX b hb
section
variable {K:Type} [DecidableEq K] {kV:K→Value}
/-- an iterator over a map that is read alone -/
def Dp (kV:K→Value) (r b:Nat) (m left:List (K×Value)) (cur:Option (K×Value)):ay where
 fI k:=k=r∨k=b
 wf k:=k=r
 holds w:=r≠b∧ ∃ (es:Array MapEntry) (c since:Nat) (seen:Array Nat) (st:Nat),w.heap[b]? =some (.map es c)∧jo kV es c m∧w.heap[r]? =some (.mapIter (some b) since seen st)∧(∀ e∈es.toList,e.born<since)∧since≤st∧since≤c∧
  (leftOf es seen).toList.map (fun (e:MapEntry)=>(e.key,e.val))=left.map (fun p=>(kV p.1,p.2))∧
  ∀ p,cur=some p→ ∃ (e:MapEntry) (seen0:Array Nat),e∈es.toList∧seen=seen0.push e.born∧st=c∧e.key=kV p.1∧e.val=p.2
 wr:=false
 kR _ h:= .inl h
 whole h:=by cases h
 lt w h k hk:=by
  obtain ⟨_,es,c,since,seen,st,h1,_,h2,_⟩:=h
  rcases hk with rfl|rfl
  ·exact eu h2
  ·exact eu h1
 pw w w' hk h:=by
  obtain ⟨hne,es,c,since,seen,st,h1,h2,h3,h4⟩:=h
  exact ⟨hne,es,c,since,seen,st,(hk b (.inr rfl)).trans h1,h2,(hk r (.inl rfl)).trans h3,h4⟩
theorem pL {r b:Nat} {m left:List (K×Value)} {cur:Option (K×Value)}:(∀ w,(Dp kV r b m left cur).holds w→(Dp kV r b m left none).holds w)∧(∀ k,(Dp kV r b m left none).fI k→(Dp kV r b m left cur).fI k)∧ ∀ k,(Dp kV r b m left none).wf k→(Dp kV r b m left cur).wf k:=
 ⟨fun w h=>by
  obtain ⟨A,es,c,since,seen,st,B,C,D,E,F,h5',G,_⟩:=h
  exact ⟨A,es,c,since,seen,st,B,C,D,E,F,h5',G,fun p hp=>by cases hp⟩,fun _ h=>h,fun _ h=>h⟩
section
variable {E:fp} {ops:Array Oper} {Q:dv} {rest:List Oper} {D:List Deferred} {L:List (Nat×Value)} {C:List ay}
variable {dst:Option Tmp} {d:Nat} {ty:TypeId} {ps:String} {af:Array Edge} {g:Option (Nat×Bool)}
theorem qw {t kt et:TypeId} {xm:Operand} {b:Nat} {m:List (K×Value)} {A:ay} (i:Nat) (hg:j1 ops L g=true) (hm:ev L xm=some (.map (some b))) (ht:E.P.underlying t=some (.map kt et)) (hA:C[i]? =some A) (hAf:A.fI b∧ ¬ A.wf b) (hC:iJ C (kh kV b m).holds) (hd:Nat.blt d E.n=true)
 (k: ∀ r,RJ E ops Q rest D ((d,.pointer (some ⟨r,0,none⟩))::L) (Dp kV r b m m none::C)):RJ E ops Q (⟨some d,.range t xm,ty,ps,af,g⟩::rest) D L C:=by
 intro a w B hs
 have hd':d<E.n:=by rw [← Nat.blt_eq]; exact hd
 unfold tg
 rw [if_pos (eJ B hg)]
 obtain ⟨es,c,he,hi⟩:=hs.has hC
 have G:b<w.heap.size:=eu he
 have F:(getObj b).run E.P w= .ok (.map es c) w:=MapKept.run_getObj_map he
 refine iX (v:= .pointer (some ⟨w.heap.size,0,none⟩)) (w':=w.alloc (.mapIter (some b) c #[] c)) sm ?_ ?_
 ·simp [execOp,Instr.range,B.ev hm,run_underlying ht,F,newObj,Sem.run]
 ·refine k _ _ _ (B.put hd' _) (hs.NP i hA (dZ.alloc no w _) ⟨om,es,c,c,#[],c,?_,hi,heap_alloc_new w _,hi.PN,Nat.le_refl _,Nat.le_refl _,?_,fun p hp=>by cases hp⟩ (fun q hq=>?_))
  ·rw [Below.heap_alloc w _ b G]; exact he
  ·have:leftOf es #[]=es:=by unfold leftOf; exact Array.filter_eq_self.2 sm
   rw [this]; exact hi.list
  ·rcases hq with rfl|rfl
   ·exact .inl (Nat.le_refl _)
   ·refine .inr ⟨hAf.1,hAf.2,fun (e:q=w.heap.size)=>by omega⟩
theorem GL (hinj: ∀ x y,kV x=kV y→x=y) {xi:Operand} {r b:Nat} {m left:List (K×Value)} {cur:Option (K×Value)} (i:Nat) (hg:j1 ops L g=true) (hm:ev L xi=some (.pointer (some ⟨r,0,none⟩))) (hC:C[i]? =some (Dp kV r b m left cur)) (hd:Nat.blt d E.n=true)
 (k0:left=[]→RJ E ops Q rest D ((d,.tuple [.bool false].toArray)::L) C)
 (k1: ∀ x v,(x,v)∈left→(left.map (·.1)).Nodup→RJ E ops Q rest D ((d,.tuple [.bool true,kV x,v].toArray)::L) (C.set i (Dp kV r b m (fy left x) (some (x,v))))):
 RJ E ops Q (⟨some d,.next xi false,ty,ps,af,g⟩::rest) D L C:=by
 intro a w G hs
 have hd':d<E.n:=by rw [← Nat.blt_eq]; exact hd
 unfold tg
 rw [if_pos (eJ G hg)]
 obtain ⟨R,es,c,since,seen,st,X,hi,Y,J,V,M,A,_⟩:=hs.holds _ (aP hC)
 rcases run_next_at (P:=E.P) w ty r b since st seen es c Y X J V with ⟨Z,hr⟩|⟨e,he,N,H,hr⟩
 ·refine iX (v:= .tuple #[.bool false]) (w':=w) sm ?_ ?_
  ·simp [execOp,G.ev hm,hr]
  ·refine k0 ?_ _ _ (G.put hd' _) hs
   have:(leftOf es seen).toList=[]:=by rw [← List.length_eq_zero_iff,Array.length_toList]; exact Z
   rw [this] at A
   exact List.map_eq_nil_iff.1 A.symm
 ·have O:(e.key,e.val)∈left.map (fun p=>(kV p.1,p.2)):=by rw [← A]; exact cR.2 ⟨e,he,rfl⟩
  obtain ⟨p,hp,S⟩:=cR.1 O
  obtain ⟨x,v⟩:=p
  simp only [Prod.mk.injEq] at S
  obtain ⟨hk,hv⟩:=S
  refine iX (v:= .tuple #[.bool true,e.key,e.val]) (w':=ChangeMaps.setBlock N r (.mapIter (some b) since (seen.push e.born) c)) sm ?_ ?_
  ·simp [execOp,G.ev hm,hr]
  ·rw [← hk,← hv]
   have AA:=xO hinj hi A
   have F:e∈es.toList:=by unfold leftOf at he; rw [Array.toList_filter] at he; exact (List.mem_filter.1 he).1
   have f:c=c:=rfl
   have B:N.heap=w.heap:=by rcases H with rfl|rfl<;>rfl
   refine k1 x v hp AA _ _ (G.put hd' _) (hs.mv i hC ⟨⟨R,es,c,since,seen.push e.born,c,?_,hi,?_,J,M,M,?_,fun q hq=>?_⟩,?_,fun q hq=> .inl hq,fun q hq=> .inl hq⟩)
   ·show (N.heap.setIfInBounds r _)[b]? =_
    rw [Array.getElem?_setIfInBounds_ne R,B]; exact X
   ·show (N.heap.setIfInBounds r _)[r]? =_
    rw [Array.getElem?_setIfInBounds_self_of_lt (by rw [B]; exact eu Y)]
   ·have T:leftOf es (seen.push e.born)=(leftOf es seen).filter (fun z=> !(z.born==e.born)):=by
     unfold leftOf
     rw [Array.filter_filter]
     congr 1
     funext z
     simp only [Array.contains_push,Bool.not_or]
     rw [Bool.and_comm]
    rw [T,Array.toList_filter]
    have key: ∀ (l:List MapEntry) (ll:List (K×Value)),(∀ z∈l,z∈es.toList)→l.map (fun (e:MapEntry)=>(e.key,e.val))=ll.map (fun p=>(kV p.1,p.2))→
     (l.filter (fun z=> !(z.born==e.born))).map (fun (e:MapEntry)=>(e.key,e.val))=(fy ll x).map (fun p=>(kV p.1,p.2)):=by
     intro l
     induction l with
     |nil=>intro ll _ h; cases ll with
      |nil=>rfl
      |cons p ll=>simp at h
     |cons z l ih=>
      intro ll hz h
      cases ll with
      |nil=>simp at h
      |cons p ll=>
       simp only [List.map_cons,List.cons.injEq,Prod.mk.injEq] at h
       have ih':=ih ll (fun y hy=>hz y (by simp [hy])) h.2
       have AB:(z.born=e.born)↔(p.1=x):=by
        constructor
        ·intro hb
         have:z=e:=Dj hi.born (hz z sm) F hb
         rw [this] at h
         have:=h.1.1.symm.trans hk.symm
         exact hinj _ _ this
        ·intro hx
         have W:z.key=e.key:=by rw [h.1.1,hx,hk]
         rw [Dc hinj hi (hz z sm) F W]
       unfold fy at ih' ⊢
       by_cases hx:p.1=x
       ·rw [List.filter_cons_of_neg (by simp [AB.2 hx]),List.filter_cons_of_neg (by simp [hx])]; exact ih'
       ·rw [List.filter_cons_of_pos (by simpa using fun hb=>hx (AB.1 hb)),List.filter_cons_of_pos (by simpa using hx)]
        simp only [List.map_cons,h.1.1,h.1.2,ih']
    exact key _ _ (fun z hz=>by unfold leftOf at hz; rw [Array.toList_filter] at hz; exact (List.mem_filter.1 hz).1) A
   ·cases hq
    exact ⟨e,seen,F,U,U,hk.symm,hv.symm⟩
   ·refine ⟨?_,?_,?_,?_,fun q hq hn=>?_⟩
    ·rcases H with rfl|rfl<;>rfl
    ·rcases H with rfl|rfl<;>rfl
    ·rcases H with rfl|rfl<;>rfl
    ·show w.heap.size≤(N.heap.setIfInBounds r _).size
     simp [B]
    ·show (N.heap.setIfInBounds r _)[q]? =_
     rw [Array.getElem?_setIfInBounds_ne (fun e=>hn e.symm),B]
theorem oT {xi:Operand} {r b:Nat} {m left:List (K×Value)} {x:K} {v:Value} (i:Nat) (hg:j1 ops L g=true) (hm:ev L xi=some (.pointer (some ⟨r,0,none⟩))) (hC:C[i]? =some (Dp kV r b m left (some (x,v)))):
 SD E ops ⟨dst,.entry xi,ty,ps,af,g⟩ D L C (.tuple [kV x,v].toArray):=
 eL hg sm fun a w F hs=>by
  obtain ⟨N,es,c,since,seen,st,J,hi,M,H,O,AA,G,B⟩:=hs.holds _ (aP hC)
  obtain ⟨e,A,he,rfl,rfl,hk,hv⟩:=B _ rfl
  have:=run_entry_at (P:=E.P) w r b since A es st e M J he hi.born
  simp [execOp,F.ev hm,this,hk,hv]
theorem oM (hinj: ∀ x y,kV x=kV y→x=y) {β:Type} {f:β→Value} {xi:Operand} {r b:Nat} {m:List (K×Value)} {ll:List (K×β)} {cur:Option (K×Value)} (i:Nat) (hg:j1 ops L g=true) (hm:ev L xi=some (.pointer (some ⟨r,0,none⟩))) (hC:C[i]? =some (Dp kV r b m (cT f ll) cur)) (hd:Nat.blt d E.n=true)
 (k0:ll=[]→RJ E ops Q rest D ((d,.tuple [.bool false].toArray)::L) C)
 (k1: ∀ x y,(x,y)∈ll→(ll.map (·.1)).Nodup→RJ E ops Q rest D ((d,.tuple [.bool true,kV x,f y].toArray)::L) (C.set i (Dp kV r b m (cT f (fy ll x)) (some (x,f y))))):
 RJ E ops Q (⟨some d,.next xi false,ty,ps,af,g⟩::rest) D L C:=by
 refine GL hinj i hg hm hC hd (fun h=>k0 (List.map_eq_nil_iff.1 h)) (fun x v B hn=>?_)
 obtain ⟨p,hp,A⟩:=cR.1 B
 simp only [Prod.mk.injEq] at A
 obtain ⟨rfl,rfl⟩:=A
 have:=k1 p.1 p.2 hp (by simpa [cT,Function.comp_def] using hn)
 rwa [ou] at this
theorem zO {t kt et:TypeId} {xm xk xv:Operand} {b:Nat} {x:K} {v:Value} {m m':List (K×Value)} {C':List ay} (i:Nat) (hg:j1 ops L g=true) (hm:ev L xm=some (.map (some b))) (hk:ev L xk=some (kV x)) (hv:ev L xv=some v)
 (ht:E.P.underlying t=some (.map kt et)) (hkt:vu E.P kt kV) (hC:C[i]? =some (kh kV b m)) (hm':ew m x v=m') (hC':C.set i (kh kV b m')=C') (k:RJ E ops Q rest D L C'):
 RJ E ops Q (⟨none,.insert t xm xk xv,ty,ps,af,g⟩::rest) D L C:=by
 subst hm' hC'
 intro a w A hs
 unfold tg
 rw [if_pos (eJ A hg)]
 obtain ⟨es,c,he,hi⟩:=hs.holds _ (aP hC)
 have B:(getObj b).run E.P w= .ok (.map es c) w:=MapKept.run_getObj_map he
 rcases pg (P:=E.P) (w:=w) (x:=x) hkt hi with ⟨AA,F⟩|⟨j,N,AA,F,J⟩
 ·refine sR (w':={w with heap:=w.heap.setIfInBounds b (.map (es.push {key:=kV x,val:=v,born:=c}) (c+1))}) sm ?_ ?_
  ·simp [execOp,A.ev hm,A.ev hk,A.ev hv,Instr.mapUpdate,run_underlying ht,B,jd hkt,AA,MapKept.run_setObj_map _ he]
  ·refine k _ _ ⟨A.defers,A.size,A.at_⟩ (hs.zw (b:=b) i hC U U (nJ _) (fun _ h=>h) ⟨_,_,pP he,?_⟩)
   have:ew m x v=m++[(x,v)]:=by unfold ew; rw [F]; rfl
   rw [this]; exact hi.push F v
 ·have M:=hi.size
  have G:j<es.size:=by have:=(aZ.1 F).1; omega
  have H:(es[j]).key=kV x:=by
   have:=congrArg (fun l=>l[j]?) hi.list
   simp [G,F] at this
   exact this.1
  refine sR (w':={w with heap:=w.heap.setIfInBounds b (.map (es.modify j fun e=>{e with key:=kV x,val:=v}) c)}) sm ?_ ?_
  ·simp [execOp,A.ev hm,A.ev hk,A.ev hv,Instr.mapUpdate,run_underlying ht,B,jd hkt,AA,MapKept.run_setObj_map _ he,Instr.keyThatStays,G,H,hkt.bits x]
  ·exact k _ _ ⟨A.defers,A.size,A.at_⟩ (hs.zw (b:=b) i hC U U (nJ _) (fun _ h=>h) ⟨_,_,pP he,hi.set F J v⟩)
end
end
end
section
open Go.RowKit
def Vr {σ:Type} (w0:World) (P:Program) (l:Nat) (step:σ→List Value→σ→Prop) (J:σ→ay→Prop) (Z:ay→Prop):Prop:=
 ∀ k x k' A w,step k x k'→J k A→w0.heap.size≤w.heap.size→A.holds w→YieldAt (Fw none) 0 P l x.toArray w fun e w'=>
  (e= .returned (.bool true)∧ ∃ B,J k' B∧Mv A B w w')∨(e= .returned (.bool false)∧ ∃ B,Z B∧Mv A B w w')
def B8 {σ:Type} (J:σ→ay→Prop) (Z:ay→Prop) (fin:σ→Prop) (A0:ay) (w0:World) (e:Ending) (w':World):Prop:=
 ∃ v,e= .returned v∧((∃ s B,fin s∧J s B∧Mv A0 B w0 w')∨ ∃ B,Z B∧Mv A0 B w0 w')
structure MK {σ:Type} (P:Program) (f:FuncId) (fi ca:List Value) (Cp:List ay) (s0:σ) (step:σ→List Value→σ→Prop) (fin:σ→Prop):Prop where
 go:sU P f=true
 run: ∀ (l:Nat) (J:σ→ay→Prop) (Z:ay→Prop) (A0:ay) (w:World),Vr w P l step J Z→J s0 A0→A0.holds w→(∀ A∈Cp,A.holds w)→(∀ A∈Cp,Dk A0 A.ro)→
  Calls P f (fi++Value.func (.yield l) #[] #[]::ca).toArray w (B8 J Z fin A0 w)
theorem QV {σ:Type} {J:σ→ay→Prop} {Z:ay→Prop} {n:σ} {fin:σ→Prop} {A0 B:ay} {w0 w:World} {C:List ay} {v:Value} (i:Nat) (hC:C[i]? =some B) (hfin:fin n) (hJ:J n B) (hF:Fo A0 w0 B) (hs:St ⟨A0.wf,fun _=>True⟩ w0 C w):B8 J Z fin A0 w0 (.returned v) w:=
 ⟨v,rfl,.inl ⟨n,B,hfin,hJ,hs.holds B (aP hC),hs.keeps,fun b hb=>(hs.own B (aP hC) b hb).symm,hF⟩⟩
theorem E1 {σ:Type} {J:σ→ay→Prop} {Z:ay→Prop} {fin:σ→Prop} {A0 B:ay} {w0 w:World} {C:List ay} {v:Value} (i:Nat) (hC:C[i]? =some B) (hJ:Z B) (hF:Fo A0 w0 B) (hs:St ⟨A0.wf,fun _=>True⟩ w0 C w):B8 J Z fin A0 w0 (.returned v) w:=
 ⟨v,rfl,.inr ⟨B,hJ,hs.holds B (aP hC),hs.keeps,fun b hb=>(hs.own B (aP hC) b hb).symm,hF⟩⟩
theorem Ff {σ:Type} {P:Program} {f:FuncId} {fn:Func} {c:Code} {fi ca:List Value} {Cp:List ay} {s0:σ} {step:σ→List Value→σ→Prop} {fin:σ→Prop} (hgo:sU P f=true) (hf:P.funcs[f]? =some fn) (hb:fn.body=some c) (hn:Nat.ble (fi.length+ca.length+1) fn.ntmps=true)
 (h: ∀ (l:Nat) (J:σ→ay→Prop) (Z:ay→Prop) (A0:ay) (w0:World) (Q:dv),Vr w0 P l step J Z→J s0 A0→Fo A0 w0 A0→
  (∀ D L C,LJ ⟨P,none,fn.ntmps,⟨A0.wf,fun _=>True⟩,w0⟩ fn (B8 J Z fin A0 w0) D L C→KJ ⟨P,none,fn.ntmps,⟨A0.wf,fun _=>True⟩,w0⟩ (Q .ret) D L C)→
  (∀ D L C,LJ ⟨P,none,fn.ntmps,⟨A0.wf,fun _=>True⟩,w0⟩ fn (B8 J Z fin A0 w0) D L C→KJ ⟨P,none,fn.ntmps,⟨A0.wf,fun _=>True⟩,w0⟩ (Q .normal) D L C)→
  WJ ⟨P,none,fn.ntmps,⟨A0.wf,fun _=>True⟩,w0⟩ c Q [] (OI (fi++Value.func (.yield l) #[] #[]::ca)) (A0::Cp.map ay.ro)):MK P f fi ca Cp s0 step fin:=by
 refine ⟨hgo,fun l J Z A0 w hY hJ hA F E=>?_⟩
 refine AJ hf hb (by simpa [Nat.add_assoc] using hn) (h l J Z A0 w · hY hJ (fun b hb=> .inl hb)) ?_
 have G:=rO F
 refine ⟨dZ.refl _ _,fun A hA'=>?_,List.Pairwise.cons (fun B hB=>?_) G.sep,fun A hA' b hb=>?_,fun _ _ _ _=> .inr trivial⟩
 ·rcases bR.1 hA' with rfl|hA'
  ·exact hA
  ·exact G.holds A hA'
 ·obtain ⟨B',hB',rfl⟩:=cR.1 hB
  exact E B' hB'
 ·rcases bR.1 hA' with rfl|hA'
  ·exact .inr hb
  ·obtain ⟨B',hB',rfl⟩:=cR.1 hA'
   exact hb.elim
section
variable {E:fp} {ops:Array Oper} {Q:dv} {rest:List Oper} {D:List Deferred} {L:List (Nat×Value)} {C:List ay}
variable {d:Nat} {ty:TypeId} {ps:String} {af:Array Edge} {g:Option (Nat×Bool)}
/-- a call of yield -/
theorem xn {σ:Type} {fop:Operand} {xs:Array Operand} {ts:Array TypeId} {l:Nat} {k k':σ} {vs:List Value} {step:σ→List Value→σ→Prop} {J:σ→ay→Prop} {Z:ay→Prop} {A0 A:ay} {w1:World} (i:Nat) (hw1:w1.heap.size≤E.w0.heap.size) (hY:Vr w1 E.P l step J Z) (hJ:J k A) (hF:Fo A0 w1 A) (hg:j1 ops L g=true) (hf:ev L fop=some (.func (.yield l) #[] #[]))
 (hx:evs L xs.toList=some vs) (hk:step k vs k') (hC:C[i]? =some A) (hd:Nat.blt d E.n=true)
 (k1: ∀ B,J k' B→Fo A0 w1 B→RJ E ops Q rest D ((d,.bool true)::L) (C.set i B))
 (k2: ∀ B,Z B→Fo A0 w1 B→RJ E ops Q rest D ((d,.bool false)::L) (C.set i B)):
 RJ E ops Q (⟨some d,.call {callee:= .value fop,args:=xs,argTypes:=ts},ty,ps,af,g⟩::rest) D L C:=by
 intro a w F hs
 have hd':d<E.n:=by rw [← Nat.blt_eq]; exact hd
 unfold tg
 rw [if_pos (eJ F hg)]
 have K:xs.map a.eval=vs.toArray:=by
  have:=F.evs hx
  apply Array.ext'
  simp [this]
 obtain ⟨fn,tmps,assign,body,hy,hr⟩:=hY k vs k' A w hk hJ (Nat.le_trans hw1 hs.keeps.size) (hs.holds A (aP hC))
 have H:(execOp a.eval ⟨some d,.call {callee:= .value fop,args:=xs,argTypes:=ts},ty,ps,af,g⟩).run E.P w= .ok (.round l fn tmps assign body) w:=by
  simp [execOp,resolve,F.ev hf,Deferred.ofValue,invoke,K,hy]
 refine ⟨fun _ _=>trivial,?_⟩
 rw [Oper.semAt_eq _ _ _ sm,H]
 refine ⟨fun h=>by simp at h,?_⟩
 have G: ∀ (B:ay) (w':World),Mv A B w w'→Fo A0 w1 B:=fun B w' m b hb=>by
  rcases m.fI b hb with AA|AA
  ·exact hF b AA
  ·exact .inr (Nat.le_trans hw1 (Nat.le_trans hs.keeps.size AA))
 have hr':RoundIn (Fw E.r) 0 E.P l fn tmps assign body w _:=hr
 refine hr'.mono fun e w' he=>?_
 rcases he with ⟨rfl,B,hB,m⟩|⟨rfl,B,hB,m⟩
 ·exact k1 B hB (G B w' m) _ _ (F.put hd' _) (hs.mv i hC m)
 ·exact k2 B hB (G B w' m) _ _ (F.put hd' _) (hs.mv i hC m)
end
theorem t_ {σ:Type} {E:fp} {Q:dv} {D:g8} {L L0:dA} {C F:List ay} {g:Operand} {ps:Array Tmp} {assign body:Code} {f:FuncId} {fi ca:List Value} {Cp:List ay} {s0:σ} {step:σ→List Value→σ→Prop} {fin_:σ→Prop} {ι κ:Type}
 (inv:σ→ι→Prop) (Ci:σ→ι→List ay) (invx:Code→κ→Prop) (Cx:Code→κ→List ay) (isJ isF:List Nat) (y0:ι)
 (hr:E.r=none) (hg:ev L g=some (.func (.func f) fi.toArray ca.toArray)) (hs:MK E.P f fi ca Cp s0 step fin_)
 (hnd:decide (isJ++isF).Nodup=true) (hJ:j0 C isJ=Ci s0 y0) (hF:j0 C isF=F) (h0:inv s0 y0) (hCp: ∀ A∈Cp,∃ B∈F,KN B A)
 (hps: ∀ k x k',step k x k'→x.length=ps.size) (hpn:ps.toList.all (fun t=>Nat.blt t E.n)=true) (hL:dG L L0)
 (round: ∀ (k:σ) (x:List Value) (k':σ) (y:ι) (l:Nat) (ra rb:Loop) (S:BS) (w0:World) (K:Act→World→Prop) (Qr:dv),E.w0.heap.size≤w0.heap.size→step k x k'→inv k y→
  (∀ L' C',WJ ⟨E.P,some l,E.n,S,w0⟩ body Qr [] L' (jg l (.loop rb)::C')→KJ ⟨E.P,some l,E.n,S,w0⟩ K [] L' (jg l (.loop ra)::C'))→
  (∀ y' L' C',inv k' y'→(∀ w,St S w0 C' w→St S w0 (jg l (.loop rb)::Ci k' y') w)→KJ ⟨E.P,some l,E.n,S,w0⟩ (Qr .normal) [] L' C')→
  (∀ id z L' C',invx (.exit id) z→(∀ w,St S w0 C' w→St S w0 (jg l (.loop rb)::Cx (.exit id) z) w)→KJ ⟨E.P,some l,E.n,S,w0⟩ (Qr (.exit id)) [] L' C')→
  (∀ z L' C',invx .ret z→(∀ w,St S w0 C' w→St S w0 (jg l (.loop rb)::Cx .ret z) w)→KJ ⟨E.P,some l,E.n,S,w0⟩ (Qr .ret) [] L' C')→
  WJ ⟨E.P,some l,E.n,S,w0⟩ assign (Exit.then K (fun _ _ _=>False)) [] (yP ps.toList x L0) (jg l (.loop ra)::Ci k y))
 (fin: ∀ r s y,fin_ s→inv s y→KJ E (Q .normal) (jR r::D) L0 (jg r (.deferred (some []))::(F++Ci s y)))
 (finx: ∀ r id z,invx (.exit id) z→KJ E (Q (.exit id)) (jR r::D) L0 (jg r (.deferred (some []))::(F++Cx (.exit id) z)))
 (finr: ∀ r z,invx .ret z→KJ E (Q .ret) (jR r::D) L0 (jg r (.deferred (some []))::(F++Cx .ret z))):WJ E (.rangeFunc g ps assign body) Q D L C:=by
 intro a w hf q
 refine wpIn_rangeFunc fun fn _=>?_
 show ∃ l jR w₁ d w₁' f args w₂,(Instr.enterLoop fn a.tmps ps assign body E.r).run E.P w= .ok (l,jR) w₁∧_
 rw [hr]
 obtain ⟨rec,G⟩: ∃ rec:LoopState→Option Code→Loop,rec=fun st pe=>{state:=st,pending:=pe,fn,tmps:=a.tmps,params:=ps,assign,body,defers:=w.heap.size}:=⟨_,rfl⟩
 obtain ⟨W1,R⟩: ∃ W1,(w.alloc (.deferred (some []))).alloc (.loop (rec .ready none))=W1:=⟨_,rfl⟩
 have A1:a.eval g= .func (.func f) fi.toArray ca.toArray:=hf.ev hg
 have p:(Instr.enterLoop fn a.tmps ps assign body none).run E.P w= .ok (w.heap.size+1,[jR w.heap.size]) W1:=by
  rw [← R,G]; exact run_enterLoop_outer _ _ _ _ _
 -- the state with the record and the block
 have u:St E.S E.w0 ((jg (w.heap.size+1) (.loop (rec .ready none))::Ci s0 y0)++(jg w.heap.size (.deferred (some []))::F)) W1:=by
  have X:St E.S E.w0 (Ci s0 y0++F) w:=St.j0 (isJ++isF) hnd (by have X:=hJ; have j:=hF; unfold Go.Proofs.YtfhghdbminmhnaaGreatDoor.j0 at X j ⊢; rw [List.filterMap_append,X,j]) q
  have hn:L8 w W1 [jg (w.heap.size+1) (.loop (rec .ready none)),jg w.heap.size (.deferred (some []))]:=by
   refine ⟨fun A hA=>?_,fun A hA b hb=>?_,?_⟩
   ·rcases bR.1 hA with rfl|hA
    ·show W1.heap[w.heap.size+1]? =_
     rw [← R]; have:=World.alloc_heap_new (w.alloc (.deferred (some []))) (.loop (rec .ready none)); rwa [World.size_alloc] at this
    ·simp only [cv] at hA; subst hA
     show W1.heap[w.heap.size]? =_
     rw [← R]; exact (Below.heap_alloc _ _ _ sm).trans (World.alloc_heap_new w _)
   ·rcases bR.1 hA with rfl|hA
    ·have:b=w.heap.size+1:=hb
     omega
    ·simp only [cv] at hA; subst hA
     have:b=w.heap.size:=hb
     omega
   ·refine List.Pairwise.cons (fun B hB b X j=>?_) (List.pairwise_singleton _ _)
    simp only [cv] at hB; subst hB
    have V:b=w.heap.size+1:=X
    have O:b=w.heap.size:=j
    omega
  have hk:dZ no w W1:=by rw [← R]; exact (dZ.alloc no w _).trans (dZ.alloc no _ _)
  have j:=X.grow hk hn
  refine j.perm ?_
  simp only [List.cons_append,List.nil_append]
  exact List.Perm.cons _ (List.perm_middle.symm)
 have Y:=u.tied
 obtain ⟨H,A6⟩:=List.pairwise_cons.1 Y.sep
 have Ad:=Y.holds _ (cx ..)
 let J:σ→ay→Prop:=fun k A=> ∃ y,inv k y∧A=bV (jg (w.heap.size+1) (.loop (rec .ready none))::Ci k y)
 let Z:ay→Prop:=fun A=> ∃ c z,(c= .ret∨ ∃ id,c= .exit id)∧invx c z∧A=bV (jg (w.heap.size+1) (.loop (rec .done (some c)))::Cx c z)
 refine ⟨w.heap.size+1,[jR w.heap.size],W1,{target:= .fn (.func f) ca.toArray,args:=fi.toArray++ #[.func (.yield (w.heap.size+1)) #[] #[]]},W1,f,
  (fi++Value.func (.yield (w.heap.size+1)) #[] #[]::ca).toArray,W1,p,?_,fun _ _=>trivial,?_,fun h=>by simp at h,?_⟩
 ·simp only [resolve,A1]
  simp [Deferred.ofValue,Act.eval]
 ·have:fi.toArray++ #[Value.func (.yield (w.heap.size+1)) #[] #[]]++ca.toArray=(fi++Value.func (.yield (w.heap.size+1)) #[] #[]::ca).toArray:=by simp
  simp [invoke,nE hs.go]
 ·refine (pN E.r (hs.run (w.heap.size+1) J Z _ W1 ?_ ⟨y0,h0,U⟩ Ad ?_ ?_)).mono ?_
  ·-- a round
   rintro k x k' A W hx ⟨y,hy,rfl⟩ A0 hA
   have hl:W.heap[w.heap.size+1]? =some (.loop (rec .ready none)):=hA.1 _ (cx ..)
   have AC:=run_yield (P:=E.P) (args:=x.toArray) hl (by rw [G]; simpa using hps k x k' hx)
   rw [G] at AC
   refine ⟨fn,_,assign,body,AC,roundIn_of_wpIn trivial ?_⟩
   let A:ay:=bV (jg (w.heap.size+1) (.loop (rec .ready none))::Ci k y)
   have A2:Fr E.n [] (yP ps.toList x L0) {tmps:=(ps.zip x.toArray).foldl (fun tmps (t,a)=>tmps.setIfInBounds t a) a.tmps,defers:=[]}:=by
    have X:=EM ps.toList x L0 a.tmps (fun t ht=>by have:=cN.1 hpn t ht; rwa [Nat.blt_eq] at this) ⟨rfl,hf.size,fun t v hv=>hf.at_ t v (hL t v hv)⟩
    rw [← Array.foldl_toList]
    simpa using X
   have o: ∀ (c:Option Code) (b:Bool),({rec .busy none with state:=if b then .ready else .done,pending:=c}:Loop)=rec (if b then .ready else .done) c:=fun c b=>by rw [G]
   have T: ∀ (c:Option Code) (N:World) (C':List ay) (S:BS),St S W (jg (w.heap.size+1) (.loop (rec .busy none))::C') N→
    ∃ M,(Instr.endRound (w.heap.size+1) c).run E.P N= .ok (.bool c.isNone) M∧St S W (jg (w.heap.size+1) (.loop (rec (if c.isNone then .ready else .done) c))::C') M:=fun c N C' S H=>by
    have AB:N.heap[w.heap.size+1]? =some (.loop (rec .busy none)):=H.holds _ (cx ..)
    refine ⟨_,run_endRound c AB,?_⟩
    have:=H.zw (b:=w.heap.size+1) (A':=jg (w.heap.size+1) (.loop (rec (if c.isNone then .ready else .done) c))) 0 rfl rfl rfl (g4 _) (fun _ h=>h) (World.putObj_heap_same (eu AB))
    rw [o]
    exact this
   refine round k x k' y (w.heap.size+1) (rec .ready none) (rec .busy none) ⟨A.wf,A.fI⟩ W _ (roundPost E.P (w.heap.size+1) (fun e w'=>(e= .returned (.bool true)∧ ∃ B,J k' B∧Mv A B W w')∨(e= .returned (.bool false)∧ ∃ B,Z B∧Mv A B W w'))) (Nat.le_trans (Nat.le_trans q.keeps.size (by rw [← R]; simp; omega)) A0) hx hy ?_ ?_ ?_ ?_ _ _ A2 (St.An hA)
   ·intro L' C' hW a1 N i H
    have AB:N.heap[w.heap.size+1]? =some (.loop (rec .ready none)):=H.holds _ (cx ..)
    refine ⟨_,run_beginRound AB (by rw [G]),hW _ _ i ?_⟩
    have:=H.zw (b:=w.heap.size+1) (A':=jg (w.heap.size+1) (.loop (rec .busy none))) 0 rfl rfl rfl (g4 _) (fun _ h=>h) (World.putObj_heap_same (eu AB))
    have e:({rec .ready none with state:= .busy}:Loop)=rec .busy none:=by rw [G]
    rw [e]; exact this
   ·intro y' L' C' hy' hC' a1 N i H
    obtain ⟨M,V,O⟩:=T none N _ _ (hC' _ H)
    exact ⟨_,M,V,.inl ⟨U,_,⟨y',hy',U⟩,Mv.of O⟩⟩
   ·intro id z L' C' hz hC' a1 N i H
    obtain ⟨M,V,O⟩:=T (some (.exit id)) N _ _ (hC' _ H)
    exact ⟨_,M,V,.inr ⟨U,_,⟨_,z,.inr ⟨id,U⟩,hz,U⟩,Mv.of O⟩⟩
   ·intro z L' C' hz hC' a1 N i H
    obtain ⟨M,V,O⟩:=T (some .ret) N _ _ (hC' _ H)
    exact ⟨_,M,V,.inr ⟨U,_,⟨_,z,.inl U,hz,U⟩,Mv.of O⟩⟩
  ·intro A hA
   obtain ⟨B,hB,hc⟩:=hCp A hA
   exact hc.holds _ (Y.holds B (di _ (di _ hB)))
  ·intro A hA b hb hb'
   obtain ⟨B,hB,hc⟩:=hCp A hA
   exact ⟨(H B (di _ hB) b hb (hc.fI b hb')).1,fun h=>h⟩
  ·rintro e w' ⟨v,rfl,hh⟩
   have AA:Fr E.n (jR w.heap.size::D) L0 {a with defers:=[jR w.heap.size]++a.defers}:=⟨by simp [hf.defers],hf.size,fun t v hv=>hf.at_ t v (hL t v hv)⟩
   have hleave: ∀ (st:LoopState) (c:Option Code) (C':List ay),st≠ .busy→Mv (bV (jg (w.heap.size+1) (.loop (rec .ready none))::Ci s0 y0)) (bV (jg (w.heap.size+1) (.loop (rec st c))::C')) W1 w'→
    ∃ M,(Instr.endLoop (w.heap.size+1)).run E.P w'= .ok c M∧St E.S E.w0 (jg w.heap.size (.deferred (some []))::(F++C')) M:=fun st c C' A4 m=>by
    have X:=(Y.mv 0 rfl m).iO
    have h1':St E.S E.w0 ((jg (w.heap.size+1) (.loop (rec st c))::C')++(jg w.heap.size (.deferred (some []))::F)) w':=X
    have AB:w'.heap[w.heap.size+1]? =some (.loop (rec st c)):=h1'.holds (jg (w.heap.size+1) (.loop (rec st c))) sm
    refine ⟨_,by have:=run_endLoop (P:=E.P) AB (by rw [G]; exact A4); rw [this,G],?_⟩
    have j:=h1'.zw (b:=w.heap.size+1) (A':=jg (w.heap.size+1) (.loop {rec st c with state:= .exhausted})) 0 rfl rfl rfl (g4 _) (fun _ h=>h) (World.putObj_heap_same (eu AB))
    have h3:St E.S E.w0 (C'++(jg w.heap.size (.deferred (some []))::F)) _:=j.take (List.sublist_cons_self _ _)
    rw [G] at h3
    refine h3.perm ?_
    exact (List.perm_append_comm).trans sm
   rcases hh with ⟨s,B,A3,⟨y,hy,rfl⟩,m⟩|⟨B,⟨c,z,hc,hz,rfl⟩,m⟩
   ·obtain ⟨M,V,O⟩:=hleave .ready none _ sm m
    exact ⟨none,M,V,fin w.heap.size s y A3 hy _ _ AA O⟩
   ·obtain ⟨M,V,O⟩:=hleave .done (some c) _ sm m
    refine ⟨some c,M,V,?_⟩
    rcases hc with rfl|⟨id,rfl⟩
    ·exact wpIn_ret (finr w.heap.size z hz _ _ AA O)
    ·exact wpIn_exit (finx w.heap.size id z hz _ _ AA O)
end
section
open Go.RowKit
/-- where a row lies, and its capacity -/
abbrev RA:=OA×Nat
/-- what is asked of memory by all elements -/
def br {M A:Type} (f:M→A→List ay):List M→List A→List ay
 |m::ms,a::asl=>f m a++br f ms asl
 |_,_=>[]
theorem bQ {M A:Type} {f:M→A→List ay}: ∀ {ms:List M} {asl:List A} {k:Nat} {m:M} {a:A} {X:ay},ms[k]? =some m→asl[k]? =some a→X∈f m a→X∈br f ms asl
 |[],_,k,m,a,X,h,_,_=>by simp at h
 |_::_,[],k,m,a,X,_,h,_=>by simp at h
 |x::ms,y::asl,0,m,a,X,h,h2,hX=>by
  simp at h h2; subst h h2
  exact List.mem_append_left _ hX
 |x::ms,y::asl,k+1,m,a,X,h,h2,hX=>List.mem_append_right _ (bQ (ms:=ms) (asl:=asl) (k:=k) (by simpa using h) (by simpa using h2) hX)
theorem kf {M A:Type} {f:M→A→List ay}: ∀ {ms:List M} {asl:List A} {X:ay},X∈br f ms asl→ ∃ (k:Nat) (m:M) (a:A),ms[k]? =some m∧asl[k]? =some a∧X∈f m a
 |[],_,X,h=>by cases h
 |_::_,[],X,h=>by cases h
 |x::ms,y::asl,X,h=>by
  rcases gu.1 h with h|h
  ·exact ⟨0,x,y,U,U,h⟩
  ·obtain ⟨k,m,a,B,C,D⟩:=kf h
   exact ⟨k+1,m,a,by simpa using B,by simpa using C,D⟩
theorem jx {M A:Type} {f:M→A→List ay}: ∀ {ms:List M} {asl:List A} {ns:List M} {bs:List A},ms.length=asl.length→br f (ms++ns) (asl++bs)=br f ms asl++br f ns bs
 |[],[],ns,bs,_=>rfl
 |[],_::_,ns,bs,h=>by simp at h
 |_::_,[],ns,bs,h=>by simp at h
 |x::ms,y::asl,ns,bs,h=>by
  simp only [List.cons_append,br,List.append_assoc]
  rw [jx (by simpa using h)]
theorem dF {M A β:Type} {f:M→A→β} {ms:List M} {asl:List A} {k:Nat} {m:M} {a:A} (h:ms[k]? =some m) (h2:asl[k]? =some a):(List.zipWith f ms asl)[k]? =some (f m a):=by
 rw [List.getElem?_zipWith,h,h2]
theorem cU {C L:List ay} {A:ay} (i:Nat) (hC:C[i]? =some (dT L).ro) (hm:A∈L):iJ C A.holds:=fun w hw=>hw _ (aP hC) A hm
theorem eT {M A:Type} {f g:M→A→List ay} {ms:List M} {asl:List A} {C:List ay} (i:Nat) (hC:C[i]? =some (bV (br g ms asl))) (h: ∀ m a w,(∀ X∈g m a,X.holds w)→ ∀ X∈f m a,X.holds w):iJ C (dT (br f ms asl)).holds:=fun w hw X hX=>by
 have hb:=hw _ (aP hC)
 obtain ⟨k,m,a,B,D,E⟩:=kf hX
 exact h m a w (fun Y hY=>hb.1 Y (bQ B D hY)) X E
/-- a row that is part of another one -/
theorem NV {C:List ay} {A:OA} {n k sz:Nat} {es:List (List Value)} (hR:iJ C (rd A n sz es).holds) (hk:k≤n):iJ C (rd A k sz (es.take k)).holds:=fun w hw=>by
 obtain ⟨D,E,F⟩:=hR w hw
 refine ⟨by rw [List.length_take,D]; omega,fun x hx=>E x (List.mem_of_mem_take hx),fun hp=>?_⟩
 have G:0<k:=Nat.pos_of_mul_pos_right hp
 have hs:0<sz:=Nat.pos_of_mul_pos_left hp
 obtain ⟨ad,hA,B⟩:=F (Nat.mul_pos om hs)
 refine ⟨ad,hA,fun i e j v he hv=>B i e j v ?_ hv⟩
 rw [List.getElem?_take] at he
 split at he
 ·exact he
 ·cases he
section
variable {E:fp} {ops:Array Oper} {Q:dv} {rest:List Oper} {D:List Deferred} {L:List (Nat×Value)} {C:List ay}
variable {d:Nat} {ty:TypeId} {ps:String} {af:Array Edge} {g:Option (Nat×Bool)}
/-- an element of a slice that is the head of a row -/
theorem WC (k:Nat) {x ix:Operand} {A:OA} {n n' c sz e t:Nat} {es:List (List Value)} {j:Int} (h:bF E.n ops L d g x ix=some (.slice A n' c,.int .i64 j)) (hR:iJ C (rd A n sz es).holds)
 (ht:tE E.P t=some (e,sz)) (hz:0<sz) (hj:j=(k:Int)) (hk:k<n') (hn:n'≤n):SE E ops ⟨some d,.indexAddr t x ix,ty,ps,af,g⟩ D L C (.pointer (mB A (k*sz))) d:=IA k h (NV hR hn) ht hz hj hk
end
theorem St.tie {S:BS} {w0 w:World} {C:List ay} {A:ay} {L L':List ay} (h:St S w0 (A::bV L::C) w) (e:L++[A]=L'):St S w0 (bV L'::C) w:=by
 subst e
 have B:St S w0 (bV L::A::C) w:=h.perm (List.Perm.swap _ _ _)
 have D:St S w0 (L++(A::C)) w:=B.iO
 have E:St S w0 ((L++[A])++C) w:=by simpa using D
 exact E.tied
theorem St.Pv {S:BS} {w0 w:World} {C:List ay} (h:St S w0 C w):St S w0 (bV []::C) w:=St.tied (C1:=[]) h
section
variable {E:fp} {Q:dv} {D:List Deferred} {L:List (Nat×Value)} {C:List ay}
theorem n9 {c:Code} (h:WJ E c Q D L (bV []::C)):WJ E c Q D L C:=fun a w hf hs=>h a w hf hs.Pv
theorem ye {ops:Array Oper} {rest:List Oper} (h:RJ E ops Q rest D L (bV []::C)):RJ E ops Q rest D L C:=fun a w hf hs=>h a w hf hs.Pv
theorem xM {K:Act→World→Prop} {C1:List ay} {A:ay} {X X':List ay} (i j:Nat) (hn:decide (j::i::(List.range C.length).filter fun k=>k != i&&k != j).Nodup=true) (hC:j0 C (j::i::(List.range C.length).filter fun k=>k != i&&k != j)=A::bV X::C1) (e:X++[A]=X')
 (h:KJ E K D L (bV X'::C1)):KJ E K D L C:=fun a w hf hs=>h a w hf ((St.j0 _ hn hC hs).tie e)
theorem OW {ops:Array Oper} {rest:List Oper} {C1:List ay} {A:ay} {X X':List ay} (i j:Nat) (hn:decide (j::i::(List.range C.length).filter fun k=>k != i&&k != j).Nodup=true) (hC:j0 C (j::i::(List.range C.length).filter fun k=>k != i&&k != j)=A::bV X::C1) (e:X++[A]=X')
 (h:RJ E ops Q rest D L (bV X'::C1)):RJ E ops Q rest D L C:=fun a w hf hs=>h a w hf ((St.j0 _ hn hC hs).tie e)
end
end
section
open Go.RowKit
abbrev jY:ag→Value:=fun s=>vA (ag.cells s)
abbrev eI:aN→Value:=fun s=>vA (aN.cells s)
abbrev TM:=List (Int×ag)
abbrev FM:=List (aN×Int)
def gv {α:Type} (m:α) (b:Nat):List Value:=[Value.map (some b)]
def p7 (m:TM) (b:Nat):List ay:=[kh iV b (cT jY m)]
def nk (m:FM) (b:Nat):List ay:=[kh eI b (cT iV m)]
theorem lU {M A:Type} {f:M→A→List ay}: ∀ (m:M) (a:A) (w:World),(∀ X∈f m a,X.holds w)→ ∀ X∈f m a,X.holds w:=fun _ _ _ h=>h
/-- untied -/
theorem Fe {E:fp} {ops:Array Oper} {Q:dv} {rest:List Oper} {D:g8} {L:dA} {C X C1:List ay} (i:Nat) (hn:decide (i::(List.range C.length).filter fun k=>k != i).Nodup=true) (hC:j0 C (i::(List.range C.length).filter fun k=>k != i)=bV X::C1)
 (h:RJ E ops Q rest D L (X++C1)):RJ E ops Q rest D L C:=fun a w hf hs=>h a w hf (St.iO (St.j0 _ hn hC hs))
end
section
def cV (ln:cr) (rd:cb) (e:List Int) (tms:List TM):cg:=⟨rd.Start,rd.gh,e,tms,ln.dq,ln.fO,(rd.ab.n:Int)⟩
def OU (o:Int×ag):List Value:=[.int .i64 o.1,.agg (ag.cells o.2).toArray]
structure GV (w:cg):Prop where
 n:w.n≤6
 times:w.zH.length=w.n
 now:0≤w.Start∧w.Start≤w.gh∧w.gh≤86400000
 least: ∀ x∈w.qJ,1≤x∧x≤500000000
 FC: ∀ t∈w.zH,∀ p∈t,(0≤p.1∧p.1≤10)∧0≤p.2.Lo∧p.2.Lo≤p.2.Hi∧p.2.Hi≤86400000
theorem GV.opt {w:cg} (h:GV w) {b:Nat} {o:Int×ag} (ho:o∈jK w b):(-1≤o.1∧o.1≤10)∧0≤o.2.Lo∧o.2.Lo≤o.2.Hi∧o.2.Hi≤86400000:=by
 unfold jK wW at ho
 rcases bR.1 ho with rfl|ho
 ·have:=h.now; simp only; omega
 ·cases ht:w.zH[b]? with
  |none=>simp [ht] at ho
  |some t=>
   rw [ht] at ho
   have:=h.FC t (aP ht) o ho
   omega
theorem GV.cO {w:cg} (h:GV w) (b:Nat):0≤cO w b∧cO w b≤500000000:=by
 unfold Go.Proofs.YtfhghdbminmhnaaGreatDoor.cO
 cases ht:w.qJ[b]? with
 |none=>simp
 |some x=>have:=h.least x (aP ht); simp only [Option.getD_some]; omega
theorem vw (s:Int):(0≤(fV s).right∧0≤(fV s).e7)∧(fV s).right+(fV s).e7=1:=by unfold fV; split<;>simp
theorem JY {w:cg} (h:GV w): ∀ (b:Nat) p,p∈pO w b→(0≤p.2∧p.2≤86400000)∧(0≤p.1.right∧0≤p.1.e7)∧p.1.right+p.1.e7=(b:Int):=by
 intro b
 induction b with
 |zero=>
  intro p hp
  simp only [pO,cv] at hp
  subst hp
  have:=h.now; simp only; omega
 |succ b ih=>
  intro q hq
  obtain ⟨p,hp,o,ho,e⟩:=jA.1 hq
  have A:=ih p hp
  have B:=h.opt ho
  have C:=h.cO b
  have D:=h.now
  have E:=vw o.1
  unfold m_ at e
  split at e
  ·simp only [Option.some.injEq] at e
   subst e
   simp only [dM]
   omega
  ·cases e
theorem Sg {w:cg} (h:GV w): ∀ (k:Nat) p,p∈Ov w k→(-(500000000*(k:Int))≤p.2∧p.2≤86400000)∧(0≤p.1.right∧0≤p.1.e7)∧p.1.right+p.1.e7≤(k:Int):=by
 intro k
 induction k with
 |zero=>
  intro p hp
  simp only [Ov,cv] at hp
  subst hp
  have:=h.now; simp only; omega
 |succ k ih=>
  intro q hq
  simp only [Ov,bR,List.mem_flatMap,List.mem_filterMap] at hq
  rcases hq with rfl|⟨p,hp,o,ho,e⟩
  ·have:=h.now; simp only; omega
  ·have A:=ih p hp
   have B:=h.opt ho
   have C:=h.cO (w.n-(k+1))
   have D:=h.now
   have E:=vw o.1
   unfold pC at e
   split at e
   ·simp only [Option.some.injEq] at e
    subst e
    simp only [dM]
    omega
   ·cases e
theorem Iv {w:cg} (h:GV w) {b:Nat} {p:aN×Int} (hp:p∈back w b):(-3000000000≤p.2∧p.2≤86400000)∧(0≤p.1.right∧0≤p.1.e7)∧p.1.right+p.1.e7≤6:=by
 have:=Sg h _ _ hp
 have:=h.n
 omega
theorem xV {w:cg} {b:Nat} {t:TM} (ht:w.zH[b]? =some t) {o:Int×ag}:o∈jK w b↔o=(-1,⟨w.Start,w.gh⟩)∨o∈t:=by
 unfold jK wW; rw [ht]; simp
theorem l5 {K β:Type} [DecidableEq K] {l:List (K×β)} {x:K} {y:β} (hn:(l.map (·.1)).Nodup) (hm:(x,y)∈l) {o:K×β} (h:o∈l):o∈fy l x∨o=(x,y):=by
 by_cases e:o.1=x
 ·right
  obtain ⟨k,v⟩:=o
  simp only at e
  subst e
  have B:=(lk hn).1 h
  have A:=(lk hn).1 hm
  rw [B] at A
  cases A; rfl
 ·exact .inl (zh.2 ⟨h,e⟩)
theorem GK {K β:Type} [DecidableEq K] {t l ys:List (K×β)} {x:K} {y:β} (hn:(l.map (·.1)).Nodup) (hm:(x,y)∈l) (h: ∀ o∈t,o∈l∨o∈ys): ∀ o∈t,o∈fy l x∨o∈ys++[(x,y)]:=fun o ho=>by
 rcases h o ho with h|h
 ·rcases l5 hn hm h with h|h
  ·exact .inl h
  ·exact .inr (by simp [h])
 ·exact .inr (by simp [h])
theorem mO {K β:Type} [DecidableEq K] {t l:List (K×β)} {x:K} (h: ∀ o∈l,o∈t): ∀ o∈fy l x,o∈t:=fun o ho=>h o (zh.1 ho).1
theorem Jr {w:cg} {m left:List (aN×Int)} (h: ∀ p∈m,p∈left∨l8 w p.1=false) (h0:left=[]):lf w m=false:=by
 unfold lf
 rw [List.any_eq_false]
 intro p hp
 rcases h p hp with q|q
 ·rw [h0] at q; cases q
 ·simp [q]
theorem NZ {w:cg} {m:List (aN×Int)} {p:aN×Int} (hp:p∈m) (h:l8 w p.1=true):lf w m=true:=List.any_eq_true.2 ⟨p,hp,h⟩
theorem Jz {w:cg} {m left:List (aN×Int)} {t:aN} {v:Int} (hn:(left.map (·.1)).Nodup) (hm:(t,v)∈left) (h: ∀ p∈m,p∈left∨l8 w p.1=false) (hf:l8 w t=false): ∀ p∈m,p∈fy left t∨l8 w p.1=false:=fun p hp=>by
 rcases h p hp with q|q
 ·rcases l5 hn hm q with q|q
  ·exact .inl q
  ·right; rw [q]; exact hf
 ·exact .inr q
/-- what the maps of a watch are -/
structure wg (w:cg) (fs:List (List (aN×Int))):Prop where
 len:fs.length=w.n+1
 min: ∀ (b:Nat) m,fs[b]? =some m→uB m (pO w b)
 keys: ∀ (b:Nat) m,fs[b]? =some m→(m.map (·.1)).Nodup
structure tH (w:cg) (bs:List (List (aN×Int))):Prop where
 len:bs.length=w.n+1
 max: ∀ (b:Nat) m,bs[b]? =some m→wa m (back w b)
 keys: ∀ (b:Nat) m,bs[b]? =some m→(m.map (·.1)).Nodup
theorem wg.mem {w:cg} {fs:List (List (aN×Int))} (h:wg w fs) {b:Nat} {m:List (aN×Int)} (hm:fs[b]? =some m) {p:aN×Int} (hp:p∈m):p∈pO w b:=(h.min b m hm).1 _ _ ((fT (h.keys b m hm)).1 hp)
theorem tH.mem {w:cg} {fs:List (List (aN×Int))} (h:tH w fs) {b:Nat} {m:List (aN×Int)} (hm:fs[b]? =some m) {p:aN×Int} (hp:p∈m):p∈back w b:=(h.max b m hm).1 _ _ ((fT (h.keys b m hm)).1 hp)
theorem G7 {w:cg} {b:Nat} {t l ys:List (Int×ag)} (ht:w.zH[b]? =some t) (h: ∀ o∈t,o∈l∨o∈ys) (h0:l=[]) (hs:(-1,(⟨w.Start,w.gh⟩:ag))∈ys): ∀ o∈jK w b,o∈ys:=fun o ho=>by
 rcases (xV ht).1 ho with rfl|ho
 ·exact hs
 ·rcases h o ho with q|q
  ·rw [h0] at q; cases q
  ·exact q
end
section
/-- by these options all is yielded -/
def lY (w:cg) (b:Nat) (mf mb:List (aN×Int)) (os ys:List (Int×ag)):Prop:= ∀ o∈os,∀ p∈mf,∀ u∈mb,∀ q,mN w b p u o=some q→q∈ys
def oj (w:cg) (b:Nat) (mf mb:List (aN×Int)) (o:Int×ag) (left:List (aN×Int)) (ys:List (Int×ag)):Prop:= ∀ p∈mf,p∈left∨ ∀ u∈mb,∀ q,mN w b p u o=some q→q∈ys
def nU (w:cg) (b:Nat) (mb:List (aN×Int)) (o:Int×ag) (p:aN×Int) (left:List (aN×Int)) (ys:List (Int×ag)):Prop:= ∀ u∈mb,u∈left∨ ∀ q,mN w b p u o=some q→q∈ys
variable {w:cg} {b:Nat} {mf mb left:List (aN×Int)} {o x:Int×ag} {os ys:List (Int×ag)} {p u:aN×Int}
theorem lY.nil:lY w b mf mb [] ys:=fun o ho=>by cases ho
theorem lY.app (h:lY w b mf mb os ys):lY w b mf mb os (ys++[x]):=fun o ho p hp u hu q e=>List.mem_append_left _ (h o ho p hp u hu q e)
theorem oj.app (h:oj w b mf mb o left ys):oj w b mf mb o left (ys++[x]):=fun p hp=>(h p hp).imp id fun h u hu q e=>List.mem_append_left _ (h u hu q e)
theorem oj.start:oj w b mf mb o mf ys:=fun p hp=> .inl hp
theorem nU.start:nU w b mb o p mb ys:=fun p hp=> .inl hp
theorem nU.skip {t:aN} {v:Int} (hn:(left.map (·.1)).Nodup) (hm:(t,v)∈left) (h:nU w b mb o p left ys) (he:mN w b p (t,v) o=none):nU w b mb o p (fy left t) ys:=fun u hu=>by
 rcases h u hu with q|q
 ·rcases l5 hn hm q with q|q
  ·exact .inl q
  ·right; intro z hz; rw [q,he] at hz; cases hz
 ·exact .inr q
theorem nU.UG {t:aN} {v:Int} (hn:(left.map (·.1)).Nodup) (hm:(t,v)∈left) (h:nU w b mb o p left ys) (he:mN w b p (t,v) o=some x):nU w b mb o p (fy left t) (ys++[x]):=fun u hu=>by
 rcases h u hu with q|q
 ·rcases l5 hn hm q with q|q
  ·exact .inl q
  ·right; intro z hz; rw [q,he] at hz; cases hz; simp
 ·right; intro z hz; exact List.mem_append_left _ (q z hz)
theorem oj.next {t:aN} {v:Int} {l2:List (aN×Int)} (hn:(left.map (·.1)).Nodup) (hm:(t,v)∈left) (h:oj w b mf mb o left ys) (hq:nU w b mb o (t,v) l2 ys) (h0:l2=[]):oj w b mf mb o (fy left t) ys:=fun p hp=>by
 rcases h p hp with q|q
 ·rcases l5 hn hm q with q|q
  ·exact .inl q
  ·right; intro u hu z hz; subst q
   rcases hq u hu with q|q
   ·rw [h0] at q; cases q
   ·exact q z hz
 ·exact .inr q
theorem lY.next (h:lY w b mf mb os ys) (hp:oj w b mf mb o left ys) (h0:left=[]):lY w b mf mb (os++[o]) ys:=fun o' ho p hp' u hu q e=>by
 rcases gu.1 ho with ho|ho
 ·exact h o' ho p hp' u hu q e
 ·simp only [cv] at ho; subst ho
  rcases hp p hp' with z|z
  ·rw [h0] at z; cases z
  ·exact z u hu q e
theorem lY.fin (h:lY w b mf mb os ys) (ho: ∀ o∈jK w b,o∈os): ∀ q∈qA w b mf mb,q∈ys:=fun q hq=>by
 obtain ⟨o,A,p,B,u,C,e⟩:=jq.1 hq
 exact h o (ho o A) p B u C q e
theorem Gz (h:max (p.2+cO w b) o.2.Lo≤min u.2 o.2.Hi) (h2:l8 w (dM (dM p.1 u.1) (fV o.1))=true):mN w b p u o=some (o.1,⟨max (p.2+cO w b) o.2.Lo,min u.2 o.2.Hi⟩):=by
 unfold mN lp zT; rw [if_pos ⟨h,h2⟩]
theorem Jm (h: ¬ max (p.2+cO w b) o.2.Lo≤min u.2 o.2.Hi):mN w b p u o=none:=by
 unfold mN lp; rw [if_neg (fun q=>h q.1)]
theorem Gw (h2:l8 w (dM (dM p.1 u.1) (fV o.1))=false):mN w b p u o=none:=by
 unfold mN zT; rw [if_neg (fun q=>by rw [h2] at q; exact absurd q.2 dc)]
theorem og {v:Int} (h:w.qJ[b]? =some v):cO w b=v:=by unfold cO; rw [h]; rfl
theorem Cz {t q:aN} {v z y:Int} (hy:w.qJ[b]? =some y) (h:max (v+y) o.2.Lo≤min z o.2.Hi) (h2:l8 w (dM (dM t q) (fV o.1))=true):mN w b (t,v) (q,z) o=some (o.1,⟨max (v+y) o.2.Lo,min z o.2.Hi⟩):=by
 have e:=og hy
 subst e
 exact Gz h h2
theorem GX {t q:aN} {v z y:Int} (hy:w.qJ[b]? =some y) (h: ¬ max (v+y) o.2.Lo≤min z o.2.Hi):mN w b (t,v) (q,z) o=none:=by
 have e:=og hy
 subst e
 exact Jm h
theorem oF {m:List (aN×Int)} {k:aN} {y:Int} (h:(m.map (·.1)).Nodup):((ew m k y).map (·.1)).Nodup:=by
 unfold ew
 by_cases hx:(m.lookup k).isSome
 ·rw [if_pos hx,List.map_map]
  have e:m.map ((fun p=>p.1)∘fun p=>if p.1=k then (k,y) else p)=m.map (·.1):=by
   apply List.map_congr_left
   intro p _
   simp only [Function.comp]
   split
   ·rename_i e; exact e.symm
   ·rfl
  rw [e]; exact h
 ·rw [if_neg hx,List.map_append,List.nodup_append]
  refine ⟨h,sm,?_⟩
  intro a ha c hc
  simp only [List.map_cons,List.map_nil,cv] at hc
  rw [hc]
  obtain ⟨p,hp,rfl⟩:=cR.1 ha
  have hn:m.lookup k=none:=by cases h0:m.lookup k with
   |none=>rfl
   |some v=>exact absurd (by rw [h0]; rfl) hx
  exact im.1 hn p hp
theorem CU {m:List (aN×Int)} {q:aN×Int} (h:(m.map (·.1)).Nodup):((pQ m q).map (·.1)).Nodup:=by
 unfold pQ; split
 ·exact oF h
 ·split
  ·exact oF h
  ·exact h
theorem BN {m:List (aN×Int)} {q:aN×Int} (h:(m.map (·.1)).Nodup):((pz m q).map (·.1)).Nodup:=by
 unfold pz; split
 ·exact oF h
 ·split
  ·exact oF h
  ·exact h
/-- a map of the first times, on its way -/
structure yF (w:cg) (b:Nat) (m:List (aN×Int)):Prop where
 snd:wx m (pO w (b+1))
 keys:(m.map (·.1)).Nodup
structure wN (w:cg) (b:Nat) (m:List (aN×Int)):Prop where
 snd:wx m (back w b)
 keys:(m.map (·.1)).Nodup
 zero: ∃ v,m.lookup ⟨0,0⟩=some v∧w.gh≤v
theorem IW (h:max (p.2+cO w b) o.2.Lo≤min o.2.Hi w.gh):m_ w b p o=some (dM p.1 (fV o.1),max (p.2+cO w b) o.2.Lo):=by unfold m_; rw [if_pos h]
theorem NA (h: ¬ max (p.2+cO w b) o.2.Lo≤min o.2.Hi w.gh):m_ w b p o=none:=by unfold m_; rw [if_neg h]
theorem Jc (h:o.2.Lo≤min p.2 o.2.Hi):pC w b p o=some (dM p.1 (fV o.1),min p.2 o.2.Hi-cO w b):=by unfold pC; rw [if_pos h]
theorem NX (h: ¬ o.2.Lo≤min p.2 o.2.Hi):pC w b p o=none:=by unfold pC; rw [if_neg h]
theorem yF.start:yF w b []:=⟨fun t v h=>by simp at h,List.nodup_nil⟩
theorem yF.add {m:List (aN×Int)} {q:aN×Int} (h:yF w b m) (hp:p∈pO w b) (ho:o∈jK w b) (he:m_ w b p o=some q):yF w b (pQ m q):=⟨GU h.snd (jA.2 ⟨p,hp,o,ho,he⟩),CU h.keys⟩
theorem wN.start (hb:b<w.n):wN w b [(⟨0,0⟩,w.gh)]:=⟨fun t v h=>by
 obtain ⟨rfl,rfl⟩:=pf.1 h
 exact (px hb).2 (.inl U),sm,w.gh,pf.2 ⟨U,U⟩,Int.le_refl _⟩
theorem wN.add {m:List (aN×Int)} {q:aN×Int} (hb:b<w.n) (h:wN w b m) (hp:p∈back w (b+1)) (ho:o∈jK w b) (he:pC w b p o=some q):wN w b (pz m q):=⟨Hj h.snd ((px hb).2 (.inr ⟨p,hp,o,ho,he⟩)),BN h.keys,by
 obtain ⟨v,A,C⟩:=h.zero
 obtain ⟨v',B,D⟩:=rq (q:=q) _ _ A
 exact ⟨v',B,om⟩⟩
theorem jt.none_ {m:List (aN×Int)} (h:jt w b m p os) (he:m_ w b p o=none):jt w b m p (os++[o]):=h.add (x5.refl _) fun q hq=>by rw [he] at hq; cases hq
theorem jt.Ik {m:List (aN×Int)} {q:aN×Int} (h:jt w b m p os) (he:m_ w b p o=some q):jt w b (pQ m q) p (os++[o]):=h.add wF fun q' hq=>by rw [he] at hq; cases hq; exact Gy
theorem ju.none_ {m:List (aN×Int)} (h:ju w b m p os) (he:pC w b p o=none):ju w b m p (os++[o]):=h.add (xh.refl _) fun q hq=>by rw [he] at hq; cases hq
theorem ju.Ik {m:List (aN×Int)} {q:aN×Int} (h:ju w b m p os) (he:pC w b p o=some q):ju w b (pz m q) p (os++[o]):=h.add rq fun q' hq=>by rw [he] at hq; cases hq; exact HN
/-- what of a map of the beam before is used already -/
def j8 (w:cg) (b:Nat) (mb m left:List (aN×Int)):Prop:= ∀ p∈mb,p∈left∨jt w b m p (jK w b)
def jQ (w:cg) (b:Nat) (mb m left:List (aN×Int)):Prop:= ∀ p∈mb,p∈left∨ju w b m p (jK w b)
theorem j8.start {m:List (aN×Int)}:j8 w b mb m mb:=fun p hp=> .inl hp
theorem jQ.start {m:List (aN×Int)}:jQ w b mb m mb:=fun p hp=> .inl hp
theorem j8.lower {m m':List (aN×Int)} (h:j8 w b mb m left) (hl:x5 m m'):j8 w b mb m' left:=fun p hp=>(h p hp).imp id fun h=>h.lower hl
theorem jQ.upper {m m':List (aN×Int)} (h:jQ w b mb m left) (hl:xh m m'):jQ w b mb m' left:=fun p hp=>(h p hp).imp id fun h=>h.upper hl
theorem j8.next {m:List (aN×Int)} {t:aN} {v:Int} (hn:(left.map (·.1)).Nodup) (hm:(t,v)∈left) (h:j8 w b mb m left) (hd:jt w b m (t,v) os) (ho: ∀ o∈jK w b,o∈os):j8 w b mb m (fy left t):=fun p hp=>by
 rcases h p hp with q|q
 ·rcases l5 hn hm q with q|q
  ·exact .inl q
  ·right; rw [q]; exact hd.sub ho
 ·exact .inr q
theorem jQ.next {m:List (aN×Int)} {t:aN} {v:Int} (hn:(left.map (·.1)).Nodup) (hm:(t,v)∈left) (h:jQ w b mb m left) (hd:ju w b m (t,v) os) (ho: ∀ o∈jK w b,o∈os):jQ w b mb m (fy left t):=fun p hp=>by
 rcases h p hp with q|q
 ·rcases l5 hn hm q with q|q
  ·exact .inl q
  ·right; rw [q]; exact hd.sub ho
 ·exact .inr q
theorem j8.fin {m:List (aN×Int)} (h:j8 w b mb m left) (h0:left=[]): ∀ p∈mb,jt w b m p (jK w b):=fun p hp=>by
 rcases h p hp with q|q
 ·rw [h0] at q; cases q
 ·exact q
theorem jQ.fin {m:List (aN×Int)} (h:jQ w b mb m left) (h0:left=[]): ∀ p∈mb,ju w b m p (jK w b):=fun p hp=>by
 rcases h p hp with q|q
 ·rw [h0] at q; cases q
 ·exact q
end
section
def mK (a b:ag):ag:=⟨a.Lo+b.Lo,a.Hi+b.Hi⟩
def gj:ag:=⟨0,0⟩
def kQ (a:ag) (l:List ag):ag:=l.foldl mK a
def lX (z:ag):Prop:=(-1000000000≤z.Lo∧z.Lo≤1000000000)∧ -1000000000≤z.Hi∧z.Hi≤1000000000
theorem ze {a:ag} {l:List ag} {i:Nat} {z:ag} (h:l[i]? =some z):kQ a (l.take (i+1))=mK (kQ a (l.take i)) z:=by
 rw [List.take_add_one,h]; unfold kQ; simp
theorem Qv {a:ag} {l:List ag} (ha:lX a) (hl: ∀ z∈l,lX z): ∀ i:Nat,(-1000000000-1000000000*(i:Int)≤(kQ a (l.take i)).Lo∧(kQ a (l.take i)).Lo≤1000000000+1000000000*(i:Int))∧ -1000000000-1000000000*(i:Int)≤(kQ a (l.take i)).Hi∧(kQ a (l.take i)).Hi≤1000000000+1000000000*(i:Int):=by
 intro i
 induction i with
 |zero=>unfold lX at ha; simp [kQ]; omega
 |succ i ih=>
  cases h:l[i]? with
  |none=>rw [List.take_add_one,h]; simp only [Option.toList_none,List.append_nil]; omega
  |some z=>
   have hz:=hl z (aP h)
   unfold lX at hz
   rw [ze h]
   simp only [mK]
   omega
theorem Kb {a:ag} {l:List ag} {i:Nat} (h:l.length≤i):kQ a (l.take i)=kQ a l:=by rw [List.take_of_length_le h]
theorem nR {a z:ag}:vA (ag.cells (kQ a [z]))=vA (ag.cells (mK a z)):=rfl
theorem Cq {a y z:ag}:vA (ag.cells (kQ a [y,z]))=vA (ag.cells (mK (mK a y) z)):=rfl
/-- how long the run is from one mark, over so many stretches; by how much it falls -/
def eN (ts:List ar) (f:Nat):Nat→ag
 |0=>gj
 |k+1=>match ts[f+k]? with
  |some x=>mK (eN ts f k) x.kG
  |none=>eN ts f k
def gI (ts:List ar) (f:Nat):Nat→ag
 |0=>gj
 |k+1=>match ts[f+k]? with
  |some x=>mK (gI ts f k) x.mm
  |none=>gI ts f k
theorem qy {ts:List ar} {f k:Nat} {x:ar} (h:ts[f+k]? =some x):eN ts f (k+1)=mK (eN ts f k) x.kG:=by simp [eN,h]
theorem qi {ts:List ar} {f k:Nat} {x:ar} (h:ts[f+k]? =some x):gI ts f (k+1)=mK (gI ts f k) x.mm:=by simp [gI,h]
theorem mD {ts:List ar} (ht: ∀ x∈ts,bX x) (f:Nat): ∀ k:Nat,(0≤(eN ts f k).Lo∧(eN ts f k).Lo≤(eN ts f k).Hi)∧(eN ts f k).Hi≤30000*(k:Int):=by
 intro k
 induction k with
 |zero=>simp [eN,gj]
 |succ k ih=>
  simp only [eN]
  cases h:ts[f+k]? with
  |none=>simp only; omega
  |some x=>
   have hx:=(ht x (aP h)).2.1
   simp only [ek] at hx
   simp only [mK]
   omega
theorem Fa {ts:List ar} (ht: ∀ x∈ts,bX x) (f:Nat): ∀ k:Nat,(0≤(gI ts f k).Lo∧(gI ts f k).Lo≤(gI ts f k).Hi)∧(gI ts f k).Hi≤5000*(k:Int):=by
 intro k
 induction k with
 |zero=>simp [gI,gj]
 |succ k ih=>
  simp only [gI]
  cases h:ts[f+k]? with
  |none=>simp only; omega
  |some x=>
   have hx:=(ht x (aP h)).2.2.1
   simp only [ek] at hx
   simp only [mK]
   omega
theorem rU {ts:List ar} (ht: ∀ x∈ts,bX x) {f k:Nat} (hk:k≤13):lX (eN ts f k):=by
 have:=mD ht f k; unfold lX; omega
theorem x9 {ts:List ar} (ht: ∀ x∈ts,bX x) {f k:Nat} (hk:k≤13):lX (gI ts f k):=by
 have:=Fa ht f k; unfold lX; omega
theorem vL {x:ar} (h:bX x):lX x.kG:=by have:=h.2.1; simp only [ek] at this; unfold lX; omega
theorem ve {x:ar} (h:bX x):lX x.mm:=by have:=h.2.2.1; simp only [ek] at this; unfold lX; omega
theorem zR {ts:List ar} (h: ¬ (if dB ts=true then (0:Int) else 10)=0):dB ts=false∧(if dB ts=true then (0:Int) else 10)=10:=by
 cases ht:dB ts with
 |true=>rw [ht] at h; exact absurd rfl h
 |false=>exact ⟨rfl,rfl⟩
theorem Eh {ts:List ar} (h:(if dB ts=true then (0:Int) else 10)=0):dB ts=true:=by
 cases ht:dB ts with
 |true=>rfl
 |false=>rw [ht] at h; exact absurd h dc
/-- what the iterator of marks yields -/
def uj (ts:List ar) (f:Nat):List (List Value):=(List.range (ts.length-f+1)).map fun (k:Nat)=>[.agg (eN ts f k).cells.toArray,.agg (gI ts f k).cells.toArray]
theorem u6 {ts:List ar} {f:Nat}:(uj ts f).length=ts.length-f+1:=by simp [uj]
theorem zG {ts:List ar} {f k:Nat} (h:k≤ts.length-f):(uj ts f)[k]? =some [.agg (eN ts f k).cells.toArray,.agg (gI ts f k).cells.toArray]:=by
 simp [uj,List.getElem?_range (show k<ts.length-f+1 by omega)]
theorem Gv {ts:List ar} {f k:Nat} {x:List Value} (h:(uj ts f)[k]? =some x):k≤ts.length-f∧x=[.agg (eN ts f k).cells.toArray,.agg (gI ts f k).cells.toArray]:=by
 have hi:k<ts.length-f+1:=by
  have:=(aZ.1 h).1
  simpa [uj] using this
 rw [zG om] at h
 exact ⟨om,(Option.some.inj h).symm⟩
theorem Dy {ts:List ar} {f:Nat}: ∀ x∈uj ts f,x.length=2:=fun x hx=>by
 obtain ⟨k,_,rfl⟩:=cR.1 hx; rfl
end
section
def fR (ts:List ar) (s:cH):Prop:=(0≤s.bB∧s.bB<(ts.length:Int))∧ ∃ x,ts[s.bB.toNat]? =some x∧ek s.m0 0 (x.kG.Lo-1)
noncomputable instance (ts:List ar) (s:cH):Decidable (fR ts s):=Classical.propDecidable _
theorem BE {ts:List ar} {s:cH} {x:ar} (h:0≤s.bB∧s.bB<(ts.length:Int)) (hx:ts[s.bB.toNat]? =some x):fR ts s↔ek s.m0 0 (x.kG.Lo-1):=
 ⟨fun A=>by obtain ⟨y,hy,B⟩:=A.2; rw [hx] at hy; cases hy; exact B,fun A=>⟨h,x,hx,A⟩⟩
theorem B5 {ts:List ar} {s:cH} (h: ¬ (0≤s.bB∧s.bB<(ts.length:Int))): ¬ fR ts s:=fun A=>h A.1
theorem Az {ts:List ar} {s:cH} (ht: ∀ x∈ts,bX x) (h:fR ts s):(0≤s.m0.Lo∧s.m0.Lo≤s.m0.Hi)∧s.m0.Hi≤30000:=by
 obtain ⟨x,hx,A⟩:=h.2
 have:=(ht x (aP hx)).2.1
 simp only [ek] at A this
 omega
theorem Ed {ts:List ar} {a:cH}:vB (decide (∀ s∈[a],fR ts s))=vB (decide (fR ts a)):=congrArg _ (gR.2 sm)
theorem EA {ts:List ar} {a b:cH}:vB (decide (∀ s∈[a,b],fR ts s))=vB (decide (fR ts a∧fR ts b)):=congrArg _ (gR.2 sm)
def oL (z:ag):ag:=⟨-z.Hi,-z.Lo⟩
def L_ (ts:List ar) (s:cH):ag:=mK (eN ts 0 s.bB.toNat) s.m0
noncomputable def Fx (ts:List ar) (s:cH):Int:=if dB ts=true then (if fR ts s then 0 else 12) else 10
noncomputable def Q5 (ts:List ar) (s:cH):ag:=if Fx ts s=0 then L_ ts s else gj
theorem Jo {ts:List ar} {s:cH} (h:dB ts=false):Fx ts s=10∧Q5 ts s=gj:=by
 have e:Fx ts s=10:=by unfold Fx; rw [h]; rfl
 exact ⟨e,by unfold Q5; rw [e]; rfl⟩
theorem Jy {ts:List ar} {s:cH} (h:dB ts=true) (h2: ¬ fR ts s):Fx ts s=12∧Q5 ts s=gj:=by
 have e:Fx ts s=12:=by unfold Fx; rw [if_pos h,if_neg h2]
 exact ⟨e,by unfold Q5; rw [e]; rfl⟩
theorem yi {ts:List ar} {s:cH} (h:dB ts=true) (h2:fR ts s):Fx ts s=0∧Q5 ts s=L_ ts s:=by
 have e:Fx ts s=0:=by unfold Fx; rw [if_pos h,if_pos h2]
 exact ⟨e,if_pos e⟩
theorem F3 {ts:List ar} {s:cH} (h:dB ts=true):Fx ts s=0↔fR ts s:=by
 unfold Fx; rw [if_pos h]; split<;>simp [*]
def xS (ts:List ar) (a b:cH):ag:=eN ts (min a.bB b.bB).toNat (max a.bB b.bB-min a.bB b.bB).toNat
def j7 (ts:List ar) (a b:cH):ag:=mK (mK (if b.bB<a.bB then oL (xS ts a b) else xS ts a b) b.m0) (oL a.m0)
noncomputable def l_ (ts:List ar) (a b:cH):Int:=if dB ts=true then (if fR ts a∧fR ts b then 0 else 12) else 10
noncomputable def k6 (ts:List ar) (a b:cH):ag:=if l_ ts a b=0 then j7 ts a b else gj
theorem vE {ts:List ar} {a b:cH} (h:dB ts=false):l_ ts a b=10∧k6 ts a b=gj:=by
 have e:l_ ts a b=10:=by unfold l_; rw [h]; rfl
 exact ⟨e,by unfold k6; rw [e]; rfl⟩
theorem pE {ts:List ar} {a b:cH} (h:dB ts=true) (h2: ¬ (fR ts a∧fR ts b)):l_ ts a b=12∧k6 ts a b=gj:=by
 have e:l_ ts a b=12:=by unfold l_; rw [if_pos h,if_neg h2]
 exact ⟨e,by unfold k6; rw [e]; rfl⟩
theorem lB {ts:List ar} {a b:cH} (h:dB ts=true) (h2:fR ts a∧fR ts b):l_ ts a b=0∧k6 ts a b=j7 ts a b:=by
 have e:l_ ts a b=0:=by unfold l_; rw [if_pos h,if_pos h2]
 exact ⟨e,if_pos e⟩
theorem AU {z:ag} (h:lX z):lX (oL z):=by unfold lX oL at *; simp only; omega
theorem q6 {ts:List ar} {s:cH} (ht: ∀ x∈ts,bX x) (h:fR ts s):lX s.m0:=by have:=Az ht h; unfold lX; omega
theorem PY {ts:List ar} {a b:cH} (ht: ∀ x∈ts,bX x) (hl:ts.length≤12) (ha:fR ts a) (hb:fR ts b):(0≤(xS ts a b).Lo∧(xS ts a b).Lo≤(xS ts a b).Hi)∧(xS ts a b).Hi≤360000:=by
 have h:=mD ht (min a.bB b.bB).toNat (max a.bB b.bB-min a.bB b.bB).toNat
 have A:=ha.1
 have B:=hb.1
 unfold xS
 omega
theorem xU {ts:List ar} {a b:cH} (ht: ∀ x∈ts,bX x) (hl:ts.length≤12) (ha:fR ts a) (hb:fR ts b):(-400000≤(j7 ts a b).Lo∧(j7 ts a b).Lo≤(j7 ts a b).Hi)∧(j7 ts a b).Hi≤400000:=by
 have h:=PY ht hl ha hb
 have A:=Az ht ha
 have B:=Az ht hb
 unfold j7 mK oL
 split<;>simp only <;>omega
theorem Tr {ts:List ar} {s:cH} (ht: ∀ x∈ts,bX x) (hl:ts.length≤12) (h:fR ts s):(0≤(L_ ts s).Lo∧(L_ ts s).Lo≤(L_ ts s).Hi)∧(L_ ts s).Hi≤400000:=by
 have A:=mD ht 0 s.bB.toNat
 have B:=Az ht h
 have C:=h.1
 unfold L_ mK
 simp only; omega
theorem GH {α:Type} {p:Nat→α→Bool} {l:List α}:((l.zipIdx.filter fun q=>p q.2 q.1).map fun q=>(q.2:Int))=[]↔ ∀ (i:Nat) x,l[i]? =some x→p i x=false:=by
 rw [List.map_eq_nil_iff,List.filter_eq_nil_iff]
 constructor
 ·intro h i x hx
  have:=h (x,i) (by rw [List.mem_zipIdx_iff_getElem?]; simpa using hx)
  simpa using this
 ·rintro h ⟨x,i⟩ hm
  rw [List.mem_zipIdx_iff_getElem?] at hm
  simpa using h i x (by simpa using hm)
/-- the places of a list at which something is so -/
def tQ {α:Type} (p:Nat→α→Bool) (l:List α) (n:Nat):List Int:=(((l.take n).zipIdx.filter fun q=>p q.2 q.1).map fun q=>(q.2:Int))
theorem J1 {α:Type} {p:Nat→α→Bool} {l:List α} {i:Nat} {x:α} (hx:l[i]? =some x) (h:p i x=true):tQ p l (i+1)=tQ p l i++[(i:Int)]:=by
 have hi:=(aZ.1 hx).1
 unfold tQ
 rw [List.take_add_one,hx,List.zipIdx_append,List.filter_append,List.map_append]
 simp [Nat.min_eq_left (Nat.le_of_lt hi),h]
theorem Mi {α:Type} {p:Nat→α→Bool} {l:List α} {i:Nat} {x:α} (hx:l[i]? =some x) (h:p i x=false):tQ p l (i+1)=tQ p l i:=by
 have hi:=(aZ.1 hx).1
 unfold tQ
 rw [List.take_add_one,hx,List.zipIdx_append,List.filter_append,List.map_append]
 simp [Nat.min_eq_left (Nat.le_of_lt hi),h]
theorem CF {α:Type} {p:Nat→α→Bool} {l:List α} {n:Nat}:(tQ p l n).length≤n:=by
 unfold tQ
 rw [List.length_map]
 refine Nat.le_trans (List.length_filter_le _ _) ?_
 rw [List.length_zipIdx,List.length_take]; omega
def Iq {α:Type} (p:Nat→α→Bool) (l:List α):List Int:=tQ p l l.length
theorem Oq {α:Type} {p:Nat→α→Bool} {l:List α} {n:Nat} (h:n=l.length):tQ p l n=Iq p l:=by rw [h]; rfl
theorem Ha {α:Type} {p:Nat→α→Bool} {l:List α}:(Iq p l).length=0↔ ∀ (i:Nat) x,l[i]? =some x→p i x=false:=by
 unfold Iq tQ
 rw [List.length_eq_zero_iff,List.take_length]
 exact GH
end
section
theorem zU (p:Int→Bool) (n:Nat): ∃ r:Int,r=((List.range n).findIdx fun (k:Nat)=>p (k:Int):Nat):=⟨_,rfl⟩
noncomputable def fz (p:Int→Bool) (n:Nat):Int:=Classical.choose (zU p n)
theorem tI (p:Int→Bool) (n:Nat):fz p n=((List.range n).findIdx fun (k:Nat)=>p (k:Int):Nat):=Classical.choose_spec (zU p n)
theorem iE {p:Int→Bool} {n:Nat}:0≤fz p n∧fz p n≤n:=by
 rw [tI]
 have:=List.findIdx_le_length (xs:=List.range n) (p:=fun (k:Nat)=>p (k:Int))
 rw [List.length_range] at this
 omega
theorem vR {p:Int→Bool} {n:Nat} {x:Int} (h0:0≤x) (h:x<fz p n):p x=false:=by
 have hb:=iE (p:=p) (n:=n)
 rw [tI] at h
 have B:x.toNat<(List.range n).findIdx fun (k:Nat)=>p (k:Int):=by omega
 have A:=List.not_of_lt_findIdx B
 simp only [List.getElem_range] at A
 rw [show (x.toNat:Int)=x by omega] at A
 simpa using A
theorem yZ {p:Int→Bool} {n:Nat} (h:fz p n<n):p (fz p n)=true:=by
 rw [tI] at h ⊢
 have A:((List.range n).findIdx fun (k:Nat)=>p (k:Int))<(List.range n).length:=by rw [List.length_range]; omega
 have:=List.findIdx_getElem (w:=A)
 simpa using this
theorem y_ {p:Int→Bool} {n:Nat} {r:Int} (h0:0≤r) (hn:r<n) (hr:p r=true) (hb: ∀ x,0≤x→x<r→p x=false):fz p n=r:=by
 have A:=iE (p:=p) (n:=n)
 rcases Int.lt_trichotomy (fz p n) r with h|h|h
 ·have:=hb _ A.1 h
  have e:=yZ (p:=p) (n:=n) om
  rw [e] at this; cases this
 ·exact h
 ·have:=vR h0 h
  rw [hr] at this; cases this
end
section
def mZ (n by_:Int):Int:=(n+by_-1)/by_
theorem IF {a b:Int} (h:a≤b):mZ a 1000000≤mZ b 1000000:=by unfold mZ; omega
/-- by how much a sync may be off -/
def mL (c:au) (at_:Int) (x:cM):Int:=mZ (c.dw*max (at_-x.At) (x.At-at_)) 1000000
def gQ (c:au) (at_:Int) (s:ag) (x:cM):ag:=⟨max s.Lo (x.dR.Lo-mL c at_ x),min s.Hi (x.dR.Hi+mL c at_ x)⟩
def gK (c:au) (at_:Int) (k:Nat):ag:=(c.bG.take k).foldl (gQ c at_) ⟨-1099511627776,1099511627776⟩
def gr (c:au) (at_:Int):ag:=c.bG.foldl (gQ c at_) ⟨-1099511627776,1099511627776⟩
theorem kb {c:au} {at_:Int} {k:Nat} {x:cM} (h:c.bG[k]? =some x):gK c at_ (k+1)=gQ c at_ (gK c at_ k) x:=by
 unfold gK; rw [List.take_add_one,h,List.foldl_append]; rfl
theorem nQ {c:au} {at_:Int} {k:Nat} (h:c.bG.length≤k):gK c at_ k=gr c at_:=by unfold gK gr; rw [List.take_of_length_le h]
def kz (c:au) (i:Nat):Int:=if i=0 then-1 else ((c.bG[i-1]?).map (·.At)).getD 0
def fM (c:au) (i:Nat) (x:cM):Prop:=(kz c i<x.At∧x.At≤86400000)∧ -10000≤x.dR.Lo∧x.dR.Lo≤x.dR.Hi∧x.dR.Hi≤10000
def n_ (c:au) (x o:cM):Prop:=x.dR.Lo-o.dR.Hi≤mZ (c.dw*(x.At-o.At)) 1000000∧o.dR.Lo-x.dR.Hi≤mZ (c.dw*(x.At-o.At)) 1000000
structure eP (c:au):Prop where
 qN:0≤c.dw∧c.dw≤1000
 len:1≤c.bG.length∧c.bG.length≤5
 sync: ∀ (i:Nat) x,c.bG[i]? =some x→fM c i x
 pair: ∀ (i k:Nat) x o,c.bG[i]? =some x→k<i→c.bG[k]? =some o→n_ c x o
noncomputable instance (c:au):Decidable (eP c):=Classical.propDecidable _
theorem gS {c:au} {i:Nat} (h:i=0):kz c i= -1:=if_pos h
theorem xw {c:au} {i:Nat} {y:cM} (h:0<i) (hy:c.bG[i-1]? =some y):kz c i=y.At:=by unfold kz; rw [if_neg om,hy]; rfl
theorem oQ {c:au} {i:Nat} {y:cM} (hy:c.bG[i]? =some y):kz c (i+1)=y.At:=by unfold kz; rw [if_neg om,Nat.add_sub_cancel,hy]; rfl
/-- the times of the syncs -/
theorem AT {c:au} (h: ∀ (i:Nat) x,c.bG[i]? =some x→fM c i x): ∀ (i:Nat) x,c.bG[i]? =some x→0≤x.At∧ ∀ (k:Nat) o,k<i→c.bG[k]? =some o→o.At<x.At:=by
 intro i
 induction i with
 |zero=>
  intro x hx
  have:=(h 0 x hx).1.1
  rw [gS rfl] at this
  exact ⟨om,fun k o hk=>by omega⟩
 |succ i ih=>
  intro x hx
  have hi:=(aZ.1 hx).1
  have hy:c.bG[i]? =some (c.bG[i]'om):=fg om
  have B:=ih _ hy
  have A:=(h (i+1) x hx).1.1
  rw [oQ hy] at A
  refine ⟨om,fun k o hk ho=>?_⟩
  by_cases e:k=i
  ·subst e; rw [hy] at ho; cases ho; exact A
  ·have:=B.2 k o om ho; omega
theorem eP.rT {c:au} (h:eP c) {i:Nat} {x:cM} (hx:c.bG[i]? =some x):(0≤x.At∧x.At≤86400000)∧ -10000≤x.dR.Lo∧x.dR.Lo≤x.dR.Hi∧x.dR.Hi≤10000:=by
 have A:=h.sync i x hx
 exact ⟨⟨(AT h.sync i x hx).1,A.1.2⟩,A.2⟩
theorem F4 {d a b:Int} (hd:0≤d∧d≤1000) (ha:0≤a∧a≤90000000) (hb:0≤b∧b≤90000000):0≤d*max (a-b) (b-a)∧d*max (a-b) (b-a)≤90000000000:=by
 have:=QF (a:=d) (b:=max (a-b) (b-a)) (A:=1000) (B:=90000000) hd.1 hd.2 om om
 omega
theorem tM {c:au} {at_:Int} {x:cM} (hd:0≤c.dw∧c.dw≤1000) (ha:0≤at_∧at_≤90000000) (hx:0≤x.At∧x.At≤86400000):0≤mL c at_ x∧mL c at_ x≤90001:=by
 have h:=F4 hd ha (show 0≤x.At∧x.At≤90000000 by omega)
 unfold mL mZ; omega
theorem CE {c:au} {at_:Int} (h:eP c) (ha:0≤at_∧at_≤90000000): ∀ k:Nat,(-1099511627776≤(gK c at_ k).Lo∧(gK c at_ k).Lo≤10000)∧ -10000≤(gK c at_ k).Hi∧(gK c at_ k).Hi≤1099511627776:=by
 intro k
 induction k with
 |zero=>simp [gK]
 |succ k ih=>
  cases hx:c.bG[k]? with
  |none=>unfold gK at ih ⊢; rw [List.take_add_one,hx]; simpa using ih
  |some x=>
   have hb:=h.rT hx
   have ho:=tM h.qN ha hb.1
   rw [kb hx]
   unfold gQ
   simp only
   omega
theorem od {c:au} {at_:Int} (h:eP c) (ha:0≤at_∧at_≤90000000):(-110000≤(gr c at_).Lo∧(gr c at_).Lo≤10000)∧ -10000≤(gr c at_).Hi∧(gr c at_).Hi≤110000:=by
 obtain ⟨n,hn⟩: ∃ n,c.bG.length=n+1:=⟨c.bG.length-1,by have:=h.len; omega⟩
 have hx:c.bG[n]? =some (c.bG[n]'om):=fg om
 have hb:=h.rT hx
 have ho:=tM h.qN ha hb.1
 have A:=CE h ha n
 rw [← nQ (k:=n+1) om,kb hx]
 unfold gQ
 simp only
 omega
/-- as time goes on, time and what a clock may be ahead, together, never go back -/
theorem Ef {c:au} (h:eP c) {a b:Int} (ha:0≤a) (hab:a≤b) (hb:b≤90000000): ∀ k:Nat,(a+(gK c a k).Lo≤b+(gK c b k).Lo∨(gK c a k).Lo= -1099511627776)∧a+(gK c a k).Hi≤b+(gK c b k).Hi:=by
 have step: ∀ (x:cM),0≤x.At∧x.At≤86400000→ ∀ a b:Int,0≤a→a≤b→b≤90000000→mL c a x≤mL c b x+(b-a)∧mL c b x≤mL c a x+(b-a):=by
  intro x hx a b ha hab hb
  have hd:=h.qN
  have e: ∀ u v:Int,u≤v+1000000*(b-a)→mZ u 1000000≤mZ v 1000000+(b-a):=by intro u v C; unfold mZ; omega
  have m: ∀ p q:Int,p≤q+(b-a)→c.dw*p≤c.dw*q+1000000*(b-a):=by
   intro p q A
   have D:c.dw*p≤c.dw*(q+(b-a)):=Int.mul_le_mul_of_nonneg_left A hd.1
   have E:c.dw*(q+(b-a))=c.dw*q+c.dw*(b-a):=Int.mul_add _ _ _
   have F:c.dw*(b-a)≤1000*(b-a):=Int.mul_le_mul_of_nonneg_right hd.2 om
   omega
  exact ⟨e _ _ (m _ _ om),e _ _ (m _ _ om)⟩
 intro k
 induction k with
 |zero=>simp [gK]; omega
 |succ k ih=>
  cases hx:c.bG[k]? with
  |none=>
   have e: ∀ t,gK c t (k+1)=gK c t k:=fun t=>by unfold gK; rw [List.take_add_one,hx]; simp
   rw [e,e]; exact ih
  |some x=>
   have hs:=h.rT hx
   have:=step x hs.1 a b ha hab hb
   have B:=tM (at_:=a) h.qN ⟨ha,om⟩ hs.1
   rw [kb hx,kb hx]
   unfold gQ
   simp only
   omega
theorem oS {c:au} (h:eP c) {a b:Int} (ha:0≤a) (hab:a≤b) (hb:b≤90000000):a+(gr c a).Lo≤b+(gr c b).Lo∧a+(gr c a).Hi≤b+(gr c b).Hi:=by
 have A:=Ef h ha hab hb c.bG.length
 have B:=od h (at_:=a) ⟨ha,om⟩
 rw [nQ (Nat.le_refl _),nQ (Nat.le_refl _)] at A
 omega
noncomputable def lg (l:bp) (i:Nat):Int:=match l.aa[i]? with
 |some b=>if i=0 then (L_ l.aS b.ni).Lo else (match l.aa[i-1]? with
  |some a=>(j7 l.aS a.ni b.ni).Lo
  |none=>0)
 |none=>0
theorem zB {l:bp} {b:bJ} (h:l.aa[0]? =some b):lg l 0=(L_ l.aS b.ni).Lo:=by unfold lg; rw [h]; rfl
theorem CN {l:bp} {i:Nat} {a b:bJ} (hi:0<i) (h:l.aa[i]? =some b) (ha:l.aa[i-1]? =some a):lg l i=(j7 l.aS a.ni b.ni).Lo:=by unfold lg; rw [h,ha]; simp only; rw [if_neg om]
def j_ (l:bp) (b:bJ):Prop:=fR l.aS b.ni∧0≤b.dU∧b.dU<(l.aj.length:Int)
def eU (l:bp):Prop:=(1≤l.hZ∧l.hZ≤5000)∧(1≤(l.aj.length:Int)∧(l.aj.length:Int)≤4)∧(1≤(l.aa.length:Int)∧(l.aa.length:Int)≤6)∧(0≤l.bO∧l.bO≤(l.aa.length:Int)-1)∧(0≤l.fO∧l.fO≤3)∧0≤l.dq∧l.dq≤3
structure lF (l:bp):Prop where
 head:eU l
 clock: ∀ c∈l.aj,eP c
 re: ∀ b∈l.aa,j_ l b
 Oy: ∀ i,i<l.aa.length→1≤lg l i
noncomputable instance (l:bp):Decidable (lF l):=Classical.propDecidable _
noncomputable def dg (l:bp):Int:=if dB l.aS=true then (if lF l then 0 else 50) else 10
theorem zM {l:bp} (h:dB l.aS=false):dg l=10:=by unfold dg; rw [h]; rfl
theorem rN {l:bp} (h:dB l.aS=true) (h2: ¬ lF l):dg l=50:=by unfold dg; rw [if_pos h,if_neg h2]
theorem w7 {l:bp} (h:dB l.aS=true) (h2:lF l):dg l=0:=by unfold dg; rw [if_pos h,if_pos h2]
theorem du {l:bp} (h:dg l=0):dB l.aS=true∧lF l:=by
 unfold dg at h
 split at h
 ·split at h
  ·exact ⟨asm,asm⟩
  ·omega
 ·omega
theorem zq {l:bp} (ht:dB l.aS=true) (hb: ∀ b∈l.aa,j_ l b) (i:Nat): -400000≤lg l i∧lg l i≤400000:=by
 have A:=ke ht
 have hl:=kZ ht
 unfold lg
 cases h:l.aa[i]? with
 |none=>simp
 |some b=>
  have B:=(hb b (aP h)).1
  simp only
  split
  ·have:=Tr A hl B; omega
  ·cases h2:l.aa[i-1]? with
   |none=>simp
   |some a=>
    have C:=(hb a (aP h2)).1
    have:=xU A hl C B
    simp only; omega
def qz (l:bp) (s:aA):au:=((l.aa[s.fE.toNat]?).bind fun b=>l.aj[b.dU.toNat]?).getD ⟨0,[]⟩
def fX (c:au) (r t:Int):Bool:=decide (r≤t+(gr c t).Hi)
def fY (c:au) (r t:Int):Bool:=decide (r<t+(gr c t).Lo)
noncomputable def oG (c:au) (r:Int):ag:=⟨fz (fX c r) 86400001,fz (fY c r) 86400001-1⟩
noncomputable def cG (l:bp) (s:aA):ag:=oG (qz l s) s.Read
noncomputable def cZ (l:bp) (i:Nat):Int:=mZ (1000*lg l i) l.hZ
end
section
open Go.RowKit
def Bj (n:Int):Int:=IntKind.i64.wrap n
theorem Ay {n:Int} (h:ru n):Bj n=n:=nF h
theorem SU (n:Int): -9223372036854775808≤Bj n∧Bj n≤9223372036854775807:=by
 unfold Bj
 rw [IntKind.wrap_i64]
 omega
section
variable {P:Program} {t:TypeId} {x y:Operand} {a b:Int}
theorem P5:iA P .add t x y (.int .i64 a) (.int .i64 b) (.int .i64 (Bj (a+b))):=fun w=>by simp [eqGuard_add,binOp_add,Op.intArith,Bj]
theorem Kj:iA P .sub t x y (.int .i64 a) (.int .i64 b) (.int .i64 (Bj (a-b))):=fun w=>by simp [eqGuard_sub,binOp_sub,Op.intArith,Bj]
theorem Q_:iA P .mul t x y (.int .i64 a) (.int .i64 b) (.int .i64 (Bj (a*b))):=fun w=>by simp [eqGuard_mul,binOp_mul,Op.intArith,Bj]
end
/-- divided, and rounded up, as it comes out -/
def Tf (n by_:Int):Int:=(Bj (Bj (n+by_)-1)).tdiv by_
theorem PV {a b:Int} (ha: -9223372036854775808≤a∧a≤9223372036854775807) (hb:2≤b):ru (a.tdiv b):=by
 have A:a.tdiv b=a/b+if a % b≠0∧a<0 then 1 else 0:=by
  rcases Int.lt_or_le a 0 with h|h
  ·rw [Int.tdiv_eq_ediv]
   have:b.sign=1:=Int.sign_eq_one_of_pos om
   rw [this]
   by_cases hd:b∣a
   ·have:a % b=0:=Int.emod_eq_zero_of_dvd hd
    simp [hd,this]
   ·have:a % b≠0:=fun e=>hd (Int.dvd_of_emod_eq_zero e)
    have hn: ¬ 0≤a:=by omega
    simp [hd,this,h,hn]
  ·rw [Int.tdiv_eq_ediv_of_nonneg h]
   have: ¬ a<0:=by omega
   simp [this]
 have B:a/b*b+a % b=a:=by rw [Int.mul_comm]; exact Int.mul_ediv_add_emod a b
 have C:0≤a % b:=Int.emod_nonneg _ om
 have D:a % b<b:=Int.emod_lt_of_pos _ om
 have E: -9223372036854775808≤a/b∧a/b≤4611686018427387904:=by
  constructor
  ·refine Int.le_ediv_of_mul_le om ?_
   have:(-9223372036854775808:Int)*b≤ -9223372036854775808*1:=Int.mul_le_mul_of_nonpos_left om om
   omega
  ·refine Int.ediv_le_of_le_mul om ?_
   have:(4611686018427387904:Int)*2≤4611686018427387904*b:=Int.mul_le_mul_of_nonneg_left hb om
   omega
 rw [A]
 unfold ru
 split<;>omega
theorem P7 {n by_:Int} (h0:0≤n) (h1:n≤1000000000000000000) (hb:1≤by_∧by_≤1000000000000):Tf n by_=(n+by_-1)/by_:=by
 unfold Tf
 rw [Ay (show ru (n+by_) from ⟨om,om⟩),Ay (show ru (n+by_-1) from ⟨om,om⟩),Int.tdiv_eq_ediv_of_nonneg om]
end
section
def mF (c:au) (i:Nat) (x:cM) (k:Nat):Prop:=fM c i x∧ ∀ (j:Nat) o,j<k→c.bG[j]? =some o→n_ c x o
def tP (c:au) (n:Nat):Prop:= ∀ (i:Nat) x,i<n→c.bG[i]? =some x→mF c i x i
noncomputable instance (c:au) (i:Nat) (x:cM) (k:Nat):Decidable (mF c i x k):=Classical.propDecidable _
instance (c:au) (i:Nat) (x:cM):Decidable (fM c i x):=by unfold fM; infer_instance
theorem Ez {c:au} {i:Nat} {x:cM}:mF c i x 0↔fM c i x:=⟨fun h=>h.1,fun h=>⟨h,fun j o hj=>by omega⟩⟩
theorem tq {c:au} {i k:Nat} {x o:cM} (h:c.bG[k]? =some o):mF c i x (k+1)↔mF c i x k∧n_ c x o:=by
 constructor
 ·intro hr
  exact ⟨⟨hr.1,fun j o' hj ho=>hr.2 j o' om ho⟩,hr.2 k o om h⟩
 ·rintro ⟨hr,hp⟩
  refine ⟨hr.1,fun j o' hj ho=>?_⟩
  by_cases e:j=k
  ·subst e; rw [h] at ho; cases ho; exact hp
  ·exact hr.2 j o' om ho
theorem Hd {c:au}:tP c 0:=fun i x hi=>by omega
theorem Hg {c:au} {i:Nat} {x:cM} (h:tP c i) (hx:c.bG[i]? =some x) (hr:mF c i x i):tP c (i+1):=fun j y hj hy=>by
 by_cases e:j=i
 ·subst e; rw [hx] at hy; cases hy; exact hr
 ·exact h j y om hy
theorem IM {c:au} {i:Nat} {x:cM} (hx:c.bG[i]? =some x) (h: ¬ mF c i x i): ¬ eP c:=fun hc=>h ⟨hc.sync i x hx,fun j o hj ho=>hc.pair i j x o hx hj ho⟩
theorem Hu {c:au} (h1:0≤c.dw∧c.dw≤1000) (h2:1≤c.bG.length∧c.bG.length≤5) (h:tP c c.bG.length):eP c:=
 ⟨h1,h2,fun i x hx=>(h i x (aZ.1 hx).1 hx).1,fun i k x o hx hk ho=>(h i x (aZ.1 hx).1 hx).2 k o hk ho⟩
/-- syncs so far -/
theorem vC {c:au} {n:Nat} (h: ∀ (i:Nat) x,i<n→c.bG[i]? =some x→fM c i x): ∀ (i:Nat) x,i<n→c.bG[i]? =some x→0≤x.At∧ ∀ (k:Nat) o,k<i→c.bG[k]? =some o→o.At<x.At:=by
 intro i
 induction i with
 |zero=>
  intro x hn hx
  have:=(h 0 x hn hx).1.1
  rw [gS rfl] at this
  exact ⟨om,fun k o hk=>by omega⟩
 |succ i ih=>
  intro x hn hx
  have hi:=(aZ.1 hx).1
  have hy:c.bG[i]? =some (c.bG[i]'om):=fg om
  have B:=ih _ om hy
  have A:=(h (i+1) x hn hx).1.1
  rw [oQ hy] at A
  refine ⟨om,fun k o hk ho=>?_⟩
  by_cases e:k=i
  ·subst e; rw [hy] at ho; cases ho; exact A
  ·have:=B.2 k o om ho; omega
theorem Jf {c:au} {i:Nat} (hi:i≤c.bG.length) (h: ∀ (j:Nat) y,j<i→c.bG[j]? =some y→fM c j y): -1≤kz c i∧kz c i≤86400000:=by
 cases i with
 |zero=>rw [gS rfl]; omega
 |succ i=>
  have hy:c.bG[i]? =some (c.bG[i]'om):=fg om
  have A:=(vC (n:=i+1) h i _ om hy).1
  have B:=(h i _ om hy).1.2
  rw [oQ hy]; omega
theorem Qf {c:au} {i:Nat} (hi:i≤c.bG.length) (h:tP c i): -1≤kz c i∧kz c i≤86400000:=Jf hi fun j y hj hy=>(h j y hj hy).1
theorem vd {c:au} {i k:Nat} {x o:cM} (hs: ∀ (j:Nat) y,j<i→c.bG[j]? =some y→fM c j y) (hx:c.bG[i]? =some x) (hok:fM c i x) (hk:k<i) (ho:c.bG[k]? =some o):
 (0≤o.At∧o.At<x.At∧x.At≤86400000)∧(-10000≤x.dR.Lo∧x.dR.Lo≤x.dR.Hi∧x.dR.Hi≤10000)∧ -10000≤o.dR.Lo∧o.dR.Lo≤o.dR.Hi∧o.dR.Hi≤10000:=by
 have h: ∀ (j:Nat) y,j<i+1→c.bG[j]? =some y→fM c j y:=fun j y hj hy=>by
  by_cases e:j=i
  ·subst e; rw [hx] at hy; cases hy; exact hok
  ·exact hs j y om hy
 have A:=(vC h i x om hx).2 k o hk ho
 have B:=(vC h k o om ho).1
 exact ⟨⟨B,A,hok.1.2⟩,hok.2,(h k o om ho).2⟩
theorem N6 {d a b:Int} (hd:0≤d∧d≤1000) (h:0≤b∧b<a∧a≤86400000):Tf (Bj (d*Bj (a-b))) 1000000=mZ (d*(a-b)) 1000000:=by
 have C:0≤d*(a-b)∧d*(a-b)≤90000000000:=by
  have:=QF (a:=d) (b:=a-b) (A:=1000) (B:=90000000) hd.1 hd.2 om om
  omega
 rw [Ay (show ru (a-b) from ⟨om,om⟩),Ay (show ru (d*(a-b)) from ⟨om,om⟩),P7 C.1 om om]
 rfl
/-- what is asked of a line, however wrong it is -/
structure dY (l:bp) (asl:List RA):Prop where
 qS:l.aS.length≤1000000
 side: ∀ x∈l.aS,0≤x.je∧x.je≤255
 qW:l.aj.length≤1000000
 nx:asl.length=l.aj.length
 qU:l.aa.length≤1000000
 Re: ∀ (k:Nat) m (a:RA),l.aj[k]? =some m→asl[k]? =some a→m.bG.length≤a.2∧m.bG.length≤1000000
noncomputable instance (l:bp):Decidable (eU l):=by unfold eU; infer_instance
noncomputable instance (l:bp) (b:bJ):Decidable (j_ l b):=Classical.propDecidable _
theorem y7 {l:bp} (h:eU l) (h2: ∀ c∈l.aj,eP c) (h3: ∀ b∈l.aa,j_ l b) (h4: ∀ i,i<l.aa.length→1≤lg l i):lF l:=⟨h,h2,h3,h4⟩
theorem EC {l:bp}:((!(l.aj.any fun m=> !decide (eP m)))=true)↔ ∀ c∈l.aj,eP c:=by simp
theorem Hc {l:bp}:((!(l.aa.any fun b=> !decide (j_ l b)))=true)↔ ∀ b∈l.aa,j_ l b:=by simp
noncomputable def Ft (l:bp) (ck:Int):au:=(l.aj[ck.toNat]?).getD ⟨0,[]⟩
noncomputable def nj (l:bp) (ck at_:Int):Int:=if dg l=0 then (if (0≤ck∧ck≤(l.aj.length:Int)-1)∧0≤at_∧at_≤86400000 then 0 else 2) else dg l
noncomputable def fh (l:bp) (ck at_:Int):ag:=if nj l ck at_=0 then gr (Ft l ck) at_ else gj
noncomputable def o4 (l:bp) (i:Int):Int:=if dg l=0 then (if 0≤i∧i≤(l.aa.length:Int)-1 then 0 else 2) else dg l
noncomputable def o5 (l:bp) (i:Int):Int:=if o4 l i=0 then cZ l i.toNat else 0
theorem sj {l:bp} {ck at_:Int} (h: ¬ dg l=0):nj l ck at_=dg l∧fh l ck at_=gj:=by
 have e:nj l ck at_=dg l:=if_neg h
 exact ⟨e,by unfold fh; rw [e,if_neg h]⟩
theorem nH {l:bp} {ck at_:Int} (h:dg l=0) (h2: ¬ ((0≤ck∧ck≤(l.aj.length:Int)-1)∧0≤at_∧at_≤86400000)):nj l ck at_=2∧fh l ck at_=gj:=by
 have e:nj l ck at_=2:=by unfold nj; rw [if_pos h,if_neg h2]
 exact ⟨e,by unfold fh; rw [e]; rfl⟩
theorem pG {l:bp} {ck at_:Int} (h:dg l=0) (h2:(0≤ck∧ck≤(l.aj.length:Int)-1)∧0≤at_∧at_≤86400000) {c:au} (hc:l.aj[ck.toNat]? =some c):nj l ck at_=0∧fh l ck at_=gr c at_:=by
 have e:nj l ck at_=0:=by unfold nj; rw [if_pos h,if_pos h2]
 exact ⟨e,by unfold fh Ft; rw [if_pos e,hc]; rfl⟩
theorem vf {l:bp} {i:Int} (h: ¬ dg l=0):o4 l i=dg l∧o5 l i=0:=by
 have e:o4 l i=dg l:=if_neg h
 exact ⟨e,by unfold o5; rw [e,if_neg h]⟩
theorem vY {l:bp} {i:Int} (h:dg l=0) (h2: ¬ (0≤i∧i≤(l.aa.length:Int)-1)):o4 l i=2∧o5 l i=0:=by
 have e:o4 l i=2:=by unfold o4; rw [if_pos h,if_neg h2]
 exact ⟨e,by unfold o5; rw [e]; rfl⟩
theorem uZ {l:bp} {i:Int} (h:dg l=0) (h2:0≤i∧i≤(l.aa.length:Int)-1):o4 l i=0∧o5 l i=cZ l i.toNat:=by
 have e:o4 l i=0:=by unfold o4; rw [if_pos h,if_pos h2]
 exact ⟨e,by unfold o5; rw [if_pos e]⟩
theorem km {c:au} (h:eP c) {r x:Int} (h0:0≤x) (h1:x<86400001):
 (x<fz (fX c r) 86400001→fX c r x=false)∧(fz (fX c r) 86400001≤x→fX c r x=true)∧(x<fz (fY c r) 86400001→fY c r x=false)∧(fz (fY c r) 86400001≤x→fY c r x=true):=by
 have up: ∀ (q:Int→Bool),(∀ a b,0≤a→a≤b→b<86400001→q a=true→q b=true)→fz q 86400001≤x→q x=true:=fun q hq hx=>by
  have hb:=iE (p:=q) (n:=86400001)
  exact hq _ _ hb.1 hx h1 (yZ om)
 refine ⟨vR h0,up _ fun a b ha A hb hq=>?_,vR h0,up _ fun a b ha A hb hq=>?_⟩
 ·have:=oS h ha A om
  simp only [fX,decide_eq_true_eq] at hq ⊢; omega
 ·have:=oS h ha A om
  simp only [fY,decide_eq_true_eq] at hq ⊢; omega
theorem tT {l:bp} {s:aA} {b:bJ} {c:au} (hb:l.aa[s.fE.toNat]? =some b) (hc:l.aj[b.dU.toNat]? =some c):qz l s=c:=by
 unfold qz; rw [hb]; simp only [Option.bind_some]; rw [hc]; rfl
end
section
def kO (sg:List aA) (i:Nat):aA:=if i=0 then ⟨-1,0⟩ else (sg[i-1]?).getD ⟨-1,0⟩
theorem j6 {sg:List aA} {i:Nat} {s:aA} (h:sg[i]? =some s):kO sg (i+1)=s:=by unfold kO; rw [if_neg om,Nat.add_sub_cancel,h]; rfl
def js (l:bp) (s:aA):Prop:=(0≤s.fE∧s.fE≤(l.aa.length:Int)-1)∧0≤s.Read∧s.Read≤86400000
def iM (l:bp) (sg:List aA) (i:Nat) (s:aA):Prop:=js l s∧ ¬ s.fE<(kO sg i).fE∧ ¬ (s.fE=(kO sg i).fE∧s.Read≤(kO sg i).Read)
def o1 (l:bp) (sg:List aA) (i:Nat):Prop:= ∀ (j:Nat) s,j<i→sg[j]? =some s→iM l sg j s
structure er (l:bp) (r:bT):Prop where
 time:0≤r.Start∧r.Start≤r.gh∧r.gh≤86400000
 len:r.ab.length≤10
 sig: ∀ (i:Nat) s,r.ab[i]? =some s→iM l r.ab i s
noncomputable instance (l:bp) (r:bT):Decidable (er l r):=Classical.propDecidable _
theorem vZ {l:bp} {sg:List aA}:o1 l sg 0:=fun j s hj=>absurd hj (Nat.not_lt_zero _)
theorem jn {l:bp} {sg:List aA} {i:Nat} {s:aA} (h:o1 l sg i) (hs:sg[i]? =some s) (ho:iM l sg i s):o1 l sg (i+1):=fun j z hj hz=>by
 rcases Nat.lt_or_ge j i with q|q
 ·exact h j z q hz
 ·obtain rfl:j=i:=by omega
  rw [hs] at hz; cases hz; exact ho
theorem xJ {l:bp} {r:bT} {i:Nat} (h1:0≤r.Start∧r.Start≤r.gh∧r.gh≤86400000) (h2:r.ab.length≤10) (h:o1 l r.ab i) (hi:r.ab.length≤i):er l r:=
 ⟨h1,h2,fun j s hs=>h j s (by have:=(aZ.1 hs).1; omega) hs⟩
noncomputable def nY (l:bp) (sg:List aA) (b k:Nat):Option (Int×ag):=(sg[k]?).bind fun s=>if s.fE=(b:Int)∧(cG l s).Lo≤(cG l s).Hi then some ((k:Int),cG l s) else none
noncomputable def k9 (l:bp) (sg:List aA) (i b:Nat):TM:=(List.range i).filterMap (nY l sg b)
noncomputable def cP (l:bp) (sg:List aA) (i:Nat):List TM:=(List.range l.aa.length).map (k9 l sg i)
noncomputable def cm (l:bp) (n:Nat):List Int:=(List.range n).map (cZ l)
theorem rV {l:bp} {n:Nat}:cm l (n+1)=cm l n++[cZ l n]:=by simp [cm,List.range_succ]
theorem dh {l:bp} {n:Nat}:(cm l n).length=n:=by simp [cm]
theorem gL {l:bp} {sg:List aA} {i:Nat}:(cP l sg i).length=l.aa.length:=by simp [cP]
theorem pD {l:bp} {sg:List aA} {i b:Nat} (h:b<l.aa.length):(cP l sg i)[b]? =some (k9 l sg i b):=by simp [cP,h]
theorem pZ {l:bp} {sg:List aA} {b k:Nat} {q:Int×ag}:nY l sg b k=some q↔ ∃ s,sg[k]? =some s∧(s.fE=(b:Int)∧(cG l s).Lo≤(cG l s).Hi)∧q=((k:Int),cG l s):=by
 unfold nY
 cases h:sg[k]? with
 |none=>simp
 |some s=>
  simp only [Option.bind_some,Option.some.injEq]
  by_cases e:s.fE=(b:Int)∧(cG l s).Lo≤(cG l s).Hi
  ·rw [if_pos e]
   constructor
   ·intro h; cases h; exact ⟨s,rfl,e,rfl⟩
   ·rintro ⟨s',rfl,_,rfl⟩; rfl
  ·rw [if_neg e]
   constructor
   ·intro h; cases h
   ·rintro ⟨s',rfl,e',_⟩; exact absurd e' e
theorem tF {l:bp} {sg:List aA} {i b:Nat} {q:Int×ag}:q∈k9 l sg i b↔ ∃ k,k<i∧ ∃ s,sg[k]? =some s∧(s.fE=(b:Int)∧(cG l s).Lo≤(cG l s).Hi)∧q=((k:Int),cG l s):=by
 unfold k9
 simp only [List.mem_filterMap,List.mem_range,pZ]
theorem lq {l:bp} {sg:List aA} {i b:Nat}:k9 l sg (i+1) b=k9 l sg i b++(nY l sg b i).toList:=by
 unfold k9
 rw [List.range_succ,List.filterMap_append]
 congr 1
theorem w9 {l:bp} {sg:List aA}:cP l sg 0=List.replicate l.aa.length []:=by
 unfold cP
 rw [List.eq_replicate_iff]
 refine ⟨sm,fun t ht=>?_⟩
 obtain ⟨b,_,rfl⟩:=cR.1 ht
 rfl
theorem qp {l:bp} {sg:List aA} {i:Nat} {s:aA} (hs:sg[i]? =some s) (h: ¬ (cG l s).Lo≤(cG l s).Hi):cP l sg (i+1)=cP l sg i:=by
 unfold cP
 apply List.map_congr_left
 intro b _
 rw [lq]
 have:nY l sg b i=none:=by
  cases e:nY l sg b i with
  |none=>rfl
  |some q=>obtain ⟨s',A,⟨_,B⟩,_⟩:=pZ.1 e; rw [hs] at A; cases A; exact absurd B h
 rw [this]; simp
theorem sk {l:bp} {sg:List aA} {i:Nat} {s:aA} (hs:sg[i]? =some s) (hb:0≤s.fE∧s.fE≤(l.aa.length:Int)-1) (h:(cG l s).Lo≤(cG l s).Hi) {x:TM} (hx:(cP l sg i)[s.fE.toNat]? =some x):
 (cP l sg i).set s.fE.toNat (ew x (i:Int) (cG l s))=cP l sg (i+1):=by
 have A:s.fE.toNat<l.aa.length:=by omega
 rw [pD A] at hx
 cases hx
 have B:ew (k9 l sg i s.fE.toNat) (i:Int) (cG l s)=k9 l sg (i+1) s.fE.toNat:=by
  have hn:(k9 l sg i s.fE.toNat).lookup (i:Int)=none:=im.2 fun p hp e=>by
   obtain ⟨k,hk,_,_,_,rfl⟩:=tF.1 hp
   simp only at e; omega
  have ho:nY l sg s.fE.toNat i=some ((i:Int),cG l s):=pZ.2 ⟨s,hs,⟨om,h⟩,rfl⟩
  rw [lq,ho]
  unfold ew; rw [hn]; rfl
 rw [B]
 apply List.ext_getElem?
 intro b
 rw [List.getElem?_set]
 by_cases e:s.fE.toNat=b
 ·rw [if_pos e,gL,← e,if_pos A,pD A]
 ·rw [if_neg e]
  by_cases hb':b<l.aa.length
  ·rw [pD hb',pD hb',lq]
   have:nY l sg b i=none:=by
    cases e2:nY l sg b i with
    |none=>rfl
    |some q=>obtain ⟨s',C,⟨D,_⟩,_⟩:=pZ.1 e2; rw [hs] at C; cases C; exact absurd om e
   rw [this]; simp
  ·rw [List.getElem?_eq_none (by rw [gL]; omega),List.getElem?_eq_none (by rw [gL]; omega)]
noncomputable def cQ (l:bp) (r:bT):cg:=⟨r.Start,r.gh,cm l l.aa.length,cP l r.ab r.ab.length,l.dq,l.fO,(r.ab.length:Int)⟩
theorem Ki {l:bp} (ht:dB l.aS=true) (h:lF l) {i:Nat} (hi:i<l.aa.length):1≤cZ l i∧cZ l i≤500000000:=by
 have A:=zq ht h.re i
 have B:=h.Oy i hi
 have C:=h.head.1
 unfold cZ mZ
 refine ⟨(Int.le_ediv_iff_mul_le om).2 om,?_⟩
 have:(1000*lg l i+l.hZ-1)/l.hZ≤1000*lg l i+l.hZ-1:=Int.ediv_le_self _ om
 omega
theorem Mw (l:bp) (s:aA):0≤(cG l s).Lo∧(cG l s).Hi≤86400000:=by
 have A:=iE (p:=fX (qz l s) s.Read) (n:=86400001)
 have B:=iE (p:=fY (qz l s) s.Read) (n:=86400001)
 unfold cG oG
 simp only
 omega
theorem lL {l:bp} {r:bT} (ht:dB l.aS=true) (h:lF l) (hr:er l r):GV (cQ l r):=by
 have hh:=h.head
 unfold eU at hh
 refine ⟨?_,by simp [cQ,gL,cg.n,dh],hr.time,fun x hx=>?_,fun t A p hp=>?_⟩
 ·show (cm l l.aa.length).length≤6
  rw [dh]; omega
 ·obtain ⟨i,hi,rfl⟩:=cR.1 hx
  exact Ki ht h (List.mem_range.1 hi)
 ·obtain ⟨b,hb,rfl⟩:=cR.1 A
  obtain ⟨k,hk,s,hs,⟨_,B⟩,rfl⟩:=tF.1 hp
  have C:=Mw l s
  have D:=hr.len
  simp only
  omega
noncomputable def eW (l:bp) (r:bT) (me:Int):Int:=if dg l=0 then (if er l r then (if me=0 then (if lQ (cQ l r)=[] then 8 else 0) else me) else 51) else dg l
theorem mY {l:bp} {r:bT} {me:Int} (h: ¬ dg l=0):eW l r me=dg l:=if_neg h
theorem fP {l:bp} {r:bT} {me:Int} (h:dg l=0) (h2: ¬ er l r):eW l r me=51:=by unfold eW; rw [if_pos h,if_neg h2]
theorem CI {l:bp} {r:bT} {me:Int} (h:dg l=0) (h2:er l r) (h3: ¬ me=0):eW l r me=me:=by unfold eW; rw [if_pos h,if_pos h2,if_neg h3]
theorem tL {l:bp} {r:bT} {me:Int} (h:dg l=0) (h2:er l r) (h3:me=0) (h4:lQ (cQ l r)=[]):eW l r me=8:=by unfold eW; rw [if_pos h,if_pos h2,if_pos h3,if_pos h4]
theorem pM {l:bp} {r:bT} {me:Int} (h:dg l=0) (h2:er l r) (h3:me=0) (h4: ¬ lQ (cQ l r)=[]):eW l r me=0:=by unfold eW; rw [if_pos h,if_pos h2,if_pos h3,if_neg h4]
theorem jc {l:bp} {r:bT} {me:Int} (h:eW l r me=0):dg l=0∧er l r∧me=0∧ ¬ lQ (cQ l r)=[]:=by
 unfold eW at h
 split at h
 ·split at h
  ·split at h
   ·split at h
    ·omega
    ·exact ⟨asm,asm,asm,asm⟩
   ·omega
  ·omega
 ·omega
end
section
def pT (l:List Int):Int:=(l.drop 1).foldl min (l.headD 0)
theorem IC {l:List Int} {i:Nat} {x:Int} (h:l[i]? =some x) (hi:1≤i):pT (l.take (i+1))=min (pT (l.take i)) x:=by
 have e:l.take (i+1)=l.take i++[x]:=by rw [List.take_add_one,h]; rfl
 have hl:1≤(l.take i).length:=by have:=(aZ.1 h).1; rw [List.length_take]; omega
 rw [e]
 cases ht:l.take i with
 |nil=>rw [ht] at hl; simp at hl
 |cons y ys=>simp [pT,List.foldl_append]
theorem Ht {l:List Int} {x:Int} (h:l[0]? =some x):pT (l.take 1)=x:=by
 cases l with
 |nil=>simp at h
 |cons y ys=>simp at h; subst h; simp [pT]
theorem Cs: ∀ (l:List Int) (a:Int),(l.foldl min a=a∨l.foldl min a∈l)∧l.foldl min a≤a∧ ∀ x∈l,l.foldl min a≤x
 |[],a=>⟨.inl rfl,sm,sm⟩
 |y::l,a=>by
  obtain ⟨A,C,B⟩:=Cs l (min a y)
  simp only [List.foldl_cons]
  refine ⟨?_,om,?_⟩
  ·rcases A with A|A
   ·rw [A]
    rcases Int.le_total a y with q|q
    ·left; omega
    ·right; rw [show min a y=y by omega]; simp
   ·right; exact di _ A
  ·intro x hx
   rcases bR.1 hx with rfl|hx
   ·omega
   ·exact B x hx
theorem Ou {l:List Int} (h:l≠[]):pT l∈l∧ ∀ x∈l,pT l≤x:=by
 cases l with
 |nil=>exact absurd rfl h
 |cons y ys=>
  obtain ⟨A,B,C⟩:=Cs ys y
  refine ⟨?_,fun x hx=>?_⟩
  ·rcases A with A|A
   ·simp [pT,A]
   ·exact di _ (by simpa [pT] using A)
  ·rcases bR.1 hx with rfl|hx
   ·simpa [pT] using B
   ·simpa [pT] using C x hx
noncomputable def j2 (l:bp) (r:bT):List Int:=if eW l r 0=0 then lQ (cQ l r) else []
theorem vq {l:bp} {r:bT} (h:eW l r 0=0):j2 l r=lQ (cQ l r):=if_pos h
theorem vn {l:bp} {r:bT} (h: ¬ eW l r 0=0):j2 l r=[]:=if_neg h
theorem zi {l:bp} {r:bT} (h:eW l r 0=0):j2 l r≠[]:=by rw [vq h]; exact (jc h).2.2.2
theorem DC {l:bp} {r:bT} (h:eW l r 0=0):1≤(j2 l r).length:=List.length_pos_iff.2 (zi h)
theorem DP {l:bp} {r:bT}:(j2 l r).length≤100:=by
 unfold j2
 split
 ·rename_i h
  obtain ⟨A,B,_⟩:=jc h
  obtain ⟨ht,ho⟩:=du A
  have:=(lL ht ho B).n
  have C:=tG (w:=cQ l r) (k:=(cQ l r).n+1)
  unfold lQ; omega
 ·simp
noncomputable def jT (l:bp) (b:Int):Int:=if 0≤b∧b≤(l.aa.length:Int)-1 then 0 else 2
theorem um {l:bp} {b:Int} (h:0≤b∧b≤(l.aa.length:Int)-1):jT l b=0:=if_pos h
theorem Ew {l:bp} {b:Int} (h:jT l b=0):0≤b∧b≤(l.aa.length:Int)-1:=by
 unfold jT at h
 split at h
 ·assumption
 ·omega
noncomputable def mU (l:bp) (r:bT) (b:Nat):ag:=ud (qM (cQ l r) b)
noncomputable def dV (l:bp) (r:bT) (b:Int):Int:=if eW l r (jT l b)=0 then (if mU l r b.toNat=mS then 6 else 0) else eW l r (jT l b)
noncomputable def dI (l:bp) (r:bT) (b:Int):ag:=if dV l r b=0 then mU l r b.toNat else gj
theorem mx {l:bp} {r:bT} {b:Int} (h: ¬ eW l r (jT l b)=0):dV l r b=eW l r (jT l b)∧dI l r b=gj:=by
 have e:dV l r b=eW l r (jT l b):=if_neg h
 exact ⟨e,by unfold dI; rw [if_neg (by rw [e]; exact h)]⟩
theorem rz {l:bp} {r:bT} {b:Nat} (h:eW l r (jT l b)=0) (h2:mU l r b=mS):dV l r b=6∧dI l r b=gj:=by
 have e:dV l r b=6:=by unfold dV; rw [if_pos h,Int.toNat_natCast,if_pos h2]
 exact ⟨e,by unfold dI; rw [if_neg (by rw [e]; omega)]⟩
theorem mX {l:bp} {r:bT} {b:Nat} (h:eW l r (jT l b)=0) (h2: ¬ mU l r b=mS):dV l r b=0∧dI l r b=mU l r b:=by
 have e:dV l r b=0:=by unfold dV; rw [if_pos h,Int.toNat_natCast,if_neg h2]
 exact ⟨e,by unfold dI; rw [if_pos e,Int.toNat_natCast]⟩
theorem Lz {w:cg} (h:GV w) {b:Nat} {q:Int×ag} (hq:q∈qM w b):0≤q.2.Lo∧q.2.Lo≤q.2.Hi∧q.2.Hi≤86400000:=by
 have A:=ny hq
 obtain ⟨o,ho,p,hp,u,hu,e⟩:=jq.1 hq
 obtain ⟨_,_,rfl⟩:=ld.1 e
 have B:=h.opt ho
 simp only [lp] at A ⊢
 omega
theorem rG {l:bp} {r:bT} {b:Int} (h:dV l r b=0):0≤(dI l r b).Lo∧(dI l r b).Lo≤(dI l r b).Hi∧(dI l r b).Hi≤86400000:=by
 have ho:eW l r (jT l b)=0:=by
  by_cases e:eW l r (jT l b)=0
  ·exact e
  ·rw [(mx e).1] at h; exact absurd h e
 obtain ⟨B,C,_⟩:=jc ho
 obtain ⟨ht,A⟩:=du B
 have hw:=lL ht A C
 have hv:dI l r b=mU l r b.toNat:=by unfold dI; rw [if_pos h]
 have hn:mU l r b.toNat≠mS:=fun e=>by unfold dV at h; rw [if_pos ho,if_pos e] at h; omega
 have hh:=th (l:=qM (cQ l r) b.toNat) fun q hq=>ny hq
 rw [hv]
 unfold mU at hn ⊢
 rcases hh with ⟨_,e⟩|hh
 ·exact absurd e hn
 ·obtain ⟨x,hx,ex⟩:=hh.lo
  obtain ⟨y,hy,ey⟩:=hh.hi
  have:=Lz hw hx
  have:=Lz hw hy
  have:=hh.le
  omega
noncomputable def zX (l:bp) (r:bT):ag:=if dV l r l.bO=0 then ⟨(dI l r l.bO).Lo-r.Start,(dI l r l.bO).Hi-r.Start⟩ else gj
theorem zW {l:bp} {r:bT} (h:dV l r l.bO=0):zX l r=⟨(dI l r l.bO).Lo-r.Start,(dI l r l.bO).Hi-r.Start⟩:=if_pos h
theorem Dx {l:bp} {r:bT} (h: ¬ dV l r l.bO=0):zX l r=gj:=if_neg h
theorem wb {l:bp} {r:bT} {b:Int} (h:dV l r b=0):er l r:=by
 by_cases e:eW l r (jT l b)=0
 ·exact (jc e).2.1
 ·rw [(mx e).1] at h; exact absurd h e
theorem zj {k:List (Int×ag)} {h:ag} {q:Int×ag} {z:ag} (hh:kF k h) (hq:q.2.Lo≤q.2.Hi) (hz:mW h q.2=z):kF (k++[q]) z:=by subst hz; exact vz hh hq
end
section
def m8 (l:bp):Prop:=(20<(l.aS.length:Int)∨8<(l.aj.length:Int)∨10<(l.aa.length:Int))∨ ∃ c∈l.aj,10<(c.bG.length:Int)
noncomputable instance (l:bp):Decidable (m8 l):=Classical.propDecidable _
/-- what is asked of a line that comes in -/
structure uq (l:bp) (az:List RA):Prop where
 qS:l.aS.length≤9223372036854775807
 side: ∀ x∈l.aS,0≤x.je∧x.je≤255
 qW:l.aj.length≤9223372036854775807
 nx:az.length=l.aj.length
 qU:l.aa.length≤9223372036854775807
 Re: ∀ (k:Nat) m (a:RA),l.aj[k]? =some m→az[k]? =some a→m.bG.length≤a.2∧m.bG.length≤9223372036854775807
def AN (l:bp) (i:Nat):Prop:= ∀ (j:Nat) c,j<i→l.aj[j]? =some c→(c.bG.length:Int)≤10
theorem Kc {l:bp} {i:Nat} (h: ¬ (20<(l.aS.length:Int))∧ ¬ (8<(l.aj.length:Int))∧ ¬ (10<(l.aa.length:Int))) (hi:l.aj.length≤i) (hs:AN l i): ¬ m8 l:=by
 rintro (A|⟨c,hc,B⟩)
 ·omega
 ·obtain ⟨k,hk⟩:=List.getElem?_of_mem hc
  have:=hs k c (by have:=(aZ.1 hk).1; omega) hk
  omega
theorem Kq {l:bp} {i:Nat} {c:au} (hc:l.aj[i]? =some c) (h:10<(c.bG.length:Int)):m8 l:= .inr ⟨c,aP hc,h⟩
theorem mh {α:Type} {l:List α} {P:Nat→α→Prop} {i:Nat} {x:α} (h: ∀ (j:Nat) y,j<i→l[j]? =some y→P j y) (hx:l[i]? =some x) (hp:P i x): ∀ (j:Nat) y,j<i+1→l[j]? =some y→P j y:=fun j y hj hy=>by
 by_cases e:j=i
 ·subst e; rw [hx] at hy; cases hy; exact hp
 ·exact h j y om hy
theorem xu {α:Type} {l:List α} {P:Nat→α→Prop} {i:Nat} (hi:l.length≤i) (h: ∀ (j:Nat) y,j<i→l[j]? =some y→P j y): ∀ (j:Nat) y,l[j]? =some y→P j y:=fun j y hy=>h j y (by have:=(aZ.1 hy).1; omega) hy
theorem yz {α:Type} {l:List α} {P:α→Prop} {i:Nat} (hi:l.length≤i) (h: ∀ (j:Nat) y,j<i→l[j]? =some y→P y): ∀ y∈l,P y:=fun y hy=>by
 obtain ⟨k,hk⟩:=List.getElem?_of_mem hy
 exact xu (P:=fun _ y=>P y) hi h k y hk
theorem Br {l:bp} (h: ¬ m8 l):(l.aS.length:Int)≤20∧(l.aj.length:Int)≤8∧(l.aa.length:Int)≤10∧ ∀ c∈l.aj,(c.bG.length:Int)≤10:=by
 unfold m8 at h
 rw [not_or] at h
 refine ⟨om,om,om,fun c hc=>?_⟩
 have:=h.2
 rcases Int.lt_or_le 10 (c.bG.length:Int) with q|q
 ·exact absurd ⟨c,hc,q⟩ this
 ·exact q
theorem uq.small {l:bp} {az:List RA} (h:uq l az) (hg: ¬ m8 l):dY l az:=by
 have A:=Br hg
 exact ⟨om,h.side,om,h.nx,om,fun k m a hm ha=>⟨(h.Re k m a hm ha).1,by have:=A.2.2.2 m (aP hm); omega⟩⟩
def FW (c:au) (x:cM) (k:Nat):Prop:= ∀ (j:Nat) o,j<k→c.bG[j]? =some o→n_ c x o
def uI (c:au) (m:Nat):Prop:= ∀ (i:Nat) x,i<m→c.bG[i]? =some x→FW c x i
theorem JU {c:au} {m:Nat} (h1:0≤c.dw∧c.dw≤1000) (h2:1≤c.bG.length∧c.bG.length≤5) (hs: ∀ (i:Nat) x,c.bG[i]? =some x→fM c i x) (hm:c.bG.length≤m) (hp:uI c m):eP c:=
 ⟨h1,h2,hs,fun i k x o hx hk ho=>hp i x (by have:=(aZ.1 hx).1; omega) hx k o hk ho⟩
theorem Eb {c:au} {m k:Nat} (h:uI c m) (hk: ∀ y,c.bG[m]? =some y→FW c y k) (e:k=m):uI c (m+1):=by
 subst e
 intro i x hi hx
 by_cases e:i=k
 ·subst e; exact hk x hx
 ·exact h i x om hx
noncomputable def kX (c:au) (at_:Int) (i:Nat):ag:=if i=0 then gj else gK c at_ i
theorem Ep {c:au} {at_:Int} {i:Nat} (h:eP c) (hi:c.bG.length≤i):kX c at_ i=gr c at_:=by
 have:=h.len
 unfold kX; rw [if_neg om,nQ hi]
theorem z7 {c:au} {at_:Int} {i:Nat} {x:cM} (h:eP c) (ha:0≤at_∧at_≤90000000) (hx:c.bG[i]? =some x) (hi:i=0):
 kX c at_ (i+1)=⟨max (x.dR.Lo-mL c at_ x) (x.dR.Lo-mL c at_ x),min (x.dR.Hi+mL c at_ x) (x.dR.Hi+mL c at_ x)⟩:=by
 subst hi
 have hb:=h.rT hx
 have ho:=tM h.qN ha hb.1
 unfold kX
 rw [if_neg om,kb hx]
 unfold gQ gK
 simp only [List.take_zero,List.foldl_nil,ag.mk.injEq]
 omega
theorem Cy {c:au} {at_:Int} {i:Nat} {x:cM} (hx:c.bG[i]? =some x) (hi: ¬ i=0):kX c at_ (i+1)=⟨max (kX c at_ i).Lo (x.dR.Lo-mL c at_ x),min (kX c at_ i).Hi (x.dR.Hi+mL c at_ x)⟩:=by
 unfold kX
 rw [if_neg om,if_neg hi,kb hx]; rfl
def ik (ts:List ar) (n:Nat):List ag:=(List.range n).map fun k=>eN ts 0 k
theorem Bq {ts:List ar} {n:Nat}:ik ts (n+1)=ik ts n++[eN ts 0 n]:=by simp [ik,List.range_succ]
theorem o7 {ts:List ar} {n:Nat}:(ik ts n).length=n:=by simp [ik]
theorem pU {ts:List ar} {n k:Nat} {x:ag} (h:(ik ts n)[k]? =some x):x=eN ts 0 k:=by
 unfold ik at h
 rw [gf] at h
 cases hk:(List.range n)[k]? with
 |none=>simp [hk] at h
 |some v=>
  have:=aZ.1 hk
  simp at this
  simp [hk] at h
  rw [← h,← this.2]
theorem DE {ts:List ar} {a b:cH} (h:b.bB<a.bB):j7 ts a b=oL (j7 ts b a):=by
 unfold j7
 rw [if_pos h,if_neg om]
 unfold xS
 rw [Int.min_comm b.bB a.bB,Int.max_comm b.bB a.bB]
 unfold oL mK
 simp only [ag.mk.injEq]
 omega
theorem rj {ts:List ar} {a b:cH} (h: ¬ b.bB<a.bB):j7 ts a b=mK (mK (eN ts a.bB.toNat (b.bB-a.bB).toNat) b.m0) (oL a.m0):=by
 unfold j7 xS
 rw [if_neg h,Int.min_eq_left om,Int.max_eq_right om]
end
section
def fj (m:List ax) (a:c_):List ay:=rd a.1.1 m.length 7 (List.zipWith ax.cells m a.2)::br ax.gd m a.2
structure PR (h:List ax) (a:c_):Prop where
 len:h.length≤1000000
 nx:a.2.length=h.length
 sig: ∀ d∈h,d.bx.ab.length≤1000000
structure lS (r:fu) (az:List RA) (ha:List c_):Prop where
 line:dY r.ak az
 ir:r.bj.length≤1000000
 draw:r.cq.length≤12
 iu:r.aD.length≤1000000
 has:ha.length=r.aD.length
 gH: ∀ (k:Nat) h (a:c_),r.aD[k]? =some h→ha[k]? =some a→PR h a
structure uU (r:fu) (az:List RA) (ha:List c_):Prop where
 line:uq r.ak az
 ir:r.bj.length≤9223372036854775807
 draw:r.cq.length≤9223372036854775807
 iu:r.aD.length≤9223372036854775807
 has:ha.length=r.aD.length
 gH: ∀ (k:Nat) h (a:c_),r.aD[k]? =some h→ha[k]? =some a→h.length≤9223372036854775807∧a.2.length=h.length∧ ∀ d∈h,d.bx.ab.length≤9223372036854775807
def py (h:List ax):Prop:=8<(h.length:Int)∨ ∃ d∈h,15<(d.bx.ab.length:Int)
def mA (r:fu):Prop:=(m8 r.ak∨8<(r.bj.length:Int)∨8<(r.cq.length:Int)∨5<(r.aD.length:Int))∨ ∃ h∈r.aD,py h
noncomputable instance (r:fu):Decidable (mA r):=Classical.propDecidable _
theorem Gf {r:fu} (h: ¬ mA r): ¬ m8 r.ak∧(r.bj.length:Int)≤8∧(r.cq.length:Int)≤8∧(r.aD.length:Int)≤5∧ ∀ h∈r.aD,(h.length:Int)≤8∧ ∀ d∈h,(d.bx.ab.length:Int)≤15:=by
 unfold mA at h
 obtain ⟨A,B⟩:=not_or.1 h
 obtain ⟨C,E⟩:=not_or.1 A
 refine ⟨C,om,om,om,fun x hx=>?_⟩
 have hn: ¬ py x:=fun q=>B ⟨x,hx,q⟩
 obtain ⟨F,D⟩:=not_or.1 hn
 refine ⟨om,fun d hd=>?_⟩
 rcases Int.lt_or_le 15 (d.bx.ab.length:Int) with q|q
 ·exact absurd ⟨d,hd,q⟩ D
 ·exact q
theorem uU.small {r:fu} {az:List RA} {ha:List c_} (h:uU r az ha) (hg: ¬ mA r):lS r az ha:=by
 have B:=Gf hg
 refine ⟨h.line.small B.1,om,om,om,h.has,fun k x a hx A=>?_⟩
 have C:=B.2.2.2.2 x (aP hx)
 have D:=h.gH k x a hx A
 exact ⟨om,D.2.1,fun d hd=>by have:=C.2 d hd; omega⟩
def nq (r:bT):Prop:=r.Start=0∧r.gh=0∧(r.ab.length:Int)=0
instance (r:bT):Decidable (nq r):=by unfold nq; infer_instance
def mu (s:ag):Prop:=1≤s.Lo∧s.Lo≤s.Hi∧s.Hi≤600000
instance (s:ag):Decidable (mu s):=by unfold mu; infer_instance
def iP (l:bp) (d:ax):Prop:=if d.Out=true then d.dC=false∧d.Time=gj∧nq d.bx else if d.dC=true then mu d.Time∧nq d.bx else dV l d.bx l.bO=0∧d.Time=gj
noncomputable instance (l:bp) (d:ax):Decidable (iP l d):=Classical.propDecidable _
noncomputable def gl (l:bp) (d:ax):ag:=if d.Out=true∨d.dC=true then d.Time else zX l d.bx
/-- which kind a descent is of -/
def o3 (d:ax):Int:=if d.Out=true then 0 else if d.dC=true then 1 else 2
theorem Od {w:cg} (h:GV w): ∀ (b:Nat) (p:aN×Int),p∈pO w b→w.Start≤p.2:=by
 have hl: ∀ b,0≤cO w b:=fun b=>by
  unfold cO
  cases e:w.qJ[b]? with
  |none=>simp
  |some x=>have:=h.least x (aP e); simp; omega
 intro b
 induction b with
 |zero=>intro p hp; simp only [pO,cv] at hp; subst hp; exact Int.le_refl _
 |succ b ih=>
  intro q hq
  obtain ⟨p,hp,o,ho,e⟩:=jA.1 hq
  unfold m_ at e
  split at e
  ·simp only [Option.some.injEq] at e
   subst e
   have:=ih p hp
   have:=hl b
   simp only; omega
  ·cases e
theorem Ol {l:bp} {r:bT} {b:Int} (h:dV l r b=0):r.Start≤(dI l r b).Lo:=by
 have ho:eW l r (jT l b)=0:=by
  by_cases e:eW l r (jT l b)=0
  ·exact e
  ·rw [(mx e).1] at h; exact absurd h e
 obtain ⟨B,C,_⟩:=jc ho
 obtain ⟨ht,A⟩:=du B
 have hw:=lL ht A C
 have hv:dI l r b=mU l r b.toNat:=by unfold dI; rw [if_pos h]
 have hn:mU l r b.toNat≠mS:=fun e=>by unfold dV at h; rw [if_pos ho,if_pos e] at h; omega
 have hh:=th (l:=qM (cQ l r) b.toNat) fun q hq=>ny hq
 rw [hv]
 unfold mU at hn ⊢
 rcases hh with ⟨_,e⟩|hh
 ·exact absurd e hn
 ·obtain ⟨x,hx,ex⟩:=hh.lo
  obtain ⟨o,ho,p,hp,u,hu,e⟩:=jq.1 hx
  obtain ⟨_,_,rfl⟩:=ld.1 e
  have D:r.Start≤p.2:=Od hw _ p hp
  have E:0≤cO (cQ l r) b.toNat:=by
   unfold cO
   cases e:(cQ l r).qJ[b.toNat]? with
   |none=>simp
   |some x=>have:=hw.least x (aP e); simp; omega
  simp only [lp] at ex
  omega
theorem Fk {l:bp} {d:ax} (h:iP l d):0≤(gl l d).Lo∧(gl l d).Lo≤(gl l d).Hi∧(gl l d).Hi≤86400000:=by
 unfold iP at h
 unfold gl
 split at h
 ·rename_i q; rw [if_pos (Or.inl q),h.2.1]; simp [gj]
 ·rename_i q
  split at h
  ·rename_i A
   rw [if_pos (Or.inr A)]
   obtain ⟨⟨B,C,D⟩,_⟩:=h
   omega
  ·rename_i A
   rw [if_neg (fun z=>z.elim q A),zW h.1]
   have B:=rG h.1
   have C:=(wb h.1).time
   have D:=Ol h.1
   simp only
   omega
theorem EZ {l:bp} {d:ax} (h:d.Out=true):gl l d=d.Time:=if_pos (Or.inl h)
theorem F7 {l:bp} {d:ax} (h:d.Out=false∧d.dC=true):gl l d=d.Time:=if_pos (Or.inr h.2)
theorem Ga {l:bp} {d:ax} (h:d.Out=false∧d.dC=false):gl l d=zX l d.bx:=if_neg (by simp [h])
theorem rp {l:bp} {d:ax} (h:d.Out=true):iP l d=(d.dC=false∧d.Time=gj∧nq d.bx):=if_pos h
theorem uh {l:bp} {d:ax} (h:d.Out=false∧d.dC=true):iP l d=(mu d.Time∧nq d.bx):=by unfold iP; rw [if_neg (by simp [h]),if_pos h.2]
theorem uW {l:bp} {d:ax} (h:d.Out=false∧d.dC=false):iP l d=(dV l d.bx l.bO=0∧d.Time=gj):=by unfold iP; rw [if_neg (by simp [h]),if_neg (by simp [h])]
structure fQ (r:fu):Prop where
 num:1≤(r.bj.length:Int)∧(r.bj.length:Int)≤5
 Ad:0≤r.kM∧r.kM≤5
 nh:1≤(r.aD.length:Int)∧(r.aD.length:Int)≤3
 ids: ∀ (i:Nat) x,r.bj[i]? =some x→(0≤x∧x≤9999)∧ ∀ y,0<i→r.bj[i-1]? =some y→y<x
 draw:r.cq.Perm ((List.range r.bj.length).map fun (k:Nat)=>(k:Int))
 gH: ∀ h∈r.aD,h.length=r.bj.length∧ ∀ d∈h,iP r.ak d
noncomputable instance (r:fu):Decidable (fQ r):=Classical.propDecidable _
noncomputable def jE (r:fu):Int:=if dg r.ak=0 then (if fQ r then 0 else 60) else dg r.ak
end
section
theorem nT {α β:Type} {f g:α→Option β}: ∀ {l:List α},(∀ x∈l,f x=g x)→l.filterMap f=l.filterMap g
 |[],_=>rfl
 |x::l,h=>by simp only [List.filterMap_cons,h x cx,nT (l:=l) (fun y hy=>h y (di _ hy))]
abbrev Bs:=List (Int×ag)
/-- the sum of a sled in some heats, the first ones -/
noncomputable def jZ (l:bp) (hs:List (List ax)) (i:Nat):Nat→Option ag
 |0=>some ⟨0,0⟩
 |k+1=>match jZ l hs i k,(hs[k]?).bind (·[i]?) with
  |some s,some d=>if d.Out=true then none else some ⟨s.Lo+(gl l d).Lo/10,s.Hi+(gl l d).Hi/10⟩
  |_,_=>none
noncomputable def eG (l:bp) (hs:List (List ax)) (n h i:Nat):Bs:=(List.range n).filterMap fun q=>(jZ l hs q (if q<i then h+1 else h)).map fun s=>((q:Int),s)
noncomputable def Bw (r:fu) (k:Nat):Bs:=(List.range r.bj.length).filterMap fun q=>(jZ r.ak r.aD q k).map fun s=>((q:Int),s)
noncomputable def OD (r:fu):Bs:=Bw r r.aD.length
section
variable {l:bp} {hs:List (List ax)} {n h i q:Nat} {s:ag} {d:ax}
theorem Cd:eG l hs n h 0=(List.range n).filterMap fun q=>(jZ l hs q h).map fun s=>((q:Int),s):=by
 unfold eG
 apply nT
 intro q _
 rw [if_neg (Nat.not_lt_zero _)]
theorem Of:eG l hs n h n=eG l hs n (h+1) 0:=by
 rw [Cd]
 unfold eG
 apply nT
 intro q hq
 rw [if_pos (List.mem_range.1 hq)]
theorem HY {x:List ax} (hx:hs[h]? =some x) (hd:x[i]? =some d) (ho:d.Out=true):jZ l hs i (h+1)=none:=by
 unfold jZ
 rw [hx]
 simp only [Option.bind_some,hd]
 cases jZ l hs i h with
 |none=>rfl
 |some s=>simp [ho]
theorem EE (h0:jZ l hs i h=none):jZ l hs i (h+1)=none:=by unfold jZ; rw [h0]
theorem DA {x:List ax} (hx:hs[h]? =some x) (hd:x[i]? =some d) (ho: ¬ d.Out=true) (hs0:jZ l hs i h=some s):jZ l hs i (h+1)=some ⟨s.Lo+(gl l d).Lo/10,s.Hi+(gl l d).Hi/10⟩:=by
 unfold jZ
 rw [hx,hs0]
 simp only [Option.bind_some,hd,if_neg ho]
end
section
variable {l:bp} {hs:List (List ax)} {n h i q:Nat} {s t:ag}
theorem Rd {K β:Type} [DecidableEq K] {L Y:List (K×β)} {t:K}:(L++Y).lookup t=match L.lookup t with |some v=>some v|none=>Y.lookup t:=by
 induction L with
 |nil=>rfl
 |cons p L ih=>
  obtain ⟨k,u⟩:=p
  by_cases e:t==k
  ·simp [List.lookup,e]
  ·have:(t==k)=false:=by simpa using e
   simp only [List.cons_append,List.lookup,this,ih]
theorem vi {f:Nat→Option ag}: ∀ (n i:Nat),((List.range n).filterMap fun q=>(f q).map fun s=>((q:Int),s)).lookup (i:Int)=if i<n then f i else none
 |0,i=>by simp
 |n+1,i=>by
  rw [List.range_succ,List.filterMap_append,Rd,vi n i]
  by_cases c:i<n
  ·rw [if_pos c,if_pos om]
   cases e:f i with
   |some s=>rfl
   |none=>
    simp only
    cases e2:f n with
    |none=>simp [e2]
    |some u=>
     have:((i:Int)==(n:Int))=false:=by simp only [beq_eq_false_iff_ne,ne_eq]; omega
     simp [e2,List.lookup,this]
  ·rw [if_neg c]
   simp only
   by_cases A:i=n
   ·subst A
    rw [if_pos om]
    cases e2:f i with
    |none=>simp [e2]
    |some u=>simp [e2]
   ·rw [if_neg om]
    have:((i:Int)==(n:Int))=false:=by simp only [beq_eq_false_iff_ne,ne_eq]; omega
    cases e2:f n with
    |none=>simp [e2]
    |some u=>simp [e2,List.lookup,this]
theorem xq:(eG l hs n h i).lookup (q:Int)=if q<n then jZ l hs q (if q<i then h+1 else h) else none:=vi n q
theorem QZ {f g:Nat→Option ag} {n i:Nat} (hi:i<n) {s:ag} (hf:(f i).isSome=true) (hg:g i=some s) (hfg: ∀ q,q≠i→f q=g q):ew ((List.range n).filterMap fun q=>(f q).map fun s=>((q:Int),s)) (i:Int) s=(List.range n).filterMap fun q=>(g q).map fun s=>((q:Int),s):=by
 unfold ew
 rw [if_pos (by rw [vi,if_pos hi]; exact hf),List.map_filterMap]
 apply nT
 intro q _
 by_cases e:q=i
 ·subst e
  obtain ⟨u,hu⟩:=Option.isSome_iff_exists.1 hf
  rw [hu,hg]; simp
 ·rw [hfg q e]
  cases g q with
  |none=>rfl
  |some u=>
   have: ¬ ((q:Int)=(i:Int)):=by omega
   simp [this]
theorem P2 {f g:Nat→Option ag} {n i:Nat} (hg:g i=none) (hfg: ∀ q,q≠i→f q=g q):fy ((List.range n).filterMap fun q=>(f q).map fun s=>((q:Int),s)) (i:Int)=(List.range n).filterMap fun q=>(g q).map fun s=>((q:Int),s):=by
 unfold fy
 rw [List.filter_filterMap]
 apply nT
 intro q _
 by_cases e:q=i
 ·subst e
  rw [hg]
  cases f q with
  |none=>rfl
  |some u=>simp
 ·rw [hfg q e]
  cases g q with
  |none=>rfl
  |some u=>
   have: ¬ ((q:Int)=(i:Int)):=by omega
   simp [this]
theorem Nh (hi:i<n) (h0:(jZ l hs i h).isSome=true) (h1:jZ l hs i (h+1)=some s):ew (eG l hs n h i) (i:Int) s=eG l hs n h (i+1):=by
 unfold eG
 refine QZ hi (by rw [if_neg (Nat.lt_irrefl i)]; exact h0) (by rw [if_pos (Nat.lt_succ_self i)]; exact h1) fun q hq=>?_
 by_cases c:q<i
 ·rw [if_pos c,if_pos om]
 ·rw [if_neg c,if_neg om]
theorem Fv (h1:jZ l hs i (h+1)=none):fy (eG l hs n h i) (i:Int)=eG l hs n h (i+1):=by
 unfold eG
 refine P2 (by rw [if_pos (Nat.lt_succ_self i)]; exact h1) fun q hq=>?_
 by_cases c:q<i
 ·rw [if_pos c,if_pos om]
 ·rw [if_neg c,if_neg om]
end
section
variable {m:Bs} {i:Int} {own:ag}
end
end
section
def r9 (l:List Int):List (List Value):=l.map fun x=>[vI x]
theorem ub {l:List Int}:(r9 l).length=l.length:=by simp [r9]
theorem HG {l:List Int} {k:Nat} {x:Int} (h:l[k]? =some x):(r9 l)[k]? =some [vI x]:=by simp [r9,h]
theorem H4 {l:List Int} {k:Nat} {x:List Value} (h:(r9 l)[k]? =some x): ∃ y,l[k]? =some y∧x=[vI y]:=by
 simp only [r9,gf,Option.map_eq_some_iff] at h
 obtain ⟨y,hy,rfl⟩:=h
 exact ⟨y,hy,U⟩
theorem Ey {l:List Int}: ∀ x∈r9 l,x.length=1:=fun x hx=>by
 simp only [r9,cR] at hx
 obtain ⟨y,_,rfl⟩:=hx
 rfl
theorem yT {l:List Int}:l.take (r9 l).length=l:=by rw [ub,List.take_of_length_le (Nat.le_refl _)]
theorem xd {l:List Int} {k:Nat} {x:Int} (h:l[k]? =some x):l.take (k+1)=l.take k++[x]:=by
 rw [List.take_add_one,h]; rfl
def oc (l:List Int):List Int:=l.mergeSort fun a b=>decide (a≤b)
theorem mz {l:List Int}:(oc l).Perm l:=List.mergeSort_perm _ _
theorem uG {l:List Int}:(oc l).Pairwise (· ≤ ·):=by
 have:=List.pairwise_mergeSort (le:=fun (a b:Int)=>decide (a≤b)) (fun a b c A B=>by simp at A B ⊢; omega) (fun a b=>by simp; omega) l
 exact this.imp fun h=>by simpa using h
@[simp] theorem uC {l:List Int}:(oc l).length=l.length:=mz.length_eq
theorem Ct {l m:List Int} (h1:m.Perm l) (h2:m.Pairwise (· ≤ ·)):m=oc l:=td (h1.trans mz.symm) h2 uG
end
section
open Go.RowKit
def sC (s:bD):List Value:=[vS s.a s.n s.c]
theorem zL: ∀ s,(sC s).length=1:=fun s=>rfl
theorem KA (l:List bD): ∀ v∈(l.map sC).flatten,v.oneCell'=true:=kK (fun s=>rfl) l
def CP (l:List ag) (a:RA):bD:=⟨a.1,l.length,a.2⟩
def Mq (l:List ag) (a:RA):List Value:=[vS a.1 l.length a.2]
def Rf (l:List ag) (a:RA):List ay:=[rd a.1 l.length 2 (l.map ag.cells)]
def Fc (l:List ag) (a:RA):List ay:=[own a.1 a.2 Lg 2 (l.map ag.cells)]
theorem zu {ls:List (List ag)} {az:List RA}:(List.zipWith CP ls az).map sC=List.zipWith Mq ls az:=by
 rw [List.map_zipWith]; rfl
theorem TG: ∀ (m:List ag) (a:RA) (w:World),(∀ X∈Fc m a,X.holds w)→ ∀ X∈Rf m a,X.holds w:=fun m a w h X hX=>by
 simp only [Rf,cv] at hX
 subst hX
 have:=oh (h _ (cv.2 rfl))
 simpa using this
theorem EL {l:List (List ag)} {bz:List RA}:(bV (br Fc l bz)).wr=true:=by
 show (br Fc l bz).all (·.wr)=true
 rw [cN]
 intro X hX
 obtain ⟨k,m,a,_,_,h⟩:=kf hX
 simp only [Fc,cv] at h
 subst h; rfl
theorem Nk {ls:List (List ag)} {az:List RA} (h:az.length=ls.length):(List.zipWith Mq ls az).length=ls.length:=by simp [h]
noncomputable def gV (r:fu) (i:Nat):List (List ag):=(r.aD.take i).map fun h=>h.map (gl r.ak)
noncomputable def fU (r:fu):List (List ag):=gV r r.aD.length
section
variable {r:fu} {i:Nat} {h:List ax} {tz:List RA} {a:RA}
theorem wo (hh:r.aD[i]? =some h):gV r (i+1)=gV r i++[h.map (gl r.ak)]:=by unfold gV; rw [List.take_add_one,hh,List.map_append]; rfl
theorem k8 (hi:i≤r.aD.length):(gV r i).length=i:=by unfold gV; rw [List.length_map,List.length_take]; omega
theorem j4:(fU r).length=r.aD.length:=k8 (Nat.le_refl _)
theorem ET (hh:r.aD[i]? =some h):(fU r)[i]? =some (h.map (gl r.ak)):=by
 unfold fU gV
 rw [List.take_length,gf,hh]; rfl
theorem G3 {m:List ag} (hh:r.aD[i]? =some h) (hm:(fU r)[i]? =some m):m=h.map (gl r.ak):=by
 rw [ET hh] at hm
 exact (Option.some.inj hm).symm
theorem uH (hh:r.aD[i]? =some h) (hl:tz.length=i):List.zipWith CP (gV r (i+1)) (tz++[a])=List.zipWith CP (gV r i) tz++[CP (h.map (gl r.ak)) a]:=by
 have hi:=(aZ.1 hh).1
 rw [wo hh,List.zipWith_append (by rw [k8 om,hl])]
 rfl
theorem By (hh:r.aD[i]? =some h) (hl:tz.length=i):br Fc (gV r i) tz++[own a.1 a.2 Lg 2 ((h.map (gl r.ak)).map ag.cells)]=br Fc (gV r (i+1)) (tz++[a]):=by
 have hi:=(aZ.1 hh).1
 rw [wo hh,jx (by rw [k8 om,hl])]
 simp [br,Fc]
end
theorem zP {lo hi:Int} {l:List Int}:qP lo hi l=true↔ ∀ x∈l,lo≤x∧x≤hi:=by
 unfold qP
 rw [Bool.not_eq_true',List.any_eq_false]
 constructor
 ·intro h x hx; have:=h x hx; simp only [decide_eq_true_eq] at this; omega
 ·intro h x hx; have:=h x hx; simp only [decide_eq_true_eq]; omega
abbrev H2 (n:Nat):List Int:=(List.range n).map fun (k:Nat)=>(k:Int)
theorem xH (n:Nat):(H2 n).Pairwise (· ≤ ·):=by
 unfold H2
 rw [List.pairwise_map]
 exact List.pairwise_lt_range.imp fun h=>by omega
theorem Da {l:List Int} {n:Nat} (h:l.Perm (H2 n)):oc l=H2 n:=(Ct h.symm (xH n)).symm
theorem HD {l:List Int} {n:Nat} (hl:l.length=n) (h: ∀ j,j<n→ ∀ x,(oc l)[j]? =some x→x=(j:Int)):l.Perm (H2 n):=by
 have e:oc l=H2 n:=by
  apply List.ext_getElem
  ·simp [hl]
  ·intro j A B
   have C:j<n:=by simpa using B
   have:=h j C _ (fg A)
   simpa using this
 rw [← e]; exact mz.symm
def sI (r:fu) (i:Nat):Prop:= ∀ j,j<i→(∀ x,(oc r.cq)[j]? =some x→x=(j:Int))∧ ∀ x y,r.bj[j]? =some x→0<j→r.bj[j-1]? =some y→y<x
def D3 (r:fu) (h:List ax):Prop:=h.length=r.bj.length∧ ∀ d∈h,iP r.ak d
def kp (r:fu) (i:Nat):Prop:= ∀ (j:Nat) h,j<i→r.aD[j]? =some h→D3 r h
def oI (l:bp) (h:List ax) (k:Nat):Prop:= ∀ (j:Nat) d,j<k→h[j]? =some d→iP l d
section
variable {r:fu} {i:Nat}
theorem Ds:sI r 0:=fun j hj=>absurd hj (Nat.not_lt_zero _)
theorem xo {x:Int} (h:sI r i) (hd:(oc r.cq)[i]? =some x) (e:x=(i:Int)) (hs: ∀ x y,r.bj[i]? =some x→0<i→r.bj[i-1]? =some y→y<x):sI r (i+1):=fun j hj=>by
 rcases Nat.lt_or_ge j i with q|q
 ·exact h j q
 ·obtain rfl:j=i:=by omega
  exact ⟨fun y hy=>by rw [hd] at hy; cases hy; exact e,hs⟩
theorem x4:kp r 0:=fun j h hj=>absurd hj (Nat.not_lt_zero _)
theorem yw {h:List ax} (hh:kp r i) (hx:r.aD[i]? =some h) (ho:D3 r h):kp r (i+1):=fun j y hj hy=>by
 rcases Nat.lt_or_ge j i with q|q
 ·exact hh j y q hy
 ·obtain rfl:j=i:=by omega
  rw [hx] at hy; cases hy; exact ho
theorem wk {l:bp} {h:List ax}:oI l h 0:=fun j d hj=>absurd hj (Nat.not_lt_zero _)
theorem wm {l:bp} {h:List ax} {d:ax} (ht:oI l h i) (hx:h[i]? =some d) (ho:iP l d):oI l h (i+1):=fun j y hj hy=>by
 rcases Nat.lt_or_ge j i with q|q
 ·exact ht j y q hy
 ·obtain rfl:j=i:=by omega
  rw [hx] at hy; cases hy; exact ho
theorem EW {h:List ax} (hl:h.length=r.bj.length) (ht:oI r.ak h i) (hi:h.length≤i):D3 r h:=⟨hl,fun d hd=>by
 obtain ⟨j,hj⟩:=List.getElem?_of_mem hd
 exact ht j d (by have:=(aZ.1 hj).1; omega) hj⟩
theorem Iw {n:Nat} (hn:n=r.bj.length) (h1:1≤(r.bj.length:Int)∧(r.bj.length:Int)≤5) (h2:r.cq.length=r.bj.length) (h3:0≤r.kM∧r.kM≤5) (h4:1≤(r.aD.length:Int)∧(r.aD.length:Int)≤3) (h5:qP 0 9999 r.bj=true)
 (h6:sI r n) (h7:kp r i) (hi:r.aD.length≤i):fQ r:=by
 subst hn
 refine ⟨h1,h3,h4,fun k x hx=>⟨zP.1 h5 x (aP hx),fun y hk hy=>?_⟩,HD h2 fun j hj=>(h6 j hj).1,fun h hh=>?_⟩
 ·exact (h6 k (aZ.1 hx).1).2 x y hx hk hy
 ·obtain ⟨j,hj⟩:=List.getElem?_of_mem hh
  exact h7 j h (by have:=(aZ.1 hj).1; omega) hj
theorem fQ.Bd (h:fQ r):r.cq.length=r.bj.length:=by have:=h.draw.length_eq; simpa using this
theorem fQ.ins (h:fQ r):qP 0 9999 r.bj=true:=zP.2 fun x hx=>by
 obtain ⟨j,hj⟩:=List.getElem?_of_mem hx
 exact (h.ids j x hj).1
theorem fQ.drawn (h:fQ r) {x:Int} (hx:(oc r.cq)[i]? =some x):x=(i:Int):=by
 rw [Da h.draw] at hx
 have hi:=(aZ.1 hx).1
 simp at hi
 rw [gf,List.getElem?_range hi] at hx
 exact (Option.some.inj hx).symm
theorem fQ.M_ (h:fQ r):kp r i:=fun j x _ hx=>h.gH x (aP hx)
theorem za (h: ¬ dg r.ak=0):jE r=dg r.ak:=if_neg h
theorem kI (h:dg r.ak=0) (hn: ¬ fQ r):jE r=60:=by unfold jE; rw [if_pos h,if_neg hn]
theorem Bl (h:dg r.ak=0) (hn:fQ r):jE r=0:=by unfold jE; rw [if_pos h,if_pos hn]
theorem eH (h:jE r=0):dg r.ak=0∧fQ r:=by
 unfold jE at h
 split at h
 ·split at h
  ·exact ⟨asm,asm⟩
  ·cases h
 ·exact absurd h asm
end
section
variable {r:fu} {k i n h:Nat} {s:ag} {l:bp} {hs:List (List ax)}
theorem E6: ∀ {k:Nat} {s:ag},kp r k→k≤r.aD.length→jZ r.ak r.aD i k=some s→0≤s.Lo∧s.Lo≤s.Hi∧s.Hi≤8640000*(k:Int)
 |0,s,_,_,h=>by
  simp only [jZ,Option.some.injEq] at h
  subst h; simp
 |k+1,s,hh,hk,h=>by
  unfold jZ at h
  split at h
  ·rename_i u d hu hd
   split at h
   ·cases h
   ·cases h
    have A:=E6 (fun j x hj hx=>hh j x om hx) om hu
    obtain ⟨x,hx,hd⟩:=Option.bind_eq_some_iff.1 hd
    have B:=Fk ((hh k x om hx).2 d (aP hd))
    simp only
    push_cast
    omega
  ·cases h
theorem Mz:ew (eG l hs i 0 0) (i:Int) ⟨0,0⟩=eG l hs (i+1) 0 0:=by
 have A:(eG l hs i 0 0).lookup (i:Int)=none:=by rw [xq,if_neg (Nat.lt_irrefl i)]
 unfold ew
 rw [A]
 simp only [Option.isSome_none,Bool.false_eq_true,if_false]
 unfold eG
 rw [List.range_succ,List.filterMap_append]
 simp [jZ]
theorem Jj (hi:i<n):(eG l hs n h i).lookup (i:Int)=jZ l hs i h:=by rw [xq,if_pos hi,if_neg (Nat.lt_irrefl i)]
theorem Pk {α β:Type} {f:α→β} {tr:List β} {ht:List α} {x:β} {d:α} (e:tr=ht.map f) (hx:tr[i]? =some x) (hd:ht[i]? =some d):x=f d:=by
 rw [e,gf,hd] at hx
 exact (Option.some.inj hx).symm
theorem NH:eG r.ak r.aD r.bj.length h 0=Bw r h:=Cd
end
end
section
def ry (r:fu) (i:Int):Prop:=0≤i∧i≤(r.bj.length:Int)-1
instance (r:fu) (i:Int):Decidable (ry r i):=by unfold ry; infer_instance
section
variable {r:fu} {i a b:Int}
end
end
section
def mg (d:ax):Prop:=d.Out=false∧d.dC=false
instance (d:ax):Decidable (mg d):=by unfold mg; infer_instance
def eA (l:bp) (f:aK):Prop:=(1≤f.Kind∧f.Kind≤3)∧(0≤f.iN∧f.iN≤f.To∧f.To≤86400000)∧0≤f.de∧f.de≤(if f.Kind=1 then 0 else l.bO)
instance (l:bp) (f:aK):Decidable (eA l f):=by unfold eA; infer_instance
/-- the descent that a protest is of -/
def n7 (j:cK) (p:aY):Option ax:=(j.Race.aD[p.jl.toNat]?).bind (·[p.iK.toNat]?)
structure vW (j:cK) (i:Nat) (p:aY):Prop where
 id:0≤p.Id∧p.Id≤9999
 up: ∀ q,0<i→j.aF[i-1]? =some q→q.Id<p.Id
 lx:ry j.Race p.iK
 gH:0≤p.jl∧p.jl≤(j.Race.aD.length:Int)-1
 fault:0≤p.jy∧p.jy≤(j.aG.length:Int)-1
 kH: ∃ d,n7 j p=some d∧mg d∧d.bx.Start≤p.At∧p.At≤86400000
structure qj (j:cK):Prop where
 nf:(j.aG.length:Int)≤5
 fault: ∀ f∈j.aG,eA j.Race.ak f
 min_:0≤j.ei∧j.ei≤60
 tN:0≤j.wv∧j.wv≤100000
 np:(j.aF.length:Int)≤8
 hO: ∀ (i:Nat) p,j.aF[i]? =some p→vW j i p
noncomputable instance (j:cK):Decidable (qj j):=Classical.propDecidable _
noncomputable def ej (j:cK):Int:=if jE j.Race=0 then (if qj j then 0 else 70) else jE j.Race
theorem zy {j:cK} (h: ¬ jE j.Race=0):ej j=jE j.Race:=if_neg h
theorem jF {j:cK} (h:jE j.Race=0) (hn: ¬ qj j):ej j=70:=by unfold ej; rw [if_pos h,if_neg hn]
theorem xQ {j:cK} (h:jE j.Race=0) (hn:qj j):ej j=0:=by unfold ej; rw [if_pos h,if_pos hn]
theorem eE {j:cK} (h:ej j=0):jE j.Race=0∧qj j:=by
 unfold ej at h
 split at h
 ·split at h
  ·exact ⟨asm,asm⟩
  ·cases h
 ·rename_i q; exact absurd h q
structure yA where
 Lo:Int
 Hi:Int
 each:Bool
 never:Bool
/-- whether it passed the beam in each truth -/
noncomputable def qL (l:bp) (r:bT) (b:Int):Bool:=(j2 l r).all fun n=>decide (b<n)
noncomputable def cz (l:bp) (r:bT) (b:Int):yA:=
 if b<0 then ⟨r.Start,r.Start,true,false⟩
 else if dV l r b=0 then ⟨(dI l r b).Lo,if qL l r b=true then (dI l r b).Hi else 86400000,qL l r b,false⟩
 else ⟨86400000,86400000,false,true⟩
def rH (f:aK):Int:=if f.Kind=1 then-1 else if f.Kind=2 then f.de-1 else f.de
def JT (l:bp) (f:aK):Int:=if f.Kind=1 then l.bO else f.de
def rE (f:aK) (a b:yA):Prop:=if f.Kind=3 then f.iN≤a.Lo∧a.Hi≤f.To else a.Hi≤f.To∧f.iN≤b.Lo
instance (f:aK) (a b:yA):Decidable (rE f a b):=by unfold rE; infer_instance
def j9 (f:aK) (a b:yA):Int:=if a.never=true∨f.To<a.Lo∨b.Hi<f.iN then 0 else if a.each=true∧rE f a b then 2 else 1
noncomputable def fF (l:bp) (f:aK) (d:ax):Int:=if mg d then j9 f (cz l d.bx (rH f)) (cz l d.bx (JT l f)) else 0
theorem Ie {f:aK} {a b:yA}:0≤j9 f a b∧j9 f a b≤2:=by unfold j9; split; omega; split<;>omega
theorem LQ {l:bp} {f:aK} {d:ax}:0≤fF l f d∧fF l f d≤2:=by
 unfold fF; split
 ·exact Ie
 ·omega
theorem sv {l:bp} {f:aK} {d:ax} (h: ¬ mg d):fF l f d=0:=if_neg h
def l0 (P:Nat→Bool) (n:Nat):List Int:=((List.range n).filter P).map fun (i:Nat)=>(i:Int)
section
variable {P:Nat→Bool} {n q:Nat} {x:Int}
theorem yb (h:P n=true):l0 P (n+1)=l0 P n++[(n:Int)]:=by unfold l0; rw [List.range_succ,List.filter_append,List.map_append]; simp [h]
theorem s8 (h:P n=false):l0 P (n+1)=l0 P n:=by unfold l0; rw [List.range_succ,List.filter_append,List.map_append]; simp [h]
theorem qh:(l0 P n).length≤n:=by unfold l0; rw [List.length_map]; exact Nat.le_trans (List.length_filter_le _ _) (by rw [List.length_range]; exact Nat.le_refl _)
theorem Ac:x∈l0 P n↔ ∃ i:Nat,i<n∧x=(i:Int)∧P i=true:=by
 unfold l0
 simp only [cR,List.mem_filter,List.mem_range]
 constructor
 ·rintro ⟨i,⟨A,B⟩,rfl⟩; exact ⟨i,A,rfl,B⟩
 ·rintro ⟨i,A,rfl,B⟩; exact ⟨i,⟨A,B⟩,rfl⟩
end
noncomputable def jL (j:cK) (p:aY):Int:=match n7 j p with
 |some d=>if p.At≤(cz j.Race.ak d.bx j.Race.ak.bO).Lo+60000*j.ei then 0 else if p.At≤(cz j.Race.ak d.bx j.Race.ak.bO).Hi+60000*j.ei then 1 else 2
 |none=>2
noncomputable def hG (j:cK) (p:aY):Bool:=match n7 j p,j.aG[p.jy.toNat]? with
 |some d,some f=>decide (jL j p≠2)&&decide (fF j.Race.ak f d≠0)
 |_,_=>false
theorem Nn {j:cK} {p:aY}:0≤jL j p∧jL j p≤2:=by
 unfold jL; split
 ·split
  ·omega
  ·split<;>omega
 ·omega
/-- which protests are granted, so far -/
noncomputable def uc (j:cK) (n:Nat):List Int:=l0 (fun i=>(j.aF[i]?).any (hG j)) n
noncomputable def iI (j:cK):List Int:=uc j j.aF.length
theorem tn {j:cK} {n:Nat} {x:Int}:x∈uc j n↔ ∃ i:Nat,i<n∧x=(i:Int)∧ ∃ p,j.aF[i]? =some p∧hG j p=true:=by
 unfold uc
 rw [Ac]
 refine exists_congr fun i=>and_congr Iff.rfl (and_congr Iff.rfl ?_)
 cases h:j.aF[i]? with
 |none=>simp
 |some p=>simp
/-- by faults of which something is so -/
def G1 (l:bp) (F:aK→Prop) (fs:List aK) (d:ax):Prop:= ∃ f∈fs,F f∧ ¬ fF l f d=0
noncomputable def yL (l:bp) (F:aK→Prop) (fs:List aK) (h:List ax) (n:Nat):List Int:=l0 (fun s=>(h[s]?).any fun d=> @decide (G1 l F fs d) (Classical.propDecidable _)) n
noncomputable def hP (j:cK) (F:aK→Prop):List (List Int):=j.Race.aD.map fun h=>yL j.Race.ak F j.aG h h.length
/-- about which a protest is granted -/
def nz (j:cK) (f:aK):Prop:= ∃ (i:Nat) (p:aY),j.aF[i]? =some p∧hG j p=true∧j.aG[p.jy.toNat]? =some f
noncomputable def jG (j:cK):List (List Int):=hP j (nz j)
noncomputable def IG (j:cK) (s:Int) (n:Nat):Nat:=(List.range n).countP fun i=>(j.aF[i]?).any fun p=>decide (p.iK=s)&& !hG j p
noncomputable def D7 (j:cK) (s:Int):Int:= -(IG j s j.aF.length:Int)*j.wv
noncomputable def zo (j:cK):Int:=((iI j).length:Int)*j.wv
noncomputable def Gc (j:cK):Int:=(j.aF.length:Int)*j.wv-zo j
end
section
section
variable {j j':cK} {p:aY} {l:bp} {F G:aK→Prop} {fs:List aK} {h:List ax} {n:Nat} {x:Int}
theorem Hw (hFG: ∀ f∈fs,(F f↔G f)):yL l F fs h n=yL l G fs h n:=by
 unfold yL
 congr 1
 funext s
 cases e:h[s]? with
 |none=>rfl
 |some d=>
  simp only [Option.any_some]
  rw [gR]
  exact ⟨fun ⟨f,A,B,C⟩=>⟨f,A,(hFG f A).1 B,C⟩,fun ⟨f,A,B,C⟩=>⟨f,A,(hFG f A).2 B,C⟩⟩
theorem Ai {k:Nat} {h:List ax} (hh:j.Race.aD[k]? =some h):(hP j F)[k]? =some (yL j.Race.ak F j.aG h h.length):=by unfold hP; rw [gf,hh]; rfl
theorem Cb:(hP j F).length=j.Race.aD.length:=by unfold hP; rw [List.length_map]
end
end
section
variable {w w':cg}
theorem yf {k:Int}:k∈lQ w↔ ∃ i:Nat,k=(i:Int)∧i≤w.n∧lf w (pO w i)=true:=by
 unfold lQ kY
 simp only [cR,List.mem_filter,List.mem_range]
 constructor
 ·rintro ⟨i,⟨B,A⟩,rfl⟩; exact ⟨i,rfl,om,A⟩
 ·rintro ⟨i,rfl,B,A⟩; exact ⟨i,⟨om,A⟩,rfl⟩
theorem Nx {l:List (Int×ag)} (hl: ∀ q∈l,q.2.Lo≤q.2.Hi) {q:Int×ag} (hq:q∈l):ow l (ud l):=by
 rcases th hl with ⟨e,_⟩|h'
 ·rw [e] at hq; cases hq
 ·exact h'
variable {l l':bp} {r r':bT}
theorem zJ {b:Nat} (hb:b<l.aa.length):eW l r (jT l b)=eW l r 0:=by rw [um om]
theorem zQ {b:Nat}:cO (cQ l r) b=if b<l.aa.length then cZ l b else 0:=by
 unfold cO cQ cm
 split
 ·rename_i h
  simp [h]
 ·rename_i h
  simp [h]
theorem G8 {sg:List aA} {i:Nat} (h:i=0):kO sg i=⟨-1,0⟩:=by subst h; rfl
theorem sN {sg:List aA} {i:Nat} {y:aA} (h:0<i) (hy:sg[i-1]? =some y):kO sg i=y:=by unfold kO; rw [if_neg om,hy]; rfl
end
section
/-- where a sled may be after k beams more -/
def h_ (w:cg):Nat→Nat→aN×Int→List (aN×Int)
 |0,_,p=>[p]
 |k+1,b,p=>(jK w b).flatMap fun o=>match m_ w b p o with
  |some q=>h_ w k (b+1) q
  |none=>[]
variable {w:cg}
theorem jN {k b:Nat} {p q:aN×Int}:q∈h_ w (k+1) b p↔ ∃ o∈jK w b,∃ p',m_ w b p o=some p'∧q∈h_ w k (b+1) p':=by
 simp only [h_,List.mem_flatMap]
 constructor
 ·rintro ⟨o,ho,h⟩
  cases e:m_ w b p o with
  |none=>rw [e] at h; cases h
  |some p'=>rw [e] at h; exact ⟨o,ho,p',e,h⟩
 ·rintro ⟨o,ho,p',e,h⟩
  exact ⟨o,ho,by rw [e]; exact h⟩
theorem zA: ∀ (k b:Nat) (q:aN×Int),q∈pO w (b+k)↔ ∃ p∈pO w b,q∈h_ w k b p:=by
 intro k
 induction k with
 |zero=>
  intro b q
  simp only [Nat.add_zero,h_,cv]
  exact ⟨fun h=>⟨q,h,rfl⟩,fun ⟨p,hp,e⟩=>e▸hp⟩
 |succ k ih=>
  intro b q
  rw [show b+(k+1)=(b+1)+k by omega,ih]
  constructor
  ·rintro ⟨p',hp',h⟩
   obtain ⟨p,hp,o,ho,e⟩:=jA.1 hp'
   exact ⟨p,hp,jN.2 ⟨o,ho,p',e,h⟩⟩
  ·rintro ⟨p,hp,h⟩
   obtain ⟨o,ho,p',e,h'⟩:=jN.1 h
   exact ⟨p',jA.2 ⟨p,hp,o,ho,e⟩,h'⟩
theorem lj {b:Nat} {p q:aN×Int} {o:Int×ag}:m_ w b p o=some q↔max (p.2+cO w b) o.2.Lo≤min o.2.Hi w.gh∧q=(dM p.1 (fV o.1),max (p.2+cO w b) o.2.Lo):=by
 unfold m_
 split
 ·rename_i h
  constructor
  ·intro e; cases e; exact ⟨h,rfl⟩
  ·rintro ⟨_,rfl⟩; rfl
 ·rename_i h
  constructor
  ·intro e; cases e
  ·rintro ⟨h',_⟩; exact absurd h' h
theorem vV {b:Nat} {p q:aN×Int} {o:Int×ag}:pC w b p o=some q↔o.2.Lo≤min p.2 o.2.Hi∧q=(dM p.1 (fV o.1),min p.2 o.2.Hi-cO w b):=by
 unfold pC
 split
 ·rename_i h
  constructor
  ·intro e; cases e; exact ⟨h,rfl⟩
  ·rintro ⟨_,rfl⟩; rfl
 ·rename_i h
  constructor
  ·intro e; cases e
  ·rintro ⟨h',_⟩; exact absurd h' h
theorem Hz {b:Nat} (hb:b≤w.n):((⟨0,0⟩:aN),w.gh)∈back w b:=by
 rcases Nat.lt_or_ge b w.n with h|h
 ·exact (px h).2 (.inl U)
 ·rw [v8 h]; simp
theorem nI (t:aN):dM t ⟨0,0⟩=t:=by cases t; simp [dM]
theorem yY (a o u:aN):dM (dM a o) u=dM a (dM u o):=by simp only [dM,aN.mk.injEq]; omega
theorem Fq (hl: ∀ b,0≤cO w b): ∀ (k:Nat) (u:aN×Int),u∈Ov w k→u.2≤w.gh:=by
 intro k
 induction k with
 |zero=>intro u hu; simp only [Ov,cv] at hu; subst hu; exact Int.le_refl _
 |succ k ih=>
  intro u hu
  simp only [Ov,bR,List.mem_flatMap,List.mem_filterMap] at hu
  rcases hu with rfl|⟨p,hp,o,ho,e⟩
  ·exact Int.le_refl _
  ·obtain ⟨_,rfl⟩:=vV.1 e
   have:=ih p hp
   have:=hl (w.n-(k+1))
   simp only; omega
/-- what follows a passing is told by the way back -/
theorem N8: ∀ (k b:Nat) (p q:aN×Int),b+k≤w.n→p.2≤w.gh→q∈h_ w k b p→ ∃ u∈back w b,p.2≤u.2∧q.1=dM p.1 u.1:=by
 intro k
 induction k with
 |zero=>
  intro b p q hb hp hq
  simp only [h_,cv] at hq
  subst hq
  exact ⟨_,Hz om,hp,(nI _).symm⟩
 |succ k ih=>
  intro b p q hb hp hq
  obtain ⟨o,ho,p',e,h⟩:=jN.1 hq
  obtain ⟨C,rfl⟩:=lj.1 e
  obtain ⟨u',hu',B,A⟩:=ih (b+1) _ q om (by simp only; omega) h
  simp only at B A
  refine ⟨(dM u'.1 (fV o.1),min u'.2 o.2.Hi-cO w b),(px om).2 (.inr ⟨u',hu',o,ho,vV.2 ⟨om,U⟩⟩),by simp only; omega,?_⟩
  rw [A,yY]
theorem JA (hl: ∀ b,0≤cO w b): ∀ (d b:Nat) (p u:aN×Int),w.n=b+d→p.2≤u.2→u∈back w b→ ∃ k,b+k≤w.n∧ ∃ q∈h_ w k b p,q.1=dM p.1 u.1:=by
 intro d
 induction d with
 |zero=>
  intro b p u hd hp hu
  rw [v8 om] at hu
  simp only [cv] at hu
  subst hu
  exact ⟨0,om,p,by simp [h_],(nI _).symm⟩
 |succ d ih=>
  intro b p u hd hp hu
  rcases (px om).1 hu with rfl|⟨u',hu',o,ho,e⟩
  ·exact ⟨0,om,p,by simp [h_],(nI _).symm⟩
  ·obtain ⟨B,rfl⟩:=vV.1 e
   have hn:u'.2≤w.gh:=Fq hl _ _ hu'
   simp only at hp
   obtain ⟨k,hk,q,hq,A⟩:=ih (b+1) (dM p.1 (fV o.1),max (p.2+cO w b) o.2.Lo) u' om (by simp only; omega) hu'
   refine ⟨k+1,om,q,jN.2 ⟨o,ho,_,lj.2 ⟨om,U⟩,hq⟩,?_⟩
   rw [A]; simp only; rw [yY]
end
section
section
variable {l:bp} {r:bT} {one at_:Int} {d:Nat} {f g m:Int} {rec:Int→Int→Int→Bool} {i:Int}
end
theorem rR {l:bp} {r:bT} {d:Nat} (hd:d<l.aa.length) {o:Int×ag}:o∈jK (cQ l r) d↔o=(-1,⟨r.Start,r.gh⟩)∨ ∃ k,k<r.ab.length∧ ∃ s,r.ab[k]? =some s∧(s.fE=(d:Int)∧(cG l s).Lo≤(cG l s).Hi)∧o=((k:Int),cG l s):=by
 unfold jK wW
 show o∈(-1,(⟨r.Start,r.gh⟩:ag))::((cP l r.ab r.ab.length)[d]?).getD []↔_
 rw [pD hd,Option.getD_some,bR,tF]
theorem qx {l:bp} {r:bT} {d:Nat} (hd:d<l.aa.length):cO (cQ l r) d=cZ l d:=by rw [zQ,if_pos hd]
theorem vK {l:bp} {n d:Nat} {y:Int} (h:(cm l n)[d]? =some y):y=cZ l d:=by
 unfold cm at h
 rw [gf] at h
 have hd:d<n:=by
  rcases Nat.lt_or_ge d n with q|q
  ·exact q
  ·rw [List.getElem?_eq_none (by simpa using q)] at h; cases h
 rw [List.getElem?_range hd] at h
 exact (Option.some.inj h).symm
end
section
/-- a truth goes on from here -/
def Gr (w:cg) (b:Nat) (p:aN×Int):Prop:= ∃ k,b+k≤w.n∧ ∃ q∈h_ w k b p,l8 w q.1=true
/-- a truth may have come here, or earlier -/
def Wk (w:cg) (b:Nat) (p:aN×Int):Prop:= ∃ v,(p.1,v)∈pO w b∧v≤p.2
section
variable {w:cg}
theorem Gm: ∀ (k j b:Nat) (p q z:aN×Int),q∈h_ w k b p→z∈h_ w j (b+k) q→z∈h_ w (k+j) b p:=by
 intro k
 induction k with
 |zero=>
  intro j b p q z A B
  simp only [h_,cv] at A
  subst A
  rw [Nat.zero_add]; exact B
 |succ k ih=>
  intro j b p q z A B
  obtain ⟨o,ho,p',e,h⟩:=jN.1 A
  rw [show k+1+j=(k+j)+1 by omega]
  exact jN.2 ⟨o,ho,p',e,ih j (b+1) p' q z h (by rw [show b+1+k=b+(k+1) by omega]; exact B)⟩
theorem C9: ∀ (k b:Nat) (t:aN) (x y:Int) (q:aN×Int),y≤x→q∈h_ w k b (t,x)→ ∃ q'∈h_ w k b (t,y),q'.1=q.1∧q'.2≤q.2:=by
 intro k
 induction k with
 |zero=>
  intro b t x y q A hq
  simp only [h_,cv] at hq ⊢
  subst hq
  exact ⟨_,U,U,A⟩
 |succ k ih=>
  intro b t x y q A hq
  obtain ⟨o,ho,p',e,h⟩:=jN.1 hq
  obtain ⟨B,rfl⟩:=lj.1 e
  simp only at B h
  obtain ⟨q',hq',C,D⟩:=ih (b+1) _ _ (max (y+cO w b) o.2.Lo) q om h
  exact ⟨q',jN.2 ⟨o,ho,_,lj.2 ⟨by simp only; omega,U⟩,hq'⟩,C,D⟩
theorem Eg {b:Nat} {t:aN} {x y:Int} (h:Gr w b (t,x)) (hy:y≤x):Gr w b (t,y):=by
 obtain ⟨k,hk,q,hq,hm⟩:=h
 obtain ⟨q',hq',e,_⟩:=C9 k b t x y q hy hq
 exact ⟨k,hk,q',hq',by rw [e]; exact hm⟩
theorem Hb {k b:Nat} {p q:aN×Int} (h:q∈h_ w k b p) (hv:Gr w (b+k) q):Gr w b p:=by
 obtain ⟨j,hj,z,hz,hm⟩:=hv
 exact ⟨k+j,om,z,Gm k j b p q z h hz,hm⟩
/-- a beam is passed at a time, by a signal -/
def DR (w:cg) (b:Nat) (s t:Int):Prop:= ∃ p∈pO w b,∃ o∈jK w b,o.1=s∧(max (p.2+cO w b) o.2.Lo≤t∧t≤min o.2.Hi w.gh)∧Gr w (b+1) (dM p.1 (fV o.1),t)
theorem FT (hl: ∀ b,0≤cO w b) {b:Nat} (hb:b<w.n) {s t:Int}:(∃ q∈qM w b,q.1=s∧q.2.Lo≤t∧t≤q.2.Hi)↔DR w b s t:=by
 constructor
 ·rintro ⟨q,hq,hs,C,D⟩
  obtain ⟨o,ho,p,hp,u,hu,e⟩:=jq.1 hq
  obtain ⟨B,A,rfl⟩:=ld.1 e
  simp only [lp] at C D B
  have hn:u.2≤w.gh:=Fq hl _ _ hu
  obtain ⟨k,hk,q,hq',E⟩:=JA hl (w.n-(b+1)) (b+1) (dM p.1 (fV o.1),t) u om (by simp only; omega) hu
  refine ⟨p,hp,o,ho,hs,⟨om,om⟩,k,hk,q,hq',?_⟩
  rw [E]
  unfold zT at A
  rw [show dM (dM p.1 (fV o.1)) u.1=dM (dM p.1 u.1) (fV o.1) by simp only [dM,aN.mk.injEq]; omega]
  exact A
 ·rintro ⟨p,hp,o,ho,hs,⟨C,D⟩,k,hk,q,hq,hm⟩
  obtain ⟨u,hu,B,A⟩:=N8 k (b+1) _ q hk (by simp only; omega) hq
  simp only at B A
  refine ⟨(o.1,lp w b p u o),jq.2 ⟨o,ho,p,hp,u,hu,ld.2 ⟨by simp only [lp]; omega,?_,U⟩⟩,hs,by simp only [lp]; omega,by simp only [lp]; omega⟩
  unfold zT
  rw [A] at hm
  rw [show dM (dM p.1 u.1) (fV o.1)=dM (dM p.1 (fV o.1)) u.1 by simp only [dM,aN.mk.injEq]; omega]
  exact hm
end
section
variable {w w':cg} {n:Int} {f g:Int→Int}
end
section
variable {l l':bp} {r r':bT} {n:Int} {f g:Int→Int}
end
end
end Go.Proofs.YtfhghdbminmhnaaGreatDoor
