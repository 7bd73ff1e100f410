/-
 The statement raceTrue_said, part 4 of 8: Short, Grow, Global, RunA, Tab, Run, Comp, Ret, LoopK, MapK, Watch, Passes, Keys, MapR, RangeG, Nest, WMaps, WBounds, PassG, Drop, Spot, First, Line, Wrap, Goes, OpenW, Wheres, ExL6, LineR, Race, RaceS, Vals, RaceO, Ord, Rev.
 Conditions: none.
-/
import Derived.Test.YtdllkkdchkhimaaGreatDoorTz1
import Derived.Test.YtdllkkdchkhimaaGreatDoorTz2
import Derived.Test.YtdllkkdchkhimaaGreatDoorTz3
import Derived.Test.YtdllkkdchkhimaaGreatDoorProg
import Derived.KernelRfl
import Derived.WideKeyRuns
namespace Go.Proofs.YtdllkkdchkhimaaGreatDoor
set_option maxRecDepth 100000
set_option maxHeartbeats 4000000
set_option linter.unusedVariables false
section
open Go.RowKit
/-- an operation that hands v to its slot d -/
structure SE (E:fh) (ops:Array Oper) (o:Oper) (D:List Deferred) (L:List (Nat×Value)) (C:List av) (v:Value) (d:Nat):Prop where
 h:SD E ops o D L C v
 o:o.dst=some d
 n:Nat.blt d E.n=true
theorem rS {E:fh} {ops:Array Oper} {Q:c_} {o:Oper} {rest:List Oper} {D:List Deferred} {L:List (Nat×Value)} {C:List av} {v:Value} {d:Nat}
 (h:SE E ops o D L C v d) (k:RJ E ops Q rest D ((d,v)::L) C):RJ E ops Q (o::rest) D L C:=RN h.h h.o h.n k
theorem dS {E:fh} {ops:Array Oper} {F:List (Nat×Value)→Prop} {o:Oper} {rest:List Oper} {D:List Deferred} {L:List (Nat×Value)} {C:List av} {v:Value} {d:Nat}
 (h:SE E ops o D L C v d) (k:DJ E ops D C F rest ((d,v)::L)):DJ E ops D C F (o::rest) L:=Sj h.h h.o h.n k
theorem eS {E:fh} {ops:Array Oper} {D:List Deferred} {C' C1:List av} {F:List (Nat×Value)→Prop} {bs:List Bool} {o:Oper} {l rest:List Oper} {L:List (Nat×Value)} {v:Value} {d:Nat}
 (hl:l=o::rest) (h:SE E ops o D L C' v d) (k:pU E ops D C' C1 F bs rest ((d,v)::L)):pU E ops D C' C1 F (false::bs) l L:=Rn h.h hl h.o h.n k
theorem fS {E:fh} {ops:Array Oper} {D:List Deferred} {C' C1:List av} {F:List (Nat×Value)→Prop} {bs:List Bool} {o:Oper} {l rest:List Oper} {L:List (Nat×Value)} {v:Value} {d:Nat}
 (hl:l=o::rest) (h:SE E ops o D L C1 v d) (k:pU E ops D C' C1 F bs rest ((d,v)::L)):pU E ops D C' C1 F (true::bs) l L:=Tp h.h hl h.o h.n k
def gB (n:Nat) (ops:Array Oper) (L:List (Nat×Value)) (d:Nat) (g:Option (Nat×Bool)):Bool:=jr ops L g&&Nat.blt d n
theorem OH {n:Nat} {ops:Array Oper} {L:List (Nat×Value)} {d:Nat} {g:Option (Nat×Bool)} (h:gB n ops L d g=true):jr ops L g=true:=by
 unfold gB at h; rw [cR] at h; exact h.1
theorem Ou {n:Nat} {ops:Array Oper} {L:List (Nat×Value)} {d:Nat} {g:Option (Nat×Bool)} (h:gB n ops L d g=true):Nat.blt d n=true:=by
 unfold gB at h; rw [cR] at h; exact h.2
def vF (n:Nat) (ops:Array Oper) (L:List (Nat×Value)) (d:Nat) (g:Option (Nat×Bool)) (x:Operand):Option Value:=match gB n ops L d g with
 |true=>ev L x
 |false=>none
def bF (n:Nat) (ops:Array Oper) (L:List (Nat×Value)) (d:Nat) (g:Option (Nat×Bool)) (x y:Operand):Option (Value×Value):=match gB n ops L d g with
 |true=>match ev L x,ev L y with
  |some u,some v=>some (u,v)
  |_,_=>none
 |false=>none
def pF (n:Nat) (ops:Array Oper) (L:List (Nat×Value)) (d:Nat) (g:Option (Nat×Bool)) (c x y:Operand):Option Value:=match gB n ops L d g with
 |true=>match ev L c with
  |some (.bool true)=>ev L x
  |some (.bool false)=>ev L y
  |_=>none
 |false=>none
def xF (n:Nat) (ops:Array Oper) (L:List (Nat×Value)) (d:Nat) (g:Option (Nat×Bool)) (x:Operand) (i:Nat):Option Value:=match vF n ops L d g x with
 |some (.tuple vs)=>vs.toList[i]?
 |_=>none
def uF (n:Nat) (ops:Array Oper) (L:List (Nat×Value)) (d:Nat) (g:Option (Nat×Bool)) (xs ys:List Operand):Option (List Value×List Value):=match gB n ops L d g with
 |true=>match evs L xs,evs L ys with
  |some u,some v=>some (u,v)
  |_,_=>none
 |false=>none
def cF (n:Nat) (ops:Array Oper) (L:List (Nat×Value)) (d:Nat) (g:Option (Nat×Bool)) (fop:Operand) (xs:List Operand):Option (FuncId×List Value):=match gB n ops L d g with
 |true=>match ev L fop,evs L xs with
  |some (.func (.func f) fi ca),some vs=>some (f,fi.toList++vs++ca.toList)
  |_,_=>none
 |false=>none
theorem iO {n:Nat} {ops:Array Oper} {L:List (Nat×Value)} {d:Nat} {g:Option (Nat×Bool)} {x:Operand} {v:Value} (h:vF n ops L d g x=some v):jr ops L g=true∧Nat.blt d n=true∧ev L x=some v:=by
 unfold vF at h
 split at h
 ·rename_i hb; exact ⟨OH hb,Ou hb,h⟩
 ·cases h
theorem qe {n:Nat} {ops:Array Oper} {L:List (Nat×Value)} {d:Nat} {g:Option (Nat×Bool)} {x y:Operand} {u v:Value} (h:bF n ops L d g x y=some (u,v)):jr ops L g=true∧Nat.blt d n=true∧ev L x=some u∧ev L y=some v:=by
 unfold bF at h
 split at h
 ·rename_i hb
  split at h
  ·rename_i hx hy; cases h; exact ⟨OH hb,Ou hb,hx,hy⟩
  ·cases h
 ·cases h
theorem Qb {n:Nat} {ops:Array Oper} {L:List (Nat×Value)} {d:Nat} {g:Option (Nat×Bool)} {x y:List Operand} {u v:List Value} (h:uF n ops L d g x y=some (u,v)):jr ops L g=true∧Nat.blt d n=true∧evs L x=some u∧evs L y=some v:=by
 unfold uF at h
 split at h
 ·rename_i hb
  split at h
  ·rename_i hx hy; cases h; exact ⟨OH hb,Ou hb,hx,hy⟩
  ·cases h
 ·cases h
section
variable {E:fh} {ops:Array Oper} {Q:c_} {rest:List Oper} {D:List Deferred} {L:List (Nat×Value)} {C:List av}
variable {d:Nat} {ty:TypeId} {ps:String} {af:Array Edge} {g:Option (Nat×Bool)}
theorem SX {o:Oper} {v:Value} (h:SD E ops o D L C v) (ho:o.dst=some d) (hd:Nat.blt d E.n=true):SE E ops o D L C v d:=⟨h,ho,hd⟩
theorem MV {x:Operand} {v:Value} (h:vF E.n ops L d g x=some v):SE E ops ⟨some d,.move x,ty,ps,af,g⟩ D L C v d:=by
 obtain ⟨A,B,F⟩:=iO h; exact ⟨E2 A F,rfl,B⟩
theorem AG {x:Operand} {v:Value} (h:vF E.n ops L d g x=some v):SE E ops ⟨some d,.assign x,ty,ps,af,g⟩ D L C v d:=by
 obtain ⟨A,B,F⟩:=iO h; exact ⟨yq A F,rfl,B⟩
theorem OX {op:Op} (h:(C5 ops L g&&Nat.blt d E.n)=true):SE E ops ⟨some d,op,ty,ps,af,g⟩ D L C undef d:=by
 rw [cR] at h; exact ⟨IN h.1,rfl,h.2⟩
theorem NT {xt:TypeId} {x:Operand} {b:Bool} (h:vF E.n ops L d g x=some (.bool b)):SE E ops ⟨some d,.unOp .not xt x,ty,ps,af,g⟩ D L C (.bool !b) d:=by
 obtain ⟨A,B,F⟩:=iO h; exact ⟨IX A F,rfl,B⟩
theorem NG {xt:TypeId} {x:Operand} {n:Int} (h:vF E.n ops L d g x=some (.int .i64 n)) (hb:pZ (-n)):SE E ops ⟨some d,.unOp .neg xt x,ty,ps,af,g⟩ D L C (.int .i64 (-n)) d:=by
 obtain ⟨A,B,F⟩:=iO h; exact ⟨QE A F hb,rfl,B⟩
theorem PK {c x y:Operand} {v:Value} (h:pF E.n ops L d g c x y=some v):SE E ops ⟨some d,.pick c x y,ty,ps,af,g⟩ D L C v d:=by
 unfold pF at h
 split at h
 ·rename_i hb
  split at h
  ·rename_i hc; exact ⟨yR (OH hb) hc h,rfl,Ou hb⟩
  ·rename_i hc; exact ⟨yK (OH hb) hc h,rfl,Ou hb⟩
  ·cases h
 ·cases h
theorem EX {x:Operand} {i:Nat} {v:Value} (h:xF E.n ops L d g x i=some v):SE E ops ⟨some d,.extract x i,ty,ps,af,g⟩ D L C v d:=by
 unfold xF at h
 split at h
 ·rename_i vs hv
  obtain ⟨A,B,F⟩:=iO hv
  exact ⟨xu (vs:=vs.toList) A (by simpa using F) h,U,B⟩
 ·cases h
theorem LN {x:Operand} {t e:TypeId} {A:OA} {n c:Nat} (h:vF E.n ops L d g x=some (.slice A n c)) (ht:E.P.underlying t=some (.slice e)):
 SE E ops ⟨some d,.call {callee:= .builtin .len,args:= #[x],argTypes:= #[t]},ty,ps,af,g⟩ D L C (.int .i64 n) d:=by
 obtain ⟨B,F,G⟩:=iO h; exact ⟨Iu B G ht,rfl,F⟩
theorem BI {op:BinOp} {xt yt:TypeId} {x y:Operand} {u v r:Value} (h:bF E.n ops L d g x y=some (u,v)) (hb:g0 E.P op xt x y u v r):SE E ops ⟨some d,.binOp op xt x y yt,ty,ps,af,g⟩ D L C r d:=by
 obtain ⟨A,B,F,G⟩:=qe h; exact ⟨cb A F G hb,rfl,B⟩
theorem MN {x y:Operand} {ts:Array TypeId} {a b:Int} {k:IntKind} (h:bF E.n ops L d g x y=some (.int k a,.int k b)):
 SE E ops ⟨some d,.call {callee:= .builtin .min,args:= #[x,y],argTypes:=ts},ty,ps,af,g⟩ D L C (.int k (min a b)) d:=by
 obtain ⟨A,B,F,G⟩:=qe h; exact ⟨QA A F G,rfl,B⟩
theorem MX {x y:Operand} {ts:Array TypeId} {a b:Int} {k:IntKind} (h:bF E.n ops L d g x y=some (.int k a,.int k b)):
 SE E ops ⟨some d,.call {callee:= .builtin .max,args:= #[x,y],argTypes:=ts},ty,ps,af,g⟩ D L C (.int k (max a b)) d:=by
 obtain ⟨A,B,F,G⟩:=qe h; exact ⟨Py A F G,rfl,B⟩
theorem FA (o':Nat) {x:Operand} {b o s f k:Nat} (h:vF E.n ops L d g x=some (.pointer (some ⟨b,o,none⟩))) (hf:se E.P s f=some k) (ho:o+k=o'):
 SE E ops ⟨some d,.fieldAddr s x f,ty,ps,af,g⟩ D L C (.pointer (some ⟨b,o',none⟩)) d:=by
 obtain ⟨A,B,F⟩:=iO h; exact ⟨O0 A F hf ho,rfl,B⟩
theorem mK (k':Nat) {x:Operand} {A:OA} {n sz:Nat} {es:List (List Value)} {k0 s f k:Nat} (h:vF E.n ops L d g x=some (.pointer (lI A k0))) (hR:iq C (rd A n sz es).holds) (hn:0<n*sz)
 (hf:se E.P s f=some k) (ho:k0+k=k'):SE E ops ⟨some d,.fieldAddr s x f,ty,ps,af,g⟩ D L C (.pointer (lI A k')) d:=by
 obtain ⟨B,F,G⟩:=iO h; exact ⟨IG B G hR hn hf ho,rfl,F⟩
theorem TP (k':Nat) {x:Operand} {A:OA} {ad:Addr} {k0 s f k:Nat} (h:vF E.n ops L d g x=some (.pointer (lI A k0))) (hA:A=some ad)
 (hf:se E.P s f=some k) (ho:k0+k=k'):SE E ops ⟨some d,.fieldAddr s x f,ty,ps,af,g⟩ D L C (.pointer (lI A k')) d:=by
 obtain ⟨B,F,G⟩:=iO h; exact ⟨JE B G hA hf ho,rfl,F⟩
theorem IA (k:Nat) {x ix:Operand} {A:OA} {n c sz e t:Nat} {es:List (List Value)} {j:Int} (h:bF E.n ops L d g x ix=some (.slice A n c,.int .i64 j)) (hR:iq C (rd A n sz es).holds)
 (ht:tE E.P t=some (e,sz)) (hz:0<sz) (hj:j=(k:Int)) (hk:k<n):SE E ops ⟨some d,.indexAddr t x ix,ty,ps,af,g⟩ D L C (.pointer (lI A (k*sz))) d:=by
 obtain ⟨B,F,G,H⟩:=qe h; exact ⟨Rv B G H hR ht hz hj hk,rfl,F⟩
theorem Tz (k o':Nat) {x ix:Operand} {b o n c sz e t:Nat} {j:Int} (h:bF E.n ops L d g x ix=some (.slice (some ⟨b,o,none⟩) n c,.int .i64 j))
 (ht:tE E.P t=some (e,sz)) (hj:j=(k:Int)) (hk:k<n) (ho:o+k*sz=o'):SE E ops ⟨some d,.indexAddr t x ix,ty,ps,af,g⟩ D L C (.pointer (some ⟨b,o',none⟩)) d:=by
 obtain ⟨A,B,F,G⟩:=qe h; exact ⟨MG A F G ht hj hk ho,rfl,B⟩
/-- the whole of a block, a part of it, one cell -/
theorem LW (i:Nat) {x:Operand} {b t tt n:Nat} {cs:List Value} (h:vF E.n ops L d g x=some (.pointer (some ⟨b,0,none⟩))) (ht:tK E.P t=some (true,n)) (hC:C[i]? =some (b_ b tt cs)) (hn:cs.length=n):
 SE E ops ⟨some d,.load t x,ty,ps,af,g⟩ D L C (.agg cs.toArray) d:=by
 obtain ⟨A,B,F⟩:=iO h; exact ⟨wi A F ht (pz i hC sm) hn,rfl,B⟩
theorem LP (vs:List Value) (i:Nat) {x:Operand} {b o t tt n:Nat} {cs:List Value} (h:vF E.n ops L d g x=some (.pointer (some ⟨b,o,none⟩))) (ht:tK E.P t=some (true,n)) (hC:C[i]? =some (b_ b tt cs)) (hv:(cs.drop o).take vs.length=vs) (hn:vs.length=n):
 SE E ops ⟨some d,.load t x,ty,ps,af,g⟩ D L C (.agg vs.toArray) d:=by
 obtain ⟨A,B,F⟩:=iO h; exact ⟨wi A F ht (pz i hC hv) hn,rfl,B⟩
theorem Vv (vs:List Value) (i:Nat) {x:Operand} {b o t tt n:Nat} {cs:List Value} (h:vF E.n ops L d g x=some (.pointer (some ⟨b,o,none⟩))) (ht:tK E.P t=some (true,n)) (hC:C[i]? =some (b_ b tt cs).ro) (hv:(cs.drop o).take vs.length=vs) (hn:vs.length=n):
 SE E ops ⟨some d,.load t x,ty,ps,af,g⟩ D L C (.agg vs.toArray) d:=by
 obtain ⟨A,B,F⟩:=iO h; exact ⟨wi A F ht (vW i hC hv) hn,rfl,B⟩
theorem L1 (v:Value) (i:Nat) {x:Operand} {b o t tt n:Nat} {cs:List Value} (h:vF E.n ops L d g x=some (.pointer (some ⟨b,o,none⟩))) (ht:tK E.P t=some (false,n)) (hC:C[i]? =some (b_ b tt cs)) (hv:(cs.drop o).take 1=[v]):
 SE E ops ⟨some d,.load t x,ty,ps,af,g⟩ D L C v d:=by
 obtain ⟨A,B,F⟩:=iO h; exact ⟨um A F ht (pz i hC hv),rfl,B⟩
theorem H0 (v:Value) (i:Nat) {x:Operand} {b o t tt n:Nat} {cs:List Value} (h:vF E.n ops L d g x=some (.pointer (some ⟨b,o,none⟩))) (ht:tK E.P t=some (false,n)) (hC:C[i]? =some (b_ b tt cs).ro) (hv:(cs.drop o).take 1=[v]):
 SE E ops ⟨some d,.load t x,ty,ps,af,g⟩ D L C v d:=by
 obtain ⟨A,B,F⟩:=iO h; exact ⟨um A F ht (vW i hC hv),rfl,B⟩
theorem D_ (i:Nat) {x:Operand} {b t tt n:Nat} {v:Value} (h:vF E.n ops L d g x=some (.pointer (some ⟨b,0,none⟩))) (ht:tK E.P t=some (false,n)) (hC:C[i]? =some (b_ b tt [v])):
 SE E ops ⟨some d,.load t x,ty,ps,af,g⟩ D L C v d:=by
 obtain ⟨A,B,F⟩:=iO h; exact ⟨um A F ht (pz i hC rfl),rfl,B⟩
theorem TC (i:Nat) {x:Operand} {b t tt n:Nat} {v:Value} (h:vF E.n ops L d g x=some (.pointer (some ⟨b,0,none⟩))) (ht:tK E.P t=some (false,n)) (hC:C[i]? =some (b_ b tt [v]).ro):
 SE E ops ⟨some d,.load t x,ty,ps,af,g⟩ D L C v d:=by
 obtain ⟨A,B,F⟩:=iO h; exact ⟨um A F ht (vW i hC rfl),rfl,B⟩
/-- what is read of a row -/
theorem gh (k o:Nat) (v:Value) {x:Operand} {A:OA} {t m n sz:Nat} {es:List (List Value)} {e:List Value} (h:vF E.n ops L d g x=some (.pointer (lI A m))) {nn:Nat} (ht:tK E.P t=some (false,nn)) (hR:iq C (rd A n sz es).holds) (he:es[k]? =some e) (hm:m=k*sz+o) (hz:0<sz) (hv:(e.drop o).take 1=[v]):
 SE E ops ⟨some d,.load t x,ty,ps,af,g⟩ D L C v d:=by
 obtain ⟨B,F,G⟩:=iO h; exact ⟨um B G ht (OG hR he hm hz hv),rfl,F⟩
theorem ov (k o:Nat) (vs:List Value) {x:Operand} {A:OA} {t m n sz:Nat} {es:List (List Value)} {e:List Value} (h:vF E.n ops L d g x=some (.pointer (lI A m))) {nn:Nat} (ht:tK E.P t=some (true,nn)) (hR:iq C (rd A n sz es).holds) (he:es[k]? =some e) (hm:m=k*sz+o) (hz:0<sz) (hv:(e.drop o).take vs.length=vs) (hn:vs.length=nn):
 SE E ops ⟨some d,.load t x,ty,ps,af,g⟩ D L C (.agg vs.toArray) d:=by
 obtain ⟨B,F,G⟩:=iO h; exact ⟨wi B G ht (OG hR he hm hz hv) hn,rfl,F⟩
theorem CL {fop:Operand} {xs:Array Operand} {ts:Array TypeId} {f:FuncId} {args:List Value} {Cp:List av} {v:Value} (c:d_ E.P f args Cp v) (hC:j3 C Cp) (h:cF E.n ops L d g fop xs.toList=some (f,args)):
 SE E ops ⟨some d,.call {callee:= .value fop,args:=xs,argTypes:=ts},ty,ps,af,g⟩ D L C v d:=by
 unfold cF at h
 split at h
 ·rename_i hb
  split at h
  ·rename_i hf hx; cases h; exact ⟨Gc (OH hb) hf hx rfl c hC,rfl,Ou hb⟩
  ·cases h
 ·cases h
theorem FU {fn:Fn} {xs ys:Array Operand} {us vs:List Value} (h:uF E.n ops L d g xs.toList ys.toList=some (us,vs)):SE E ops ⟨some d,.makeFunc fn xs ys,ty,ps,af,g⟩ D L C (.func fn us.toArray vs.toArray) d:=by
 obtain ⟨A,B,F,G⟩:=Qb h; exact ⟨MC A F G,rfl,B⟩
theorem cX {fop:Operand} {xs:Array Operand} {ts:Array TypeId} {f:FuncId} {args:List Value} {Cp:List av} {α:Type} {V:α→Value} {p:α→Prop} {N:α→List av} (c:lq E.P f args Cp V p N) (hC:j3 C Cp)
 (h:cF E.n ops L d g fop xs.toList=some (f,args)) (k: ∀ x,p x→RJ E ops Q rest D ((d,V x)::L) (N x++C)):
 RJ E ops Q (⟨some d,.call {callee:= .value fop,args:=xs,argTypes:=ts},ty,ps,af,g⟩::rest) D L C:=by
 unfold cF at h
 split at h
 ·rename_i hb
  split at h
  ·rename_i hf hx; cases h; exact PH (OH hb) hf hx rfl c hC (Ou hb) k
  ·cases h
 ·cases h
/-- a box of a struct, of one cell -/
theorem fU {t:TypeId} {x:Operand} {cs:List Value} (h:vF E.n ops L d g x=some (.agg cs.toArray)) (k: ∀ b,RJ E ops Q rest D ((d,.pointer (some ⟨b,0,none⟩))::L) (b_ b t cs::C)):
 RJ E ops Q (⟨some d,.box t x,ty,ps,af,g⟩::rest) D L C:=by
 obtain ⟨A,B,F⟩:=iO h; exact OS A F rfl B k
theorem uA {t:TypeId} {x:Operand} {v:Value} (h:vF E.n ops L d g x=some v) (hv:v.cells.toList=[v]) (k: ∀ b,RJ E ops Q rest D ((d,.pointer (some ⟨b,0,none⟩))::L) (b_ b t [v]::C)):
 RJ E ops Q (⟨some d,.box t x,ty,ps,af,g⟩::rest) D L C:=by
 obtain ⟨A,B,F⟩:=iO h; exact OS A F hv B k
theorem AL {t:TypeId} {cs:List Value} (h:gB E.n ops L d g=true) (hz:tZ E.P t=some cs) (k: ∀ b,RJ E ops Q rest D ((d,.pointer (some ⟨b,0,none⟩))::L) (b_ b t cs::C)):
 RJ E ops Q (⟨some d,.alloc t,ty,ps,af,g⟩::rest) D L C:=Ob (OH h) hz (Ou h) k
/-- a store into the block at the place i of the state -/
def sF (ops:Array Oper) (L:List (Nat×Value)) (g:Option (Nat×Bool)) (x y:Operand):Option (Value×Value):=match jr ops L g with
 |true=>match ev L x,ev L y with
  |some u,some v=>some (u,v)
  |_,_=>none
 |false=>none
theorem D7 {ops:Array Oper} {L:List (Nat×Value)} {g:Option (Nat×Bool)} {x y:Operand} {u v:Value} (h:sF ops L g x y=some (u,v)):jr ops L g=true∧ev L x=some u∧ev L y=some v:=by
 unfold sF at h
 split at h
 ·rename_i hb
  split at h
  ·rename_i hx hy; cases h; exact ⟨hb,hx,hy⟩
  ·cases h
 ·cases h
theorem Q8 {t n b o tt:Nat} {x y:Operand} {v:Value} {cs cs':List Value} {C':List av} (i:Nat) (h:sF ops L g x y=some (.pointer (some ⟨b,o,none⟩),v)) (ht:(tK E.P t).map (·.2)=some n) (hC:C[i]? =some (b_ b tt cs))
 (hk:(v.cells.toList.length==n&&v.cells.toList.all Value.oneCell'&&Nat.ble (o+n) cs.length)=true) (hcs:cs.take o++v.cells.toList++cs.drop (o+n)=cs') (hC':C.set i (b_ b tt cs')=C') (k:RJ E ops Q rest D L C'):
 RJ E ops Q (⟨none,.store t x y,ty,ps,af,g⟩::rest) D L C:=by
 obtain ⟨A,B,F⟩:=D7 h
 simp only [cR,beq_iff_eq] at hk
 exact jl i A B F ht U hk.1.1 hk.1.2 hC hk.2 hcs hC' k
/-- a store of a whole block, by a struct, by one cell -/
theorem Ns {t n b tt:Nat} {x y:Operand} {cs cs':List Value} {C':List av} (i:Nat) (h:sF ops L g x y=some (.pointer (some ⟨b,0,none⟩),.agg cs'.toArray)) (ht:(tK E.P t).map (·.2)=some n) (hC:C[i]? =some (b_ b tt cs))
 (hk:(Nat.beq cs'.length n&&cs'.all Value.oneCell'&&Nat.beq n cs.length)=true) (hC':C.set i (b_ b tt cs')=C') (k:RJ E ops Q rest D L C'):
 RJ E ops Q (⟨none,.store t x y,ty,ps,af,g⟩::rest) D L C:=by
 obtain ⟨AA,J,K⟩:=D7 h
 simp only [cR] at hk
 obtain ⟨⟨A,B⟩,F⟩:=hk
 have H:=Nat.eq_of_beq_eq_true A
 have G:=Nat.eq_of_beq_eq_true F
 exact jl i AA J K ht U H B hC (by rw [Nat.zero_add,G]; exact Nat.ble_self_eq_true _) (by rw [Nat.zero_add,G,List.take_zero,List.drop_length]; show []++cs'++[]=cs'; simp) hC' k
theorem UO {t n b tt:Nat} {x y:Operand} {v u:Value} {C':List av} (i:Nat) (h:sF ops L g x y=some (.pointer (some ⟨b,0,none⟩),v)) (ht:(tK E.P t).map (·.2)=some n) (hC:C[i]? =some (b_ b tt [u]))
 (hv:v.cells.toList=[v]) (hk:(Nat.beq n 1&&v.oneCell')=true) (hC':C.set i (b_ b tt [v])=C') (k:RJ E ops Q rest D L C'):
 RJ E ops Q (⟨none,.store t x y,ty,ps,af,g⟩::rest) D L C:=by
 obtain ⟨G,H,AA⟩:=D7 h
 rw [cR] at hk
 obtain ⟨A,B⟩:=hk
 have F:=Nat.eq_of_beq_eq_true A
 subst F
 exact jl i G H AA ht hv U (by simp [B]) hC U U hC' k
theorem fW {t n b tt:Nat} {x y:Operand} {cs cs':List Value} (h:sF ops L g x y=some (.pointer (some ⟨b,0,none⟩),.agg cs'.toArray)) (ht:(tK E.P t).map (·.2)=some n) (hk:(Nat.beq cs'.length n&&cs'.all Value.oneCell'&&Nat.beq n cs.length)=true) (k:RJ E ops Q rest D L (b_ b tt cs'::C)):RJ E ops Q (⟨none,.store t x y,ty,ps,af,g⟩::rest) D L (b_ b tt cs::C):=Ns 0 h ht rfl hk rfl k
theorem HW {t n b tt:Nat} {x y:Operand} {v u:Value} (h:sF ops L g x y=some (.pointer (some ⟨b,0,none⟩),v)) (ht:(tK E.P t).map (·.2)=some n) (hv:v.cells.toList=[v]) (hk:(Nat.beq n 1&&v.oneCell')=true) (k:RJ E ops Q rest D L (b_ b tt [v]::C)):RJ E ops Q (⟨none,.store t x y,ty,ps,af,g⟩::rest) D L (b_ b tt [u]::C):=UO 0 h ht rfl hv hk rfl k
theorem tF {t n b tt:Nat} {x y:Operand} {cs cs':List Value} {A0:av} (h:sF ops L g x y=some (.pointer (some ⟨b,0,none⟩),.agg cs'.toArray)) (ht:(tK E.P t).map (·.2)=some n) (hk:(Nat.beq cs'.length n&&cs'.all Value.oneCell'&&Nat.beq n cs.length)=true) (k:RJ E ops Q rest D L (A0::b_ b tt cs'::C)):RJ E ops Q (⟨none,.store t x y,ty,ps,af,g⟩::rest) D L (A0::b_ b tt cs::C):=Ns 1 h ht rfl hk rfl k
theorem Hr {t n b tt:Nat} {x y:Operand} {cs cs':List Value} {A0 A1:av} (h:sF ops L g x y=some (.pointer (some ⟨b,0,none⟩),.agg cs'.toArray)) (ht:(tK E.P t).map (·.2)=some n) (hk:(Nat.beq cs'.length n&&cs'.all Value.oneCell'&&Nat.beq n cs.length)=true) (k:RJ E ops Q rest D L (A0::A1::b_ b tt cs'::C)):RJ E ops Q (⟨none,.store t x y,ty,ps,af,g⟩::rest) D L (A0::A1::b_ b tt cs::C):=Ns 2 h ht rfl hk rfl k
theorem VA (cs':List Value) {t n b o tt:Nat} {x y:Operand} {v:Value} {cs:List Value} {A0 A1:av} (h:sF ops L g x y=some (.pointer (some ⟨b,o,none⟩),v)) (ht:(tK E.P t).map (·.2)=some n) (hk:(v.cells.toList.length==n&&v.cells.toList.all Value.oneCell'&&Nat.ble (o+n) cs.length)=true) (hcs:cs.take o++v.cells.toList++cs.drop (o+n)=cs') (k:RJ E ops Q rest D L (A0::A1::b_ b tt cs'::C)):RJ E ops Q (⟨none,.store t x y,ty,ps,af,g⟩::rest) D L (A0::A1::b_ b tt cs::C):=Q8 2 h ht rfl hk hcs rfl k
theorem Ty {t n b tt:Nat} {x y:Operand} {cs cs':List Value} {A0 A1 A2:av} (h:sF ops L g x y=some (.pointer (some ⟨b,0,none⟩),.agg cs'.toArray)) (ht:(tK E.P t).map (·.2)=some n) (hk:(Nat.beq cs'.length n&&cs'.all Value.oneCell'&&Nat.beq n cs.length)=true) (k:RJ E ops Q rest D L (A0::A1::A2::b_ b tt cs'::C)):RJ E ops Q (⟨none,.store t x y,ty,ps,af,g⟩::rest) D L (A0::A1::A2::b_ b tt cs::C):=Ns 3 h ht rfl hk rfl k
theorem TO {t n b tt:Nat} {x y:Operand} {v u:Value} {A0 A1 A2:av} (h:sF ops L g x y=some (.pointer (some ⟨b,0,none⟩),v)) (ht:(tK E.P t).map (·.2)=some n) (hv:v.cells.toList=[v]) (hk:(Nat.beq n 1&&v.oneCell')=true) (k:RJ E ops Q rest D L (A0::A1::A2::b_ b tt [v]::C)):RJ E ops Q (⟨none,.store t x y,ty,ps,af,g⟩::rest) D L (A0::A1::A2::b_ b tt [u]::C):=UO 3 h ht rfl hv hk rfl k
theorem Sm (cs':List Value) {t n b o tt:Nat} {x y:Operand} {v:Value} {cs:List Value} {A0 A1 A2:av} (h:sF ops L g x y=some (.pointer (some ⟨b,o,none⟩),v)) (ht:(tK E.P t).map (·.2)=some n) (hk:(v.cells.toList.length==n&&v.cells.toList.all Value.oneCell'&&Nat.ble (o+n) cs.length)=true) (hcs:cs.take o++v.cells.toList++cs.drop (o+n)=cs') (k:RJ E ops Q rest D L (A0::A1::A2::b_ b tt cs'::C)):RJ E ops Q (⟨none,.store t x y,ty,ps,af,g⟩::rest) D L (A0::A1::A2::b_ b tt cs::C):=Q8 3 h ht rfl hk hcs rfl k
theorem O5 {t n b tt:Nat} {x y:Operand} {cs cs':List Value} {A0 A1 A2 A3:av} (h:sF ops L g x y=some (.pointer (some ⟨b,0,none⟩),.agg cs'.toArray)) (ht:(tK E.P t).map (·.2)=some n) (hk:(Nat.beq cs'.length n&&cs'.all Value.oneCell'&&Nat.beq n cs.length)=true) (k:RJ E ops Q rest D L (A0::A1::A2::A3::b_ b tt cs'::C)):RJ E ops Q (⟨none,.store t x y,ty,ps,af,g⟩::rest) D L (A0::A1::A2::A3::b_ b tt cs::C):=Ns 4 h ht rfl hk rfl k
theorem Vh (cs':List Value) {t n b o tt:Nat} {x y:Operand} {v:Value} {cs:List Value} {A0 A1 A2 A3:av} (h:sF ops L g x y=some (.pointer (some ⟨b,o,none⟩),v)) (ht:(tK E.P t).map (·.2)=some n) (hk:(v.cells.toList.length==n&&v.cells.toList.all Value.oneCell'&&Nat.ble (o+n) cs.length)=true) (hcs:cs.take o++v.cells.toList++cs.drop (o+n)=cs') (k:RJ E ops Q rest D L (A0::A1::A2::A3::b_ b tt cs'::C)):RJ E ops Q (⟨none,.store t x y,ty,ps,af,g⟩::rest) D L (A0::A1::A2::A3::b_ b tt cs::C):=Q8 4 h ht rfl hk hcs rfl k
theorem H4 {t n b tt:Nat} {x y:Operand} {cs cs':List Value} {A0 A1 A2 A3 A4:av} (h:sF ops L g x y=some (.pointer (some ⟨b,0,none⟩),.agg cs'.toArray)) (ht:(tK E.P t).map (·.2)=some n) (hk:(Nat.beq cs'.length n&&cs'.all Value.oneCell'&&Nat.beq n cs.length)=true) (k:RJ E ops Q rest D L (A0::A1::A2::A3::A4::b_ b tt cs'::C)):RJ E ops Q (⟨none,.store t x y,ty,ps,af,g⟩::rest) D L (A0::A1::A2::A3::A4::b_ b tt cs::C):=Ns 5 h ht rfl hk rfl k
theorem OU {t n b tt:Nat} {x y:Operand} {cs cs':List Value} {A0 A1 A2 A3 A4 A5:av} (h:sF ops L g x y=some (.pointer (some ⟨b,0,none⟩),.agg cs'.toArray)) (ht:(tK E.P t).map (·.2)=some n) (hk:(Nat.beq cs'.length n&&cs'.all Value.oneCell'&&Nat.beq n cs.length)=true) (k:RJ E ops Q rest D L (A0::A1::A2::A3::A4::A5::b_ b tt cs'::C)):RJ E ops Q (⟨none,.store t x y,ty,ps,af,g⟩::rest) D L (A0::A1::A2::A3::A4::A5::b_ b tt cs::C):=Ns 6 h ht rfl hk rfl k
theorem VD {t n b tt:Nat} {x y:Operand} {v u:Value} {A0 A1 A2 A3 A4 A5:av} (h:sF ops L g x y=some (.pointer (some ⟨b,0,none⟩),v)) (ht:(tK E.P t).map (·.2)=some n) (hv:v.cells.toList=[v]) (hk:(Nat.beq n 1&&v.oneCell')=true) (k:RJ E ops Q rest D L (A0::A1::A2::A3::A4::A5::b_ b tt [v]::C)):RJ E ops Q (⟨none,.store t x y,ty,ps,af,g⟩::rest) D L (A0::A1::A2::A3::A4::A5::b_ b tt [u]::C):=UO 6 h ht rfl hv hk rfl k
theorem TQ (cs':List Value) {t n b o tt:Nat} {x y:Operand} {v:Value} {cs:List Value} {A0 A1 A2 A3 A4 A5:av} (h:sF ops L g x y=some (.pointer (some ⟨b,o,none⟩),v)) (ht:(tK E.P t).map (·.2)=some n) (hk:(v.cells.toList.length==n&&v.cells.toList.all Value.oneCell'&&Nat.ble (o+n) cs.length)=true) (hcs:cs.take o++v.cells.toList++cs.drop (o+n)=cs') (k:RJ E ops Q rest D L (A0::A1::A2::A3::A4::A5::b_ b tt cs'::C)):RJ E ops Q (⟨none,.store t x y,ty,ps,af,g⟩::rest) D L (A0::A1::A2::A3::A4::A5::b_ b tt cs::C):=Q8 6 h ht rfl hk hcs rfl k
theorem VC {t n b tt:Nat} {x y:Operand} {cs cs':List Value} {A0 A1 A2 A3 A4 A5 A6 A7:av} (h:sF ops L g x y=some (.pointer (some ⟨b,0,none⟩),.agg cs'.toArray)) (ht:(tK E.P t).map (·.2)=some n) (hk:(Nat.beq cs'.length n&&cs'.all Value.oneCell'&&Nat.beq n cs.length)=true) (k:RJ E ops Q rest D L (A0::A1::A2::A3::A4::A5::A6::A7::b_ b tt cs'::C)):RJ E ops Q (⟨none,.store t x y,ty,ps,af,g⟩::rest) D L (A0::A1::A2::A3::A4::A5::A6::A7::b_ b tt cs::C):=Ns 8 h ht rfl hk rfl k
theorem U_ (cs':List Value) {t n b o tt:Nat} {x y:Operand} {v:Value} {cs:List Value} {A0 A1 A2 A3 A4 A5 A6 A7 A8 A9:av} (h:sF ops L g x y=some (.pointer (some ⟨b,o,none⟩),v)) (ht:(tK E.P t).map (·.2)=some n) (hk:(v.cells.toList.length==n&&v.cells.toList.all Value.oneCell'&&Nat.ble (o+n) cs.length)=true) (hcs:cs.take o++v.cells.toList++cs.drop (o+n)=cs') (k:RJ E ops Q rest D L (A0::A1::A2::A3::A4::A5::A6::A7::A8::A9::b_ b tt cs'::C)):RJ E ops Q (⟨none,.store t x y,ty,ps,af,g⟩::rest) D L (A0::A1::A2::A3::A4::A5::A6::A7::A8::A9::b_ b tt cs::C):=Q8 10 h ht rfl hk hcs rfl k
theorem T_ {t n b tt:Nat} {x y:Operand} {cs cs':List Value} {A0 A1 A2 A3 A4 A5 A6 A7 A8 A9 A10:av} (h:sF ops L g x y=some (.pointer (some ⟨b,0,none⟩),.agg cs'.toArray)) (ht:(tK E.P t).map (·.2)=some n) (hk:(Nat.beq cs'.length n&&cs'.all Value.oneCell'&&Nat.beq n cs.length)=true) (k:RJ E ops Q rest D L (A0::A1::A2::A3::A4::A5::A6::A7::A8::A9::A10::b_ b tt cs'::C)):RJ E ops Q (⟨none,.store t x y,ty,ps,af,g⟩::rest) D L (A0::A1::A2::A3::A4::A5::A6::A7::A8::A9::A10::b_ b tt cs::C):=Ns 11 h ht rfl hk rfl k
end
section
variable {E:fh} {y:Code} {Q:c_} {D:List Deferred} {L:List (Nat×Value)} {C:List av}
theorem WS {id:Nat} {ops:Array Oper} (h: ∀ K:Act→World→Prop,(∀ D L C,WJ E y Q D L C→KJ E K D L C)→RJ E ops (Exit.then K Q) ops.toList D L C):WJ E (.seq (.region id ops false) y) Q D L C:=ak fun K hK=>an (h K hK)
theorem RK {ops:Array Oper} {K:Act→World→Prop} {Q':c_} (hK: ∀ D L C,WJ E y Q D L C→KJ E K D L C) (k:WJ E y Q D L C):RJ E ops (Exit.then K Q') [] D L C:=aF (aT (hK _ _ _ k))
theorem KK {K:Act→World→Prop} {Q':c_} (hK: ∀ D L C,WJ E y Q D L C→KJ E K D L C) (k:WJ E y Q D L C):KJ E (Exit.then K Q' .normal) D L C:=aT (hK _ _ _ k)
theorem WK {K:Act→World→Prop} {Q':c_} (hK: ∀ D L C,WJ E y Q D L C→KJ E K D L C) (k:WJ E y Q D L C):WJ E .skip (Exit.then K Q') D L C:=cj (aT (hK _ _ _ k))
end
theorem DT {p:Prop} [Decidable p] (h:decide p=true):p:=of_decide_eq_true h
theorem DF {p:Prop} [Decidable p] (h:decide p=false): ¬ p:=of_decide_eq_false h
theorem XT {p:Prop} [Decidable p] (h:(!decide p)=true): ¬ p:=by simpa using h
theorem XF {p:Prop} [Decidable p] (h:(!decide p)=false):p:=by simpa using h
/-- what a function hands back: one result, two, three, that lie in slots -/
theorem Q1 {E:fh} {fn:Func} {K:Act→World→Prop} {L:List (Nat×Value)} {C:List av} {t:Nat} {u v:Value} (hQ: ∀ D L C,LJ E fn (BJ E.w0 v) D L C→KJ E K D L C) (hS:E.S=su) (hr:fn.results.toList=[.tmp t]) (hl:L.lookup t=some u) (e:u=v):KJ E K [] L C:=
 hQ _ _ _ (gU (vs:=[u]) (by rw [hr]; exact ⟨hl,trivial⟩) fun w hs=>EA e (by rw [hS] at hs; exact hs))
theorem Q2 {E:fh} {fn:Func} {K:Act→World→Prop} {L:List (Nat×Value)} {C:List av} {t s:Nat} {u x v:Value} (hQ: ∀ D L C,LJ E fn (BJ E.w0 v) D L C→KJ E K D L C) (hS:E.S=su) (hr:fn.results.toList=[.tmp t,.tmp s]) (hl:L.lookup t=some u) (hm:L.lookup s=some x) (e:vT [u,x]=v):KJ E K [] L C:=
 hQ _ _ _ (gU (vs:=[u,x]) (by rw [hr]; exact ⟨hl,hm,trivial⟩) fun w hs=>EA e (by rw [hS] at hs; exact hs))
theorem N1 {E:fh} {ops:Array Oper} {D:List Deferred} {C' C1:List av} {F:List (Nat×Value)→List av→Prop} {tb rem:List Nat} {n:Nat} {L:List (Nat×Value)} {C:List av} (i:Nat)
 (h:Bu E ops D C' C1 F tb n (rem.filter (· != i)) i L C) (hm:rem.filter (fun i=>rem.all fun j=> !ir (pS ops) j i)=[i]:=by kernel_rfl):TN E ops D C' C1 F tb (n+1) rem L C:=i_ [i] hm (eN h kM)
theorem NO {E:fh} {ops:Array Oper} {D:List Deferred} {C' C1:List av} {F:List (Nat×Value)→List av→Prop} {tb rem:List Nat} {n i:Nat} {L:List (Nat×Value)} {C:List av} {o:Oper} (ho:ops[i]? =some o) (ht:tb.contains i=false) (rem':List Nat)
 (h: ∀ K:Act→World→Prop,(∀ L' C'',(∀ w,St E.S E.w0 C'' w→St E.S E.w0 C' w)→TN E ops D C' C1 F tb n rem' L' C''→KJ E K D L' C'')→RJ E ops (NQ K) [o] D L C) (hr:rem=rem':=by kernel_rfl):Bu E ops D C' C1 F tb n rem i L C:=Vb ho hr ht h
theorem RD {E:fh} {ops:Array Oper} {K:Act→World→Prop} {D:List Deferred} {L:List (Nat×Value)} {C C':List av} {X:List (Nat×Value)→List av→Prop} (hT: ∀ L' C'',(∀ w,St E.S E.w0 C'' w→St E.S E.w0 C' w)→X L' C''→KJ E K D L' C'')
 (k:Nat) (h2:C.drop k=C') (h:X L C):RJ E ops (NQ K) [] D L C:=aF (hT _ _ (fun w hs=>h2▸hs.take (List.drop_sublist k C)) h)
theorem aU {L L':List (Nat×Value)} (h:L'.map (fun p=>L.lookup p.1)=L'.map (fun p=>some p.2)):dy L L':=by
 induction L' with
 |nil=>exact dy.nil _
 |cons p t ih=>
  simp only [List.map_cons,List.cons.injEq] at h
  exact dy.cons h.1 (ih h.2)
theorem MD {C:List av} {A A' B B' D D':av} (i j k:Nat) (h1:C[i]? =some A') (e1:A'.holds=A.holds) (h2:C[j]? =some B') (e2:B'.holds=B.holds) (h3:C[k]? =some D') (e3:D'.holds=D.holds):j3 C [A,B,D]:=fK i h1 e1 (fK j h2 e2 (fK k h3 e3 aK))
theorem bS {E:fh} {c:Operand} {x y:Code} {b:Bool} {Q:c_} {D:List Deferred} {L:List (Nat×Value)} {C:List av} (hc:ev L c=some (.bool b)) (h2:b=false→WJ E y Q D L C) (h1:b=true→WJ E x Q D L C):WJ E (.cond c x y) Q D L C:=cE hc h1 h2
theorem cf {E:fh} {ops:Array Oper} {Q:c_} {rest:List Oper} {D:List Deferred} {L:List (Nat×Value)} {C:List av} {t:Nat} {b:Bool} (h:L.lookup t=some (.bool b)) (h2:b=false→RJ E ops Q rest D ((t,.bool false)::L) C) (h1:b=true→RJ E ops Q rest D ((t,.bool true)::L) C):RJ E ops Q rest D L C:=cw h h1 h2
theorem jg {E:fh} {ops:Array Oper} {Q:c_} {rest:List Oper} {D:List Deferred} {L:List (Nat×Value)} {C:List av} {t:Nat} {b:Bool} {os:List Oper} (h:L.lookup t=some (.bool b)) (h2:b=false→DJ E ops D C (fun L2=>RJ E ops Q rest D L2 C) os ((t,.bool false)::L)) (h1:b=true→DJ E ops D C (fun L2=>RJ E ops Q rest D L2 C) os ((t,.bool true)::L)):DJ E ops D C (fun L2=>RJ E ops Q rest D L2 C) os L:=ja h h1 h2
theorem cP {L:List (Nat×Value)}: ∀ (k:Nat) {L2:List (Nat×Value)} (q:dy L (L2.drop k)) (h:(L2.take k).map (fun p=>L.lookup p.1)=(L2.take k).map (fun p=>some p.2):=by rfl),dy L L2
 |0,_,q,_=>q
 |_+1,[],_,_=>dy.nil _
 |k+1,p::L2,q,h=>by
  obtain ⟨A,B⟩:=List.cons.inj (show L.lookup p.1::(L2.take k).map (fun p=>L.lookup p.1)=some p.2::(L2.take k).map (fun p=>some p.2) from h)
  exact dy.cons (t:=p.1) (v:=p.2) A (cP k q B)
theorem oX {E:fh} {ops:Array Oper} {Q:c_} {rest:List Oper} {D:List Deferred} {L:List (Nat×Value)} {C:List av} {d:Nat} {ty:TypeId} {ps:String} {af:Array Edge} {g:Option (Nat×Bool)} {op:Op} (k:RJ E ops Q rest D ((d,undef)::L) C) (h:(C5 ops L g&&Nat.blt d E.n)=true:=by rfl):RJ E ops Q (⟨some d,op,ty,ps,af,g⟩::rest) D L C:=rS (OX h) k
theorem dX {E:fh} {ops:Array Oper} {F:List (Nat×Value)→Prop} {rest:List Oper} {D:List Deferred} {L:List (Nat×Value)} {C:List av} {d:Nat} {ty:TypeId} {ps:String} {af:Array Edge} {g:Option (Nat×Bool)} {op:Op} (k:DJ E ops D C F rest ((d,undef)::L)) (h:(C5 ops L g&&Nat.blt d E.n)=true:=by rfl):DJ E ops D C F (⟨some d,op,ty,ps,af,g⟩::rest) L:=dS (OX h) k
end
section
open Go.RowKit
/-- what of a slice is left from k on -/
def zM (A:OA) (c k sz:Nat):OA:=if c=k then A else A.map (·.add (k*sz))
section
variable {E:fh} {ops:Array Oper} {Q:c_} {rest:List Oper} {D:List Deferred} {L:List (Nat×Value)} {C:List av}
variable {d:Nat} {ty:TypeId} {ps:String} {af:Array Edge} {g:Option (Nat×Bool)}
theorem Fm {P:Program} {t e sz:Nat} (h:tE P t=some (e,sz)) (w:World):P.underlying t=some (.slice e)∧(sizeOf e).run P w= .ok sz w:=by
 unfold tE at h
 split at h
 ·rename_i e' hu
  split at h
  ·rename_i i hi
   cases h
   exact ⟨hu,by simp [sizeOf,typeInfo,hi]⟩
  ·cases h
 ·cases h
theorem vD {P:Program} {t e:Nat} (h:P.underlying t=some (.slice e)):P.underlying t=some (.slice (P.elem t)):=by
 rw [h]; simp [Program.elem,h]
theorem FW {P:Program} {t e:Nat} (h:P.underlying t=some (.slice e)):P.elem t=e:=by simp [Program.elem,h]
/-- s[k:] -/
theorem Vp (k:Nat) {x lo:Operand} {t e sz n c:Nat} {A:OA} {j:Int} (h:bF E.n ops L d g x lo=some (.slice A n c,.int .i64 j)) (ht:tE E.P t=some (e,sz)) (hj:j=(k:Int)) (hk:k≤n):
 SE E ops ⟨some d,.slice t x (some lo) none none,ty,ps,af,g⟩ D L C (.slice (zM A c k sz) (n-k) (c-k)) d:=by
 obtain ⟨G,H,AA,J⟩:=qe h
 subst hj
 refine ⟨dE G sm fun a w B hs=>?_,U,H⟩
 obtain ⟨hu,hz⟩:=Fm ht w
 have hr:=run_slice_l (P:=E.P) w t A n c (vD hu) .i64 (k:Int) om om
 rw [FW hu,hz] at hr
 simp only [Result.andThen,Int.toNat_natCast,sliced] at hr
 have F:=run_sliceAt_slice (P:=E.P) w t (.slice A n c) (some (.int .i64 (k:Int))) none none (vD hu)
 simp [execOp,B.ev AA,B.ev J,F,hr,zM]
/-- s[:k] -/
theorem TH (k:Nat) {x hi:Operand} {t e sz n c:Nat} {A:OA} {j:Int} (h:bF E.n ops L d g x hi=some (.slice A n c,.int .i64 j)) (ht:tE E.P t=some (e,sz)) (hj:j=(k:Int)) (hk:k≤c):
 SE E ops ⟨some d,.slice t x none (some hi) none,ty,ps,af,g⟩ D L C (.slice A k c) d:=by
 obtain ⟨H,AA,J,K⟩:=qe h
 subst hj
 refine ⟨dE H sm fun a w B hs=>?_,U,AA⟩
 obtain ⟨hu,hz⟩:=Fm ht w
 have hr:=run_slice_h (P:=E.P) w t A n c (vD hu) .i64 (k:Int) om om
 rw [FW hu,hz] at hr
 have G:(if c=0 then A else A.map (·.add (0*sz)))=A:=by
  split
  ·rfl
  ·cases A with
   |none=>rfl
   |some ad=>simp [Addr.add]
 simp only [Result.andThen,Int.toNat_natCast,sliced,G,Nat.sub_zero] at hr
 have F:=run_sliceAt_slice (P:=E.P) w t (.slice A n c) none (some (.int .i64 (k:Int))) none (vD hu)
 simp [execOp,B.ev J,B.ev K,F,hr]
/-- an element of a row whose place is known -/
theorem Vz (k:Nat) {x ix:Operand} {A:OA} {ad:Addr} {n c sz e t:Nat} {j:Int} (h:bF E.n ops L d g x ix=some (.slice A n c,.int .i64 j)) (hA:A=some ad) (ht:tE E.P t=some (e,sz)) (hj:j=(k:Int)) (hk:k<n):
 SE E ops ⟨some d,.indexAddr t x ix,ty,ps,af,g⟩ D L C (.pointer (lI A (k*sz))) d:=by
 obtain ⟨F,G,H,AA⟩:=qe h
 refine ⟨dE F sm fun a w B hs=>?_,U,G⟩
 subst hA hj
 simp [execOp,B.ev H,B.ev AA,lI,qq ht hk]
end
theorem FY {w:World} {a:OA} {c e sz:Nat} {es:List (List Value)} (h:(own a c e sz es).holds w):es.length≤c:=by
 rcases h.2.2 with ⟨A,B⟩|⟨g,cap,cur,hv,_,_,C,_⟩
 ·omega
 ·injection hv with _ _ hc; omega
end
section
open Go.RowKit
/-- an array's length, its elements' type and their size -/
def aE (P:Program) (t:TypeId):Option (Nat×TypeId×Nat):=
 match P.underlying t with
 |some (.array n e)=>match P.info? e with
  |some i=>some (n,e,i.size)
  |none=>none
 |_=>none
theorem E0 {P:Program} {t n e sz:Nat} (h:aE P t=some (n,e,sz)) (w:World):P.underlying t=some (.array n e)∧(sizeOf e).run P w= .ok sz w:=by
 unfold aE at h
 split at h
 ·rename_i n' e' hu
  split at h
  ·rename_i i hi
   cases h
   exact ⟨hu,by simp [sizeOf,typeInfo,hi]⟩
  ·cases h
 ·cases h
theorem vm {P:Program} {t n e sz:Nat} (h:aE P t=some (n,e,sz)) (a:Addr) (w:World):
 (Instr.sliceAt t (.pointer (some a)) none none none).run P w= .ok (.slice (some a) n n) w:=by
 obtain ⟨hu,hz⟩:=E0 h w
 have A:a.add 0=a:=by simp [Addr.add]
 simp [Instr.sliceAt,underlying,hu,Instr.sureAddr,Instr.sliceBounds,hz,A]
theorem vv {P:Program} {t n e sz:Nat} (h:aE P t=some (n,e,sz)) (a:Addr) {k:Nat} (hk:k<n) (w:World):
 (Instr.indexAt t (.pointer (some a)) (.int .i64 (k:Int))).run P w= .ok (.pointer (some (a.add (k*sz)))) w:=by
 obtain ⟨hu,hz⟩:=E0 h w
 have A: ¬ n≤k:=by omega
 simp [Instr.indexAt,underlying,hu,Instr.sureAddr,asIntOf,hz,A]
 try exact fun h=>absurd h A
 try omega
section
variable {E:fh} {ops:Array Oper} {Q:c_} {rest:List Oper} {D:List Deferred} {L:List (Nat×Value)} {C:List av}
variable {dst:Option Nat} {ty:TypeId} {ps:String} {af:Array Edge} {g:Option (Nat×Bool)}
theorem EL {x:Operand} {a:Addr} {t n e sz:Nat} (hg:jr ops L g=true) (hx:ev L x=some (.pointer (some a))) (ht:aE E.P t=some (n,e,sz)):
 SD E ops ⟨dst,.slice t x none none none,ty,ps,af,g⟩ D L C (.slice (some a) n n):=
 dE hg sm fun b w A hs=>by
  simp [execOp,A.ev hx,vm ht]
theorem Eh {x ix:Operand} {a:Addr} {t n e sz k:Nat} {j:Int} (hg:jr ops L g=true) (hx:ev L x=some (.pointer (some a))) (hi:ev L ix=some (.int .i64 j)) (ht:aE E.P t=some (n,e,sz)) (hj:j=(k:Int)) (hk:k<n):
 SD E ops ⟨dst,.indexAddr t x ix,ty,ps,af,g⟩ D L C (.pointer (lI (some a) (k*sz))):=
 dE hg sm fun b w A hs=>by
  subst hj
  simp [execOp,A.ev hx,A.ev hi,lI,vv ht a hk]
end
end
section
open Go.RowKit
/-- a table of facts on the program's types -/
structure Db where
 tk:List (Nat×Bool×Nat)
 fo:List (Nat×List (Option Nat))
 sl:List Nat
def QU {α:Type}:List (Nat×α)→Nat→Option α
 |[],_=>none
 |(k,v)::l,t=>match Nat.beq k t with
  |true=>some v
  |false=>QU l t
theorem Aa {α:Type}: ∀ {l:List (Nat×α)} {t:Nat} {v:α},QU l t=some v→(t,v)∈l
 |[],t,v,h=>by simp [QU] at h
 |(k,u)::l,t,v,h=>by
  unfold QU at h
  split at h
  ·rename_i hb
   cases h
   rw [Nat.eq_of_beq_eq_true hb]; exact bZ
  ·exact cW _ (Aa h)
def Mb:List Nat→Nat→Bool
 |[],_=>false
 |k::l,t=>match Nat.beq k t with
  |true=>true
  |false=>Mb l t
theorem CP: ∀ {l:List Nat} {t:Nat},Mb l t=true→t∈l
 |[],t,h=>by simp [Mb] at h
 |k::l,t,h=>by
  unfold Mb at h
  split at h
  ·rename_i hb
   rw [Nat.eq_of_beq_eq_true hb]; exact bZ
  ·exact cW _ (CP h)
def Db.Js (T:Db) (t:Nat):Option (Bool×Nat):=QU T.tk t
def Db.foF (T:Db) (s f:Nat):Option Nat:=match QU T.fo s with
 |some l=>match l[f]? with
  |some (some k)=>some k
  |_=>none
 |none=>none
structure kP (P:Program) (T:Db):Prop where
 tk: ∀ p∈T.tk,tK P p.1=some p.2
 fo: ∀ p∈T.fo,∀ f k,p.2[f]? =some (some k)→se P p.1 f=some k
 sl: ∀ t∈T.sl,∃ e,P.underlying t=some (.slice e)
theorem kP.Js {P:Program} {T:Db} (h:kP P T) {t:Nat} {r:Bool×Nat} (e:T.Js t=some r):tK P t=some r:=h.tk _ (Aa e)
theorem kP.foF {P:Program} {T:Db} (h:kP P T) {s f k:Nat} (e:T.foF s f=some k):se P s f=some k:=by
 unfold Db.foF at e
 split at e
 ·rename_i l hl
  split at e
  ·rename_i k' hk
   cases e
   exact h.fo _ (Aa hl) f k hk
  ·cases e
 ·cases e
def Tw (P:Program) (T:Db):Bool:=(T.tk.all fun p=>decide (tK P p.1=some p.2))&&(T.fo.all fun p=>(List.range p.2.length).all fun f=>match p.2[f]? with
 |some (some k)=>decide (se P p.1 f=some k)
 |_=>true)&&T.sl.all fun t=>match P.underlying t with
 |some (.slice _)=>true
 |_=>false
theorem P6 {P:Program} {T:Db} (h:Tw P T=true):kP P T:=by
 unfold Tw at h
 rw [cR,cR] at h
 obtain ⟨⟨B,C⟩,D⟩:=h
 refine ⟨fun p hp=>by simpa using List.all_eq_true.1 B p hp,fun p hp f k hk=>?_,fun t ht=>?_⟩
 ·have A:=List.all_eq_true.1 (List.all_eq_true.1 C p hp) f (List.mem_range.2 (List.getElem?_eq_some_iff.1 hk).1)
  rw [hk] at A
  simpa using A
 ·have A:=List.all_eq_true.1 D t ht
  split at A
  ·rename_i e he; exact ⟨e,he⟩
  ·cases A
end
section
theorem MR:tK Tryz.prog 3=some (false,1):=by kernel_rfl
theorem Vx:tK Tryz.prog 4=some (false,1):=by kernel_rfl
theorem Un:tK Tryz.prog 22=some (false,1):=by kernel_rfl
theorem Vf:tK Tryz.prog 25=some (false,1):=by kernel_rfl
theorem UB:tK Tryz.prog 26=some (false,1):=by kernel_rfl
theorem Uf:tK Tryz.prog 28=some (true,7):=by kernel_rfl
theorem Ue:tK Tryz.prog 29=some (false,1):=by kernel_rfl
theorem UK:tK Tryz.prog 30=some (false,1):=by kernel_rfl
theorem RI:tK Tryz.prog 32=some (true,11):=by kernel_rfl
theorem Uu:tK Tryz.prog 38=some (true,2):=by kernel_rfl
theorem TG:tK Tryz.prog 42=some (false,1):=by kernel_rfl
theorem Ut:tK Tryz.prog 44=some (true,3):=by kernel_rfl
theorem U4:tK Tryz.prog 46=some (true,7):=by kernel_rfl
theorem Ps:tK Tryz.prog 47=some (false,1):=by kernel_rfl
theorem TU:tK Tryz.prog 58=some (false,1):=by kernel_rfl
theorem Ux:tK Tryz.prog 62=some (false,1):=by kernel_rfl
theorem TR:tK Tryz.prog 80=some (false,1):=by kernel_rfl
theorem UD:tK Tryz.prog 85=some (false,1):=by kernel_rfl
theorem U9:tK Tryz.prog 86=some (false,1):=by kernel_rfl
theorem RT:tK Tryz.prog 119=some (true,3):=by kernel_rfl
theorem Ti:tK Tryz.prog 122=some (true,9):=by kernel_rfl
theorem SA:tK Tryz.prog 124=some (true,3):=by kernel_rfl
theorem S0:tK Tryz.prog 125=some (false,1):=by kernel_rfl
theorem Sa:tK Tryz.prog 127=some (true,2):=by kernel_rfl
theorem Rs:tK Tryz.prog 131=some (true,2):=by kernel_rfl
theorem Rx:tK Tryz.prog 143=some (true,1):=by kernel_rfl
theorem SM:tK Tryz.prog 144=some (true,4):=by kernel_rfl
theorem Tn:tK Tryz.prog 203=some (true,1):=by kernel_rfl
theorem S_:tK Tryz.prog 231=some (false,1):=by kernel_rfl
theorem RC:tK Tryz.prog 233=some (true,3):=by kernel_rfl
theorem Se:tK Tryz.prog 268=some (false,1):=by kernel_rfl
theorem SP:tK Tryz.prog 274=some (false,1):=by kernel_rfl
theorem SQ:tK Tryz.prog 276=some (true,2):=by kernel_rfl
theorem AU:(tK Tryz.prog 3).map (·.2)=some 1:=by rw [MR]; rfl
theorem UW:(tK Tryz.prog 22).map (·.2)=some 1:=by rw [Un]; rfl
theorem Ur:(tK Tryz.prog 25).map (·.2)=some 1:=by rw [Vf]; rfl
theorem UX:(tK Tryz.prog 26).map (·.2)=some 1:=by rw [UB]; rfl
theorem T3:(tK Tryz.prog 28).map (·.2)=some 7:=by rw [Uf]; rfl
theorem AJ:(tK Tryz.prog 29).map (·.2)=some 1:=by rw [Ue]; rfl
theorem Uk:(tK Tryz.prog 30).map (·.2)=some 1:=by rw [UK]; rfl
theorem sR:(tK Tryz.prog 32).map (·.2)=some 11:=by rw [RI]; rfl
theorem cv:(tK Tryz.prog 38).map (·.2)=some 2:=by rw [Uu]; rfl
theorem Vi:(tK Tryz.prog 42).map (·.2)=some 1:=by rw [TG]; rfl
theorem Ua:(tK Tryz.prog 44).map (·.2)=some 3:=by rw [Ut]; rfl
theorem Pp:(tK Tryz.prog 46).map (·.2)=some 7:=by rw [U4]; rfl
theorem UT:(tK Tryz.prog 47).map (·.2)=some 1:=by rw [Ps]; rfl
theorem Ms:(tK Tryz.prog 58).map (·.2)=some 1:=by rw [TU]; rfl
theorem U0:(tK Tryz.prog 62).map (·.2)=some 1:=by rw [Ux]; rfl
theorem QV:(tK Tryz.prog 80).map (·.2)=some 1:=by rw [TR]; rfl
theorem U1:(tK Tryz.prog 85).map (·.2)=some 1:=by rw [UD]; rfl
theorem UE:(tK Tryz.prog 86).map (·.2)=some 1:=by rw [U9]; rfl
theorem Kw:(tK Tryz.prog 119).map (·.2)=some 3:=by rw [RT]; rfl
theorem Ku:(tK Tryz.prog 122).map (·.2)=some 9:=by rw [Ti]; rfl
theorem td:(tK Tryz.prog 124).map (·.2)=some 3:=by rw [SA]; rfl
theorem SG:(tK Tryz.prog 125).map (·.2)=some 1:=by rw [S0]; rfl
theorem O2:(tK Tryz.prog 127).map (·.2)=some 2:=by rw [Sa]; rfl
theorem xU:(tK Tryz.prog 131).map (·.2)=some 2:=by rw [Rs]; rfl
theorem FJ:(tK Tryz.prog 143).map (·.2)=some 1:=by rw [Rx]; rfl
theorem Sv:(tK Tryz.prog 144).map (·.2)=some 4:=by rw [SM]; rfl
theorem JH:(tK Tryz.prog 203).map (·.2)=some 1:=by rw [Tn]; rfl
theorem Td:(tK Tryz.prog 231).map (·.2)=some 1:=by rw [S_]; rfl
theorem RO:(tK Tryz.prog 233).map (·.2)=some 3:=by rw [RC]; rfl
theorem yF:(tK Tryz.prog 268).map (·.2)=some 1:=by rw [Se]; rfl
theorem Io:(tK Tryz.prog 274).map (·.2)=some 1:=by rw [SP]; rfl
theorem rv:(tK Tryz.prog 276).map (·.2)=some 2:=by rw [SQ]; rfl
theorem yV:aE Tryz.prog 151=some (3,150,2):=by kernel_rfl
theorem P0:se Tryz.prog 46 0=some 0:=by kernel_rfl
theorem Uq:rJ Tryz.prog 45=true:=by kernel_rfl
theorem Va:rJ Tryz.prog 57=true:=by kernel_rfl
theorem gS (l:List aa): ∀ v∈(l.map aa.cells).flatten,v.oneCell'=true:=l7 (fun _=>rfl) l
theorem rN (l:List ao): ∀ v∈(l.map ao.cells).flatten,v.oneCell'=true:=l7 (fun _=>rfl) l
theorem vp (l:List cH): ∀ v∈(l.map cH.cells).flatten,v.oneCell'=true:=l7 (fun _=>rfl) l
theorem vt (l:List bG): ∀ v∈(l.map bG.cells).flatten,v.oneCell'=true:=l7 (fun _=>rfl) l
theorem sM (l:List aO): ∀ v∈(l.map aO.cells).flatten,v.oneCell'=true:=l7 (fun _=>rfl) l
theorem U3:tA Tryz.prog 22=some (122,9,72,(Value.agg [(vI 0),(vI 0),(vI 0),(vI 0),(vI 0),(vI 0),(vI 0),(Value.int .u8 0),(vI 0)].toArray)):=by kernel_rfl
theorem Vk:tA Tryz.prog 25=some (127,2,32,(Value.agg [(vI 0),(vS none 0 0)].toArray)):=by kernel_rfl
theorem UG:tA Tryz.prog 26=some (129,4,32,(Value.agg [(vI 0),(vI 0),(vI 0),(vI 0)].toArray)):=by kernel_rfl
theorem pT:tA Tryz.prog 29=some (3,1,8,(vI 0)):=by kernel_rfl
theorem UN:tA Tryz.prog 30=some (47,1,24,(vS none 0 0)):=by kernel_rfl
theorem UC:tA Tryz.prog 42=some (131,2,16,(Value.agg [(vI 0),(vI 0)].toArray)):=by kernel_rfl
theorem TS:tA Tryz.prog 47=some (46,7,64,(Value.agg [(vB false),(vB false),(vI 0),(vI 0),(vI 0),(vI 0),(vS none 0 0)].toArray)):=by kernel_rfl
theorem Uo:tA Tryz.prog 67=some (29,1,24,(vS none 0 0)):=by kernel_rfl
theorem D9:tA Tryz.prog 85=some (38,2,16,(Value.agg [(vI 0),(vI 0)].toArray)):=by kernel_rfl
theorem SZ:tA Tryz.prog 86=some (85,1,24,(vS none 0 0)):=by kernel_rfl
theorem SN:tA Tryz.prog 125=some (124,3,24,(Value.agg [(vI 0),(vI 0),(vI 0)].toArray)):=by kernel_rfl
theorem OQ:tA Tryz.prog 216=some (236,3,72,(Value.agg [(vS none 0 0),(vS none 0 0),(vS none 0 0)].toArray)):=by kernel_rfl
theorem Sp:tA Tryz.prog 231=some (4,1,1,(vB false)):=by kernel_rfl
theorem Ry:tA Tryz.prog 267=some (58,1,8,(Value.map none)):=by kernel_rfl
theorem Cb:tA Tryz.prog 268=some (274,1,8,(Value.map none)):=by kernel_rfl
theorem US:tB Tryz.prog 24=some ([(vS none 0 0)],[(0,1)]):=by kernel_rfl
theorem UR:tB Tryz.prog 28=some ([(vS none 0 0),(vI 0),(vS none 0 0),(vS none 0 0),(vI 0),(vI 0),(vI 0)],[(0,1),(1,1),(2,1),(3,1),(4,1),(5,1),(6,1)]):=by kernel_rfl
theorem HH:tB Tryz.prog 32=some ([(vS none 0 0),(vI 0),(vS none 0 0),(vS none 0 0),(vI 0),(vI 0),(vI 0),(vS none 0 0),(vS none 0 0),(vI 0),(vS none 0 0)],[(0,7),(7,1),(8,1),(9,1),(10,1)]):=by kernel_rfl
theorem gv:tB Tryz.prog 38=some ([(vI 0),(vI 0)],[(0,1),(1,1)]):=by kernel_rfl
theorem Vg:tB Tryz.prog 44=some ([(vI 0),(vI 0),(vS none 0 0)],[(0,1),(1,1),(2,1)]):=by kernel_rfl
theorem Qf:tB Tryz.prog 46=some ([(vB false),(vB false),(vI 0),(vI 0),(vI 0),(vI 0),(vS none 0 0)],[(0,1),(1,1),(2,2),(4,3)]):=by kernel_rfl
theorem Ui:tB Tryz.prog 88=some ([(vS none 0 0),(vI 0),(vS none 0 0),(vS none 0 0),(vI 0),(vI 0),(vI 0),(vS none 0 0),(vS none 0 0),(vI 0),(vS none 0 0),(vS none 0 0),(Value.map none)],[(0,11),(11,1),(12,1)]):=by kernel_rfl
theorem Rp:tB Tryz.prog 119=some ([(vI 0),(vI 0),(vI 0)],[(0,1),(1,2)]):=by kernel_rfl
theorem RW:tB Tryz.prog 122=some ([(vI 0),(vI 0),(vI 0),(vI 0),(vI 0),(vI 0),(vI 0),(Value.int .u8 0),(vI 0)],[(0,1),(1,2),(3,2),(5,2),(7,1),(8,1)]):=by kernel_rfl
theorem OD:tB Tryz.prog 124=some ([(vI 0),(vI 0),(vI 0)],[(0,1),(1,2)]):=by kernel_rfl
theorem RX:tB Tryz.prog 127=some ([(vI 0),(vS none 0 0)],[(0,1),(1,1)]):=by kernel_rfl
theorem IS:tB Tryz.prog 129=some ([(vI 0),(vI 0),(vI 0),(vI 0)],[(0,3),(3,1)]):=by kernel_rfl
theorem F7:tB Tryz.prog 131=some ([(vI 0),(vI 0)],[(0,1),(1,1)]):=by kernel_rfl
theorem FF:tB Tryz.prog 143=some ([Value.nilFunc],[(0,1)]):=by kernel_rfl
theorem Sh:tB Tryz.prog 144=some ([Value.nilFunc,Value.nilFunc,Value.nilFunc,Value.nilFunc],[(0,1),(1,1),(2,1),(3,1)]):=by kernel_rfl
theorem SR:tB Tryz.prog 156=some ([(vI 0),(vI 0)],[(0,1),(1,1)]):=by kernel_rfl
theorem RU:tB Tryz.prog 203=some ([(vS none 0 0)],[(0,1)]):=by kernel_rfl
theorem SU:tB Tryz.prog 236=some ([(vS none 0 0),(vS none 0 0),(vS none 0 0)],[(0,1),(1,1),(2,1)]):=by kernel_rfl
theorem SK:tB Tryz.prog 270=some ([(vS none 0 0),(vI 0),(vS none 0 0),(vS none 0 0),(vI 0),(vI 0),(vI 0),(vI 0),(vI 0),(vS none 0 0),(vS none 0 0),(vS none 0 0),(vS none 0 0),(vS none 0 0)],[(0,7),(7,3),(10,1),(11,1),(12,1),(13,1)]):=by kernel_rfl
theorem Bf:tB Tryz.prog 276=some ([(vI 0),(vI 0)],[(0,1),(1,1)]):=by kernel_rfl
theorem yg:tE Tryz.prog 22=some (122,9):=by kernel_rfl
theorem z8:tE Tryz.prog 25=some (127,2):=by kernel_rfl
theorem vq:tE Tryz.prog 26=some (129,4):=by kernel_rfl
theorem cJ:tE Tryz.prog 29=some (3,1):=by kernel_rfl
theorem pk:tE Tryz.prog 30=some (47,1):=by kernel_rfl
theorem Ud:tE Tryz.prog 33=some (89,1):=by kernel_rfl
theorem zX:tE Tryz.prog 42=some (131,2):=by kernel_rfl
theorem sE:tE Tryz.prog 47=some (46,7):=by kernel_rfl
theorem pC:tE Tryz.prog 67=some (29,1):=by kernel_rfl
theorem jL:tE Tryz.prog 85=some (38,2):=by kernel_rfl
theorem N7:tE Tryz.prog 86=some (85,1):=by kernel_rfl
theorem p8:tE Tryz.prog 125=some (124,3):=by kernel_rfl
theorem H5:tE Tryz.prog 147=some (150,2):=by kernel_rfl
theorem Ge:tE Tryz.prog 216=some (236,3):=by kernel_rfl
theorem Ir:tE Tryz.prog 220=some (119,3):=by kernel_rfl
theorem OL:tE Tryz.prog 231=some (4,1):=by kernel_rfl
theorem Pe:tE Tryz.prog 266=some (262,1):=by kernel_rfl
theorem E_:tE Tryz.prog 267=some (58,1):=by kernel_rfl
theorem oa:tE Tryz.prog 268=some (274,1):=by kernel_rfl
theorem Ap:(match Tryz.prog.underlying 38 with |some (.struct fs)=>(fs[0]?).map (fun fl=>tK Tryz.prog fl.type)|_=>none)=some (some (false,1)):=by kernel_rfl
theorem Ao:(match Tryz.prog.underlying 38 with |some (.struct fs)=>(fs[1]?).map (fun fl=>tK Tryz.prog fl.type)|_=>none)=some (some (false,1)):=by kernel_rfl
theorem Vo:tV Tryz.prog 3=some (vI 0):=by kernel_rfl
theorem wI:tV Tryz.prog 38=some (Value.agg [(vI 0),(vI 0)].toArray):=by kernel_rfl
theorem Fk:tX Tryz.prog 144=some (4,143):=by kernel_rfl
theorem Gb:tX Tryz.prog 156=some (2,3):=by kernel_rfl
theorem jd:tZ Tryz.prog 3=some [(vI 0)]:=by kernel_rfl
theorem VG:tZ Tryz.prog 4=some [(vB false)]:=by kernel_rfl
theorem zU:tZ Tryz.prog 12=some [(Value.int .u64 0)]:=by kernel_rfl
theorem U7:tZ Tryz.prog 28=some [(vS none 0 0),(vI 0),(vS none 0 0),(vS none 0 0),(vI 0),(vI 0),(vI 0)]:=by kernel_rfl
theorem vl:tZ Tryz.prog 29=some [(vS none 0 0)]:=by kernel_rfl
theorem CM:tZ Tryz.prog 32=some [(vS none 0 0),(vI 0),(vS none 0 0),(vS none 0 0),(vI 0),(vI 0),(vI 0),(vS none 0 0),(vS none 0 0),(vI 0),(vS none 0 0)]:=by kernel_rfl
theorem di:tZ Tryz.prog 38=some [(vI 0),(vI 0)]:=by kernel_rfl
theorem U2:tZ Tryz.prog 44=some [(vI 0),(vI 0),(vS none 0 0)]:=by kernel_rfl
theorem Oo:tZ Tryz.prog 46=some [(vB false),(vB false),(vI 0),(vI 0),(vI 0),(vI 0),(vS none 0 0)]:=by kernel_rfl
theorem Up:tZ Tryz.prog 47=some [(vS none 0 0)]:=by kernel_rfl
theorem Um:tZ Tryz.prog 53=some [Value.nilFunc]:=by kernel_rfl
theorem Sq:tZ Tryz.prog 58=some [(Value.map none)]:=by kernel_rfl
theorem Uv:tZ Tryz.prog 62=some [(Value.map none)]:=by kernel_rfl
theorem SS:tZ Tryz.prog 80=some [(Value.pointer none)]:=by kernel_rfl
theorem Q9:tZ Tryz.prog 85=some [(vS none 0 0)]:=by kernel_rfl
theorem CD:tZ Tryz.prog 119=some [(vI 0),(vI 0),(vI 0)]:=by kernel_rfl
theorem Fx:tZ Tryz.prog 122=some [(vI 0),(vI 0),(vI 0),(vI 0),(vI 0),(vI 0),(vI 0),(Value.int .u8 0),(vI 0)]:=by kernel_rfl
theorem ry:tZ Tryz.prog 124=some [(vI 0),(vI 0),(vI 0)]:=by kernel_rfl
theorem It:tZ Tryz.prog 127=some [(vI 0),(vS none 0 0)]:=by kernel_rfl
theorem QZ:tZ Tryz.prog 129=some [(vI 0),(vI 0),(vI 0),(vI 0)]:=by kernel_rfl
theorem F1:tZ Tryz.prog 131=some [(vI 0),(vI 0)]:=by kernel_rfl
theorem E8:tZ Tryz.prog 143=some [Value.nilFunc]:=by kernel_rfl
theorem Tk:tZ Tryz.prog 144=some [Value.nilFunc,Value.nilFunc,Value.nilFunc,Value.nilFunc]:=by kernel_rfl
theorem Kh:tZ Tryz.prog 203=some [(vS none 0 0)]:=by kernel_rfl
theorem OZ:tZ Tryz.prog 233=some [(vS none 0 0),(vS none 0 0),(vS none 0 0)]:=by kernel_rfl
theorem Sf:tZ Tryz.prog 236=some [(vS none 0 0),(vS none 0 0),(vS none 0 0)]:=by kernel_rfl
theorem Sg:tZ Tryz.prog 262=some [Value.nilFunc]:=by kernel_rfl
theorem sI:tZ Tryz.prog 276=some [(vI 0),(vI 0)]:=by kernel_rfl
theorem oG:Tryz.prog.underlying 3=some (.int .i64):=by kernel_rfl
theorem RG:Tryz.prog.underlying 4=some .bool:=by kernel_rfl
theorem TB:Tryz.prog.underlying 5=some (.int .u8):=by kernel_rfl
theorem Vy:Tryz.prog.underlying 9=some .string:=by kernel_rfl
theorem Qz:Tryz.prog.underlying 22=some (.slice 122):=by kernel_rfl
theorem Rq:Tryz.prog.underlying 25=some (.slice 127):=by kernel_rfl
theorem PM:Tryz.prog.underlying 26=some (.slice 129):=by kernel_rfl
theorem SF:Tryz.prog.underlying 29=some (.slice 3):=by kernel_rfl
theorem S8:Tryz.prog.underlying 30=some (.slice 47):=by kernel_rfl
theorem Tj:Tryz.prog.underlying 33=some (.slice 89):=by kernel_rfl
theorem M3:Tryz.prog.underlying 36=some (.map 3 3):=by kernel_rfl
theorem RE:Tryz.prog.underlying 42=some (.slice 131):=by kernel_rfl
theorem QY:Tryz.prog.underlying 47=some (.slice 46):=by kernel_rfl
theorem nJ:Tryz.prog.underlying 58=some (.map 3 38):=by kernel_rfl
theorem BX:Tryz.prog.underlying 62=some (.map 3 4):=by kernel_rfl
theorem SW:Tryz.prog.underlying 89=some (.int .u32):=by kernel_rfl
theorem Oz:Tryz.prog.underlying 125=some (.slice 124):=by kernel_rfl
theorem SJ:Tryz.prog.underlying 135=some (.int .u64):=by kernel_rfl
theorem QW:Tryz.prog.underlying 170=some (.int .u64):=by kernel_rfl
theorem oy:Tryz.prog.underlying 274=some (.map 276 3):=by kernel_rfl
theorem Pm:fL Tryz.prog 38=some [(3,0),(3,1)]:=by kernel_rfl
theorem OK (d:Nat) (s z:aa) (w:World):(Op.equalIn (d+2) 38 (.agg s.cells.toArray) (.agg z.cells.toArray)).run Tryz.prog w= .ok (decide (s=z)) w:=by
 have hc:(decide (s.Lo=z.Lo)&&(decide (s.Hi=z.Hi)&&true))=decide (s=z):=by rw [Bool.eq_iff_iff]; simp [aa.ext_iff]
 rw [← hc]
 exact w6 (d+1) Pm w (tg w (jR MR U w) (jR MR U w) (vJ _ oG w) (tg w (jR MR U w) (jR MR U w) (vJ _ oG w) (F0 w)))
theorem sT (x y:Operand) (s z:aa):g0 Tryz.prog .eql 38 x y (.agg s.cells.toArray) (.agg z.cells.toArray) (.bool (decide (s=z))):=G9 x y (Bq Pm) fun w=>OK 9998 s z w
theorem Tr (x y:Operand) (s z:aa):g0 Tryz.prog .neq 38 x y (.agg s.cells.toArray) (.agg z.cells.toArray) (.bool (!decide (s=z))):=HA x y (Bq Pm) fun w=>OK 9998 s z w
theorem OM:fL Tryz.prog 276=some [(3,0),(3,1)]:=by kernel_rfl
theorem Qh (d:Nat) (s z:aC) (w:World):(Op.equalIn (d+2) 276 (.agg s.cells.toArray) (.agg z.cells.toArray)).run Tryz.prog w= .ok (decide (s=z)) w:=by
 have hc:(decide (s.right=z.right)&&(decide (s.eW=z.eW)&&true))=decide (s=z):=by rw [Bool.eq_iff_iff]; simp [aC.ext_iff]
 rw [← hc]
 exact w6 (d+1) OM w (tg w (jR MR U w) (jR MR U w) (vJ _ oG w) (tg w (jR MR U w) (jR MR U w) (vJ _ oG w) (F0 w)))
theorem cu:Tryz.prog.follows .mixedOrders=true:=by kernel_rfl
def TT:Db:=⟨[(1,false,1),(2,false,1),(3,false,1),(4,false,1),(5,false,1),(6,false,1),(7,true,4),(8,true,4),(12,false,1),(15,false,1),(16,false,1),(17,false,1),(18,true,1),(19,true,1),(21,false,1),(22,false,1),(23,true,1),(24,true,1),(25,false,1),(26,false,1),(27,true,7),(28,true,7),(29,false,1),(30,false,1),(31,true,11),(32,true,11),(33,false,1),(34,false,1),(35,false,1),(36,false,1),(37,true,2),(38,true,2),(39,false,1),(41,false,1),(42,false,1),(43,true,3),(44,true,3),(45,true,7),(46,true,7),(47,false,1),(48,false,1),(49,false,1),(50,false,1),(52,false,1),(53,false,1),(55,false,1),(56,false,1),(57,false,1),(58,false,1),(60,false,1),(62,false,1),(63,false,1),(64,false,1),(65,false,1),(66,false,1),(67,false,1),(69,false,1),(71,false,1),(72,false,1),(73,false,1),(74,false,1),(75,false,1),(76,false,1),(77,false,1),(78,false,1),(79,false,1),(80,false,1),(82,false,1),(83,false,1),(84,false,1),(85,false,1),(86,false,1),(87,true,13),(88,true,13),(89,false,1),(91,false,1),(92,false,1),(93,false,1),(94,false,1),(95,false,1),(96,false,1),(97,false,1),(98,false,1),(99,false,1),(100,false,1),(101,false,1),(102,false,1),(103,false,1),(104,false,1),(105,false,1),(107,false,1),(108,false,1),(109,false,1),(110,false,1),(111,false,1),(112,false,1),(113,false,1),(114,false,1),(115,false,1),(116,false,1),(117,false,1),(118,true,3),(119,true,3),(120,false,1),(121,true,9),(122,true,9),(123,true,3),(124,true,3),(125,false,1),(126,true,2),(127,true,2),(128,true,4),(129,true,4),(130,true,2),(131,true,2),(132,false,1),(133,false,1),(134,false,1),(135,false,1),(136,false,1),(137,false,1),(138,false,1),(139,false,1),(141,false,1),(142,false,1),(143,true,1),(144,true,4),(145,false,1),(146,false,1),(147,false,1),(148,false,1),(149,true,2),(150,true,2),(151,true,6),(152,false,1),(153,false,1),(154,false,1),(155,false,1),(156,true,2),(157,false,1),(158,false,1),(159,false,1),(160,false,1),(162,false,1),(163,false,1),(164,false,1),(165,false,1),(167,false,1),(168,false,1),(169,false,1),(170,false,1),(171,false,1),(172,false,1),(173,false,1),(174,false,1),(175,false,1),(176,false,1),(177,false,1),(178,false,1),(179,false,1),(180,false,1),(181,false,1),(182,false,1),(183,false,1),(184,false,1),(185,false,1),(186,false,1),(187,false,1),(188,false,1),(189,false,1),(190,false,1),(191,false,1),(192,false,1),(193,false,1),(194,false,1),(195,false,1),(196,false,1),(197,false,1),(199,false,1),(200,false,1),(201,false,1),(202,true,1),(203,true,1),(205,false,1),(206,false,1),(208,false,1),(209,false,1),(210,false,1),(211,false,1),(213,false,1),(214,false,1),(215,false,1),(216,false,1),(218,false,1),(219,false,1),(220,false,1),(221,false,1),(222,false,1),(223,false,1),(224,false,1),(225,false,1),(226,false,1),(227,false,1),(228,false,1),(229,false,1),(230,false,1),(231,false,1),(232,true,3),(233,true,3),(234,false,1),(235,true,3),(236,true,3),(237,false,1),(238,false,1),(239,false,1),(240,false,1),(241,false,1),(244,true,0),(245,true,0),(246,true,0),(247,false,1),(248,false,1),(249,false,1),(250,false,1),(251,false,1),(252,false,1),(253,false,1),(254,true,11),(255,true,11),(257,false,1),(258,false,1),(259,false,1),(261,false,1),(262,false,1),(263,false,1),(264,false,1),(265,false,1),(266,false,1),(267,false,1),(268,false,1),(269,true,14),(270,true,14),(271,false,1),(272,false,1),(273,false,1),(274,false,1),(275,true,2),(276,true,2),(277,false,1),(278,false,1),(279,false,1),(280,false,1)],[(7,[some 0,some 1,some 2,some 3]),(8,[some 0,some 1,some 2,some 3]),(18,[some 0]),(19,[some 0]),(23,[some 0]),(24,[some 0]),(27,[some 0,some 1,some 2,some 3,some 4,some 5,some 6]),(28,[some 0,some 1,some 2,some 3,some 4,some 5,some 6]),(31,[some 0,some 7,some 8,some 9,some 10]),(32,[some 0,some 7,some 8,some 9,some 10]),(37,[some 0,some 1]),(38,[some 0,some 1]),(43,[some 0,some 1,some 2]),(44,[some 0,some 1,some 2]),(45,[some 0,some 1,some 2,some 4]),(46,[some 0,some 1,some 2,some 4]),(87,[some 0,some 11,some 12]),(88,[some 0,some 11,some 12]),(118,[some 0,some 1]),(119,[some 0,some 1]),(121,[some 0,some 1,some 3,some 5,some 7,some 8]),(122,[some 0,some 1,some 3,some 5,some 7,some 8]),(123,[some 0,some 1]),(124,[some 0,some 1]),(126,[some 0,some 1]),(127,[some 0,some 1]),(128,[some 0,some 3]),(129,[some 0,some 3]),(130,[some 0,some 1]),(131,[some 0,some 1]),(143,[some 0]),(149,[some 0,some 1]),(150,[some 0,some 1]),(202,[some 0]),(203,[some 0]),(232,[some 0,some 1,some 2]),(233,[some 0,some 1,some 2]),(235,[some 0,some 1,some 2]),(236,[some 0,some 1,some 2]),(254,[some 0,some 1,some 2,some 3,some 4,some 5,some 6,some 7,some 8,some 9,some 10]),(255,[some 0,some 1,some 2,some 3,some 4,some 5,some 6,some 7,some 8,some 9,some 10]),(269,[some 0,some 7,some 10,some 11,some 12,some 13]),(270,[some 0,some 7,some 10,some 11,some 12,some 13]),(275,[some 0,some 1]),(276,[some 0,some 1])],[22,25,26,29,30,33,42,47,67,85,86,125,147,216,220,231,266,267,268]⟩
theorem pH:kP Tryz.prog TT:=P6 kr
theorem cm {t:TypeId} {x:Bool×Nat} (h:TT.Js t=some x:=by rfl):tK Tryz.prog t=some x:=pH.Js h
theorem fB {s f k:Nat} (h:TT.foF s f=some k:=by rfl):se Tryz.prog s f=some k:=pH.foF h
end
section
open Go.RowKit
/-- blocks that are read -/
def MM (C:List av) (M:List (Nat×List Value)):Prop:= ∀ p∈M,∀ o vs,(p.2.drop o).take vs.length=vs→At C (some ⟨p.1,o,none⟩) vs
theorem I {C:List av}:MM C []:=fun p h=>by cases h
theorem mc {C:List av} {b t:Nat} {cs:List Value} {M:List (Nat×List Value)} (i:Nat) (hC:C[i]? =some (b_ b t cs)) (h:MM C M):MM C ((b,cs)::M):=fun p hp o vs hv=>by
 rcases List.mem_cons.1 hp with rfl|hp
 ·exact pz i hC hv
 ·exact h p hp o vs hv
theorem mr {C:List av} {b t:Nat} {cs:List Value} {M:List (Nat×List Value)} (i:Nat) (hC:C[i]? =some (b_ b t cs).ro) (h:MM C M):MM C ((b,cs)::M):=fun p hp o vs hv=>by
 rcases List.mem_cons.1 hp with rfl|hp
 ·exact vW i hC hv
 ·exact h p hp o vs hv
def o0:List Prop→Prop
 |[]=>True
 |p::l=>p∧o0 l
theorem jZ {p:Prop} {l:List Prop} (h:p) (h2:o0 l):o0 (p::l):=⟨h,h2⟩
/-- the value of an operation, what it asks for, and what is left of the list of places -/
def pv (T:Db) (ops:Array Oper) (M:List (Nat×List Value)) (L:List (Nat×Value)) (hs:List Nat) (g:Option (Nat×Bool)) (op:Op):Option (Value×List Prop×List Nat):=
 match C5 ops L g with
 |true=>some (undef,[],hs)
 |false=>match jr ops L g with
  |false=>none
  |true=>match op with
   | .move x=>match ev L x with
    |some v=>some (v,[],hs)
    |none=>none
   | .assign x=>match ev L x with
    |some v=>some (v,[],hs)
    |none=>none
   | .pick c x y=>match ev L c with
    |some (.bool true)=>match ev L x with
     |some v=>some (v,[],hs)
     |none=>none
    |some (.bool false)=>match ev L y with
     |some v=>some (v,[],hs)
     |none=>none
    |_=>none
   | .unOp .not _ x=>match ev L x with
    |some (.bool b)=>some (.bool !b,[],hs)
    |_=>none
   | .extract x i=>match ev L x with
    |some (.tuple vs)=>match vs.toList[i]? with
     |some v=>some (v,[],hs)
     |none=>none
    |_=>none
   | .fieldAddr s x f=>match ev L x with
    |some (.pointer (some ⟨b,o,none⟩))=>match T.foF s f with
     |some k=>some (.pointer (some ⟨b,o+k,none⟩),[],hs)
     |none=>none
    |_=>none
   | .binOp op _ x y _=>match ev L x with
    |some (.int .i64 a)=>match ev L y with
     |some (.int .i64 b)=>match op with
      | .lss=>some (.bool (decide (a<b)),[],hs)
      | .leq=>some (.bool (decide (a≤b)),[],hs)
      | .gtr=>some (.bool (decide (b<a)),[],hs)
      | .geq=>some (.bool (decide (b≤a)),[],hs)
      | .eql=>some (.bool (decide (a=b)),[],hs)
      | .neq=>some (.bool (!decide (a=b)),[],hs)
      | .add=>some (.int .i64 (a+b),[-9223372036854775808≤a+b,a+b≤9223372036854775807],hs)
      | .sub=>some (.int .i64 (a-b),[-9223372036854775808≤a-b,a-b≤9223372036854775807],hs)
      |_=>none
     |_=>none
    |_=>none
   | .load t x=>match ev L x with
    |some (.pointer (some ⟨b,o,none⟩))=>match M[hs.headD 0]? with
     |some (b',cs)=>match T.Js t with
      |some (false,_)=>match cs[o]? with
       |some v=>some (v,[b'=b],hs.tail)
       |none=>none
      |some (true,n)=>match Nat.beq o 0 with
       |true=>match Nat.beq cs.length n with
        |true=>some (.agg cs.toArray,[b'=b],hs.tail)
        |false=>none
       |false=>none
      |none=>none
     |none=>none
    |_=>none
   | .call c=>match c with
    |{callee:= .builtin .len,args:=xs,argTypes:=ts}=>match xs.toList with
     |[x]=>match ts.toList with
      |[t]=>match ev L x with
       |some (.slice A n c)=>match Mb T.sl t with
        |true=>some (.int .i64 n,[],hs)
        |false=>none
       |_=>none
      |_=>none
     |_=>none
    |_=>none
   |_=>none
section
variable {E:fh} {T:Db} {ops:Array Oper} {M:List (Nat×List Value)} {D:List Deferred} {L:List (Nat×Value)} {C:List av} {hs hs':List Nat}
theorem uO {cs:List Value} {o:Nat} {v:Value} (h:cs[o]? =some v):(cs.drop o).take [v].length=[v]:=by
 obtain ⟨hl,rfl⟩:=List.getElem?_eq_some_iff.1 h
 rw [List.drop_eq_getElem_cons hl]; rfl
theorem Sy {o:Oper} {v:Value} {S:List Prop} (hT:kP E.P T) (hM:MM C M) (h:pv T ops M L hs o.guard o.op=some (v,S,hs')) (hS:o0 S):SD E ops o D L C v:=by
 obtain ⟨dst,op,ty,ps,af,g⟩:=o
 unfold pv at h
 simp only at h
 split at h
 ·rename_i hg
  cases h
  exact IN hg
 ·split at h
  ·cases h
  ·rename_i hg
   split at h
   ·split at h
    ·rename_i hx; cases h; exact E2 hg hx
    ·cases h
   ·split at h
    ·rename_i hx; cases h; exact yq hg hx
    ·cases h
   ·split at h
    ·rename_i hc
     split at h
     ·rename_i hx; cases h; exact yR hg hc hx
     ·cases h
    ·rename_i hc
     split at h
     ·rename_i hx; cases h; exact yK hg hc hx
     ·cases h
    ·cases h
   ·split at h
    ·rename_i hx; cases h; exact IX hg hx
    ·cases h
   ·split at h
    ·rename_i vs hx
     split at h
     ·rename_i v' hv; cases h; exact xu (vs:=vs.toList) hg (by simpa using hx) hv
     ·cases h
    ·cases h
   ·split at h
    ·rename_i hx
     split at h
     ·rename_i hk; cases h; exact O0 hg hx (hT.foF hk) rfl
     ·cases h
    ·cases h
   ·split at h
    ·rename_i hx
     split at h
     ·rename_i hy
      split at h
      ·cases h; exact cb hg hx hy gQ
      ·cases h; exact cb hg hx hy OR
      ·cases h; exact cb hg hx hy RL
      ·cases h; exact cb hg hx hy FO
      ·cases h; exact cb hg hx hy l8
      ·cases h; exact cb hg hx hy lj
      ·cases h; exact cb hg hx hy (ij ⟨hS.1,hS.2.1⟩)
      ·cases h; exact cb hg hx hy (rz ⟨hS.1,hS.2.1⟩)
      ·cases h
     ·cases h
    ·cases h
   ·split at h
    ·rename_i hx
     split at h
     ·rename_i b' cs hm
      have A:=aV hm
      split at h
      ·rename_i hk
       split at h
       ·rename_i hv
        cases h
        obtain rfl:=hS.1
        exact um hg hx (hT.Js hk) (hM _ A _ _ (uO hv))
       ·cases h
      ·rename_i n hk
       split at h
       ·rename_i ho
        split at h
        ·rename_i hn
         cases h
         obtain rfl:=hS.1
         have H:=Nat.eq_of_beq_eq_true ho
         subst H
         exact wi hg hx (hT.Js hk) (hM _ A 0 cs sm) (Nat.eq_of_beq_eq_true hn)
        ·cases h
       ·cases h
      ·cases h
     ·cases h
    ·cases h
   ·split at h
    ·rename_i xs ts
     split at h
     ·rename_i x G
      split at h
      ·rename_i t F
       split at h
       ·rename_i hx
        split at h
        ·rename_i B
         cases h
         obtain ⟨e,he⟩:=hT.sl t (CP B)
         have AA:xs= #[x]:=by apply Array.ext'; simpa using G
         have J:ts= #[t]:=by apply Array.ext'; simpa using F
         subst AA J
         exact Iu hg hx he
        ·cases h
       ·cases h
      ·cases h
     ·cases h
    ·cases h
   ·cases h
def pr (T:Db) (n:Nat) (ops:Array Oper) (M:List (Nat×List Value)):Nat→List Nat→List (Nat×Value)→List Oper→Option (List (Nat×Value)×List Oper×List Prop)
 |0,_,L,rest=>some (L,rest,[])
 |k+1,hs,L,[]=>none
 |k+1,hs,L,o::rest=>match o.dst with
  |none=>none
  |some d=>match Nat.blt d n with
   |false=>none
   |true=>match pv T ops M L hs o.guard o.op with
    |none=>none
    |some (v,S,hs')=>match pr T n ops M k hs' ((d,v)::L) rest with
     |none=>none
     |some (L',rest',S')=>some (L',rest',S++S')
theorem xA: ∀ {S S':List Prop},o0 (S++S')→o0 S∧o0 S'
 |[],S',h=>⟨trivial,h⟩
 |p::S,S',h=>⟨⟨h.1,(xA h.2).1⟩,(xA h.2).2⟩
/-- whatever is closed under single steps -/
theorem Le {J:List Oper→List (Nat×Value)→Prop} (hT:kP E.P T) (hM:MM C M) (hJ: ∀ o rest L d v,SD E ops o D L C v→o.dst=some d→Nat.blt d E.n=true→J rest ((d,v)::L)→J (o::rest) L):
 ∀ (k:Nat) (hs:List Nat) (L:List (Nat×Value)) (rest:List Oper) {L':List (Nat×Value)} {rest':List Oper} {S:List Prop},pr T E.n ops M k hs L rest=some (L',rest',S)→o0 S→J rest' L'→J rest L
 |0,hs,L,rest,L',rest',S,h,hS,hj=>by
  unfold pr at h
  cases h
  exact hj
 |k+1,hs,L,[],L',rest',S,h,hS,hj=>by unfold pr at h; cases h
 |k+1,hs,L,o::rest,L',rest',S,h,hS,hj=>by
  unfold pr at h
  split at h
  ·cases h
  ·rename_i d hd
   split at h
   ·cases h
   ·rename_i hn
    split at h
    ·cases h
    ·rename_i v S1 A hv
     split at h
     ·cases h
     ·rename_i L1 G S2 hr
      cases h
      obtain ⟨B,F⟩:=xA hS
      exact hJ o rest L d v (Sy hT hM hv B) hd hn (Le hT hM hJ k A _ rest hr F hj)
variable {Q:c_} {rest rest':List Oper} {L0 L':List (Nat×Value)} {S:List Prop} {F:List (Nat×Value)→Prop}
/-- a run of operations, one after the other -/
theorem rP (k:Nat) (hs:List Nat) (hM:MM C M) (j:RJ E ops Q rest' D L' C) (hT:kP E.P T:=by exact pH) (h:pr T E.n ops M k hs L rest=some (L0,rest',S):=by rfl) (hL:L0=L':=by (try dsimp only)<;>rfl) (hS:o0 S:=by repeat' first|exact True.intro |refine jZ ?_ ?_ |exact rfl|omega|(dsimp only; omega)):RJ E ops Q rest D L C:=by
 subst hL
 exact Le (J:=fun r L=>RJ E ops Q r D L C) hT hM (fun o rest L d v A B F G=>RN A B F G) k hs L rest h hS j
theorem dP (k:Nat) (hs:List Nat) (hM:MM C M) (j:DJ E ops D C F rest' L') (hT:kP E.P T:=by exact pH) (h:pr T E.n ops M k hs L rest=some (L0,rest',S):=by rfl) (hL:L0=L':=by (try dsimp only)<;>rfl) (hS:o0 S:=by repeat' first|exact True.intro |refine jZ ?_ ?_ |exact rfl|omega):DJ E ops D C F rest L:=by
 subst hL
 exact Le (J:=fun r L=>DJ E ops D C F r L) hT hM (fun o rest L d v A B G H=>Sj A B G H) k hs L rest h hS j
end
section
variable {P:Program} {r:Option Nat} {n:Nat} {B:BS} {w0:World} {ops:Array Oper} {M:List (Nat×List Value)} {D:List Deferred} {L L':List (Nat×Value)} {C:List av} {Q:c_} {rest rest':List Oper} {S:List Prop} {F:List (Nat×Value)→Prop}
theorem fF (k:Nat) (hs:List Nat) (hM:MM C M) (h:pr TT n ops M k hs L rest=some (L',rest',S)) (j:RJ ⟨P,r,n,B,w0⟩ ops Q rest' D L' C) (hS:o0 S:=by repeat' first|exact True.intro |refine jZ ?_ ?_ |exact rfl|omega|(dsimp only; omega)) (hT:kP P TT:=by exact pH):RJ ⟨P,r,n,B,w0⟩ ops Q rest D L C:=rP k hs hM j hT h rfl hS
theorem lJ (k:Nat) (hs:List Nat) (hM:MM C M) (h:pr TT n ops M k hs L rest=some (L',rest',S)) (j:DJ ⟨P,r,n,B,w0⟩ ops D C F rest' L') (hS:o0 S:=by repeat' first|exact True.intro |refine jZ ?_ ?_ |exact rfl|omega|(dsimp only; omega)) (hT:kP P TT:=by exact pH):DJ ⟨P,r,n,B,w0⟩ ops D C F rest L:=dP k hs hM j hT h rfl hS
theorem bg (k:Nat) (h:pr TT n ops [] k [] L rest=some (L',rest',S)) (j:RJ ⟨P,r,n,B,w0⟩ ops Q rest' D L' C) (hS:o0 S:=by repeat' first|exact True.intro |refine jZ ?_ ?_ |exact rfl|omega|(dsimp only; omega)) (hT:kP P TT:=by exact pH):RJ ⟨P,r,n,B,w0⟩ ops Q rest D L C:=rP k [] I j hT h rfl hS
theorem kX (k:Nat) (h:pr TT n ops [] k [] L rest=some (L',rest',S)) (j:DJ ⟨P,r,n,B,w0⟩ ops D C F rest' L') (hS:o0 S:=by repeat' first|exact True.intro |refine jZ ?_ ?_ |exact rfl|omega|(dsimp only; omega)) (hT:kP P TT:=by exact pH):DJ ⟨P,r,n,B,w0⟩ ops D C F rest L:=dP k [] I j hT h rfl hS
end
end
section
open Go.RowKit
/-- parts of a context, reckoned to the end -/
def oY (C:List av):List Nat→Option (List av)
 |[]=>some []
 |i::is=>match C[i]? with
  |some A=>match oY C is with
   |some l=>some (A::l)
   |none=>none
  |none=>none
theorem jv {C:List av}: ∀ {is:List Nat} {C':List av},oY C is=some C'→j_ C is=C'
 |[],C',h=>by cases h; rfl
 |i::is,C',h=>by
  unfold oY at h
  split at h
  ·rename_i A hA
   split at h
   ·rename_i l hl
    cases h
    show List.filterMap (C[·]?) (i::is)=A::l
    rw [List.filterMap_cons_some hA]
    exact congrArg _ (jv hl)
   ·cases h
  ·cases h
/-- a part of a context in place of the whole -/
theorem aL {S:BS} {w0:World} {C C':List av} (is:List Nat) (hn:decide is.Nodup=true:=by rfl) (hC:j_ C is=C':=by rfl): ∀ w,St S w0 C w→St S w0 C' w:=fun w h=>St.j_ is hn hC h
theorem RV {S:BS} {w0:World} {C C':List av} (is:List Nat) (hC:oY C is=some C') (hn:decide is.Nodup=true:=by rfl): ∀ w,St S w0 C w→St S w0 C' w:=fun w h=>St.j_ is hn (jv hC) h
def Ot (C:List av) (i:Nat) (B:av):Option (List av):=match i,C with
 |0,_::C=>some (B::C)
 |i+1,A::C=>match Ot C i B with
  |some l=>some (A::l)
  |none=>none
 |_,[]=>none
theorem FI: ∀ {C:List av} {i:Nat} {B:av} {C':List av},Ot C i B=some C'→C.set i B=C'
 |[],0,B,C',h=>by cases h
 |[],i+1,B,C',h=>by cases h
 |A::C,0,B,C',h=>by cases h; rfl
 |A::C,i+1,B,C',h=>by
  unfold Ot at h
  split at h
  ·rename_i l hl
   cases h
   exact congrArg _ (FI hl)
  ·cases h
theorem f_ {E:fh} {K:Act→World→Prop} {D:List Deferred} {L:List (Nat×Value)} {C C':List av} {A B:av} (i:Nat) (hC:C[i]? =some A) (hh:(∀ w,A.holds w→B.holds w)∧(∀ b,B.fq b→A.fq b)∧ ∀ b,B.wf b→A.wf b) (hC':Ot C i B=some C') (h:KJ E K D L C'):KJ E K D L C:=IH i hC hh (FI hC') h
/-- the operations of a region but these; marks of some places -/
def TY (n:Nat) (T:List Nat):List Nat:=(List.range n).filter fun i=> !T.contains i
def Vu (k:Nat) (t:List Nat):List Bool:=(List.range k).map fun i=>t.contains i
theorem dL {E:fh} {id:Nat} {ops:Array Oper} {Q:c_} {D:List Deferred} {L:List (Nat×Value)} {C:List av} (hm:E.P.follows .mixedOrders=true) (T fe tb i1 i2:List Nat) {C' C1:List av} {free:List Nat} {QO tbb:List Bool}
 (h1:oY C i1=some C') (h2:oY C i2=some C1) (hf:free=TY ops.size T) (hfe:QO=Vu free.length fe) (htb:tbb=Vu T.length tb)
 (h:pU E ops D C' C1 (fun L'=>TJ E ops D C' C1 (fun L C=>KJ E (Q .normal) D L C) tbb (eX ops T) L' C) QO (eX ops free) L)
 (hc:NC ops free T QO tbb=true:=by kernel_rfl) (n1:decide i1.Nodup=true:=by rfl) (n2:decide i2.Nodup=true:=by rfl):WJ E (.region id ops true) Q D L C:=
 N_ hm free T QO tbb C' C1 hc (RV i1 h1 n1) (RV i2 h2 n2) h
end
section
open Go.RowKit
def vx (T:Db) (M:List (Nat×List Value)) (L:List (Nat×Value)):List ResultVar→List Nat→Option (List Value×List Prop)
 |[],_=>some ([],[])
 | .tmp t::rs,hs=>match L.lookup t with
  |some v=>match vx T M L rs hs with
   |some (vs,S)=>some (v::vs,S)
   |none=>none
  |none=>none
 | .cell a t::rs,hs=>match L.lookup a with
  |some (.pointer (some ⟨b,o,none⟩))=>match M[hs.headD 0]? with
   |some (b',cs)=>match T.Js t with
    |some (false,_)=>match cs[o]? with
     |some v=>match vx T M L rs hs.tail with
      |some (vs,S)=>some (v::vs,(b'=b)::S)
      |none=>none
     |none=>none
    |some (true,n)=>match Nat.beq o 0 with
     |true=>match Nat.beq cs.length n with
      |true=>match vx T M L rs hs.tail with
       |some (vs,S)=>some (.agg cs.toArray::vs,(b'=b)::S)
       |none=>none
      |false=>none
     |false=>match vx T M L rs hs.tail with
      |some (vs,S)=>some (.agg ((cs.drop o).take n).toArray::vs,(b'=b)::(((cs.drop o).take n).length=n)::S)
      |none=>none
    |none=>none
   |none=>none
  |_=>none
theorem nT {P:Program} {T:Db} {M:List (Nat×List Value)} {L:List (Nat×Value)} {C:List av} (hT:kP P T) (hM:MM C M): ∀ (rs:List ResultVar) (hs:List Nat) {vs:List Value} {S:List Prop},vx T M L rs hs=some (vs,S)→o0 S→GZ P L C rs vs
 |[],_,vs,S,h,hS=>by unfold vx at h; cases h; exact trivial
 | .tmp t::rs,hs,vs,S,h,hS=>by
  unfold vx at h
  split at h
  ·rename_i v hv
   split at h
   ·rename_i vs' S' hr
    cases h
    exact ⟨hv,nT hT hM rs hs hr hS⟩
   ·cases h
  ·cases h
 | .cell a t::rs,hs,vs,S,h,hS=>by
  unfold vx at h
  split at h
  ·rename_i b o hl
   split at h
   ·rename_i b' cs hm
    have A:=aV hm
    split at h
    ·rename_i hk
     split at h
     ·rename_i v hv
      split at h
      ·rename_i vs' S' hr
       cases h
       obtain ⟨rfl,hS⟩:=hS
       exact ⟨⟨_,hl,.inr ⟨_,hT.Js hk,hM _ A _ _ (uO hv)⟩⟩,nT hT hM rs _ hr hS⟩
      ·cases h
     ·cases h
    ·rename_i n hk
     split at h
     ·rename_i ho
      split at h
      ·rename_i hn
       split at h
       ·rename_i vs' S' hr
        cases h
        obtain ⟨rfl,hS⟩:=hS
        have D:=Nat.eq_of_beq_eq_true ho
        subst D
        exact ⟨⟨_,hl,.inl ⟨_,cs,hT.Js hk,hM _ A 0 cs sm,Nat.eq_of_beq_eq_true hn,U⟩⟩,nT hT hM rs _ hr hS⟩
       ·cases h
      ·cases h
     ·split at h
      ·rename_i vs' S' hr
       cases h
       obtain ⟨rfl,B,hS⟩:=hS
       exact ⟨⟨_,hl,.inl ⟨_,_,hT.Js hk,hM _ A o _ (by rw [B]),B,U⟩⟩,nT hT hM rs _ hr hS⟩
      ·cases h
    ·cases h
   ·cases h
  ·cases h
section
variable {P:Program} {n:Nat} {fn:Func} {w0:World} {K:Act→World→Prop} {L:List (Nat×Value)} {C:List av} {M:List (Nat×List Value)} {vs:List Value} {S:List Prop} {u x v:Value}
theorem H3 (hQ: ∀ D L C,LJ ⟨P,none,n,su,w0⟩ fn (BJ w0 v) D L C→KJ ⟨P,none,n,su,w0⟩ K D L C) (hs:List Nat) (hM:MM C M) (h:vx TT M L fn.results.toList hs=some ([u],S)) (e:u=v) (hS:o0 S:=by repeat' first|exact True.intro |refine jZ rfl ?_) (hT:kP P TT:=by exact pH):KJ ⟨P,none,n,su,w0⟩ K [] L C:=
 hQ _ _ _ (gU (nT hT hM _ _ h hS) fun w hs=>EA e hs)
theorem lf (hQ: ∀ D L C,LJ ⟨P,none,n,su,w0⟩ fn (BJ w0 v) D L C→KJ ⟨P,none,n,su,w0⟩ K D L C) (hs:List Nat) (hM:MM C M) (h:vx TT M L fn.results.toList hs=some (u::x::vs,S)) (e:Value.tuple (u::x::vs).toArray=v) (hS:o0 S:=by repeat' first|exact True.intro |refine jZ rfl ?_) (hT:kP P TT:=by exact pH):KJ ⟨P,none,n,su,w0⟩ K [] L C:=
 hQ _ _ _ (gU (nT hT hM _ _ h hS) fun w hs=>EA e hs)
theorem LX {α:Type} {V:α→Value} {p:α→Prop} {N:α→List av} (hQ: ∀ D L C,LJ ⟨P,none,n,su,w0⟩ fn (KP w0 V p N) D L C→KJ ⟨P,none,n,su,w0⟩ K D L C) (x:α) (is hs:List Nat) (hM:MM C M) (h:vx TT M L fn.results.toList hs=some (vs,S)) (hw:(N x).all (·.wr)=true) (hN:j_ C is=N x) (hV:QM vs=V x) (hp:p x) (hn:decide is.Nodup=true:=by rfl) (hS:o0 S:=by repeat' first|exact True.intro |refine jZ rfl ?_) (hT:kP P TT:=by exact pH):KJ ⟨P,none,n,su,w0⟩ K [] L C:=
 hQ _ _ _ (gU (nT hT hM _ _ h hS) fun w hs=>KM x is hV hp hn hN hw hs)
theorem LM {A:av} {α:Type} {V:α→Value} {p:α→Prop} {A':α→av} (hQ: ∀ D L C,LJ ⟨P,none,n,⟨A.wf,fun _=>True⟩,w0⟩ fn (M8 w0 A V p A') D L C→KJ ⟨P,none,n,⟨A.wf,fun _=>True⟩,w0⟩ K D L C) (x:α) (i:Nat) (hs:List Nat) (hM:MM C M) (h:vx TT M L fn.results.toList hs=some (vs,S)) (hw:(A' x).wr=true) (hC:C[i]? =some (A' x)) (hV:QM vs=V x) (hp:p x) (hS:o0 S:=by repeat' exact True.intro) (hT:kP P TT:=by exact pH):KJ ⟨P,none,n,⟨A.wf,fun _=>True⟩,w0⟩ K [] L C:=
 hQ _ _ _ (gU (nT hT hM _ _ h hS) fun w hs=>RH x i hV hp hC hw hs)
end
end
section
open Go.RowKit
def ES {α:Type _}:List α→List α→Option (List α)
 |[],m=>some m
 |a::l,m=>match ES l m with
  |some r=>some (a::r)
  |none=>none
theorem FN {α:Type _}: ∀ {l m r:List α},ES l m=some r→l++m=r
 |[],m,r,h=>by cases h; rfl
 |a::l,m,r,h=>by
  unfold ES at h
  split at h
  ·rename_i r' hr
   cases h
   exact congrArg (a:: ·) (FN hr)
  ·cases h
def Tv (L:List (Nat×Value)):List Nat→Option (List (Nat×Value))
 |[]=>some []
 |t::ts=>match L.lookup t with
  |some v=>match Tv L ts with
   |some r=>some ((t,v)::r)
   |none=>none
  |none=>none
theorem FT {L M:List (Nat×Value)} (k:dy L M): ∀ {ts:List Nat} {r:List (Nat×Value)},Tv L ts=some r→dy L (r++M)
 |[],r,h=>by cases h; exact k
 |t::ts,r,h=>by
  unfold Tv at h
  split at h
  ·rename_i v hv
   split at h
   ·rename_i r' hr
    cases h
    exact dy.cons hv (FT k hr)
   ·cases h
  ·cases h
section
variable {E:fh} {Q:c_} {D:List Deferred} {L L0:List (Nat×Value)} {C C0:List av} {ι:Type} {Li:ι→List (Nat×Value)} {Ci:ι→List av}
theorem bR {c:Code} (kL kC:List Nat) (hL:Tv L kL=some L0) (hC0:oY C kC=some C0) (S:ι→List (Nat×Value)) (G:ι→List av) (hLi: ∀ x,ES L0 (S x)=some (Li x)) (hCi: ∀ x,ES C0 (G x)=some (Ci x)) (μ:ι→Nat) (x0:ι)
 (h0:dy L (S x0)) (hC: ∀ w,St E.S E.w0 C w→St E.S E.w0 (Ci x0) w)
 (round: ∀ x (J:Act→World→Prop),(∀ y D' L' C',D'=D→μ y<μ x→dy L' (Li y)→(∀ w,St E.S E.w0 C' w→St E.S E.w0 (Ci y) w)→KJ E J D' L' C')→WJ E c (Exit.then J Q) D (Li x) (Ci x)):WJ E (.loop c) Q D L C:=
 PD Li Ci μ x0 (FN (hLi x0)▸FT h0 hL) hC round
theorem ob {x y:Code} (kL kC:List Nat) (hL:Tv L kL=some L0) (hC0:oY C kC=some C0) (S:ι→List (Nat×Value)) (G:ι→List av) (hLi: ∀ x,ES L0 (S x)=some (Li x)) (hCi: ∀ x,ES C0 (G x)=some (Ci x))
 (hy: ∀ z,WJ E y Q D (Li z) (Ci z)) (h: ∀ K:Act→World→Prop,(∀ z,KJ E K D (Li z) (Ci z))→WJ E x (Exit.then K Q) D L C):WJ E (.seq x y) Q D L C:=QG Li Ci hy h
end
end
section
open Go.RowKit
set_option linter.unusedSectionVars false
/-- what is asked of keys -/
structure uH (P:Program) (kt:Nat) {K:Type} (kV:K→Value):Prop where
 check: ∀ (e:Bool) (x:K) (w:World),(Instr.checkKey e 10000 kt (kV x)).run P w= .ok () w
 find: ∀ (x:K) (w:World) (es:List MapEntry),(∀ e∈es,∃ k,e.key=kV k)→
  ((Instr.findKey kt (kV x) es).run P w= .ok none w∧ ∀ e∈es,e.key≠kV x)∨ ∃ j e,(Instr.findKey kt (kV x) es).run P w= .ok (some (j,e.val)) w∧es[j]? =some e∧e.key=kV x
 bits: ∀ x,Instr.sameBits 10000 (kV x) (kV x)=true
 inj: ∀ x y,kV x=kV y→x=y
section
variable {K:Type} [DecidableEq K] {kV:K→Value}
def eh {β:Type} (l:List (K×β)) (x:K) (y:β):List (K×β):=if (l.lookup x).isSome then l.map (fun p=>if p.1=x then (x,y) else p) else l++[(x,y)]
def cp {β:Type} (l:List (K×β)) (x:K):List (K×β):=l.filter fun p=> !decide (p.1=x)
def bM {β γ:Type} (f:β→γ) (l:List (K×β)):List (K×γ):=l.map fun p=>(p.1,f p.2)
theorem Hl {β γ:Type} (f:β→γ) (l:List (K×β)):(bM f l).length=l.length:=by simp [bM]
theorem mH {β γ:Type} (f:β→γ) (x:K): ∀ l:List (K×β),(bM f l).lookup x=(l.lookup x).map f
 |[]=>rfl
 |p::l=>by
  obtain ⟨k,v⟩:=p
  have ih:=mH f x l
  by_cases h:x=k
  ·subst h; simp [bM,List.lookup]
  ·have:(x==k)=false:=by simpa using h
   simp only [bM,List.map_cons,List.lookup,this] at ih ⊢
   exact ih
theorem gJ {β γ:Type} (f:β→γ) (l:List (K×β)) (x:K) (y:β):bM f (eh l x y)=eh (bM f l) x (f y):=by
 unfold eh
 rw [mH,Option.isSome_map]
 split
 ·simp only [bM,List.map_map]
  refine List.map_congr_left fun p _=>?_
  simp only [Function.comp]
  split<;>rfl
 ·simp [bM]
theorem lO {β γ:Type} (f:β→γ) (l:List (K×β)) (x:K):bM f (cp l x)=cp (bM f l) x:=by
 unfold cp bM
 rw [List.filter_map]
 rfl
theorem iD {β:Type} {x:K}: ∀ {l:List (K×β)},l.lookup x=none↔ ∀ p∈l,p.1≠x
 |[]=>by simp
 |p::l=>by
  obtain ⟨k,v⟩:=p
  by_cases h:x=k
  ·subst h; simp [List.lookup]
  ·have hb:(x==k)=false:=by simpa using h
   simp only [List.lookup,hb,ew,forall_eq_or_imp]
   rw [iD (l:=l)]
   exact ⟨fun q=>⟨fun e=>h e.symm,q⟩,fun q=>q.2⟩
theorem g5 {β:Type} {x:K} {y:β}: ∀ {l:List (K×β)},(l.map (·.1)).Nodup→((x,y)∈l↔l.lookup x=some y)
 |[],_=>by simp
 |p::l,hn=>by
  obtain ⟨k,v⟩:=p
  simp only [List.map_cons,List.nodup_cons] at hn
  by_cases h:x=k
  ·subst h
   simp only [List.lookup,beq_self_eq_true,ew,Prod.mk.injEq,true_and,Option.some.injEq]
   constructor
   ·rintro (e|e)
    ·exact e.symm
    ·exact absurd (List.mem_map.2 ⟨_,e,U⟩) hn.1
   ·intro e; exact .inl e.symm
  ·have hb:(x==k)=false:=by simpa using h
   simp only [List.lookup,hb,ew,Prod.mk.injEq,h,false_and,false_or]
   exact g5 hn.2
structure iX (kV:K→Value) (es:Array MapEntry) (c:Nat) (m:List (K×Value)):Prop where
 list:es.toList.map (fun (e:MapEntry)=>(e.key,e.val))=m.map (fun p=>(kV p.1,p.2))
 keys:(m.map (·.1)).Nodup
 KN: ∀ e∈es.toList,e.born<c
 born:(es.toList.map (·.born)).Nodup
def hO (kV:K→Value) (b:Nat) (m:List (K×Value)):av where
 fq k:=k=b
 wf k:=k=b
 holds w:= ∃ es c,w.heap[b]? =some (.map es c)∧iX kV es c m
 wr:=true
 ki _ h:=h
 whole _ _ h:=h
 lt w h k hk:=by obtain ⟨es,c,he,_⟩:=h; exact hk▸er he
 oq w w' hk h:=by obtain ⟨es,c,he,hm⟩:=h; exact ⟨es,c,(hk b rfl).trans he,hm⟩
theorem iX.nil:iX kV #[] 0 []:=⟨rfl,List.nodup_nil,sm,List.nodup_nil⟩
theorem iX.size {es:Array MapEntry} {c:Nat} {m:List (K×Value)} (h:iX kV es c m):es.size=m.length:=by
 have:=congrArg List.length h.list
 simpa using this
theorem EC {P:Program} {kt:Nat} (hk:uH P kt kV) (x:K): ∀ (es:List MapEntry) (m:List (K×Value)),es.map (fun (e:MapEntry)=>(e.key,e.val))=m.map (fun p=>(kV p.1,p.2))→
 ((∀ e∈es,e.key≠kV x)→m.lookup x=none)∧ ∀ (j:Nat) (e:MapEntry),es[j]? =some e→e.key=kV x→m[j]? =some (x,e.val):=by
 intro es m h
 refine ⟨fun hn=>iD.2 fun p hp e=>?_,fun j e he hx=>?_⟩
 ·have:(kV p.1,p.2)∈es.map (fun (e:MapEntry)=>(e.key,e.val)):=by rw [h]; exact List.mem_map.2 ⟨p,hp,rfl⟩
  obtain ⟨z,hz,B⟩:=List.mem_map.1 this
  simp only [Prod.mk.injEq] at B
  exact hn z hz (by rw [B.1,e])
 ·have A:(es.map (fun (e:MapEntry)=>(e.key,e.val)))[j]? =some (e.key,e.val):=by rw [fE,he]; rfl
  rw [h,fE] at A
  cases hm:m[j]? with
  |none=>simp [hm] at A
  |some p=>
   simp only [hm,Option.map_some,Option.some.injEq,Prod.mk.injEq] at A
   have:=hk.inj _ _ (A.1.trans hx)
   obtain ⟨k,v⟩:=p
   simp only at this A
   rw [this,A.2]
theorem oL {P:Program} {w:World} {kt:Nat} {x:K} {es:Array MapEntry} {c:Nat} {m:List (K×Value)} (hk:uH P kt kV) (h:iX kV es c m):
 ((Instr.findKey kt (kV x) es.toList).run P w= .ok none w∧m.lookup x=none)∨
 ∃ j v,(Instr.findKey kt (kV x) es.toList).run P w= .ok (some (j,v)) w∧m[j]? =some (x,v)∧m.lookup x=some v:=by
 obtain ⟨D,E⟩:=EC hk x es.toList m h.list
 rcases hk.find x w es.toList (fun e he=>by
  have:(e.key,e.val)∈m.map (fun p=>(kV p.1,p.2)):=by rw [← h.list]; exact List.mem_map.2 ⟨e,he,rfl⟩
  obtain ⟨p,_,hp⟩:=List.mem_map.1 this
  simp only [Prod.mk.injEq] at hp
  exact ⟨p.1,hp.1.symm⟩) with ⟨A,B⟩|⟨j,e,A,B,C⟩
 ·exact .inl ⟨A,D B⟩
 ·have:=E j e B C
  exact .inr ⟨j,e.val,A,this,(g5 h.keys).1 (aV this)⟩
theorem iJ {P:Program} {w:World} {kt:Nat} {x:K} (hk:uH P kt kV) (e:Bool):(Instr.checkKey e 10000 kt (kV x)).run P w= .ok () w:=hk.check e x w
section
variable {E:fh} {ops:Array Oper} {Q:c_} {rest:List Oper} {D:List Deferred} {L:List (Nat×Value)} {C:List av}
variable {dst:Option Tmp} {d:Nat} {ty:TypeId} {ps:String} {af:Array Edge} {g:Option (Nat×Bool)}
theorem nt {t:TypeId} (hg:jr ops L g=true) (hd:Nat.blt d E.n=true) (k: ∀ b,RJ E ops Q rest D ((d,.map (some b))::L) (hO kV b []::C)):RJ E ops Q (⟨some d,.makeMap t none,ty,ps,af,g⟩::rest) D L C:=by
 intro a w B hs
 have hd':d<E.n:=by rw [← Nat.blt_eq]; exact hd
 unfold rh
 rw [if_pos (dV B hg)]
 refine gM (v:= .map (some w.heap.size)) (w':=w.alloc (.map #[] 0)) sm ?_ ?_
 ·simp [execOp,Instr.makeMap,newObj,Sem.run]
 ·refine k _ _ _ (B.put hd' _) (hs.grow (dT.alloc no w _) (N:=[hO kV w.heap.size []]) ⟨fun A hA=>?_,fun A hA b hb=>?_,List.pairwise_singleton _ _⟩)
  ·simp at hA; subst hA; exact ⟨#[],0,heap_alloc_new w _,iX.nil⟩
  ·simp at hA; subst hA; exact Nat.le_of_eq (Eq.symm hb)
theorem iX.push {es:Array MapEntry} {c:Nat} {m:List (K×Value)} (h:iX kV es c m) {x:K} (hx:m.lookup x=none) (v:Value):iX kV (es.push {key:=kV x,val:=v,born:=c}) (c+1) (m++[(x,v)]):=by
 refine ⟨by simp [h.list],?_,?_,?_⟩
 ·rw [List.map_append,List.nodup_append]
  refine ⟨h.keys,sm,fun a ha b hb=>?_⟩
  simp at hb; subst hb
  obtain ⟨p,hp,rfl⟩:=List.mem_map.1 ha
  exact iD.1 hx p hp
 ·intro e he
  simp only [Array.toList_push,ku,bX] at he
  rcases he with he|rfl
  ·exact Nat.lt_succ_of_lt (h.KN e he)
  ·exact Nat.lt_succ_self _
 ·simp only [Array.toList_push,List.map_append,List.map_cons,List.map_nil]
  rw [List.nodup_append]
  refine ⟨h.born,sm,fun a ha b hb=>?_⟩
  simp at hb; subst hb
  obtain ⟨p,hp,rfl⟩:=List.mem_map.1 ha
  exact Nat.ne_of_lt (h.KN p hp)
theorem No {m:List (K×Value)} {j:Nat} {x:K} {v0 v:Value} (hn:(m.map (·.1)).Nodup) (hj:m[j]? =some (x,v0)):m.map (fun p=>if p.1=x then (x,v) else p)=m.set j (x,v):=by
 refine List.ext_getElem? fun i=>?_
 rw [fE,List.getElem?_set]
 by_cases e:j=i
 ·subst e
  have hl:=(List.getElem?_eq_some_iff.1 hj).1
  rw [hj]; simp [hl]
 ·rw [if_neg e]
  cases hi:m[i]? with
  |none=>rfl
  |some p=>
   simp only [Option.map_some]
   rw [if_neg]
   intro hp
   have B:(m.map (·.1))[i]? =some x:=by rw [fE,hi]; simp [hp]
   have C:(m.map (·.1))[j]? =some x:=by rw [fE,hj]; rfl
   have A:=(List.getElem?_eq_some_iff.1 B).1
   exact e (((List.getElem?_inj A hn).1 (B.trans C.symm)).symm)
theorem iX.set {es:Array MapEntry} {c:Nat} {m:List (K×Value)} (h:iX kV es c m) {x:K} {j:Nat} {v0:Value} (hj:m[j]? =some (x,v0)) (hx:m.lookup x=some v0) (v:Value):
 iX kV (es.modify j fun e=>{e with key:=kV x,val:=v}) c (eh m x v):=by
 have C:eh m x v=m.set j (x,v):=by unfold eh; rw [hx]; simpa using No h.keys hj
 have hl:=(List.getElem?_eq_some_iff.1 hj).1
 have E:=h.size
 have A:j<es.size:=by omega
 have B:(es.modify j fun e=>{e with key:=kV x,val:=v}).toList=es.toList.set j {(es[j]) with key:=kV x,val:=v}:=by
  refine List.ext_getElem? fun i=>?_
  rw [Array.getElem?_toList,Array.getElem?_modify,List.getElem?_set]
  by_cases e:j=i
  ·subst e; simp [A]
  ·simp [e]
 have D:(es.toList.set j {(es[j]) with key:=kV x,val:=v}).map (·.born)=es.toList.map (·.born):=by
  rw [List.map_set]
  refine List.ext_getElem? fun i=>?_
  rw [List.getElem?_set]
  by_cases e:j=i
  ·subst e; simp [A]
  ·rw [if_neg e]
 refine ⟨?_,?_,?_,?_⟩
 ·rw [B,C,List.map_set,List.map_set,h.list]
 ·rw [C,List.map_set]
  have:(m.map (·.1)).set j x=m.map (·.1):=by
   refine List.ext_getElem? fun i=>?_
   rw [List.getElem?_set]
   by_cases e:j=i
   ·subst e; simp [hl]; simpa using (congrArg Prod.fst ((List.getElem?_eq_some_iff.1 hj).2)).symm
   ·rw [if_neg e]
  simp only [this]
  exact h.keys
 ·intro e he
  rw [B] at he
  have hb:e.born∈(es.toList.set j {(es[j]) with key:=kV x,val:=v}).map (·.born):=List.mem_map.2 ⟨e,he,rfl⟩
  rw [D] at hb
  obtain ⟨e',he',hq⟩:=List.mem_map.1 hb
  rw [← hq]; exact h.KN e' he'
 ·rw [B,D]; exact h.born
/-- m[x] = y -/
theorem iU {t kt et:TypeId} {xm xk xv:Operand} {b:Nat} {x:K} {v:Value} {m m':List (K×Value)} {C':List av} (i:Nat) (hg:jr ops L g=true) (hm:ev L xm=some (.map (some b))) (hk:ev L xk=some (kV x)) (hv:ev L xv=some v)
 (ht:E.P.underlying t=some (.map kt et)) (hkt:uH E.P kt kV) (hC:C[i]? =some (hO kV b m)) (hm':eh m x v=m') (hC':C.set i (hO kV b m')=C') (k:RJ E ops Q rest D L C'):
 RJ E ops Q (⟨none,.mapUpdate t xm xk xv,ty,ps,af,g⟩::rest) D L C:=by
 subst hm' hC'
 intro a w A hs
 unfold rh
 rw [if_pos (dV A hg)]
 obtain ⟨es,c,he,hi⟩:=hs.holds _ (aV hC)
 have B:(getObj b).run E.P w= .ok (.map es c) w:=MapKept.run_getObj_map he
 rcases oL (P:=E.P) (w:=w) (x:=x) hkt hi with ⟨AA,F⟩|⟨j,N,AA,F,J⟩
 ·refine q9 (w':={w with heap:=w.heap.setIfInBounds b (.map (es.push {key:=kV x,val:=v,born:=c}) (c+1))}) sm ?_ ?_
  ·simp [execOp,A.ev hm,A.ev hk,A.ev hv,Instr.mapUpdate,run_underlying ht,B,iJ hkt,AA,MapKept.run_setObj_map _ he]
  ·refine k _ _ ⟨A.defers,A.size,A.at_⟩ (hs.C9 (b:=b) i hC U U (mP _) (fun _ h=>h) ⟨_,_,oV he,?_⟩)
   have:eh m x v=m++[(x,v)]:=by unfold eh; rw [F]; rfl
   rw [this]; exact hi.push F v
 ·have M:=hi.size
  have G:j<es.size:=by have:=(List.getElem?_eq_some_iff.1 F).1; omega
  have H:(es[j]).key=kV x:=by
   have:=congrArg (fun l=>l[j]?) hi.list
   simp [G,F] at this
   exact this.1
  refine q9 (w':={w with heap:=w.heap.setIfInBounds b (.map (es.modify j fun e=>{e with key:=kV x,val:=v}) c)}) sm ?_ ?_
  ·simp [execOp,A.ev hm,A.ev hk,A.ev hv,Instr.mapUpdate,run_underlying ht,B,iJ hkt,AA,MapKept.run_setObj_map _ he,Instr.keyThatStays,G,H,hkt.bits x]
  ·exact k _ _ ⟨A.defers,A.size,A.at_⟩ (hs.C9 (b:=b) i hC U U (mP _) (fun _ h=>h) ⟨_,_,oV he,hi.set F J v⟩)
theorem iX.del {es:Array MapEntry} {c:Nat} {m:List (K×Value)} (h:iX kV es c m) {x:K} {j:Nat} {v0:Value} (hj:m[j]? =some (x,v0)):iX kV (es.eraseIdxIfInBounds j) c (cp m x):=by
 have hl:=(List.getElem?_eq_some_iff.1 hj).1
 have D:=h.size
 have A:j<es.size:=by omega
 have B:(es.eraseIdxIfInBounds j).toList=es.toList.eraseIdx j:=by simp [Array.eraseIdxIfInBounds,A]
 have E:cp m x=m.eraseIdx j:=by
  have hn:=h.keys
  clear h D A B
  induction m generalizing j with
  |nil=>simp at hj
  |cons p m ih=>
   obtain ⟨k,v⟩:=p
   simp only [List.map_cons,List.nodup_cons] at hn
   cases j with
   |zero=>
    simp at hj
    obtain ⟨rfl,rfl⟩:=hj
    simp only [cp,List.eraseIdx_zero,List.tail_cons]
    rw [List.filter_cons_of_neg sm]
    refine List.filter_eq_self.2 fun p hp=>?_
    have:p.1≠k:=fun e=>hn.1 (List.mem_map.2 ⟨p,hp,e⟩)
    simpa using this
   |succ j=>
    simp only [List.getElem?_cons_succ] at hj
    have C:k≠x:=fun e=>hn.1 (List.mem_map.2 ⟨_,aV hj,e.symm⟩)
    simp only [cp,List.eraseIdx_cons_succ] at ih ⊢
    rw [List.filter_cons_of_pos (by simpa using C),ih hj (by simpa using (List.getElem?_eq_some_iff.1 hj).1) hn.2]
 have sub:(es.eraseIdxIfInBounds j).toList.Sublist es.toList:=by rw [B]; exact List.eraseIdx_sublist _ _
 refine ⟨?_,?_,fun e he=>h.KN e (sub.subset he),h.born.sublist (sub.map _)⟩
 ·rw [B,E,ChangeMaps.map_eraseIdx,ChangeMaps.map_eraseIdx,h.list]
 ·rw [E]; exact h.keys.sublist ((List.eraseIdx_sublist _ _).map _)
theorem Dn {m:List (K×Value)} {x:K} (h:m.lookup x=none):cp m x=m:=List.filter_eq_self.2 fun p hp=>by simpa using iD.1 h p hp
/-- y, ok := m[x] -/
theorem Jg {t kt et:TypeId} {xm xk:Operand} {b:Nat} {x:K} {z:Value} {m:List (K×Value)} (hg:jr ops L g=true) (hm:ev L xm=some (.map (some b))) (hk:ev L xk=some (kV x))
 (ht:E.P.underlying t=some (.map kt et)) (hkt:uH E.P kt kV) (hz:tV E.P et=some z) (hC:iq C (hO kV b m).holds):
 SD E ops ⟨dst,.lookup t xm xk true,ty,ps,af,g⟩ D L C (.tuple [(m.lookup x).getD z,.bool (m.lookup x).isSome].toArray):=
 dE hg sm fun a w A hs=>by
  obtain ⟨es,c,he,hi⟩:=hs.has hC
  have B:(getObj b).run E.P w= .ok (.map es c) w:=MapKept.run_getObj_map he
  rcases oL (P:=E.P) (w:=w) (x:=x) hkt hi with ⟨F,G⟩|⟨j,AA,F,G,H⟩
  ·simp [execOp,Instr.lookup,A.ev hm,A.ev hk,run_underlying ht,B,iJ hkt,F,G,JL hz]
  ·simp [execOp,Instr.lookup,A.ev hm,A.ev hk,run_underlying ht,B,iJ hkt,F,H]
/-- m[x] -/
theorem Hx {t kt et:TypeId} {xm xk:Operand} {b:Nat} {x:K} {z:Value} {m:List (K×Value)} (hg:jr ops L g=true) (hm:ev L xm=some (.map (some b))) (hk:ev L xk=some (kV x))
 (ht:E.P.underlying t=some (.map kt et)) (hkt:uH E.P kt kV) (hz:tV E.P et=some z) (hC:iq C (hO kV b m).holds):
 SD E ops ⟨dst,.lookup t xm xk false,ty,ps,af,g⟩ D L C ((m.lookup x).getD z):=
 dE hg sm fun a w A hs=>by
  obtain ⟨es,c,he,hi⟩:=hs.has hC
  have B:(getObj b).run E.P w= .ok (.map es c) w:=MapKept.run_getObj_map he
  rcases oL (P:=E.P) (w:=w) (x:=x) hkt hi with ⟨F,G⟩|⟨j,AA,F,G,H⟩
  ·simp [execOp,Instr.lookup,A.ev hm,A.ev hk,run_underlying ht,B,iJ hkt,F,G,JL hz]
  ·simp [execOp,Instr.lookup,A.ev hm,A.ev hk,run_underlying ht,B,iJ hkt,F,H]
/-- len(m) -/
theorem KQ {t kt et:TypeId} {xm:Operand} {b:Nat} {m:List (K×Value)} (hg:jr ops L g=true) (hm:ev L xm=some (.map (some b))) (ht:E.P.underlying t=some (.map kt et)) (hC:iq C (hO kV b m).holds):
 SD E ops ⟨dst,.call {callee:= .builtin .len,args:= #[xm],argTypes:= #[t]},ty,ps,af,g⟩ D L C (.int .i64 (m.length:Int)):=
 dE hg sm fun a w B hs=>by
  obtain ⟨es,c,he,hi⟩:=hs.has hC
  have A:(getObj b).run E.P w= .ok (.map es c) w:=MapKept.run_getObj_map he
  simp [execOp,resolve,invoke,builtin,B.ev hm,Builtin.len_,run_underlying ht,A,hi.size,goInt]
theorem kz {β:Type} {t kt et:TypeId} {xm xk:Operand} {b:Nat} {x:K} {f:β→Value} {z:β} {l:List (K×β)} (hg:jr ops L g=true) (hm:ev L xm=some (.map (some b))) (hk:ev L xk=some (kV x))
 (ht:E.P.underlying t=some (.map kt et)) (hkt:uH E.P kt kV) (hz:tV E.P et=some (f z)) (hC:iq C (hO kV b (bM f l)).holds):
 SD E ops ⟨dst,.lookup t xm xk true,ty,ps,af,g⟩ D L C (.tuple [f ((l.lookup x).getD z),.bool (l.lookup x).isSome].toArray):=by
 have:=Jg (dst:=dst) (ty:=ty) (ps:=ps) (af:=af) (D:=D) hg hm hk ht hkt hz hC
 rw [mH] at this
 have A:((l.lookup x).map f).getD (f z)=f ((l.lookup x).getD z):=by cases l.lookup x<;>rfl
 rw [A,Option.isSome_map] at this
 exact this
theorem kJ {β:Type} {t kt et:TypeId} {xm xk:Operand} {b:Nat} {x:K} {f:β→Value} {z:β} {l:List (K×β)} (hg:jr ops L g=true) (hm:ev L xm=some (.map (some b))) (hk:ev L xk=some (kV x))
 (ht:E.P.underlying t=some (.map kt et)) (hkt:uH E.P kt kV) (hz:tV E.P et=some (f z)) (hC:iq C (hO kV b (bM f l)).holds):
 SD E ops ⟨dst,.lookup t xm xk false,ty,ps,af,g⟩ D L C (f ((l.lookup x).getD z)):=by
 have:=Hx (dst:=dst) (ty:=ty) (ps:=ps) (af:=af) (D:=D) hg hm hk ht hkt hz hC
 rw [mH] at this
 have A:((l.lookup x).map f).getD (f z)=f ((l.lookup x).getD z):=by cases l.lookup x<;>rfl
 rw [A] at this
 exact this
theorem Ev {β:Type} {t kt et:TypeId} {xm:Operand} {b:Nat} {f:β→Value} {l:List (K×β)} (hg:jr ops L g=true) (hm:ev L xm=some (.map (some b))) (ht:E.P.underlying t=some (.map kt et)) (hC:iq C (hO kV b (bM f l)).holds):
 SD E ops ⟨dst,.call {callee:= .builtin .len,args:= #[xm],argTypes:= #[t]},ty,ps,af,g⟩ D L C (.int .i64 (l.length:Int)):=by
 have:=KQ (dst:=dst) (ty:=ty) (ps:=ps) (af:=af) (D:=D) hg hm ht hC
 rwa [Hl] at this
end
theorem dU {β:Type} {x:K} {y:β} {l:List (K×β)} (h:(x,y)∈l):(cp l x).length<l.length:=by
 unfold cp
 exact List.length_filter_lt_length_iff_exists.2 ⟨_,h,sm⟩
theorem jW {β:Type} {x:K} {p:K×β} {l:List (K×β)}:p∈cp l x↔p∈l∧p.1≠x:=by simp [cp]
/-- an iterator over a map: what is left; what came last -/
def zk (kV:K→Value) (r b:Nat) (m left:List (K×Value)) (cur:Option (K×Value)):av where
 fq k:=k=r∨k=b
 wf k:=k=r∨k=b
 holds w:=r≠b∧ ∃ (es:Array MapEntry) (c since:Nat) (seen:Array Nat) (st:Nat),w.heap[b]? =some (.map es c)∧iX kV es c m∧w.heap[r]? =some (.mapIter (some b) since seen st)∧(∀ e∈es.toList,e.born<since)∧since≤st∧since≤c∧
  (leftOf es seen).toList.map (fun (e:MapEntry)=>(e.key,e.val))=left.map (fun p=>(kV p.1,p.2))∧
  ∀ p,cur=some p→ ∃ (e:MapEntry) (seen0:Array Nat),e∈es.toList∧seen=seen0.push e.born∧st=c∧e.key=kV p.1∧e.val=p.2
 wr:=true
 ki _ h:=h
 whole _ _ h:=h
 lt w h k hk:=by
  obtain ⟨_,es,c,since,seen,st,h1,_,h2,_⟩:=h
  rcases hk with rfl|rfl
  ·exact er h2
  ·exact er h1
 oq w w' hk h:=by
  obtain ⟨hne,es,c,since,seen,st,h1,h2,h3,h4⟩:=h
  exact ⟨hne,es,c,since,seen,st,(hk b (.inr rfl)).trans h1,h2,(hk r (.inl rfl)).trans h3,h4⟩
theorem xV {r b:Nat} {m left:List (K×Value)} {cur:Option (K×Value)}:(∀ w,(zk kV r b m left cur).holds w→(zk kV r b m left none).holds w)∧(∀ k,(zk kV r b m left none).fq k→(zk kV r b m left cur).fq k)∧ ∀ k,(zk kV r b m left none).wf k→(zk kV r b m left cur).wf k:=
 ⟨fun w h=>by
  obtain ⟨A,es,c,since,seen,st,B,C,D,E,F,h5',G,_⟩:=h
  exact ⟨A,es,c,since,seen,st,B,C,D,E,F,h5',G,fun p hp=>by cases hp⟩,fun _ h=>h,fun _ h=>h⟩
theorem Lb {r b:Nat} {m left:List (K×Value)} {cur:Option (K×Value)}:(∀ w,(zk kV r b m left cur).holds w→(hO kV b m).holds w)∧(∀ k,(hO kV b m).fq k→(zk kV r b m left cur).fq k)∧ ∀ k,(hO kV b m).wf k→(zk kV r b m left cur).wf k:=
 ⟨fun w h=>by
  obtain ⟨C,es,c,since,seen,st,A,B,_⟩:=h
  exact ⟨es,c,A,B⟩,fun _ h=> .inr h,fun _ h=> .inr h⟩
theorem CS {es:Array MapEntry} {c:Nat} {m:List (K×Value)} (hinj: ∀ x y,kV x=kV y→x=y) (hi:iX kV es c m) {x y:MapEntry} (hx:x∈es.toList) (hy:y∈es.toList) (e:x.key=y.key):x=y:=by
 have hk:(es.toList.map (·.key))=(m.map (·.1)).map kV:=by
  have:=congrArg (List.map Prod.fst) hi.list
  simpa [Function.comp_def] using this
 have h:(es.toList.map (·.key)).Nodup:=by
  rw [hk,List.nodup_iff_pairwise_ne,List.pairwise_map]
  exact hi.keys.imp (fun B he=>B (hinj _ _ he))
 obtain ⟨i,A⟩:=List.getElem?_of_mem hx
 obtain ⟨j,hj⟩:=List.getElem?_of_mem hy
 have C:(es.toList.map (·.key))[i]? =some x.key:=by rw [fE,A]; rfl
 have D:(es.toList.map (·.key))[j]? =some x.key:=by rw [fE,hj,e]; rfl
 have E:=(List.getElem?_inj (List.getElem?_eq_some_iff.1 C).1 h).1 (C.trans D.symm)
 subst E
 exact Option.some.inj (A.symm.trans hj)
section
variable {E:fh} {ops:Array Oper} {Q:c_} {rest:List Oper} {D:List Deferred} {L:List (Nat×Value)} {C:List av}
variable {dst:Option Tmp} {d:Nat} {ty:TypeId} {ps:String} {af:Array Edge} {g:Option (Nat×Bool)}
theorem tW {t kt et:TypeId} {xm:Operand} {b:Nat} {m:List (K×Value)} (i:Nat) (hg:jr ops L g=true) (hm:ev L xm=some (.map (some b))) (ht:E.P.underlying t=some (.map kt et)) (hC:C[i]? =some (hO kV b m)) (hd:Nat.blt d E.n=true)
 (k: ∀ r,RJ E ops Q rest D ((d,.pointer (some ⟨r,0,none⟩))::L) (C.set i (zk kV r b m m none))):RJ E ops Q (⟨some d,.range t xm,ty,ps,af,g⟩::rest) D L C:=by
 intro a w A hs
 have hd':d<E.n:=by rw [← Nat.blt_eq]; exact hd
 unfold rh
 rw [if_pos (dV A hg)]
 obtain ⟨es,c,he,hi⟩:=hs.holds _ (aV hC)
 have F:b<w.heap.size:=er he
 have B:(getObj b).run E.P w= .ok (.map es c) w:=MapKept.run_getObj_map he
 refine gM (v:= .pointer (some ⟨w.heap.size,0,none⟩)) (w':=w.alloc (.mapIter (some b) c #[] c)) sm ?_ ?_
 ·simp [execOp,Instr.range,A.ev hm,run_underlying ht,B,newObj,Sem.run]
 ·refine k _ _ _ (A.put hd' _) (hs.mv i hC ⟨⟨om,es,c,c,#[],c,?_,hi,heap_alloc_new w _,hi.KN,Nat.le_refl _,Nat.le_refl _,?_,fun p hp=>by cases hp⟩,dT.alloc _ w _,fun q hq=>?_,fun q hq=>?_⟩)
  ·rw [Below.heap_alloc w _ b F]; exact he
  ·have:leftOf es #[]=es:=by unfold leftOf; exact Array.filter_eq_self.2 sm
   rw [this]; exact hi.list
  ·rcases hq with rfl|rfl
   ·exact .inr (Nat.le_refl _)
   ·exact .inl U
  ·rcases hq with rfl|rfl
   ·exact .inr (Nat.le_refl _)
   ·exact .inl U
theorem wX {es:Array MapEntry} {c:Nat} {m left:List (K×Value)} {seen:Array Nat} (hinj: ∀ x y,kV x=kV y→x=y) (hi:iX kV es c m) (h:(leftOf es seen).toList.map (fun (e:MapEntry)=>(e.key,e.val))=left.map (fun p=>(kV p.1,p.2))):(left.map (·.1)).Nodup:=by
 have B:((leftOf es seen).toList.map (·.key)).Sublist (es.toList.map (·.key)):=by
  unfold leftOf; rw [Array.toList_filter]; exact List.filter_sublist.map _
 have D:(es.toList.map (·.key))=(m.map (·.1)).map kV:=by
  have:=congrArg (List.map Prod.fst) hi.list
  simpa [Function.comp_def] using this
 have E:((leftOf es seen).toList.map (·.key))=(left.map (·.1)).map kV:=by
  have:=congrArg (List.map Prod.fst) h
  simpa [Function.comp_def] using this
 rw [D,E] at B
 have F:((m.map (·.1)).map kV).Nodup:=by
  rw [List.nodup_iff_pairwise_ne,List.pairwise_map]
  exact hi.keys.imp (fun A he=>A (hinj _ _ he))
 have C:=F.sublist B
 rw [List.nodup_iff_pairwise_ne,List.pairwise_map] at C
 rw [List.nodup_iff_pairwise_ne]
 exact C.imp (fun A he=>A (by rw [he]))
theorem I6 (hinj: ∀ x y,kV x=kV y→x=y) {xi:Operand} {r b:Nat} {m left:List (K×Value)} {cur:Option (K×Value)} (i:Nat) (hg:jr ops L g=true) (hm:ev L xi=some (.pointer (some ⟨r,0,none⟩))) (hC:C[i]? =some (zk kV r b m left cur)) (hd:Nat.blt d E.n=true)
 (k0:left=[]→RJ E ops Q rest D ((d,.tuple [.bool false].toArray)::L) C)
 (k1: ∀ x v,(x,v)∈left→(left.map (·.1)).Nodup→RJ E ops Q rest D ((d,.tuple [.bool true,kV x,v].toArray)::L) (C.set i (zk kV r b m (cp left x) (some (x,v))))):
 RJ E ops Q (⟨some d,.next xi false,ty,ps,af,g⟩::rest) D L C:=by
 intro a w G hs
 have hd':d<E.n:=by rw [← Nat.blt_eq]; exact hd
 unfold rh
 rw [if_pos (dV G hg)]
 obtain ⟨R,es,c,since,seen,st,X,hi,Y,J,V,M,A,_⟩:=hs.holds _ (aV hC)
 rcases run_next_at (P:=E.P) w ty r b since st seen es c Y X J V with ⟨Z,hr⟩|⟨e,he,N,H,hr⟩
 ·refine gM (v:= .tuple #[.bool false]) (w':=w) sm ?_ ?_
  ·simp [execOp,G.ev hm,hr]
  ·refine k0 ?_ _ _ (G.put hd' _) hs
   have:(leftOf es seen).toList=[]:=by rw [← List.length_eq_zero_iff,Array.length_toList]; exact Z
   rw [this] at A
   exact List.map_eq_nil_iff.1 A.symm
 ·have O:(e.key,e.val)∈left.map (fun p=>(kV p.1,p.2)):=by rw [← A]; exact List.mem_map.2 ⟨e,he,rfl⟩
  obtain ⟨p,hp,S⟩:=List.mem_map.1 O
  obtain ⟨x,v⟩:=p
  simp only [Prod.mk.injEq] at S
  obtain ⟨hk,hv⟩:=S
  refine gM (v:= .tuple #[.bool true,e.key,e.val]) (w':=ChangeMaps.setBlock N r (.mapIter (some b) since (seen.push e.born) c)) sm ?_ ?_
  ·simp [execOp,G.ev hm,hr]
  ·rw [← hk,← hv]
   have AA:=wX hinj hi A
   have F:e∈es.toList:=by unfold leftOf at he; rw [Array.toList_filter] at he; exact (List.mem_filter.1 he).1
   have f:c=c:=rfl
   have B:N.heap=w.heap:=by rcases H with rfl|rfl<;>rfl
   refine k1 x v hp AA _ _ (G.put hd' _) (hs.mv i hC ⟨⟨R,es,c,since,seen.push e.born,c,?_,hi,?_,J,M,M,?_,fun q hq=>?_⟩,?_,fun q hq=> .inl hq,fun q hq=> .inl hq⟩)
   ·show (N.heap.setIfInBounds r _)[b]? =_
    rw [Array.getElem?_setIfInBounds_ne R,B]; exact X
   ·show (N.heap.setIfInBounds r _)[r]? =_
    rw [Array.getElem?_setIfInBounds_self_of_lt (by rw [B]; exact er Y)]
   ·have T:leftOf es (seen.push e.born)=(leftOf es seen).filter (fun z=> !(z.born==e.born)):=by
     unfold leftOf
     rw [Array.filter_filter]
     congr 1
     funext z
     simp only [Array.contains_push,Bool.not_or]
     rw [Bool.and_comm]
    rw [T,Array.toList_filter]
    have key: ∀ (l:List MapEntry) (ll:List (K×Value)),(∀ z∈l,z∈es.toList)→l.map (fun (e:MapEntry)=>(e.key,e.val))=ll.map (fun p=>(kV p.1,p.2))→
     (l.filter (fun z=> !(z.born==e.born))).map (fun (e:MapEntry)=>(e.key,e.val))=(cp ll x).map (fun p=>(kV p.1,p.2)):=by
     intro l
     induction l with
     |nil=>intro ll _ h; cases ll with
      |nil=>rfl
      |cons p ll=>simp at h
     |cons z l ih=>
      intro ll hz h
      cases ll with
      |nil=>simp at h
      |cons p ll=>
       simp only [List.map_cons,List.cons.injEq,Prod.mk.injEq] at h
       have ih':=ih ll (fun y hy=>hz y (by simp [hy])) h.2
       have AB:(z.born=e.born)↔(p.1=x):=by
        constructor
        ·intro hb
         have:z=e:=C7 hi.born (hz z sm) F hb
         rw [this] at h
         have:=h.1.1.symm.trans hk.symm
         exact hinj _ _ this
        ·intro hx
         have W:z.key=e.key:=by rw [h.1.1,hx,hk]
         rw [CS hinj hi (hz z sm) F W]
       unfold cp at ih' ⊢
       by_cases hx:p.1=x
       ·rw [List.filter_cons_of_neg (by simp [AB.2 hx]),List.filter_cons_of_neg (by simp [hx])]; exact ih'
       ·rw [List.filter_cons_of_pos (by simpa using fun hb=>hx (AB.1 hb)),List.filter_cons_of_pos (by simpa using hx)]
        simp only [List.map_cons,h.1.1,h.1.2,ih']
    exact key _ _ (fun z hz=>by unfold leftOf at hz; rw [Array.toList_filter] at hz; exact (List.mem_filter.1 hz).1) A
   ·cases hq
    exact ⟨e,seen,F,U,U,hk.symm,hv.symm⟩
   ·refine ⟨?_,?_,?_,?_,fun q hq hn=>?_⟩
    ·rcases H with rfl|rfl<;>rfl
    ·rcases H with rfl|rfl<;>rfl
    ·rcases H with rfl|rfl<;>rfl
    ·show w.heap.size≤(N.heap.setIfInBounds r _).size
     simp [B]
    ·show (N.heap.setIfInBounds r _)[q]? =_
     rw [Array.getElem?_setIfInBounds_ne (fun e=>hn (.inl e.symm)),B]
theorem rX {xi:Operand} {r b:Nat} {m left:List (K×Value)} {x:K} {v:Value} (i:Nat) (hg:jr ops L g=true) (hm:ev L xi=some (.pointer (some ⟨r,0,none⟩))) (hC:C[i]? =some (zk kV r b m left (some (x,v)))):
 SD E ops ⟨dst,.entry xi,ty,ps,af,g⟩ D L C (.tuple [kV x,v].toArray):=
 dE hg sm fun a w F hs=>by
  obtain ⟨N,es,c,since,seen,st,J,hi,M,H,O,AA,G,B⟩:=hs.holds _ (aV hC)
  obtain ⟨e,A,he,rfl,rfl,hk,hv⟩:=B _ rfl
  have:=run_entry_at (P:=E.P) w r b since A es st e M J he hi.born
  simp [execOp,F.ev hm,this,hk,hv]
theorem rG (hinj: ∀ x y,kV x=kV y→x=y) {β:Type} {f:β→Value} {xi:Operand} {r b:Nat} {m:List (K×Value)} {ll:List (K×β)} {cur:Option (K×Value)} (i:Nat) (hg:jr ops L g=true) (hm:ev L xi=some (.pointer (some ⟨r,0,none⟩))) (hC:C[i]? =some (zk kV r b m (bM f ll) cur)) (hd:Nat.blt d E.n=true)
 (k0:ll=[]→RJ E ops Q rest D ((d,.tuple [.bool false].toArray)::L) C)
 (k1: ∀ x y,(x,y)∈ll→(ll.map (·.1)).Nodup→RJ E ops Q rest D ((d,.tuple [.bool true,kV x,f y].toArray)::L) (C.set i (zk kV r b m (bM f (cp ll x)) (some (x,f y))))):
 RJ E ops Q (⟨some d,.next xi false,ty,ps,af,g⟩::rest) D L C:=by
 refine I6 hinj i hg hm hC hd (fun h=>k0 (List.map_eq_nil_iff.1 h)) (fun x v B hn=>?_)
 obtain ⟨p,hp,A⟩:=List.mem_map.1 B
 simp only [Prod.mk.injEq] at A
 obtain ⟨rfl,rfl⟩:=A
 have:=k1 p.1 p.2 hp (by simpa [bM,Function.comp_def] using hn)
 rwa [lO] at this
end
end
end
section
structure bU where
 Start:Int
 gj:Int
 pJ:List Int
 uR:List (List (Int×aa))
 bL:Int
 cy:Int
 P8:Int
def bU.n (w:bU):Nat:=w.pJ.length
def fp (s:Int):aC:=if s<0 then ⟨0,1⟩ else ⟨1,0⟩
def dp (a b:aC):aC:=⟨a.right+b.right,a.eW+b.eW⟩
def sX (w:bU) (b:Nat):List (Int×aa):=(w.uR[b]?).getD []
def ik (w:bU) (b:Nat):List (Int×aa):=(-1,⟨w.Start,w.gj⟩)::sX w b
def bW (w:bU) (b:Nat):Int:=(w.pJ[b]?).getD 0
def ky (w:bU) (b:Nat) (p:aC×Int) (o:Int×aa):Option (aC×Int):=if max (p.2+bW w b) o.2.Lo≤min o.2.Hi w.gj then some (dp p.1 (fp o.1),max (p.2+bW w b) o.2.Lo) else none
def fwd (w:bU):Nat→List (aC×Int)
 |0=>[(⟨0,0⟩,w.Start)]
 |b+1=>(fwd w b).flatMap fun p=>(ik w b).filterMap (ky w b p)
def nK (w:bU) (b:Nat) (p:aC×Int) (o:Int×aa):Option (aC×Int):=if o.2.Lo≤min p.2 o.2.Hi then some (dp p.1 (fp o.1),min p.2 o.2.Hi-bW w b) else none
def bwd (w:bU):Nat→List (aC×Int)
 |0=>[(⟨0,0⟩,w.gj)]
 |k+1=>(⟨0,0⟩,w.gj)::(bwd w k).flatMap fun p=>(ik w (w.n-(k+1))).filterMap (nK w (w.n-(k+1)) p)
def back (w:bU) (b:Nat):List (aC×Int):=bwd w (w.n-b)
def kd (w:bU) (t:aC):Bool:=decide (t.eW≤w.bL∧w.P8-t.right≤w.cy)
theorem fQ {w:bU} {b:Nat} {q:aC×Int}:q∈fwd w (b+1)↔ ∃ p∈fwd w b,∃ o∈ik w b,ky w b p o=some q:=by
 simp only [fwd,List.mem_flatMap,List.mem_filterMap]
theorem tQ {w:bU} {b:Nat} (h:w.n≤b):back w b=[(⟨0,0⟩,w.gj)]:=by
 unfold back; rw [Nat.sub_eq_zero_of_le h]; rfl
theorem oR {w:bU} {b:Nat} (h:b<w.n) {q:aC×Int}:q∈back w b↔q=(⟨0,0⟩,w.gj)∨ ∃ p∈back w (b+1),∃ o∈ik w b,nK w b p o=some q:=by
 unfold back
 have e:w.n-b=(w.n-(b+1))+1:=by omega
 rw [e]
 simp only [bwd,ew,List.mem_flatMap,List.mem_filterMap]
 rw [show w.n-(w.n-(b+1)+1)=b by omega]
def sG (m c:List (aC×Int)):Prop:=(∀ t v,m.lookup t=some v→(t,v)∈c)∧ ∀ t y,(t,y)∈c→ ∃ v,m.lookup t=some v∧v≤y
def vd (m c:List (aC×Int)):Prop:=(∀ t v,m.lookup t=some v→(t,v)∈c)∧ ∀ t y,(t,y)∈c→ ∃ v,m.lookup t=some v∧y≤v
def u6 (m c:List (aC×Int)):Prop:= ∀ t v,m.lookup t=some v→(t,v)∈c
theorem mG {K β:Type} [DecidableEq K] {m:List (K×β)} {x t:K} {y:β}:(eh m x y).lookup t=if t=x then some y else m.lookup t:=by
 unfold eh
 by_cases hx:(m.lookup x).isSome
 ·rw [if_pos hx]
  have key: ∀ l:List (K×β),(l.lookup x).isSome∨True→(l.map (fun p=>if p.1=x then (x,y) else p)).lookup t=if t=x then (if (l.lookup x).isSome then some y else none) else l.lookup t:=by
   intro l _
   induction l with
   |nil=>simp
   |cons p l ih=>
    obtain ⟨k,v⟩:=p
    have ih:=ih (.inr trivial)
    by_cases hk:k=x
    ·subst hk
     by_cases ht:t=k
     ·subst ht; simp [List.lookup]
     ·have:(t==k)=false:=by simpa using ht
      simp only [List.map_cons,if_true,List.lookup,this,ih,if_neg ht]
    ·have hk':(x==k)=false:=by simpa using fun e=>hk e.symm
     by_cases ht:t=k
     ·subst ht; simp [List.lookup,hk]
     ·have A:(t==k)=false:=by simpa using ht
      simp only [List.map_cons,if_neg hk,List.lookup,A,ih,hk']
  rw [key m (.inr trivial)]
  by_cases ht:t=x
  ·subst ht
   rw [if_pos rfl,if_pos rfl,if_pos hx]
  ·rw [if_neg ht,if_neg ht]
 ·rw [if_neg hx]
  have hn:m.lookup x=none:=by cases h0:m.lookup x with
   |none=>rfl
   |some v=>exact absurd (by rw [h0]; rfl) hx
  by_cases ht:t=x
  ·subst ht
   rw [if_pos rfl]
   have:=iD.1 hn
   clear hn hx
   induction m with
   |nil=>simp
   |cons p m ih=>
    obtain ⟨k,v⟩:=p
    have hk:(t==k)=false:=by simpa using fun e=>this (k,v) sm e.symm
    simp only [List.cons_append,List.lookup,hk]
    exact ih (fun q hq=>this q (cW _ hq))
  ·rw [if_neg ht]
   clear hn hx
   induction m with
   |nil=>
    have:(t==x)=false:=by simpa using ht
    simp [List.lookup,this]
   |cons p m ih=>
    obtain ⟨k,v⟩:=p
    by_cases hk:t=k
    ·subst hk; simp [List.lookup]
    ·have:(t==k)=false:=by simpa using hk
     simp only [List.cons_append,List.lookup,this]
     exact ih
/-- what a map is after a try -/
def oW (m:List (aC×Int)) (q:aC×Int):List (aC×Int):=match m.lookup q.1 with
 |none=>eh m q.1 q.2
 |some v=>if q.2<v then eh m q.1 q.2 else m
def oO (m:List (aC×Int)) (q:aC×Int):List (aC×Int):=match m.lookup q.1 with
 |none=>eh m q.1 q.2
 |some v=>if v<q.2 then eh m q.1 q.2 else m
theorem wU {m:List (aC×Int)} {q:aC×Int} {t:aC}:(oW m q).lookup t=if t=q.1 then some (match m.lookup q.1 with |none=>q.2|some v=>min q.2 v) else m.lookup t:=by
 unfold oW
 cases h:m.lookup q.1 with
 |none=>simp only; rw [mG]
 |some v=>
  simp only
  split
  ·rename_i A
   rw [mG,Int.min_eq_left om]
  ·rename_i A
   split
   ·rename_i e; subst e; rw [h,Int.min_eq_right om]
   ·rfl
theorem xg {m:List (aC×Int)} {q:aC×Int} {t:aC}:(oO m q).lookup t=if t=q.1 then some (match m.lookup q.1 with |none=>q.2|some v=>max q.2 v) else m.lookup t:=by
 unfold oO
 cases h:m.lookup q.1 with
 |none=>simp only; rw [mG]
 |some v=>
  simp only
  split
  ·rename_i A
   rw [mG,Int.max_eq_left om]
  ·rename_i A
   split
   ·rename_i e; subst e; rw [h,Int.max_eq_right om]
   ·rfl
def wQ (m m':List (aC×Int)):Prop:= ∀ t v,m.lookup t=some v→ ∃ v',m'.lookup t=some v'∧v'≤v
def xb (m m':List (aC×Int)):Prop:= ∀ t v,m.lookup t=some v→ ∃ v',m'.lookup t=some v'∧v≤v'
theorem wQ.refl (m:List (aC×Int)):wQ m m:=fun t v h=>⟨v,h,om⟩
theorem xb.refl (m:List (aC×Int)):xb m m:=fun t v h=>⟨v,h,om⟩
theorem uK {m:List (aC×Int)} {q:aC×Int}:wQ m (oW m q):=fun t v h=>by
 rw [wU]
 split
 ·rename_i e; subst e; rw [h]; exact ⟨_,rfl,by simp only; omega⟩
 ·exact ⟨v,h,om⟩
theorem qz {m:List (aC×Int)} {q:aC×Int}:xb m (oO m q):=fun t v h=>by
 rw [xg]
 split
 ·rename_i e; subst e; rw [h]; exact ⟨_,rfl,by simp only; omega⟩
 ·exact ⟨v,h,om⟩
theorem He {m c:List (aC×Int)} {q:aC×Int} (h:u6 m c) (hq:q∈c):u6 (oW m q) c:=fun t v hv=>by
 rw [wU] at hv
 split at hv
 ·rename_i e
  subst e
  cases hm:m.lookup q.1 with
  |none=>simp only [hm,Option.some.injEq] at hv; subst hv; exact hq
  |some x=>
   simp only [hm,Option.some.injEq] at hv; subst hv
   rcases Int.lt_or_le q.2 x with A|A
   ·rw [Int.min_eq_left om]; exact hq
   ·rw [Int.min_eq_right om]; exact h _ _ hm
 ·exact h t v hv
theorem HU {m c:List (aC×Int)} {q:aC×Int} (h:u6 m c) (hq:q∈c):u6 (oO m q) c:=fun t v hv=>by
 rw [xg] at hv
 split at hv
 ·rename_i e
  subst e
  cases hm:m.lookup q.1 with
  |none=>simp only [hm,Option.some.injEq] at hv; subst hv; exact hq
  |some x=>
   simp only [hm,Option.some.injEq] at hv; subst hv
   rcases Int.lt_or_le q.2 x with A|A
   ·rw [Int.max_eq_right om]; exact h _ _ hm
   ·rw [Int.max_eq_left om]; exact hq
 ·exact h t v hv
theorem Gs {m:List (aC×Int)} {q:aC×Int}: ∃ v,(oW m q).lookup q.1=some v∧v≤q.2:=by
 rw [wU,if_pos rfl]
 refine ⟨_,U,?_⟩
 cases m.lookup q.1<;>simp only <;>omega
theorem Hk {m:List (aC×Int)} {q:aC×Int}: ∃ v,(oO m q).lookup q.1=some v∧q.2≤v:=by
 rw [xg,if_pos rfl]
 refine ⟨_,U,?_⟩
 cases m.lookup q.1<;>simp only <;>omega
/-- all that comes of one entry, by some options, is held -/
def iQ (w:bU) (b:Nat) (m:List (aC×Int)) (p:aC×Int) (os:List (Int×aa)):Prop:= ∀ o∈os,∀ q,ky w b p o=some q→ ∃ v,m.lookup q.1=some v∧v≤q.2
def iS (w:bU) (b:Nat) (m:List (aC×Int)) (p:aC×Int) (os:List (Int×aa)):Prop:= ∀ o∈os,∀ q,nK w b p o=some q→ ∃ v,m.lookup q.1=some v∧q.2≤v
theorem iQ.lower {w:bU} {b:Nat} {m m':List (aC×Int)} {p:aC×Int} {os:List (Int×aa)} (h:iQ w b m p os) (hl:wQ m m'):iQ w b m' p os:=fun o ho q hq=>by
 obtain ⟨v,A,C⟩:=h o ho q hq
 obtain ⟨v',B,D⟩:=hl _ _ A
 exact ⟨v',B,om⟩
theorem iS.upper {w:bU} {b:Nat} {m m':List (aC×Int)} {p:aC×Int} {os:List (Int×aa)} (h:iS w b m p os) (hl:xb m m'):iS w b m' p os:=fun o ho q hq=>by
 obtain ⟨v,A,C⟩:=h o ho q hq
 obtain ⟨v',B,D⟩:=hl _ _ A
 exact ⟨v',B,om⟩
theorem iQ.sub {w:bU} {b:Nat} {m:List (aC×Int)} {p:aC×Int} {os os':List (Int×aa)} (h:iQ w b m p os) (hs: ∀ o∈os',o∈os):iQ w b m p os':=fun o ho=>h o (hs o ho)
theorem iS.sub {w:bU} {b:Nat} {m:List (aC×Int)} {p:aC×Int} {os os':List (Int×aa)} (h:iS w b m p os) (hs: ∀ o∈os',o∈os):iS w b m p os':=fun o ho=>h o (hs o ho)
theorem iQ.add {w:bU} {b:Nat} {m m':List (aC×Int)} {p:aC×Int} {os:List (Int×aa)} {o:Int×aa} (h:iQ w b m p os) (hl:wQ m m') (hn: ∀ q,ky w b p o=some q→ ∃ v,m'.lookup q.1=some v∧v≤q.2):iQ w b m' p (os++[o]):=fun o' ho q hq=>by
 rcases List.mem_append.1 ho with ho|ho
 ·exact h.lower hl o' ho q hq
 ·simp only [bX] at ho; subst ho; exact hn q hq
theorem iS.add {w:bU} {b:Nat} {m m':List (aC×Int)} {p:aC×Int} {os:List (Int×aa)} {o:Int×aa} (h:iS w b m p os) (hl:xb m m') (hn: ∀ q,nK w b p o=some q→ ∃ v,m'.lookup q.1=some v∧q.2≤v):iS w b m' p (os++[o]):=fun o' ho q hq=>by
 rcases List.mem_append.1 ho with ho|ho
 ·exact h.upper hl o' ho q hq
 ·simp only [bX] at ho; subst ho; exact hn q hq
theorem fz {m:List (aC×Int)} (hn:(m.map (·.1)).Nodup) {t:aC} {v:Int}:(t,v)∈m↔m.lookup t=some v:=g5 hn
theorem oF {z t:aC} {x v:Int}:List.lookup t [(z,x)]=some v↔t=z∧v=x:=by
 by_cases e:t=z
 ·subst e; simp [List.lookup,eq_comm]
 ·have:(t==z)=false:=by simpa using e
  simp [List.lookup,this,e]
theorem Gn {w:bU}:sG [(⟨0,0⟩,w.Start)] (fwd w 0):=by
 refine ⟨fun t v h=>?_,fun t y h=>?_⟩
 ·obtain ⟨rfl,rfl⟩:=oF.1 h
  simp [fwd]
 ·simp only [fwd,bX,Prod.mk.injEq] at h
  obtain ⟨rfl,rfl⟩:=h
  exact ⟨w.Start,oF.2 ⟨U,U⟩,Int.le_refl _⟩
theorem Kt {w:bU} {b:Nat} {mb m:List (aC×Int)} (hn:(mb.map (·.1)).Nodup) (h:sG mb (fwd w b)) (hs:u6 m (fwd w (b+1))) (hd: ∀ p∈mb,iQ w b m p (ik w b)):sG m (fwd w (b+1)):=⟨hs,fun t y hy=>by
 obtain ⟨p,hp,o,ho,e⟩:=fQ.1 hy
 obtain ⟨v,B,E⟩:=h.2 p.1 p.2 hp
 unfold ky at e
 split at e
 ·rename_i D
  simp only [Option.some.injEq,Prod.mk.injEq] at e
  obtain ⟨v',A,C⟩:=hd (p.1,v) ((fz hn).2 B) o ho (dp p.1 (fp o.1),max (v+bW w b) o.2.Lo) (by unfold ky; rw [if_pos (by simp only; omega)])
  simp only at A C
  rw [e.1] at A
  exact ⟨v',A,om⟩
 ·cases e⟩
theorem IQ {w:bU} {b:Nat} (hb:w.n≤b):vd [(⟨0,0⟩,w.gj)] (back w b):=by
 rw [tQ hb]
 refine ⟨fun t v h=>?_,fun t y h=>?_⟩
 ·obtain ⟨rfl,rfl⟩:=oF.1 h
  simp
 ·simp only [bX,Prod.mk.injEq] at h
  obtain ⟨rfl,rfl⟩:=h
  exact ⟨w.gj,oF.2 ⟨U,U⟩,Int.le_refl _⟩
theorem JK {w:bU} {b:Nat} (hb:b<w.n) {mb m:List (aC×Int)} (hn:(mb.map (·.1)).Nodup) (h:vd mb (back w (b+1))) (hs:u6 m (back w b)) (h0: ∃ v,m.lookup ⟨0,0⟩=some v∧w.gj≤v) (hd: ∀ p∈mb,iS w b m p (ik w b)):vd m (back w b):=⟨hs,fun t y hy=>by
 rcases (oR hb).1 hy with e|⟨p,hp,o,ho,e⟩
 ·simp only [Prod.mk.injEq] at e
  obtain ⟨rfl,rfl⟩:=e
  exact h0
 obtain ⟨v,B,E⟩:=h.2 p.1 p.2 hp
 unfold nK at e
 split at e
 ·rename_i D
  simp only [Option.some.injEq,Prod.mk.injEq] at e
  obtain ⟨v',A,C⟩:=hd (p.1,v) ((fz hn).2 B) o ho (dp p.1 (fp o.1),min v o.2.Hi-bW w b) (by unfold nK; rw [if_pos (by simp only; omega)])
  simp only at A C
  rw [e.1] at A
  exact ⟨v',A,om⟩
 ·cases e⟩
end
section
def jo (w:bU) (b:Nat) (p u:aC×Int) (o:Int×aa):aa:=⟨max (p.2+bW w b) o.2.Lo,min u.2 o.2.Hi⟩
def wa (p u:aC×Int) (o:Int×aa):aC:=dp (dp p.1 u.1) (fp o.1)
def l6 (w:bU) (b:Nat) (p u:aC×Int) (o:Int×aa):Option (Int×aa):=if (jo w b p u o).Lo≤(jo w b p u o).Hi∧kd w (wa p u o)=true then some (o.1,jo w b p u o) else none
def pM (w:bU) (b:Nat) (mf mb:List (aC×Int)):List (Int×aa):=(ik w b).flatMap fun o=>mf.flatMap fun p=>mb.filterMap fun u=>l6 w b p u o
def l3 (w:bU) (b:Nat):List (Int×aa):=pM w b (fwd w b) (back w (b+1))
theorem g9 {w:bU} {b:Nat} {mf mb:List (aC×Int)} {q:Int×aa}:q∈pM w b mf mb↔ ∃ o∈ik w b,∃ p∈mf,∃ u∈mb,l6 w b p u o=some q:=by
 simp only [pM,List.mem_flatMap,List.mem_filterMap]
theorem jm {w:bU} {b:Nat} {p u:aC×Int} {o q:Int×aa}:l6 w b p u o=some q↔(jo w b p u o).Lo≤(jo w b p u o).Hi∧kd w (wa p u o)=true∧q=(o.1,jo w b p u o):=by
 unfold l6
 split
 ·rename_i h
  simp only [Option.some.injEq]
  exact ⟨fun e=>⟨h.1,h.2,e.symm⟩,fun e=>e.2.2.symm⟩
 ·rename_i h
  simp only [reduceCtorEq,false_iff]
  exact fun e=>h ⟨e.1,e.2.1⟩
theorem mB {w:bU} {b:Nat} {mf mb:List (aC×Int)} {q:Int×aa} (h:q∈pM w b mf mb):q.2.Lo≤q.2.Hi:=by
 obtain ⟨o,_,p,_,u,_,e⟩:=g9.1 h
 obtain ⟨A,_,rfl⟩:=jm.1 e
 exact A
/-- what the maps tell is what all ways tell -/
theorem ND {w:bU} {b:Nat} {mf mb:List (aC×Int)} (hf:sG mf (fwd w b)) (hb:vd mb (back w (b+1))) (nf:(mf.map (·.1)).Nodup) (nb:(mb.map (·.1)).Nodup) {q:Int×aa} (h:q∈pM w b mf mb):q∈l3 w b:=by
 obtain ⟨o,ho,p,hp,u,hu,e⟩:=g9.1 h
 exact g9.2 ⟨o,ho,p,hf.1 _ _ ((fz nf).1 hp),u,hb.1 _ _ ((fz nb).1 hu),e⟩
theorem Jl {w:bU} {b:Nat} {mf mb:List (aC×Int)} (hf:sG mf (fwd w b)) (hb:vd mb (back w (b+1))) (nf:(mf.map (·.1)).Nodup) (nb:(mb.map (·.1)).Nodup) {q:Int×aa} (h:q∈l3 w b): ∃ q'∈pM w b mf mb,q'.1=q.1∧q'.2.Lo≤q.2.Lo∧q.2.Hi≤q'.2.Hi:=by
 obtain ⟨o,ho,p,hp,u,hu,e⟩:=g9.1 h
 obtain ⟨A,B,rfl⟩:=jm.1 e
 obtain ⟨v,hv,C⟩:=hf.2 p.1 p.2 hp
 obtain ⟨y,hy,D⟩:=hb.2 u.1 u.2 hu
 simp only [jo] at A
 refine ⟨(o.1,jo w b (p.1,v) (u.1,y) o),g9.2 ⟨o,ho,(p.1,v),(fz nf).2 hv,(u.1,y),(fz nb).2 hy,jm.2 ⟨?_,B,U⟩⟩,U,?_,?_⟩
 ·simp only [jo]; omega
 ·simp only [jo]; omega
 ·simp only [jo]; omega
def l0:aa:=⟨1,0⟩
def l5 (h x:aa):aa:=if h=l0 then x else ⟨min x.Lo h.Lo,max x.Hi h.Hi⟩
def uU (l:List (Int×aa)):aa:=l.foldl (fun h q=>l5 h q.2) l0
structure od (l:List (Int×aa)) (h:aa):Prop where
 le:h.Lo≤h.Hi
 lo: ∃ x∈l,x.2.Lo=h.Lo
 hi: ∃ x∈l,x.2.Hi=h.Hi
 all: ∀ x∈l,h.Lo≤x.2.Lo∧x.2.Hi≤h.Hi
def j9 (l:List (Int×aa)) (h:aa):Prop:=(l=[]∧h=l0)∨od l h
theorem od.ne {l:List (Int×aa)} {h:aa} (hh:od l h):h≠l0:=fun e=>by
 have:=hh.le; rw [e] at this; simp [l0] at this
theorem CI:j9 [] l0:= .inl ⟨rfl,rfl⟩
theorem t_ {l:List (Int×aa)} {h:aa} {q:Int×aa} (hh:j9 l h) (hq:q.2.Lo≤q.2.Hi):j9 (l++[q]) (l5 h q.2):=by
 right
 rcases hh with ⟨rfl,rfl⟩|hh
 ·unfold l5
  rw [if_pos rfl]
  exact ⟨hq,⟨q,sm,rfl⟩,⟨q,sm,rfl⟩,fun x hx=>by simp at hx; subst hx; exact ⟨Int.le_refl _,Int.le_refl _⟩⟩
 ·unfold l5
  rw [if_neg hh.ne]
  have A:=hh.le
  obtain ⟨a,ha,ea⟩:=hh.lo
  obtain ⟨c,hc,ec⟩:=hh.hi
  refine ⟨by simp only; omega,?_,?_,fun x hx=>?_⟩
  ·rcases Int.lt_or_le q.2.Lo h.Lo with p|p
   ·exact ⟨q,sm,by simp only; omega⟩
   ·exact ⟨a,by simp [ha],by simp only; omega⟩
  ·rcases Int.lt_or_le h.Hi q.2.Hi with p|p
   ·exact ⟨q,sm,by simp only; omega⟩
   ·exact ⟨c,by simp [hc],by simp only; omega⟩
  ·rcases List.mem_append.1 hx with hx|hx
   ·have:=hh.all x hx; simp only; omega
   ·simp at hx; subst hx; simp only; omega
theorem ur {l:List (Int×aa)} (hl: ∀ q∈l,q.2.Lo≤q.2.Hi):j9 l (uU l):=by
 have key: ∀ (r d:List (Int×aa)) (h:aa),(∀ q∈r,q.2.Lo≤q.2.Hi)→j9 d h→j9 (d++r) (r.foldl (fun h q=>l5 h q.2) h):=by
  intro r
  induction r with
  |nil=>intro d h _ hd; simpa using hd
  |cons q r ih=>
   intro d h hr hd
   have:=ih (d++[q]) (l5 h q.2) (fun x hx=>hr x (cW _ hx)) (t_ hd (hr q sm))
   simpa using this
 have:=key l [] l0 hl CI
 rw [List.nil_append] at this
 exact this
def DN (a b:List (Int×aa)):Prop:= ∀ x∈b,∃ y∈a,y.2.Lo≤x.2.Lo∧x.2.Hi≤y.2.Hi
theorem MZ {a b:List (Int×aa)} {h k:aa} (ha:j9 a h) (hb:j9 b k) (hab:DN a b) (hba:DN b a):h=k:=by
 rcases ha with ⟨rfl,rfl⟩|ha
 ·rcases hb with ⟨rfl,rfl⟩|hb
  ·rfl
  ·obtain ⟨x,hx,_⟩:=hb.lo
   obtain ⟨y,hy,_⟩:=hab x hx
   cases hy
 ·rcases hb with ⟨rfl,rfl⟩|hb
  ·obtain ⟨x,hx,_⟩:=ha.lo
   obtain ⟨y,hy,_⟩:=hba x hx
   cases hy
  ·have le: ∀ {a b:List (Int×aa)} {h k:aa},od a h→od b k→DN a b→h.Lo≤k.Lo∧k.Hi≤h.Hi:=fun {a b h k} ha hb hab=>by
    obtain ⟨x,hx,ex⟩:=hb.lo
    obtain ⟨z,hz,ez⟩:=hb.hi
    obtain ⟨y,hy,ey⟩:=hab x hx
    obtain ⟨y',hy',ey'⟩:=hab z hz
    have A:=ha.all y hy
    have B:=ha.all y' hy'
    omega
   have A:=le ha hb hab
   have B:=le hb ha hba
   rw [aa.ext_iff]; omega
theorem yX {w:bU} {b:Nat} {mf mb:List (aC×Int)} {l:List (Int×aa)} {h:aa} (hf:sG mf (fwd w b)) (hb:vd mb (back w (b+1))) (nf:(mf.map (·.1)).Nodup) (nb:(mb.map (·.1)).Nodup)
 (hl: ∀ q∈l,q∈pM w b mf mb) (hl2: ∀ q∈pM w b mf mb,q∈l) (hh:j9 l h):h=uU (l3 w b):=
 MZ hh (ur fun q hq=>mB hq) (fun x hx=>by
  obtain ⟨q,hq,_,A,B⟩:=Jl hf hb nf nb hx
  exact ⟨q,hl2 q hq,A,B⟩) (fun x hx=>⟨x,ND hf hb nf nb (hl x hx),Int.le_refl _,Int.le_refl _⟩)
def jh (w:bU) (m:List (aC×Int)):Bool:=m.any fun p=>kd w p.1
theorem Bz {w:bU} {b:Nat} {m:List (aC×Int)} (h:sG m (fwd w b)) (nf:(m.map (·.1)).Nodup):jh w m=jh w (fwd w b):=by
 unfold jh
 rw [Bool.eq_iff_iff,List.any_eq_true,List.any_eq_true]
 constructor
 ·rintro ⟨p,hp,A⟩
  exact ⟨p,h.1 _ _ ((fz nf).1 hp),A⟩
 ·rintro ⟨p,hp,A⟩
  obtain ⟨v,hv,_⟩:=h.2 p.1 p.2 hp
  exact ⟨(p.1,v),(fz nf).2 hv,A⟩
def j7 (w:bU) (k:Nat):List Int:=((List.range k).filter fun i=>jh w (fwd w i)).map fun (i:Nat)=>(i:Int)
def jx (w:bU):List Int:=j7 w (w.n+1)
theorem EO {w:bU} {k:Nat} (h:jh w (fwd w k)=true):j7 w (k+1)=j7 w k++[(k:Int)]:=by simp [j7,List.range_succ,h]
theorem GW {w:bU} {k:Nat} (h:jh w (fwd w k)=false):j7 w (k+1)=j7 w k:=by simp [j7,List.range_succ,h]
theorem wY {w:bU} {k:Nat}:(j7 w k).length≤k:=by
 unfold j7
 rw [List.length_map]
 exact Nat.le_trans (List.length_filter_le _ _) sm
end
section
open Go.RowKit
theorem HC {P:Program} {t:Nat} {k:IntKind} (hu:P.underlying t=some (.int k)) (e:Bool) (n:Nat) (v:Value) (w:World):(Instr.checkKey e (n+1) t v).run P w= .ok () w:=by
 unfold Instr.checkKey
 simp only [Sem.run_bind,run_underlying hu,Result.andThen]
 cases v<;>rfl
theorem Ae {P:Program} {kt:Nat} {l:List (Nat×Nat)} (hl:fL P kt=some l) (e:Bool) (n:Nat) (cs:Array Value) (w:World)
 (hf: ∀ p∈l,(∃ v,(part p.1 cs p.2).run P w= .ok v w)∧ ∃ k,P.underlying p.1=some (.int k)):(Instr.checkKey e (n+2) kt (.agg cs)).run P w= .ok () w:=by
 unfold fL at hl
 cases hu:P.underlying kt with
 |none=>simp [hu] at hl
 |some d=>
  cases d<;>simp [hu] at hl
  rename_i fs
  obtain ⟨hn,hl⟩:=hl
  rw [show n+2=(n+1)+1 from rfl,Instr.checkKey]
  simp only [Sem.run_bind,run_underlying hu,Result.andThen_ok]
  rw [← Array.forIn_toList]
  have A: ∀ f∈fs.toList,(∃ v,(part f.type cs f.offset).run P w= .ok v w)∧ ∃ k,P.underlying f.type=some (.int k):=fun f hf'=>hf (f.type,f.offset) (by rw [← hl]; exact List.mem_map.2 ⟨f,hf',rfl⟩)
  have B: ∀ f∈fs.toList,f.name≠"_":=fun f hf'=>by
   obtain ⟨i,hi,rfl⟩:=List.getElem_of_mem hf'
   exact hn.1.1 i (by simpa using hi)
  clear hl hn hf
  generalize fs.toList=L at A B
  induction L with
  |nil=>simp
  |cons f L ih=>
   obtain ⟨⟨v,hv⟩,k,hk⟩:=A f sm
   have C:=B f sm
   simp only [List.forIn_cons,Sem.run_bind,C,ne_eq,not_false_eq_true,if_true,Result.andThen_ok,hv,HC hk,Sem.run_pure]
   exact ih (fun y hy=>A y (by simp [hy])) (fun y hy=>B y (by simp [hy]))
theorem BQ {P:Program} {kt:Nat} {K:Type} [DecidableEq K] {kV:K→Value} (hw: ∀ (k:Value) (es:List MapEntry) (w:World),(Instr.findKey kt k es).run P w=(Instr.findAsking kt k es).run P w)
 (heq: ∀ x y w,(Op.equal kt (kV x) (kV y)).run P w= .ok (decide (x=y)) w) (inj: ∀ x y,kV x=kV y→x=y) (x:K) (w:World) (es:List MapEntry) (hk: ∀ e∈es,∃ k,e.key=kV k):
 ((Instr.findKey kt (kV x) es).run P w= .ok none w∧ ∀ e∈es,e.key≠kV x)∨ ∃ j e,(Instr.findKey kt (kV x) es).run P w= .ok (some (j,e.val)) w∧es[j]? =some e∧e.key=kV x:=by
 have key: ∀ (es:List MapEntry) (i:Nat),(∀ e∈es,∃ k,e.key=kV k)→((Instr.findAsking kt (kV x) es i).run P w= .ok none w∧ ∀ e∈es,e.key≠kV x)∨ ∃ j e,(Instr.findAsking kt (kV x) es i).run P w= .ok (some (i+j,e.val)) w∧es[j]? =some e∧e.key=kV x:=by
  intro es
  induction es with
  |nil=>intro i _; exact .inl ⟨by simp [Instr.findAsking],sm⟩
  |cons e es ih=>
   intro i B
   obtain ⟨k,A⟩:=B e sm
   by_cases h:x=k
   ·refine .inr ⟨0,e,?_,U,by rw [A,h]⟩
    subst h
    simp [Instr.findAsking,A,heq]
   ·rcases ih (i+1) (fun y hy=>B y (by simp [hy])) with ⟨C,D⟩|⟨j,e',C,D,E⟩
    ·refine .inl ⟨by simp [Instr.findAsking,A,heq,h,C],fun y hy=>?_⟩
     rcases List.mem_cons.1 hy with rfl|hy
     ·rw [A]; exact fun q=>h (inj _ _ q).symm
     ·exact D y hy
    ·exact .inr ⟨j+1,e',by simp [Instr.findAsking,A,heq,h,C]; omega,by simpa using D,E⟩
 rw [hw]
 rcases key es 0 hk with h|⟨j,e,C,D,E⟩
 ·exact .inl h
 ·exact .inr ⟨j,e,by simpa using C,D,E⟩
theorem EH {P:Program} {kt:Nat} {l:List (Nat×Nat)} (hl:fL P kt=some l) (k:Value) (es:List MapEntry) (w:World):(Instr.findKey kt k es).run P w=(Instr.findAsking kt k es).run P w:=by
 refine run_findKey_eq w ?_ k es
 unfold fL at hl
 cases hu:P.underlying kt with
 |none=>simp [hu] at hl
 |some d=>cases d<;>simp [hu] at hl ⊢
theorem MA {P:Program} {kt:Nat} {K:Type} [DecidableEq K] {kV:K→Value} {l:List (Nat×Nat)} (hl:fL P kt=some l) (heq: ∀ x y w,(Op.equal kt (kV x) (kV y)).run P w= .ok (decide (x=y)) w) (inj: ∀ x y,kV x=kV y→x=y)
 (hb: ∀ x,Instr.sameBits 10000 (kV x) (kV x)=true) (hp: ∀ x w,∃ cs,kV x= .agg cs∧ ∀ p∈l,(∃ v,(part p.1 cs p.2).run P w= .ok v w)∧ ∃ k,P.underlying p.1=some (.int k)):uH P kt kV:=
 ⟨fun e x w=>by obtain ⟨cs,A,B⟩:=hp x w; rw [A]; exact Ae hl e 9998 cs w B,fun x w es=>BQ (EH hl) heq inj x w es,hb,inj⟩
end
section
open Go.RowKit
set_option linter.unusedSectionVars false
theorem dQ {P:Program} {kt:Nat} (hk:P.underlying kt=some (.int .i64)):uH P kt (Value.int .i64):=by
 refine ⟨fun e x w=>Hu hk e,fun x w es A=>?_,fun x=>by simp [Instr.sameBits],fun x y h=>by injection h⟩
 have key: ∀ (es:List MapEntry) (i:Nat),(∀ e∈es,∃ k:Int,e.key= .int .i64 k)→(Instr.findNow (.int .i64) (.int .i64 x) es i=some none∧ ∀ e∈es,e.key≠ .int .i64 x)∨ ∃ j e,Instr.findNow (.int .i64) (.int .i64 x) es i=some (some (i+j,e.val))∧es[j]? =some e∧e.key= .int .i64 x:=by
  intro es
  induction es with
  |nil=>intro i _; exact .inl ⟨rfl,sm⟩
  |cons e es ih=>
   intro i A
   obtain ⟨k,B⟩:=A e sm
   by_cases h:x=k
   ·subst h
    exact .inr ⟨0,e,by simp [Instr.findNow,Instr.sameNow,B],U,B⟩
   ·have hb:(x==k)=false:=by simpa using h
    rcases ih (i+1) (fun y hy=>A y (by simp [hy])) with ⟨C,D⟩|⟨j,e',C,D,E⟩
    ·refine .inl ⟨by simp [Instr.findNow,Instr.sameNow,B,hb,C],fun y hy=>?_⟩
     rcases List.mem_cons.1 hy with rfl|hy
     ·rw [B]; intro q; injection q with _ q; exact h q.symm
     ·exact D y hy
    ·refine .inr ⟨j+1,e',?_,by simpa using D,E⟩
     simp only [Instr.findNow,Instr.sameNow,B,hb,if_true,C]
     simp; omega
 rcases key es 0 A with ⟨C,D⟩|⟨j,e,C,D,E⟩
 ·exact .inl ⟨MapKept.run_findKey hk C,D⟩
 ·exact .inr ⟨j,e,MapKept.run_findKey hk (by simpa using C),D,E⟩
theorem St.On {S:BS} {w0 w w':World} {C:List av} {A N:av} (h:St S w0 C w) (i:Nat) (hA:C[i]? =some A) (k:dT no w w') (hN:N.holds w') (hf: ∀ b,N.fq b→w.heap.size≤b∨A.fq b∧ ¬ A.wf b∧ ¬ N.wf b):St S w0 (N::C) w':=by
 have h':=h.same k
 have G:=aV hA
 have hi:=(List.getElem?_eq_some_iff.1 hA).1
 have B:C[i]=A:=(List.getElem?_eq_some_iff.1 hA).2
 refine ⟨h'.keeps,fun X hX=>?_,List.Pairwise.cons (fun X hX b hb hb'=>?_) h'.sep,fun X hX b hb=>?_,fun X hX b hb=>?_⟩
 ·rcases List.mem_cons.1 hX with rfl|hX
  ·exact hN
  ·exact h'.holds X hX
 ·rcases hf b hb with E|⟨E,AA,H⟩
  ·have:=X.lt w (h.holds X hX) b hb'; omega
  ·refine ⟨H,?_⟩
   obtain ⟨j,hj,D⟩:=List.mem_iff_getElem.1 hX
   by_cases e:j=i
   ·subst e; rw [← D,B]; exact AA
   ·rcases Nat.lt_or_gt_of_ne e with F|F
    ·have:=List.pairwise_iff_getElem.1 h.sep j i hj hi F b (by rw [D]; exact hb') (by rw [B]; exact E)
     rw [← D]; exact this.1
    ·have:=List.pairwise_iff_getElem.1 h.sep i j hi hj F b (by rw [B]; exact E) (by rw [D]; exact hb')
     rw [← D]; exact this.2
 ·rcases List.mem_cons.1 hX with rfl|hX
  ·rcases hf b (X.ki b hb) with E|⟨_,_,H⟩
   ·exact .inl (Nat.le_trans h.keeps.size E)
   ·exact absurd hb H
  ·exact h'.own X hX b hb
 ·rcases List.mem_cons.1 hX with rfl|hX
  ·rcases hf b hb with E|⟨E,_,_⟩
   ·exact .inl (Nat.le_trans h.keeps.size E)
   ·exact h.seen A G b E
  ·exact h'.seen X hX b hb
section
variable {K:Type} [DecidableEq K] {kV:K→Value}
/-- an iterator over a map that is read alone -/
def x9 (kV:K→Value) (r b:Nat) (m left:List (K×Value)) (cur:Option (K×Value)):av where
 fq k:=k=r∨k=b
 wf k:=k=r
 holds w:=r≠b∧ ∃ (es:Array MapEntry) (c since:Nat) (seen:Array Nat) (st:Nat),w.heap[b]? =some (.map es c)∧iX kV es c m∧w.heap[r]? =some (.mapIter (some b) since seen st)∧(∀ e∈es.toList,e.born<since)∧since≤st∧since≤c∧
  (leftOf es seen).toList.map (fun (e:MapEntry)=>(e.key,e.val))=left.map (fun p=>(kV p.1,p.2))∧
  ∀ p,cur=some p→ ∃ (e:MapEntry) (seen0:Array Nat),e∈es.toList∧seen=seen0.push e.born∧st=c∧e.key=kV p.1∧e.val=p.2
 wr:=false
 ki _ h:= .inl h
 whole h:=by cases h
 lt w h k hk:=by
  obtain ⟨_,es,c,since,seen,st,h1,_,h2,_⟩:=h
  rcases hk with rfl|rfl
  ·exact er h2
  ·exact er h1
 oq w w' hk h:=by
  obtain ⟨hne,es,c,since,seen,st,h1,h2,h3,h4⟩:=h
  exact ⟨hne,es,c,since,seen,st,(hk b (.inr rfl)).trans h1,h2,(hk r (.inl rfl)).trans h3,h4⟩
theorem eJ {r b:Nat} {m left:List (K×Value)} {cur:Option (K×Value)}:(∀ w,(x9 kV r b m left cur).holds w→(x9 kV r b m left none).holds w)∧(∀ k,(x9 kV r b m left none).fq k→(x9 kV r b m left cur).fq k)∧ ∀ k,(x9 kV r b m left none).wf k→(x9 kV r b m left cur).wf k:=
 ⟨fun w h=>by
  obtain ⟨A,es,c,since,seen,st,B,C,D,E,F,h5',G,_⟩:=h
  exact ⟨A,es,c,since,seen,st,B,C,D,E,F,h5',G,fun p hp=>by cases hp⟩,fun _ h=>h,fun _ h=>h⟩
section
variable {E:fh} {ops:Array Oper} {Q:c_} {rest:List Oper} {D:List Deferred} {L:List (Nat×Value)} {C:List av}
variable {dst:Option Tmp} {d:Nat} {ty:TypeId} {ps:String} {af:Array Edge} {g:Option (Nat×Bool)}
theorem iG {t kt et:TypeId} {xm:Operand} {b:Nat} {m:List (K×Value)} {A:av} (i:Nat) (hg:jr ops L g=true) (hm:ev L xm=some (.map (some b))) (ht:E.P.underlying t=some (.map kt et)) (hA:C[i]? =some A) (hAf:A.fq b∧ ¬ A.wf b) (hC:iq C (hO kV b m).holds) (hd:Nat.blt d E.n=true)
 (k: ∀ r,RJ E ops Q rest D ((d,.pointer (some ⟨r,0,none⟩))::L) (x9 kV r b m m none::C)):RJ E ops Q (⟨some d,.range t xm,ty,ps,af,g⟩::rest) D L C:=by
 intro a w B hs
 have hd':d<E.n:=by rw [← Nat.blt_eq]; exact hd
 unfold rh
 rw [if_pos (dV B hg)]
 obtain ⟨es,c,he,hi⟩:=hs.has hC
 have G:b<w.heap.size:=er he
 have F:(getObj b).run E.P w= .ok (.map es c) w:=MapKept.run_getObj_map he
 refine gM (v:= .pointer (some ⟨w.heap.size,0,none⟩)) (w':=w.alloc (.mapIter (some b) c #[] c)) sm ?_ ?_
 ·simp [execOp,Instr.range,B.ev hm,run_underlying ht,F,newObj,Sem.run]
 ·refine k _ _ _ (B.put hd' _) (hs.On i hA (dT.alloc no w _) ⟨om,es,c,c,#[],c,?_,hi,heap_alloc_new w _,hi.KN,Nat.le_refl _,Nat.le_refl _,?_,fun p hp=>by cases hp⟩ (fun q hq=>?_))
  ·rw [Below.heap_alloc w _ b G]; exact he
  ·have:leftOf es #[]=es:=by unfold leftOf; exact Array.filter_eq_self.2 sm
   rw [this]; exact hi.list
  ·rcases hq with rfl|rfl
   ·exact .inl (Nat.le_refl _)
   ·refine .inr ⟨hAf.1,hAf.2,fun (e:q=w.heap.size)=>by omega⟩
theorem G7 (hinj: ∀ x y,kV x=kV y→x=y) {xi:Operand} {r b:Nat} {m left:List (K×Value)} {cur:Option (K×Value)} (i:Nat) (hg:jr ops L g=true) (hm:ev L xi=some (.pointer (some ⟨r,0,none⟩))) (hC:C[i]? =some (x9 kV r b m left cur)) (hd:Nat.blt d E.n=true)
 (k0:left=[]→RJ E ops Q rest D ((d,.tuple [.bool false].toArray)::L) C)
 (k1: ∀ x v,(x,v)∈left→(left.map (·.1)).Nodup→RJ E ops Q rest D ((d,.tuple [.bool true,kV x,v].toArray)::L) (C.set i (x9 kV r b m (cp left x) (some (x,v))))):
 RJ E ops Q (⟨some d,.next xi false,ty,ps,af,g⟩::rest) D L C:=by
 intro a w G hs
 have hd':d<E.n:=by rw [← Nat.blt_eq]; exact hd
 unfold rh
 rw [if_pos (dV G hg)]
 obtain ⟨R,es,c,since,seen,st,X,hi,Y,J,V,M,A,_⟩:=hs.holds _ (aV hC)
 rcases run_next_at (P:=E.P) w ty r b since st seen es c Y X J V with ⟨Z,hr⟩|⟨e,he,N,H,hr⟩
 ·refine gM (v:= .tuple #[.bool false]) (w':=w) sm ?_ ?_
  ·simp [execOp,G.ev hm,hr]
  ·refine k0 ?_ _ _ (G.put hd' _) hs
   have:(leftOf es seen).toList=[]:=by rw [← List.length_eq_zero_iff,Array.length_toList]; exact Z
   rw [this] at A
   exact List.map_eq_nil_iff.1 A.symm
 ·have O:(e.key,e.val)∈left.map (fun p=>(kV p.1,p.2)):=by rw [← A]; exact List.mem_map.2 ⟨e,he,rfl⟩
  obtain ⟨p,hp,S⟩:=List.mem_map.1 O
  obtain ⟨x,v⟩:=p
  simp only [Prod.mk.injEq] at S
  obtain ⟨hk,hv⟩:=S
  refine gM (v:= .tuple #[.bool true,e.key,e.val]) (w':=ChangeMaps.setBlock N r (.mapIter (some b) since (seen.push e.born) c)) sm ?_ ?_
  ·simp [execOp,G.ev hm,hr]
  ·rw [← hk,← hv]
   have AA:=wX hinj hi A
   have F:e∈es.toList:=by unfold leftOf at he; rw [Array.toList_filter] at he; exact (List.mem_filter.1 he).1
   have f:c=c:=rfl
   have B:N.heap=w.heap:=by rcases H with rfl|rfl<;>rfl
   refine k1 x v hp AA _ _ (G.put hd' _) (hs.mv i hC ⟨⟨R,es,c,since,seen.push e.born,c,?_,hi,?_,J,M,M,?_,fun q hq=>?_⟩,?_,fun q hq=> .inl hq,fun q hq=> .inl hq⟩)
   ·show (N.heap.setIfInBounds r _)[b]? =_
    rw [Array.getElem?_setIfInBounds_ne R,B]; exact X
   ·show (N.heap.setIfInBounds r _)[r]? =_
    rw [Array.getElem?_setIfInBounds_self_of_lt (by rw [B]; exact er Y)]
   ·have T:leftOf es (seen.push e.born)=(leftOf es seen).filter (fun z=> !(z.born==e.born)):=by
     unfold leftOf
     rw [Array.filter_filter]
     congr 1
     funext z
     simp only [Array.contains_push,Bool.not_or]
     rw [Bool.and_comm]
    rw [T,Array.toList_filter]
    have key: ∀ (l:List MapEntry) (ll:List (K×Value)),(∀ z∈l,z∈es.toList)→l.map (fun (e:MapEntry)=>(e.key,e.val))=ll.map (fun p=>(kV p.1,p.2))→
     (l.filter (fun z=> !(z.born==e.born))).map (fun (e:MapEntry)=>(e.key,e.val))=(cp ll x).map (fun p=>(kV p.1,p.2)):=by
     intro l
     induction l with
     |nil=>intro ll _ h; cases ll with
      |nil=>rfl
      |cons p ll=>simp at h
     |cons z l ih=>
      intro ll hz h
      cases ll with
      |nil=>simp at h
      |cons p ll=>
       simp only [List.map_cons,List.cons.injEq,Prod.mk.injEq] at h
       have ih':=ih ll (fun y hy=>hz y (by simp [hy])) h.2
       have AB:(z.born=e.born)↔(p.1=x):=by
        constructor
        ·intro hb
         have:z=e:=C7 hi.born (hz z sm) F hb
         rw [this] at h
         have:=h.1.1.symm.trans hk.symm
         exact hinj _ _ this
        ·intro hx
         have W:z.key=e.key:=by rw [h.1.1,hx,hk]
         rw [CS hinj hi (hz z sm) F W]
       unfold cp at ih' ⊢
       by_cases hx:p.1=x
       ·rw [List.filter_cons_of_neg (by simp [AB.2 hx]),List.filter_cons_of_neg (by simp [hx])]; exact ih'
       ·rw [List.filter_cons_of_pos (by simpa using fun hb=>hx (AB.1 hb)),List.filter_cons_of_pos (by simpa using hx)]
        simp only [List.map_cons,h.1.1,h.1.2,ih']
    exact key _ _ (fun z hz=>by unfold leftOf at hz; rw [Array.toList_filter] at hz; exact (List.mem_filter.1 hz).1) A
   ·cases hq
    exact ⟨e,seen,F,U,U,hk.symm,hv.symm⟩
   ·refine ⟨?_,?_,?_,?_,fun q hq hn=>?_⟩
    ·rcases H with rfl|rfl<;>rfl
    ·rcases H with rfl|rfl<;>rfl
    ·rcases H with rfl|rfl<;>rfl
    ·show w.heap.size≤(N.heap.setIfInBounds r _).size
     simp [B]
    ·show (N.heap.setIfInBounds r _)[q]? =_
     rw [Array.getElem?_setIfInBounds_ne (fun e=>hn e.symm),B]
theorem g7 {xi:Operand} {r b:Nat} {m left:List (K×Value)} {x:K} {v:Value} (i:Nat) (hg:jr ops L g=true) (hm:ev L xi=some (.pointer (some ⟨r,0,none⟩))) (hC:C[i]? =some (x9 kV r b m left (some (x,v)))):
 SD E ops ⟨dst,.entry xi,ty,ps,af,g⟩ D L C (.tuple [kV x,v].toArray):=
 dE hg sm fun a w F hs=>by
  obtain ⟨N,es,c,since,seen,st,J,hi,M,H,O,AA,G,B⟩:=hs.holds _ (aV hC)
  obtain ⟨e,A,he,rfl,rfl,hk,hv⟩:=B _ rfl
  have:=run_entry_at (P:=E.P) w r b since A es st e M J he hi.born
  simp [execOp,F.ev hm,this,hk,hv]
theorem g6 (hinj: ∀ x y,kV x=kV y→x=y) {β:Type} {f:β→Value} {xi:Operand} {r b:Nat} {m:List (K×Value)} {ll:List (K×β)} {cur:Option (K×Value)} (i:Nat) (hg:jr ops L g=true) (hm:ev L xi=some (.pointer (some ⟨r,0,none⟩))) (hC:C[i]? =some (x9 kV r b m (bM f ll) cur)) (hd:Nat.blt d E.n=true)
 (k0:ll=[]→RJ E ops Q rest D ((d,.tuple [.bool false].toArray)::L) C)
 (k1: ∀ x y,(x,y)∈ll→(ll.map (·.1)).Nodup→RJ E ops Q rest D ((d,.tuple [.bool true,kV x,f y].toArray)::L) (C.set i (x9 kV r b m (bM f (cp ll x)) (some (x,f y))))):
 RJ E ops Q (⟨some d,.next xi false,ty,ps,af,g⟩::rest) D L C:=by
 refine G7 hinj i hg hm hC hd (fun h=>k0 (List.map_eq_nil_iff.1 h)) (fun x v B hn=>?_)
 obtain ⟨p,hp,A⟩:=List.mem_map.1 B
 simp only [Prod.mk.injEq] at A
 obtain ⟨rfl,rfl⟩:=A
 have:=k1 p.1 p.2 hp (by simpa [bM,Function.comp_def] using hn)
 rwa [lO] at this
theorem zb {t kt et:TypeId} {xm xk xv:Operand} {b:Nat} {x:K} {v:Value} {m m':List (K×Value)} {C':List av} (i:Nat) (hg:jr ops L g=true) (hm:ev L xm=some (.map (some b))) (hk:ev L xk=some (kV x)) (hv:ev L xv=some v)
 (ht:E.P.underlying t=some (.map kt et)) (hkt:uH E.P kt kV) (hC:C[i]? =some (hO kV b m)) (hm':eh m x v=m') (hC':C.set i (hO kV b m')=C') (k:RJ E ops Q rest D L C'):
 RJ E ops Q (⟨none,.insert t xm xk xv,ty,ps,af,g⟩::rest) D L C:=by
 subst hm' hC'
 intro a w A hs
 unfold rh
 rw [if_pos (dV A hg)]
 obtain ⟨es,c,he,hi⟩:=hs.holds _ (aV hC)
 have B:(getObj b).run E.P w= .ok (.map es c) w:=MapKept.run_getObj_map he
 rcases oL (P:=E.P) (w:=w) (x:=x) hkt hi with ⟨AA,F⟩|⟨j,N,AA,F,J⟩
 ·refine q9 (w':={w with heap:=w.heap.setIfInBounds b (.map (es.push {key:=kV x,val:=v,born:=c}) (c+1))}) sm ?_ ?_
  ·simp [execOp,A.ev hm,A.ev hk,A.ev hv,Instr.mapUpdate,run_underlying ht,B,iJ hkt,AA,MapKept.run_setObj_map _ he]
  ·refine k _ _ ⟨A.defers,A.size,A.at_⟩ (hs.C9 (b:=b) i hC U U (mP _) (fun _ h=>h) ⟨_,_,oV he,?_⟩)
   have:eh m x v=m++[(x,v)]:=by unfold eh; rw [F]; rfl
   rw [this]; exact hi.push F v
 ·have M:=hi.size
  have G:j<es.size:=by have:=(List.getElem?_eq_some_iff.1 F).1; omega
  have H:(es[j]).key=kV x:=by
   have:=congrArg (fun l=>l[j]?) hi.list
   simp [G,F] at this
   exact this.1
  refine q9 (w':={w with heap:=w.heap.setIfInBounds b (.map (es.modify j fun e=>{e with key:=kV x,val:=v}) c)}) sm ?_ ?_
  ·simp [execOp,A.ev hm,A.ev hk,A.ev hv,Instr.mapUpdate,run_underlying ht,B,iJ hkt,AA,MapKept.run_setObj_map _ he,Instr.keyThatStays,G,H,hkt.bits x]
  ·exact k _ _ ⟨A.defers,A.size,A.at_⟩ (hs.C9 (b:=b) i hC U U (mP _) (fun _ h=>h) ⟨_,_,oV he,hi.set F J v⟩)
end
end
end
section
open Go.RowKit
def Uc {σ:Type} (w0:World) (P:Program) (l:Nat) (step:σ→List Value→σ→Prop) (J:σ→av→Prop) (Z:av→Prop):Prop:=
 ∀ k x k' A w,step k x k'→J k A→w0.heap.size≤w.heap.size→A.holds w→YieldAt (Fw none) 0 P l x.toArray w fun e w'=>
  (e= .returned (.bool true)∧ ∃ B,J k' B∧Mv A B w w')∨(e= .returned (.bool false)∧ ∃ B,Z B∧Mv A B w w')
def JR {σ:Type} (J:σ→av→Prop) (Z:av→Prop) (fin:σ→Prop) (A0:av) (w0:World) (e:Ending) (w':World):Prop:=
 ∃ v,e= .returned v∧((∃ s B,fin s∧J s B∧Mv A0 B w0 w')∨ ∃ B,Z B∧Mv A0 B w0 w')
structure DD {σ:Type} (P:Program) (f:FuncId) (fi ca:List Value) (Cp:List av) (s0:σ) (step:σ→List Value→σ→Prop) (fin:σ→Prop):Prop where
 go:rJ P f=true
 run: ∀ (l:Nat) (J:σ→av→Prop) (Z:av→Prop) (A0:av) (w:World),Uc w P l step J Z→J s0 A0→A0.holds w→(∀ A∈Cp,A.holds w)→(∀ A∈Cp,Dc A0 A.ro)→
  Calls P f (fi++Value.func (.yield l) #[] #[]::ca).toArray w (JR J Z fin A0 w)
theorem Kz {σ:Type} {J:σ→av→Prop} {Z:av→Prop} {n:σ} {fin:σ→Prop} {A0 B:av} {w0 w:World} {C:List av} {v:Value} (i:Nat) (hC:C[i]? =some B) (hfin:fin n) (hJ:J n B) (hF:Fo A0 w0 B) (hs:St ⟨A0.wf,fun _=>True⟩ w0 C w):JR J Z fin A0 w0 (.returned v) w:=
 ⟨v,rfl,.inl ⟨n,B,hfin,hJ,hs.holds B (aV hC),hs.keeps,fun b hb=>(hs.own B (aV hC) b hb).symm,hF⟩⟩
theorem rn {σ:Type} {J:σ→av→Prop} {Z:av→Prop} {fin:σ→Prop} {A0 B:av} {w0 w:World} {C:List av} {v:Value} (i:Nat) (hC:C[i]? =some B) (hJ:Z B) (hF:Fo A0 w0 B) (hs:St ⟨A0.wf,fun _=>True⟩ w0 C w):JR J Z fin A0 w0 (.returned v) w:=
 ⟨v,rfl,.inr ⟨B,hJ,hs.holds B (aV hC),hs.keeps,fun b hb=>(hs.own B (aV hC) b hb).symm,hF⟩⟩
theorem sW {σ:Type} {P:Program} {f:FuncId} {fn:Func} {c:Code} {fi ca:List Value} {Cp:List av} {s0:σ} {step:σ→List Value→σ→Prop} {fin:σ→Prop} (hgo:rJ P f=true) (hf:P.funcs[f]? =some fn) (hb:fn.body=some c) (hn:Nat.ble (fi.length+ca.length+1) fn.ntmps=true)
 (h: ∀ (l:Nat) (J:σ→av→Prop) (Z:av→Prop) (A0:av) (w0:World) (Q:c_),Uc w0 P l step J Z→J s0 A0→Fo A0 w0 A0→
  (∀ D L C,LJ ⟨P,none,fn.ntmps,⟨A0.wf,fun _=>True⟩,w0⟩ fn (JR J Z fin A0 w0) D L C→KJ ⟨P,none,fn.ntmps,⟨A0.wf,fun _=>True⟩,w0⟩ (Q .ret) D L C)→
  (∀ D L C,LJ ⟨P,none,fn.ntmps,⟨A0.wf,fun _=>True⟩,w0⟩ fn (JR J Z fin A0 w0) D L C→KJ ⟨P,none,fn.ntmps,⟨A0.wf,fun _=>True⟩,w0⟩ (Q .normal) D L C)→
  WJ ⟨P,none,fn.ntmps,⟨A0.wf,fun _=>True⟩,w0⟩ c Q [] (PJ (fi++Value.func (.yield l) #[] #[]::ca)) (A0::Cp.map av.ro)):DD P f fi ca Cp s0 step fin:=by
 refine ⟨hgo,fun l J Z A0 w hY hJ hA F E=>?_⟩
 refine Ep hf hb (by simpa [Nat.add_assoc] using hn) (h l J Z A0 w · hY hJ (fun b hb=> .inl hb)) ?_
 have G:=tx F
 refine ⟨dT.refl _ _,fun A hA'=>?_,List.Pairwise.cons (fun B hB=>?_) G.sep,fun A hA' b hb=>?_,fun _ _ _ _=> .inr trivial⟩
 ·rcases List.mem_cons.1 hA' with rfl|hA'
  ·exact hA
  ·exact G.holds A hA'
 ·obtain ⟨B',hB',rfl⟩:=List.mem_map.1 hB
  exact E B' hB'
 ·rcases List.mem_cons.1 hA' with rfl|hA'
  ·exact .inr hb
  ·obtain ⟨B',hB',rfl⟩:=List.mem_map.1 hA'
   exact hb.elim
section
variable {E:fh} {ops:Array Oper} {Q:c_} {rest:List Oper} {D:List Deferred} {L:List (Nat×Value)} {C:List av}
variable {d:Nat} {ty:TypeId} {ps:String} {af:Array Edge} {g:Option (Nat×Bool)}
/-- a call of yield -/
theorem ko {σ:Type} {fop:Operand} {xs:Array Operand} {ts:Array TypeId} {l:Nat} {k k':σ} {vs:List Value} {step:σ→List Value→σ→Prop} {J:σ→av→Prop} {Z:av→Prop} {A0 A:av} {w1:World} (i:Nat) (hw1:w1.heap.size≤E.w0.heap.size) (hY:Uc w1 E.P l step J Z) (hJ:J k A) (hF:Fo A0 w1 A) (hg:jr ops L g=true) (hf:ev L fop=some (.func (.yield l) #[] #[]))
 (hx:evs L xs.toList=some vs) (hk:step k vs k') (hC:C[i]? =some A) (hd:Nat.blt d E.n=true)
 (k1: ∀ B,J k' B→Fo A0 w1 B→RJ E ops Q rest D ((d,.bool true)::L) (C.set i B))
 (k2: ∀ B,Z B→Fo A0 w1 B→RJ E ops Q rest D ((d,.bool false)::L) (C.set i B)):
 RJ E ops Q (⟨some d,.call {callee:= .value fop,args:=xs,argTypes:=ts},ty,ps,af,g⟩::rest) D L C:=by
 intro a w F hs
 have hd':d<E.n:=by rw [← Nat.blt_eq]; exact hd
 unfold rh
 rw [if_pos (dV F hg)]
 have K:xs.map a.eval=vs.toArray:=by
  have:=F.evs hx
  apply Array.ext'
  simp [this]
 obtain ⟨fn,tmps,assign,body,hy,hr⟩:=hY k vs k' A w hk hJ (Nat.le_trans hw1 hs.keeps.size) (hs.holds A (aV hC))
 have H:(execOp a.eval ⟨some d,.call {callee:= .value fop,args:=xs,argTypes:=ts},ty,ps,af,g⟩).run E.P w= .ok (.round l fn tmps assign body) w:=by
  simp [execOp,resolve,F.ev hf,Deferred.ofValue,invoke,K,hy]
 refine ⟨fun _ _=>trivial,?_⟩
 rw [Oper.semAt_eq _ _ _ sm,H]
 refine ⟨fun h=>by simp at h,?_⟩
 have G: ∀ (B:av) (w':World),Mv A B w w'→Fo A0 w1 B:=fun B w' m b hb=>by
  rcases m.fq b hb with AA|AA
  ·exact hF b AA
  ·exact .inr (Nat.le_trans hw1 (Nat.le_trans hs.keeps.size AA))
 have hr':RoundIn (Fw E.r) 0 E.P l fn tmps assign body w _:=hr
 refine hr'.mono fun e w' he=>?_
 rcases he with ⟨rfl,B,hB,m⟩|⟨rfl,B,hB,m⟩
 ·exact k1 B hB (G B w' m) _ _ (F.put hd' _) (hs.mv i hC m)
 ·exact k2 B hB (G B w' m) _ _ (F.put hd' _) (hs.mv i hC m)
end
theorem m0 {σ:Type} {E:fh} {Q:c_} {D:List Deferred} {L L0:List (Nat×Value)} {C F:List av} {g:Operand} {ps:Array Tmp} {assign body:Code} {f:FuncId} {fi ca:List Value} {Cp:List av} {s0:σ} {step:σ→List Value→σ→Prop} {fin_:σ→Prop} {ι κ:Type}
 (inv:σ→ι→Prop) (Ci:σ→ι→List av) (invx:Code→κ→Prop) (Cx:Code→κ→List av) (isJ isF:List Nat) (y0:ι)
 (hr:E.r=none) (hg:ev L g=some (.func (.func f) fi.toArray ca.toArray)) (hs:DD E.P f fi ca Cp s0 step fin_)
 (hnd:decide (isJ++isF).Nodup=true) (hJ:j_ C isJ=Ci s0 y0) (hF:j_ C isF=F) (h0:inv s0 y0) (hCp: ∀ A∈Cp,∃ B∈F,Mg B A)
 (hps: ∀ k x k',step k x k'→x.length=ps.size) (hpn:ps.toList.all (fun t=>Nat.blt t E.n)=true) (hL:dy L L0)
 (round: ∀ (k:σ) (x:List Value) (k':σ) (y:ι) (l:Nat) (ra rb:Loop) (S:BS) (w0:World) (K:Act→World→Prop) (Qr:c_),E.w0.heap.size≤w0.heap.size→step k x k'→inv k y→
  (∀ L' C',WJ ⟨E.P,some l,E.n,S,w0⟩ body Qr [] L' (k9 l (.loop rb)::C')→KJ ⟨E.P,some l,E.n,S,w0⟩ K [] L' (k9 l (.loop ra)::C'))→
  (∀ y' L' C',inv k' y'→(∀ w,St S w0 C' w→St S w0 (k9 l (.loop rb)::Ci k' y') w)→KJ ⟨E.P,some l,E.n,S,w0⟩ (Qr .normal) [] L' C')→
  (∀ id z L' C',invx (.exit id) z→(∀ w,St S w0 C' w→St S w0 (k9 l (.loop rb)::Cx (.exit id) z) w)→KJ ⟨E.P,some l,E.n,S,w0⟩ (Qr (.exit id)) [] L' C')→
  (∀ z L' C',invx .ret z→(∀ w,St S w0 C' w→St S w0 (k9 l (.loop rb)::Cx .ret z) w)→KJ ⟨E.P,some l,E.n,S,w0⟩ (Qr .ret) [] L' C')→
  WJ ⟨E.P,some l,E.n,S,w0⟩ assign (Exit.then K (fun _ _ _=>False)) [] (Cn ps.toList x L0) (k9 l (.loop ra)::Ci k y))
 (fin: ∀ r s y,fin_ s→inv s y→KJ E (Q .normal) (lh r::D) L0 (k9 r (.deferred (some []))::(F++Ci s y)))
 (finx: ∀ r id z,invx (.exit id) z→KJ E (Q (.exit id)) (lh r::D) L0 (k9 r (.deferred (some []))::(F++Cx (.exit id) z)))
 (finr: ∀ r z,invx .ret z→KJ E (Q .ret) (lh r::D) L0 (k9 r (.deferred (some []))::(F++Cx .ret z))):WJ E (.rangeFunc g ps assign body) Q D L C:=by
 intro a w hf q
 refine wpIn_rangeFunc fun fn _=>?_
 show ∃ l lh w₁ d w₁' f args w₂,(Instr.enterLoop fn a.tmps ps assign body E.r).run E.P w= .ok (l,lh) w₁∧_
 rw [hr]
 obtain ⟨rec,G⟩: ∃ rec:LoopState→Option Code→Loop,rec=fun st pe=>{state:=st,pending:=pe,fn,tmps:=a.tmps,params:=ps,assign,body,defers:=w.heap.size}:=⟨_,rfl⟩
 obtain ⟨W1,R⟩: ∃ W1,(w.alloc (.deferred (some []))).alloc (.loop (rec .ready none))=W1:=⟨_,rfl⟩
 have AE:a.eval g= .func (.func f) fi.toArray ca.toArray:=hf.ev hg
 have p:(Instr.enterLoop fn a.tmps ps assign body none).run E.P w= .ok (w.heap.size+1,[lh w.heap.size]) W1:=by
  rw [← R,G]; exact run_enterLoop_outer _ _ _ _ _
 -- the state with the record and the block
 have u:St E.S E.w0 ((k9 (w.heap.size+1) (.loop (rec .ready none))::Ci s0 y0)++(k9 w.heap.size (.deferred (some []))::F)) W1:=by
  have X:St E.S E.w0 (Ci s0 y0++F) w:=St.j_ (isJ++isF) hnd (by have X:=hJ; have j:=hF; unfold Go.Proofs.YtdllkkdchkhimaaGreatDoor.j_ at X j ⊢; rw [List.filterMap_append,X,j]) q
  have hn:Mm w W1 [k9 (w.heap.size+1) (.loop (rec .ready none)),k9 w.heap.size (.deferred (some []))]:=by
   refine ⟨fun A hA=>?_,fun A hA b hb=>?_,?_⟩
   ·rcases List.mem_cons.1 hA with rfl|hA
    ·show W1.heap[w.heap.size+1]? =_
     rw [← R]; have:=World.alloc_heap_new (w.alloc (.deferred (some []))) (.loop (rec .ready none)); rwa [World.size_alloc] at this
    ·simp only [bX] at hA; subst hA
     show W1.heap[w.heap.size]? =_
     rw [← R]; exact (Below.heap_alloc _ _ _ sm).trans (World.alloc_heap_new w _)
   ·rcases List.mem_cons.1 hA with rfl|hA
    ·have:b=w.heap.size+1:=hb
     omega
    ·simp only [bX] at hA; subst hA
     have:b=w.heap.size:=hb
     omega
   ·refine List.Pairwise.cons (fun B hB b X j=>?_) (List.pairwise_singleton _ _)
    simp only [bX] at hB; subst hB
    have V:b=w.heap.size+1:=X
    have O:b=w.heap.size:=j
    omega
  have hk:dT no w W1:=by rw [← R]; exact (dT.alloc no w _).trans (dT.alloc no _ _)
  have j:=X.grow hk hn
  refine j.perm ?_
  simp only [List.cons_append,List.nil_append]
  exact List.Perm.cons _ (List.perm_middle.symm)
 have Y:=u.tied
 obtain ⟨H,AJ⟩:=List.pairwise_cons.1 Y.sep
 have AC:=Y.holds _ (bZ ..)
 let J:σ→av→Prop:=fun k A=> ∃ y,inv k y∧A=bp (k9 (w.heap.size+1) (.loop (rec .ready none))::Ci k y)
 let Z:av→Prop:=fun A=> ∃ c z,(c= .ret∨ ∃ id,c= .exit id)∧invx c z∧A=bp (k9 (w.heap.size+1) (.loop (rec .done (some c)))::Cx c z)
 refine ⟨w.heap.size+1,[lh w.heap.size],W1,{target:= .fn (.func f) ca.toArray,args:=fi.toArray++ #[.func (.yield (w.heap.size+1)) #[] #[]]},W1,f,
  (fi++Value.func (.yield (w.heap.size+1)) #[] #[]::ca).toArray,W1,p,?_,fun _ _=>trivial,?_,fun h=>by simp at h,?_⟩
 ·simp only [resolve,AE]
  simp [Deferred.ofValue,Act.eval]
 ·have:fi.toArray++ #[Value.func (.yield (w.heap.size+1)) #[] #[]]++ca.toArray=(fi++Value.func (.yield (w.heap.size+1)) #[] #[]::ca).toArray:=by simp
  simp [invoke,pf hs.go]
 ·refine (p6 E.r (hs.run (w.heap.size+1) J Z _ W1 ?_ ⟨y0,h0,U⟩ AC ?_ ?_)).mono ?_
  ·-- a round
   rintro k x k' A W hx ⟨y,hy,rfl⟩ AD hA
   have hl:W.heap[w.heap.size+1]? =some (.loop (rec .ready none)):=hA.1 _ (bZ ..)
   have AA:=run_yield (P:=E.P) (args:=x.toArray) hl (by rw [G]; simpa using hps k x k' hx)
   rw [G] at AA
   refine ⟨fn,_,assign,body,AA,roundIn_of_wpIn trivial ?_⟩
   let A:av:=bp (k9 (w.heap.size+1) (.loop (rec .ready none))::Ci k y)
   have AF:Fr E.n [] (Cn ps.toList x L0) {tmps:=(ps.zip x.toArray).foldl (fun tmps (t,a)=>tmps.setIfInBounds t a) a.tmps,defers:=[]}:=by
    have X:=KO ps.toList x L0 a.tmps (fun t ht=>by have:=List.all_eq_true.1 hpn t ht; rwa [Nat.blt_eq] at this) ⟨rfl,hf.size,fun t v hv=>hf.at_ t v (hL t v hv)⟩
    rw [← Array.foldl_toList]
    simpa using X
   have o: ∀ (c:Option Code) (b:Bool),({rec .busy none with state:=if b then .ready else .done,pending:=c}:Loop)=rec (if b then .ready else .done) c:=fun c b=>by rw [G]
   have T: ∀ (c:Option Code) (N:World) (C':List av) (S:BS),St S W (k9 (w.heap.size+1) (.loop (rec .busy none))::C') N→
    ∃ M,(Instr.endRound (w.heap.size+1) c).run E.P N= .ok (.bool c.isNone) M∧St S W (k9 (w.heap.size+1) (.loop (rec (if c.isNone then .ready else .done) c))::C') M:=fun c N C' S H=>by
    have AI:N.heap[w.heap.size+1]? =some (.loop (rec .busy none)):=H.holds _ (bZ ..)
    refine ⟨_,run_endRound c AI,?_⟩
    have:=H.C9 (b:=w.heap.size+1) (A':=k9 (w.heap.size+1) (.loop (rec (if c.isNone then .ready else .done) c))) 0 rfl rfl rfl (jk _) (fun _ h=>h) (World.putObj_heap_same (er AI))
    rw [o]
    exact this
   refine round k x k' y (w.heap.size+1) (rec .ready none) (rec .busy none) ⟨A.wf,A.fq⟩ W _ (roundPost E.P (w.heap.size+1) (fun e w'=>(e= .returned (.bool true)∧ ∃ B,J k' B∧Mv A B W w')∨(e= .returned (.bool false)∧ ∃ B,Z B∧Mv A B W w'))) (Nat.le_trans (Nat.le_trans q.keeps.size (by rw [← R]; simp; omega)) AD) hx hy ?_ ?_ ?_ ?_ _ _ AF (St.E3 hA)
   ·intro L' C' hW a1 N i H
    have AI:N.heap[w.heap.size+1]? =some (.loop (rec .ready none)):=H.holds _ (bZ ..)
    refine ⟨_,run_beginRound AI (by rw [G]),hW _ _ i ?_⟩
    have:=H.C9 (b:=w.heap.size+1) (A':=k9 (w.heap.size+1) (.loop (rec .busy none))) 0 rfl rfl rfl (jk _) (fun _ h=>h) (World.putObj_heap_same (er AI))
    have e:({rec .ready none with state:= .busy}:Loop)=rec .busy none:=by rw [G]
    rw [e]; exact this
   ·intro y' L' C' hy' hC' a1 N i H
    obtain ⟨M,V,O⟩:=T none N _ _ (hC' _ H)
    exact ⟨_,M,V,.inl ⟨U,_,⟨y',hy',U⟩,Mv.of O⟩⟩
   ·intro id z L' C' hz hC' a1 N i H
    obtain ⟨M,V,O⟩:=T (some (.exit id)) N _ _ (hC' _ H)
    exact ⟨_,M,V,.inr ⟨U,_,⟨_,z,.inr ⟨id,U⟩,hz,U⟩,Mv.of O⟩⟩
   ·intro z L' C' hz hC' a1 N i H
    obtain ⟨M,V,O⟩:=T (some .ret) N _ _ (hC' _ H)
    exact ⟨_,M,V,.inr ⟨U,_,⟨_,z,.inl U,hz,U⟩,Mv.of O⟩⟩
  ·intro A hA
   obtain ⟨B,hB,hc⟩:=hCp A hA
   exact hc.holds _ (Y.holds B (cW _ (cW _ hB)))
  ·intro A hA b hb hb'
   obtain ⟨B,hB,hc⟩:=hCp A hA
   exact ⟨(H B (cW _ hB) b hb (hc.fq b hb')).1,fun h=>h⟩
  ·rintro e w' ⟨v,rfl,hh⟩
   have AB:Fr E.n (lh w.heap.size::D) L0 {a with defers:=[lh w.heap.size]++a.defers}:=⟨by simp [hf.defers],hf.size,fun t v hv=>hf.at_ t v (hL t v hv)⟩
   have hleave: ∀ (st:LoopState) (c:Option Code) (C':List av),st≠ .busy→Mv (bp (k9 (w.heap.size+1) (.loop (rec .ready none))::Ci s0 y0)) (bp (k9 (w.heap.size+1) (.loop (rec st c))::C')) W1 w'→
    ∃ M,(Instr.endLoop (w.heap.size+1)).run E.P w'= .ok c M∧St E.S E.w0 (k9 w.heap.size (.deferred (some []))::(F++C')) M:=fun st c C' AH m=>by
    have X:=(Y.mv 0 rfl m).ia
    have h1':St E.S E.w0 ((k9 (w.heap.size+1) (.loop (rec st c))::C')++(k9 w.heap.size (.deferred (some []))::F)) w':=X
    have AI:w'.heap[w.heap.size+1]? =some (.loop (rec st c)):=h1'.holds (k9 (w.heap.size+1) (.loop (rec st c))) sm
    refine ⟨_,by have:=run_endLoop (P:=E.P) AI (by rw [G]; exact AH); rw [this,G],?_⟩
    have j:=h1'.C9 (b:=w.heap.size+1) (A':=k9 (w.heap.size+1) (.loop {rec st c with state:= .exhausted})) 0 rfl rfl rfl (jk _) (fun _ h=>h) (World.putObj_heap_same (er AI))
    have h3:St E.S E.w0 (C'++(k9 w.heap.size (.deferred (some []))::F)) _:=j.take (List.sublist_cons_self _ _)
    rw [G] at h3
    refine h3.perm ?_
    exact (List.perm_append_comm).trans sm
   rcases hh with ⟨s,B,AG,⟨y,hy,rfl⟩,m⟩|⟨B,⟨c,z,hc,hz,rfl⟩,m⟩
   ·obtain ⟨M,V,O⟩:=hleave .ready none _ sm m
    exact ⟨none,M,V,fin w.heap.size s y AG hy _ _ AB O⟩
   ·obtain ⟨M,V,O⟩:=hleave .done (some c) _ sm m
    refine ⟨some c,M,V,?_⟩
    rcases hc with rfl|⟨id,rfl⟩
    ·exact wpIn_ret (finr w.heap.size z hz _ _ AB O)
    ·exact wpIn_exit (finx w.heap.size id z hz _ _ AB O)
end
section
open Go.RowKit
/-- where a row lies, and its capacity -/
abbrev RA:=OA×Nat
/-- what is asked of memory by all elements -/
def aS {M A:Type} (f:M→A→List av):List M→List A→List av
 |m::ms,a::asl=>f m a++aS f ms asl
 |_,_=>[]
theorem bT {M A:Type} {f:M→A→List av}: ∀ {ms:List M} {asl:List A} {k:Nat} {m:M} {a:A} {X:av},ms[k]? =some m→asl[k]? =some a→X∈f m a→X∈aS f ms asl
 |[],_,k,m,a,X,h,_,_=>by simp at h
 |_::_,[],k,m,a,X,_,h,_=>by simp at h
 |x::ms,y::asl,0,m,a,X,h,h2,hX=>by
  simp at h h2; subst h h2
  exact List.mem_append_left _ hX
 |x::ms,y::asl,k+1,m,a,X,h,h2,hX=>List.mem_append_right _ (bT (ms:=ms) (asl:=asl) (k:=k) (by simpa using h) (by simpa using h2) hX)
theorem jF {M A:Type} {f:M→A→List av}: ∀ {ms:List M} {asl:List A} {X:av},X∈aS f ms asl→ ∃ (k:Nat) (m:M) (a:A),ms[k]? =some m∧asl[k]? =some a∧X∈f m a
 |[],_,X,h=>by cases h
 |_::_,[],X,h=>by cases h
 |x::ms,y::asl,X,h=>by
  rcases List.mem_append.1 h with h|h
  ·exact ⟨0,x,y,U,U,h⟩
  ·obtain ⟨k,m,a,B,C,D⟩:=jF h
   exact ⟨k+1,m,a,by simpa using B,by simpa using C,D⟩
theorem jD {M A:Type} {f:M→A→List av}: ∀ {ms:List M} {asl:List A} {ns:List M} {bs:List A},ms.length=asl.length→aS f (ms++ns) (asl++bs)=aS f ms asl++aS f ns bs
 |[],[],ns,bs,_=>rfl
 |[],_::_,ns,bs,h=>by simp at h
 |_::_,[],ns,bs,h=>by simp at h
 |x::ms,y::asl,ns,bs,h=>by
  simp only [List.cons_append,aS,List.append_assoc]
  rw [jD (by simpa using h)]
theorem dB {M A β:Type} {f:M→A→β} {ms:List M} {asl:List A} {k:Nat} {m:M} {a:A} (h:ms[k]? =some m) (h2:asl[k]? =some a):(List.zipWith f ms asl)[k]? =some (f m a):=by
 rw [List.getElem?_zipWith,h,h2]
theorem cT {C L:List av} {A:av} (i:Nat) (hC:C[i]? =some (fc L).ro) (hm:A∈L):iq C A.holds:=fun w hw=>hw _ (aV hC) A hm
theorem dR {M A:Type} {f g:M→A→List av} {ms:List M} {asl:List A} {C:List av} (i:Nat) (hC:C[i]? =some (bp (aS g ms asl))) (h: ∀ m a w,(∀ X∈g m a,X.holds w)→ ∀ X∈f m a,X.holds w):iq C (fc (aS f ms asl)).holds:=fun w hw X hX=>by
 have hb:=hw _ (aV hC)
 obtain ⟨k,m,a,B,D,E⟩:=jF hX
 exact h m a w (fun Y hY=>hb.1 Y (bT B D hY)) X E
/-- a row that is part of another one -/
theorem Ol {C:List av} {A:OA} {n k sz:Nat} {es:List (List Value)} (hR:iq C (rd A n sz es).holds) (hk:k≤n):iq C (rd A k sz (es.take k)).holds:=fun w hw=>by
 obtain ⟨D,E,F⟩:=hR w hw
 refine ⟨by rw [List.length_take,D]; omega,fun x hx=>E x (List.mem_of_mem_take hx),fun hp=>?_⟩
 have G:0<k:=Nat.pos_of_mul_pos_right hp
 have hs:0<sz:=Nat.pos_of_mul_pos_left hp
 obtain ⟨ad,hA,B⟩:=F (Nat.mul_pos om hs)
 refine ⟨ad,hA,fun i e j v he hv=>B i e j v ?_ hv⟩
 rw [List.getElem?_take] at he
 split at he
 ·exact he
 ·cases he
section
variable {E:fh} {ops:Array Oper} {Q:c_} {rest:List Oper} {D:List Deferred} {L:List (Nat×Value)} {C:List av}
variable {d:Nat} {ty:TypeId} {ps:String} {af:Array Edge} {g:Option (Nat×Bool)}
/-- an element of a slice that is the head of a row -/
theorem RR (k:Nat) {x ix:Operand} {A:OA} {n n' c sz e t:Nat} {es:List (List Value)} {j:Int} (h:bF E.n ops L d g x ix=some (.slice A n' c,.int .i64 j)) (hR:iq C (rd A n sz es).holds)
 (ht:tE E.P t=some (e,sz)) (hz:0<sz) (hj:j=(k:Int)) (hk:k<n') (hn:n'≤n):SE E ops ⟨some d,.indexAddr t x ix,ty,ps,af,g⟩ D L C (.pointer (lI A (k*sz))) d:=IA k h (Ol hR hn) ht hz hj hk
end
theorem St.tie {S:BS} {w0 w:World} {C:List av} {A:av} {L L':List av} (h:St S w0 (A::bp L::C) w) (e:L++[A]=L'):St S w0 (bp L'::C) w:=by
 subst e
 have B:St S w0 (bp L::A::C) w:=h.perm (List.Perm.swap _ _ _)
 have D:St S w0 (L++(A::C)) w:=B.ia
 have E:St S w0 ((L++[A])++C) w:=by simpa using D
 exact E.tied
theorem St.Pg {S:BS} {w0 w:World} {C:List av} (h:St S w0 C w):St S w0 (bp []::C) w:=St.tied (C1:=[]) h
section
variable {E:fh} {Q:c_} {D:List Deferred} {L:List (Nat×Value)} {C:List av}
theorem og {c:Code} (h:WJ E c Q D L (bp []::C)):WJ E c Q D L C:=fun a w hf hs=>h a w hf hs.Pg
theorem xN {ops:Array Oper} {rest:List Oper} (h:RJ E ops Q rest D L (bp []::C)):RJ E ops Q rest D L C:=fun a w hf hs=>h a w hf hs.Pg
theorem AT {K:Act→World→Prop} {C1:List av} {A:av} {X X':List av} (i j:Nat) (hn:decide (j::i::(List.range C.length).filter fun k=>k != i&&k != j).Nodup=true) (hC:j_ C (j::i::(List.range C.length).filter fun k=>k != i&&k != j)=A::bp X::C1) (e:X++[A]=X')
 (h:KJ E K D L (bp X'::C1)):KJ E K D L C:=fun a w hf hs=>h a w hf ((St.j_ _ hn hC hs).tie e)
theorem Ox {ops:Array Oper} {rest:List Oper} {C1:List av} {A:av} {X X':List av} (i j:Nat) (hn:decide (j::i::(List.range C.length).filter fun k=>k != i&&k != j).Nodup=true) (hC:j_ C (j::i::(List.range C.length).filter fun k=>k != i&&k != j)=A::bp X::C1) (e:X++[A]=X')
 (h:RJ E ops Q rest D L (bp X'::C1)):RJ E ops Q rest D L C:=fun a w hf hs=>h a w hf ((St.j_ _ hn hC hs).tie e)
end
end
section
open Go.RowKit
abbrev dW:aa→Value:=fun s=>vA (aa.cells s)
abbrev ej:aC→Value:=fun s=>vA (aC.cells s)
abbrev TM:=List (Int×aa)
abbrev FM:=List (aC×Int)
def gH {α:Type} (m:α) (b:Nat):List Value:=[Value.map (some b)]
def q_ (m:TM) (b:Nat):List av:=[hO iV b (bM dW m)]
def nH (m:FM) (b:Nat):List av:=[hO ej b (bM iV m)]
theorem wF {M A:Type} {f:M→A→List av}: ∀ (m:M) (a:A) (w:World),(∀ X∈f m a,X.holds w)→ ∀ X∈f m a,X.holds w:=fun _ _ _ h=>h
/-- untied -/
theorem NK {E:fh} {ops:Array Oper} {Q:c_} {rest:List Oper} {D:List Deferred} {L:List (Nat×Value)} {C X C1:List av} (i:Nat) (hn:decide (i::(List.range C.length).filter fun k=>k != i).Nodup=true) (hC:j_ C (i::(List.range C.length).filter fun k=>k != i)=bp X::C1)
 (h:RJ E ops Q rest D L (X++C1)):RJ E ops Q rest D L C:=fun a w hf hs=>h a w hf (St.ia (St.j_ _ hn hC hs))
end
section
def cN (ln:bJ) (rd:eK) (e:List Int) (tms:List TM):bU:=⟨rd.Start,rd.gj,e,tms,ln.bL,ln.cy,(rd.aj.n:Int)⟩
def OY (o:Int×aa):List Value:=[.int .i64 o.1,.agg (aa.cells o.2).toArray]
structure Gu (w:bU):Prop where
 n:w.n≤6
 times:w.uR.length=w.n
 now:0≤w.Start∧w.Start≤w.gj∧w.gj≤86400000
 least: ∀ x∈w.pJ,1≤x∧x≤500000000
 Fg: ∀ t∈w.uR,∀ p∈t,(0≤p.1∧p.1≤10)∧0≤p.2.Lo∧p.2.Lo≤p.2.Hi∧p.2.Hi≤86400000
theorem Gu.opt {w:bU} (h:Gu w) {b:Nat} {o:Int×aa} (ho:o∈ik w b):(-1≤o.1∧o.1≤10)∧0≤o.2.Lo∧o.2.Lo≤o.2.Hi∧o.2.Hi≤86400000:=by
 unfold ik sX at ho
 rcases List.mem_cons.1 ho with rfl|ho
 ·have:=h.now; simp only; omega
 ·cases ht:w.uR[b]? with
  |none=>simp [ht] at ho
  |some t=>
   rw [ht] at ho
   have:=h.Fg t (aV ht) o ho
   omega
theorem Gu.bW {w:bU} (h:Gu w) (b:Nat):0≤bW w b∧bW w b≤500000000:=by
 unfold Go.Proofs.YtdllkkdchkhimaaGreatDoor.bW
 cases ht:w.pJ[b]? with
 |none=>simp
 |some x=>have:=h.least x (aV ht); simp only [Option.getD_some]; omega
theorem tH (s:Int):(0≤(fp s).right∧0≤(fp s).eW)∧(fp s).right+(fp s).eW=1:=by unfold fp; split<;>simp
theorem J0 {w:bU} (h:Gu w): ∀ (b:Nat) p,p∈fwd w b→(0≤p.2∧p.2≤86400000)∧(0≤p.1.right∧0≤p.1.eW)∧p.1.right+p.1.eW=(b:Int):=by
 intro b
 induction b with
 |zero=>
  intro p hp
  simp only [fwd,bX] at hp
  subst hp
  have:=h.now; simp only; omega
 |succ b ih=>
  intro q hq
  obtain ⟨p,hp,o,ho,e⟩:=fQ.1 hq
  have A:=ih p hp
  have B:=h.opt ho
  have C:=h.bW b
  have D:=h.now
  have E:=tH o.1
  unfold ky at e
  split at e
  ·simp only [Option.some.injEq] at e
   subst e
   simp only [dp]
   omega
  ·cases e
theorem SV {w:bU} (h:Gu w): ∀ (k:Nat) p,p∈bwd w k→(-(500000000*(k:Int))≤p.2∧p.2≤86400000)∧(0≤p.1.right∧0≤p.1.eW)∧p.1.right+p.1.eW≤(k:Int):=by
 intro k
 induction k with
 |zero=>
  intro p hp
  simp only [bwd,bX] at hp
  subst hp
  have:=h.now; simp only; omega
 |succ k ih=>
  intro q hq
  simp only [bwd,ew,List.mem_flatMap,List.mem_filterMap] at hq
  rcases hq with rfl|⟨p,hp,o,ho,e⟩
  ·have:=h.now; simp only; omega
  ·have A:=ih p hp
   have B:=h.opt ho
   have C:=h.bW (w.n-(k+1))
   have D:=h.now
   have E:=tH o.1
   unfold nK at e
   split at e
   ·simp only [Option.some.injEq] at e
    subst e
    simp only [dp]
    omega
   ·cases e
theorem IK {w:bU} (h:Gu w) {b:Nat} {p:aC×Int} (hp:p∈back w b):(-3000000000≤p.2∧p.2≤86400000)∧(0≤p.1.right∧0≤p.1.eW)∧p.1.right+p.1.eW≤6:=by
 have:=SV h _ _ hp
 have:=h.n
 omega
theorem we {w:bU} {b:Nat} {t:TM} (ht:w.uR[b]? =some t) {o:Int×aa}:o∈ik w b↔o=(-1,⟨w.Start,w.gj⟩)∨o∈t:=by
 unfold ik sX; rw [ht]; simp
theorem lM {K β:Type} [DecidableEq K] {l:List (K×β)} {x:K} {y:β} (hn:(l.map (·.1)).Nodup) (hm:(x,y)∈l) {o:K×β} (h:o∈l):o∈cp l x∨o=(x,y):=by
 by_cases e:o.1=x
 ·right
  obtain ⟨k,v⟩:=o
  simp only at e
  subst e
  have B:=(g5 hn).1 h
  have A:=(g5 hn).1 hm
  rw [B] at A
  cases A; rfl
 ·exact .inl (jW.2 ⟨h,e⟩)
theorem G1 {K β:Type} [DecidableEq K] {t l ys:List (K×β)} {x:K} {y:β} (hn:(l.map (·.1)).Nodup) (hm:(x,y)∈l) (h: ∀ o∈t,o∈l∨o∈ys): ∀ o∈t,o∈cp l x∨o∈ys++[(x,y)]:=fun o ho=>by
 rcases h o ho with h|h
 ·rcases lM hn hm h with h|h
  ·exact .inl h
  ·exact .inr (by simp [h])
 ·exact .inr (by simp [h])
theorem l4 {K β:Type} [DecidableEq K] {t l:List (K×β)} {x:K} (h: ∀ o∈l,o∈t): ∀ o∈cp l x,o∈t:=fun o ho=>h o (jW.1 ho).1
theorem LI {w:bU} {m left:List (aC×Int)} (h: ∀ p∈m,p∈left∨kd w p.1=false) (h0:left=[]):jh w m=false:=by
 unfold jh
 rw [List.any_eq_false]
 intro p hp
 rcases h p hp with q|q
 ·rw [h0] at q; cases q
 ·simp [q]
theorem Nu {w:bU} {m:List (aC×Int)} {p:aC×Int} (hp:p∈m) (h:kd w p.1=true):jh w m=true:=List.any_eq_true.2 ⟨p,hp,h⟩
theorem Iz {w:bU} {m left:List (aC×Int)} {t:aC} {v:Int} (hn:(left.map (·.1)).Nodup) (hm:(t,v)∈left) (h: ∀ p∈m,p∈left∨kd w p.1=false) (hf:kd w t=false): ∀ p∈m,p∈cp left t∨kd w p.1=false:=fun p hp=>by
 rcases h p hp with q|q
 ·rcases lM hn hm q with q|q
  ·exact .inl q
  ·right; rw [q]; exact hf
 ·exact .inr q
/-- what the maps of a watch are -/
structure xq (w:bU) (fs:List (List (aC×Int))):Prop where
 len:fs.length=w.n+1
 min: ∀ (b:Nat) m,fs[b]? =some m→sG m (fwd w b)
 keys: ∀ (b:Nat) m,fs[b]? =some m→(m.map (·.1)).Nodup
structure ux (w:bU) (bs:List (List (aC×Int))):Prop where
 len:bs.length=w.n+1
 max: ∀ (b:Nat) m,bs[b]? =some m→vd m (back w b)
 keys: ∀ (b:Nat) m,bs[b]? =some m→(m.map (·.1)).Nodup
theorem xq.mem {w:bU} {fs:List (List (aC×Int))} (h:xq w fs) {b:Nat} {m:List (aC×Int)} (hm:fs[b]? =some m) {p:aC×Int} (hp:p∈m):p∈fwd w b:=(h.min b m hm).1 _ _ ((fz (h.keys b m hm)).1 hp)
theorem ux.mem {w:bU} {fs:List (List (aC×Int))} (h:ux w fs) {b:Nat} {m:List (aC×Int)} (hm:fs[b]? =some m) {p:aC×Int} (hp:p∈m):p∈back w b:=(h.max b m hm).1 _ _ ((fz (h.keys b m hm)).1 hp)
theorem Hg {w:bU} {b:Nat} {t l ys:List (Int×aa)} (ht:w.uR[b]? =some t) (h: ∀ o∈t,o∈l∨o∈ys) (h0:l=[]) (hs:(-1,(⟨w.Start,w.gj⟩:aa))∈ys): ∀ o∈ik w b,o∈ys:=fun o ho=>by
 rcases (we ht).1 ho with rfl|ho
 ·exact hs
 ·rcases h o ho with q|q
  ·rw [h0] at q; cases q
  ·exact q
end
section
/-- by these options all is yielded -/
def lp (w:bU) (b:Nat) (mf mb:List (aC×Int)) (os ys:List (Int×aa)):Prop:= ∀ o∈os,∀ p∈mf,∀ u∈mb,∀ q,l6 w b p u o=some q→q∈ys
def nB (w:bU) (b:Nat) (mf mb:List (aC×Int)) (o:Int×aa) (left:List (aC×Int)) (ys:List (Int×aa)):Prop:= ∀ p∈mf,p∈left∨ ∀ u∈mb,∀ q,l6 w b p u o=some q→q∈ys
def m6 (w:bU) (b:Nat) (mb:List (aC×Int)) (o:Int×aa) (p:aC×Int) (left:List (aC×Int)) (ys:List (Int×aa)):Prop:= ∀ u∈mb,u∈left∨ ∀ q,l6 w b p u o=some q→q∈ys
variable {w:bU} {b:Nat} {mf mb left:List (aC×Int)} {o x:Int×aa} {os ys:List (Int×aa)} {p u:aC×Int}
theorem lp.nil:lp w b mf mb [] ys:=fun o ho=>by cases ho
theorem lp.app (h:lp w b mf mb os ys):lp w b mf mb os (ys++[x]):=fun o ho p hp u hu q e=>List.mem_append_left _ (h o ho p hp u hu q e)
theorem nB.app (h:nB w b mf mb o left ys):nB w b mf mb o left (ys++[x]):=fun p hp=>(h p hp).imp id fun h u hu q e=>List.mem_append_left _ (h u hu q e)
theorem nB.start:nB w b mf mb o mf ys:=fun p hp=> .inl hp
theorem m6.start:m6 w b mb o p mb ys:=fun p hp=> .inl hp
theorem m6.skip {t:aC} {v:Int} (hn:(left.map (·.1)).Nodup) (hm:(t,v)∈left) (h:m6 w b mb o p left ys) (he:l6 w b p (t,v) o=none):m6 w b mb o p (cp left t) ys:=fun u hu=>by
 rcases h u hu with q|q
 ·rcases lM hn hm q with q|q
  ·exact .inl q
  ·right; intro z hz; rw [q,he] at hz; cases hz
 ·exact .inr q
theorem m6.UH {t:aC} {v:Int} (hn:(left.map (·.1)).Nodup) (hm:(t,v)∈left) (h:m6 w b mb o p left ys) (he:l6 w b p (t,v) o=some x):m6 w b mb o p (cp left t) (ys++[x]):=fun u hu=>by
 rcases h u hu with q|q
 ·rcases lM hn hm q with q|q
  ·exact .inl q
  ·right; intro z hz; rw [q,he] at hz; cases hz; simp
 ·right; intro z hz; exact List.mem_append_left _ (q z hz)
theorem nB.next {t:aC} {v:Int} {l2:List (aC×Int)} (hn:(left.map (·.1)).Nodup) (hm:(t,v)∈left) (h:nB w b mf mb o left ys) (hq:m6 w b mb o (t,v) l2 ys) (h0:l2=[]):nB w b mf mb o (cp left t) ys:=fun p hp=>by
 rcases h p hp with q|q
 ·rcases lM hn hm q with q|q
  ·exact .inl q
  ·right; intro u hu z hz; subst q
   rcases hq u hu with q|q
   ·rw [h0] at q; cases q
   ·exact q z hz
 ·exact .inr q
theorem lp.next (h:lp w b mf mb os ys) (hp:nB w b mf mb o left ys) (h0:left=[]):lp w b mf mb (os++[o]) ys:=fun o' ho p hp' u hu q e=>by
 rcases List.mem_append.1 ho with ho|ho
 ·exact h o' ho p hp' u hu q e
 ·simp only [bX] at ho; subst ho
  rcases hp p hp' with z|z
  ·rw [h0] at z; cases z
  ·exact z u hu q e
theorem lp.fin (h:lp w b mf mb os ys) (ho: ∀ o∈ik w b,o∈os): ∀ q∈pM w b mf mb,q∈ys:=fun q hq=>by
 obtain ⟨o,A,p,B,u,C,e⟩:=g9.1 hq
 exact h o (ho o A) p B u C q e
theorem G6 (h:max (p.2+bW w b) o.2.Lo≤min u.2 o.2.Hi) (h2:kd w (dp (dp p.1 u.1) (fp o.1))=true):l6 w b p u o=some (o.1,⟨max (p.2+bW w b) o.2.Lo,min u.2 o.2.Hi⟩):=by
 unfold l6 jo wa; rw [if_pos ⟨h,h2⟩]
theorem IZ (h: ¬ max (p.2+bW w b) o.2.Lo≤min u.2 o.2.Hi):l6 w b p u o=none:=by
 unfold l6 jo; rw [if_neg (fun q=>h q.1)]
theorem Hp (h2:kd w (dp (dp p.1 u.1) (fp o.1))=false):l6 w b p u o=none:=by
 unfold l6 wa; rw [if_neg (fun q=>by rw [h2] at q; exact absurd q.2 dc)]
theorem ng {v:Int} (h:w.pJ[b]? =some v):bW w b=v:=by unfold bW; rw [h]; rfl
theorem Co {t q:aC} {v z y:Int} (hy:w.pJ[b]? =some y) (h:max (v+y) o.2.Lo≤min z o.2.Hi) (h2:kd w (dp (dp t q) (fp o.1))=true):l6 w b (t,v) (q,z) o=some (o.1,⟨max (v+y) o.2.Lo,min z o.2.Hi⟩):=by
 have e:=ng hy
 subst e
 exact G6 h h2
theorem GH {t q:aC} {v z y:Int} (hy:w.pJ[b]? =some y) (h: ¬ max (v+y) o.2.Lo≤min z o.2.Hi):l6 w b (t,v) (q,z) o=none:=by
 have e:=ng hy
 subst e
 exact IZ h
theorem nZ {m:List (aC×Int)} {k:aC} {y:Int} (h:(m.map (·.1)).Nodup):((eh m k y).map (·.1)).Nodup:=by
 unfold eh
 by_cases hx:(m.lookup k).isSome
 ·rw [if_pos hx,List.map_map]
  have e:m.map ((fun p=>p.1)∘fun p=>if p.1=k then (k,y) else p)=m.map (·.1):=by
   apply List.map_congr_left
   intro p _
   simp only [Function.comp]
   split
   ·rename_i e; exact e.symm
   ·rfl
  rw [e]; exact h
 ·rw [if_neg hx,List.map_append,List.nodup_append]
  refine ⟨h,sm,?_⟩
  intro a ha c hc
  simp only [List.map_cons,List.map_nil,bX] at hc
  rw [hc]
  obtain ⟨p,hp,rfl⟩:=List.mem_map.1 ha
  have hn:m.lookup k=none:=by cases h0:m.lookup k with
   |none=>rfl
   |some v=>exact absurd (by rw [h0]; rfl) hx
  exact iD.1 hn p hp
theorem B1 {m:List (aC×Int)} {q:aC×Int} (h:(m.map (·.1)).Nodup):((oW m q).map (·.1)).Nodup:=by
 unfold oW; split
 ·exact nZ h
 ·split
  ·exact nZ h
  ·exact h
theorem AZ {m:List (aC×Int)} {q:aC×Int} (h:(m.map (·.1)).Nodup):((oO m q).map (·.1)).Nodup:=by
 unfold oO; split
 ·exact nZ h
 ·split
  ·exact nZ h
  ·exact h
/-- a map of the first times, on its way -/
structure xP (w:bU) (b:Nat) (m:List (aC×Int)):Prop where
 snd:u6 m (fwd w (b+1))
 keys:(m.map (·.1)).Nodup
structure vk (w:bU) (b:Nat) (m:List (aC×Int)):Prop where
 snd:u6 m (back w b)
 keys:(m.map (·.1)).Nodup
 zero: ∃ v,m.lookup ⟨0,0⟩=some v∧w.gj≤v
theorem JF (h:max (p.2+bW w b) o.2.Lo≤min o.2.Hi w.gj):ky w b p o=some (dp p.1 (fp o.1),max (p.2+bW w b) o.2.Lo):=by unfold ky; rw [if_pos h]
theorem MP (h: ¬ max (p.2+bW w b) o.2.Lo≤min o.2.Hi w.gj):ky w b p o=none:=by unfold ky; rw [if_neg h]
theorem JT (h:o.2.Lo≤min p.2 o.2.Hi):nK w b p o=some (dp p.1 (fp o.1),min p.2 o.2.Hi-bW w b):=by unfold nK; rw [if_pos h]
theorem Mo (h: ¬ o.2.Lo≤min p.2 o.2.Hi):nK w b p o=none:=by unfold nK; rw [if_neg h]
theorem xP.start:xP w b []:=⟨fun t v h=>by simp at h,List.nodup_nil⟩
theorem xP.add {m:List (aC×Int)} {q:aC×Int} (h:xP w b m) (hp:p∈fwd w b) (ho:o∈ik w b) (he:ky w b p o=some q):xP w b (oW m q):=⟨He h.snd (fQ.2 ⟨p,hp,o,ho,he⟩),B1 h.keys⟩
theorem vk.start (hb:b<w.n):vk w b [(⟨0,0⟩,w.gj)]:=⟨fun t v h=>by
 obtain ⟨rfl,rfl⟩:=oF.1 h
 exact (oR hb).2 (.inl U),sm,w.gj,oF.2 ⟨U,U⟩,Int.le_refl _⟩
theorem vk.add {m:List (aC×Int)} {q:aC×Int} (hb:b<w.n) (h:vk w b m) (hp:p∈back w (b+1)) (ho:o∈ik w b) (he:nK w b p o=some q):vk w b (oO m q):=⟨HU h.snd ((oR hb).2 (.inr ⟨p,hp,o,ho,he⟩)),AZ h.keys,by
 obtain ⟨v,A,C⟩:=h.zero
 obtain ⟨v',B,D⟩:=qz (q:=q) _ _ A
 exact ⟨v',B,om⟩⟩
theorem iQ.none_ {m:List (aC×Int)} (h:iQ w b m p os) (he:ky w b p o=none):iQ w b m p (os++[o]):=h.add (wQ.refl _) fun q hq=>by rw [he] at hq; cases hq
theorem iQ.KC {m:List (aC×Int)} {q:aC×Int} (h:iQ w b m p os) (he:ky w b p o=some q):iQ w b (oW m q) p (os++[o]):=h.add uK fun q' hq=>by rw [he] at hq; cases hq; exact Gs
theorem iS.none_ {m:List (aC×Int)} (h:iS w b m p os) (he:nK w b p o=none):iS w b m p (os++[o]):=h.add (xb.refl _) fun q hq=>by rw [he] at hq; cases hq
theorem iS.KC {m:List (aC×Int)} {q:aC×Int} (h:iS w b m p os) (he:nK w b p o=some q):iS w b (oO m q) p (os++[o]):=h.add qz fun q' hq=>by rw [he] at hq; cases hq; exact Hk
/-- what of a map of the beam before is used already -/
def jE (w:bU) (b:Nat) (mb m left:List (aC×Int)):Prop:= ∀ p∈mb,p∈left∨iQ w b m p (ik w b)
def jt (w:bU) (b:Nat) (mb m left:List (aC×Int)):Prop:= ∀ p∈mb,p∈left∨iS w b m p (ik w b)
theorem jE.start {m:List (aC×Int)}:jE w b mb m mb:=fun p hp=> .inl hp
theorem jt.start {m:List (aC×Int)}:jt w b mb m mb:=fun p hp=> .inl hp
theorem jE.lower {m m':List (aC×Int)} (h:jE w b mb m left) (hl:wQ m m'):jE w b mb m' left:=fun p hp=>(h p hp).imp id fun h=>h.lower hl
theorem jt.upper {m m':List (aC×Int)} (h:jt w b mb m left) (hl:xb m m'):jt w b mb m' left:=fun p hp=>(h p hp).imp id fun h=>h.upper hl
theorem jE.next {m:List (aC×Int)} {t:aC} {v:Int} (hn:(left.map (·.1)).Nodup) (hm:(t,v)∈left) (h:jE w b mb m left) (hd:iQ w b m (t,v) os) (ho: ∀ o∈ik w b,o∈os):jE w b mb m (cp left t):=fun p hp=>by
 rcases h p hp with q|q
 ·rcases lM hn hm q with q|q
  ·exact .inl q
  ·right; rw [q]; exact hd.sub ho
 ·exact .inr q
theorem jt.next {m:List (aC×Int)} {t:aC} {v:Int} (hn:(left.map (·.1)).Nodup) (hm:(t,v)∈left) (h:jt w b mb m left) (hd:iS w b m (t,v) os) (ho: ∀ o∈ik w b,o∈os):jt w b mb m (cp left t):=fun p hp=>by
 rcases h p hp with q|q
 ·rcases lM hn hm q with q|q
  ·exact .inl q
  ·right; rw [q]; exact hd.sub ho
 ·exact .inr q
theorem jE.fin {m:List (aC×Int)} (h:jE w b mb m left) (h0:left=[]): ∀ p∈mb,iQ w b m p (ik w b):=fun p hp=>by
 rcases h p hp with q|q
 ·rw [h0] at q; cases q
 ·exact q
theorem jt.fin {m:List (aC×Int)} (h:jt w b mb m left) (h0:left=[]): ∀ p∈mb,iS w b m p (ik w b):=fun p hp=>by
 rcases h p hp with q|q
 ·rw [h0] at q; cases q
 ·exact q
end
section
def mg (a b:aa):aa:=⟨a.Lo+b.Lo,a.Hi+b.Hi⟩
def dA:aa:=⟨0,0⟩
def ke (a:aa) (l:List aa):aa:=l.foldl mg a
def lg (z:aa):Prop:=(-1000000000≤z.Lo∧z.Lo≤1000000000)∧ -1000000000≤z.Hi∧z.Hi≤1000000000
theorem zg {a:aa} {l:List aa} {i:Nat} {z:aa} (h:l[i]? =some z):ke a (l.take (i+1))=mg (ke a (l.take i)) z:=by
 rw [List.take_add_one,h]; unfold ke; simp
theorem PN {a:aa} {l:List aa} (ha:lg a) (hl: ∀ z∈l,lg z): ∀ i:Nat,(-1000000000-1000000000*(i:Int)≤(ke a (l.take i)).Lo∧(ke a (l.take i)).Lo≤1000000000+1000000000*(i:Int))∧ -1000000000-1000000000*(i:Int)≤(ke a (l.take i)).Hi∧(ke a (l.take i)).Hi≤1000000000+1000000000*(i:Int):=by
 intro i
 induction i with
 |zero=>unfold lg at ha; simp [ke]; omega
 |succ i ih=>
  cases h:l[i]? with
  |none=>rw [List.take_add_one,h]; simp only [Option.toList_none,List.append_nil]; omega
  |some z=>
   have hz:=hl z (aV h)
   unfold lg at hz
   rw [zg h]
   simp only [mg]
   omega
theorem Ix {a:aa} {l:List aa} {i:Nat} (h:l.length≤i):ke a (l.take i)=ke a l:=by rw [List.take_of_length_le h]
theorem nF {a z:aa}:vA (aa.cells (ke a [z]))=vA (aa.cells (mg a z)):=rfl
theorem BE {a y z:aa}:vA (aa.cells (ke a [y,z]))=vA (aa.cells (mg (mg a y) z)):=rfl
/-- how long the run is from one mark, over so many stretches; by how much it falls -/
def eI (ts:List ao) (f:Nat):Nat→aa
 |0=>dA
 |k+1=>match ts[f+k]? with
  |some x=>mg (eI ts f k) x.kf
  |none=>eI ts f k
def gk (ts:List ao) (f:Nat):Nat→aa
 |0=>dA
 |k+1=>match ts[f+k]? with
  |some x=>mg (gk ts f k) x.lB
  |none=>gk ts f k
theorem px {ts:List ao} {f k:Nat} {x:ao} (h:ts[f+k]? =some x):eI ts f (k+1)=mg (eI ts f k) x.kf:=by simp [eI,h]
theorem pB {ts:List ao} {f k:Nat} {x:ao} (h:ts[f+k]? =some x):gk ts f (k+1)=mg (gk ts f k) x.lB:=by simp [gk,h]
theorem lW {ts:List ao} (ht: ∀ x∈ts,bP x) (f:Nat): ∀ k:Nat,(0≤(eI ts f k).Lo∧(eI ts f k).Lo≤(eI ts f k).Hi)∧(eI ts f k).Hi≤30000*(k:Int):=by
 intro k
 induction k with
 |zero=>simp [eI,dA]
 |succ k ih=>
  simp only [eI]
  cases h:ts[f+k]? with
  |none=>simp only; omega
  |some x=>
   have hx:=(ht x (aV h)).2.1
   simp only [dN] at hx
   simp only [mg]
   omega
theorem Ga {ts:List ao} (ht: ∀ x∈ts,bP x) (f:Nat): ∀ k:Nat,(0≤(gk ts f k).Lo∧(gk ts f k).Lo≤(gk ts f k).Hi)∧(gk ts f k).Hi≤5000*(k:Int):=by
 intro k
 induction k with
 |zero=>simp [gk,dA]
 |succ k ih=>
  simp only [gk]
  cases h:ts[f+k]? with
  |none=>simp only; omega
  |some x=>
   have hx:=(ht x (aV h)).2.2.1
   simp only [dN] at hx
   simp only [mg]
   omega
theorem qo {ts:List ao} (ht: ∀ x∈ts,bP x) {f k:Nat} (hk:k≤13):lg (eI ts f k):=by
 have:=lW ht f k; unfold lg; omega
theorem wZ {ts:List ao} (ht: ∀ x∈ts,bP x) {f k:Nat} (hk:k≤13):lg (gk ts f k):=by
 have:=Ga ht f k; unfold lg; omega
theorem uk {x:ao} (h:bP x):lg x.kf:=by have:=h.2.1; simp only [dN] at this; unfold lg; omega
theorem uC {x:ao} (h:bP x):lg x.lB:=by have:=h.2.2.1; simp only [dN] at this; unfold lg; omega
theorem yL {ts:List ao} (h: ¬ (if cV ts=true then (0:Int) else 10)=0):cV ts=false∧(if cV ts=true then (0:Int) else 10)=10:=by
 cases ht:cV ts with
 |true=>rw [ht] at h; exact absurd rfl h
 |false=>exact ⟨rfl,rfl⟩
theorem DL {ts:List ao} (h:(if cV ts=true then (0:Int) else 10)=0):cV ts=true:=by
 cases ht:cV ts with
 |true=>rfl
 |false=>rw [ht] at h; exact absurd h dc
/-- what the iterator of marks yields -/
def s9 (ts:List ao) (f:Nat):List (List Value):=(List.range (ts.length-f+1)).map fun (k:Nat)=>[.agg (eI ts f k).cells.toArray,.agg (gk ts f k).cells.toArray]
theorem tj {ts:List ao} {f:Nat}:(s9 ts f).length=ts.length-f+1:=by simp [s9]
theorem yz {ts:List ao} {f k:Nat} (h:k≤ts.length-f):(s9 ts f)[k]? =some [.agg (eI ts f k).cells.toArray,.agg (gk ts f k).cells.toArray]:=by
 simp [s9,List.getElem?_range (show k<ts.length-f+1 by omega)]
theorem Gk {ts:List ao} {f k:Nat} {x:List Value} (h:(s9 ts f)[k]? =some x):k≤ts.length-f∧x=[.agg (eI ts f k).cells.toArray,.agg (gk ts f k).cells.toArray]:=by
 have hi:k<ts.length-f+1:=by
  have:=(List.getElem?_eq_some_iff.1 h).1
  simpa [s9] using this
 rw [yz om] at h
 exact ⟨om,(Option.some.inj h).symm⟩
theorem Ew {ts:List ao} {f:Nat}: ∀ x∈s9 ts f,x.length=2:=fun x hx=>by
 obtain ⟨k,_,rfl⟩:=List.mem_map.1 hx; rfl
end
section
def fu (ts:List ao) (s:cM):Prop:=(0≤s.aY∧s.aY<(ts.length:Int))∧ ∃ x,ts[s.aY.toNat]? =some x∧dN s.mm 0 (x.kf.Lo-1)
noncomputable instance (ts:List ao) (s:cM):Decidable (fu ts s):=Classical.propDecidable _
theorem Cm {ts:List ao} {s:cM} {x:ao} (h:0≤s.aY∧s.aY<(ts.length:Int)) (hx:ts[s.aY.toNat]? =some x):fu ts s↔dN s.mm 0 (x.kf.Lo-1):=
 ⟨fun A=>by obtain ⟨y,hy,B⟩:=A.2; rw [hx] at hy; cases hy; exact B,fun A=>⟨h,x,hx,A⟩⟩
theorem Cz {ts:List ao} {s:cM} (h: ¬ (0≤s.aY∧s.aY<(ts.length:Int))): ¬ fu ts s:=fun A=>h A.1
theorem Ah {ts:List ao} {s:cM} (ht: ∀ x∈ts,bP x) (h:fu ts s):(0≤s.mm.Lo∧s.mm.Lo≤s.mm.Hi)∧s.mm.Hi≤30000:=by
 obtain ⟨x,hx,A⟩:=h.2
 have:=(ht x (aV hx)).2.1
 simp only [dN] at A this
 omega
theorem DU {ts:List ao} {a:cM}:vB (decide (∀ s∈[a],fu ts s))=vB (decide (fu ts a)):=congrArg _ (decide_eq_decide.2 sm)
theorem D6 {ts:List ao} {a b:cM}:vB (decide (∀ s∈[a,b],fu ts s))=vB (decide (fu ts a∧fu ts b)):=congrArg _ (decide_eq_decide.2 sm)
def nN (z:aa):aa:=⟨-z.Hi,-z.Lo⟩
def Mh (ts:List ao) (s:cM):aa:=mg (eI ts 0 s.aY.toNat) s.mm
noncomputable def Fh (ts:List ao) (s:cM):Int:=if cV ts=true then (if fu ts s then 0 else 12) else 10
noncomputable def Pu (ts:List ao) (s:cM):aa:=if Fh ts s=0 then Mh ts s else dA
theorem Ip {ts:List ao} {s:cM} (h:cV ts=false):Fh ts s=10∧Pu ts s=dA:=by
 have e:Fh ts s=10:=by unfold Fh; rw [h]; rfl
 exact ⟨e,by unfold Pu; rw [e]; rfl⟩
theorem I5 {ts:List ao} {s:cM} (h:cV ts=true) (h2: ¬ fu ts s):Fh ts s=12∧Pu ts s=dA:=by
 have e:Fh ts s=12:=by unfold Fh; rw [if_pos h,if_neg h2]
 exact ⟨e,by unfold Pu; rw [e]; rfl⟩
theorem w4 {ts:List ao} {s:cM} (h:cV ts=true) (h2:fu ts s):Fh ts s=0∧Pu ts s=Mh ts s:=by
 have e:Fh ts s=0:=by unfold Fh; rw [if_pos h,if_pos h2]
 exact ⟨e,if_pos e⟩
theorem E9 {ts:List ao} {s:cM} (h:cV ts=true):Fh ts s=0↔fu ts s:=by
 unfold Fh; rw [if_pos h]; split<;>simp [*]
def wJ (ts:List ao) (a b:cM):aa:=eI ts (min a.aY b.aY).toNat (max a.aY b.aY-min a.aY b.aY).toNat
def jG (ts:List ao) (a b:cM):aa:=mg (mg (if b.aY<a.aY then nN (wJ ts a b) else wJ ts a b) b.mm) (nN a.mm)
noncomputable def lK (ts:List ao) (a b:cM):Int:=if cV ts=true then (if fu ts a∧fu ts b then 0 else 12) else 10
noncomputable def kv (ts:List ao) (a b:cM):aa:=if lK ts a b=0 then jG ts a b else dA
theorem ua {ts:List ao} {a b:cM} (h:cV ts=false):lK ts a b=10∧kv ts a b=dA:=by
 have e:lK ts a b=10:=by unfold lK; rw [h]; rfl
 exact ⟨e,by unfold kv; rw [e]; rfl⟩
theorem oK {ts:List ao} {a b:cM} (h:cV ts=true) (h2: ¬ (fu ts a∧fu ts b)):lK ts a b=12∧kv ts a b=dA:=by
 have e:lK ts a b=12:=by unfold lK; rw [if_pos h,if_neg h2]
 exact ⟨e,by unfold kv; rw [e]; rfl⟩
theorem kY {ts:List ao} {a b:cM} (h:cV ts=true) (h2:fu ts a∧fu ts b):lK ts a b=0∧kv ts a b=jG ts a b:=by
 have e:lK ts a b=0:=by unfold lK; rw [if_pos h,if_pos h2]
 exact ⟨e,if_pos e⟩
theorem zJ {z:aa} (h:lg z):lg (nN z):=by unfold lg nN at *; simp only; omega
theorem qk {ts:List ao} {s:cM} (ht: ∀ x∈ts,bP x) (h:fu ts s):lg s.mm:=by have:=Ah ht h; unfold lg; omega
theorem PY {ts:List ao} {a b:cM} (ht: ∀ x∈ts,bP x) (hl:ts.length≤12) (ha:fu ts a) (hb:fu ts b):(0≤(wJ ts a b).Lo∧(wJ ts a b).Lo≤(wJ ts a b).Hi)∧(wJ ts a b).Hi≤360000:=by
 have h:=lW ht (min a.aY b.aY).toNat (max a.aY b.aY-min a.aY b.aY).toNat
 have A:=ha.1
 have B:=hb.1
 unfold wJ
 omega
theorem xC {ts:List ao} {a b:cM} (ht: ∀ x∈ts,bP x) (hl:ts.length≤12) (ha:fu ts a) (hb:fu ts b):(-400000≤(jG ts a b).Lo∧(jG ts a b).Lo≤(jG ts a b).Hi)∧(jG ts a b).Hi≤400000:=by
 have h:=PY ht hl ha hb
 have A:=Ah ht ha
 have B:=Ah ht hb
 unfold jG mg nN
 split<;>simp only <;>omega
theorem Rl {ts:List ao} {s:cM} (ht: ∀ x∈ts,bP x) (hl:ts.length≤12) (h:fu ts s):(0≤(Mh ts s).Lo∧(Mh ts s).Lo≤(Mh ts s).Hi)∧(Mh ts s).Hi≤400000:=by
 have A:=lW ht 0 s.aY.toNat
 have B:=Ah ht h
 have C:=h.1
 unfold Mh mg
 simp only; omega
theorem HE {α:Type} {p:Nat→α→Bool} {l:List α}:((l.zipIdx.filter fun q=>p q.2 q.1).map fun q=>(q.2:Int))=[]↔ ∀ (i:Nat) x,l[i]? =some x→p i x=false:=by
 rw [List.map_eq_nil_iff,List.filter_eq_nil_iff]
 constructor
 ·intro h i x hx
  have:=h (x,i) (by rw [List.mem_zipIdx_iff_getElem?]; simpa using hx)
  simpa using this
 ·rintro h ⟨x,i⟩ hm
  rw [List.mem_zipIdx_iff_getElem?] at hm
  simpa using h i x (by simpa using hm)
/-- the places of a list at which something is so -/
def rQ {α:Type} (p:Nat→α→Bool) (l:List α) (n:Nat):List Int:=(((l.take n).zipIdx.filter fun q=>p q.2 q.1).map fun q=>(q.2:Int))
theorem Ia {α:Type} {p:Nat→α→Bool} {l:List α} {i:Nat} {x:α} (hx:l[i]? =some x) (h:p i x=true):rQ p l (i+1)=rQ p l i++[(i:Int)]:=by
 have hi:=(List.getElem?_eq_some_iff.1 hx).1
 unfold rQ
 rw [List.take_add_one,hx,List.zipIdx_append,List.filter_append,List.map_append]
 simp [Nat.min_eq_left (Nat.le_of_lt hi),h]
theorem MO {α:Type} {p:Nat→α→Bool} {l:List α} {i:Nat} {x:α} (hx:l[i]? =some x) (h:p i x=false):rQ p l (i+1)=rQ p l i:=by
 have hi:=(List.getElem?_eq_some_iff.1 hx).1
 unfold rQ
 rw [List.take_add_one,hx,List.zipIdx_append,List.filter_append,List.map_append]
 simp [Nat.min_eq_left (Nat.le_of_lt hi),h]
theorem CY {α:Type} {p:Nat→α→Bool} {l:List α} {n:Nat}:(rQ p l n).length≤n:=by
 unfold rQ
 rw [List.length_map]
 refine Nat.le_trans (List.length_filter_le _ _) ?_
 rw [List.length_zipIdx,List.length_take]; omega
def Lx {α:Type} (p:Nat→α→Bool) (l:List α):List Int:=rQ p l l.length
theorem Nr {α:Type} {p:Nat→α→Bool} {l:List α} {n:Nat} (h:n=l.length):rQ p l n=Lx p l:=by rw [h]; rfl
theorem Hb {α:Type} {p:Nat→α→Bool} {l:List α}:(Lx p l).length=0↔ ∀ (i:Nat) x,l[i]? =some x→p i x=false:=by
 unfold Lx rQ
 rw [List.length_eq_zero_iff,List.take_length]
 exact HE
end
section
theorem zx (p:Int→Bool) (n:Nat): ∃ r:Int,r=((List.range n).findIdx fun (k:Nat)=>p (k:Int):Nat):=⟨_,rfl⟩
noncomputable def fr (p:Int→Bool) (n:Nat):Int:=Classical.choose (zx p n)
theorem rO (p:Int→Bool) (n:Nat):fr p n=((List.range n).findIdx fun (k:Nat)=>p (k:Int):Nat):=Classical.choose_spec (zx p n)
theorem ib {p:Int→Bool} {n:Nat}:0≤fr p n∧fr p n≤n:=by
 rw [rO]
 have:=List.findIdx_le_length (xs:=List.range n) (p:=fun (k:Nat)=>p (k:Int))
 rw [List.length_range] at this
 omega
theorem tY {p:Int→Bool} {n:Nat} {x:Int} (h0:0≤x) (h:x<fr p n):p x=false:=by
 have hb:=ib (p:=p) (n:=n)
 rw [rO] at h
 have B:x.toNat<(List.range n).findIdx fun (k:Nat)=>p (k:Int):=by omega
 have A:=List.not_of_lt_findIdx B
 simp only [List.getElem_range] at A
 rw [show (x.toNat:Int)=x by omega] at A
 simpa using A
theorem yx {p:Int→Bool} {n:Nat} (h:fr p n<n):p (fr p n)=true:=by
 rw [rO] at h ⊢
 have A:((List.range n).findIdx fun (k:Nat)=>p (k:Int))<(List.range n).length:=by rw [List.length_range]; omega
 have:=List.findIdx_getElem (w:=A)
 simpa using this
theorem yw {p:Int→Bool} {n:Nat} {r:Int} (h0:0≤r) (hn:r<n) (hr:p r=true) (hb: ∀ x,0≤x→x<r→p x=false):fr p n=r:=by
 have A:=ib (p:=p) (n:=n)
 rcases Int.lt_trichotomy (fr p n) r with h|h|h
 ·have:=hb _ A.1 h
  have e:=yx (p:=p) (n:=n) om
  rw [e] at this; cases this
 ·exact h
 ·have:=tY h0 h
  rw [hr] at this; cases this
end
section
def oZ (n by_:Int):Int:=(n+by_-1)/by_
/-- by how much a sync may be off -/
def rF (c:au) (at_:Int) (x:cH):Int:=oZ (c.dj*max (at_-x.At) (x.At-at_)) 1000000
def lu (c:au) (at_:Int) (s:aa) (x:cH):aa:=⟨max s.Lo (x.eC.Lo-rF c at_ x),min s.Hi (x.eC.Hi+rF c at_ x)⟩
def gu (c:au) (at_:Int) (k:Nat):aa:=(c.bx.take k).foldl (lu c at_) ⟨-1099511627776,1099511627776⟩
def hU (c:au) (at_:Int):aa:=c.bx.foldl (lu c at_) ⟨-1099511627776,1099511627776⟩
theorem jH {c:au} {at_:Int} {k:Nat} {x:cH} (h:c.bx[k]? =some x):gu c at_ (k+1)=lu c at_ (gu c at_ k) x:=by
 unfold gu; rw [List.take_add_one,h,List.foldl_append]; rfl
theorem nD {c:au} {at_:Int} {k:Nat} (h:c.bx.length≤k):gu c at_ k=hU c at_:=by unfold gu hU; rw [List.take_of_length_le h]
def j4 (c:au) (i:Nat):Int:=if i=0 then-1 else ((c.bx[i-1]?).map (·.At)).getD 0
def fx (c:au) (i:Nat) (x:cH):Prop:=(j4 c i<x.At∧x.At≤86400000)∧ -10000≤x.eC.Lo∧x.eC.Lo≤x.eC.Hi∧x.eC.Hi≤10000
def nj (c:au) (x o:cH):Prop:=x.eC.Lo-o.eC.Hi≤oZ (c.dj*(x.At-o.At)) 1000000∧o.eC.Lo-x.eC.Hi≤oZ (c.dj*(x.At-o.At)) 1000000
structure e8 (c:au):Prop where
 rm:0≤c.dj∧c.dj≤1000
 len:1≤c.bx.length∧c.bx.length≤5
 sync: ∀ (i:Nat) x,c.bx[i]? =some x→fx c i x
 pair: ∀ (i k:Nat) x o,c.bx[i]? =some x→k<i→c.bx[k]? =some o→nj c x o
noncomputable instance (c:au):Decidable (e8 c):=Classical.propDecidable _
theorem gE {c:au} {i:Nat} (h:i=0):j4 c i= -1:=if_pos h
theorem xp {c:au} {i:Nat} {y:cH} (h:0<i) (hy:c.bx[i-1]? =some y):j4 c i=y.At:=by unfold j4; rw [if_neg om,hy]; rfl
theorem nP {c:au} {i:Nat} {y:cH} (hy:c.bx[i]? =some y):j4 c (i+1)=y.At:=by unfold j4; rw [if_neg om,Nat.add_sub_cancel,hy]; rfl
/-- the times of the syncs -/
theorem Ny {c:au} (h: ∀ (i:Nat) x,c.bx[i]? =some x→fx c i x): ∀ (i:Nat) x,c.bx[i]? =some x→0≤x.At∧ ∀ (k:Nat) o,k<i→c.bx[k]? =some o→o.At<x.At:=by
 intro i
 induction i with
 |zero=>
  intro x hx
  have:=(h 0 x hx).1.1
  rw [gE rfl] at this
  exact ⟨om,fun k o hk=>by omega⟩
 |succ i ih=>
  intro x hx
  have hi:=(List.getElem?_eq_some_iff.1 hx).1
  have hy:c.bx[i]? =some (c.bx[i]'om):=ff om
  have B:=ih _ hy
  have A:=(h (i+1) x hx).1.1
  rw [nP hy] at A
  refine ⟨om,fun k o hk ho=>?_⟩
  by_cases e:k=i
  ·subst e; rw [hy] at ho; cases ho; exact A
  ·have:=B.2 k o om ho; omega
theorem e8.uI {c:au} (h:e8 c) {i:Nat} {x:cH} (hx:c.bx[i]? =some x):(0≤x.At∧x.At≤86400000)∧ -10000≤x.eC.Lo∧x.eC.Lo≤x.eC.Hi∧x.eC.Hi≤10000:=by
 have A:=h.sync i x hx
 exact ⟨⟨(Ny h.sync i x hx).1,A.1.2⟩,A.2⟩
theorem FB {d a b:Int} (hd:0≤d∧d≤1000) (ha:0≤a∧a≤90000000) (hb:0≤b∧b≤90000000):0≤d*max (a-b) (b-a)∧d*max (a-b) (b-a)≤90000000000:=by
 have:=Pq (a:=d) (b:=max (a-b) (b-a)) (A:=1000) (B:=90000000) hd.1 hd.2 om om
 omega
theorem tO {c:au} {at_:Int} {x:cH} (hd:0≤c.dj∧c.dj≤1000) (ha:0≤at_∧at_≤90000000) (hx:0≤x.At∧x.At≤86400000):0≤rF c at_ x∧rF c at_ x≤90001:=by
 have h:=FB hd ha (show 0≤x.At∧x.At≤90000000 by omega)
 unfold rF oZ; omega
theorem Cu {c:au} {at_:Int} (h:e8 c) (ha:0≤at_∧at_≤90000000): ∀ k:Nat,(-1099511627776≤(gu c at_ k).Lo∧(gu c at_ k).Lo≤10000)∧ -10000≤(gu c at_ k).Hi∧(gu c at_ k).Hi≤1099511627776:=by
 intro k
 induction k with
 |zero=>simp [gu]
 |succ k ih=>
  cases hx:c.bx[k]? with
  |none=>unfold gu at ih ⊢; rw [List.take_add_one,hx]; simpa using ih
  |some x=>
   have hb:=h.uI hx
   have ho:=tO h.rm ha hb.1
   rw [jH hx]
   unfold lu
   simp only
   omega
theorem qy {c:au} {at_:Int} (h:e8 c) (ha:0≤at_∧at_≤90000000):(-110000≤(hU c at_).Lo∧(hU c at_).Lo≤10000)∧ -10000≤(hU c at_).Hi∧(hU c at_).Hi≤110000:=by
 obtain ⟨n,hn⟩: ∃ n,c.bx.length=n+1:=⟨c.bx.length-1,by have:=h.len; omega⟩
 have hx:c.bx[n]? =some (c.bx[n]'om):=ff om
 have hb:=h.uI hx
 have ho:=tO h.rm ha hb.1
 have A:=Cu h ha n
 rw [← nD (k:=n+1) om,jH hx]
 unfold lu
 simp only
 omega
/-- as time goes on, time and what a clock may be ahead, together, never go back -/
theorem EG {c:au} (h:e8 c) {a b:Int} (ha:0≤a) (hab:a≤b) (hb:b≤90000000): ∀ k:Nat,(a+(gu c a k).Lo≤b+(gu c b k).Lo∨(gu c a k).Lo= -1099511627776)∧a+(gu c a k).Hi≤b+(gu c b k).Hi:=by
 have step: ∀ (x:cH),0≤x.At∧x.At≤86400000→ ∀ a b:Int,0≤a→a≤b→b≤90000000→rF c a x≤rF c b x+(b-a)∧rF c b x≤rF c a x+(b-a):=by
  intro x hx a b ha hab hb
  have hd:=h.rm
  have e: ∀ u v:Int,u≤v+1000000*(b-a)→oZ u 1000000≤oZ v 1000000+(b-a):=by intro u v C; unfold oZ; omega
  have m: ∀ p q:Int,p≤q+(b-a)→c.dj*p≤c.dj*q+1000000*(b-a):=by
   intro p q A
   have D:c.dj*p≤c.dj*(q+(b-a)):=Int.mul_le_mul_of_nonneg_left A hd.1
   have E:c.dj*(q+(b-a))=c.dj*q+c.dj*(b-a):=Int.mul_add _ _ _
   have F:c.dj*(b-a)≤1000*(b-a):=Int.mul_le_mul_of_nonneg_right hd.2 om
   omega
  exact ⟨e _ _ (m _ _ om),e _ _ (m _ _ om)⟩
 intro k
 induction k with
 |zero=>simp [gu]; omega
 |succ k ih=>
  cases hx:c.bx[k]? with
  |none=>
   have e: ∀ t,gu c t (k+1)=gu c t k:=fun t=>by unfold gu; rw [List.take_add_one,hx]; simp
   rw [e,e]; exact ih
  |some x=>
   have hs:=h.uI hx
   have:=step x hs.1 a b ha hab hb
   have B:=tO (at_:=a) h.rm ⟨ha,om⟩ hs.1
   rw [jH hx,jH hx]
   unfold lu
   simp only
   omega
theorem nX {c:au} (h:e8 c) {a b:Int} (ha:0≤a) (hab:a≤b) (hb:b≤90000000):a+(hU c a).Lo≤b+(hU c b).Lo∧a+(hU c a).Hi≤b+(hU c b).Hi:=by
 have A:=EG h ha hab hb c.bx.length
 have B:=qy h (at_:=a) ⟨ha,om⟩
 rw [nD (Nat.le_refl _),nD (Nat.le_refl _)] at A
 omega
noncomputable def lQ (l:bf) (i:Nat):Int:=match l.ag[i]? with
 |some b=>if i=0 then (Mh l.aJ b.mx).Lo else (match l.ag[i-1]? with
  |some a=>(jG l.aJ a.mx b.mx).Lo
  |none=>0)
 |none=>0
theorem yU {l:bf} {b:bG} (h:l.ag[0]? =some b):lQ l 0=(Mh l.aJ b.mx).Lo:=by unfold lQ; rw [h]; rfl
theorem BH {l:bf} {i:Nat} {a b:bG} (hi:0<i) (h:l.ag[i]? =some b) (ha:l.ag[i-1]? =some a):lQ l i=(jG l.aJ a.mx b.mx).Lo:=by unfold lQ; rw [h,ha]; simp only; rw [if_neg om]
def jJ (l:bf) (b:bG):Prop:=fu l.aJ b.mx∧0≤b.jN∧b.jN<(l.ai.length:Int)
def gr (l:bf):Prop:=(1≤l.dG∧l.dG≤5000)∧(1≤(l.ai.length:Int)∧(l.ai.length:Int)≤4)∧(1≤(l.ag.length:Int)∧(l.ag.length:Int)≤6)∧(0≤l.bI∧l.bI≤(l.ag.length:Int)-1)∧(0≤l.cy∧l.cy≤3)∧0≤l.bL∧l.bL≤3
structure kR (l:bf):Prop where
 head:gr l
 clock: ∀ c∈l.ai,e8 c
 vn: ∀ b∈l.ag,jJ l b
 QR: ∀ i,i<l.ag.length→1≤lQ l i
noncomputable instance (l:bf):Decidable (kR l):=Classical.propDecidable _
noncomputable def dx (l:bf):Int:=if cV l.aJ=true then (if kR l then 0 else 50) else 10
theorem yI {l:bf} (h:cV l.aJ=false):dx l=10:=by unfold dx; rw [h]; rfl
theorem p7 {l:bf} (h:cV l.aJ=true) (h2: ¬ kR l):dx l=50:=by unfold dx; rw [if_pos h,if_neg h2]
theorem w9 {l:bf} (h:cV l.aJ=true) (h2:kR l):dx l=0:=by unfold dx; rw [if_pos h,if_pos h2]
theorem gK {l:bf} (h:dx l=0):cV l.aJ=true∧kR l:=by
 unfold dx at h
 split at h
 ·split at h
  ·exact ⟨asm,asm⟩
  ·omega
 ·omega
theorem EW {l:bf} (ht:cV l.aJ=true) (hb: ∀ b∈l.ag,jJ l b) (i:Nat): -400000≤lQ l i∧lQ l i≤400000:=by
 have A:=jP ht
 have hl:=kD ht
 unfold lQ
 cases h:l.ag[i]? with
 |none=>simp
 |some b=>
  have B:=(hb b (aV h)).1
  simp only
  split
  ·have:=Rl A hl B; omega
  ·cases h2:l.ag[i-1]? with
   |none=>simp
   |some a=>
    have C:=(hb a (aV h2)).1
    have:=xC A hl C B
    simp only; omega
def pE (l:bf) (s:aO):au:=((l.ag[s.gl.toNat]?).bind fun b=>l.ai[b.jN.toNat]?).getD ⟨0,[]⟩
def gf (c:au) (r t:Int):Bool:=decide (r≤t+(hU c t).Hi)
def gi (c:au) (r t:Int):Bool:=decide (r<t+(hU c t).Lo)
noncomputable def p9 (c:au) (r:Int):aa:=⟨fr (gf c r) 86400001,fr (gi c r) 86400001-1⟩
noncomputable def cL (l:bf) (s:aO):aa:=p9 (pE l s) s.Read
noncomputable def ei (l:bf) (i:Nat):Int:=oZ (1000*lQ l i) l.dG
end
section
open Go.RowKit
def AQ (n:Int):Int:=IntKind.i64.wrap n
theorem z6 {n:Int} (h:pZ n):AQ n=n:=mL h
theorem Si (n:Int): -9223372036854775808≤AQ n∧AQ n≤9223372036854775807:=by
 unfold AQ
 rw [IntKind.wrap_i64]
 omega
section
variable {P:Program} {t:TypeId} {x y:Operand} {a b:Int}
theorem Qj:g0 P .add t x y (.int .i64 a) (.int .i64 b) (.int .i64 (AQ (a+b))):=fun w=>by simp [eqGuard_add,binOp_add,Op.intArith,AQ]
theorem Jp:g0 P .sub t x y (.int .i64 a) (.int .i64 b) (.int .i64 (AQ (a-b))):=fun w=>by simp [eqGuard_sub,binOp_sub,Op.intArith,AQ]
theorem PO:g0 P .mul t x y (.int .i64 a) (.int .i64 b) (.int .i64 (AQ (a*b))):=fun w=>by simp [eqGuard_mul,binOp_mul,Op.intArith,AQ]
end
/-- divided, and rounded up, as it comes out -/
def SC (n by_:Int):Int:=(AQ (AQ (n+by_)-1)).tdiv by_
theorem Pt {a b:Int} (ha: -9223372036854775808≤a∧a≤9223372036854775807) (hb:2≤b):pZ (a.tdiv b):=by
 have A:a.tdiv b=a/b+if a % b≠0∧a<0 then 1 else 0:=by
  rcases Int.lt_or_le a 0 with h|h
  ·rw [Int.tdiv_eq_ediv]
   have:b.sign=1:=Int.sign_eq_one_of_pos om
   rw [this]
   by_cases hd:b∣a
   ·have:a % b=0:=Int.emod_eq_zero_of_dvd hd
    simp [hd,this]
   ·have:a % b≠0:=fun e=>hd (Int.dvd_of_emod_eq_zero e)
    have hn: ¬ 0≤a:=by omega
    simp [hd,this,h,hn]
  ·rw [Int.tdiv_eq_ediv_of_nonneg h]
   have: ¬ a<0:=by omega
   simp [this]
 have B:a/b*b+a % b=a:=by rw [Int.mul_comm]; exact Int.mul_ediv_add_emod a b
 have C:0≤a % b:=Int.emod_nonneg _ om
 have D:a % b<b:=Int.emod_lt_of_pos _ om
 have E: -9223372036854775808≤a/b∧a/b≤4611686018427387904:=by
  constructor
  ·refine Int.le_ediv_of_mul_le om ?_
   have:(-9223372036854775808:Int)*b≤ -9223372036854775808*1:=Int.mul_le_mul_of_nonpos_left om om
   omega
  ·refine Int.ediv_le_of_le_mul om ?_
   have:(4611686018427387904:Int)*2≤4611686018427387904*b:=Int.mul_le_mul_of_nonneg_left hb om
   omega
 rw [A]
 unfold pZ
 split<;>omega
theorem Qm {n by_:Int} (h0:0≤n) (h1:n≤1000000000000000000) (hb:1≤by_∧by_≤1000000000000):SC n by_=(n+by_-1)/by_:=by
 unfold SC
 rw [z6 (show pZ (n+by_) from ⟨om,om⟩),z6 (show pZ (n+by_-1) from ⟨om,om⟩),Int.tdiv_eq_ediv_of_nonneg om]
end
section
def lU (c:au) (i:Nat) (x:cH) (k:Nat):Prop:=fx c i x∧ ∀ (j:Nat) o,j<k→c.bx[j]? =some o→nj c x o
def rE (c:au) (n:Nat):Prop:= ∀ (i:Nat) x,i<n→c.bx[i]? =some x→lU c i x i
noncomputable instance (c:au) (i:Nat) (x:cH) (k:Nat):Decidable (lU c i x k):=Classical.propDecidable _
instance (c:au) (i:Nat) (x:cH):Decidable (fx c i x):=by unfold fx; infer_instance
theorem Dx {c:au} {i:Nat} {x:cH}:lU c i x 0↔fx c i x:=⟨fun h=>h.1,fun h=>⟨h,fun j o hj=>by omega⟩⟩
theorem rW {c:au} {i k:Nat} {x o:cH} (h:c.bx[k]? =some o):lU c i x (k+1)↔lU c i x k∧nj c x o:=by
 constructor
 ·intro hr
  exact ⟨⟨hr.1,fun j o' hj ho=>hr.2 j o' om ho⟩,hr.2 k o om h⟩
 ·rintro ⟨hr,hp⟩
  refine ⟨hr.1,fun j o' hj ho=>?_⟩
  by_cases e:j=k
  ·subst e; rw [h] at ho; cases ho; exact hp
  ·exact hr.2 j o' om ho
theorem HI {c:au}:rE c 0:=fun i x hi=>by omega
theorem GA {c:au} {i:Nat} {x:cH} (h:rE c i) (hx:c.bx[i]? =some x) (hr:lU c i x i):rE c (i+1):=fun j y hj hy=>by
 by_cases e:j=i
 ·subst e; rw [hx] at hy; cases hy; exact hr
 ·exact h j y om hy
theorem IW {c:au} {i:Nat} {x:cH} (hx:c.bx[i]? =some x) (h: ¬ lU c i x i): ¬ e8 c:=fun hc=>h ⟨hc.sync i x hx,fun j o hj ho=>hc.pair i j x o hx hj ho⟩
theorem G5 {c:au} (h1:0≤c.dj∧c.dj≤1000) (h2:1≤c.bx.length∧c.bx.length≤5) (h:rE c c.bx.length):e8 c:=
 ⟨h1,h2,fun i x hx=>(h i x (List.getElem?_eq_some_iff.1 hx).1 hx).1,fun i k x o hx hk ho=>(h i x (List.getElem?_eq_some_iff.1 hx).1 hx).2 k o hk ho⟩
/-- syncs so far -/
theorem ug {c:au} {n:Nat} (h: ∀ (i:Nat) x,i<n→c.bx[i]? =some x→fx c i x): ∀ (i:Nat) x,i<n→c.bx[i]? =some x→0≤x.At∧ ∀ (k:Nat) o,k<i→c.bx[k]? =some o→o.At<x.At:=by
 intro i
 induction i with
 |zero=>
  intro x hn hx
  have:=(h 0 x hn hx).1.1
  rw [gE rfl] at this
  exact ⟨om,fun k o hk=>by omega⟩
 |succ i ih=>
  intro x hn hx
  have hi:=(List.getElem?_eq_some_iff.1 hx).1
  have hy:c.bx[i]? =some (c.bx[i]'om):=ff om
  have B:=ih _ om hy
  have A:=(h (i+1) x hn hx).1.1
  rw [nP hy] at A
  refine ⟨om,fun k o hk ho=>?_⟩
  by_cases e:k=i
  ·subst e; rw [hy] at ho; cases ho; exact A
  ·have:=B.2 k o om ho; omega
theorem L8 {c:au} {i:Nat} (hi:i≤c.bx.length) (h: ∀ (j:Nat) y,j<i→c.bx[j]? =some y→fx c j y): -1≤j4 c i∧j4 c i≤86400000:=by
 cases i with
 |zero=>rw [gE rfl]; omega
 |succ i=>
  have hy:c.bx[i]? =some (c.bx[i]'om):=ff om
  have A:=(ug (n:=i+1) h i _ om hy).1
  have B:=(h i _ om hy).1.2
  rw [nP hy]; omega
theorem Qs {c:au} {i:Nat} (hi:i≤c.bx.length) (h:rE c i): -1≤j4 c i∧j4 c i≤86400000:=L8 hi fun j y hj hy=>(h j y hj hy).1
theorem uG {c:au} {i k:Nat} {x o:cH} (hs: ∀ (j:Nat) y,j<i→c.bx[j]? =some y→fx c j y) (hx:c.bx[i]? =some x) (hok:fx c i x) (hk:k<i) (ho:c.bx[k]? =some o):
 (0≤o.At∧o.At<x.At∧x.At≤86400000)∧(-10000≤x.eC.Lo∧x.eC.Lo≤x.eC.Hi∧x.eC.Hi≤10000)∧ -10000≤o.eC.Lo∧o.eC.Lo≤o.eC.Hi∧o.eC.Hi≤10000:=by
 have h: ∀ (j:Nat) y,j<i+1→c.bx[j]? =some y→fx c j y:=fun j y hj hy=>by
  by_cases e:j=i
  ·subst e; rw [hx] at hy; cases hy; exact hok
  ·exact hs j y om hy
 have A:=(ug h i x om hx).2 k o hk ho
 have B:=(ug h k o om ho).1
 exact ⟨⟨B,A,hok.1.2⟩,hok.2,(h k o om ho).2⟩
theorem Nv {d a b:Int} (hd:0≤d∧d≤1000) (h:0≤b∧b<a∧a≤86400000):SC (AQ (d*AQ (a-b))) 1000000=oZ (d*(a-b)) 1000000:=by
 have C:0≤d*(a-b)∧d*(a-b)≤90000000000:=by
  have:=Pq (a:=d) (b:=a-b) (A:=1000) (B:=90000000) hd.1 hd.2 om om
  omega
 rw [z6 (show pZ (a-b) from ⟨om,om⟩),z6 (show pZ (d*(a-b)) from ⟨om,om⟩),Qm C.1 om om]
 rfl
/-- what is asked of a line, however wrong it is -/
structure eE (l:bf) (asl:List RA):Prop where
 si:l.aJ.length≤1000000
 side: ∀ x∈l.aJ,0≤x.iT∧x.iT≤255
 sh:l.ai.length≤1000000
 nO:asl.length=l.ai.length
 sf:l.ag.length≤1000000
 QQ: ∀ (k:Nat) m (a:RA),l.ai[k]? =some m→asl[k]? =some a→m.bx.length≤a.2∧m.bx.length≤1000000
noncomputable instance (l:bf):Decidable (gr l):=by unfold gr; infer_instance
noncomputable instance (l:bf) (b:bG):Decidable (jJ l b):=Classical.propDecidable _
theorem yN {l:bf} (h:gr l) (h2: ∀ c∈l.ai,e8 c) (h3: ∀ b∈l.ag,jJ l b) (h4: ∀ i,i<l.ag.length→1≤lQ l i):kR l:=⟨h,h2,h3,h4⟩
theorem Dk {l:bf}:((!(l.ai.any fun m=> !decide (e8 m)))=true)↔ ∀ c∈l.ai,e8 c:=by simp
theorem GY {l:bf}:((!(l.ag.any fun b=> !decide (jJ l b)))=true)↔ ∀ b∈l.ag,jJ l b:=by simp
theorem kG {c:au} (h:e8 c) {r x:Int} (h0:0≤x) (h1:x<86400001):
 (x<fr (gf c r) 86400001→gf c r x=false)∧(fr (gf c r) 86400001≤x→gf c r x=true)∧(x<fr (gi c r) 86400001→gi c r x=false)∧(fr (gi c r) 86400001≤x→gi c r x=true):=by
 have up: ∀ (q:Int→Bool),(∀ a b,0≤a→a≤b→b<86400001→q a=true→q b=true)→fr q 86400001≤x→q x=true:=fun q hq hx=>by
  have hb:=ib (p:=q) (n:=86400001)
  exact hq _ _ hb.1 hx h1 (yx om)
 refine ⟨tY h0,up _ fun a b ha A hb hq=>?_,tY h0,up _ fun a b ha A hb hq=>?_⟩
 ·have:=nX h ha A om
  simp only [gf,decide_eq_true_eq] at hq ⊢; omega
 ·have:=nX h ha A om
  simp only [gi,decide_eq_true_eq] at hq ⊢; omega
theorem xL {l:bf} {s:aO} {b:bG} {c:au} (hb:l.ag[s.gl.toNat]? =some b) (hc:l.ai[b.jN.toNat]? =some c):pE l s=c:=by
 unfold pE; rw [hb]; simp only [Option.bind_some]; rw [hc]; rfl
end
section
def my (sg:List aO) (i:Nat):aO:=if i=0 then ⟨-1,0⟩ else (sg[i-1]?).getD ⟨-1,0⟩
theorem pn {sg:List aO} {i:Nat} {s:aO} (h:sg[i]? =some s):my sg (i+1)=s:=by unfold my; rw [if_neg om,Nat.add_sub_cancel,h]; rfl
def kT (l:bf) (s:aO):Prop:=(0≤s.gl∧s.gl≤(l.ag.length:Int)-1)∧0≤s.Read∧s.Read≤86400000
def j2 (l:bf) (sg:List aO) (i:Nat) (s:aO):Prop:=kT l s∧ ¬ s.gl<(my sg i).gl∧ ¬ (s.gl=(my sg i).gl∧s.Read≤(my sg i).Read)
def qf (l:bf) (sg:List aO) (i:Nat):Prop:= ∀ (j:Nat) s,j<i→sg[j]? =some s→j2 l sg j s
structure fm (l:bf) (r:cG):Prop where
 time:0≤r.Start∧r.Start≤r.gj∧r.gj≤86400000
 len:r.aj.length≤10
 sig: ∀ (i:Nat) s,r.aj[i]? =some s→j2 l r.aj i s
noncomputable instance (l:bf) (r:cG):Decidable (fm l r):=Classical.propDecidable _
theorem yr {l:bf} {sg:List aO}:qf l sg 0:=fun j s hj=>absurd hj (Nat.not_lt_zero _)
theorem lL {l:bf} {sg:List aO} {i:Nat} {s:aO} (h:qf l sg i) (hs:sg[i]? =some s) (ho:j2 l sg i s):qf l sg (i+1):=fun j z hj hz=>by
 rcases Nat.lt_or_ge j i with q|q
 ·exact h j z q hz
 ·obtain rfl:j=i:=by omega
  rw [hs] at hz; cases hz; exact ho
theorem Bx {l:bf} {r:cG} {i:Nat} (h1:0≤r.Start∧r.Start≤r.gj∧r.gj≤86400000) (h2:r.aj.length≤10) (h:qf l r.aj i) (hi:r.aj.length≤i):fm l r:=
 ⟨h1,h2,fun j s hs=>h j s (by have:=(List.getElem?_eq_some_iff.1 hs).1; omega) hs⟩
noncomputable def nE (l:bf) (sg:List aO) (b k:Nat):Option (Int×aa):=(sg[k]?).bind fun s=>if s.gl=(b:Int)∧(cL l s).Lo≤(cL l s).Hi then some ((k:Int),cL l s) else none
noncomputable def kx (l:bf) (sg:List aO) (i b:Nat):TM:=(List.range i).filterMap (nE l sg b)
noncomputable def eg (l:bf) (sg:List aO) (i:Nat):List TM:=(List.range l.ag.length).map (kx l sg i)
noncomputable def cO (l:bf) (n:Nat):List Int:=(List.range n).map (ei l)
theorem u_ {l:bf} {n:Nat}:cO l (n+1)=cO l n++[ei l n]:=by simp [cO,List.range_succ]
theorem ep {l:bf} {n:Nat}:(cO l n).length=n:=by simp [cO]
theorem ji {l:bf} {sg:List aO} {i:Nat}:(eg l sg i).length=l.ag.length:=by simp [eg]
theorem oN {l:bf} {sg:List aO} {i b:Nat} (h:b<l.ag.length):(eg l sg i)[b]? =some (kx l sg i b):=by simp [eg,h]
theorem o8 {l:bf} {sg:List aO} {b k:Nat} {q:Int×aa}:nE l sg b k=some q↔ ∃ s,sg[k]? =some s∧(s.gl=(b:Int)∧(cL l s).Lo≤(cL l s).Hi)∧q=((k:Int),cL l s):=by
 unfold nE
 cases h:sg[k]? with
 |none=>simp
 |some s=>
  simp only [Option.bind_some,Option.some.injEq]
  by_cases e:s.gl=(b:Int)∧(cL l s).Lo≤(cL l s).Hi
  ·rw [if_pos e]
   constructor
   ·intro h; cases h; exact ⟨s,rfl,e,rfl⟩
   ·rintro ⟨s',rfl,_,rfl⟩; rfl
  ·rw [if_neg e]
   constructor
   ·intro h; cases h
   ·rintro ⟨s',rfl,e',_⟩; exact absurd e' e
theorem rL {l:bf} {sg:List aO} {i b:Nat} {q:Int×aa}:q∈kx l sg i b↔ ∃ k,k<i∧ ∃ s,sg[k]? =some s∧(s.gl=(b:Int)∧(cL l s).Lo≤(cL l s).Hi)∧q=((k:Int),cL l s):=by
 unfold kx
 simp only [List.mem_filterMap,List.mem_range,o8]
theorem kN {l:bf} {sg:List aO} {i b:Nat}:kx l sg (i+1) b=kx l sg i b++(nE l sg b i).toList:=by
 unfold kx
 rw [List.range_succ,List.filterMap_append]
 congr 1
theorem Dy {l:bf} {sg:List aO}:eg l sg 0=List.replicate l.ag.length []:=by
 unfold eg
 rw [List.eq_replicate_iff]
 refine ⟨sm,fun t ht=>?_⟩
 obtain ⟨b,_,rfl⟩:=List.mem_map.1 ht
 rfl
theorem xY {l:bf} {sg:List aO} {i:Nat} {s:aO} (hs:sg[i]? =some s) (h: ¬ (cL l s).Lo≤(cL l s).Hi):eg l sg (i+1)=eg l sg i:=by
 unfold eg
 apply List.map_congr_left
 intro b _
 rw [kN]
 have:nE l sg b i=none:=by
  cases e:nE l sg b i with
  |none=>rfl
  |some q=>obtain ⟨s',A,⟨_,B⟩,_⟩:=o8.1 e; rw [hs] at A; cases A; exact absurd B h
 rw [this]; simp
theorem yT {l:bf} {sg:List aO} {i:Nat} {s:aO} (hs:sg[i]? =some s) (hb:0≤s.gl∧s.gl≤(l.ag.length:Int)-1) (h:(cL l s).Lo≤(cL l s).Hi) {x:TM} (hx:(eg l sg i)[s.gl.toNat]? =some x):
 (eg l sg i).set s.gl.toNat (eh x (i:Int) (cL l s))=eg l sg (i+1):=by
 have A:s.gl.toNat<l.ag.length:=by omega
 rw [oN A] at hx
 cases hx
 have B:eh (kx l sg i s.gl.toNat) (i:Int) (cL l s)=kx l sg (i+1) s.gl.toNat:=by
  have hn:(kx l sg i s.gl.toNat).lookup (i:Int)=none:=iD.2 fun p hp e=>by
   obtain ⟨k,hk,_,_,_,rfl⟩:=rL.1 hp
   simp only at e; omega
  have ho:nE l sg s.gl.toNat i=some ((i:Int),cL l s):=o8.2 ⟨s,hs,⟨om,h⟩,rfl⟩
  rw [kN,ho]
  unfold eh; rw [hn]; rfl
 rw [B]
 apply List.ext_getElem?
 intro b
 rw [List.getElem?_set]
 by_cases e:s.gl.toNat=b
 ·rw [if_pos e,ji,← e,if_pos A,oN A]
 ·rw [if_neg e]
  by_cases hb':b<l.ag.length
  ·rw [oN hb',oN hb',kN]
   have:nE l sg b i=none:=by
    cases e2:nE l sg b i with
    |none=>rfl
    |some q=>obtain ⟨s',C,⟨D,_⟩,_⟩:=o8.1 e2; rw [hs] at C; cases C; exact absurd om e
   rw [this]; simp
  ·rw [List.getElem?_eq_none (by rw [ji]; omega),List.getElem?_eq_none (by rw [ji]; omega)]
noncomputable def ct (l:bf) (r:cG):bU:=⟨r.Start,r.gj,cO l l.ag.length,eg l r.aj r.aj.length,l.bL,l.cy,(r.aj.length:Int)⟩
theorem KH {l:bf} (ht:cV l.aJ=true) (h:kR l) {i:Nat} (hi:i<l.ag.length):1≤ei l i∧ei l i≤500000000:=by
 have A:=EW ht h.vn i
 have B:=h.QR i hi
 have C:=h.head.1
 unfold ei oZ
 refine ⟨(Int.le_ediv_iff_mul_le om).2 om,?_⟩
 have:(1000*lQ l i+l.dG-1)/l.dG≤1000*lQ l i+l.dG-1:=Int.ediv_le_self _ om
 omega
theorem N9 (l:bf) (s:aO):0≤(cL l s).Lo∧(cL l s).Hi≤86400000:=by
 have A:=ib (p:=gf (pE l s) s.Read) (n:=86400001)
 have B:=ib (p:=gi (pE l s) s.Read) (n:=86400001)
 unfold cL p9
 simp only
 omega
theorem oI {l:bf} {r:cG} (ht:cV l.aJ=true) (h:kR l) (hr:fm l r):Gu (ct l r):=by
 have hh:=h.head
 unfold gr at hh
 refine ⟨?_,by simp [ct,ji,bU.n,ep],hr.time,fun x hx=>?_,fun t A p hp=>?_⟩
 ·show (cO l l.ag.length).length≤6
  rw [ep]; omega
 ·obtain ⟨i,hi,rfl⟩:=List.mem_map.1 hx
  exact KH ht h (List.mem_range.1 hi)
 ·obtain ⟨b,hb,rfl⟩:=List.mem_map.1 A
  obtain ⟨k,hk,s,hs,⟨_,B⟩,rfl⟩:=rL.1 hp
  have C:=N9 l s
  have D:=hr.len
  simp only
  omega
noncomputable def eH (l:bf) (r:cG) (me:Int):Int:=if dx l=0 then (if fm l r then (if me=0 then (if jx (ct l r)=[] then 8 else 0) else me) else 51) else dx l
theorem nY {l:bf} {r:cG} {me:Int} (h: ¬ dx l=0):eH l r me=dx l:=if_neg h
theorem jc {l:bf} {r:cG} {me:Int} (h:dx l=0) (h2: ¬ fm l r):eH l r me=51:=by unfold eH; rw [if_pos h,if_neg h2]
theorem qm {l:bf} {r:cG} {me:Int} (h:dx l=0) (h2:fm l r) (h3: ¬ me=0):eH l r me=me:=by unfold eH; rw [if_pos h,if_pos h2,if_neg h3]
theorem o6 {l:bf} {r:cG} {me:Int} (h:dx l=0) (h2:fm l r) (h3:me=0) (h4:jx (ct l r)=[]):eH l r me=8:=by unfold eH; rw [if_pos h,if_pos h2,if_pos h3,if_pos h4]
theorem lD {l:bf} {r:cG} {me:Int} (h:dx l=0) (h2:fm l r) (h3:me=0) (h4: ¬ jx (ct l r)=[]):eH l r me=0:=by unfold eH; rw [if_pos h,if_pos h2,if_pos h3,if_neg h4]
theorem jM {l:bf} {r:cG} {me:Int} (h:eH l r me=0):dx l=0∧fm l r∧me=0∧ ¬ jx (ct l r)=[]:=by
 unfold eH at h
 split at h
 ·split at h
  ·split at h
   ·split at h
    ·omega
    ·exact ⟨asm,asm,asm,asm⟩
   ·omega
  ·omega
 ·omega
end
section
def wD (l:List Int):Int:=(l.drop 1).foldl min (l.headD 0)
def Ex (l:List Int):Int:=(l.drop 1).foldl max (l.headD 0)
theorem Bs: ∀ (l:List Int) (a:Int),(l.foldl min a=a∨l.foldl min a∈l)∧l.foldl min a≤a∧ ∀ x∈l,l.foldl min a≤x
 |[],a=>⟨.inl rfl,sm,sm⟩
 |y::l,a=>by
  obtain ⟨A,C,B⟩:=Bs l (min a y)
  simp only [List.foldl_cons]
  refine ⟨?_,om,?_⟩
  ·rcases A with A|A
   ·rw [A]
    rcases Int.le_total a y with q|q
    ·left; omega
    ·right; rw [show min a y=y by omega]; simp
   ·right; exact cW _ A
  ·intro x hx
   rcases List.mem_cons.1 hx with rfl|hx
   ·omega
   ·exact B x hx
theorem Cd: ∀ (l:List Int) (a:Int),(l.foldl max a=a∨l.foldl max a∈l)∧a≤l.foldl max a∧ ∀ x∈l,x≤l.foldl max a
 |[],a=>⟨.inl rfl,sm,sm⟩
 |y::l,a=>by
  obtain ⟨A,C,B⟩:=Cd l (max a y)
  simp only [List.foldl_cons]
  refine ⟨?_,om,?_⟩
  ·rcases A with A|A
   ·rw [A]
    rcases Int.le_total a y with q|q
    ·right; rw [show max a y=y by omega]; simp
    ·left; omega
   ·right; exact cW _ A
  ·intro x hx
   rcases List.mem_cons.1 hx with rfl|hx
   ·omega
   ·exact B x hx
theorem Gf {l:List Int} (h:l≠[]):wD l∈l∧ ∀ x∈l,wD l≤x:=by
 cases l with
 |nil=>exact absurd rfl h
 |cons y ys=>
  obtain ⟨A,B,C⟩:=Bs ys y
  refine ⟨?_,fun x hx=>?_⟩
  ·rcases A with A|A
   ·simp [wD,A]
   ·exact cW _ (by simpa [wD] using A)
  ·rcases List.mem_cons.1 hx with rfl|hx
   ·simpa [wD] using B
   ·simpa [wD] using C x hx
theorem Oq {l:List Int} (h:l≠[]):Ex l∈l∧ ∀ x∈l,x≤Ex l:=by
 cases l with
 |nil=>exact absurd rfl h
 |cons y ys=>
  obtain ⟨A,B,C⟩:=Cd ys y
  refine ⟨?_,fun x hx=>?_⟩
  ·rcases A with A|A
   ·simp [Ex,A]
   ·exact cW _ (by simpa [Ex] using A)
  ·rcases List.mem_cons.1 hx with rfl|hx
   ·simpa [Ex] using B
   ·simpa [Ex] using C x hx
noncomputable def kW (l:bf) (r:cG):List Int:=if eH l r 0=0 then jx (ct l r) else []
theorem ly {l:bf} {r:cG} (h:eH l r 0=0):kW l r=jx (ct l r):=if_pos h
theorem uD {l:bf} {r:cG} (h: ¬ eH l r 0=0):kW l r=[]:=if_neg h
theorem uq {l:bf} {r:cG} (h:eH l r 0=0):kW l r≠[]:=by rw [ly h]; exact (jM h).2.2.2
noncomputable def DZ (l:bf) (r:cG):Int:=if eH l r 0=0 then (if l.bI<wD (kW l r) then 2 else if Ex (kW l r)≤l.bI then 0 else 1) else 0
noncomputable def jw (l:bf) (b:Int):Int:=if 0≤b∧b≤(l.ag.length:Int)-1 then 0 else 2
theorem wP {l:bf} {b:Int} (h:0≤b∧b≤(l.ag.length:Int)-1):jw l b=0:=if_pos h
theorem EJ {l:bf} {b:Int} (h:jw l b=0):0≤b∧b≤(l.ag.length:Int)-1:=by
 unfold jw at h
 split at h
 ·assumption
 ·omega
noncomputable def mj (l:bf) (r:cG) (b:Nat):aa:=uU (l3 (ct l r) b)
noncomputable def eV (l:bf) (r:cG) (b:Int):Int:=if eH l r (jw l b)=0 then (if mj l r b.toNat=l0 then 6 else 0) else eH l r (jw l b)
noncomputable def e7 (l:bf) (r:cG) (b:Int):aa:=if eV l r b=0 then mj l r b.toNat else dA
theorem ni {l:bf} {r:cG} {b:Int} (h: ¬ eH l r (jw l b)=0):eV l r b=eH l r (jw l b)∧e7 l r b=dA:=by
 have e:eV l r b=eH l r (jw l b):=if_neg h
 exact ⟨e,by unfold e7; rw [if_neg (by rw [e]; exact h)]⟩
theorem qB {l:bf} {r:cG} {b:Nat} (h:eH l r (jw l b)=0) (h2:mj l r b=l0):eV l r b=6∧e7 l r b=dA:=by
 have e:eV l r b=6:=by unfold eV; rw [if_pos h,Int.toNat_natCast,if_pos h2]
 exact ⟨e,by unfold e7; rw [if_neg (by rw [e]; omega)]⟩
theorem n8 {l:bf} {r:cG} {b:Nat} (h:eH l r (jw l b)=0) (h2: ¬ mj l r b=l0):eV l r b=0∧e7 l r b=mj l r b:=by
 have e:eV l r b=0:=by unfold eV; rw [if_pos h,Int.toNat_natCast,if_neg h2]
 exact ⟨e,by unfold e7; rw [if_pos e,Int.toNat_natCast]⟩
theorem Jw {w:bU} (h:Gu w) {b:Nat} {q:Int×aa} (hq:q∈l3 w b):0≤q.2.Lo∧q.2.Lo≤q.2.Hi∧q.2.Hi≤86400000:=by
 have A:=mB hq
 obtain ⟨o,ho,p,hp,u,hu,e⟩:=g9.1 hq
 obtain ⟨_,_,rfl⟩:=jm.1 e
 have B:=h.opt ho
 simp only [jo] at A ⊢
 omega
theorem wV {l:bf} {r:cG} {b:Int} (h:eV l r b=0):0≤(e7 l r b).Lo∧(e7 l r b).Lo≤(e7 l r b).Hi∧(e7 l r b).Hi≤86400000:=by
 have ho:eH l r (jw l b)=0:=by
  by_cases e:eH l r (jw l b)=0
  ·exact e
  ·rw [(ni e).1] at h; exact absurd h e
 obtain ⟨B,C,_⟩:=jM ho
 obtain ⟨ht,A⟩:=gK B
 have hw:=oI ht A C
 have hv:e7 l r b=mj l r b.toNat:=by unfold e7; rw [if_pos h]
 have hn:mj l r b.toNat≠l0:=fun e=>by unfold eV at h; rw [if_pos ho,if_pos e] at h; omega
 have hh:=ur (l:=l3 (ct l r) b.toNat) fun q hq=>mB hq
 rw [hv]
 unfold mj at hn ⊢
 rcases hh with ⟨_,e⟩|hh
 ·exact absurd e hn
 ·obtain ⟨x,hx,ex⟩:=hh.lo
  obtain ⟨y,hy,ey⟩:=hh.hi
  have:=Jw hw hx
  have:=Jw hw hy
  have:=hh.le
  omega
noncomputable def Aw (l:bf) (r:cG):aa:=if eV l r l.bI=0 then ⟨(e7 l r l.bI).Lo-r.Start,(e7 l r l.bI).Hi-r.Start⟩ else dA
theorem AK {l:bf} {r:cG} (h:eV l r l.bI=0):Aw l r=⟨(e7 l r l.bI).Lo-r.Start,(e7 l r l.bI).Hi-r.Start⟩:=if_pos h
theorem Er {l:bf} {r:cG} (h: ¬ eV l r l.bI=0):Aw l r=dA:=if_neg h
theorem uT {l:bf} {r:cG} {b:Int} (h:eV l r b=0):fm l r:=by
 by_cases e:eH l r (jw l b)=0
 ·exact (jM e).2.1
 ·rw [(ni e).1] at h; exact absurd h e
theorem ze {k:List (Int×aa)} {h:aa} {q:Int×aa} {z:aa} (hh:j9 k h) (hq:q.2.Lo≤q.2.Hi) (hz:l5 h q.2=z):j9 (k++[q]) z:=by subst hz; exact t_ hh hq
end
section
set_option maxRecDepth 20000
def Ru:ao:=⟨1,⟨10000,10200⟩,⟨0,100⟩,⟨0,0⟩,0,0⟩
def yf:au:=⟨100,[⟨0,⟨0,2⟩⟩,⟨100000,⟨5,6⟩⟩]⟩
def QN (o:Int):bG:=⟨⟨0,⟨o,o⟩⟩,0⟩
def nI (f:Int):bf:=⟨[Ru],2000,[yf],[QN 1000,QN 4000,QN 9000],1,f,1⟩
def mu:cG:=⟨10000,20000,[⟨0,10600⟩,⟨0,11000⟩,⟨1,12600⟩]⟩
theorem Lg:cV [Ru]=true:=by decide
theorem xd:e8 yf:=by
 have hi: ∀ (i:Nat) (x:cH),yf.bx[i]? =some x→i=0∧x=⟨0,⟨0,2⟩⟩∨i=1∧x=⟨100000,⟨5,6⟩⟩:=fun i x h=>by
  match i with
  |0=>left; simp [yf] at h; exact ⟨rfl,h.symm⟩
  |1=>right; simp [yf] at h; exact ⟨rfl,h.symm⟩
  |n+2=>simp [yf] at h
 refine ⟨dc,dc,fun i x hx=>?_,fun i k x o hx hk ho=>?_⟩
 ·rcases hi i x hx with ⟨rfl,rfl⟩|⟨rfl,rfl⟩<;>(unfold fx; decide)
 ·rcases hi i x hx with ⟨rfl,rfl⟩|⟨rfl,rfl⟩
  ·omega
  ·rcases hi k o ho with ⟨rfl,rfl⟩|⟨rfl,rfl⟩
   ·unfold nj; decide
   ·omega
theorem Aq {o:Int} (h:0≤o∧o<10000):fu [Ru] ⟨0,⟨o,o⟩⟩:=⟨sm,Ru,rfl,by show o≤o∧0≤o∧o≤10000-1; omega⟩
theorem Od {f:Int} (hf:0≤f∧f≤3):kR (nI f):=by
 refine ⟨?_,fun c hc=>?_,fun b hb=>?_,fun i hi=>?_⟩
 ·unfold gr; simp [nI]; omega
 ·simp [nI] at hc; subst hc; exact xd
 ·simp [nI] at hb
  rcases hb with rfl|rfl|rfl
  ·exact ⟨Aq om,by simp [QN,nI]⟩
  ·exact ⟨Aq om,by simp [QN,nI]⟩
  ·exact ⟨Aq om,by simp [QN,nI]⟩
 ·have A:i<3:=hi
  have:i=0∨i=1∨i=2:=by omega
  rcases this with rfl|rfl|rfl
  ·show (1:Int)≤lQ (nI 0) 0; decide
  ·show (1:Int)≤lQ (nI 0) 1; decide
  ·show (1:Int)≤lQ (nI 0) 2; decide
def mC:bf:=nI 1
theorem OW:dx mC=0:=w9 Lg (Od om)
theorem AI {r x:Int} (h0:0<x) (h1:x≤86400000) (hy:gf yf r x=true) (hn:gf yf r (x-1)=false):fr (gf yf r) 86400001=x:=
 yw om om hy fun z hz A=>by
  cases e:gf yf r z with
  |false=>rfl
  |true=>
   unfold gf at e hn
   have:=(nX xd hz (show z≤x-1 by omega) om).2
   have B:=of_decide_eq_true e
   have C:=of_decide_eq_false hn
   omega
theorem zG {r x:Int} (h0:0<x) (h1:x≤86400000) (hy:gi yf r x=true) (hn:gi yf r (x-1)=false):fr (gi yf r) 86400001=x:=
 yw om om hy fun z hz A=>by
  cases e:gi yf r z with
  |false=>rfl
  |true=>
   unfold gi at e hn
   have:=(nX xd hz (show z≤x-1 by omega) om).1
   have B:=of_decide_eq_true e
   have C:=of_decide_eq_false hn
   omega
theorem Ss:p9 yf 10600=⟨10596,10602⟩:=by unfold p9; rw [AI (x:=10596) om om dc dc,zG (x:=10603) om om dc dc]; rfl
theorem Su:p9 yf 11000=⟨10996,11002⟩:=by unfold p9; rw [AI (x:=10996) om om dc dc,zG (x:=11003) om om dc dc]; rfl
theorem Rt:p9 yf 12600=⟨12596,12602⟩:=by unfold p9; rw [AI (x:=12596) om om dc dc,zG (x:=12603) om om dc dc]; rfl
def So (f:Int):bU:=⟨10000,20000,[500,1500,2500],[[(0,⟨10596,10602⟩),(1,⟨10996,11002⟩)],[(2,⟨12596,12602⟩)],[]],1,f,3⟩
theorem Q7 (f:Int):cL (nI f) ⟨0,10600⟩=⟨10596,10602⟩:=Ss
theorem Th (f:Int):cL (nI f) ⟨0,11000⟩=⟨10996,11002⟩:=Su
theorem Rm (f:Int):cL (nI f) ⟨1,12600⟩=⟨12596,12602⟩:=Rt
theorem L7 (f:Int):eg (nI f) mu.aj 3=[[(0,⟨10596,10602⟩),(1,⟨10996,11002⟩)],[(2,⟨12596,12602⟩)],[]]:=by
 have o: ∀ b:Nat,kx (nI f) mu.aj 3 b=(nE (nI f) mu.aj b 0).toList++((nE (nI f) mu.aj b 1).toList++(nE (nI f) mu.aj b 2).toList):=fun b=>by
  rw [kN,kN,kN]; simp [kx]
 have A: ∀ b:Nat,nE (nI f) mu.aj b 0=if (0:Int)=(b:Int) then some (0,⟨10596,10602⟩) else none:=fun b=>by
  show (if (0:Int)=(b:Int)∧(cL (nI f) ⟨0,10600⟩).Lo≤(cL (nI f) ⟨0,10600⟩).Hi then some ((0:Int),cL (nI f) ⟨0,10600⟩) else none)=_
  rw [Q7]; by_cases h:(0:Int)=(b:Int)
  ·rw [if_pos h,if_pos ⟨h,dc⟩]<;>rfl
  ·rw [if_neg h,if_neg fun q=>h q.1]
 have B: ∀ b:Nat,nE (nI f) mu.aj b 1=if (0:Int)=(b:Int) then some (1,⟨10996,11002⟩) else none:=fun b=>by
  show (if (0:Int)=(b:Int)∧(cL (nI f) ⟨0,11000⟩).Lo≤(cL (nI f) ⟨0,11000⟩).Hi then some ((1:Int),cL (nI f) ⟨0,11000⟩) else none)=_
  rw [Th]; by_cases h:(0:Int)=(b:Int)
  ·rw [if_pos h,if_pos ⟨h,dc⟩]<;>rfl
  ·rw [if_neg h,if_neg fun q=>h q.1]
 have C: ∀ b:Nat,nE (nI f) mu.aj b 2=if (1:Int)=(b:Int) then some (2,⟨12596,12602⟩) else none:=fun b=>by
  show (if (1:Int)=(b:Int)∧(cL (nI f) ⟨1,12600⟩).Lo≤(cL (nI f) ⟨1,12600⟩).Hi then some ((2:Int),cL (nI f) ⟨1,12600⟩) else none)=_
  rw [Rm]; by_cases h:(1:Int)=(b:Int)
  ·rw [if_pos h,if_pos ⟨h,dc⟩]<;>rfl
  ·rw [if_neg h,if_neg fun q=>h q.1]
 show [kx (nI f) mu.aj 3 0,kx (nI f) mu.aj 3 1,kx (nI f) mu.aj 3 2]=_
 rw [o,o,o,A,A,A,B,B,B,C,C,C]
 rfl
theorem B4 (f:Int):ct (nI f) mu=So f:=by
 unfold ct So
 rw [show mu.aj.length=3 from rfl,L7]
 rfl
theorem Of (f:Int):fm (nI f) mu:=by
 refine ⟨dc,dc,fun i s hs=>?_⟩
 match i with
 |0=>simp [mu] at hs; subst hs; unfold j2 kT; simp [nI,my]
 |1=>simp [mu] at hs; subst hs; unfold j2 kT; simp [nI,my,mu]
 |2=>simp [mu] at hs; subst hs; unfold j2 kT; simp [nI,my,mu]
 |n+3=>simp [mu] at hs
theorem Iq:jx (ct mC mu)=[2,3]:=by rw [show ct mC mu=So 1 from B4 1]; decide
theorem LC:eH mC mu 0=0:=lD OW (Of 1) rfl (by rw [Iq]; decide)
theorem JO {b:Nat} (hb:b<3):eH mC mu (jw mC b)=0:=by rw [wP (by show 0≤(b:Int)∧(b:Int)≤3-1; omega)]; exact LC
theorem NZ {b:Nat} {z:aa} (hb:b<3) (hz:uU (l3 (So 1) b)=z) (hn:z≠l0):eV mC mu b=0∧e7 mC mu b=z:=by
 have e:mj mC mu b=z:=by unfold mj; rw [show ct mC mu=So 1 from B4 1]; exact hz
 have h:=n8 (JO hb) (by rw [e]; exact hn)
 exact ⟨h.1,h.2.trans e⟩
theorem wR:eV mC mu 1=0∧e7 mC mu 1=⟨12596,12602⟩:=NZ (b:=1) om dc dc
theorem EB:eV mC mu mC.bI=0∧Aw mC mu=⟨2596,2602⟩:=by
 refine ⟨wR.1,?_⟩
 rw [AK (l:=mC) (r:=mu) wR.1]
 rw [show e7 mC mu mC.bI=⟨12596,12602⟩ from wR.2]
 rfl
theorem Rj (f:Int) {a:OA} {c:Nat} (hc:2≤c):eE (nI f) [(a,c)]:=by
 refine ⟨by simp [nI],?_,by simp [nI],U,by simp [nI],fun k m a' hm ha=>?_⟩
 ·intro x hx; simp [nI] at hx; subst hx; simp [Ru]
 ·match k with
  |0=>simp [nI] at hm ha; subst hm; subst ha; simp [yf]; exact hc
  |n+1=>simp at ha
end
section
def mq (l:bf):Prop:=(20<(l.aJ.length:Int)∨8<(l.ai.length:Int)∨10<(l.ag.length:Int))∨ ∃ c∈l.ai,10<(c.bx.length:Int)
noncomputable instance (l:bf):Decidable (mq l):=Classical.propDecidable _
/-- what is asked of a line that comes in -/
structure sY (l:bf) (az:List RA):Prop where
 si:l.aJ.length≤9223372036854775807
 side: ∀ x∈l.aJ,0≤x.iT∧x.iT≤255
 sh:l.ai.length≤9223372036854775807
 nO:az.length=l.ai.length
 sf:l.ag.length≤9223372036854775807
 QQ: ∀ (k:Nat) m (a:RA),l.ai[k]? =some m→az[k]? =some a→m.bx.length≤a.2∧m.bx.length≤9223372036854775807
def zL (l:bf) (i:Nat):Prop:= ∀ (j:Nat) c,j<i→l.ai[j]? =some c→(c.bx.length:Int)≤10
theorem Ks {l:bf} {i:Nat} (h: ¬ (20<(l.aJ.length:Int))∧ ¬ (8<(l.ai.length:Int))∧ ¬ (10<(l.ag.length:Int))) (hi:l.ai.length≤i) (hs:zL l i): ¬ mq l:=by
 rintro (A|⟨c,hc,B⟩)
 ·omega
 ·obtain ⟨k,hk⟩:=List.getElem?_of_mem hc
  have:=hs k c (by have:=(List.getElem?_eq_some_iff.1 hk).1; omega) hk
  omega
theorem JM {l:bf} {i:Nat} {c:au} (hc:l.ai[i]? =some c) (h:10<(c.bx.length:Int)):mq l:= .inr ⟨c,aV hc,h⟩
theorem kH {α:Type} {l:List α} {P:Nat→α→Prop} {i:Nat} {x:α} (h: ∀ (j:Nat) y,j<i→l[j]? =some y→P j y) (hx:l[i]? =some x) (hp:P i x): ∀ (j:Nat) y,j<i+1→l[j]? =some y→P j y:=fun j y hj hy=>by
 by_cases e:j=i
 ·subst e; rw [hx] at hy; cases hy; exact hp
 ·exact h j y om hy
theorem x3 {α:Type} {l:List α} {P:Nat→α→Prop} {i:Nat} (hi:l.length≤i) (h: ∀ (j:Nat) y,j<i→l[j]? =some y→P j y): ∀ (j:Nat) y,l[j]? =some y→P j y:=fun j y hy=>h j y (by have:=(List.getElem?_eq_some_iff.1 hy).1; omega) hy
theorem qa {α:Type} {l:List α} {P:α→Prop} {i:Nat} (hi:l.length≤i) (h: ∀ (j:Nat) y,j<i→l[j]? =some y→P y): ∀ y∈l,P y:=fun y hy=>by
 obtain ⟨k,hk⟩:=List.getElem?_of_mem hy
 exact x3 (P:=fun _ y=>P y) hi h k y hk
theorem Jf {l:bf} (h: ¬ mq l):(l.aJ.length:Int)≤20∧(l.ai.length:Int)≤8∧(l.ag.length:Int)≤10∧ ∀ c∈l.ai,(c.bx.length:Int)≤10:=by
 unfold mq at h
 rw [not_or] at h
 refine ⟨om,om,om,fun c hc=>?_⟩
 have:=h.2
 rcases Int.lt_or_le 10 (c.bx.length:Int) with q|q
 ·exact absurd ⟨c,hc,q⟩ this
 ·exact q
theorem sY.small {l:bf} {az:List RA} (h:sY l az) (hg: ¬ mq l):eE l az:=by
 have A:=Jf hg
 exact ⟨om,h.side,om,h.nO,om,fun k m a hm ha=>⟨(h.QQ k m a hm ha).1,by have:=A.2.2.2 m (aV hm); omega⟩⟩
def EZ (c:au) (x:cH) (k:Nat):Prop:= ∀ (j:Nat) o,j<k→c.bx[j]? =some o→nj c x o
def sw (c:au) (m:Nat):Prop:= ∀ (i:Nat) x,i<m→c.bx[i]? =some x→EZ c x i
theorem IT {c:au} {m:Nat} (h1:0≤c.dj∧c.dj≤1000) (h2:1≤c.bx.length∧c.bx.length≤5) (hs: ∀ (i:Nat) x,c.bx[i]? =some x→fx c i x) (hm:c.bx.length≤m) (hp:sw c m):e8 c:=
 ⟨h1,h2,hs,fun i k x o hx hk ho=>hp i x (by have:=(List.getElem?_eq_some_iff.1 hx).1; omega) hx k o hk ho⟩
theorem Ei {c:au} {m k:Nat} (h:sw c m) (hk: ∀ y,c.bx[m]? =some y→EZ c y k) (e:k=m):sw c (m+1):=by
 subst e
 intro i x hi hx
 by_cases e:i=k
 ·subst e; exact hk x hx
 ·exact h i x om hx
noncomputable def kB (c:au) (at_:Int) (i:Nat):aa:=if i=0 then dA else gu c at_ i
theorem EF {c:au} {at_:Int} {i:Nat} (h:e8 c) (hi:c.bx.length≤i):kB c at_ i=hU c at_:=by
 have:=h.len
 unfold kB; rw [if_neg om,nD hi]
theorem z4 {c:au} {at_:Int} {i:Nat} {x:cH} (h:e8 c) (ha:0≤at_∧at_≤90000000) (hx:c.bx[i]? =some x) (hi:i=0):
 kB c at_ (i+1)=⟨max (x.eC.Lo-rF c at_ x) (x.eC.Lo-rF c at_ x),min (x.eC.Hi+rF c at_ x) (x.eC.Hi+rF c at_ x)⟩:=by
 subst hi
 have hb:=h.uI hx
 have ho:=tO h.rm ha hb.1
 unfold kB
 rw [if_neg om,jH hx]
 unfold lu gu
 simp only [List.take_zero,List.foldl_nil,aa.mk.injEq]
 omega
theorem BU {c:au} {at_:Int} {i:Nat} {x:cH} (hx:c.bx[i]? =some x) (hi: ¬ i=0):kB c at_ (i+1)=⟨max (kB c at_ i).Lo (x.eC.Lo-rF c at_ x),min (kB c at_ i).Hi (x.eC.Hi+rF c at_ x)⟩:=by
 unfold kB
 rw [if_neg om,if_neg hi,jH hx]; rfl
def gY (ts:List ao) (n:Nat):List aa:=(List.range n).map fun k=>eI ts 0 k
theorem A_ {ts:List ao} {n:Nat}:gY ts (n+1)=gY ts n++[eI ts 0 n]:=by simp [gY,List.range_succ]
theorem ot {ts:List ao} {n:Nat}:(gY ts n).length=n:=by simp [gY]
theorem o7 {ts:List ao} {n k:Nat} {x:aa} (h:(gY ts n)[k]? =some x):x=eI ts 0 k:=by
 unfold gY at h
 rw [fE] at h
 cases hk:(List.range n)[k]? with
 |none=>simp [hk] at h
 |some v=>
  have:=List.getElem?_eq_some_iff.1 hk
  simp at this
  simp [hk] at h
  rw [← h,← this.2]
theorem Eu {ts:List ao} {a b:cM} (h:b.aY<a.aY):jG ts a b=nN (jG ts b a):=by
 unfold jG
 rw [if_pos h,if_neg om]
 unfold wJ
 rw [Int.min_comm b.aY a.aY,Int.max_comm b.aY a.aY]
 unfold nN mg
 simp only [aa.mk.injEq]
 omega
theorem qh {ts:List ao} {a b:cM} (h: ¬ b.aY<a.aY):jG ts a b=mg (mg (eI ts a.aY.toNat (b.aY-a.aY).toNat) b.mm) (nN a.mm):=by
 unfold jG wJ
 rw [if_neg h,Int.min_eq_left om,Int.max_eq_right om]
end
section
def im (m:List aw) (a:cS):List av:=rd a.1.1 m.length 7 (List.zipWith aw.cells m a.2)::aS aw.gW m a.2
structure P3 (h:List aw) (a:cS):Prop where
 len:h.length≤1000000
 nO:a.2.length=h.length
 sig: ∀ d∈h,d.cz.aj.length≤1000000
structure fy (r:cd) (az:List RA) (ha:List cS):Prop where
 line:eE r.ah az
 iR:r.aI.length≤1000000
 draw:r.bD.length≤12
 iP:r.aq.length≤1000000
 has:ha.length=r.aq.length
 nu: ∀ (k:Nat) h (a:cS),r.aq[k]? =some h→ha[k]? =some a→P3 h a
structure qW (r:cd) (az:List RA) (ha:List cS):Prop where
 line:sY r.ah az
 iR:r.aI.length≤9223372036854775807
 draw:r.bD.length≤9223372036854775807
 iP:r.aq.length≤9223372036854775807
 has:ha.length=r.aq.length
 nu: ∀ (k:Nat) h (a:cS),r.aq[k]? =some h→ha[k]? =some a→h.length≤9223372036854775807∧a.2.length=h.length∧ ∀ d∈h,d.cz.aj.length≤9223372036854775807
def ox (h:List aw):Prop:=8<(h.length:Int)∨ ∃ d∈h,15<(d.cz.aj.length:Int)
def oo (r:cd):Prop:=(mq r.ah∨8<(r.aI.length:Int)∨8<(r.bD.length:Int)∨5<(r.aq.length:Int))∨ ∃ h∈r.aq,ox h
noncomputable instance (r:cd):Decidable (oo r):=Classical.propDecidable _
theorem ME {r:cd} (h: ¬ oo r): ¬ mq r.ah∧(r.aI.length:Int)≤8∧(r.bD.length:Int)≤8∧(r.aq.length:Int)≤5∧ ∀ h∈r.aq,(h.length:Int)≤8∧ ∀ d∈h,(d.cz.aj.length:Int)≤15:=by
 unfold oo at h
 obtain ⟨A,B⟩:=not_or.1 h
 obtain ⟨C,E⟩:=not_or.1 A
 refine ⟨C,om,om,om,fun x hx=>?_⟩
 have hn: ¬ ox x:=fun q=>B ⟨x,hx,q⟩
 obtain ⟨F,D⟩:=not_or.1 hn
 refine ⟨om,fun d hd=>?_⟩
 rcases Int.lt_or_le 15 (d.cz.aj.length:Int) with q|q
 ·exact absurd ⟨d,hd,q⟩ D
 ·exact q
theorem qW.small {r:cd} {az:List RA} {ha:List cS} (h:qW r az ha) (hg: ¬ oo r):fy r az ha:=by
 have B:=ME hg
 refine ⟨h.line.small B.1,om,om,om,h.has,fun k x a hx A=>?_⟩
 have C:=B.2.2.2.2 x (aV hx)
 have D:=h.nu k x a hx A
 exact ⟨om,D.2.1,fun d hd=>by have:=C.2 d hd; omega⟩
def l9 (r:cG):Prop:=r.Start=0∧r.gj=0∧(r.aj.length:Int)=0
instance (r:cG):Decidable (l9 r):=by unfold l9; infer_instance
def iI (s:aa):Prop:=1≤s.Lo∧s.Lo≤s.Hi∧s.Hi≤600000
instance (s:aa):Decidable (iI s):=by unfold iI; infer_instance
def ic (l:bf) (d:aw):Prop:=if d.Out=true then d.eO=false∧d.Time=dA∧l9 d.cz else if d.eO=true then iI d.Time∧l9 d.cz else eV l d.cz l.bI=0∧d.Time=dA
noncomputable instance (l:bf) (d:aw):Decidable (ic l d):=Classical.propDecidable _
noncomputable def dw (l:bf) (d:aw):aa:=if d.Out=true∨d.eO=true then d.Time else Aw l d.cz
/-- which kind a descent is of -/
def oi (d:aw):Int:=if d.Out=true then 0 else if d.eO=true then 1 else 2
theorem MH {w:bU} (h:Gu w): ∀ (b:Nat) (p:aC×Int),p∈fwd w b→w.Start≤p.2:=by
 have hl: ∀ b,0≤bW w b:=fun b=>by
  unfold bW
  cases e:w.pJ[b]? with
  |none=>simp
  |some x=>have:=h.least x (aV e); simp; omega
 intro b
 induction b with
 |zero=>intro p hp; simp only [fwd,bX] at hp; subst hp; exact Int.le_refl _
 |succ b ih=>
  intro q hq
  obtain ⟨p,hp,o,ho,e⟩:=fQ.1 hq
  unfold ky at e
  split at e
  ·simp only [Option.some.injEq] at e
   subst e
   have:=ih p hp
   have:=hl b
   simp only; omega
  ·cases e
theorem M0 {l:bf} {r:cG} {b:Int} (h:eV l r b=0):r.Start≤(e7 l r b).Lo:=by
 have ho:eH l r (jw l b)=0:=by
  by_cases e:eH l r (jw l b)=0
  ·exact e
  ·rw [(ni e).1] at h; exact absurd h e
 obtain ⟨B,C,_⟩:=jM ho
 obtain ⟨ht,A⟩:=gK B
 have hw:=oI ht A C
 have hv:e7 l r b=mj l r b.toNat:=by unfold e7; rw [if_pos h]
 have hn:mj l r b.toNat≠l0:=fun e=>by unfold eV at h; rw [if_pos ho,if_pos e] at h; omega
 have hh:=ur (l:=l3 (ct l r) b.toNat) fun q hq=>mB hq
 rw [hv]
 unfold mj at hn ⊢
 rcases hh with ⟨_,e⟩|hh
 ·exact absurd e hn
 ·obtain ⟨x,hx,ex⟩:=hh.lo
  obtain ⟨o,ho,p,hp,u,hu,e⟩:=g9.1 hx
  obtain ⟨_,_,rfl⟩:=jm.1 e
  have D:r.Start≤p.2:=MH hw _ p hp
  have E:0≤bW (ct l r) b.toNat:=by
   unfold bW
   cases e:(ct l r).pJ[b.toNat]? with
   |none=>simp
   |some x=>have:=hw.least x (aV e); simp; omega
  simp only [jo] at ex
  omega
theorem zQ {l:bf} {d:aw} (h:ic l d):0≤(dw l d).Lo∧(dw l d).Lo≤(dw l d).Hi∧(dw l d).Hi≤86400000:=by
 unfold ic at h
 unfold dw
 split at h
 ·rename_i q; rw [if_pos (Or.inl q),h.2.1]; simp [dA]
 ·rename_i q
  split at h
  ·rename_i A
   rw [if_pos (Or.inr A)]
   obtain ⟨⟨B,C,D⟩,_⟩:=h
   omega
  ·rename_i A
   rw [if_neg (fun z=>z.elim q A),AK h.1]
   have B:=wV h.1
   have C:=(uT h.1).time
   have D:=M0 h.1
   simp only
   omega
theorem FD {l:bf} {d:aw} (h:d.Out=true):dw l d=d.Time:=if_pos (Or.inl h)
theorem AH {l:bf} {d:aw} (h:d.Out=false∧d.eO=true):dw l d=d.Time:=if_pos (Or.inr h.2)
theorem vO {l:bf} {d:aw} (h:d.Out=false∧d.eO=false):dw l d=Aw l d.cz:=if_neg (by simp [h])
theorem pW {l:bf} {d:aw} (h:d.Out=true):ic l d=(d.eO=false∧d.Time=dA∧l9 d.cz):=if_pos h
theorem sQ {l:bf} {d:aw} (h:d.Out=false∧d.eO=true):ic l d=(iI d.Time∧l9 d.cz):=by unfold ic; rw [if_neg (by simp [h]),if_pos h.2]
theorem sK {l:bf} {d:aw} (h:d.Out=false∧d.eO=false):ic l d=(eV l d.cz l.bI=0∧d.Time=dA):=by unfold ic; rw [if_neg (by simp [h]),if_neg (by simp [h])]
structure eZ (r:cd):Prop where
 num:1≤(r.aI.length:Int)∧(r.aI.length:Int)≤5
 v8:0≤r.dZ∧r.dZ≤5
 nh:1≤(r.aq.length:Int)∧(r.aq.length:Int)≤3
 ids: ∀ (i:Nat) x,r.aI[i]? =some x→(0≤x∧x≤9999)∧ ∀ y,0<i→r.aI[i-1]? =some y→y<x
 draw:r.bD.Perm ((List.range r.aI.length).map fun (k:Nat)=>(k:Int))
 nu: ∀ h∈r.aq,h.length=r.aI.length∧ ∀ d∈h,ic r.ah d
noncomputable instance (r:cd):Decidable (eZ r):=Classical.propDecidable _
noncomputable def bY (r:cd):Int:=if dx r.ah=0 then (if eZ r then 0 else 60) else dx r.ah
end
section
theorem nz {α β:Type} {f g:α→Option β}: ∀ {l:List α},(∀ x∈l,f x=g x)→l.filterMap f=l.filterMap g
 |[],_=>rfl
 |x::l,h=>by simp only [List.filterMap_cons,h x bZ,nz (l:=l) (fun y hy=>h y (cW _ hy))]
abbrev g3:=List (Int×aa)
/-- the sum of a sled in some heats, the first ones -/
noncomputable def eP (l:bf) (hs:List (List aw)) (i:Nat):Nat→Option aa
 |0=>some ⟨0,0⟩
 |k+1=>match eP l hs i k,(hs[k]?).bind (·[i]?) with
  |some s,some d=>if d.Out=true then none else some ⟨s.Lo+(dw l d).Lo/10,s.Hi+(dw l d).Hi/10⟩
  |_,_=>none
noncomputable def ek (l:bf) (hs:List (List aw)) (n h i:Nat):g3:=(List.range n).filterMap fun q=>(eP l hs q (if q<i then h+1 else h)).map fun s=>((q:Int),s)
noncomputable def eL (r:cd) (k:Nat):g3:=(List.range r.aI.length).filterMap fun q=>(eP r.ah r.aq q k).map fun s=>((q:Int),s)
noncomputable def aG (r:cd):g3:=eL r r.aq.length
section
variable {l:bf} {hs:List (List aw)} {n h i q:Nat} {s:aa} {d:aw}
theorem BO:ek l hs n h 0=(List.range n).filterMap fun q=>(eP l hs q h).map fun s=>((q:Int),s):=by
 unfold ek
 apply nz
 intro q _
 rw [if_neg (Nat.not_lt_zero _)]
theorem Mq:ek l hs n h n=ek l hs n (h+1) 0:=by
 rw [BO]
 unfold ek
 apply nz
 intro q hq
 rw [if_pos (List.mem_range.1 hq)]
theorem Gz {x:List aw} (hx:hs[h]? =some x) (hd:x[i]? =some d) (ho:d.Out=true):eP l hs i (h+1)=none:=by
 unfold eP
 rw [hx]
 simp only [Option.bind_some,hd]
 cases eP l hs i h with
 |none=>rfl
 |some s=>simp [ho]
theorem DX (h0:eP l hs i h=none):eP l hs i (h+1)=none:=by unfold eP; rw [h0]
theorem D3 {x:List aw} (hx:hs[h]? =some x) (hd:x[i]? =some d) (ho: ¬ d.Out=true) (hs0:eP l hs i h=some s):eP l hs i (h+1)=some ⟨s.Lo+(dw l d).Lo/10,s.Hi+(dw l d).Hi/10⟩:=by
 unfold eP
 rw [hx,hs0]
 simp only [Option.bind_some,hd,if_neg ho]
end
section
variable {l:bf} {hs:List (List aw)} {n h i q:Nat} {s t:aa}
theorem QL {K β:Type} [DecidableEq K] {L Y:List (K×β)} {t:K}:(L++Y).lookup t=match L.lookup t with |some v=>some v|none=>Y.lookup t:=by
 induction L with
 |nil=>rfl
 |cons p L ih=>
  obtain ⟨k,u⟩:=p
  by_cases e:t==k
  ·simp [List.lookup,e]
  ·have:(t==k)=false:=by simpa using e
   simp only [List.cons_append,List.lookup,this,ih]
theorem oH {f:Nat→Option aa}: ∀ (n i:Nat),((List.range n).filterMap fun q=>(f q).map fun s=>((q:Int),s)).lookup (i:Int)=if i<n then f i else none
 |0,i=>by simp
 |n+1,i=>by
  rw [List.range_succ,List.filterMap_append,QL,oH n i]
  by_cases c:i<n
  ·rw [if_pos c,if_pos om]
   cases e:f i with
   |some s=>rfl
   |none=>
    simp only
    cases e2:f n with
    |none=>simp [e2]
    |some u=>
     have:((i:Int)==(n:Int))=false:=by simp only [beq_eq_false_iff_ne,ne_eq]; omega
     simp [e2,List.lookup,this]
  ·rw [if_neg c]
   simp only
   by_cases A:i=n
   ·subst A
    rw [if_pos om]
    cases e2:f i with
    |none=>simp [e2]
    |some u=>simp [e2]
   ·rw [if_neg om]
    have:((i:Int)==(n:Int))=false:=by simp only [beq_eq_false_iff_ne,ne_eq]; omega
    cases e2:f n with
    |none=>simp [e2]
    |some u=>simp [e2,List.lookup,this]
theorem xr:(ek l hs n h i).lookup (q:Int)=if q<n then eP l hs q (if q<i then h+1 else h) else none:=oH n q
theorem Qa {f g:Nat→Option aa} {n i:Nat} (hi:i<n) {s:aa} (hf:(f i).isSome=true) (hg:g i=some s) (hfg: ∀ q,q≠i→f q=g q):eh ((List.range n).filterMap fun q=>(f q).map fun s=>((q:Int),s)) (i:Int) s=(List.range n).filterMap fun q=>(g q).map fun s=>((q:Int),s):=by
 unfold eh
 rw [if_pos (by rw [oH,if_pos hi]; exact hf),List.map_filterMap]
 apply nz
 intro q _
 by_cases e:q=i
 ·subst e
  obtain ⟨u,hu⟩:=Option.isSome_iff_exists.1 hf
  rw [hu,hg]; simp
 ·rw [hfg q e]
  cases g q with
  |none=>rfl
  |some u=>
   have: ¬ ((q:Int)=(i:Int)):=by omega
   simp [this]
theorem PC {f g:Nat→Option aa} {n i:Nat} (hg:g i=none) (hfg: ∀ q,q≠i→f q=g q):cp ((List.range n).filterMap fun q=>(f q).map fun s=>((q:Int),s)) (i:Int)=(List.range n).filterMap fun q=>(g q).map fun s=>((q:Int),s):=by
 unfold cp
 rw [List.filter_filterMap]
 apply nz
 intro q _
 by_cases e:q=i
 ·subst e
  rw [hg]
  cases f q with
  |none=>rfl
  |some u=>simp
 ·rw [hfg q e]
  cases g q with
  |none=>rfl
  |some u=>
   have: ¬ ((q:Int)=(i:Int)):=by omega
   simp [this]
theorem Nm (hi:i<n) (h0:(eP l hs i h).isSome=true) (h1:eP l hs i (h+1)=some s):eh (ek l hs n h i) (i:Int) s=ek l hs n h (i+1):=by
 unfold ek
 refine Qa hi (by rw [if_neg (Nat.lt_irrefl i)]; exact h0) (by rw [if_pos (Nat.lt_succ_self i)]; exact h1) fun q hq=>?_
 by_cases c:q<i
 ·rw [if_pos c,if_pos om]
 ·rw [if_neg c,if_neg om]
theorem EY (h1:eP l hs i (h+1)=none):cp (ek l hs n h i) (i:Int)=ek l hs n h (i+1):=by
 unfold ek
 refine PC (by rw [if_pos (Nat.lt_succ_self i)]; exact h1) fun q hq=>?_
 by_cases c:q<i
 ·rw [if_pos c,if_pos om]
 ·rw [if_neg c,if_neg om]
end
theorem u9 {r:cd} {k i:Nat}:(eL r k).lookup (i:Int)=if i<r.aI.length then eP r.ah r.aq i k else none:=oH _ _
def mE (m:g3) (i:Int):g3:=m.filter fun p=> !decide (p.1=i)
def iL (m:g3) (i n:Int):Nat:=(mE m i).countP fun p=>decide (p.2.Hi<n)
def kO (m:g3) (i n:Int):Nat:=(mE m i).countP fun p=>decide (p.2.Lo<n)
def jB (m:g3) (i:Int) (own:aa):List Int:=own.Lo::((mE m i).flatMap fun p=>[p.2.Lo+1,p.2.Hi+1]).filter fun n=>decide (own.Lo≤n∧n≤own.Hi)
def rK (m:g3) (i:Int) (own:aa) (k:Int):Prop:= ∃ n∈jB m i own,(iL m i n:Int)+1≤k∧k≤(kO m i n:Int)+1
noncomputable instance (m:g3) (i:Int) (own:aa) (k:Int):Decidable (rK m i own k):=Classical.propDecidable _
noncomputable def dI (m:g3) (i:Int) (own:aa):List Int:=((List.range m.length).map fun (k:Nat)=>(k:Int)+1).filter fun k=>decide (rK m i own k)
section
variable {m:g3} {i:Int} {own:aa}
/-- what a point stands for -/
theorem LO {x:Int} (h1:own.Lo≤x) (h2:x≤own.Hi): ∃ n∈jB m i own,n≤x∧iL m i n=iL m i x∧kO m i n=kO m i x:=by
 -- the greatest point that is no greater
 have key: ∀ (d:Nat) (x:Int),own.Lo≤x→x≤own.Hi→(x-own.Lo).toNat=d→ ∃ n∈jB m i own,n≤x∧iL m i n=iL m i x∧kO m i n=kO m i x:=by
  intro d
  induction d with
  |zero=>
   intro x h1 h2 hd
   have:x=own.Lo:=by omega
   exact ⟨own.Lo,bZ ..,om,by rw [this],by rw [this]⟩
  |succ d ih=>
   intro x h1 h2 hd
   by_cases c:x∈jB m i own
   ·exact ⟨x,c,Int.le_refl _,U,U⟩
   ·obtain ⟨n,hn,D,B,C⟩:=ih (x-1) om om om
    have A: ∀ p∈mE m i,p.2.Lo+1≠x∧p.2.Hi+1≠x:=fun p hp=>by
     constructor<;>intro e<;>apply c<;>refine cW _ (List.mem_filter.2 ⟨List.mem_flatMap.2 ⟨p,hp,by rw [← e]; simp⟩,fP ⟨h1,h2⟩⟩)
    refine ⟨n,hn,om,?_,?_⟩
    ·rw [B]
     unfold iL
     apply List.countP_congr
     intro p hp
     have:=(A p hp).2
     rw [decide_eq_true_eq,decide_eq_true_eq]
     omega
    ·rw [C]
     unfold kO
     apply List.countP_congr
     intro p hp
     have:=(A p hp).1
     rw [decide_eq_true_eq,decide_eq_true_eq]
     omega
 exact key _ x h1 h2 U
theorem II {n:Int} (ho:own.Lo≤own.Hi) (h:n∈jB m i own):own.Lo≤n∧n≤own.Hi:=by
 rcases List.mem_cons.1 h with rfl|h
 ·omega
 ·exact of_decide_eq_true (List.mem_filter.1 h).2
/-- a rank comes about at some sum -/
theorem x5 (ho:own.Lo≤own.Hi) {k:Int}:rK m i own k↔ ∃ x,own.Lo≤x∧x≤own.Hi∧(iL m i x:Int)+1≤k∧k≤(kO m i x:Int)+1:=by
 constructor
 ·rintro ⟨n,hn,A,B⟩
  have:=II ho hn
  exact ⟨n,this.1,this.2,A,B⟩
 ·rintro ⟨x,A,B,E,F⟩
  obtain ⟨n,hn,_,C,D⟩:=LO (m:=m) (i:=i) A B
  exact ⟨n,hn,by rw [C]; exact E,by rw [D]; exact F⟩
theorem Kv (hi:m.lookup i≠none) {x:Int}:kO m i x+1≤m.length:=by
 unfold kO
 refine Nat.lt_of_le_of_lt List.countP_le_length ?_
 unfold mE
 obtain ⟨v,hv⟩:=Option.ne_none_iff_exists'.1 hi
 have hm: ∃ p∈m,p.1=i:=by
  clear hi
  induction m with
  |nil=>simp at hv
  |cons p m ih=>
   obtain ⟨a,b⟩:=p
   by_cases e:i=a
   ·exact ⟨_,bZ ..,e.symm⟩
   ·have:(i==a)=false:=by simpa using e
    simp only [List.lookup,this] at hv
    obtain ⟨p,hp,e⟩:=ih hv
    exact ⟨p,cW _ hp,e⟩
 obtain ⟨p,hp,e⟩:=hm
 refine Nat.lt_of_le_of_ne (List.length_filter_le _ _) fun q=>?_
 have:=(List.filter_eq_self (p:=fun p:Int×aa=> !decide (p.1=i))).1 (List.filter_sublist.eq_of_length q) p hp
 simp [e] at this
theorem yO (hi:m.lookup i≠none) {k:Int}:k∈dI m i own↔rK m i own k:=by
 unfold dI
 rw [List.mem_filter,sZ,decide_eq_true_eq]
 constructor
 ·rintro ⟨_,h⟩; exact h
 ·intro h
  refine ⟨?_,h⟩
  obtain ⟨n,_,A,B⟩:=h
  have:=Kv hi (x:=n)
  exact ⟨(k-1).toNat,List.mem_range.2 om,om⟩
end
end
section
def qj (l:List Int):List (List Value):=l.map fun x=>[vI x]
theorem tw {l:List Int}:(qj l).length=l.length:=by simp [qj]
theorem HT {l:List Int} {k:Nat} {x:Int} (h:l[k]? =some x):(qj l)[k]? =some [vI x]:=by simp [qj,h]
theorem HL {l:List Int} {k:Nat} {x:List Value} (h:(qj l)[k]? =some x): ∃ y,l[k]? =some y∧x=[vI y]:=by
 simp only [qj,fE,Option.map_eq_some_iff] at h
 obtain ⟨y,hy,rfl⟩:=h
 exact ⟨y,hy,U⟩
theorem DB {l:List Int}: ∀ x∈qj l,x.length=1:=fun x hx=>by
 simp only [qj,sZ] at hx
 obtain ⟨y,_,rfl⟩:=hx
 rfl
theorem yh {l:List Int}:l.take (qj l).length=l:=by rw [tw,List.take_of_length_le (Nat.le_refl _)]
theorem lG {l:List Int} {k:Nat} {x:Int} (h:l[k]? =some x):l.take (k+1)=l.take k++[x]:=by
 rw [List.take_add_one,h]; rfl
def dk (l:List Int):List Int:=l.mergeSort fun a b=>decide (a≤b)
theorem fG {l:List Int}:(dk l).Perm l:=List.mergeSort_perm _ _
theorem kS {l:List Int}:(dk l).Pairwise (· ≤ ·):=by
 have:=List.pairwise_mergeSort (le:=fun (a b:Int)=>decide (a≤b)) (fun a b c A B=>by simp at A B ⊢; omega) (fun a b=>by simp; omega) l
 exact this.imp fun h=>by simpa using h
@[simp] theorem gp {l:List Int}:(dk l).length=l.length:=fG.length_eq
theorem qg {l m:List Int} (h1:m.Perm l) (h2:m.Pairwise (· ≤ ·)):m=dk l:=rj (h1.trans fG.symm) h2 kS
end
section
open Go.RowKit
def sC (s:aN):List Value:=[vS s.a s.n s.c]
theorem zc: ∀ s,(sC s).length=1:=fun s=>rfl
theorem IF (l:List aN): ∀ v∈(l.map sC).flatten,v.oneCell'=true:=l7 (fun s=>rfl) l
def CG (l:List aa) (a:RA):aN:=⟨a.1,l.length,a.2⟩
def DA (l:List aa) (a:RA):List Value:=[vS a.1 l.length a.2]
def Mf (l:List aa) (a:RA):List av:=[rd a.1 l.length 2 (l.map aa.cells)]
def C8 (l:List aa) (a:RA):List av:=[own a.1 a.2 LY 2 (l.map aa.cells)]
theorem zr {ls:List (List aa)} {az:List RA}:(List.zipWith CG ls az).map sC=List.zipWith DA ls az:=by
 rw [List.map_zipWith]; rfl
theorem sr: ∀ (m:List aa) (a:RA) (w:World),(∀ X∈C8 m a,X.holds w)→ ∀ X∈Mf m a,X.holds w:=fun m a w h X hX=>by
 simp only [Mf,bX] at hX
 subst hX
 have:=mZ (h _ (List.mem_singleton.2 rfl))
 simpa using this
theorem xS {l:List (List aa)} {bz:List RA}:(bp (aS C8 l bz)).wr=true:=by
 show (aS C8 l bz).all (·.wr)=true
 rw [fg]
 intro X hX
 obtain ⟨k,m,a,_,_,h⟩:=jF hX
 simp only [C8,bX] at h
 subst h; rfl
theorem mI {ls:List (List aa)} {az:List RA} (h:az.length=ls.length):(List.zipWith DA ls az).length=ls.length:=by simp [h]
noncomputable def gF (r:cd) (i:Nat):List (List aa):=(r.aq.take i).map fun h=>h.map (dw r.ah)
noncomputable def cQ (r:cd):List (List aa):=gF r r.aq.length
section
variable {r:cd} {i:Nat} {h:List aw} {tz:List RA} {a:RA}
theorem uQ (hh:r.aq[i]? =some h):gF r (i+1)=gF r i++[h.map (dw r.ah)]:=by unfold gF; rw [List.take_add_one,hh,List.map_append]; rfl
theorem kq (hi:i≤r.aq.length):(gF r i).length=i:=by unfold gF; rw [List.length_map,List.length_take]; omega
theorem dJ:(cQ r).length=r.aq.length:=kq (Nat.le_refl _)
theorem EE (hh:r.aq[i]? =some h):(cQ r)[i]? =some (h.map (dw r.ah)):=by
 unfold cQ gF
 rw [List.take_length,fE,hh]; rfl
theorem zh {m:List aa} (hh:r.aq[i]? =some h) (hm:(cQ r)[i]? =some m):m=h.map (dw r.ah):=by
 rw [EE hh] at hm
 exact (Option.some.inj hm).symm
theorem tD (hh:r.aq[i]? =some h) (hl:tz.length=i):List.zipWith CG (gF r (i+1)) (tz++[a])=List.zipWith CG (gF r i) tz++[CG (h.map (dw r.ah)) a]:=by
 have hi:=(List.getElem?_eq_some_iff.1 hh).1
 rw [uQ hh,List.zipWith_append (by rw [kq om,hl])]
 rfl
theorem B5 (hh:r.aq[i]? =some h) (hl:tz.length=i):aS C8 (gF r i) tz++[own a.1 a.2 LY 2 ((h.map (dw r.ah)).map aa.cells)]=aS C8 (gF r (i+1)) (tz++[a]):=by
 have hi:=(List.getElem?_eq_some_iff.1 hh).1
 rw [uQ hh,jD (by rw [kq om,hl])]
 simp [aS,C8]
end
theorem zn {lo hi:Int} {l:List Int}:pL lo hi l=true↔ ∀ x∈l,lo≤x∧x≤hi:=by
 unfold pL
 rw [Bool.not_eq_true',List.any_eq_false]
 constructor
 ·intro h x hx; have:=h x hx; simp only [decide_eq_true_eq] at this; omega
 ·intro h x hx; have:=h x hx; simp only [decide_eq_true_eq]; omega
abbrev Gr (n:Nat):List Int:=(List.range n).map fun (k:Nat)=>(k:Int)
theorem xe (n:Nat):(Gr n).Pairwise (· ≤ ·):=by
 unfold Gr
 rw [List.pairwise_map]
 exact List.pairwise_lt_range.imp fun h=>by omega
theorem uN {l:List Int} {n:Nat} (h:l.Perm (Gr n)):dk l=Gr n:=(qg h.symm (xe n)).symm
theorem GJ {l:List Int} {n:Nat} (hl:l.length=n) (h: ∀ j,j<n→ ∀ x,(dk l)[j]? =some x→x=(j:Int)):l.Perm (Gr n):=by
 have e:dk l=Gr n:=by
  apply List.ext_getElem
  ·simp [hl]
  ·intro j A B
   have C:j<n:=by simpa using B
   have:=h j C _ (ff A)
   simpa using this
 rw [← e]; exact fG.symm
def qK (r:cd) (i:Nat):Prop:= ∀ j,j<i→(∀ x,(dk r.bD)[j]? =some x→x=(j:Int))∧ ∀ x y,r.aI[j]? =some x→0<j→r.aI[j-1]? =some y→y<x
def Ez (r:cd) (h:List aw):Prop:=h.length=r.aI.length∧ ∀ d∈h,ic r.ah d
def jV (r:cd) (i:Nat):Prop:= ∀ (j:Nat) h,j<i→r.aq[j]? =some h→Ez r h
def nU (l:bf) (h:List aw) (k:Nat):Prop:= ∀ (j:Nat) d,j<k→h[j]? =some d→ic l d
section
variable {r:cd} {i:Nat}
theorem Dl:qK r 0:=fun j hj=>absurd hj (Nat.not_lt_zero _)
theorem wG {x:Int} (h:qK r i) (hd:(dk r.bD)[i]? =some x) (e:x=(i:Int)) (hs: ∀ x y,r.aI[i]? =some x→0<i→r.aI[i-1]? =some y→y<x):qK r (i+1):=fun j hj=>by
 rcases Nat.lt_or_ge j i with q|q
 ·exact h j q
 ·obtain rfl:j=i:=by omega
  exact ⟨fun y hy=>by rw [hd] at hy; cases hy; exact e,hs⟩
theorem wM:jV r 0:=fun j h hj=>absurd hj (Nat.not_lt_zero _)
theorem v9 {h:List aw} (hh:jV r i) (hx:r.aq[i]? =some h) (ho:Ez r h):jV r (i+1):=fun j y hj hy=>by
 rcases Nat.lt_or_ge j i with q|q
 ·exact hh j y q hy
 ·obtain rfl:j=i:=by omega
  rw [hx] at hy; cases hy; exact ho
theorem ve {l:bf} {h:List aw}:nU l h 0:=fun j d hj=>absurd hj (Nat.not_lt_zero _)
theorem uS {l:bf} {h:List aw} {d:aw} (ht:nU l h i) (hx:h[i]? =some d) (ho:ic l d):nU l h (i+1):=fun j y hj hy=>by
 rcases Nat.lt_or_ge j i with q|q
 ·exact ht j y q hy
 ·obtain rfl:j=i:=by omega
  rw [hx] at hy; cases hy; exact ho
theorem F4 {h:List aw} (hl:h.length=r.aI.length) (ht:nU r.ah h i) (hi:h.length≤i):Ez r h:=⟨hl,fun d hd=>by
 obtain ⟨j,hj⟩:=List.getElem?_of_mem hd
 exact ht j d (by have:=(List.getElem?_eq_some_iff.1 hj).1; omega) hj⟩
theorem I9 {n:Nat} (hn:n=r.aI.length) (h1:1≤(r.aI.length:Int)∧(r.aI.length:Int)≤5) (h2:r.bD.length=r.aI.length) (h3:0≤r.dZ∧r.dZ≤5) (h4:1≤(r.aq.length:Int)∧(r.aq.length:Int)≤3) (h5:pL 0 9999 r.aI=true)
 (h6:qK r n) (h7:jV r i) (hi:r.aq.length≤i):eZ r:=by
 subst hn
 refine ⟨h1,h3,h4,fun k x hx=>⟨zn.1 h5 x (aV hx),fun y hk hy=>?_⟩,GJ h2 fun j hj=>(h6 j hj).1,fun h hh=>?_⟩
 ·exact (h6 k (List.getElem?_eq_some_iff.1 hx).1).2 x y hx hk hy
 ·obtain ⟨j,hj⟩:=List.getElem?_of_mem hh
  exact h7 j h (by have:=(List.getElem?_eq_some_iff.1 hj).1; omega) hj
theorem eZ.x_ (h:eZ r):r.bD.length=r.aI.length:=by have:=h.draw.length_eq; simpa using this
theorem eZ.ins (h:eZ r):pL 0 9999 r.aI=true:=zn.2 fun x hx=>by
 obtain ⟨j,hj⟩:=List.getElem?_of_mem hx
 exact (h.ids j x hj).1
theorem eZ.drawn (h:eZ r) {x:Int} (hx:(dk r.bD)[i]? =some x):x=(i:Int):=by
 rw [uN h.draw] at hx
 have hi:=(List.getElem?_eq_some_iff.1 hx).1
 simp at hi
 rw [fE,List.getElem?_range hi] at hx
 exact (Option.some.inj hx).symm
theorem eZ.zB (h:eZ r):jV r i:=fun j x _ hx=>h.nu x (aV hx)
theorem zm (h: ¬ dx r.ah=0):bY r=dx r.ah:=if_neg h
theorem kp (h:dx r.ah=0) (hn: ¬ eZ r):bY r=60:=by unfold bY; rw [if_pos h,if_neg hn]
theorem BK (h:dx r.ah=0) (hn:eZ r):bY r=0:=by unfold bY; rw [if_pos h,if_pos hn]
theorem iF (h:bY r=0):dx r.ah=0∧eZ r:=by
 unfold bY at h
 split at h
 ·split at h
  ·exact ⟨asm,asm⟩
  ·cases h
 ·exact absurd h asm
end
section
variable {r:cd} {k i n h:Nat} {s:aa} {l:bf} {hs:List (List aw)}
theorem Al: ∀ {k:Nat} {s:aa},jV r k→k≤r.aq.length→eP r.ah r.aq i k=some s→0≤s.Lo∧s.Lo≤s.Hi∧s.Hi≤8640000*(k:Int)
 |0,s,_,_,h=>by
  simp only [eP,Option.some.injEq] at h
  subst h; simp
 |k+1,s,hh,hk,h=>by
  unfold eP at h
  split at h
  ·rename_i u d hu hd
   split at h
   ·cases h
   ·cases h
    have A:=Al (fun j x hj hx=>hh j x om hx) om hu
    obtain ⟨x,hx,hd⟩:=Option.bind_eq_some_iff.1 hd
    have B:=zQ ((hh k x om hx).2 d (aV hd))
    simp only
    push_cast
    omega
  ·cases h
theorem Mx:eh (ek l hs i 0 0) (i:Int) ⟨0,0⟩=ek l hs (i+1) 0 0:=by
 have A:(ek l hs i 0 0).lookup (i:Int)=none:=by rw [xr,if_neg (Nat.lt_irrefl i)]
 unfold eh
 rw [A]
 simp only [Option.isSome_none,Bool.false_eq_true,if_false]
 unfold ek
 rw [List.range_succ,List.filterMap_append]
 simp [eP]
theorem LH (hi:i<n):(ek l hs n h i).lookup (i:Int)=eP l hs i h:=by rw [xr,if_pos hi,if_neg (Nat.lt_irrefl i)]
theorem IL {α β:Type} {f:α→β} {tr:List β} {ht:List α} {x:β} {d:α} (e:tr=ht.map f) (hx:tr[i]? =some x) (hd:ht[i]? =some d):x=f d:=by
 rw [e,fE,hd] at hx
 exact (Option.some.inj hx).symm
theorem MS:ek r.ah r.aq r.aI.length h 0=eL r h:=BO
end
end
section
def vr (key:Int→Int) (l:List Int) (x:Int):List Int:=l.takeWhile (fun y=>decide (key y≤key x))++x::l.dropWhile (fun y=>decide (key y≤key x))
def eD (key:Int→Int) (l:List Int):List Int:=l.foldl (vr key) []
def Ek (key:Int→Int) (l:List Int):Prop:=l.Pairwise fun a b=>key a≤key b
section
variable {key:Int→Int} {l A B D:List Int} {x u v:Int} {i j:Nat}
theorem GC:(vr key l x).Perm (x::l):=by
 unfold vr
 refine List.perm_middle.trans ?_
 rw [List.takeWhile_append_dropWhile]
theorem OV (hA: ∀ y∈A,key y≤key x) (hB: ∀ y∈B,key x<key y):(A++B).takeWhile (fun y=>decide (key y≤key x))=A∧(A++B).dropWhile (fun y=>decide (key y≤key x))=B:=by
 induction A with
 |nil=>
  cases B with
  |nil=>simp
  |cons b B=>
   have h:=hB b bZ
   have:decide (key b≤key x)=false:=cr om
   rw [List.nil_append,List.takeWhile_cons,List.dropWhile_cons,this]
   exact ⟨U,U⟩
 |cons a A ih=>
  have h:=ih fun y hy=>hA y (cW _ hy)
  have:decide (key a≤key x)=true:=fP (hA a bZ)
  simp only [List.cons_append,List.takeWhile,List.dropWhile,this]
  exact ⟨by rw [h.1],h.2⟩
theorem wB (hA: ∀ y∈A,key y≤key x) (hB: ∀ y∈B,key x<key y):vr key (A++B) x=A++x::B:=by
 unfold vr
 rw [(OV hA hB).1,(OV hA hB).2]
theorem Cy (x:Int): ∀ {l:List Int},Ek key l→ ∃ A B,l=A++B∧(∀ y∈A,key y≤key x)∧ ∀ y∈B,key x<key y
 |[],_=>⟨[],[],rfl,(fun y h=>by cases h),fun y h=>by cases h⟩
 |a::l,h=>by
  unfold Ek at h
  rw [List.pairwise_cons] at h
  by_cases c:key a≤key x
  ·obtain ⟨A,B,e,hA,hB⟩:=Cy x (l:=l) h.2
   refine ⟨a::A,B,by rw [e]; rfl,fun y hy=>?_,hB⟩
   rcases List.mem_cons.1 hy with rfl|hy
   ·exact c
   ·exact hA y hy
  ·refine ⟨[],a::l,rfl,fun y hy=>(by cases hy),fun y hy=>?_⟩
   rcases List.mem_cons.1 hy with rfl|hy
   ·omega
   ·have:=h.1 y hy; omega
theorem Np (h:Ek key l):Ek key (vr key l x):=by
 obtain ⟨A,B,rfl,hA,hB⟩:=Cy x h
 rw [wB hA hB]
 unfold Ek at h ⊢
 rw [List.pairwise_append] at h ⊢
 refine ⟨h.1,List.pairwise_cons.2 ⟨fun y hy=>by have:=hB y hy; omega,h.2.1⟩,fun y hy z hz=>?_⟩
 rcases List.mem_cons.1 hz with rfl|hz
 ·exact hA y hy
 ·exact h.2.2 y hy z hz
theorem B2:eD key (l++[x])=vr key (eD key l) x:=by unfold eD; rw [List.foldl_append]; rfl
theorem By (h:l[i]? =some x):eD key (l.take (i+1))=vr key (eD key (l.take i)) x:=by rw [lG h,B2]
theorem xI: ∀ {l m:List Int},(l.foldl (vr key) m).Perm (m++l)
 |[],m=>by simp
 |x::l,m=>(xI (l:=l) (m:=vr key m x)).trans (((GC).append_right l).trans (by
  rw [List.cons_append]
  exact List.perm_middle.symm))
theorem qs:(eD key l).Perm l:=by simpa [eD] using xI (key:=key) (l:=l) (m:=[])
theorem AV: ∀ {l m:List Int},Ek key m→Ek key (l.foldl (vr key) m)
 |[],m,h=>h
 |x::l,m,h=>AV (l:=l) (Np h)
theorem uJ:Ek key (eD key l):=AV List.Pairwise.nil
theorem kh:(eD key l).length=l.length:=qs.length_eq
def Cg (key:Int→Int) (l:List Int) (i j:Nat) (D:List Int):Prop:= ∃ A B x,l[i]? =some x∧A.length=j∧eD key (l.take i)=A++B∧(∀ y∈B,key x<key y)∧D=A++x::(B++l.drop (i+1))
def te (key:Int→Int) (l:List Int) (i:Nat) (D:List Int):Prop:=D=eD key (l.take i)++l.drop i
theorem Iy (h:0<l.length):te key l 1 l:=by
 cases l with
 |nil=>simp at h
 |cons a l=>simp [te,eD,vr]
theorem Ik (hi:l.length≤i) (h:te key l i D):D=eD key l:=by
 subst h; rw [List.take_of_length_le hi,List.drop_of_length_le hi,List.append_nil]
theorem EN (hi:i<l.length) (h:te key l i D):Cg key l i i D:=by
 have hx:l[i]? =some l[i]:=ff hi
 refine ⟨eD key (l.take i),[],l[i],hx,by rw [kh,List.length_take]; omega,sm,fun y hy=>(by cases hy),?_⟩
 rw [h,List.nil_append,List.drop_eq_getElem_cons hi]
theorem xy: ∀ {A:List Int},0<A.length→ ∃ A' y,A=A'++[y]:=fun {A} h=>⟨A.dropLast,A.getLast (by intro e; subst e; simp at h),(List.dropLast_concat_getLast _).symm⟩
theorem HQ (hj:0<j) (h:Cg key l i j D) (hu:D[j]? =some u) (hv:D[j-1]? =some v) (hlt:key u<key v):Cg key l i (j-1) ((D.set j v).set (j-1) u):=by
 obtain ⟨A,B,x,hx,hl,he,hB,rfl⟩:=h
 obtain ⟨A',y,rfl⟩:=xy (A:=A) om
 simp only [List.length_append,List.length_cons,List.length_nil] at hl
 subst hl
 have C:(A'++[y]++x::(B++l.drop (i+1)))=A'++y::x::(B++l.drop (i+1)):=by simp
 rw [C] at hu hv ⊢
 rw [List.getElem?_append_right om,show A'.length+(0+1)-A'.length=1 by omega] at hu
 rw [show A'.length+(0+1)-1=A'.length by omega,List.getElem?_append_right (Nat.le_refl _),Nat.sub_self] at hv
 simp at hu hv
 subst hu hv
 refine ⟨A',y::B,x,hx,om,by rw [he]; simp,fun z hz=>?_,?_⟩
 ·rcases List.mem_cons.1 hz with rfl|hz
  ·exact hlt
  ·exact hB z hz
 ·rw [show A'.length+(0+1)-1=A'.length by omega,List.set_append_right _ _ om,List.set_append_right _ _ (Nat.le_refl _),show A'.length+(0+1)-A'.length=1 by omega,Nat.sub_self]
  simp
theorem yY (h:Cg key l i j D) (hc: ∀ A,A.length=j→(∃ C,D=A++C)→Ek key A→ ∀ x,l[i]? =some x→D[j]? =some x→ ∀ y∈A,key y≤key x):te key l (i+1) D:=by
 obtain ⟨A,B,x,hx,hl,he,hB,rfl⟩:=h
 unfold te
 have E:Ek key (A++B):=he▸uJ
 rw [By hx,he,wB (hc A hl ⟨_,rfl⟩ (by unfold Ek at E ⊢; rw [List.pairwise_append] at E; exact E.1) x hx (by rw [List.getElem?_append_right om,← hl]; simp)) hB]
 simp
theorem yZ (hj: ¬ 0<j) (h:Cg key l i j D):te key l (i+1) D:=yY h fun A hl _ _ x _ _ y hy=>by
 have:A=[]:=jz om
 subst this; cases hy
theorem zw (hj:0<j) (h:Cg key l i j D) (hu:D[j]? =some u) (hv:D[j-1]? =some v) (hlt: ¬ key u<key v):te key l (i+1) D:=yY h fun A hl hC hA x hx hd y hy=>by
 obtain ⟨C,hC⟩:=hC
 obtain ⟨A',z,rfl⟩:=xy (A:=A) om
 simp only [List.length_append,List.length_cons,List.length_nil] at hl
 rw [hd] at hu; cases hu
 have e:D[j-1]? =some z:=by
  rw [hC,List.append_assoc,List.getElem?_append_right om,show j-1-A'.length=0 by omega]; simp
 rw [e] at hv; cases hv
 unfold Ek at hA
 rw [List.pairwise_append] at hA
 rcases List.mem_append.1 hy with hy|hy
 ·have:=hA.2.2 y hy v sm; omega
 ·rw [bX] at hy; subst hy; omega
end
end
section
def rp (k:Nat) (l:List Int):List Int:=(l.take k).reverse++l.drop k
def HX (l:List Int) (k i:Nat) (D:List Int):Prop:=D.length=l.length∧ ∀ p,p<l.length→D[p]? =l[if p<k∧(p<i∨k≤p+i) then k-1-p else p]?
section
variable {l D:List Int} {k i j:Nat} {u v:Int}
theorem jU:(rp k l).length=l.length:=by unfold rp; rw [List.length_append,List.length_reverse,List.length_take,List.length_drop]; omega
theorem Ma:HX l k 0 l:=⟨rfl,fun p hp=>by rw [if_neg om]⟩
theorem Jn (hk:k≤l.length) (hij:i<j) (hj:j+i+1=k) (h:HX l k i D) (hu:D[i]? =some u) (hv:D[j]? =some v):HX l k (i+1) ((D.set i v).set j u):=by
 refine ⟨by rw [List.length_set,List.length_set]; exact h.1,fun p hp=>?_⟩
 have hl:=h.1
 have hi:=h.2 i om
 have A:=h.2 j om
 rw [hu,if_neg om] at hi
 rw [hv,if_neg om] at A
 by_cases B:p=j
 ·subst B
  rw [List.getElem?_set_self (by rw [List.length_set]; omega),if_pos om,show k-1-p=i by omega,hi]
 ·rw [List.getElem?_set_ne (fun e=>B e.symm)]
  by_cases C:p=i
  ·subst C
   rw [List.getElem?_set_self om,if_pos om,show k-1-p=j by omega,A]
  ·rw [List.getElem?_set_ne (fun e=>C e.symm),h.2 p hp]
   by_cases c:p<k∧(p<i∨k≤p+i)
   ·rw [if_pos c,if_pos om]
   ·rw [if_neg c,if_neg om]
theorem M1 (hk:k≤l.length) (hi:k≤2*i+1) (h:HX l k i D):D=rp k l:=by
 apply List.ext_getElem?
 intro p
 by_cases hp:p<l.length
 ·rw [h.2 p hp]
  unfold rp
  by_cases c:p<k
  ·rw [List.getElem?_append_left (by rw [List.length_reverse,List.length_take]; omega),List.getElem?_reverse (by rw [List.length_take]; omega),List.length_take,Nat.min_eq_left hk,List.getElem?_take]
   rw [if_pos (show k-1-p<k by omega)]
   by_cases A:p<k∧(p<i∨k≤p+i)
   ·rw [if_pos A]
   ·rw [if_neg A,show k-1-p=p by omega]
  ·rw [if_neg om,List.getElem?_append_right (by rw [List.length_reverse,List.length_take]; omega),List.length_reverse,List.length_take,Nat.min_eq_left hk,List.getElem?_drop,show k+(p-k)=p by omega]
 ·rw [List.getElem?_eq_none (by rw [h.1]; omega),List.getElem?_eq_none (by rw [jU]; omega)]
end
end
end Go.Proofs.YtdllkkdchkhimaaGreatDoor
