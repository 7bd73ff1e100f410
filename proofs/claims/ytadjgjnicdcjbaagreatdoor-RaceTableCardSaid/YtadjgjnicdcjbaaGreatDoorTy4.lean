/-
 The statement raceTable_said, part 4 of 8: Short, Grow, Global, RunA, Tab, Run, Comp, Ret, LoopK, MapK, Watch, Passes, Keys, MapR, RangeG, Nest, WMaps, WBounds, PassG, Drop, Spot, First, Line, Wrap, Goes, OpenW, Wheres, ExL6, LineR, Race, RaceS, Vals, RaceO, Ord, Rev.
 Conditions: none.
-/
import Derived.Test.YtadjgjnicdcjbaaGreatDoorTy1
import Derived.Test.YtadjgjnicdcjbaaGreatDoorTy2
import Derived.Test.YtadjgjnicdcjbaaGreatDoorTy3
import Derived.Test.YtadjgjnicdcjbaaGreatDoorProg
import Derived.KernelRfl
import Derived.WideKeyRuns
namespace Go.Proofs.YtadjgjnicdcjbaaGreatDoor
set_option maxRecDepth 100000
set_option maxHeartbeats 4000000
set_option linter.unusedVariables false
section
open Go.RowKit
/-- an operation that hands v to its slot d -/
structure SE (E:eY) (ops:Array Oper) (o:Oper) (D:List Deferred) (L:List (Nat×Value)) (C:List aq) (v:Value) (d:Nat):Prop where
 h:SD E ops o D L C v
 o:o.dst=some d
 n:Nat.blt d E.n=true
theorem rS {E:eY} {ops:Array Oper} {Q:cU} {o:Oper} {rest:List Oper} {D:List Deferred} {L:List (Nat×Value)} {C:List aq} {v:Value} {d:Nat}
 (h:SE E ops o D L C v d) (k:RJ E ops Q rest D ((d,v)::L) C):RJ E ops Q (o::rest) D L C:=To h.h h.o h.n k
theorem dS {E:eY} {ops:Array Oper} {F:List (Nat×Value)→Prop} {o:Oper} {rest:List Oper} {D:List Deferred} {L:List (Nat×Value)} {C:List aq} {v:Value} {d:Nat}
 (h:SE E ops o D L C v d) (k:DJ E ops D C F rest ((d,v)::L)):DJ E ops D C F (o::rest) L:=RO h.h h.o h.n k
theorem eS {E:eY} {ops:Array Oper} {D:List Deferred} {C' C1:List aq} {F:List (Nat×Value)→Prop} {bs:List Bool} {o:Oper} {l rest:List Oper} {L:List (Nat×Value)} {v:Value} {d:Nat}
 (hl:l=o::rest) (h:SE E ops o D L C' v d) (k:p7 E ops D C' C1 F bs rest ((d,v)::L)):p7 E ops D C' C1 F (false::bs) l L:=SF h.h hl h.o h.n k
theorem fS {E:eY} {ops:Array Oper} {D:List Deferred} {C' C1:List aq} {F:List (Nat×Value)→Prop} {bs:List Bool} {o:Oper} {l rest:List Oper} {L:List (Nat×Value)} {v:Value} {d:Nat}
 (hl:l=o::rest) (h:SE E ops o D L C1 v d) (k:p7 E ops D C' C1 F bs rest ((d,v)::L)):p7 E ops D C' C1 F (true::bs) l L:=Si h.h hl h.o h.n k
def gB (n:Nat) (ops:Array Oper) (L:List (Nat×Value)) (d:Nat) (g:Option (Nat×Bool)):Bool:=ju ops L g&&Nat.blt d n
theorem OZ {n:Nat} {ops:Array Oper} {L:List (Nat×Value)} {d:Nat} {g:Option (Nat×Bool)} (h:gB n ops L d g=true):ju ops L g=true:=by
 unfold gB at h; rw [cG] at h; exact h.1
theorem OV {n:Nat} {ops:Array Oper} {L:List (Nat×Value)} {d:Nat} {g:Option (Nat×Bool)} (h:gB n ops L d g=true):Nat.blt d n=true:=by
 unfold gB at h; rw [cG] at h; exact h.2
def vF (n:Nat) (ops:Array Oper) (L:List (Nat×Value)) (d:Nat) (g:Option (Nat×Bool)) (x:Operand):Option Value:=match gB n ops L d g with
 |true=>ev L x
 |false=>none
def bF (n:Nat) (ops:Array Oper) (L:List (Nat×Value)) (d:Nat) (g:Option (Nat×Bool)) (x y:Operand):Option (Value×Value):=match gB n ops L d g with
 |true=>match ev L x,ev L y with
  |some u,some v=>some (u,v)
  |_,_=>none
 |false=>none
def pF (n:Nat) (ops:Array Oper) (L:List (Nat×Value)) (d:Nat) (g:Option (Nat×Bool)) (c x y:Operand):Option Value:=match gB n ops L d g with
 |true=>match ev L c with
  |some (.bool true)=>ev L x
  |some (.bool false)=>ev L y
  |_=>none
 |false=>none
def xF (n:Nat) (ops:Array Oper) (L:List (Nat×Value)) (d:Nat) (g:Option (Nat×Bool)) (x:Operand) (i:Nat):Option Value:=match vF n ops L d g x with
 |some (.tuple vs)=>vs.toList[i]?
 |_=>none
def uF (n:Nat) (ops:Array Oper) (L:List (Nat×Value)) (d:Nat) (g:Option (Nat×Bool)) (xs ys:List Operand):Option (List Value×List Value):=match gB n ops L d g with
 |true=>match evs L xs,evs L ys with
  |some u,some v=>some (u,v)
  |_,_=>none
 |false=>none
def cF (n:Nat) (ops:Array Oper) (L:List (Nat×Value)) (d:Nat) (g:Option (Nat×Bool)) (fop:Operand) (xs:List Operand):Option (FuncId×List Value):=match gB n ops L d g with
 |true=>match ev L fop,evs L xs with
  |some (.func (.func f) fi ca),some vs=>some (f,fi.toList++vs++ca.toList)
  |_,_=>none
 |false=>none
theorem iR {n:Nat} {ops:Array Oper} {L:List (Nat×Value)} {d:Nat} {g:Option (Nat×Bool)} {x:Operand} {v:Value} (h:vF n ops L d g x=some v):ju ops L g=true∧Nat.blt d n=true∧ev L x=some v:=by
 unfold vF at h
 split at h
 ·rename_i hb; exact ⟨OZ hb,OV hb,h⟩
 ·cases h
theorem qL {n:Nat} {ops:Array Oper} {L:List (Nat×Value)} {d:Nat} {g:Option (Nat×Bool)} {x y:Operand} {u v:Value} (h:bF n ops L d g x y=some (u,v)):ju ops L g=true∧Nat.blt d n=true∧ev L x=some u∧ev L y=some v:=by
 unfold bF at h
 split at h
 ·rename_i hb
  split at h
  ·rename_i hx hy; cases h; exact ⟨OZ hb,OV hb,hx,hy⟩
  ·cases h
 ·cases h
theorem PV {n:Nat} {ops:Array Oper} {L:List (Nat×Value)} {d:Nat} {g:Option (Nat×Bool)} {x y:List Operand} {u v:List Value} (h:uF n ops L d g x y=some (u,v)):ju ops L g=true∧Nat.blt d n=true∧evs L x=some u∧evs L y=some v:=by
 unfold uF at h
 split at h
 ·rename_i hb
  split at h
  ·rename_i hx hy; cases h; exact ⟨OZ hb,OV hb,hx,hy⟩
  ·cases h
 ·cases h
section
variable {E:eY} {ops:Array Oper} {Q:cU} {rest:List Oper} {D:List Deferred} {L:List (Nat×Value)} {C:List aq}
variable {d:Nat} {ty:TypeId} {ps:String} {af:Array Edge} {g:Option (Nat×Bool)}
theorem SX {o:Oper} {v:Value} (h:SD E ops o D L C v) (ho:o.dst=some d) (hd:Nat.blt d E.n=true):SE E ops o D L C v d:=⟨h,ho,hd⟩
theorem MV {x:Operand} {v:Value} (h:vF E.n ops L d g x=some v):SE E ops ⟨some d,.move x,ty,ps,af,g⟩ D L C v d:=by
 obtain ⟨A,B,F⟩:=iR h; exact ⟨F4 A F,rfl,B⟩
theorem AG {x:Operand} {v:Value} (h:vF E.n ops L d g x=some v):SE E ops ⟨some d,.assign x,ty,ps,af,g⟩ D L C v d:=by
 obtain ⟨A,B,F⟩:=iR h; exact ⟨zl A F,rfl,B⟩
theorem OX {op:Op} (h:(Dq ops L g&&Nat.blt d E.n)=true):SE E ops ⟨some d,op,ty,ps,af,g⟩ D L C undef d:=by
 rw [cG] at h; exact ⟨Lg h.1,rfl,h.2⟩
theorem NT {xt:TypeId} {x:Operand} {b:Bool} (h:vF E.n ops L d g x=some (.bool b)):SE E ops ⟨some d,.unOp .not xt x,ty,ps,af,g⟩ D L C (.bool !b) d:=by
 obtain ⟨A,B,F⟩:=iR h; exact ⟨Ml A F,rfl,B⟩
theorem NG {xt:TypeId} {x:Operand} {n:Int} (h:vF E.n ops L d g x=some (.int .i64 n)) (hb:qx (-n)):SE E ops ⟨some d,.unOp .neg xt x,ty,ps,af,g⟩ D L C (.int .i64 (-n)) d:=by
 obtain ⟨A,B,F⟩:=iR h; exact ⟨Q6 A F hb,rfl,B⟩
theorem PK {c x y:Operand} {v:Value} (h:pF E.n ops L d g c x y=some v):SE E ops ⟨some d,.pick c x y,ty,ps,af,g⟩ D L C v d:=by
 unfold pF at h
 split at h
 ·rename_i hb
  split at h
  ·rename_i hc; exact ⟨zx (OZ hb) hc h,rfl,OV hb⟩
  ·rename_i hc; exact ⟨yD (OZ hb) hc h,rfl,OV hb⟩
  ·cases h
 ·cases h
theorem EX {x:Operand} {i:Nat} {v:Value} (h:xF E.n ops L d g x i=some v):SE E ops ⟨some d,.extract x i,ty,ps,af,g⟩ D L C v d:=by
 unfold xF at h
 split at h
 ·rename_i vs hv
  obtain ⟨A,B,F⟩:=iR hv
  exact ⟨yc (vs:=vs.toList) A (by simpa using F) h,U,B⟩
 ·cases h
theorem LN {x:Operand} {t e:TypeId} {A:OA} {n c:Nat} (h:vF E.n ops L d g x=some (.slice A n c)) (ht:E.P.underlying t=some (.slice e)):
 SE E ops ⟨some d,.call {callee:= .builtin .len,args:= #[x],argTypes:= #[t]},ty,ps,af,g⟩ D L C (.int .i64 n) d:=by
 obtain ⟨B,F,G⟩:=iR h; exact ⟨Mk B G ht,rfl,F⟩
theorem BI {op:BinOp} {xt yt:TypeId} {x y:Operand} {u v r:Value} (h:bF E.n ops L d g x y=some (u,v)) (hb:gP E.P op xt x y u v r):SE E ops ⟨some d,.binOp op xt x y yt,ty,ps,af,g⟩ D L C r d:=by
 obtain ⟨A,B,F,G⟩:=qL h; exact ⟨bU A F G hb,rfl,B⟩
theorem MN {x y:Operand} {ts:Array TypeId} {a b:Int} {k:IntKind} (h:bF E.n ops L d g x y=some (.int k a,.int k b)):
 SE E ops ⟨some d,.call {callee:= .builtin .min,args:= #[x,y],argTypes:=ts},ty,ps,af,g⟩ D L C (.int k (min a b)) d:=by
 obtain ⟨A,B,F,G⟩:=qL h; exact ⟨QU A F G,rfl,B⟩
theorem MX {x y:Operand} {ts:Array TypeId} {a b:Int} {k:IntKind} (h:bF E.n ops L d g x y=some (.int k a,.int k b)):
 SE E ops ⟨some d,.call {callee:= .builtin .max,args:= #[x,y],argTypes:=ts},ty,ps,af,g⟩ D L C (.int k (max a b)) d:=by
 obtain ⟨A,B,F,G⟩:=qL h; exact ⟨QF A F G,rfl,B⟩
theorem FA (o':Nat) {x:Operand} {b o s f k:Nat} (h:vF E.n ops L d g x=some (.pointer (some ⟨b,o,none⟩))) (hf:sD E.P s f=some k) (ho:o+k=o'):
 SE E ops ⟨some d,.fieldAddr s x f,ty,ps,af,g⟩ D L C (.pointer (some ⟨b,o',none⟩)) d:=by
 obtain ⟨A,B,F⟩:=iR h; exact ⟨O_ A F hf ho,rfl,B⟩
theorem nS (k':Nat) {x:Operand} {A:OA} {n sz:Nat} {es:List (List Value)} {k0 s f k:Nat} (h:vF E.n ops L d g x=some (.pointer (lL A k0))) (hR:il C (rd A n sz es).holds) (hn:0<n*sz)
 (hf:sD E.P s f=some k) (ho:k0+k=k'):SE E ops ⟨some d,.fieldAddr s x f,ty,ps,af,g⟩ D L C (.pointer (lL A k')) d:=by
 obtain ⟨B,F,G⟩:=iR h; exact ⟨Ji B G hR hn hf ho,rfl,F⟩
theorem Ur (k':Nat) {x:Operand} {A:OA} {ad:Addr} {k0 s f k:Nat} (h:vF E.n ops L d g x=some (.pointer (lL A k0))) (hA:A=some ad)
 (hf:sD E.P s f=some k) (ho:k0+k=k'):SE E ops ⟨some d,.fieldAddr s x f,ty,ps,af,g⟩ D L C (.pointer (lL A k')) d:=by
 obtain ⟨B,F,G⟩:=iR h; exact ⟨JV B G hA hf ho,rfl,F⟩
theorem IA (k:Nat) {x ix:Operand} {A:OA} {n c sz e t:Nat} {es:List (List Value)} {j:Int} (h:bF E.n ops L d g x ix=some (.slice A n c,.int .i64 j)) (hR:il C (rd A n sz es).holds)
 (ht:tE E.P t=some (e,sz)) (hz:0<sz) (hj:j=(k:Int)) (hk:k<n):SE E ops ⟨some d,.indexAddr t x ix,ty,ps,af,g⟩ D L C (.pointer (lL A (k*sz))) d:=by
 obtain ⟨B,F,G,H⟩:=qL h; exact ⟨Tz B G H hR ht hz hj hk,rfl,F⟩
theorem TW (k o':Nat) {x ix:Operand} {b o n c sz e t:Nat} {j:Int} (h:bF E.n ops L d g x ix=some (.slice (some ⟨b,o,none⟩) n c,.int .i64 j))
 (ht:tE E.P t=some (e,sz)) (hj:j=(k:Int)) (hk:k<n) (ho:o+k*sz=o'):SE E ops ⟨some d,.indexAddr t x ix,ty,ps,af,g⟩ D L C (.pointer (some ⟨b,o',none⟩)) d:=by
 obtain ⟨A,B,F,G⟩:=qL h; exact ⟨NM A F G ht hj hk ho,rfl,B⟩
/-- the whole of a block, a part of it, one cell -/
theorem LW (i:Nat) {x:Operand} {b t tt n:Nat} {cs:List Value} (h:vF E.n ops L d g x=some (.pointer (some ⟨b,0,none⟩))) (ht:tK E.P t=some (true,n)) (hC:C[i]? =some (bV b tt cs)) (hn:cs.length=n):
 SE E ops ⟨some d,.load t x,ty,ps,af,g⟩ D L C (.agg cs.toArray) d:=by
 obtain ⟨A,B,F⟩:=iR h; exact ⟨xN A F ht (pd i hC sm) hn,rfl,B⟩
theorem LP (vs:List Value) (i:Nat) {x:Operand} {b o t tt n:Nat} {cs:List Value} (h:vF E.n ops L d g x=some (.pointer (some ⟨b,o,none⟩))) (ht:tK E.P t=some (true,n)) (hC:C[i]? =some (bV b tt cs)) (hv:(cs.drop o).take vs.length=vs) (hn:vs.length=n):
 SE E ops ⟨some d,.load t x,ty,ps,af,g⟩ D L C (.agg vs.toArray) d:=by
 obtain ⟨A,B,F⟩:=iR h; exact ⟨xN A F ht (pd i hC hv) hn,rfl,B⟩
theorem Vy (vs:List Value) (i:Nat) {x:Operand} {b o t tt n:Nat} {cs:List Value} (h:vF E.n ops L d g x=some (.pointer (some ⟨b,o,none⟩))) (ht:tK E.P t=some (true,n)) (hC:C[i]? =some (bV b tt cs).ro) (hv:(cs.drop o).take vs.length=vs) (hn:vs.length=n):
 SE E ops ⟨some d,.load t x,ty,ps,af,g⟩ D L C (.agg vs.toArray) d:=by
 obtain ⟨A,B,F⟩:=iR h; exact ⟨xN A F ht (vV i hC hv) hn,rfl,B⟩
theorem L1 (v:Value) (i:Nat) {x:Operand} {b o t tt n:Nat} {cs:List Value} (h:vF E.n ops L d g x=some (.pointer (some ⟨b,o,none⟩))) (ht:tK E.P t=some (false,n)) (hC:C[i]? =some (bV b tt cs)) (hv:(cs.drop o).take 1=[v]):
 SE E ops ⟨some d,.load t x,ty,ps,af,g⟩ D L C v d:=by
 obtain ⟨A,B,F⟩:=iR h; exact ⟨uu A F ht (pd i hC hv),rfl,B⟩
theorem Ih (v:Value) (i:Nat) {x:Operand} {b o t tt n:Nat} {cs:List Value} (h:vF E.n ops L d g x=some (.pointer (some ⟨b,o,none⟩))) (ht:tK E.P t=some (false,n)) (hC:C[i]? =some (bV b tt cs).ro) (hv:(cs.drop o).take 1=[v]):
 SE E ops ⟨some d,.load t x,ty,ps,af,g⟩ D L C v d:=by
 obtain ⟨A,B,F⟩:=iR h; exact ⟨uu A F ht (vV i hC hv),rfl,B⟩
theorem D0 (i:Nat) {x:Operand} {b t tt n:Nat} {v:Value} (h:vF E.n ops L d g x=some (.pointer (some ⟨b,0,none⟩))) (ht:tK E.P t=some (false,n)) (hC:C[i]? =some (bV b tt [v])):
 SE E ops ⟨some d,.load t x,ty,ps,af,g⟩ D L C v d:=by
 obtain ⟨A,B,F⟩:=iR h; exact ⟨uu A F ht (pd i hC rfl),rfl,B⟩
theorem TQ (i:Nat) {x:Operand} {b t tt n:Nat} {v:Value} (h:vF E.n ops L d g x=some (.pointer (some ⟨b,0,none⟩))) (ht:tK E.P t=some (false,n)) (hC:C[i]? =some (bV b tt [v]).ro):
 SE E ops ⟨some d,.load t x,ty,ps,af,g⟩ D L C v d:=by
 obtain ⟨A,B,F⟩:=iR h; exact ⟨uu A F ht (vV i hC rfl),rfl,B⟩
/-- what is read of a row -/
theorem fV (k o:Nat) (v:Value) {x:Operand} {A:OA} {t m n sz:Nat} {es:List (List Value)} {e:List Value} (h:vF E.n ops L d g x=some (.pointer (lL A m))) {nn:Nat} (ht:tK E.P t=some (false,nn)) (hR:il C (rd A n sz es).holds) (he:es[k]? =some e) (hm:m=k*sz+o) (hz:0<sz) (hv:(e.drop o).take 1=[v]):
 SE E ops ⟨some d,.load t x,ty,ps,af,g⟩ D L C v d:=by
 obtain ⟨B,F,G⟩:=iR h; exact ⟨uu B G ht (OP hR he hm hz hv),rfl,F⟩
theorem oH (k o:Nat) (vs:List Value) {x:Operand} {A:OA} {t m n sz:Nat} {es:List (List Value)} {e:List Value} (h:vF E.n ops L d g x=some (.pointer (lL A m))) {nn:Nat} (ht:tK E.P t=some (true,nn)) (hR:il C (rd A n sz es).holds) (he:es[k]? =some e) (hm:m=k*sz+o) (hz:0<sz) (hv:(e.drop o).take vs.length=vs) (hn:vs.length=nn):
 SE E ops ⟨some d,.load t x,ty,ps,af,g⟩ D L C (.agg vs.toArray) d:=by
 obtain ⟨B,F,G⟩:=iR h; exact ⟨xN B G ht (OP hR he hm hz hv) hn,rfl,F⟩
theorem CL {fop:Operand} {xs:Array Operand} {ts:Array TypeId} {f:FuncId} {args:List Value} {Cp:List aq} {v:Value} (c:dT E.P f args Cp v) (hC:kg C Cp) (h:cF E.n ops L d g fop xs.toList=some (f,args)):
 SE E ops ⟨some d,.call {callee:= .value fop,args:=xs,argTypes:=ts},ty,ps,af,g⟩ D L C v d:=by
 unfold cF at h
 split at h
 ·rename_i hb
  split at h
  ·rename_i hf hx; cases h; exact ⟨FE (OZ hb) hf hx rfl c hC,rfl,OV hb⟩
  ·cases h
 ·cases h
theorem FU {fn:Fn} {xs ys:Array Operand} {us vs:List Value} (h:uF E.n ops L d g xs.toList ys.toList=some (us,vs)):SE E ops ⟨some d,.makeFunc fn xs ys,ty,ps,af,g⟩ D L C (.func fn us.toArray vs.toArray) d:=by
 obtain ⟨A,B,F,G⟩:=PV h; exact ⟨N_ A F G,rfl,B⟩
theorem cX {fop:Operand} {xs:Array Operand} {ts:Array TypeId} {f:FuncId} {args:List Value} {Cp:List aq} {α:Type} {V:α→Value} {p:α→Prop} {N:α→List aq} (c:lv E.P f args Cp V p N) (hC:kg C Cp)
 (h:cF E.n ops L d g fop xs.toList=some (f,args)) (k: ∀ x,p x→RJ E ops Q rest D ((d,V x)::L) (N x++C)):
 RJ E ops Q (⟨some d,.call {callee:= .value fop,args:=xs,argTypes:=ts},ty,ps,af,g⟩::rest) D L C:=by
 unfold cF at h
 split at h
 ·rename_i hb
  split at h
  ·rename_i hf hx; cases h; exact Qg (OZ hb) hf hx rfl c hC (OV hb) k
  ·cases h
 ·cases h
/-- a box of a struct, of one cell -/
theorem fM {t:TypeId} {x:Operand} {cs:List Value} (h:vF E.n ops L d g x=some (.agg cs.toArray)) (k: ∀ b,RJ E ops Q rest D ((d,.pointer (some ⟨b,0,none⟩))::L) (bV b t cs::C)):
 RJ E ops Q (⟨some d,.box t x,ty,ps,af,g⟩::rest) D L C:=by
 obtain ⟨A,B,F⟩:=iR h; exact OT A F rfl B k
theorem uc {t:TypeId} {x:Operand} {v:Value} (h:vF E.n ops L d g x=some v) (hv:v.cells.toList=[v]) (k: ∀ b,RJ E ops Q rest D ((d,.pointer (some ⟨b,0,none⟩))::L) (bV b t [v]::C)):
 RJ E ops Q (⟨some d,.box t x,ty,ps,af,g⟩::rest) D L C:=by
 obtain ⟨A,B,F⟩:=iR h; exact OT A F hv B k
theorem AL {t:TypeId} {cs:List Value} (h:gB E.n ops L d g=true) (hz:tZ E.P t=some cs) (k: ∀ b,RJ E ops Q rest D ((d,.pointer (some ⟨b,0,none⟩))::L) (bV b t cs::C)):
 RJ E ops Q (⟨some d,.alloc t,ty,ps,af,g⟩::rest) D L C:=ML (OZ h) hz (OV h) k
/-- a store into the block at the place i of the state -/
def sF (ops:Array Oper) (L:List (Nat×Value)) (g:Option (Nat×Bool)) (x y:Operand):Option (Value×Value):=match ju ops L g with
 |true=>match ev L x,ev L y with
  |some u,some v=>some (u,v)
  |_,_=>none
 |false=>none
theorem Es {ops:Array Oper} {L:List (Nat×Value)} {g:Option (Nat×Bool)} {x y:Operand} {u v:Value} (h:sF ops L g x y=some (u,v)):ju ops L g=true∧ev L x=some u∧ev L y=some v:=by
 unfold sF at h
 split at h
 ·rename_i hb
  split at h
  ·rename_i hx hy; cases h; exact ⟨hb,hx,hy⟩
  ·cases h
 ·cases h
theorem SP {t n b o tt:Nat} {x y:Operand} {v:Value} {cs cs':List Value} {C':List aq} (i:Nat) (h:sF ops L g x y=some (.pointer (some ⟨b,o,none⟩),v)) (ht:(tK E.P t).map (·.2)=some n) (hC:C[i]? =some (bV b tt cs))
 (hk:(v.cells.toList.length==n&&v.cells.toList.all Value.oneCell'&&Nat.ble (o+n) cs.length)=true) (hcs:cs.take o++v.cells.toList++cs.drop (o+n)=cs') (hC':C.set i (bV b tt cs')=C') (k:RJ E ops Q rest D L C'):
 RJ E ops Q (⟨none,.store t x y,ty,ps,af,g⟩::rest) D L C:=by
 obtain ⟨A,B,F⟩:=Es h
 simp only [cG,beq_iff_eq] at hk
 exact jm i A B F ht U hk.1.1 hk.1.2 hC hk.2 hcs hC' k
/-- a store of a whole block, by a struct, by one cell -/
theorem N0 {t n b tt:Nat} {x y:Operand} {cs cs':List Value} {C':List aq} (i:Nat) (h:sF ops L g x y=some (.pointer (some ⟨b,0,none⟩),.agg cs'.toArray)) (ht:(tK E.P t).map (·.2)=some n) (hC:C[i]? =some (bV b tt cs))
 (hk:(Nat.beq cs'.length n&&cs'.all Value.oneCell'&&Nat.beq n cs.length)=true) (hC':C.set i (bV b tt cs')=C') (k:RJ E ops Q rest D L C'):
 RJ E ops Q (⟨none,.store t x y,ty,ps,af,g⟩::rest) D L C:=by
 obtain ⟨AA,J,K⟩:=Es h
 simp only [cG] at hk
 obtain ⟨⟨A,B⟩,F⟩:=hk
 have H:=Nat.eq_of_beq_eq_true A
 have G:=Nat.eq_of_beq_eq_true F
 exact jm i AA J K ht U H B hC (by rw [Nat.zero_add,G]; exact Nat.ble_self_eq_true _) (by rw [Nat.zero_add,G,List.take_zero,List.drop_length]; show []++cs'++[]=cs'; simp) hC' k
theorem U4 {t n b tt:Nat} {x y:Operand} {v u:Value} {C':List aq} (i:Nat) (h:sF ops L g x y=some (.pointer (some ⟨b,0,none⟩),v)) (ht:(tK E.P t).map (·.2)=some n) (hC:C[i]? =some (bV b tt [u]))
 (hv:v.cells.toList=[v]) (hk:(Nat.beq n 1&&v.oneCell')=true) (hC':C.set i (bV b tt [v])=C') (k:RJ E ops Q rest D L C'):
 RJ E ops Q (⟨none,.store t x y,ty,ps,af,g⟩::rest) D L C:=by
 obtain ⟨G,H,AA⟩:=Es h
 rw [cG] at hk
 obtain ⟨A,B⟩:=hk
 have F:=Nat.eq_of_beq_eq_true A
 subst F
 exact jm i G H AA ht hv U (by simp [B]) hC U U hC' k
theorem fP {t n b tt:Nat} {x y:Operand} {cs cs':List Value} (h:sF ops L g x y=some (.pointer (some ⟨b,0,none⟩),.agg cs'.toArray)) (ht:(tK E.P t).map (·.2)=some n) (hk:(Nat.beq cs'.length n&&cs'.all Value.oneCell'&&Nat.beq n cs.length)=true) (k:RJ E ops Q rest D L (bV b tt cs'::C)):RJ E ops Q (⟨none,.store t x y,ty,ps,af,g⟩::rest) D L (bV b tt cs::C):=N0 0 h ht rfl hk rfl k
theorem GA {t n b tt:Nat} {x y:Operand} {v u:Value} (h:sF ops L g x y=some (.pointer (some ⟨b,0,none⟩),v)) (ht:(tK E.P t).map (·.2)=some n) (hv:v.cells.toList=[v]) (hk:(Nat.beq n 1&&v.oneCell')=true) (k:RJ E ops Q rest D L (bV b tt [v]::C)):RJ E ops Q (⟨none,.store t x y,ty,ps,af,g⟩::rest) D L (bV b tt [u]::C):=U4 0 h ht rfl hv hk rfl k
theorem ub {t n b tt:Nat} {x y:Operand} {cs cs':List Value} {A0:aq} (h:sF ops L g x y=some (.pointer (some ⟨b,0,none⟩),.agg cs'.toArray)) (ht:(tK E.P t).map (·.2)=some n) (hk:(Nat.beq cs'.length n&&cs'.all Value.oneCell'&&Nat.beq n cs.length)=true) (k:RJ E ops Q rest D L (A0::bV b tt cs'::C)):RJ E ops Q (⟨none,.store t x y,ty,ps,af,g⟩::rest) D L (A0::bV b tt cs::C):=N0 1 h ht rfl hk rfl k
theorem HT {t n b tt:Nat} {x y:Operand} {cs cs':List Value} {A0 A1:aq} (h:sF ops L g x y=some (.pointer (some ⟨b,0,none⟩),.agg cs'.toArray)) (ht:(tK E.P t).map (·.2)=some n) (hk:(Nat.beq cs'.length n&&cs'.all Value.oneCell'&&Nat.beq n cs.length)=true) (k:RJ E ops Q rest D L (A0::A1::bV b tt cs'::C)):RJ E ops Q (⟨none,.store t x y,ty,ps,af,g⟩::rest) D L (A0::A1::bV b tt cs::C):=N0 2 h ht rfl hk rfl k
theorem VE (cs':List Value) {t n b o tt:Nat} {x y:Operand} {v:Value} {cs:List Value} {A0 A1:aq} (h:sF ops L g x y=some (.pointer (some ⟨b,o,none⟩),v)) (ht:(tK E.P t).map (·.2)=some n) (hk:(v.cells.toList.length==n&&v.cells.toList.all Value.oneCell'&&Nat.ble (o+n) cs.length)=true) (hcs:cs.take o++v.cells.toList++cs.drop (o+n)=cs') (k:RJ E ops Q rest D L (A0::A1::bV b tt cs'::C)):RJ E ops Q (⟨none,.store t x y,ty,ps,af,g⟩::rest) D L (A0::A1::bV b tt cs::C):=SP 2 h ht rfl hk hcs rfl k
theorem TX {t n b tt:Nat} {x y:Operand} {cs cs':List Value} {A0 A1 A2:aq} (h:sF ops L g x y=some (.pointer (some ⟨b,0,none⟩),.agg cs'.toArray)) (ht:(tK E.P t).map (·.2)=some n) (hk:(Nat.beq cs'.length n&&cs'.all Value.oneCell'&&Nat.beq n cs.length)=true) (k:RJ E ops Q rest D L (A0::A1::A2::bV b tt cs'::C)):RJ E ops Q (⟨none,.store t x y,ty,ps,af,g⟩::rest) D L (A0::A1::A2::bV b tt cs::C):=N0 3 h ht rfl hk rfl k
theorem Vl {t n b tt:Nat} {x y:Operand} {v u:Value} {A0 A1 A2:aq} (h:sF ops L g x y=some (.pointer (some ⟨b,0,none⟩),v)) (ht:(tK E.P t).map (·.2)=some n) (hv:v.cells.toList=[v]) (hk:(Nat.beq n 1&&v.oneCell')=true) (k:RJ E ops Q rest D L (A0::A1::A2::bV b tt [v]::C)):RJ E ops Q (⟨none,.store t x y,ty,ps,af,g⟩::rest) D L (A0::A1::A2::bV b tt [u]::C):=U4 3 h ht rfl hv hk rfl k
theorem SQ (cs':List Value) {t n b o tt:Nat} {x y:Operand} {v:Value} {cs:List Value} {A0 A1 A2:aq} (h:sF ops L g x y=some (.pointer (some ⟨b,o,none⟩),v)) (ht:(tK E.P t).map (·.2)=some n) (hk:(v.cells.toList.length==n&&v.cells.toList.all Value.oneCell'&&Nat.ble (o+n) cs.length)=true) (hcs:cs.take o++v.cells.toList++cs.drop (o+n)=cs') (k:RJ E ops Q rest D L (A0::A1::A2::bV b tt cs'::C)):RJ E ops Q (⟨none,.store t x y,ty,ps,af,g⟩::rest) D L (A0::A1::A2::bV b tt cs::C):=SP 3 h ht rfl hk hcs rfl k
theorem Pc {t n b tt:Nat} {x y:Operand} {cs cs':List Value} {A0 A1 A2 A3:aq} (h:sF ops L g x y=some (.pointer (some ⟨b,0,none⟩),.agg cs'.toArray)) (ht:(tK E.P t).map (·.2)=some n) (hk:(Nat.beq cs'.length n&&cs'.all Value.oneCell'&&Nat.beq n cs.length)=true) (k:RJ E ops Q rest D L (A0::A1::A2::A3::bV b tt cs'::C)):RJ E ops Q (⟨none,.store t x y,ty,ps,af,g⟩::rest) D L (A0::A1::A2::A3::bV b tt cs::C):=N0 4 h ht rfl hk rfl k
theorem Vh (cs':List Value) {t n b o tt:Nat} {x y:Operand} {v:Value} {cs:List Value} {A0 A1 A2 A3:aq} (h:sF ops L g x y=some (.pointer (some ⟨b,o,none⟩),v)) (ht:(tK E.P t).map (·.2)=some n) (hk:(v.cells.toList.length==n&&v.cells.toList.all Value.oneCell'&&Nat.ble (o+n) cs.length)=true) (hcs:cs.take o++v.cells.toList++cs.drop (o+n)=cs') (k:RJ E ops Q rest D L (A0::A1::A2::A3::bV b tt cs'::C)):RJ E ops Q (⟨none,.store t x y,ty,ps,af,g⟩::rest) D L (A0::A1::A2::A3::bV b tt cs::C):=SP 4 h ht rfl hk hcs rfl k
theorem Ii {t n b tt:Nat} {x y:Operand} {cs cs':List Value} {A0 A1 A2 A3 A4:aq} (h:sF ops L g x y=some (.pointer (some ⟨b,0,none⟩),.agg cs'.toArray)) (ht:(tK E.P t).map (·.2)=some n) (hk:(Nat.beq cs'.length n&&cs'.all Value.oneCell'&&Nat.beq n cs.length)=true) (k:RJ E ops Q rest D L (A0::A1::A2::A3::A4::bV b tt cs'::C)):RJ E ops Q (⟨none,.store t x y,ty,ps,af,g⟩::rest) D L (A0::A1::A2::A3::A4::bV b tt cs::C):=N0 5 h ht rfl hk rfl k
theorem O6 {t n b tt:Nat} {x y:Operand} {cs cs':List Value} {A0 A1 A2 A3 A4 A5:aq} (h:sF ops L g x y=some (.pointer (some ⟨b,0,none⟩),.agg cs'.toArray)) (ht:(tK E.P t).map (·.2)=some n) (hk:(Nat.beq cs'.length n&&cs'.all Value.oneCell'&&Nat.beq n cs.length)=true) (k:RJ E ops Q rest D L (A0::A1::A2::A3::A4::A5::bV b tt cs'::C)):RJ E ops Q (⟨none,.store t x y,ty,ps,af,g⟩::rest) D L (A0::A1::A2::A3::A4::A5::bV b tt cs::C):=N0 6 h ht rfl hk rfl k
theorem VG {t n b tt:Nat} {x y:Operand} {v u:Value} {A0 A1 A2 A3 A4 A5:aq} (h:sF ops L g x y=some (.pointer (some ⟨b,0,none⟩),v)) (ht:(tK E.P t).map (·.2)=some n) (hv:v.cells.toList=[v]) (hk:(Nat.beq n 1&&v.oneCell')=true) (k:RJ E ops Q rest D L (A0::A1::A2::A3::A4::A5::bV b tt [v]::C)):RJ E ops Q (⟨none,.store t x y,ty,ps,af,g⟩::rest) D L (A0::A1::A2::A3::A4::A5::bV b tt [u]::C):=U4 6 h ht rfl hv hk rfl k
theorem Us (cs':List Value) {t n b o tt:Nat} {x y:Operand} {v:Value} {cs:List Value} {A0 A1 A2 A3 A4 A5:aq} (h:sF ops L g x y=some (.pointer (some ⟨b,o,none⟩),v)) (ht:(tK E.P t).map (·.2)=some n) (hk:(v.cells.toList.length==n&&v.cells.toList.all Value.oneCell'&&Nat.ble (o+n) cs.length)=true) (hcs:cs.take o++v.cells.toList++cs.drop (o+n)=cs') (k:RJ E ops Q rest D L (A0::A1::A2::A3::A4::A5::bV b tt cs'::C)):RJ E ops Q (⟨none,.store t x y,ty,ps,af,g⟩::rest) D L (A0::A1::A2::A3::A4::A5::bV b tt cs::C):=SP 6 h ht rfl hk hcs rfl k
theorem VL {t n b tt:Nat} {x y:Operand} {cs cs':List Value} {A0 A1 A2 A3 A4 A5 A6 A7:aq} (h:sF ops L g x y=some (.pointer (some ⟨b,0,none⟩),.agg cs'.toArray)) (ht:(tK E.P t).map (·.2)=some n) (hk:(Nat.beq cs'.length n&&cs'.all Value.oneCell'&&Nat.beq n cs.length)=true) (k:RJ E ops Q rest D L (A0::A1::A2::A3::A4::A5::A6::A7::bV b tt cs'::C)):RJ E ops Q (⟨none,.store t x y,ty,ps,af,g⟩::rest) D L (A0::A1::A2::A3::A4::A5::A6::A7::bV b tt cs::C):=N0 8 h ht rfl hk rfl k
theorem UY (cs':List Value) {t n b o tt:Nat} {x y:Operand} {v:Value} {cs:List Value} {A0 A1 A2 A3 A4 A5 A6 A7 A8 A9:aq} (h:sF ops L g x y=some (.pointer (some ⟨b,o,none⟩),v)) (ht:(tK E.P t).map (·.2)=some n) (hk:(v.cells.toList.length==n&&v.cells.toList.all Value.oneCell'&&Nat.ble (o+n) cs.length)=true) (hcs:cs.take o++v.cells.toList++cs.drop (o+n)=cs') (k:RJ E ops Q rest D L (A0::A1::A2::A3::A4::A5::A6::A7::A8::A9::bV b tt cs'::C)):RJ E ops Q (⟨none,.store t x y,ty,ps,af,g⟩::rest) D L (A0::A1::A2::A3::A4::A5::A6::A7::A8::A9::bV b tt cs::C):=SP 10 h ht rfl hk hcs rfl k
theorem UA {t n b tt:Nat} {x y:Operand} {cs cs':List Value} {A0 A1 A2 A3 A4 A5 A6 A7 A8 A9 A10:aq} (h:sF ops L g x y=some (.pointer (some ⟨b,0,none⟩),.agg cs'.toArray)) (ht:(tK E.P t).map (·.2)=some n) (hk:(Nat.beq cs'.length n&&cs'.all Value.oneCell'&&Nat.beq n cs.length)=true) (k:RJ E ops Q rest D L (A0::A1::A2::A3::A4::A5::A6::A7::A8::A9::A10::bV b tt cs'::C)):RJ E ops Q (⟨none,.store t x y,ty,ps,af,g⟩::rest) D L (A0::A1::A2::A3::A4::A5::A6::A7::A8::A9::A10::bV b tt cs::C):=N0 11 h ht rfl hk rfl k
end
section
variable {E:eY} {y:Code} {Q:cU} {D:List Deferred} {L:List (Nat×Value)} {C:List aq}
theorem WS {id:Nat} {ops:Array Oper} (h: ∀ K:Act→World→Prop,(∀ D L C,WJ E y Q D L C→KJ E K D L C)→RJ E ops (Exit.then K Q) ops.toList D L C):WJ E (.seq (.region id ops false) y) Q D L C:=ah fun K hK=>aj (h K hK)
theorem RK {ops:Array Oper} {K:Act→World→Prop} {Q':cU} (hK: ∀ D L C,WJ E y Q D L C→KJ E K D L C) (k:WJ E y Q D L C):RJ E ops (Exit.then K Q') [] D L C:=aC (aS (hK _ _ _ k))
theorem KK {K:Act→World→Prop} {Q':cU} (hK: ∀ D L C,WJ E y Q D L C→KJ E K D L C) (k:WJ E y Q D L C):KJ E (Exit.then K Q' .normal) D L C:=aS (hK _ _ _ k)
theorem WK {K:Act→World→Prop} {Q':cU} (hK: ∀ D L C,WJ E y Q D L C→KJ E K D L C) (k:WJ E y Q D L C):WJ E .skip (Exit.then K Q') D L C:=bZ (aS (hK _ _ _ k))
end
theorem DT {p:Prop} [Decidable p] (h:decide p=true):p:=of_decide_eq_true h
theorem DF {p:Prop} [Decidable p] (h:decide p=false): ¬ p:=of_decide_eq_false h
theorem XT {p:Prop} [Decidable p] (h:(!decide p)=true): ¬ p:=by simpa using h
theorem XF {p:Prop} [Decidable p] (h:(!decide p)=false):p:=by simpa using h
/-- what a function hands back: one result, two, three, that lie in slots -/
theorem Q1 {E:eY} {fn:Func} {K:Act→World→Prop} {L:List (Nat×Value)} {C:List aq} {t:Nat} {u v:Value} (hQ: ∀ D L C,LJ E fn (Cb E.w0 v) D L C→KJ E K D L C) (hS:E.S=te) (hr:fn.results.toList=[.tmp t]) (hl:L.lookup t=some u) (e:u=v):KJ E K [] L C:=
 hQ _ _ _ (gX (vs:=[u]) (by rw [hr]; exact ⟨hl,trivial⟩) fun w hs=>D7 e (by rw [hS] at hs; exact hs))
theorem Q2 {E:eY} {fn:Func} {K:Act→World→Prop} {L:List (Nat×Value)} {C:List aq} {t s:Nat} {u x v:Value} (hQ: ∀ D L C,LJ E fn (Cb E.w0 v) D L C→KJ E K D L C) (hS:E.S=te) (hr:fn.results.toList=[.tmp t,.tmp s]) (hl:L.lookup t=some u) (hm:L.lookup s=some x) (e:vT [u,x]=v):KJ E K [] L C:=
 hQ _ _ _ (gX (vs:=[u,x]) (by rw [hr]; exact ⟨hl,hm,trivial⟩) fun w hs=>D7 e (by rw [hS] at hs; exact hs))
theorem N1 {E:eY} {ops:Array Oper} {D:List Deferred} {C' C1:List aq} {F:List (Nat×Value)→List aq→Prop} {tb rem:List Nat} {n:Nat} {L:List (Nat×Value)} {C:List aq} (i:Nat)
 (h:BN E ops D C' C1 F tb n (rem.filter (· != i)) i L C) (hm:rem.filter (fun i=>rem.all fun j=> !im (pV ops) j i)=[i]:=by kernel_rfl):TN E ops D C' C1 F tb (n+1) rem L C:=iJ [i] hm (eE h kl)
theorem NO {E:eY} {ops:Array Oper} {D:List Deferred} {C' C1:List aq} {F:List (Nat×Value)→List aq→Prop} {tb rem:List Nat} {n i:Nat} {L:List (Nat×Value)} {C:List aq} {o:Oper} (ho:ops[i]? =some o) (ht:tb.contains i=false) (rem':List Nat)
 (h: ∀ K:Act→World→Prop,(∀ L' C'',(∀ w,St E.S E.w0 C'' w→St E.S E.w0 C' w)→TN E ops D C' C1 F tb n rem' L' C''→KJ E K D L' C'')→RJ E ops (NQ K) [o] D L C) (hr:rem=rem':=by kernel_rfl):BN E ops D C' C1 F tb n rem i L C:=ia ho hr ht h
theorem RD {E:eY} {ops:Array Oper} {K:Act→World→Prop} {D:List Deferred} {L:List (Nat×Value)} {C C':List aq} {X:List (Nat×Value)→List aq→Prop} (hT: ∀ L' C'',(∀ w,St E.S E.w0 C'' w→St E.S E.w0 C' w)→X L' C''→KJ E K D L' C'')
 (k:Nat) (h2:C.drop k=C') (h:X L C):RJ E ops (NQ K) [] D L C:=aC (hT _ _ (fun w hs=>h2▸hs.take (List.drop_sublist k C)) h)
theorem aT {L L':List (Nat×Value)} (h:L'.map (fun p=>L.lookup p.1)=L'.map (fun p=>some p.2)):dh L L':=by
 induction L' with
 |nil=>exact dh.nil _
 |cons p t ih=>
  simp only [List.map_cons,List.cons.injEq] at h
  exact dh.cons h.1 (ih h.2)
theorem No {C:List aq} {A A' B B' D D':aq} (i j k:Nat) (h1:C[i]? =some A') (e1:A'.holds=A.holds) (h2:C[j]? =some B') (e2:B'.holds=B.holds) (h3:C[k]? =some D') (e3:D'.holds=D.holds):kg C [A,B,D]:=fD i h1 e1 (fD j h2 e2 (fD k h3 e3 aI))
theorem bK {E:eY} {c:Operand} {x y:Code} {b:Bool} {Q:cU} {D:List Deferred} {L:List (Nat×Value)} {C:List aq} (hc:ev L c=some (.bool b)) (h2:b=false→WJ E y Q D L C) (h1:b=true→WJ E x Q D L C):WJ E (.cond c x y) Q D L C:=cy hc h1 h2
theorem b_ {E:eY} {ops:Array Oper} {Q:cU} {rest:List Oper} {D:List Deferred} {L:List (Nat×Value)} {C:List aq} {t:Nat} {b:Bool} (h:L.lookup t=some (.bool b)) (h2:b=false→RJ E ops Q rest D ((t,.bool false)::L) C) (h1:b=true→RJ E ops Q rest D ((t,.bool true)::L) C):RJ E ops Q rest D L C:=cQ h h1 h2
theorem jk {E:eY} {ops:Array Oper} {Q:cU} {rest:List Oper} {D:List Deferred} {L:List (Nat×Value)} {C:List aq} {t:Nat} {b:Bool} {os:List Oper} (h:L.lookup t=some (.bool b)) (h2:b=false→DJ E ops D C (fun L2=>RJ E ops Q rest D L2 C) os ((t,.bool false)::L)) (h1:b=true→DJ E ops D C (fun L2=>RJ E ops Q rest D L2 C) os ((t,.bool true)::L)):DJ E ops D C (fun L2=>RJ E ops Q rest D L2 C) os L:=iX h h1 h2
theorem ct {L:List (Nat×Value)}: ∀ (k:Nat) {L2:List (Nat×Value)} (q:dh L (L2.drop k)) (h:(L2.take k).map (fun p=>L.lookup p.1)=(L2.take k).map (fun p=>some p.2):=by rfl),dh L L2
 |0,_,q,_=>q
 |_+1,[],_,_=>dh.nil _
 |k+1,p::L2,q,h=>by
  obtain ⟨A,B⟩:=List.cons.inj (show L.lookup p.1::(L2.take k).map (fun p=>L.lookup p.1)=some p.2::(L2.take k).map (fun p=>some p.2) from h)
  exact dh.cons (t:=p.1) (v:=p.2) A (ct k q B)
theorem oX {E:eY} {ops:Array Oper} {Q:cU} {rest:List Oper} {D:List Deferred} {L:List (Nat×Value)} {C:List aq} {d:Nat} {ty:TypeId} {ps:String} {af:Array Edge} {g:Option (Nat×Bool)} {op:Op} (k:RJ E ops Q rest D ((d,undef)::L) C) (h:(Dq ops L g&&Nat.blt d E.n)=true:=by rfl):RJ E ops Q (⟨some d,op,ty,ps,af,g⟩::rest) D L C:=rS (OX h) k
theorem dX {E:eY} {ops:Array Oper} {F:List (Nat×Value)→Prop} {rest:List Oper} {D:List Deferred} {L:List (Nat×Value)} {C:List aq} {d:Nat} {ty:TypeId} {ps:String} {af:Array Edge} {g:Option (Nat×Bool)} {op:Op} (k:DJ E ops D C F rest ((d,undef)::L)) (h:(Dq ops L g&&Nat.blt d E.n)=true:=by rfl):DJ E ops D C F (⟨some d,op,ty,ps,af,g⟩::rest) L:=dS (OX h) k
end
section
open Go.RowKit
/-- what of a slice is left from k on -/
def zX (A:OA) (c k sz:Nat):OA:=if c=k then A else A.map (·.add (k*sz))
section
variable {E:eY} {ops:Array Oper} {Q:cU} {rest:List Oper} {D:List Deferred} {L:List (Nat×Value)} {C:List aq}
variable {d:Nat} {ty:TypeId} {ps:String} {af:Array Edge} {g:Option (Nat×Bool)}
theorem FO {P:Program} {t e sz:Nat} (h:tE P t=some (e,sz)) (w:World):P.underlying t=some (.slice e)∧(sizeOf e).run P w= .ok sz w:=by
 unfold tE at h
 split at h
 ·rename_i e' hu
  split at h
  ·rename_i i hi
   cases h
   exact ⟨hu,by simp [sizeOf,typeInfo,hi]⟩
  ·cases h
 ·cases h
theorem vR {P:Program} {t e:Nat} (h:P.underlying t=some (.slice e)):P.underlying t=some (.slice (P.elem t)):=by
 rw [h]; simp [Program.elem,h]
theorem F5 {P:Program} {t e:Nat} (h:P.underlying t=some (.slice e)):P.elem t=e:=by simp [Program.elem,h]
/-- s[k:] -/
theorem VA (k:Nat) {x lo:Operand} {t e sz n c:Nat} {A:OA} {j:Int} (h:bF E.n ops L d g x lo=some (.slice A n c,.int .i64 j)) (ht:tE E.P t=some (e,sz)) (hj:j=(k:Int)) (hk:k≤n):
 SE E ops ⟨some d,.slice t x (some lo) none none,ty,ps,af,g⟩ D L C (.slice (zX A c k sz) (n-k) (c-k)) d:=by
 obtain ⟨G,H,AA,J⟩:=qL h
 subst hj
 refine ⟨dE G sm fun a w B hs=>?_,U,H⟩
 obtain ⟨hu,hz⟩:=FO ht w
 have hr:=run_slice_l (P:=E.P) w t A n c (vR hu) .i64 (k:Int) I I
 rw [F5 hu,hz] at hr
 simp only [Result.andThen,Int.toNat_natCast,sliced] at hr
 have F:=run_sliceAt_slice (P:=E.P) w t (.slice A n c) (some (.int .i64 (k:Int))) none none (vR hu)
 simp [execOp,B.ev AA,B.ev J,F,hr,zX]
/-- s[:k] -/
theorem Uu (k:Nat) {x hi:Operand} {t e sz n c:Nat} {A:OA} {j:Int} (h:bF E.n ops L d g x hi=some (.slice A n c,.int .i64 j)) (ht:tE E.P t=some (e,sz)) (hj:j=(k:Int)) (hk:k≤c):
 SE E ops ⟨some d,.slice t x none (some hi) none,ty,ps,af,g⟩ D L C (.slice A k c) d:=by
 obtain ⟨H,AA,J,K⟩:=qL h
 subst hj
 refine ⟨dE H sm fun a w B hs=>?_,U,AA⟩
 obtain ⟨hu,hz⟩:=FO ht w
 have hr:=run_slice_h (P:=E.P) w t A n c (vR hu) .i64 (k:Int) I I
 rw [F5 hu,hz] at hr
 have G:(if c=0 then A else A.map (·.add (0*sz)))=A:=by
  split
  ·rfl
  ·cases A with
   |none=>rfl
   |some ad=>simp [Addr.add]
 simp only [Result.andThen,Int.toNat_natCast,sliced,G,Nat.sub_zero] at hr
 have F:=run_sliceAt_slice (P:=E.P) w t (.slice A n c) none (some (.int .i64 (k:Int))) none (vR hu)
 simp [execOp,B.ev J,B.ev K,F,hr]
/-- an element of a row whose place is known -/
theorem VI (k:Nat) {x ix:Operand} {A:OA} {ad:Addr} {n c sz e t:Nat} {j:Int} (h:bF E.n ops L d g x ix=some (.slice A n c,.int .i64 j)) (hA:A=some ad) (ht:tE E.P t=some (e,sz)) (hj:j=(k:Int)) (hk:k<n):
 SE E ops ⟨some d,.indexAddr t x ix,ty,ps,af,g⟩ D L C (.pointer (lL A (k*sz))) d:=by
 obtain ⟨F,G,H,AA⟩:=qL h
 refine ⟨dE F sm fun a w B hs=>?_,U,G⟩
 subst hA hj
 simp [execOp,B.ev H,B.ev AA,lL,qv ht hk]
end
theorem F_ {w:World} {a:OA} {c e sz:Nat} {es:List (List Value)} (h:(own a c e sz es).holds w):es.length≤c:=by
 rcases h.2.2 with ⟨A,B⟩|⟨g,cap,cur,hv,_,_,C,_⟩
 ·omega
 ·injection hv with _ _ hc; omega
end
section
open Go.RowKit
/-- an array's length, its elements' type and their size -/
def aE (P:Program) (t:TypeId):Option (Nat×TypeId×Nat):=
 match P.underlying t with
 |some (.array n e)=>match P.info? e with
  |some i=>some (n,e,i.size)
  |none=>none
 |_=>none
theorem FV {P:Program} {t n e sz:Nat} (h:aE P t=some (n,e,sz)) (w:World):P.underlying t=some (.array n e)∧(sizeOf e).run P w= .ok sz w:=by
 unfold aE at h
 split at h
 ·rename_i n' e' hu
  split at h
  ·rename_i i hi
   cases h
   exact ⟨hu,by simp [sizeOf,typeInfo,hi]⟩
  ·cases h
 ·cases h
theorem vN {P:Program} {t n e sz:Nat} (h:aE P t=some (n,e,sz)) (a:Addr) (w:World):
 (Instr.sliceAt t (.pointer (some a)) none none none).run P w= .ok (.slice (some a) n n) w:=by
 obtain ⟨hu,hz⟩:=FV h w
 have A:a.add 0=a:=by simp [Addr.add]
 simp [Instr.sliceAt,underlying,hu,Instr.sureAddr,Instr.sliceBounds,hz,A]
theorem vL {P:Program} {t n e sz:Nat} (h:aE P t=some (n,e,sz)) (a:Addr) {k:Nat} (hk:k<n) (w:World):
 (Instr.indexAt t (.pointer (some a)) (.int .i64 (k:Int))).run P w= .ok (.pointer (some (a.add (k*sz)))) w:=by
 obtain ⟨hu,hz⟩:=FV h w
 have A: ¬ n≤k:=by omega
 simp [Instr.indexAt,underlying,hu,Instr.sureAddr,asIntOf,hz,A]
 try exact fun h=>absurd h A
 try omega
section
variable {E:eY} {ops:Array Oper} {Q:cU} {rest:List Oper} {D:List Deferred} {L:List (Nat×Value)} {C:List aq}
variable {dst:Option Nat} {ty:TypeId} {ps:String} {af:Array Edge} {g:Option (Nat×Bool)}
theorem D6 {x:Operand} {a:Addr} {t n e sz:Nat} (hg:ju ops L g=true) (hx:ev L x=some (.pointer (some a))) (ht:aE E.P t=some (n,e,sz)):
 SD E ops ⟨dst,.slice t x none none none,ty,ps,af,g⟩ D L C (.slice (some a) n n):=
 dE hg sm fun b w A hs=>by
  simp [execOp,A.ev hx,vN ht]
theorem E8 {x ix:Operand} {a:Addr} {t n e sz k:Nat} {j:Int} (hg:ju ops L g=true) (hx:ev L x=some (.pointer (some a))) (hi:ev L ix=some (.int .i64 j)) (ht:aE E.P t=some (n,e,sz)) (hj:j=(k:Int)) (hk:k<n):
 SD E ops ⟨dst,.indexAddr t x ix,ty,ps,af,g⟩ D L C (.pointer (lL (some a) (k*sz))):=
 dE hg sm fun b w A hs=>by
  subst hj
  simp [execOp,A.ev hx,A.ev hi,lL,vL ht a hk]
end
end
section
open Go.RowKit
/-- a table of facts on the program's types -/
structure Dw where
 tk:List (Nat×Bool×Nat)
 fo:List (Nat×List (Option Nat))
 sl:List Nat
def Rd {α:Type}:List (Nat×α)→Nat→Option α
 |[],_=>none
 |(k,v)::l,t=>match Nat.beq k t with
  |true=>some v
  |false=>Rd l t
theorem AS {α:Type}: ∀ {l:List (Nat×α)} {t:Nat} {v:α},Rd l t=some v→(t,v)∈l
 |[],t,v,h=>by simp [Rd] at h
 |(k,u)::l,t,v,h=>by
  unfold Rd at h
  split at h
  ·rename_i hb
   cases h
   rw [Nat.eq_of_beq_eq_true hb]; exact cb
  ·exact cR _ (AS h)
def Mu:List Nat→Nat→Bool
 |[],_=>false
 |k::l,t=>match Nat.beq k t with
  |true=>true
  |false=>Mu l t
theorem BT: ∀ {l:List Nat} {t:Nat},Mu l t=true→t∈l
 |[],t,h=>by simp [Mu] at h
 |k::l,t,h=>by
  unfold Mu at h
  split at h
  ·rename_i hb
   rw [Nat.eq_of_beq_eq_true hb]; exact cb
  ·exact cR _ (BT h)
def Dw.Ly (T:Dw) (t:Nat):Option (Bool×Nat):=Rd T.tk t
def Dw.foF (T:Dw) (s f:Nat):Option Nat:=match Rd T.fo s with
 |some l=>match l[f]? with
  |some (some k)=>some k
  |_=>none
 |none=>none
structure kZ (P:Program) (T:Dw):Prop where
 tk: ∀ p∈T.tk,tK P p.1=some p.2
 fo: ∀ p∈T.fo,∀ f k,p.2[f]? =some (some k)→sD P p.1 f=some k
 sl: ∀ t∈T.sl,∃ e,P.underlying t=some (.slice e)
theorem kZ.Ly {P:Program} {T:Dw} (h:kZ P T) {t:Nat} {r:Bool×Nat} (e:T.Ly t=some r):tK P t=some r:=h.tk _ (AS e)
theorem kZ.foF {P:Program} {T:Dw} (h:kZ P T) {s f k:Nat} (e:T.foF s f=some k):sD P s f=some k:=by
 unfold Dw.foF at e
 split at e
 ·rename_i l hl
  split at e
  ·rename_i k' hk
   cases e
   exact h.fo _ (AS hl) f k hk
  ·cases e
 ·cases e
def TP (P:Program) (T:Dw):Bool:=(T.tk.all fun p=>decide (tK P p.1=some p.2))&&(T.fo.all fun p=>(List.range p.2.length).all fun f=>match p.2[f]? with
 |some (some k)=>decide (sD P p.1 f=some k)
 |_=>true)&&T.sl.all fun t=>match P.underlying t with
 |some (.slice _)=>true
 |_=>false
theorem PM {P:Program} {T:Dw} (h:TP P T=true):kZ P T:=by
 unfold TP at h
 rw [cG,cG] at h
 obtain ⟨⟨B,C⟩,D⟩:=h
 refine ⟨fun p hp=>by simpa using List.all_eq_true.1 B p hp,fun p hp f k hk=>?_,fun t ht=>?_⟩
 ·have A:=List.all_eq_true.1 (List.all_eq_true.1 C p hp) f (List.mem_range.2 (List.getElem?_eq_some_iff.1 hk).1)
  rw [hk] at A
  simpa using A
 ·have A:=List.all_eq_true.1 D t ht
  split at A
  ·rename_i e he; exact ⟨e,he⟩
  ·cases A
end
section
theorem Om:tK Tryz.prog 3=some (false,1):=by kernel_rfl
theorem VK:tK Tryz.prog 4=some (false,1):=by kernel_rfl
theorem Ud:tK Tryz.prog 25=some (false,1):=by kernel_rfl
theorem Vj:tK Tryz.prog 28=some (false,1):=by kernel_rfl
theorem U_:tK Tryz.prog 29=some (false,1):=by kernel_rfl
theorem Vq:tK Tryz.prog 31=some (true,7):=by kernel_rfl
theorem Uq:tK Tryz.prog 32=some (false,1):=by kernel_rfl
theorem Uj:tK Tryz.prog 33=some (false,1):=by kernel_rfl
theorem Td:tK Tryz.prog 35=some (true,11):=by kernel_rfl
theorem Vn:tK Tryz.prog 40=some (true,2):=by kernel_rfl
theorem Uk:tK Tryz.prog 41=some (false,1):=by kernel_rfl
theorem Ua:tK Tryz.prog 43=some (true,3):=by kernel_rfl
theorem Up:tK Tryz.prog 45=some (true,7):=by kernel_rfl
theorem PG:tK Tryz.prog 46=some (false,1):=by kernel_rfl
theorem UK:tK Tryz.prog 64=some (false,1):=by kernel_rfl
theorem UG:tK Tryz.prog 67=some (false,1):=by kernel_rfl
theorem Uh:tK Tryz.prog 81=some (false,1):=by kernel_rfl
theorem UN:tK Tryz.prog 82=some (false,1):=by kernel_rfl
theorem Ux:tK Tryz.prog 89=some (false,1):=by kernel_rfl
theorem RM:tK Tryz.prog 111=some (true,3):=by kernel_rfl
theorem Rl:tK Tryz.prog 114=some (true,9):=by kernel_rfl
theorem Ts:tK Tryz.prog 116=some (true,3):=by kernel_rfl
theorem Rz:tK Tryz.prog 117=some (false,1):=by kernel_rfl
theorem SG:tK Tryz.prog 119=some (true,2):=by kernel_rfl
theorem So:tK Tryz.prog 123=some (true,2):=by kernel_rfl
theorem RY:tK Tryz.prog 144=some (true,1):=by kernel_rfl
theorem S0:tK Tryz.prog 145=some (true,4):=by kernel_rfl
theorem Ty:tK Tryz.prog 203=some (true,1):=by kernel_rfl
theorem Tx:tK Tryz.prog 236=some (false,1):=by kernel_rfl
theorem Sj:tK Tryz.prog 238=some (true,3):=by kernel_rfl
theorem Sm:tK Tryz.prog 272=some (false,1):=by kernel_rfl
theorem SS:tK Tryz.prog 278=some (false,1):=by kernel_rfl
theorem Ry:tK Tryz.prog 280=some (true,2):=by kernel_rfl
theorem BW:(tK Tryz.prog 3).map (·.2)=some 1:=by rw [Om]; rfl
theorem Ve:(tK Tryz.prog 25).map (·.2)=some 1:=by rw [Ud]; rfl
theorem U7:(tK Tryz.prog 28).map (·.2)=some 1:=by rw [Vj]; rfl
theorem UJ:(tK Tryz.prog 29).map (·.2)=some 1:=by rw [U_]; rfl
theorem UU:(tK Tryz.prog 31).map (·.2)=some 7:=by rw [Vq]; rfl
theorem zS:(tK Tryz.prog 32).map (·.2)=some 1:=by rw [Uq]; rfl
theorem UO:(tK Tryz.prog 33).map (·.2)=some 1:=by rw [Uj]; rfl
theorem tv:(tK Tryz.prog 35).map (·.2)=some 11:=by rw [Td]; rfl
theorem cm:(tK Tryz.prog 40).map (·.2)=some 2:=by rw [Vn]; rfl
theorem Vi:(tK Tryz.prog 41).map (·.2)=some 1:=by rw [Uk]; rfl
theorem Ui:(tK Tryz.prog 43).map (·.2)=some 3:=by rw [Ua]; rfl
theorem PR:(tK Tryz.prog 45).map (·.2)=some 7:=by rw [Up]; rfl
theorem UD:(tK Tryz.prog 46).map (·.2)=some 1:=by rw [PG]; rfl
theorem MI:(tK Tryz.prog 64).map (·.2)=some 1:=by rw [UK]; rfl
theorem UR:(tK Tryz.prog 67).map (·.2)=some 1:=by rw [UG]; rfl
theorem RX:(tK Tryz.prog 81).map (·.2)=some 1:=by rw [Uh]; rfl
theorem Vt:(tK Tryz.prog 82).map (·.2)=some 1:=by rw [UN]; rfl
theorem UL:(tK Tryz.prog 89).map (·.2)=some 1:=by rw [Ux]; rfl
theorem IU:(tK Tryz.prog 111).map (·.2)=some 3:=by rw [RM]; rfl
theorem IC:(tK Tryz.prog 114).map (·.2)=some 9:=by rw [Rl]; rfl
theorem tY:(tK Tryz.prog 116).map (·.2)=some 3:=by rw [Ts]; rfl
theorem RZ:(tK Tryz.prog 117).map (·.2)=some 1:=by rw [Rz]; rfl
theorem O0:(tK Tryz.prog 119).map (·.2)=some 2:=by rw [SG]; rfl
theorem wM:(tK Tryz.prog 123).map (·.2)=some 2:=by rw [So]; rfl
theorem Fm:(tK Tryz.prog 144).map (·.2)=some 1:=by rw [RY]; rfl
theorem Sl:(tK Tryz.prog 145).map (·.2)=some 4:=by rw [S0]; rfl
theorem Mn:(tK Tryz.prog 203).map (·.2)=some 1:=by rw [Ty]; rfl
theorem Tb:(tK Tryz.prog 236).map (·.2)=some 1:=by rw [Tx]; rfl
theorem TB:(tK Tryz.prog 238).map (·.2)=some 3:=by rw [Sj]; rfl
theorem yY:(tK Tryz.prog 272).map (·.2)=some 1:=by rw [Sm]; rfl
theorem Ku:(tK Tryz.prog 278).map (·.2)=some 1:=by rw [SS]; rfl
theorem rL:(tK Tryz.prog 280).map (·.2)=some 2:=by rw [Ry]; rfl
theorem zo:aE Tryz.prog 152=some (3,151,2):=by kernel_rfl
theorem QZ:sD Tryz.prog 45 0=some 0:=by kernel_rfl
theorem TZ:se Tryz.prog 40=true:=by kernel_rfl
theorem Uc:se Tryz.prog 69=true:=by kernel_rfl
theorem gT (l:List aa): ∀ v∈(l.map aa.cells).flatten,v.oneCell'=true:=mq (fun _=>rfl) l
theorem rU (l:List al): ∀ v∈(l.map al.cells).flatten,v.oneCell'=true:=mq (fun _=>rfl) l
theorem vD (l:List cw): ∀ v∈(l.map cw.cells).flatten,v.oneCell'=true:=mq (fun _=>rfl) l
theorem vE (l:List bD): ∀ v∈(l.map bD.cells).flatten,v.oneCell'=true:=mq (fun _=>rfl) l
theorem tg (l:List aK): ∀ v∈(l.map aK.cells).flatten,v.oneCell'=true:=mq (fun _=>rfl) l
theorem Vu:tA Tryz.prog 25=some (114,9,72,(Value.agg [(vI 0),(vI 0),(vI 0),(vI 0),(vI 0),(vI 0),(vI 0),(Value.int .u8 0),(vI 0)].toArray)):=by kernel_rfl
theorem U8:tA Tryz.prog 28=some (119,2,32,(Value.agg [(vI 0),(vS none 0 0)].toArray)):=by kernel_rfl
theorem UT:tA Tryz.prog 29=some (121,4,32,(Value.agg [(vI 0),(vI 0),(vI 0),(vI 0)].toArray)):=by kernel_rfl
theorem p5:tA Tryz.prog 32=some (3,1,8,(vI 0)):=by kernel_rfl
theorem Vs:tA Tryz.prog 33=some (46,1,24,(vS none 0 0)):=by kernel_rfl
theorem U3:tA Tryz.prog 41=some (123,2,16,(Value.agg [(vI 0),(vI 0)].toArray)):=by kernel_rfl
theorem Ub:tA Tryz.prog 46=some (45,7,64,(Value.agg [(vB false),(vB false),(vI 0),(vI 0),(vI 0),(vI 0),(vS none 0 0)].toArray)):=by kernel_rfl
theorem US:tA Tryz.prog 59=some (32,1,24,(vS none 0 0)):=by kernel_rfl
theorem EN:tA Tryz.prog 82=some (40,2,16,(Value.agg [(vI 0),(vI 0)].toArray)):=by kernel_rfl
theorem TH:tA Tryz.prog 89=some (82,1,24,(vS none 0 0)):=by kernel_rfl
theorem Rs:tA Tryz.prog 117=some (116,3,24,(Value.agg [(vI 0),(vI 0),(vI 0)].toArray)):=by kernel_rfl
theorem O1:tA Tryz.prog 227=some (241,3,72,(Value.agg [(vS none 0 0),(vS none 0 0),(vS none 0 0)].toArray)):=by kernel_rfl
theorem Th:tA Tryz.prog 236=some (4,1,1,(vB false)):=by kernel_rfl
theorem TG:tA Tryz.prog 271=some (64,1,8,(Value.map none)):=by kernel_rfl
theorem Dj:tA Tryz.prog 272=some (278,1,8,(Value.map none)):=by kernel_rfl
theorem U2:tB Tryz.prog 27=some ([(vS none 0 0)],[(0,1)]):=by kernel_rfl
theorem UH:tB Tryz.prog 31=some ([(vS none 0 0),(vI 0),(vS none 0 0),(vS none 0 0),(vI 0),(vI 0),(vI 0)],[(0,1),(1,1),(2,1),(3,1),(4,1),(5,1),(6,1)]):=by kernel_rfl
theorem Hy:tB Tryz.prog 35=some ([(vS none 0 0),(vI 0),(vS none 0 0),(vS none 0 0),(vI 0),(vI 0),(vI 0),(vS none 0 0),(vS none 0 0),(vI 0),(vS none 0 0)],[(0,7),(7,1),(8,1),(9,1),(10,1)]):=by kernel_rfl
theorem gf:tB Tryz.prog 40=some ([(vI 0),(vI 0)],[(0,1),(1,1)]):=by kernel_rfl
theorem T_:tB Tryz.prog 43=some ([(vI 0),(vI 0),(vS none 0 0)],[(0,1),(1,1),(2,1)]):=by kernel_rfl
theorem PO:tB Tryz.prog 45=some ([(vB false),(vB false),(vI 0),(vI 0),(vI 0),(vI 0),(vS none 0 0)],[(0,1),(1,1),(2,2),(4,3)]):=by kernel_rfl
theorem Vf:tB Tryz.prog 91=some ([(vS none 0 0),(vI 0),(vS none 0 0),(vS none 0 0),(vI 0),(vI 0),(vI 0),(vS none 0 0),(vS none 0 0),(vI 0),(vS none 0 0),(vS none 0 0),(Value.map none)],[(0,11),(11,1),(12,1)]):=by kernel_rfl
theorem Tp:tB Tryz.prog 111=some ([(vI 0),(vI 0),(vI 0)],[(0,1),(1,2)]):=by kernel_rfl
theorem Sk:tB Tryz.prog 114=some ([(vI 0),(vI 0),(vI 0),(vI 0),(vI 0),(vI 0),(vI 0),(Value.int .u8 0),(vI 0)],[(0,1),(1,2),(3,2),(5,2),(7,1),(8,1)]):=by kernel_rfl
theorem Pe:tB Tryz.prog 116=some ([(vI 0),(vI 0),(vI 0)],[(0,1),(1,2)]):=by kernel_rfl
theorem RF:tB Tryz.prog 119=some ([(vI 0),(vS none 0 0)],[(0,1),(1,1)]):=by kernel_rfl
theorem Kr:tB Tryz.prog 121=some ([(vI 0),(vI 0),(vI 0),(vI 0)],[(0,3),(3,1)]):=by kernel_rfl
theorem F3:tB Tryz.prog 123=some ([(vI 0),(vI 0)],[(0,1),(1,1)]):=by kernel_rfl
theorem Fy:tB Tryz.prog 144=some ([Value.nilFunc],[(0,1)]):=by kernel_rfl
theorem RN:tB Tryz.prog 145=some ([Value.nilFunc,Value.nilFunc,Value.nilFunc,Value.nilFunc],[(0,1),(1,1),(2,1),(3,1)]):=by kernel_rfl
theorem Rw:tB Tryz.prog 166=some ([(vI 0),(vI 0)],[(0,1),(1,1)]):=by kernel_rfl
theorem SH:tB Tryz.prog 203=some ([(vS none 0 0)],[(0,1)]):=by kernel_rfl
theorem R_:tB Tryz.prog 241=some ([(vS none 0 0),(vS none 0 0),(vS none 0 0)],[(0,1),(1,1),(2,1)]):=by kernel_rfl
theorem RV:tB Tryz.prog 274=some ([(vS none 0 0),(vI 0),(vS none 0 0),(vS none 0 0),(vI 0),(vI 0),(vI 0),(vI 0),(vI 0),(vS none 0 0),(vS none 0 0),(vS none 0 0),(vS none 0 0),(vS none 0 0)],[(0,7),(7,3),(10,1),(11,1),(12,1),(13,1)]):=by kernel_rfl
theorem BE:tB Tryz.prog 280=some ([(vI 0),(vI 0)],[(0,1),(1,1)]):=by kernel_rfl
theorem yj:tE Tryz.prog 25=some (114,9):=by kernel_rfl
theorem AA:tE Tryz.prog 28=some (119,2):=by kernel_rfl
theorem vJ:tE Tryz.prog 29=some (121,4):=by kernel_rfl
theorem cp:tE Tryz.prog 32=some (3,1):=by kernel_rfl
theorem ry:tE Tryz.prog 33=some (46,1):=by kernel_rfl
theorem z5:tE Tryz.prog 41=some (123,2):=by kernel_rfl
theorem xM:tE Tryz.prog 46=some (45,7):=by kernel_rfl
theorem nW:tE Tryz.prog 59=some (32,1):=by kernel_rfl
theorem jQ:tE Tryz.prog 82=some (40,2):=by kernel_rfl
theorem OM:tE Tryz.prog 89=some (82,1):=by kernel_rfl
theorem qi:tE Tryz.prog 117=some (116,3):=by kernel_rfl
theorem Ko:tE Tryz.prog 148=some (151,2):=by kernel_rfl
theorem IL:tE Tryz.prog 218=some (111,3):=by kernel_rfl
theorem Gv:tE Tryz.prog 227=some (241,3):=by kernel_rfl
theorem Pm:tE Tryz.prog 236=some (4,1):=by kernel_rfl
theorem Pn:tE Tryz.prog 270=some (266,1):=by kernel_rfl
theorem F6:tE Tryz.prog 271=some (64,1):=by kernel_rfl
theorem oq:tE Tryz.prog 272=some (278,1):=by kernel_rfl
theorem AW:(match Tryz.prog.underlying 40 with |some (.struct fs)=>(fs[0]?).map (fun fl=>tK Tryz.prog fl.type)|_=>none)=some (some (false,1)):=by kernel_rfl
theorem Aa:(match Tryz.prog.underlying 40 with |some (.struct fs)=>(fs[1]?).map (fun fl=>tK Tryz.prog fl.type)|_=>none)=some (some (false,1)):=by kernel_rfl
theorem VC:tV Tryz.prog 3=some (vI 0):=by kernel_rfl
theorem VM:tV Tryz.prog 4=some (vB false):=by kernel_rfl
theorem vz:tV Tryz.prog 40=some (Value.agg [(vI 0),(vI 0)].toArray):=by kernel_rfl
theorem FN:tX Tryz.prog 145=some (4,144):=by kernel_rfl
theorem Gj:tX Tryz.prog 166=some (2,3):=by kernel_rfl
theorem jf:tZ Tryz.prog 3=some [(vI 0)]:=by kernel_rfl
theorem VH:tZ Tryz.prog 4=some [(vB false)]:=by kernel_rfl
theorem AT:tZ Tryz.prog 12=some [(Value.int .u64 0)]:=by kernel_rfl
theorem Uw:tZ Tryz.prog 31=some [(vS none 0 0),(vI 0),(vS none 0 0),(vS none 0 0),(vI 0),(vI 0),(vI 0)]:=by kernel_rfl
theorem vM:tZ Tryz.prog 32=some [(vS none 0 0)]:=by kernel_rfl
theorem C8:tZ Tryz.prog 35=some [(vS none 0 0),(vI 0),(vS none 0 0),(vS none 0 0),(vI 0),(vI 0),(vI 0),(vS none 0 0),(vS none 0 0),(vI 0),(vS none 0 0)]:=by kernel_rfl
theorem de:tZ Tryz.prog 40=some [(vI 0),(vI 0)]:=by kernel_rfl
theorem Uf:tZ Tryz.prog 43=some [(vI 0),(vI 0),(vS none 0 0)]:=by kernel_rfl
theorem Oy:tZ Tryz.prog 45=some [(vB false),(vB false),(vI 0),(vI 0),(vI 0),(vI 0),(vS none 0 0)]:=by kernel_rfl
theorem U0:tZ Tryz.prog 46=some [(vS none 0 0)]:=by kernel_rfl
theorem Rk:tZ Tryz.prog 64=some [(Value.map none)]:=by kernel_rfl
theorem Vm:tZ Tryz.prog 67=some [(Value.map none)]:=by kernel_rfl
theorem Rf:tZ Tryz.prog 81=some [(Value.pointer none)]:=by kernel_rfl
theorem Tl:tZ Tryz.prog 82=some [(vS none 0 0)]:=by kernel_rfl
theorem Cf:tZ Tryz.prog 111=some [(vI 0),(vI 0),(vI 0)]:=by kernel_rfl
theorem FF:tZ Tryz.prog 114=some [(vI 0),(vI 0),(vI 0),(vI 0),(vI 0),(vI 0),(vI 0),(Value.int .u8 0),(vI 0)]:=by kernel_rfl
theorem rG:tZ Tryz.prog 116=some [(vI 0),(vI 0),(vI 0)]:=by kernel_rfl
theorem JY:tZ Tryz.prog 119=some [(vI 0),(vS none 0 0)]:=by kernel_rfl
theorem Tr:tZ Tryz.prog 121=some [(vI 0),(vI 0),(vI 0),(vI 0)]:=by kernel_rfl
theorem FY:tZ Tryz.prog 123=some [(vI 0),(vI 0)]:=by kernel_rfl
theorem Fj:tZ Tryz.prog 144=some [Value.nilFunc]:=by kernel_rfl
theorem Rp:tZ Tryz.prog 145=some [Value.nilFunc,Value.nilFunc,Value.nilFunc,Value.nilFunc]:=by kernel_rfl
theorem L9:tZ Tryz.prog 203=some [(vS none 0 0)]:=by kernel_rfl
theorem Pg:tZ Tryz.prog 238=some [(vS none 0 0),(vS none 0 0),(vS none 0 0)]:=by kernel_rfl
theorem Rh:tZ Tryz.prog 241=some [(vS none 0 0),(vS none 0 0),(vS none 0 0)]:=by kernel_rfl
theorem Ri:tZ Tryz.prog 266=some [Value.nilFunc]:=by kernel_rfl
theorem tx:tZ Tryz.prog 280=some [(vI 0),(vI 0)]:=by kernel_rfl
theorem oJ:Tryz.prog.underlying 3=some (.int .i64):=by kernel_rfl
theorem Vx:Tryz.prog.underlying 4=some .bool:=by kernel_rfl
theorem TV:Tryz.prog.underlying 5=some (.int .u8):=by kernel_rfl
theorem VJ:Tryz.prog.underlying 9=some .string:=by kernel_rfl
theorem QW:Tryz.prog.underlying 25=some (.slice 114):=by kernel_rfl
theorem S8:Tryz.prog.underlying 28=some (.slice 119):=by kernel_rfl
theorem Qe:Tryz.prog.underlying 29=some (.slice 121):=by kernel_rfl
theorem SL:Tryz.prog.underlying 32=some (.slice 3):=by kernel_rfl
theorem Ro:Tryz.prog.underlying 33=some (.slice 46):=by kernel_rfl
theorem Rr:Tryz.prog.underlying 41=some (.slice 123):=by kernel_rfl
theorem SR:Tryz.prog.underlying 46=some (.slice 45):=by kernel_rfl
theorem mm:Tryz.prog.underlying 64=some (.map 3 40):=by kernel_rfl
theorem vx:Tryz.prog.underlying 67=some (.map 3 4):=by kernel_rfl
theorem O5:Tryz.prog.underlying 117=some (.slice 116):=by kernel_rfl
theorem Rj:Tryz.prog.underlying 136=some (.int .u64):=by kernel_rfl
theorem SJ:Tryz.prog.underlying 179=some (.int .u64):=by kernel_rfl
theorem o2:Tryz.prog.underlying 278=some (.map 280 3):=by kernel_rfl
theorem PU:fL Tryz.prog 40=some [(3,0),(3,1)]:=by kernel_rfl
theorem O9 (d:Nat) (s z:aa) (w:World):(Op.equalIn (d+2) 40 (.agg s.cells.toArray) (.agg z.cells.toArray)).run Tryz.prog w= .ok (decide (s=z)) w:=by
 have hc:(decide (s.Lo=z.Lo)&&(decide (s.Hi=z.Hi)&&true))=decide (s=z):=by rw [Bool.eq_iff_iff]; simp [aa.ext_iff]
 rw [← hc]
 exact wj (d+1) PU w (sL w (jV Om U w) (jV Om U w) (v9 _ oJ w) (sL w (jV Om U w) (jV Om U w) (v9 _ oJ w) (Fq w)))
theorem tI (x y:Operand) (s z:aa):gP Tryz.prog .eql 40 x y (.agg s.cells.toArray) (.agg z.cells.toArray) (.bool (decide (s=z))):=HJ x y (Bz PU) fun w=>O9 9998 s z w
theorem Tk (x y:Operand) (s z:aa):gP Tryz.prog .neq 40 x y (.agg s.cells.toArray) (.agg z.cells.toArray) (.bool (!decide (s=z))):=Ic x y (Bz PU) fun w=>O9 9998 s z w
theorem OQ:fL Tryz.prog 280=some [(3,0),(3,1)]:=by kernel_rfl
theorem QY (d:Nat) (s z:aB) (w:World):(Op.equalIn (d+2) 280 (.agg s.cells.toArray) (.agg z.cells.toArray)).run Tryz.prog w= .ok (decide (s=z)) w:=by
 have hc:(decide (s.right=z.right)&&(decide (s.eL=z.eL)&&true))=decide (s=z):=by rw [Bool.eq_iff_iff]; simp [aB.ext_iff]
 rw [← hc]
 exact wj (d+1) OQ w (sL w (jV Om U w) (jV Om U w) (v9 _ oJ w) (sL w (jV Om U w) (jV Om U w) (v9 _ oJ w) (Fq w)))
theorem cu:Tryz.prog.follows .mixedOrders=true:=by kernel_rfl
def TT:Dw:=⟨[(1,false,1),(2,false,1),(3,false,1),(4,false,1),(5,false,1),(6,false,1),(7,true,4),(8,true,4),(12,false,1),(15,false,1),(16,false,1),(17,false,1),(18,true,1),(19,true,1),(21,false,1),(22,false,1),(23,false,1),(24,false,1),(25,false,1),(26,true,1),(27,true,1),(28,false,1),(29,false,1),(30,true,7),(31,true,7),(32,false,1),(33,false,1),(34,true,11),(35,true,11),(36,false,1),(37,false,1),(38,false,1),(39,true,2),(40,true,2),(41,false,1),(42,true,3),(43,true,3),(44,true,7),(45,true,7),(46,false,1),(47,false,1),(49,false,1),(50,false,1),(52,false,1),(54,false,1),(55,false,1),(57,false,1),(58,false,1),(59,false,1),(61,false,1),(62,false,1),(63,false,1),(64,false,1),(66,false,1),(67,false,1),(69,false,1),(70,false,1),(71,false,1),(72,false,1),(73,false,1),(74,false,1),(75,false,1),(76,false,1),(77,false,1),(78,false,1),(79,false,1),(80,false,1),(81,false,1),(82,false,1),(84,false,1),(86,false,1),(87,false,1),(88,false,1),(89,false,1),(90,true,13),(91,true,13),(92,false,1),(93,false,1),(94,false,1),(95,false,1),(96,false,1),(97,false,1),(98,false,1),(99,false,1),(100,false,1),(101,false,1),(102,false,1),(103,false,1),(104,false,1),(105,false,1),(106,false,1),(107,false,1),(108,false,1),(109,false,1),(110,true,3),(111,true,3),(112,false,1),(113,true,9),(114,true,9),(115,true,3),(116,true,3),(117,false,1),(118,true,2),(119,true,2),(120,true,4),(121,true,4),(122,true,2),(123,true,2),(124,false,1),(125,false,1),(126,false,1),(127,false,1),(128,false,1),(129,false,1),(130,false,1),(131,false,1),(132,false,1),(133,false,1),(134,false,1),(135,false,1),(136,false,1),(137,false,1),(139,false,1),(140,false,1),(141,false,1),(142,false,1),(143,false,1),(144,true,1),(145,true,4),(146,false,1),(147,false,1),(148,false,1),(149,false,1),(150,true,2),(151,true,2),(152,true,6),(153,false,1),(154,false,1),(155,false,1),(156,false,1),(157,false,1),(158,false,1),(159,false,1),(160,false,1),(161,false,1),(162,false,1),(163,false,1),(164,false,1),(165,false,1),(166,true,2),(167,false,1),(168,false,1),(169,false,1),(171,false,1),(172,false,1),(173,false,1),(174,false,1),(176,false,1),(177,false,1),(178,false,1),(179,false,1),(180,false,1),(181,false,1),(183,false,1),(184,false,1),(185,false,1),(186,false,1),(187,false,1),(188,false,1),(189,false,1),(190,false,1),(191,false,1),(192,false,1),(193,false,1),(194,false,1),(195,false,1),(196,false,1),(197,false,1),(198,false,1),(199,false,1),(200,false,1),(201,false,1),(202,true,1),(203,true,1),(205,false,1),(206,false,1),(208,false,1),(209,false,1),(210,false,1),(211,false,1),(213,false,1),(214,false,1),(215,false,1),(217,false,1),(218,false,1),(219,false,1),(220,false,1),(221,false,1),(222,false,1),(223,false,1),(224,false,1),(225,false,1),(226,false,1),(227,false,1),(229,false,1),(230,false,1),(231,false,1),(232,false,1),(233,false,1),(234,false,1),(235,false,1),(236,false,1),(237,true,3),(238,true,3),(239,false,1),(240,true,3),(241,true,3),(242,false,1),(243,false,1),(244,false,1),(245,false,1),(248,true,0),(249,true,0),(250,true,0),(251,false,1),(252,false,1),(253,false,1),(254,false,1),(255,false,1),(256,false,1),(257,false,1),(258,true,11),(259,true,11),(261,false,1),(262,false,1),(263,false,1),(265,false,1),(266,false,1),(267,false,1),(268,false,1),(269,false,1),(270,false,1),(271,false,1),(272,false,1),(273,true,14),(274,true,14),(275,false,1),(276,false,1),(277,false,1),(278,false,1),(279,true,2),(280,true,2),(281,false,1),(282,false,1),(283,false,1),(284,false,1)],[(7,[some 0,some 1,some 2,some 3]),(8,[some 0,some 1,some 2,some 3]),(18,[some 0]),(19,[some 0]),(26,[some 0]),(27,[some 0]),(30,[some 0,some 1,some 2,some 3,some 4,some 5,some 6]),(31,[some 0,some 1,some 2,some 3,some 4,some 5,some 6]),(34,[some 0,some 7,some 8,some 9,some 10]),(35,[some 0,some 7,some 8,some 9,some 10]),(39,[some 0,some 1]),(40,[some 0,some 1]),(42,[some 0,some 1,some 2]),(43,[some 0,some 1,some 2]),(44,[some 0,some 1,some 2,some 4]),(45,[some 0,some 1,some 2,some 4]),(90,[some 0,some 11,some 12]),(91,[some 0,some 11,some 12]),(110,[some 0,some 1]),(111,[some 0,some 1]),(113,[some 0,some 1,some 3,some 5,some 7,some 8]),(114,[some 0,some 1,some 3,some 5,some 7,some 8]),(115,[some 0,some 1]),(116,[some 0,some 1]),(118,[some 0,some 1]),(119,[some 0,some 1]),(120,[some 0,some 3]),(121,[some 0,some 3]),(122,[some 0,some 1]),(123,[some 0,some 1]),(144,[some 0]),(150,[some 0,some 1]),(151,[some 0,some 1]),(202,[some 0]),(203,[some 0]),(237,[some 0,some 1,some 2]),(238,[some 0,some 1,some 2]),(240,[some 0,some 1,some 2]),(241,[some 0,some 1,some 2]),(258,[some 0,some 1,some 2,some 3,some 4,some 5,some 6,some 7,some 8,some 9,some 10]),(259,[some 0,some 1,some 2,some 3,some 4,some 5,some 6,some 7,some 8,some 9,some 10]),(273,[some 0,some 7,some 10,some 11,some 12,some 13]),(274,[some 0,some 7,some 10,some 11,some 12,some 13]),(279,[some 0,some 1]),(280,[some 0,some 1])],[25,28,29,32,33,41,46,59,74,82,89,117,148,218,227,236,270,271,272]⟩
theorem pZ:kZ Tryz.prog TT:=PM kr
theorem bX {t:TypeId} {x:Bool×Nat} (h:TT.Ly t=some x:=by rfl):tK Tryz.prog t=some x:=pZ.Ly h
theorem fu {s f k:Nat} (h:TT.foF s f=some k:=by rfl):sD Tryz.prog s f=some k:=pZ.foF h
end
section
open Go.RowKit
/-- blocks that are read -/
def MM (C:List aq) (M:List (Nat×List Value)):Prop:= ∀ p∈M,∀ o vs,(p.2.drop o).take vs.length=vs→At C (some ⟨p.1,o,none⟩) vs
theorem mn {C:List aq}:MM C []:=fun p h=>by cases h
theorem mc {C:List aq} {b t:Nat} {cs:List Value} {M:List (Nat×List Value)} (i:Nat) (hC:C[i]? =some (bV b t cs)) (h:MM C M):MM C ((b,cs)::M):=fun p hp o vs hv=>by
 rcases List.mem_cons.1 hp with rfl|hp
 ·exact pd i hC hv
 ·exact h p hp o vs hv
theorem mr {C:List aq} {b t:Nat} {cs:List Value} {M:List (Nat×List Value)} (i:Nat) (hC:C[i]? =some (bV b t cs).ro) (h:MM C M):MM C ((b,cs)::M):=fun p hp o vs hv=>by
 rcases List.mem_cons.1 hp with rfl|hp
 ·exact vV i hC hv
 ·exact h p hp o vs hv
def pK:List Prop→Prop
 |[]=>True
 |p::l=>p∧pK l
theorem j3 {p:Prop} {l:List Prop} (h:p) (h2:pK l):pK (p::l):=⟨h,h2⟩
/-- the value of an operation, what it asks for, and what is left of the list of places -/
def pv (T:Dw) (ops:Array Oper) (M:List (Nat×List Value)) (L:List (Nat×Value)) (hs:List Nat) (g:Option (Nat×Bool)) (op:Op):Option (Value×List Prop×List Nat):=
 match Dq ops L g with
 |true=>some (undef,[],hs)
 |false=>match ju ops L g with
  |false=>none
  |true=>match op with
   | .move x=>match ev L x with
    |some v=>some (v,[],hs)
    |none=>none
   | .assign x=>match ev L x with
    |some v=>some (v,[],hs)
    |none=>none
   | .pick c x y=>match ev L c with
    |some (.bool true)=>match ev L x with
     |some v=>some (v,[],hs)
     |none=>none
    |some (.bool false)=>match ev L y with
     |some v=>some (v,[],hs)
     |none=>none
    |_=>none
   | .unOp .not _ x=>match ev L x with
    |some (.bool b)=>some (.bool !b,[],hs)
    |_=>none
   | .extract x i=>match ev L x with
    |some (.tuple vs)=>match vs.toList[i]? with
     |some v=>some (v,[],hs)
     |none=>none
    |_=>none
   | .fieldAddr s x f=>match ev L x with
    |some (.pointer (some ⟨b,o,none⟩))=>match T.foF s f with
     |some k=>some (.pointer (some ⟨b,o+k,none⟩),[],hs)
     |none=>none
    |_=>none
   | .binOp op _ x y _=>match ev L x with
    |some (.int .i64 a)=>match ev L y with
     |some (.int .i64 b)=>match op with
      | .lss=>some (.bool (decide (a<b)),[],hs)
      | .leq=>some (.bool (decide (a≤b)),[],hs)
      | .gtr=>some (.bool (decide (b<a)),[],hs)
      | .geq=>some (.bool (decide (b≤a)),[],hs)
      | .eql=>some (.bool (decide (a=b)),[],hs)
      | .neq=>some (.bool (!decide (a=b)),[],hs)
      | .add=>some (.int .i64 (a+b),[-9223372036854775808≤a+b,a+b≤9223372036854775807],hs)
      | .sub=>some (.int .i64 (a-b),[-9223372036854775808≤a-b,a-b≤9223372036854775807],hs)
      |_=>none
     |_=>none
    |_=>none
   | .load t x=>match ev L x with
    |some (.pointer (some ⟨b,o,none⟩))=>match M[hs.headD 0]? with
     |some (b',cs)=>match T.Ly t with
      |some (false,_)=>match cs[o]? with
       |some v=>some (v,[b'=b],hs.tail)
       |none=>none
      |some (true,n)=>match Nat.beq o 0 with
       |true=>match Nat.beq cs.length n with
        |true=>some (.agg cs.toArray,[b'=b],hs.tail)
        |false=>none
       |false=>none
      |none=>none
     |none=>none
    |_=>none
   | .call c=>match c with
    |{callee:= .builtin .len,args:=xs,argTypes:=ts}=>match xs.toList with
     |[x]=>match ts.toList with
      |[t]=>match ev L x with
       |some (.slice A n c)=>match Mu T.sl t with
        |true=>some (.int .i64 n,[],hs)
        |false=>none
       |_=>none
      |_=>none
     |_=>none
    |_=>none
   |_=>none
section
variable {E:eY} {T:Dw} {ops:Array Oper} {M:List (Nat×List Value)} {D:List Deferred} {L:List (Nat×Value)} {C:List aq} {hs hs':List Nat}
theorem vv {cs:List Value} {o:Nat} {v:Value} (h:cs[o]? =some v):(cs.drop o).take [v].length=[v]:=by
 obtain ⟨hl,rfl⟩:=List.getElem?_eq_some_iff.1 h
 rw [List.drop_eq_getElem_cons hl]; rfl
theorem SU {o:Oper} {v:Value} {S:List Prop} (hT:kZ E.P T) (hM:MM C M) (h:pv T ops M L hs o.guard o.op=some (v,S,hs')) (hS:pK S):SD E ops o D L C v:=by
 obtain ⟨dst,op,ty,ps,af,g⟩:=o
 unfold pv at h
 simp only at h
 split at h
 ·rename_i hg
  cases h
  exact Lg hg
 ·split at h
  ·cases h
  ·rename_i hg
   split at h
   ·split at h
    ·rename_i hx; cases h; exact F4 hg hx
    ·cases h
   ·split at h
    ·rename_i hx; cases h; exact zl hg hx
    ·cases h
   ·split at h
    ·rename_i hc
     split at h
     ·rename_i hx; cases h; exact zx hg hc hx
     ·cases h
    ·rename_i hc
     split at h
     ·rename_i hx; cases h; exact yD hg hc hx
     ·cases h
    ·cases h
   ·split at h
    ·rename_i hx; cases h; exact Ml hg hx
    ·cases h
   ·split at h
    ·rename_i vs hx
     split at h
     ·rename_i v' hv; cases h; exact yc (vs:=vs.toList) hg (by simpa using hx) hv
     ·cases h
    ·cases h
   ·split at h
    ·rename_i hx
     split at h
     ·rename_i hk; cases h; exact O_ hg hx (hT.foF hk) rfl
     ·cases h
    ·cases h
   ·split at h
    ·rename_i hx
     split at h
     ·rename_i hy
      split at h
      ·cases h; exact bU hg hx hy gQ
      ·cases h; exact bU hg hx hy RW
      ·cases h; exact bU hg hx hy RT
      ·cases h; exact bU hg hx hy Fs
      ·cases h; exact bU hg hx hy lx
      ·cases h; exact bU hg hx hy mA
      ·cases h; exact bU hg hx hy (ic ⟨hS.1,hS.2.1⟩)
      ·cases h; exact bU hg hx hy (rI ⟨hS.1,hS.2.1⟩)
      ·cases h
     ·cases h
    ·cases h
   ·split at h
    ·rename_i hx
     split at h
     ·rename_i b' cs hm
      have A:=aR hm
      split at h
      ·rename_i hk
       split at h
       ·rename_i hv
        cases h
        obtain rfl:=hS.1
        exact uu hg hx (hT.Ly hk) (hM _ A _ _ (vv hv))
       ·cases h
      ·rename_i n hk
       split at h
       ·rename_i ho
        split at h
        ·rename_i hn
         cases h
         obtain rfl:=hS.1
         have H:=Nat.eq_of_beq_eq_true ho
         subst H
         exact xN hg hx (hT.Ly hk) (hM _ A 0 cs sm) (Nat.eq_of_beq_eq_true hn)
        ·cases h
       ·cases h
      ·cases h
     ·cases h
    ·cases h
   ·split at h
    ·rename_i xs ts
     split at h
     ·rename_i x G
      split at h
      ·rename_i t F
       split at h
       ·rename_i hx
        split at h
        ·rename_i B
         cases h
         obtain ⟨e,he⟩:=hT.sl t (BT B)
         have AA:xs= #[x]:=by apply Array.ext'; simpa using G
         have J:ts= #[t]:=by apply Array.ext'; simpa using F
         subst AA J
         exact Mk hg hx he
        ·cases h
       ·cases h
      ·cases h
     ·cases h
    ·cases h
   ·cases h
def pr (T:Dw) (n:Nat) (ops:Array Oper) (M:List (Nat×List Value)):Nat→List Nat→List (Nat×Value)→List Oper→Option (List (Nat×Value)×List Oper×List Prop)
 |0,_,L,rest=>some (L,rest,[])
 |k+1,hs,L,[]=>none
 |k+1,hs,L,o::rest=>match o.dst with
  |none=>none
  |some d=>match Nat.blt d n with
   |false=>none
   |true=>match pv T ops M L hs o.guard o.op with
    |none=>none
    |some (v,S,hs')=>match pr T n ops M k hs' ((d,v)::L) rest with
     |none=>none
     |some (L',rest',S')=>some (L',rest',S++S')
theorem x9: ∀ {S S':List Prop},pK (S++S')→pK S∧pK S'
 |[],S',h=>⟨trivial,h⟩
 |p::S,S',h=>⟨⟨h.1,(x9 h.2).1⟩,(x9 h.2).2⟩
/-- whatever is closed under single steps -/
theorem Iz {J:List Oper→List (Nat×Value)→Prop} (hT:kZ E.P T) (hM:MM C M) (hJ: ∀ o rest L d v,SD E ops o D L C v→o.dst=some d→Nat.blt d E.n=true→J rest ((d,v)::L)→J (o::rest) L):
 ∀ (k:Nat) (hs:List Nat) (L:List (Nat×Value)) (rest:List Oper) {L':List (Nat×Value)} {rest':List Oper} {S:List Prop},pr T E.n ops M k hs L rest=some (L',rest',S)→pK S→J rest' L'→J rest L
 |0,hs,L,rest,L',rest',S,h,hS,hj=>by
  unfold pr at h
  cases h
  exact hj
 |k+1,hs,L,[],L',rest',S,h,hS,hj=>by unfold pr at h; cases h
 |k+1,hs,L,o::rest,L',rest',S,h,hS,hj=>by
  unfold pr at h
  split at h
  ·cases h
  ·rename_i d hd
   split at h
   ·cases h
   ·rename_i hn
    split at h
    ·cases h
    ·rename_i v S1 A hv
     split at h
     ·cases h
     ·rename_i L1 G S2 hr
      cases h
      obtain ⟨B,F⟩:=x9 hS
      exact hJ o rest L d v (SU hT hM hv B) hd hn (Iz hT hM hJ k A _ rest hr F hj)
variable {Q:cU} {rest rest':List Oper} {L0 L':List (Nat×Value)} {S:List Prop} {F:List (Nat×Value)→Prop}
/-- a run of operations, one after the other -/
theorem rP (k:Nat) (hs:List Nat) (hM:MM C M) (j:RJ E ops Q rest' D L' C) (hT:kZ E.P T:=by exact pZ) (h:pr T E.n ops M k hs L rest=some (L0,rest',S):=by rfl) (hL:L0=L':=by (try dsimp only)<;>rfl) (hS:pK S:=by repeat' first|exact True.intro |refine j3 ?_ ?_ |exact rfl|omega|(dsimp only; omega)):RJ E ops Q rest D L C:=by
 subst hL
 exact Iz (J:=fun r L=>RJ E ops Q r D L C) hT hM (fun o rest L d v A B F G=>To A B F G) k hs L rest h hS j
theorem dP (k:Nat) (hs:List Nat) (hM:MM C M) (j:DJ E ops D C F rest' L') (hT:kZ E.P T:=by exact pZ) (h:pr T E.n ops M k hs L rest=some (L0,rest',S):=by rfl) (hL:L0=L':=by (try dsimp only)<;>rfl) (hS:pK S:=by repeat' first|exact True.intro |refine j3 ?_ ?_ |exact rfl|omega):DJ E ops D C F rest L:=by
 subst hL
 exact Iz (J:=fun r L=>DJ E ops D C F r L) hT hM (fun o rest L d v A B G H=>RO A B G H) k hs L rest h hS j
end
section
variable {P:Program} {r:Option Nat} {n:Nat} {B:BS} {w0:World} {ops:Array Oper} {M:List (Nat×List Value)} {D:List Deferred} {L L':List (Nat×Value)} {C:List aq} {Q:cU} {rest rest':List Oper} {S:List Prop} {F:List (Nat×Value)→Prop}
theorem fw (k:Nat) (hs:List Nat) (hM:MM C M) (h:pr TT n ops M k hs L rest=some (L',rest',S)) (j:RJ ⟨P,r,n,B,w0⟩ ops Q rest' D L' C) (hS:pK S:=by repeat' first|exact True.intro |refine j3 ?_ ?_ |exact rfl|omega|(dsimp only; omega)) (hT:kZ P TT:=by exact pZ):RJ ⟨P,r,n,B,w0⟩ ops Q rest D L C:=rP k hs hM j hT h rfl hS
theorem mP (k:Nat) (hs:List Nat) (hM:MM C M) (h:pr TT n ops M k hs L rest=some (L',rest',S)) (j:DJ ⟨P,r,n,B,w0⟩ ops D C F rest' L') (hS:pK S:=by repeat' first|exact True.intro |refine j3 ?_ ?_ |exact rfl|omega|(dsimp only; omega)) (hT:kZ P TT:=by exact pZ):DJ ⟨P,r,n,B,w0⟩ ops D C F rest L:=dP k hs hM j hT h rfl hS
theorem bf (k:Nat) (h:pr TT n ops [] k [] L rest=some (L',rest',S)) (j:RJ ⟨P,r,n,B,w0⟩ ops Q rest' D L' C) (hS:pK S:=by repeat' first|exact True.intro |refine j3 ?_ ?_ |exact rfl|omega|(dsimp only; omega)) (hT:kZ P TT:=by exact pZ):RJ ⟨P,r,n,B,w0⟩ ops Q rest D L C:=rP k [] mn j hT h rfl hS
theorem lH (k:Nat) (h:pr TT n ops [] k [] L rest=some (L',rest',S)) (j:DJ ⟨P,r,n,B,w0⟩ ops D C F rest' L') (hS:pK S:=by repeat' first|exact True.intro |refine j3 ?_ ?_ |exact rfl|omega|(dsimp only; omega)) (hT:kZ P TT:=by exact pZ):DJ ⟨P,r,n,B,w0⟩ ops D C F rest L:=dP k [] mn j hT h rfl hS
end
end
section
open Go.RowKit
/-- parts of a context, reckoned to the end -/
def lV (C:List aq):List Nat→Option (List aq)
 |[]=>some []
 |i::is=>match C[i]? with
  |some A=>match lV C is with
   |some l=>some (A::l)
   |none=>none
  |none=>none
theorem jB {C:List aq}: ∀ {is:List Nat} {C':List aq},lV C is=some C'→kj C is=C'
 |[],C',h=>by cases h; rfl
 |i::is,C',h=>by
  unfold lV at h
  split at h
  ·rename_i A hA
   split at h
   ·rename_i l hl
    cases h
    show List.filterMap (C[·]?) (i::is)=A::l
    rw [List.filterMap_cons_some hA]
    exact congrArg _ (jB hl)
   ·cases h
  ·cases h
/-- a part of a context in place of the whole -/
theorem aH {S:BS} {w0:World} {C C':List aq} (is:List Nat) (hn:decide is.Nodup=true:=by rfl) (hC:kj C is=C':=by rfl): ∀ w,St S w0 C w→St S w0 C' w:=fun w h=>St.kj is hn hC h
theorem MZ {S:BS} {w0:World} {C C':List aq} (is:List Nat) (hC:lV C is=some C') (hn:decide is.Nodup=true:=by rfl): ∀ w,St S w0 C w→St S w0 C' w:=fun w h=>St.kj is hn (jB hC) h
def ON (C:List aq) (i:Nat) (B:aq):Option (List aq):=match i,C with
 |0,_::C=>some (B::C)
 |i+1,A::C=>match ON C i B with
  |some l=>some (A::l)
  |none=>none
 |_,[]=>none
theorem FH: ∀ {C:List aq} {i:Nat} {B:aq} {C':List aq},ON C i B=some C'→C.set i B=C'
 |[],0,B,C',h=>by cases h
 |[],i+1,B,C',h=>by cases h
 |A::C,0,B,C',h=>by cases h; rfl
 |A::C,i+1,B,C',h=>by
  unfold ON at h
  split at h
  ·rename_i l hl
   cases h
   exact congrArg _ (FH hl)
  ·cases h
theorem gS {E:eY} {K:Act→World→Prop} {D:List Deferred} {L:List (Nat×Value)} {C C':List aq} {A B:aq} (i:Nat) (hC:C[i]? =some A) (hh:(∀ w,A.holds w→B.holds w)∧(∀ b,B.e_ b→A.e_ b)∧ ∀ b,B.wf b→A.wf b) (hC':ON C i B=some C') (h:KJ E K D L C'):KJ E K D L C:=Kh i hC hh (FH hC') h
/-- the operations of a region but these; marks of some places -/
def S5 (n:Nat) (T:List Nat):List Nat:=(List.range n).filter fun i=> !T.contains i
def Uo (k:Nat) (t:List Nat):List Bool:=(List.range k).map fun i=>t.contains i
theorem dG {E:eY} {id:Nat} {ops:Array Oper} {Q:cU} {D:List Deferred} {L:List (Nat×Value)} {C:List aq} (hm:E.P.follows .mixedOrders=true) (T fe tb i1 i2:List Nat) {C' C1:List aq} {free:List Nat} {Ik tbb:List Bool}
 (h1:lV C i1=some C') (h2:lV C i2=some C1) (hf:free=S5 ops.size T) (hfe:Ik=Uo free.length fe) (htb:tbb=Uo T.length tb)
 (h:p7 E ops D C' C1 (fun L'=>TJ E ops D C' C1 (fun L C=>KJ E (Q .normal) D L C) tbb (eH ops T) L' C) Ik (eH ops free) L)
 (hc:NP ops free T Ik tbb=true:=by kernel_rfl) (n1:decide i1.Nodup=true:=by rfl) (n2:decide i2.Nodup=true:=by rfl):WJ E (.region id ops true) Q D L C:=
 Ou hm free T Ik tbb C' C1 hc (MZ i1 h1 n1) (MZ i2 h2 n2) h
end
section
open Go.RowKit
def vQ (T:Dw) (M:List (Nat×List Value)) (L:List (Nat×Value)):List ResultVar→List Nat→Option (List Value×List Prop)
 |[],_=>some ([],[])
 | .tmp t::rs,hs=>match L.lookup t with
  |some v=>match vQ T M L rs hs with
   |some (vs,S)=>some (v::vs,S)
   |none=>none
  |none=>none
 | .cell a t::rs,hs=>match L.lookup a with
  |some (.pointer (some ⟨b,o,none⟩))=>match M[hs.headD 0]? with
   |some (b',cs)=>match T.Ly t with
    |some (false,_)=>match cs[o]? with
     |some v=>match vQ T M L rs hs.tail with
      |some (vs,S)=>some (v::vs,(b'=b)::S)
      |none=>none
     |none=>none
    |some (true,n)=>match Nat.beq o 0 with
     |true=>match Nat.beq cs.length n with
      |true=>match vQ T M L rs hs.tail with
       |some (vs,S)=>some (.agg cs.toArray::vs,(b'=b)::S)
       |none=>none
      |false=>none
     |false=>match vQ T M L rs hs.tail with
      |some (vs,S)=>some (.agg ((cs.drop o).take n).toArray::vs,(b'=b)::(((cs.drop o).take n).length=n)::S)
      |none=>none
    |none=>none
   |none=>none
  |_=>none
theorem nY {P:Program} {T:Dw} {M:List (Nat×List Value)} {L:List (Nat×Value)} {C:List aq} (hT:kZ P T) (hM:MM C M): ∀ (rs:List ResultVar) (hs:List Nat) {vs:List Value} {S:List Prop},vQ T M L rs hs=some (vs,S)→pK S→HC P L C rs vs
 |[],_,vs,S,h,hS=>by unfold vQ at h; cases h; exact trivial
 | .tmp t::rs,hs,vs,S,h,hS=>by
  unfold vQ at h
  split at h
  ·rename_i v hv
   split at h
   ·rename_i vs' S' hr
    cases h
    exact ⟨hv,nY hT hM rs hs hr hS⟩
   ·cases h
  ·cases h
 | .cell a t::rs,hs,vs,S,h,hS=>by
  unfold vQ at h
  split at h
  ·rename_i b o hl
   split at h
   ·rename_i b' cs hm
    have A:=aR hm
    split at h
    ·rename_i hk
     split at h
     ·rename_i v hv
      split at h
      ·rename_i vs' S' hr
       cases h
       obtain ⟨rfl,hS⟩:=hS
       exact ⟨⟨_,hl,.inr ⟨_,hT.Ly hk,hM _ A _ _ (vv hv)⟩⟩,nY hT hM rs _ hr hS⟩
      ·cases h
     ·cases h
    ·rename_i n hk
     split at h
     ·rename_i ho
      split at h
      ·rename_i hn
       split at h
       ·rename_i vs' S' hr
        cases h
        obtain ⟨rfl,hS⟩:=hS
        have D:=Nat.eq_of_beq_eq_true ho
        subst D
        exact ⟨⟨_,hl,.inl ⟨_,cs,hT.Ly hk,hM _ A 0 cs sm,Nat.eq_of_beq_eq_true hn,U⟩⟩,nY hT hM rs _ hr hS⟩
       ·cases h
      ·cases h
     ·split at h
      ·rename_i vs' S' hr
       cases h
       obtain ⟨rfl,B,hS⟩:=hS
       exact ⟨⟨_,hl,.inl ⟨_,_,hT.Ly hk,hM _ A o _ (by rw [B]),B,U⟩⟩,nY hT hM rs _ hr hS⟩
      ·cases h
    ·cases h
   ·cases h
  ·cases h
section
variable {P:Program} {n:Nat} {fn:Func} {w0:World} {K:Act→World→Prop} {L:List (Nat×Value)} {C:List aq} {M:List (Nat×List Value)} {vs:List Value} {S:List Prop} {u x v:Value}
theorem Ij (hQ: ∀ D L C,LJ ⟨P,none,n,te,w0⟩ fn (Cb w0 v) D L C→KJ ⟨P,none,n,te,w0⟩ K D L C) (hs:List Nat) (hM:MM C M) (h:vQ TT M L fn.results.toList hs=some ([u],S)) (e:u=v) (hS:pK S:=by repeat' first|exact True.intro |refine j3 rfl ?_) (hT:kZ P TT:=by exact pZ):KJ ⟨P,none,n,te,w0⟩ K [] L C:=
 hQ _ _ _ (gX (nY hT hM _ _ h hS) fun w hs=>D7 e hs)
theorem lp (hQ: ∀ D L C,LJ ⟨P,none,n,te,w0⟩ fn (Cb w0 v) D L C→KJ ⟨P,none,n,te,w0⟩ K D L C) (hs:List Nat) (hM:MM C M) (h:vQ TT M L fn.results.toList hs=some (u::x::vs,S)) (e:Value.tuple (u::x::vs).toArray=v) (hS:pK S:=by repeat' first|exact True.intro |refine j3 rfl ?_) (hT:kZ P TT:=by exact pZ):KJ ⟨P,none,n,te,w0⟩ K [] L C:=
 hQ _ _ _ (gX (nY hT hM _ _ h hS) fun w hs=>D7 e hs)
theorem LX {α:Type} {V:α→Value} {p:α→Prop} {N:α→List aq} (hQ: ∀ D L C,LJ ⟨P,none,n,te,w0⟩ fn (IS w0 V p N) D L C→KJ ⟨P,none,n,te,w0⟩ K D L C) (x:α) (is hs:List Nat) (hM:MM C M) (h:vQ TT M L fn.results.toList hs=some (vs,S)) (hw:(N x).all (·.wr)=true) (hN:kj C is=N x) (hV:Q7 vs=V x) (hp:p x) (hn:decide is.Nodup=true:=by rfl) (hS:pK S:=by repeat' first|exact True.intro |refine j3 rfl ?_) (hT:kZ P TT:=by exact pZ):KJ ⟨P,none,n,te,w0⟩ K [] L C:=
 hQ _ _ _ (gX (nY hT hM _ _ h hS) fun w hs=>It x is hV hp hn hN hw hs)
theorem LM {A:aq} {α:Type} {V:α→Value} {p:α→Prop} {A':α→aq} (hQ: ∀ D L C,LJ ⟨P,none,n,⟨A.wf,fun _=>True⟩,w0⟩ fn (Ol w0 A V p A') D L C→KJ ⟨P,none,n,⟨A.wf,fun _=>True⟩,w0⟩ K D L C) (x:α) (i:Nat) (hs:List Nat) (hM:MM C M) (h:vQ TT M L fn.results.toList hs=some (vs,S)) (hw:(A' x).wr=true) (hC:C[i]? =some (A' x)) (hV:Q7 vs=V x) (hp:p x) (hS:pK S:=by repeat' exact True.intro) (hT:kZ P TT:=by exact pZ):KJ ⟨P,none,n,⟨A.wf,fun _=>True⟩,w0⟩ K [] L C:=
 hQ _ _ _ (gX (nY hT hM _ _ h hS) fun w hs=>Rm x i hV hp hC hw hs)
end
end
section
open Go.RowKit
def Fa {α:Type _}:List α→List α→Option (List α)
 |[],m=>some m
 |a::l,m=>match Fa l m with
  |some r=>some (a::r)
  |none=>none
theorem FZ {α:Type _}: ∀ {l m r:List α},Fa l m=some r→l++m=r
 |[],m,r,h=>by cases h; rfl
 |a::l,m,r,h=>by
  unfold Fa at h
  split at h
  ·rename_i r' hr
   cases h
   exact congrArg (a:: ·) (FZ hr)
  ·cases h
def TK (L:List (Nat×Value)):List Nat→Option (List (Nat×Value))
 |[]=>some []
 |t::ts=>match L.lookup t with
  |some v=>match TK L ts with
   |some r=>some ((t,v)::r)
   |none=>none
  |none=>none
theorem Fk {L M:List (Nat×Value)} (k:dh L M): ∀ {ts:List Nat} {r:List (Nat×Value)},TK L ts=some r→dh L (r++M)
 |[],r,h=>by cases h; exact k
 |t::ts,r,h=>by
  unfold TK at h
  split at h
  ·rename_i v hv
   split at h
   ·rename_i r' hr
    cases h
    exact dh.cons hv (Fk k hr)
   ·cases h
  ·cases h
section
variable {E:eY} {Q:cU} {D:List Deferred} {L L0:List (Nat×Value)} {C C0:List aq} {ι:Type} {Li:ι→List (Nat×Value)} {Ci:ι→List aq}
theorem bH {c:Code} (kL kC:List Nat) (hL:TK L kL=some L0) (hC0:lV C kC=some C0) (S:ι→List (Nat×Value)) (G:ι→List aq) (hLi: ∀ x,Fa L0 (S x)=some (Li x)) (hCi: ∀ x,Fa C0 (G x)=some (Ci x)) (μ:ι→Nat) (x0:ι)
 (h0:dh L (S x0)) (hC: ∀ w,St E.S E.w0 C w→St E.S E.w0 (Ci x0) w)
 (round: ∀ x (J:Act→World→Prop),(∀ y D' L' C',D'=D→μ y<μ x→dh L' (Li y)→(∀ w,St E.S E.w0 C' w→St E.S E.w0 (Ci y) w)→KJ E J D' L' C')→WJ E c (Exit.then J Q) D (Li x) (Ci x)):WJ E (.loop c) Q D L C:=
 QH Li Ci μ x0 (FZ (hLi x0)▸Fk h0 hL) hC round
theorem ob {x y:Code} (kL kC:List Nat) (hL:TK L kL=some L0) (hC0:lV C kC=some C0) (S:ι→List (Nat×Value)) (G:ι→List aq) (hLi: ∀ x,Fa L0 (S x)=some (Li x)) (hCi: ∀ x,Fa C0 (G x)=some (Ci x))
 (hy: ∀ z,WJ E y Q D (Li z) (Ci z)) (h: ∀ K:Act→World→Prop,(∀ z,KJ E K D (Li z) (Ci z))→WJ E x (Exit.then K Q) D L C):WJ E (.seq x y) Q D L C:=Qq Li Ci hy h
end
end
section
open Go.RowKit
set_option linter.unusedSectionVars false
/-- what is asked of keys -/
structure uD (P:Program) (kt:Nat) {K:Type} (kV:K→Value):Prop where
 check: ∀ (e:Bool) (x:K) (w:World),(Instr.checkKey e 10000 kt (kV x)).run P w= .ok () w
 find: ∀ (x:K) (w:World) (es:List MapEntry),(∀ e∈es,∃ k,e.key=kV k)→
  ((Instr.findKey kt (kV x) es).run P w= .ok none w∧ ∀ e∈es,e.key≠kV x)∨ ∃ j e,(Instr.findKey kt (kV x) es).run P w= .ok (some (j,e.val)) w∧es[j]? =some e∧e.key=kV x
 bits: ∀ x,Instr.sameBits 10000 (kV x) (kV x)=true
 inj: ∀ x y,kV x=kV y→x=y
section
variable {K:Type} [DecidableEq K] {kV:K→Value}
def dL {β:Type} (l:List (K×β)) (x:K) (y:β):List (K×β):=if (l.lookup x).isSome then l.map (fun p=>if p.1=x then (x,y) else p) else l++[(x,y)]
def cq {β:Type} (l:List (K×β)) (x:K):List (K×β):=l.filter fun p=> !decide (p.1=x)
def bL {β γ:Type} (f:β→γ) (l:List (K×β)):List (K×γ):=l.map fun p=>(p.1,f p.2)
theorem GM {β γ:Type} (f:β→γ) (l:List (K×β)):(bL f l).length=l.length:=by simp [bL]
theorem mU {β γ:Type} (f:β→γ) (x:K): ∀ l:List (K×β),(bL f l).lookup x=(l.lookup x).map f
 |[]=>rfl
 |p::l=>by
  obtain ⟨k,v⟩:=p
  have ih:=mU f x l
  by_cases h:x=k
  ·subst h; simp [bL,List.lookup]
  ·have:(x==k)=false:=by simpa using h
   simp only [bL,List.map_cons,List.lookup,this] at ih ⊢
   exact ih
theorem fK {β γ:Type} (f:β→γ) (l:List (K×β)) (x:K) (y:β):bL f (dL l x y)=dL (bL f l) x (f y):=by
 unfold dL
 rw [mU,Option.isSome_map]
 split
 ·simp only [bL,List.map_map]
  refine List.map_congr_left fun p _=>?_
  simp only [Function.comp]
  split<;>rfl
 ·simp [bL]
theorem lK {β γ:Type} (f:β→γ) (l:List (K×β)) (x:K):bL f (cq l x)=cq (bL f l) x:=by
 unfold cq bL
 rw [List.filter_map]
 rfl
theorem g4 {β:Type} {x:K}: ∀ {l:List (K×β)},l.lookup x=none↔ ∀ p∈l,p.1≠x
 |[]=>by simp
 |p::l=>by
  obtain ⟨k,v⟩:=p
  by_cases h:x=k
  ·subst h; simp [List.lookup]
  ·have hb:(x==k)=false:=by simpa using h
   simp only [List.lookup,hb,d_,forall_eq_or_imp]
   rw [g4 (l:=l)]
   exact ⟨fun q=>⟨fun e=>h e.symm,q⟩,fun q=>q.2⟩
theorem jX {β:Type} {x:K} {y:β}: ∀ {l:List (K×β)},(l.map (·.1)).Nodup→((x,y)∈l↔l.lookup x=some y)
 |[],_=>by simp
 |p::l,hn=>by
  obtain ⟨k,v⟩:=p
  simp only [List.map_cons,List.nodup_cons] at hn
  by_cases h:x=k
  ·subst h
   simp only [List.lookup,beq_self_eq_true,d_,Prod.mk.injEq,true_and,Option.some.injEq]
   constructor
   ·rintro (e|e)
    ·exact e.symm
    ·exact absurd (List.mem_map.2 ⟨_,e,U⟩) hn.1
   ·intro e; exact .inl e.symm
  ·have hb:(x==k)=false:=by simpa using h
   simp only [List.lookup,hb,d_,Prod.mk.injEq,h,false_and,false_or]
   exact jX hn.2
structure iZ (kV:K→Value) (es:Array MapEntry) (c:Nat) (m:List (K×Value)):Prop where
 list:es.toList.map (fun (e:MapEntry)=>(e.key,e.val))=m.map (fun p=>(kV p.1,p.2))
 keys:(m.map (·.1)).Nodup
 Jg: ∀ e∈es.toList,e.born<c
 born:(es.toList.map (·.born)).Nodup
def gZ (kV:K→Value) (b:Nat) (m:List (K×Value)):aq where
 e_ k:=k=b
 wf k:=k=b
 holds w:= ∃ es c,w.heap[b]? =some (.map es c)∧iZ kV es c m
 wr:=true
 km _ h:=h
 whole _ _ h:=h
 lt w h k hk:=by obtain ⟨es,c,he,_⟩:=h; exact hk▸dY he
 oG w w' hk h:=by obtain ⟨es,c,he,hm⟩:=h; exact ⟨es,c,(hk b rfl).trans he,hm⟩
theorem iZ.nil:iZ kV #[] 0 []:=⟨rfl,List.nodup_nil,sm,List.nodup_nil⟩
theorem iZ.size {es:Array MapEntry} {c:Nat} {m:List (K×Value)} (h:iZ kV es c m):es.size=m.length:=by
 have:=congrArg List.length h.list
 simpa using this
theorem EP {P:Program} {kt:Nat} (hk:uD P kt kV) (x:K): ∀ (es:List MapEntry) (m:List (K×Value)),es.map (fun (e:MapEntry)=>(e.key,e.val))=m.map (fun p=>(kV p.1,p.2))→
 ((∀ e∈es,e.key≠kV x)→m.lookup x=none)∧ ∀ (j:Nat) (e:MapEntry),es[j]? =some e→e.key=kV x→m[j]? =some (x,e.val):=by
 intro es m h
 refine ⟨fun hn=>g4.2 fun p hp e=>?_,fun j e he hx=>?_⟩
 ·have:(kV p.1,p.2)∈es.map (fun (e:MapEntry)=>(e.key,e.val)):=by rw [h]; exact List.mem_map.2 ⟨p,hp,rfl⟩
  obtain ⟨z,hz,B⟩:=List.mem_map.1 this
  simp only [Prod.mk.injEq] at B
  exact hn z hz (by rw [B.1,e])
 ·have A:(es.map (fun (e:MapEntry)=>(e.key,e.val)))[j]? =some (e.key,e.val):=by rw [fq,he]; rfl
  rw [h,fq] at A
  cases hm:m[j]? with
  |none=>simp [hm] at A
  |some p=>
   simp only [hm,Option.map_some,Option.some.injEq,Prod.mk.injEq] at A
   have:=hk.inj _ _ (A.1.trans hx)
   obtain ⟨k,v⟩:=p
   simp only at this A
   rw [this,A.2]
theorem oV {P:Program} {w:World} {kt:Nat} {x:K} {es:Array MapEntry} {c:Nat} {m:List (K×Value)} (hk:uD P kt kV) (h:iZ kV es c m):
 ((Instr.findKey kt (kV x) es.toList).run P w= .ok none w∧m.lookup x=none)∨
 ∃ j v,(Instr.findKey kt (kV x) es.toList).run P w= .ok (some (j,v)) w∧m[j]? =some (x,v)∧m.lookup x=some v:=by
 obtain ⟨D,E⟩:=EP hk x es.toList m h.list
 rcases hk.find x w es.toList (fun e he=>by
  have:(e.key,e.val)∈m.map (fun p=>(kV p.1,p.2)):=by rw [← h.list]; exact List.mem_map.2 ⟨e,he,rfl⟩
  obtain ⟨p,_,hp⟩:=List.mem_map.1 this
  simp only [Prod.mk.injEq] at hp
  exact ⟨p.1,hp.1.symm⟩) with ⟨A,B⟩|⟨j,e,A,B,C⟩
 ·exact .inl ⟨A,D B⟩
 ·have:=E j e B C
  exact .inr ⟨j,e.val,A,this,(jX h.keys).1 (aR this)⟩
theorem iH {P:Program} {w:World} {kt:Nat} {x:K} (hk:uD P kt kV) (e:Bool):(Instr.checkKey e 10000 kt (kV x)).run P w= .ok () w:=hk.check e x w
section
variable {E:eY} {ops:Array Oper} {Q:cU} {rest:List Oper} {D:List Deferred} {L:List (Nat×Value)} {C:List aq}
variable {dst:Option Tmp} {d:Nat} {ty:TypeId} {ps:String} {af:Array Edge} {g:Option (Nat×Bool)}
theorem mB {t:TypeId} (hg:ju ops L g=true) (hd:Nat.blt d E.n=true) (k: ∀ b,RJ E ops Q rest D ((d,.map (some b))::L) (gZ kV b []::C)):RJ E ops Q (⟨some d,.makeMap t none,ty,ps,af,g⟩::rest) D L C:=by
 intro a w B hs
 have hd':d<E.n:=by rw [← Nat.blt_eq]; exact hd
 unfold rD
 rw [if_pos (dK B hg)]
 refine gJ (v:= .map (some w.heap.size)) (w':=w.alloc (.map #[] 0)) sm ?_ ?_
 ·simp [execOp,Instr.makeMap,newObj,Sem.run]
 ·refine k _ _ _ (B.put hd' _) (hs.grow (dJ.alloc no w _) (N:=[gZ kV w.heap.size []]) ⟨fun A hA=>?_,fun A hA b hb=>?_,List.pairwise_singleton _ _⟩)
  ·simp at hA; subst hA; exact ⟨#[],0,heap_alloc_new w _,iZ.nil⟩
  ·simp at hA; subst hA; exact Nat.le_of_eq (Eq.symm hb)
theorem iZ.push {es:Array MapEntry} {c:Nat} {m:List (K×Value)} (h:iZ kV es c m) {x:K} (hx:m.lookup x=none) (v:Value):iZ kV (es.push {key:=kV x,val:=v,born:=c}) (c+1) (m++[(x,v)]):=by
 refine ⟨by simp [h.list],?_,?_,?_⟩
 ·rw [List.map_append,List.nodup_append]
  refine ⟨h.keys,sm,fun a ha b hb=>?_⟩
  simp at hb; subst hb
  obtain ⟨p,hp,rfl⟩:=List.mem_map.1 ha
  exact g4.1 hx p hp
 ·intro e he
  simp only [Array.toList_push,kF,bS] at he
  rcases he with he|rfl
  ·exact Nat.lt_succ_of_lt (h.Jg e he)
  ·exact Nat.lt_succ_self _
 ·simp only [Array.toList_push,List.map_append,List.map_cons,List.map_nil]
  rw [List.nodup_append]
  refine ⟨h.born,sm,fun a ha b hb=>?_⟩
  simp at hb; subst hb
  obtain ⟨p,hp,rfl⟩:=List.mem_map.1 ha
  exact Nat.ne_of_lt (h.Jg p hp)
theorem MY {m:List (K×Value)} {j:Nat} {x:K} {v0 v:Value} (hn:(m.map (·.1)).Nodup) (hj:m[j]? =some (x,v0)):m.map (fun p=>if p.1=x then (x,v) else p)=m.set j (x,v):=by
 refine List.ext_getElem? fun i=>?_
 rw [fq,List.getElem?_set]
 by_cases e:j=i
 ·subst e
  have hl:=(List.getElem?_eq_some_iff.1 hj).1
  rw [hj]; simp [hl]
 ·rw [if_neg e]
  cases hi:m[i]? with
  |none=>rfl
  |some p=>
   simp only [Option.map_some]
   rw [if_neg]
   intro hp
   have B:(m.map (·.1))[i]? =some x:=by rw [fq,hi]; simp [hp]
   have C:(m.map (·.1))[j]? =some x:=by rw [fq,hj]; rfl
   have A:=(List.getElem?_eq_some_iff.1 B).1
   exact e (((List.getElem?_inj A hn).1 (B.trans C.symm)).symm)
theorem iZ.set {es:Array MapEntry} {c:Nat} {m:List (K×Value)} (h:iZ kV es c m) {x:K} {j:Nat} {v0:Value} (hj:m[j]? =some (x,v0)) (hx:m.lookup x=some v0) (v:Value):
 iZ kV (es.modify j fun e=>{e with key:=kV x,val:=v}) c (dL m x v):=by
 have C:dL m x v=m.set j (x,v):=by unfold dL; rw [hx]; simpa using MY h.keys hj
 have hl:=(List.getElem?_eq_some_iff.1 hj).1
 have E:=h.size
 have A:j<es.size:=by omega
 have B:(es.modify j fun e=>{e with key:=kV x,val:=v}).toList=es.toList.set j {(es[j]) with key:=kV x,val:=v}:=by
  refine List.ext_getElem? fun i=>?_
  rw [Array.getElem?_toList,Array.getElem?_modify,List.getElem?_set]
  by_cases e:j=i
  ·subst e; simp [A]
  ·simp [e]
 have D:(es.toList.set j {(es[j]) with key:=kV x,val:=v}).map (·.born)=es.toList.map (·.born):=by
  rw [List.map_set]
  refine List.ext_getElem? fun i=>?_
  rw [List.getElem?_set]
  by_cases e:j=i
  ·subst e; simp [A]
  ·rw [if_neg e]
 refine ⟨?_,?_,?_,?_⟩
 ·rw [B,C,List.map_set,List.map_set,h.list]
 ·rw [C,List.map_set]
  have:(m.map (·.1)).set j x=m.map (·.1):=by
   refine List.ext_getElem? fun i=>?_
   rw [List.getElem?_set]
   by_cases e:j=i
   ·subst e; simp [hl]; simpa using (congrArg Prod.fst ((List.getElem?_eq_some_iff.1 hj).2)).symm
   ·rw [if_neg e]
  simp only [this]
  exact h.keys
 ·intro e he
  rw [B] at he
  have hb:e.born∈(es.toList.set j {(es[j]) with key:=kV x,val:=v}).map (·.born):=List.mem_map.2 ⟨e,he,rfl⟩
  rw [D] at hb
  obtain ⟨e',he',hq⟩:=List.mem_map.1 hb
  rw [← hq]; exact h.Jg e' he'
 ·rw [B,D]; exact h.born
/-- m[x] = y -/
theorem hP {t kt et:TypeId} {xm xk xv:Operand} {b:Nat} {x:K} {v:Value} {m m':List (K×Value)} {C':List aq} (i:Nat) (hg:ju ops L g=true) (hm:ev L xm=some (.map (some b))) (hk:ev L xk=some (kV x)) (hv:ev L xv=some v)
 (ht:E.P.underlying t=some (.map kt et)) (hkt:uD E.P kt kV) (hC:C[i]? =some (gZ kV b m)) (hm':dL m x v=m') (hC':C.set i (gZ kV b m')=C') (k:RJ E ops Q rest D L C'):
 RJ E ops Q (⟨none,.mapUpdate t xm xk xv,ty,ps,af,g⟩::rest) D L C:=by
 subst hm' hC'
 intro a w A hs
 unfold rD
 rw [if_pos (dK A hg)]
 obtain ⟨es,c,he,hi⟩:=hs.holds _ (aR hC)
 have B:(getObj b).run E.P w= .ok (.map es c) w:=MapKept.run_getObj_map he
 rcases oV (P:=E.P) (w:=w) (x:=x) hkt hi with ⟨AA,F⟩|⟨j,N,AA,F,J⟩
 ·refine rr (w':={w with heap:=w.heap.setIfInBounds b (.map (es.push {key:=kV x,val:=v,born:=c}) (c+1))}) sm ?_ ?_
  ·simp [execOp,A.ev hm,A.ev hk,A.ev hv,Instr.mapUpdate,run_underlying ht,B,iH hkt,AA,MapKept.run_setObj_map _ he]
  ·refine k _ _ ⟨A.defers,A.size,A.at_⟩ (hs.Dt (b:=b) i hC U U (nc _) (fun _ h=>h) ⟨_,_,o_ he,?_⟩)
   have:dL m x v=m++[(x,v)]:=by unfold dL; rw [F]; rfl
   rw [this]; exact hi.push F v
 ·have M:=hi.size
  have G:j<es.size:=by have:=(List.getElem?_eq_some_iff.1 F).1; omega
  have H:(es[j]).key=kV x:=by
   have:=congrArg (fun l=>l[j]?) hi.list
   simp [G,F] at this
   exact this.1
  refine rr (w':={w with heap:=w.heap.setIfInBounds b (.map (es.modify j fun e=>{e with key:=kV x,val:=v}) c)}) sm ?_ ?_
  ·simp [execOp,A.ev hm,A.ev hk,A.ev hv,Instr.mapUpdate,run_underlying ht,B,iH hkt,AA,MapKept.run_setObj_map _ he,Instr.keyThatStays,G,H,hkt.bits x]
  ·exact k _ _ ⟨A.defers,A.size,A.at_⟩ (hs.Dt (b:=b) i hC U U (nc _) (fun _ h=>h) ⟨_,_,o_ he,hi.set F J v⟩)
theorem iZ.del {es:Array MapEntry} {c:Nat} {m:List (K×Value)} (h:iZ kV es c m) {x:K} {j:Nat} {v0:Value} (hj:m[j]? =some (x,v0)):iZ kV (es.eraseIdxIfInBounds j) c (cq m x):=by
 have hl:=(List.getElem?_eq_some_iff.1 hj).1
 have D:=h.size
 have A:j<es.size:=by omega
 have B:(es.eraseIdxIfInBounds j).toList=es.toList.eraseIdx j:=by simp [Array.eraseIdxIfInBounds,A]
 have E:cq m x=m.eraseIdx j:=by
  have hn:=h.keys
  clear h D A B
  induction m generalizing j with
  |nil=>simp at hj
  |cons p m ih=>
   obtain ⟨k,v⟩:=p
   simp only [List.map_cons,List.nodup_cons] at hn
   cases j with
   |zero=>
    simp at hj
    obtain ⟨rfl,rfl⟩:=hj
    simp only [cq,List.eraseIdx_zero,List.tail_cons]
    rw [List.filter_cons_of_neg sm]
    refine List.filter_eq_self.2 fun p hp=>?_
    have:p.1≠k:=fun e=>hn.1 (List.mem_map.2 ⟨p,hp,e⟩)
    simpa using this
   |succ j=>
    simp only [List.getElem?_cons_succ] at hj
    have C:k≠x:=fun e=>hn.1 (List.mem_map.2 ⟨_,aR hj,e.symm⟩)
    simp only [cq,List.eraseIdx_cons_succ] at ih ⊢
    rw [List.filter_cons_of_pos (by simpa using C),ih hj (by simpa using (List.getElem?_eq_some_iff.1 hj).1) hn.2]
 have sub:(es.eraseIdxIfInBounds j).toList.Sublist es.toList:=by rw [B]; exact List.eraseIdx_sublist _ _
 refine ⟨?_,?_,fun e he=>h.Jg e (sub.subset he),h.born.sublist (sub.map _)⟩
 ·rw [B,E,ChangeMaps.map_eraseIdx,ChangeMaps.map_eraseIdx,h.list]
 ·rw [E]; exact h.keys.sublist ((List.eraseIdx_sublist _ _).map _)
theorem EJ {m:List (K×Value)} {x:K} (h:m.lookup x=none):cq m x=m:=List.filter_eq_self.2 fun p hp=>by simpa using g4.1 h p hp
/-- y, ok := m[x] -/
theorem LL {t kt et:TypeId} {xm xk:Operand} {b:Nat} {x:K} {z:Value} {m:List (K×Value)} (hg:ju ops L g=true) (hm:ev L xm=some (.map (some b))) (hk:ev L xk=some (kV x))
 (ht:E.P.underlying t=some (.map kt et)) (hkt:uD E.P kt kV) (hz:tV E.P et=some z) (hC:il C (gZ kV b m).holds):
 SD E ops ⟨dst,.lookup t xm xk true,ty,ps,af,g⟩ D L C (.tuple [(m.lookup x).getD z,.bool (m.lookup x).isSome].toArray):=
 dE hg sm fun a w A hs=>by
  obtain ⟨es,c,he,hi⟩:=hs.has hC
  have B:(getObj b).run E.P w= .ok (.map es c) w:=MapKept.run_getObj_map he
  rcases oV (P:=E.P) (w:=w) (x:=x) hkt hi with ⟨F,G⟩|⟨j,AA,F,G,H⟩
  ·simp [execOp,Instr.lookup,A.ev hm,A.ev hk,run_underlying ht,B,iH hkt,F,G,LK hz]
  ·simp [execOp,Instr.lookup,A.ev hm,A.ev hk,run_underlying ht,B,iH hkt,F,H]
/-- m[x] -/
theorem Gz {t kt et:TypeId} {xm xk:Operand} {b:Nat} {x:K} {z:Value} {m:List (K×Value)} (hg:ju ops L g=true) (hm:ev L xm=some (.map (some b))) (hk:ev L xk=some (kV x))
 (ht:E.P.underlying t=some (.map kt et)) (hkt:uD E.P kt kV) (hz:tV E.P et=some z) (hC:il C (gZ kV b m).holds):
 SD E ops ⟨dst,.lookup t xm xk false,ty,ps,af,g⟩ D L C ((m.lookup x).getD z):=
 dE hg sm fun a w A hs=>by
  obtain ⟨es,c,he,hi⟩:=hs.has hC
  have B:(getObj b).run E.P w= .ok (.map es c) w:=MapKept.run_getObj_map he
  rcases oV (P:=E.P) (w:=w) (x:=x) hkt hi with ⟨F,G⟩|⟨j,AA,F,G,H⟩
  ·simp [execOp,Instr.lookup,A.ev hm,A.ev hk,run_underlying ht,B,iH hkt,F,G,LK hz]
  ·simp [execOp,Instr.lookup,A.ev hm,A.ev hk,run_underlying ht,B,iH hkt,F,H]
/-- len(m) -/
theorem JF {t kt et:TypeId} {xm:Operand} {b:Nat} {m:List (K×Value)} (hg:ju ops L g=true) (hm:ev L xm=some (.map (some b))) (ht:E.P.underlying t=some (.map kt et)) (hC:il C (gZ kV b m).holds):
 SD E ops ⟨dst,.call {callee:= .builtin .len,args:= #[xm],argTypes:= #[t]},ty,ps,af,g⟩ D L C (.int .i64 (m.length:Int)):=
 dE hg sm fun a w B hs=>by
  obtain ⟨es,c,he,hi⟩:=hs.has hC
  have A:(getObj b).run E.P w= .ok (.map es c) w:=MapKept.run_getObj_map he
  simp [execOp,resolve,invoke,builtin,B.ev hm,Builtin.len_,run_underlying ht,A,hi.size,goInt]
theorem jW {β:Type} {t kt et:TypeId} {xm xk:Operand} {b:Nat} {x:K} {f:β→Value} {z:β} {l:List (K×β)} (hg:ju ops L g=true) (hm:ev L xm=some (.map (some b))) (hk:ev L xk=some (kV x))
 (ht:E.P.underlying t=some (.map kt et)) (hkt:uD E.P kt kV) (hz:tV E.P et=some (f z)) (hC:il C (gZ kV b (bL f l)).holds):
 SD E ops ⟨dst,.lookup t xm xk true,ty,ps,af,g⟩ D L C (.tuple [f ((l.lookup x).getD z),.bool (l.lookup x).isSome].toArray):=by
 have:=LL (dst:=dst) (ty:=ty) (ps:=ps) (af:=af) (D:=D) hg hm hk ht hkt hz hC
 rw [mU] at this
 have A:((l.lookup x).map f).getD (f z)=f ((l.lookup x).getD z):=by cases l.lookup x<;>rfl
 rw [A,Option.isSome_map] at this
 exact this
theorem jO {β:Type} {t kt et:TypeId} {xm xk:Operand} {b:Nat} {x:K} {f:β→Value} {z:β} {l:List (K×β)} (hg:ju ops L g=true) (hm:ev L xm=some (.map (some b))) (hk:ev L xk=some (kV x))
 (ht:E.P.underlying t=some (.map kt et)) (hkt:uD E.P kt kV) (hz:tV E.P et=some (f z)) (hC:il C (gZ kV b (bL f l)).holds):
 SD E ops ⟨dst,.lookup t xm xk false,ty,ps,af,g⟩ D L C (f ((l.lookup x).getD z)):=by
 have:=Gz (dst:=dst) (ty:=ty) (ps:=ps) (af:=af) (D:=D) hg hm hk ht hkt hz hC
 rw [mU] at this
 have A:((l.lookup x).map f).getD (f z)=f ((l.lookup x).getD z):=by cases l.lookup x<;>rfl
 rw [A] at this
 exact this
theorem sr {β:Type} {t kt et:TypeId} {xm:Operand} {b:Nat} {f:β→Value} {l:List (K×β)} (hg:ju ops L g=true) (hm:ev L xm=some (.map (some b))) (ht:E.P.underlying t=some (.map kt et)) (hC:il C (gZ kV b (bL f l)).holds):
 SD E ops ⟨dst,.call {callee:= .builtin .len,args:= #[xm],argTypes:= #[t]},ty,ps,af,g⟩ D L C (.int .i64 (l.length:Int)):=by
 have:=JF (dst:=dst) (ty:=ty) (ps:=ps) (af:=af) (D:=D) hg hm ht hC
 rwa [GM] at this
end
theorem eN {β:Type} {x:K} {y:β} {l:List (K×β)} (h:(x,y)∈l):(cq l x).length<l.length:=by
 unfold cq
 exact List.length_filter_lt_length_iff_exists.2 ⟨_,h,sm⟩
theorem j7 {β:Type} {x:K} {p:K×β} {l:List (K×β)}:p∈cq l x↔p∈l∧p.1≠x:=by simp [cq]
/-- an iterator over a map: what is left; what came last -/
def yR (kV:K→Value) (r b:Nat) (m left:List (K×Value)) (cur:Option (K×Value)):aq where
 e_ k:=k=r∨k=b
 wf k:=k=r∨k=b
 holds w:=r≠b∧ ∃ (es:Array MapEntry) (c since:Nat) (seen:Array Nat) (st:Nat),w.heap[b]? =some (.map es c)∧iZ kV es c m∧w.heap[r]? =some (.mapIter (some b) since seen st)∧(∀ e∈es.toList,e.born<since)∧since≤st∧since≤c∧
  (leftOf es seen).toList.map (fun (e:MapEntry)=>(e.key,e.val))=left.map (fun p=>(kV p.1,p.2))∧
  ∀ p,cur=some p→ ∃ (e:MapEntry) (seen0:Array Nat),e∈es.toList∧seen=seen0.push e.born∧st=c∧e.key=kV p.1∧e.val=p.2
 wr:=true
 km _ h:=h
 whole _ _ h:=h
 lt w h k hk:=by
  obtain ⟨_,es,c,since,seen,st,h1,_,h2,_⟩:=h
  rcases hk with rfl|rfl
  ·exact dY h2
  ·exact dY h1
 oG w w' hk h:=by
  obtain ⟨hne,es,c,since,seen,st,h1,h2,h3,h4⟩:=h
  exact ⟨hne,es,c,since,seen,st,(hk b (.inr rfl)).trans h1,h2,(hk r (.inl rfl)).trans h3,h4⟩
theorem wy {r b:Nat} {m left:List (K×Value)} {cur:Option (K×Value)}:(∀ w,(yR kV r b m left cur).holds w→(yR kV r b m left none).holds w)∧(∀ k,(yR kV r b m left none).e_ k→(yR kV r b m left cur).e_ k)∧ ∀ k,(yR kV r b m left none).wf k→(yR kV r b m left cur).wf k:=
 ⟨fun w h=>by
  obtain ⟨A,es,c,since,seen,st,B,C,D,E,F,h5',G,_⟩:=h
  exact ⟨A,es,c,since,seen,st,B,C,D,E,F,h5',G,fun p hp=>by cases hp⟩,fun _ h=>h,fun _ h=>h⟩
theorem Jc {r b:Nat} {m left:List (K×Value)} {cur:Option (K×Value)}:(∀ w,(yR kV r b m left cur).holds w→(gZ kV b m).holds w)∧(∀ k,(gZ kV b m).e_ k→(yR kV r b m left cur).e_ k)∧ ∀ k,(gZ kV b m).wf k→(yR kV r b m left cur).wf k:=
 ⟨fun w h=>by
  obtain ⟨C,es,c,since,seen,st,A,B,_⟩:=h
  exact ⟨es,c,A,B⟩,fun _ h=> .inr h,fun _ h=> .inr h⟩
theorem Cl {es:Array MapEntry} {c:Nat} {m:List (K×Value)} (hinj: ∀ x y,kV x=kV y→x=y) (hi:iZ kV es c m) {x y:MapEntry} (hx:x∈es.toList) (hy:y∈es.toList) (e:x.key=y.key):x=y:=by
 have hk:(es.toList.map (·.key))=(m.map (·.1)).map kV:=by
  have:=congrArg (List.map Prod.fst) hi.list
  simpa [Function.comp_def] using this
 have h:(es.toList.map (·.key)).Nodup:=by
  rw [hk,List.nodup_iff_pairwise_ne,List.pairwise_map]
  exact hi.keys.imp (fun B he=>B (hinj _ _ he))
 obtain ⟨i,A⟩:=List.getElem?_of_mem hx
 obtain ⟨j,hj⟩:=List.getElem?_of_mem hy
 have C:(es.toList.map (·.key))[i]? =some x.key:=by rw [fq,A]; rfl
 have D:(es.toList.map (·.key))[j]? =some x.key:=by rw [fq,hj,e]; rfl
 have E:=(List.getElem?_inj (List.getElem?_eq_some_iff.1 C).1 h).1 (C.trans D.symm)
 subst E
 exact Option.some.inj (A.symm.trans hj)
section
variable {E:eY} {ops:Array Oper} {Q:cU} {rest:List Oper} {D:List Deferred} {L:List (Nat×Value)} {C:List aq}
variable {dst:Option Tmp} {d:Nat} {ty:TypeId} {ps:String} {af:Array Edge} {g:Option (Nat×Bool)}
theorem uG {t kt et:TypeId} {xm:Operand} {b:Nat} {m:List (K×Value)} (i:Nat) (hg:ju ops L g=true) (hm:ev L xm=some (.map (some b))) (ht:E.P.underlying t=some (.map kt et)) (hC:C[i]? =some (gZ kV b m)) (hd:Nat.blt d E.n=true)
 (k: ∀ r,RJ E ops Q rest D ((d,.pointer (some ⟨r,0,none⟩))::L) (C.set i (yR kV r b m m none))):RJ E ops Q (⟨some d,.range t xm,ty,ps,af,g⟩::rest) D L C:=by
 intro a w A hs
 have hd':d<E.n:=by rw [← Nat.blt_eq]; exact hd
 unfold rD
 rw [if_pos (dK A hg)]
 obtain ⟨es,c,he,hi⟩:=hs.holds _ (aR hC)
 have F:b<w.heap.size:=dY he
 have B:(getObj b).run E.P w= .ok (.map es c) w:=MapKept.run_getObj_map he
 refine gJ (v:= .pointer (some ⟨w.heap.size,0,none⟩)) (w':=w.alloc (.mapIter (some b) c #[] c)) sm ?_ ?_
 ·simp [execOp,Instr.range,A.ev hm,run_underlying ht,B,newObj,Sem.run]
 ·refine k _ _ _ (A.put hd' _) (hs.mv i hC ⟨⟨I,es,c,c,#[],c,?_,hi,heap_alloc_new w _,hi.Jg,Nat.le_refl _,Nat.le_refl _,?_,fun p hp=>by cases hp⟩,dJ.alloc _ w _,fun q hq=>?_,fun q hq=>?_⟩)
  ·rw [Below.heap_alloc w _ b F]; exact he
  ·have:leftOf es #[]=es:=by unfold leftOf; exact Array.filter_eq_self.2 sm
   rw [this]; exact hi.list
  ·rcases hq with rfl|rfl
   ·exact .inr (Nat.le_refl _)
   ·exact .inl U
  ·rcases hq with rfl|rfl
   ·exact .inr (Nat.le_refl _)
   ·exact .inl U
theorem wI {es:Array MapEntry} {c:Nat} {m left:List (K×Value)} {seen:Array Nat} (hinj: ∀ x y,kV x=kV y→x=y) (hi:iZ kV es c m) (h:(leftOf es seen).toList.map (fun (e:MapEntry)=>(e.key,e.val))=left.map (fun p=>(kV p.1,p.2))):(left.map (·.1)).Nodup:=by
 have B:((leftOf es seen).toList.map (·.key)).Sublist (es.toList.map (·.key)):=by
  unfold leftOf; rw [Array.toList_filter]; exact List.filter_sublist.map _
 have D:(es.toList.map (·.key))=(m.map (·.1)).map kV:=by
  have:=congrArg (List.map Prod.fst) hi.list
  simpa [Function.comp_def] using this
 have E:((leftOf es seen).toList.map (·.key))=(left.map (·.1)).map kV:=by
  have:=congrArg (List.map Prod.fst) h
  simpa [Function.comp_def] using this
 rw [D,E] at B
 have F:((m.map (·.1)).map kV).Nodup:=by
  rw [List.nodup_iff_pairwise_ne,List.pairwise_map]
  exact hi.keys.imp (fun A he=>A (hinj _ _ he))
 have C:=F.sublist B
 rw [List.nodup_iff_pairwise_ne,List.pairwise_map] at C
 rw [List.nodup_iff_pairwise_ne]
 exact C.imp (fun A he=>A (by rw [he]))
theorem LS (hinj: ∀ x y,kV x=kV y→x=y) {xi:Operand} {r b:Nat} {m left:List (K×Value)} {cur:Option (K×Value)} (i:Nat) (hg:ju ops L g=true) (hm:ev L xi=some (.pointer (some ⟨r,0,none⟩))) (hC:C[i]? =some (yR kV r b m left cur)) (hd:Nat.blt d E.n=true)
 (k0:left=[]→RJ E ops Q rest D ((d,.tuple [.bool false].toArray)::L) C)
 (k1: ∀ x v,(x,v)∈left→(left.map (·.1)).Nodup→RJ E ops Q rest D ((d,.tuple [.bool true,kV x,v].toArray)::L) (C.set i (yR kV r b m (cq left x) (some (x,v))))):
 RJ E ops Q (⟨some d,.next xi false,ty,ps,af,g⟩::rest) D L C:=by
 intro a w G hs
 have hd':d<E.n:=by rw [← Nat.blt_eq]; exact hd
 unfold rD
 rw [if_pos (dK G hg)]
 obtain ⟨R,es,c,since,seen,st,X,hi,Y,J,V,M,A,_⟩:=hs.holds _ (aR hC)
 rcases run_next_at (P:=E.P) w ty r b since st seen es c Y X J V with ⟨Z,hr⟩|⟨e,he,N,H,hr⟩
 ·refine gJ (v:= .tuple #[.bool false]) (w':=w) sm ?_ ?_
  ·simp [execOp,G.ev hm,hr]
  ·refine k0 ?_ _ _ (G.put hd' _) hs
   have:(leftOf es seen).toList=[]:=by rw [← List.length_eq_zero_iff,Array.length_toList]; exact Z
   rw [this] at A
   exact List.map_eq_nil_iff.1 A.symm
 ·have O:(e.key,e.val)∈left.map (fun p=>(kV p.1,p.2)):=by rw [← A]; exact List.mem_map.2 ⟨e,he,rfl⟩
  obtain ⟨p,hp,S⟩:=List.mem_map.1 O
  obtain ⟨x,v⟩:=p
  simp only [Prod.mk.injEq] at S
  obtain ⟨hk,hv⟩:=S
  refine gJ (v:= .tuple #[.bool true,e.key,e.val]) (w':=ChangeMaps.setBlock N r (.mapIter (some b) since (seen.push e.born) c)) sm ?_ ?_
  ·simp [execOp,G.ev hm,hr]
  ·rw [← hk,← hv]
   have AA:=wI hinj hi A
   have F:e∈es.toList:=by unfold leftOf at he; rw [Array.toList_filter] at he; exact (List.mem_filter.1 he).1
   have f:c=c:=rfl
   have B:N.heap=w.heap:=by rcases H with rfl|rfl<;>rfl
   refine k1 x v hp AA _ _ (G.put hd' _) (hs.mv i hC ⟨⟨R,es,c,since,seen.push e.born,c,?_,hi,?_,J,M,M,?_,fun q hq=>?_⟩,?_,fun q hq=> .inl hq,fun q hq=> .inl hq⟩)
   ·show (N.heap.setIfInBounds r _)[b]? =_
    rw [Array.getElem?_setIfInBounds_ne R,B]; exact X
   ·show (N.heap.setIfInBounds r _)[r]? =_
    rw [Array.getElem?_setIfInBounds_self_of_lt (by rw [B]; exact dY Y)]
   ·have T:leftOf es (seen.push e.born)=(leftOf es seen).filter (fun z=> !(z.born==e.born)):=by
     unfold leftOf
     rw [Array.filter_filter]
     congr 1
     funext z
     simp only [Array.contains_push,Bool.not_or]
     rw [Bool.and_comm]
    rw [T,Array.toList_filter]
    have key: ∀ (l:List MapEntry) (ll:List (K×Value)),(∀ z∈l,z∈es.toList)→l.map (fun (e:MapEntry)=>(e.key,e.val))=ll.map (fun p=>(kV p.1,p.2))→
     (l.filter (fun z=> !(z.born==e.born))).map (fun (e:MapEntry)=>(e.key,e.val))=(cq ll x).map (fun p=>(kV p.1,p.2)):=by
     intro l
     induction l with
     |nil=>intro ll _ h; cases ll with
      |nil=>rfl
      |cons p ll=>simp at h
     |cons z l ih=>
      intro ll hz h
      cases ll with
      |nil=>simp at h
      |cons p ll=>
       simp only [List.map_cons,List.cons.injEq,Prod.mk.injEq] at h
       have ih':=ih ll (fun y hy=>hz y (by simp [hy])) h.2
       have AB:(z.born=e.born)↔(p.1=x):=by
        constructor
        ·intro hb
         have:z=e:=Dm hi.born (hz z sm) F hb
         rw [this] at h
         have:=h.1.1.symm.trans hk.symm
         exact hinj _ _ this
        ·intro hx
         have W:z.key=e.key:=by rw [h.1.1,hx,hk]
         rw [Cl hinj hi (hz z sm) F W]
       unfold cq at ih' ⊢
       by_cases hx:p.1=x
       ·rw [List.filter_cons_of_neg (by simp [AB.2 hx]),List.filter_cons_of_neg (by simp [hx])]; exact ih'
       ·rw [List.filter_cons_of_pos (by simpa using fun hb=>hx (AB.1 hb)),List.filter_cons_of_pos (by simpa using hx)]
        simp only [List.map_cons,h.1.1,h.1.2,ih']
    exact key _ _ (fun z hz=>by unfold leftOf at hz; rw [Array.toList_filter] at hz; exact (List.mem_filter.1 hz).1) A
   ·cases hq
    exact ⟨e,seen,F,U,U,hk.symm,hv.symm⟩
   ·refine ⟨?_,?_,?_,?_,fun q hq hn=>?_⟩
    ·rcases H with rfl|rfl<;>rfl
    ·rcases H with rfl|rfl<;>rfl
    ·rcases H with rfl|rfl<;>rfl
    ·show w.heap.size≤(N.heap.setIfInBounds r _).size
     simp [B]
    ·show (N.heap.setIfInBounds r _)[q]? =_
     rw [Array.getElem?_setIfInBounds_ne (fun e=>hn (.inl e.symm)),B]
theorem rZ {xi:Operand} {r b:Nat} {m left:List (K×Value)} {x:K} {v:Value} (i:Nat) (hg:ju ops L g=true) (hm:ev L xi=some (.pointer (some ⟨r,0,none⟩))) (hC:C[i]? =some (yR kV r b m left (some (x,v)))):
 SD E ops ⟨dst,.entry xi,ty,ps,af,g⟩ D L C (.tuple [kV x,v].toArray):=
 dE hg sm fun a w F hs=>by
  obtain ⟨N,es,c,since,seen,st,J,hi,M,H,O,AA,G,B⟩:=hs.holds _ (aR hC)
  obtain ⟨e,A,he,rfl,rfl,hk,hv⟩:=B _ rfl
  have:=run_entry_at (P:=E.P) w r b since A es st e M J he hi.born
  simp [execOp,F.ev hm,this,hk,hv]
theorem rV (hinj: ∀ x y,kV x=kV y→x=y) {β:Type} {f:β→Value} {xi:Operand} {r b:Nat} {m:List (K×Value)} {ll:List (K×β)} {cur:Option (K×Value)} (i:Nat) (hg:ju ops L g=true) (hm:ev L xi=some (.pointer (some ⟨r,0,none⟩))) (hC:C[i]? =some (yR kV r b m (bL f ll) cur)) (hd:Nat.blt d E.n=true)
 (k0:ll=[]→RJ E ops Q rest D ((d,.tuple [.bool false].toArray)::L) C)
 (k1: ∀ x y,(x,y)∈ll→(ll.map (·.1)).Nodup→RJ E ops Q rest D ((d,.tuple [.bool true,kV x,f y].toArray)::L) (C.set i (yR kV r b m (bL f (cq ll x)) (some (x,f y))))):
 RJ E ops Q (⟨some d,.next xi false,ty,ps,af,g⟩::rest) D L C:=by
 refine LS hinj i hg hm hC hd (fun h=>k0 (List.map_eq_nil_iff.1 h)) (fun x v B hn=>?_)
 obtain ⟨p,hp,A⟩:=List.mem_map.1 B
 simp only [Prod.mk.injEq] at A
 obtain ⟨rfl,rfl⟩:=A
 have:=k1 p.1 p.2 hp (by simpa [bL,Function.comp_def] using hn)
 rwa [lK] at this
end
end
end
section
structure bO where
 Start:Int
 fZ:Int
 pT:List Int
 vm:List (List (Int×aa))
 cW:Int
 eV:Int
 Qx:Int
def bO.n (w:bO):Nat:=w.pT.length
def fc (s:Int):aB:=if s<0 then ⟨0,1⟩ else ⟨1,0⟩
def di (a b:aB):aB:=⟨a.right+b.right,a.eL+b.eL⟩
def tR (w:bO) (b:Nat):List (Int×aa):=(w.vm[b]?).getD []
def iq (w:bO) (b:Nat):List (Int×aa):=(-1,⟨w.Start,w.fZ⟩)::tR w b
def bR (w:bO) (b:Nat):Int:=(w.pT[b]?).getD 0
def kH (w:bO) (b:Nat) (p:aB×Int) (o:Int×aa):Option (aB×Int):=if max (p.2+bR w b) o.2.Lo≤min o.2.Hi w.fZ then some (di p.1 (fc o.1),max (p.2+bR w b) o.2.Lo) else none
def fwd (w:bO):Nat→List (aB×Int)
 |0=>[(⟨0,0⟩,w.Start)]
 |b+1=>(fwd w b).flatMap fun p=>(iq w b).filterMap (kH w b p)
def nV (w:bO) (b:Nat) (p:aB×Int) (o:Int×aa):Option (aB×Int):=if o.2.Lo≤min p.2 o.2.Hi then some (di p.1 (fc o.1),min p.2 o.2.Hi-bR w b) else none
def bwd (w:bO):Nat→List (aB×Int)
 |0=>[(⟨0,0⟩,w.fZ)]
 |k+1=>(⟨0,0⟩,w.fZ)::(bwd w k).flatMap fun p=>(iq w (w.n-(k+1))).filterMap (nV w (w.n-(k+1)) p)
def back (w:bO) (b:Nat):List (aB×Int):=bwd w (w.n-b)
def kq (w:bO) (t:aB):Bool:=decide (t.eL≤w.cW∧w.Qx-t.right≤w.eV)
theorem fG {w:bO} {b:Nat} {q:aB×Int}:q∈fwd w (b+1)↔ ∃ p∈fwd w b,∃ o∈iq w b,kH w b p o=some q:=by
 simp only [fwd,List.mem_flatMap,List.mem_filterMap]
theorem uW {w:bO} {b:Nat} (h:w.n≤b):back w b=[(⟨0,0⟩,w.fZ)]:=by
 unfold back; rw [Nat.sub_eq_zero_of_le h]; rfl
theorem o0 {w:bO} {b:Nat} (h:b<w.n) {q:aB×Int}:q∈back w b↔q=(⟨0,0⟩,w.fZ)∨ ∃ p∈back w (b+1),∃ o∈iq w b,nV w b p o=some q:=by
 unfold back
 have e:w.n-b=(w.n-(b+1))+1:=by omega
 rw [e]
 simp only [bwd,d_,List.mem_flatMap,List.mem_filterMap]
 rw [show w.n-(w.n-(b+1)+1)=b by omega]
def sS (m c:List (aB×Int)):Prop:=(∀ t v,m.lookup t=some v→(t,v)∈c)∧ ∀ t y,(t,y)∈c→ ∃ v,m.lookup t=some v∧v≤y
def vn (m c:List (aB×Int)):Prop:=(∀ t v,m.lookup t=some v→(t,v)∈c)∧ ∀ t y,(t,y)∈c→ ∃ v,m.lookup t=some v∧y≤v
def vk (m c:List (aB×Int)):Prop:= ∀ t v,m.lookup t=some v→(t,v)∈c
theorem mR {K β:Type} [DecidableEq K] {m:List (K×β)} {x t:K} {y:β}:(dL m x y).lookup t=if t=x then some y else m.lookup t:=by
 unfold dL
 by_cases hx:(m.lookup x).isSome
 ·rw [if_pos hx]
  have key: ∀ l:List (K×β),(l.lookup x).isSome∨True→(l.map (fun p=>if p.1=x then (x,y) else p)).lookup t=if t=x then (if (l.lookup x).isSome then some y else none) else l.lookup t:=by
   intro l _
   induction l with
   |nil=>simp
   |cons p l ih=>
    obtain ⟨k,v⟩:=p
    have ih:=ih (.inr trivial)
    by_cases hk:k=x
    ·subst hk
     by_cases ht:t=k
     ·subst ht; simp [List.lookup]
     ·have:(t==k)=false:=by simpa using ht
      simp only [List.map_cons,if_true,List.lookup,this,ih,if_neg ht]
    ·have hk':(x==k)=false:=by simpa using fun e=>hk e.symm
     by_cases ht:t=k
     ·subst ht; simp [List.lookup,hk]
     ·have A:(t==k)=false:=by simpa using ht
      simp only [List.map_cons,if_neg hk,List.lookup,A,ih,hk']
  rw [key m (.inr trivial)]
  by_cases ht:t=x
  ·subst ht
   rw [if_pos rfl,if_pos rfl,if_pos hx]
  ·rw [if_neg ht,if_neg ht]
 ·rw [if_neg hx]
  have hn:m.lookup x=none:=by cases h0:m.lookup x with
   |none=>rfl
   |some v=>exact absurd (by rw [h0]; rfl) hx
  by_cases ht:t=x
  ·subst ht
   rw [if_pos rfl]
   have:=g4.1 hn
   clear hn hx
   induction m with
   |nil=>simp
   |cons p m ih=>
    obtain ⟨k,v⟩:=p
    have hk:(t==k)=false:=by simpa using fun e=>this (k,v) sm e.symm
    simp only [List.cons_append,List.lookup,hk]
    exact ih (fun q hq=>this q (cR _ hq))
  ·rw [if_neg ht]
   clear hn hx
   induction m with
   |nil=>
    have:(t==x)=false:=by simpa using ht
    simp [List.lookup,this]
   |cons p m ih=>
    obtain ⟨k,v⟩:=p
    by_cases hk:t=k
    ·subst hk; simp [List.lookup]
    ·have:(t==k)=false:=by simpa using hk
     simp only [List.cons_append,List.lookup,this]
     exact ih
/-- what a map is after a try -/
def o9 (m:List (aB×Int)) (q:aB×Int):List (aB×Int):=match m.lookup q.1 with
 |none=>dL m q.1 q.2
 |some v=>if q.2<v then dL m q.1 q.2 else m
def oS (m:List (aB×Int)) (q:aB×Int):List (aB×Int):=match m.lookup q.1 with
 |none=>dL m q.1 q.2
 |some v=>if v<q.2 then dL m q.1 q.2 else m
theorem xn {m:List (aB×Int)} {q:aB×Int} {t:aB}:(o9 m q).lookup t=if t=q.1 then some (match m.lookup q.1 with |none=>q.2|some v=>min q.2 v) else m.lookup t:=by
 unfold o9
 cases h:m.lookup q.1 with
 |none=>simp only; rw [mR]
 |some v=>
  simp only
  split
  ·rename_i A
   rw [mR,Int.min_eq_left I]
  ·rename_i A
   split
   ·rename_i e; subst e; rw [h,Int.min_eq_right I]
   ·rfl
theorem wE {m:List (aB×Int)} {q:aB×Int} {t:aB}:(oS m q).lookup t=if t=q.1 then some (match m.lookup q.1 with |none=>q.2|some v=>max q.2 v) else m.lookup t:=by
 unfold oS
 cases h:m.lookup q.1 with
 |none=>simp only; rw [mR]
 |some v=>
  simp only
  split
  ·rename_i A
   rw [mR,Int.max_eq_left I]
  ·rename_i A
   split
   ·rename_i e; subst e; rw [h,Int.max_eq_right I]
   ·rfl
def xY (m m':List (aB×Int)):Prop:= ∀ t v,m.lookup t=some v→ ∃ v',m'.lookup t=some v'∧v'≤v
def xI (m m':List (aB×Int)):Prop:= ∀ t v,m.lookup t=some v→ ∃ v',m'.lookup t=some v'∧v≤v'
theorem xY.refl (m:List (aB×Int)):xY m m:=fun t v h=>⟨v,h,I⟩
theorem xI.refl (m:List (aB×Int)):xI m m:=fun t v h=>⟨v,h,I⟩
theorem vj {m:List (aB×Int)} {q:aB×Int}:xY m (o9 m q):=fun t v h=>by
 rw [xn]
 split
 ·rename_i e; subst e; rw [h]; exact ⟨_,rfl,by simp only; omega⟩
 ·exact ⟨v,h,I⟩
theorem p_ {m:List (aB×Int)} {q:aB×Int}:xI m (oS m q):=fun t v h=>by
 rw [wE]
 split
 ·rename_i e; subst e; rw [h]; exact ⟨_,rfl,by simp only; omega⟩
 ·exact ⟨v,h,I⟩
theorem HY {m c:List (aB×Int)} {q:aB×Int} (h:vk m c) (hq:q∈c):vk (o9 m q) c:=fun t v hv=>by
 rw [xn] at hv
 split at hv
 ·rename_i e
  subst e
  cases hm:m.lookup q.1 with
  |none=>simp only [hm,Option.some.injEq] at hv; subst hv; exact hq
  |some x=>
   simp only [hm,Option.some.injEq] at hv; subst hv
   rcases Int.lt_or_le q.2 x with A|A
   ·rw [Int.min_eq_left I]; exact hq
   ·rw [Int.min_eq_right I]; exact h _ _ hm
 ·exact h t v hv
theorem Hj {m c:List (aB×Int)} {q:aB×Int} (h:vk m c) (hq:q∈c):vk (oS m q) c:=fun t v hv=>by
 rw [wE] at hv
 split at hv
 ·rename_i e
  subst e
  cases hm:m.lookup q.1 with
  |none=>simp only [hm,Option.some.injEq] at hv; subst hv; exact hq
  |some x=>
   simp only [hm,Option.some.injEq] at hv; subst hv
   rcases Int.lt_or_le q.2 x with A|A
   ·rw [Int.max_eq_right I]; exact h _ _ hm
   ·rw [Int.max_eq_left I]; exact hq
 ·exact h t v hv
theorem Ho {m:List (aB×Int)} {q:aB×Int}: ∃ v,(o9 m q).lookup q.1=some v∧v≤q.2:=by
 rw [xn,if_pos rfl]
 refine ⟨_,U,?_⟩
 cases m.lookup q.1<;>simp only <;>omega
theorem Ia {m:List (aB×Int)} {q:aB×Int}: ∃ v,(oS m q).lookup q.1=some v∧q.2≤v:=by
 rw [wE,if_pos rfl]
 refine ⟨_,U,?_⟩
 cases m.lookup q.1<;>simp only <;>omega
/-- all that comes of one entry, by some options, is held -/
def iY (w:bO) (b:Nat) (m:List (aB×Int)) (p:aB×Int) (os:List (Int×aa)):Prop:= ∀ o∈os,∀ q,kH w b p o=some q→ ∃ v,m.lookup q.1=some v∧v≤q.2
def iW (w:bO) (b:Nat) (m:List (aB×Int)) (p:aB×Int) (os:List (Int×aa)):Prop:= ∀ o∈os,∀ q,nV w b p o=some q→ ∃ v,m.lookup q.1=some v∧q.2≤v
theorem iY.lower {w:bO} {b:Nat} {m m':List (aB×Int)} {p:aB×Int} {os:List (Int×aa)} (h:iY w b m p os) (hl:xY m m'):iY w b m' p os:=fun o ho q hq=>by
 obtain ⟨v,A,C⟩:=h o ho q hq
 obtain ⟨v',B,D⟩:=hl _ _ A
 exact ⟨v',B,I⟩
theorem iW.upper {w:bO} {b:Nat} {m m':List (aB×Int)} {p:aB×Int} {os:List (Int×aa)} (h:iW w b m p os) (hl:xI m m'):iW w b m' p os:=fun o ho q hq=>by
 obtain ⟨v,A,C⟩:=h o ho q hq
 obtain ⟨v',B,D⟩:=hl _ _ A
 exact ⟨v',B,I⟩
theorem iY.sub {w:bO} {b:Nat} {m:List (aB×Int)} {p:aB×Int} {os os':List (Int×aa)} (h:iY w b m p os) (hs: ∀ o∈os',o∈os):iY w b m p os':=fun o ho=>h o (hs o ho)
theorem iW.sub {w:bO} {b:Nat} {m:List (aB×Int)} {p:aB×Int} {os os':List (Int×aa)} (h:iW w b m p os) (hs: ∀ o∈os',o∈os):iW w b m p os':=fun o ho=>h o (hs o ho)
theorem iY.add {w:bO} {b:Nat} {m m':List (aB×Int)} {p:aB×Int} {os:List (Int×aa)} {o:Int×aa} (h:iY w b m p os) (hl:xY m m') (hn: ∀ q,kH w b p o=some q→ ∃ v,m'.lookup q.1=some v∧v≤q.2):iY w b m' p (os++[o]):=fun o' ho q hq=>by
 rcases List.mem_append.1 ho with ho|ho
 ·exact h.lower hl o' ho q hq
 ·simp only [bS] at ho; subst ho; exact hn q hq
theorem iW.add {w:bO} {b:Nat} {m m':List (aB×Int)} {p:aB×Int} {os:List (Int×aa)} {o:Int×aa} (h:iW w b m p os) (hl:xI m m') (hn: ∀ q,nV w b p o=some q→ ∃ v,m'.lookup q.1=some v∧q.2≤v):iW w b m' p (os++[o]):=fun o' ho q hq=>by
 rcases List.mem_append.1 ho with ho|ho
 ·exact h.upper hl o' ho q hq
 ·simp only [bS] at ho; subst ho; exact hn q hq
theorem fm {m:List (aB×Int)} (hn:(m.map (·.1)).Nodup) {t:aB} {v:Int}:(t,v)∈m↔m.lookup t=some v:=jX hn
theorem oU {z t:aB} {x v:Int}:List.lookup t [(z,x)]=some v↔t=z∧v=x:=by
 by_cases e:t=z
 ·subst e; simp [List.lookup,eq_comm]
 ·have:(t==z)=false:=by simpa using e
  simp [List.lookup,this,e]
theorem Hu {w:bO}:sS [(⟨0,0⟩,w.Start)] (fwd w 0):=by
 refine ⟨fun t v h=>?_,fun t y h=>?_⟩
 ·obtain ⟨rfl,rfl⟩:=oU.1 h
  simp [fwd]
 ·simp only [fwd,bS,Prod.mk.injEq] at h
  obtain ⟨rfl,rfl⟩:=h
  exact ⟨w.Start,oU.2 ⟨U,U⟩,Int.le_refl _⟩
theorem Lb {w:bO} {b:Nat} {mb m:List (aB×Int)} (hn:(mb.map (·.1)).Nodup) (h:sS mb (fwd w b)) (hs:vk m (fwd w (b+1))) (hd: ∀ p∈mb,iY w b m p (iq w b)):sS m (fwd w (b+1)):=⟨hs,fun t y hy=>by
 obtain ⟨p,hp,o,ho,e⟩:=fG.1 hy
 obtain ⟨v,B,E⟩:=h.2 p.1 p.2 hp
 unfold kH at e
 split at e
 ·rename_i D
  simp only [Option.some.injEq,Prod.mk.injEq] at e
  obtain ⟨v',A,C⟩:=hd (p.1,v) ((fm hn).2 B) o ho (di p.1 (fc o.1),max (v+bR w b) o.2.Lo) (by unfold kH; rw [if_pos (by simp only; omega)])
  simp only at A C
  rw [e.1] at A
  exact ⟨v',A,I⟩
 ·cases e⟩
theorem LB {w:bO} {b:Nat} (hb:w.n≤b):vn [(⟨0,0⟩,w.fZ)] (back w b):=by
 rw [uW hb]
 refine ⟨fun t v h=>?_,fun t y h=>?_⟩
 ·obtain ⟨rfl,rfl⟩:=oU.1 h
  simp
 ·simp only [bS,Prod.mk.injEq] at h
  obtain ⟨rfl,rfl⟩:=h
  exact ⟨w.fZ,oU.2 ⟨U,U⟩,Int.le_refl _⟩
theorem Km {w:bO} {b:Nat} (hb:b<w.n) {mb m:List (aB×Int)} (hn:(mb.map (·.1)).Nodup) (h:vn mb (back w (b+1))) (hs:vk m (back w b)) (h0: ∃ v,m.lookup ⟨0,0⟩=some v∧w.fZ≤v) (hd: ∀ p∈mb,iW w b m p (iq w b)):vn m (back w b):=⟨hs,fun t y hy=>by
 rcases (o0 hb).1 hy with e|⟨p,hp,o,ho,e⟩
 ·simp only [Prod.mk.injEq] at e
  obtain ⟨rfl,rfl⟩:=e
  exact h0
 obtain ⟨v,B,E⟩:=h.2 p.1 p.2 hp
 unfold nV at e
 split at e
 ·rename_i D
  simp only [Option.some.injEq,Prod.mk.injEq] at e
  obtain ⟨v',A,C⟩:=hd (p.1,v) ((fm hn).2 B) o ho (di p.1 (fc o.1),min v o.2.Hi-bR w b) (by unfold nV; rw [if_pos (by simp only; omega)])
  simp only at A C
  rw [e.1] at A
  exact ⟨v',A,I⟩
 ·cases e⟩
end
section
def jr (w:bO) (b:Nat) (p u:aB×Int) (o:Int×aa):aa:=⟨max (p.2+bR w b) o.2.Lo,min u.2 o.2.Hi⟩
def xG (p u:aB×Int) (o:Int×aa):aB:=di (di p.1 u.1) (fc o.1)
def mu (w:bO) (b:Nat) (p u:aB×Int) (o:Int×aa):Option (Int×aa):=if (jr w b p u o).Lo≤(jr w b p u o).Hi∧kq w (xG p u o)=true then some (o.1,jr w b p u o) else none
def pU (w:bO) (b:Nat) (mf mb:List (aB×Int)):List (Int×aa):=(iq w b).flatMap fun o=>mf.flatMap fun p=>mb.filterMap fun u=>mu w b p u o
def l8 (w:bO) (b:Nat):List (Int×aa):=pU w b (fwd w b) (back w (b+1))
theorem g_ {w:bO} {b:Nat} {mf mb:List (aB×Int)} {q:Int×aa}:q∈pU w b mf mb↔ ∃ o∈iq w b,∃ p∈mf,∃ u∈mb,mu w b p u o=some q:=by
 simp only [pU,List.mem_flatMap,List.mem_filterMap]
theorem jo {w:bO} {b:Nat} {p u:aB×Int} {o q:Int×aa}:mu w b p u o=some q↔(jr w b p u o).Lo≤(jr w b p u o).Hi∧kq w (xG p u o)=true∧q=(o.1,jr w b p u o):=by
 unfold mu
 split
 ·rename_i h
  simp only [Option.some.injEq]
  exact ⟨fun e=>⟨h.1,h.2,e.symm⟩,fun e=>e.2.2.symm⟩
 ·rename_i h
  simp only [reduceCtorEq,false_iff]
  exact fun e=>h ⟨e.1,e.2.1⟩
theorem mY {w:bO} {b:Nat} {mf mb:List (aB×Int)} {q:Int×aa} (h:q∈pU w b mf mb):q.2.Lo≤q.2.Hi:=by
 obtain ⟨o,_,p,_,u,_,e⟩:=g_.1 h
 obtain ⟨A,_,rfl⟩:=jo.1 e
 exact A
/-- what the maps tell is what all ways tell -/
theorem NY {w:bO} {b:Nat} {mf mb:List (aB×Int)} (hf:sS mf (fwd w b)) (hb:vn mb (back w (b+1))) (nf:(mf.map (·.1)).Nodup) (nb:(mb.map (·.1)).Nodup) {q:Int×aa} (h:q∈pU w b mf mb):q∈l8 w b:=by
 obtain ⟨o,ho,p,hp,u,hu,e⟩:=g_.1 h
 exact g_.2 ⟨o,ho,p,hf.1 _ _ ((fm nf).1 hp),u,hb.1 _ _ ((fm nb).1 hu),e⟩
theorem JN {w:bO} {b:Nat} {mf mb:List (aB×Int)} (hf:sS mf (fwd w b)) (hb:vn mb (back w (b+1))) (nf:(mf.map (·.1)).Nodup) (nb:(mb.map (·.1)).Nodup) {q:Int×aa} (h:q∈l8 w b): ∃ q'∈pU w b mf mb,q'.1=q.1∧q'.2.Lo≤q.2.Lo∧q.2.Hi≤q'.2.Hi:=by
 obtain ⟨o,ho,p,hp,u,hu,e⟩:=g_.1 h
 obtain ⟨A,B,rfl⟩:=jo.1 e
 obtain ⟨v,hv,C⟩:=hf.2 p.1 p.2 hp
 obtain ⟨y,hy,D⟩:=hb.2 u.1 u.2 hu
 simp only [jr] at A
 refine ⟨(o.1,jr w b (p.1,v) (u.1,y) o),g_.2 ⟨o,ho,(p.1,v),(fm nf).2 hv,(u.1,y),(fm nb).2 hy,jo.2 ⟨?_,B,U⟩⟩,U,?_,?_⟩
 ·simp only [jr]; omega
 ·simp only [jr]; omega
 ·simp only [jr]; omega
def mE:aa:=⟨1,0⟩
def mj (h x:aa):aa:=if h=mE then x else ⟨min x.Lo h.Lo,max x.Hi h.Hi⟩
def vt (l:List (Int×aa)):aa:=l.foldl (fun h q=>mj h q.2) mE
structure ow (l:List (Int×aa)) (h:aa):Prop where
 le:h.Lo≤h.Hi
 lo: ∃ x∈l,x.2.Lo=h.Lo
 hi: ∃ x∈l,x.2.Hi=h.Hi
 all: ∀ x∈l,h.Lo≤x.2.Lo∧x.2.Hi≤h.Hi
def ki (l:List (Int×aa)) (h:aa):Prop:=(l=[]∧h=mE)∨ow l h
theorem ow.ne {l:List (Int×aa)} {h:aa} (hh:ow l h):h≠mE:=fun e=>by
 have:=hh.le; rw [e] at this; simp [mE] at this
theorem CK:ki [] mE:= .inl ⟨rfl,rfl⟩
theorem uK {l:List (Int×aa)} {h:aa} {q:Int×aa} (hh:ki l h) (hq:q.2.Lo≤q.2.Hi):ki (l++[q]) (mj h q.2):=by
 right
 rcases hh with ⟨rfl,rfl⟩|hh
 ·unfold mj
  rw [if_pos rfl]
  exact ⟨hq,⟨q,sm,rfl⟩,⟨q,sm,rfl⟩,fun x hx=>by simp at hx; subst hx; exact ⟨Int.le_refl _,Int.le_refl _⟩⟩
 ·unfold mj
  rw [if_neg hh.ne]
  have A:=hh.le
  obtain ⟨a,ha,ea⟩:=hh.lo
  obtain ⟨c,hc,ec⟩:=hh.hi
  refine ⟨by simp only; omega,?_,?_,fun x hx=>?_⟩
  ·rcases Int.lt_or_le q.2.Lo h.Lo with p|p
   ·exact ⟨q,sm,by simp only; omega⟩
   ·exact ⟨a,by simp [ha],by simp only; omega⟩
  ·rcases Int.lt_or_le h.Hi q.2.Hi with p|p
   ·exact ⟨q,sm,by simp only; omega⟩
   ·exact ⟨c,by simp [hc],by simp only; omega⟩
  ·rcases List.mem_append.1 hx with hx|hx
   ·have:=hh.all x hx; simp only; omega
   ·simp at hx; subst hx; simp only; omega
theorem uA {l:List (Int×aa)} (hl: ∀ q∈l,q.2.Lo≤q.2.Hi):ki l (vt l):=by
 have key: ∀ (r d:List (Int×aa)) (h:aa),(∀ q∈r,q.2.Lo≤q.2.Hi)→ki d h→ki (d++r) (r.foldl (fun h q=>mj h q.2) h):=by
  intro r
  induction r with
  |nil=>intro d h _ hd; simpa using hd
  |cons q r ih=>
   intro d h hr hd
   have:=ih (d++[q]) (mj h q.2) (fun x hx=>hr x (cR _ hx)) (uK hd (hr q sm))
   simpa using this
 have:=key l [] mE hl CK
 rw [List.nil_append] at this
 exact this
def E9 (a b:List (Int×aa)):Prop:= ∀ x∈b,∃ y∈a,y.2.Lo≤x.2.Lo∧x.2.Hi≤y.2.Hi
theorem OI {a b:List (Int×aa)} {h k:aa} (ha:ki a h) (hb:ki b k) (hab:E9 a b) (hba:E9 b a):h=k:=by
 rcases ha with ⟨rfl,rfl⟩|ha
 ·rcases hb with ⟨rfl,rfl⟩|hb
  ·rfl
  ·obtain ⟨x,hx,_⟩:=hb.lo
   obtain ⟨y,hy,_⟩:=hab x hx
   cases hy
 ·rcases hb with ⟨rfl,rfl⟩|hb
  ·obtain ⟨x,hx,_⟩:=ha.lo
   obtain ⟨y,hy,_⟩:=hba x hx
   cases hy
  ·have le: ∀ {a b:List (Int×aa)} {h k:aa},ow a h→ow b k→E9 a b→h.Lo≤k.Lo∧k.Hi≤h.Hi:=fun {a b h k} ha hb hab=>by
    obtain ⟨x,hx,ex⟩:=hb.lo
    obtain ⟨z,hz,ez⟩:=hb.hi
    obtain ⟨y,hy,ey⟩:=hab x hx
    obtain ⟨y',hy',ey'⟩:=hab z hz
    have A:=ha.all y hy
    have B:=ha.all y' hy'
    omega
   have A:=le ha hb hab
   have B:=le hb ha hba
   rw [aa.ext_iff]; omega
theorem zB {w:bO} {b:Nat} {mf mb:List (aB×Int)} {l:List (Int×aa)} {h:aa} (hf:sS mf (fwd w b)) (hb:vn mb (back w (b+1))) (nf:(mf.map (·.1)).Nodup) (nb:(mb.map (·.1)).Nodup)
 (hl: ∀ q∈l,q∈pU w b mf mb) (hl2: ∀ q∈pU w b mf mb,q∈l) (hh:ki l h):h=vt (l8 w b):=
 OI hh (uA fun q hq=>mY hq) (fun x hx=>by
  obtain ⟨q,hq,_,A,B⟩:=JN hf hb nf nb hx
  exact ⟨q,hl2 q hq,A,B⟩) (fun x hx=>⟨x,NY hf hb nf nb (hl x hx),Int.le_refl _,Int.le_refl _⟩)
def ji (w:bO) (m:List (aB×Int)):Bool:=m.any fun p=>kq w p.1
theorem BL {w:bO} {b:Nat} {m:List (aB×Int)} (h:sS m (fwd w b)) (nf:(m.map (·.1)).Nodup):ji w m=ji w (fwd w b):=by
 unfold ji
 rw [Bool.eq_iff_iff,List.any_eq_true,List.any_eq_true]
 constructor
 ·rintro ⟨p,hp,A⟩
  exact ⟨p,h.1 _ _ ((fm nf).1 hp),A⟩
 ·rintro ⟨p,hp,A⟩
  obtain ⟨v,hv,_⟩:=h.2 p.1 p.2 hp
  exact ⟨(p.1,v),(fm nf).2 hv,A⟩
def kf (w:bO) (k:Nat):List Int:=((List.range k).filter fun i=>ji w (fwd w i)).map fun (i:Nat)=>(i:Int)
def jC (w:bO):List Int:=kf w (w.n+1)
theorem EC {w:bO} {k:Nat} (h:ji w (fwd w k)=true):kf w (k+1)=kf w k++[(k:Int)]:=by simp [kf,List.range_succ,h]
theorem Gy {w:bO} {k:Nat} (h:ji w (fwd w k)=false):kf w (k+1)=kf w k:=by simp [kf,List.range_succ,h]
theorem xS {w:bO} {k:Nat}:(kf w k).length≤k:=by
 unfold kf
 rw [List.length_map]
 exact Nat.le_trans (List.length_filter_le _ _) sm
end
section
open Go.RowKit
theorem Hb {P:Program} {t:Nat} {k:IntKind} (hu:P.underlying t=some (.int k)) (e:Bool) (n:Nat) (v:Value) (w:World):(Instr.checkKey e (n+1) t v).run P w= .ok () w:=by
 unfold Instr.checkKey
 simp only [Sem.run_bind,run_underlying hu,Result.andThen]
 cases v<;>rfl
theorem AU {P:Program} {kt:Nat} {l:List (Nat×Nat)} (hl:fL P kt=some l) (e:Bool) (n:Nat) (cs:Array Value) (w:World)
 (hf: ∀ p∈l,(∃ v,(part p.1 cs p.2).run P w= .ok v w)∧ ∃ k,P.underlying p.1=some (.int k)):(Instr.checkKey e (n+2) kt (.agg cs)).run P w= .ok () w:=by
 unfold fL at hl
 cases hu:P.underlying kt with
 |none=>simp [hu] at hl
 |some d=>
  cases d<;>simp [hu] at hl
  rename_i fs
  obtain ⟨hn,hl⟩:=hl
  rw [show n+2=(n+1)+1 from rfl,Instr.checkKey]
  simp only [Sem.run_bind,run_underlying hu,Result.andThen_ok]
  rw [← Array.forIn_toList]
  have A: ∀ f∈fs.toList,(∃ v,(part f.type cs f.offset).run P w= .ok v w)∧ ∃ k,P.underlying f.type=some (.int k):=fun f hf'=>hf (f.type,f.offset) (by rw [← hl]; exact List.mem_map.2 ⟨f,hf',rfl⟩)
  have B: ∀ f∈fs.toList,f.name≠"_":=fun f hf'=>by
   obtain ⟨i,hi,rfl⟩:=List.getElem_of_mem hf'
   exact hn.1.1 i (by simpa using hi)
  clear hl hn hf
  generalize fs.toList=L at A B
  induction L with
  |nil=>simp
  |cons f L ih=>
   obtain ⟨⟨v,hv⟩,k,hk⟩:=A f sm
   have C:=B f sm
   simp only [List.forIn_cons,Sem.run_bind,C,ne_eq,not_false_eq_true,if_true,Result.andThen_ok,hv,Hb hk,Sem.run_pure]
   exact ih (fun y hy=>A y (by simp [hy])) (fun y hy=>B y (by simp [hy]))
theorem De {P:Program} {kt:Nat} {K:Type} [DecidableEq K] {kV:K→Value} (hw: ∀ (k:Value) (es:List MapEntry) (w:World),(Instr.findKey kt k es).run P w=(Instr.findAsking kt k es).run P w)
 (heq: ∀ x y w,(Op.equal kt (kV x) (kV y)).run P w= .ok (decide (x=y)) w) (inj: ∀ x y,kV x=kV y→x=y) (x:K) (w:World) (es:List MapEntry) (hk: ∀ e∈es,∃ k,e.key=kV k):
 ((Instr.findKey kt (kV x) es).run P w= .ok none w∧ ∀ e∈es,e.key≠kV x)∨ ∃ j e,(Instr.findKey kt (kV x) es).run P w= .ok (some (j,e.val)) w∧es[j]? =some e∧e.key=kV x:=by
 have key: ∀ (es:List MapEntry) (i:Nat),(∀ e∈es,∃ k,e.key=kV k)→((Instr.findAsking kt (kV x) es i).run P w= .ok none w∧ ∀ e∈es,e.key≠kV x)∨ ∃ j e,(Instr.findAsking kt (kV x) es i).run P w= .ok (some (i+j,e.val)) w∧es[j]? =some e∧e.key=kV x:=by
  intro es
  induction es with
  |nil=>intro i _; exact .inl ⟨by simp [Instr.findAsking],sm⟩
  |cons e es ih=>
   intro i B
   obtain ⟨k,A⟩:=B e sm
   by_cases h:x=k
   ·refine .inr ⟨0,e,?_,U,by rw [A,h]⟩
    subst h
    simp [Instr.findAsking,A,heq]
   ·rcases ih (i+1) (fun y hy=>B y (by simp [hy])) with ⟨C,D⟩|⟨j,e',C,D,E⟩
    ·refine .inl ⟨by simp [Instr.findAsking,A,heq,h,C],fun y hy=>?_⟩
     rcases List.mem_cons.1 hy with rfl|hy
     ·rw [A]; exact fun q=>h (inj _ _ q).symm
     ·exact D y hy
    ·exact .inr ⟨j+1,e',by simp [Instr.findAsking,A,heq,h,C]; omega,by simpa using D,E⟩
 rw [hw]
 rcases key es 0 hk with h|⟨j,e,C,D,E⟩
 ·exact .inl h
 ·exact .inr ⟨j,e,by simpa using C,D,E⟩
theorem DE {P:Program} {kt:Nat} {l:List (Nat×Nat)} (hl:fL P kt=some l) (k:Value) (es:List MapEntry) (w:World):(Instr.findKey kt k es).run P w=(Instr.findAsking kt k es).run P w:=by
 refine run_findKey_eq w ?_ k es
 unfold fL at hl
 cases hu:P.underlying kt with
 |none=>simp [hu] at hl
 |some d=>cases d<;>simp [hu] at hl ⊢
theorem OG {P:Program} {kt:Nat} {K:Type} [DecidableEq K] {kV:K→Value} {l:List (Nat×Nat)} (hl:fL P kt=some l) (heq: ∀ x y w,(Op.equal kt (kV x) (kV y)).run P w= .ok (decide (x=y)) w) (inj: ∀ x y,kV x=kV y→x=y)
 (hb: ∀ x,Instr.sameBits 10000 (kV x) (kV x)=true) (hp: ∀ x w,∃ cs,kV x= .agg cs∧ ∀ p∈l,(∃ v,(part p.1 cs p.2).run P w= .ok v w)∧ ∃ k,P.underlying p.1=some (.int k)):uD P kt kV:=
 ⟨fun e x w=>by obtain ⟨cs,A,B⟩:=hp x w; rw [A]; exact AU hl e 9998 cs w B,fun x w es=>De (DE hl) heq inj x w es,hb,inj⟩
end
section
open Go.RowKit
set_option linter.unusedSectionVars false
theorem dC {P:Program} {kt:Nat} (hk:P.underlying kt=some (.int .i64)):uD P kt (Value.int .i64):=by
 refine ⟨fun e x w=>HI hk e,fun x w es A=>?_,fun x=>by simp [Instr.sameBits],fun x y h=>by injection h⟩
 have key: ∀ (es:List MapEntry) (i:Nat),(∀ e∈es,∃ k:Int,e.key= .int .i64 k)→(Instr.findNow (.int .i64) (.int .i64 x) es i=some none∧ ∀ e∈es,e.key≠ .int .i64 x)∨ ∃ j e,Instr.findNow (.int .i64) (.int .i64 x) es i=some (some (i+j,e.val))∧es[j]? =some e∧e.key= .int .i64 x:=by
  intro es
  induction es with
  |nil=>intro i _; exact .inl ⟨rfl,sm⟩
  |cons e es ih=>
   intro i A
   obtain ⟨k,B⟩:=A e sm
   by_cases h:x=k
   ·subst h
    exact .inr ⟨0,e,by simp [Instr.findNow,Instr.sameNow,B],U,B⟩
   ·have hb:(x==k)=false:=by simpa using h
    rcases ih (i+1) (fun y hy=>A y (by simp [hy])) with ⟨C,D⟩|⟨j,e',C,D,E⟩
    ·refine .inl ⟨by simp [Instr.findNow,Instr.sameNow,B,hb,C],fun y hy=>?_⟩
     rcases List.mem_cons.1 hy with rfl|hy
     ·rw [B]; intro q; injection q with _ q; exact h q.symm
     ·exact D y hy
    ·refine .inr ⟨j+1,e',?_,by simpa using D,E⟩
     simp only [Instr.findNow,Instr.sameNow,B,hb,if_true,C]
     simp; omega
 rcases key es 0 A with ⟨C,D⟩|⟨j,e,C,D,E⟩
 ·exact .inl ⟨MapKept.run_findKey hk C,D⟩
 ·exact .inr ⟨j,e,MapKept.run_findKey hk (by simpa using C),D,E⟩
theorem St.NN {S:BS} {w0 w w':World} {C:List aq} {A N:aq} (h:St S w0 C w) (i:Nat) (hA:C[i]? =some A) (k:dJ no w w') (hN:N.holds w') (hf: ∀ b,N.e_ b→w.heap.size≤b∨A.e_ b∧ ¬ A.wf b∧ ¬ N.wf b):St S w0 (N::C) w':=by
 have h':=h.same k
 have G:=aR hA
 have hi:=(List.getElem?_eq_some_iff.1 hA).1
 have B:C[i]=A:=(List.getElem?_eq_some_iff.1 hA).2
 refine ⟨h'.keeps,fun X hX=>?_,List.Pairwise.cons (fun X hX b hb hb'=>?_) h'.sep,fun X hX b hb=>?_,fun X hX b hb=>?_⟩
 ·rcases List.mem_cons.1 hX with rfl|hX
  ·exact hN
  ·exact h'.holds X hX
 ·rcases hf b hb with E|⟨E,AA,H⟩
  ·have:=X.lt w (h.holds X hX) b hb'; omega
  ·refine ⟨H,?_⟩
   obtain ⟨j,hj,D⟩:=List.mem_iff_getElem.1 hX
   by_cases e:j=i
   ·subst e; rw [← D,B]; exact AA
   ·rcases Nat.lt_or_gt_of_ne e with F|F
    ·have:=List.pairwise_iff_getElem.1 h.sep j i hj hi F b (by rw [D]; exact hb') (by rw [B]; exact E)
     rw [← D]; exact this.1
    ·have:=List.pairwise_iff_getElem.1 h.sep i j hi hj F b (by rw [B]; exact E) (by rw [D]; exact hb')
     rw [← D]; exact this.2
 ·rcases List.mem_cons.1 hX with rfl|hX
  ·rcases hf b (X.km b hb) with E|⟨_,_,H⟩
   ·exact .inl (Nat.le_trans h.keeps.size E)
   ·exact absurd hb H
  ·exact h'.own X hX b hb
 ·rcases List.mem_cons.1 hX with rfl|hX
  ·rcases hf b hb with E|⟨E,_,_⟩
   ·exact .inl (Nat.le_trans h.keeps.size E)
   ·exact h.seen A G b E
  ·exact h'.seen X hX b hb
section
variable {K:Type} [DecidableEq K] {kV:K→Value}
/-- an iterator over a map that is read alone -/
def zC (kV:K→Value) (r b:Nat) (m left:List (K×Value)) (cur:Option (K×Value)):aq where
 e_ k:=k=r∨k=b
 wf k:=k=r
 holds w:=r≠b∧ ∃ (es:Array MapEntry) (c since:Nat) (seen:Array Nat) (st:Nat),w.heap[b]? =some (.map es c)∧iZ kV es c m∧w.heap[r]? =some (.mapIter (some b) since seen st)∧(∀ e∈es.toList,e.born<since)∧since≤st∧since≤c∧
  (leftOf es seen).toList.map (fun (e:MapEntry)=>(e.key,e.val))=left.map (fun p=>(kV p.1,p.2))∧
  ∀ p,cur=some p→ ∃ (e:MapEntry) (seen0:Array Nat),e∈es.toList∧seen=seen0.push e.born∧st=c∧e.key=kV p.1∧e.val=p.2
 wr:=false
 km _ h:= .inl h
 whole h:=by cases h
 lt w h k hk:=by
  obtain ⟨_,es,c,since,seen,st,h1,_,h2,_⟩:=h
  rcases hk with rfl|rfl
  ·exact dY h2
  ·exact dY h1
 oG w w' hk h:=by
  obtain ⟨hne,es,c,since,seen,st,h1,h2,h3,h4⟩:=h
  exact ⟨hne,es,c,since,seen,st,(hk b (.inr rfl)).trans h1,h2,(hk r (.inl rfl)).trans h3,h4⟩
theorem fr {r b:Nat} {m left:List (K×Value)} {cur:Option (K×Value)}:(∀ w,(zC kV r b m left cur).holds w→(zC kV r b m left none).holds w)∧(∀ k,(zC kV r b m left none).e_ k→(zC kV r b m left cur).e_ k)∧ ∀ k,(zC kV r b m left none).wf k→(zC kV r b m left cur).wf k:=
 ⟨fun w h=>by
  obtain ⟨A,es,c,since,seen,st,B,C,D,E,F,h5',G,_⟩:=h
  exact ⟨A,es,c,since,seen,st,B,C,D,E,F,h5',G,fun p hp=>by cases hp⟩,fun _ h=>h,fun _ h=>h⟩
section
variable {E:eY} {ops:Array Oper} {Q:cU} {rest:List Oper} {D:List Deferred} {L:List (Nat×Value)} {C:List aq}
variable {dst:Option Tmp} {d:Nat} {ty:TypeId} {ps:String} {af:Array Edge} {g:Option (Nat×Bool)}
theorem jR {t kt et:TypeId} {xm:Operand} {b:Nat} {m:List (K×Value)} {A:aq} (i:Nat) (hg:ju ops L g=true) (hm:ev L xm=some (.map (some b))) (ht:E.P.underlying t=some (.map kt et)) (hA:C[i]? =some A) (hAf:A.e_ b∧ ¬ A.wf b) (hC:il C (gZ kV b m).holds) (hd:Nat.blt d E.n=true)
 (k: ∀ r,RJ E ops Q rest D ((d,.pointer (some ⟨r,0,none⟩))::L) (zC kV r b m m none::C)):RJ E ops Q (⟨some d,.range t xm,ty,ps,af,g⟩::rest) D L C:=by
 intro a w B hs
 have hd':d<E.n:=by rw [← Nat.blt_eq]; exact hd
 unfold rD
 rw [if_pos (dK B hg)]
 obtain ⟨es,c,he,hi⟩:=hs.has hC
 have G:b<w.heap.size:=dY he
 have F:(getObj b).run E.P w= .ok (.map es c) w:=MapKept.run_getObj_map he
 refine gJ (v:= .pointer (some ⟨w.heap.size,0,none⟩)) (w':=w.alloc (.mapIter (some b) c #[] c)) sm ?_ ?_
 ·simp [execOp,Instr.range,B.ev hm,run_underlying ht,F,newObj,Sem.run]
 ·refine k _ _ _ (B.put hd' _) (hs.NN i hA (dJ.alloc no w _) ⟨I,es,c,c,#[],c,?_,hi,heap_alloc_new w _,hi.Jg,Nat.le_refl _,Nat.le_refl _,?_,fun p hp=>by cases hp⟩ (fun q hq=>?_))
  ·rw [Below.heap_alloc w _ b G]; exact he
  ·have:leftOf es #[]=es:=by unfold leftOf; exact Array.filter_eq_self.2 sm
   rw [this]; exact hi.list
  ·rcases hq with rfl|rfl
   ·exact .inl (Nat.le_refl _)
   ·refine .inr ⟨hAf.1,hAf.2,fun (e:q=w.heap.size)=>by omega⟩
theorem Hs (hinj: ∀ x y,kV x=kV y→x=y) {xi:Operand} {r b:Nat} {m left:List (K×Value)} {cur:Option (K×Value)} (i:Nat) (hg:ju ops L g=true) (hm:ev L xi=some (.pointer (some ⟨r,0,none⟩))) (hC:C[i]? =some (zC kV r b m left cur)) (hd:Nat.blt d E.n=true)
 (k0:left=[]→RJ E ops Q rest D ((d,.tuple [.bool false].toArray)::L) C)
 (k1: ∀ x v,(x,v)∈left→(left.map (·.1)).Nodup→RJ E ops Q rest D ((d,.tuple [.bool true,kV x,v].toArray)::L) (C.set i (zC kV r b m (cq left x) (some (x,v))))):
 RJ E ops Q (⟨some d,.next xi false,ty,ps,af,g⟩::rest) D L C:=by
 intro a w G hs
 have hd':d<E.n:=by rw [← Nat.blt_eq]; exact hd
 unfold rD
 rw [if_pos (dK G hg)]
 obtain ⟨R,es,c,since,seen,st,X,hi,Y,J,V,M,A,_⟩:=hs.holds _ (aR hC)
 rcases run_next_at (P:=E.P) w ty r b since st seen es c Y X J V with ⟨Z,hr⟩|⟨e,he,N,H,hr⟩
 ·refine gJ (v:= .tuple #[.bool false]) (w':=w) sm ?_ ?_
  ·simp [execOp,G.ev hm,hr]
  ·refine k0 ?_ _ _ (G.put hd' _) hs
   have:(leftOf es seen).toList=[]:=by rw [← List.length_eq_zero_iff,Array.length_toList]; exact Z
   rw [this] at A
   exact List.map_eq_nil_iff.1 A.symm
 ·have O:(e.key,e.val)∈left.map (fun p=>(kV p.1,p.2)):=by rw [← A]; exact List.mem_map.2 ⟨e,he,rfl⟩
  obtain ⟨p,hp,S⟩:=List.mem_map.1 O
  obtain ⟨x,v⟩:=p
  simp only [Prod.mk.injEq] at S
  obtain ⟨hk,hv⟩:=S
  refine gJ (v:= .tuple #[.bool true,e.key,e.val]) (w':=ChangeMaps.setBlock N r (.mapIter (some b) since (seen.push e.born) c)) sm ?_ ?_
  ·simp [execOp,G.ev hm,hr]
  ·rw [← hk,← hv]
   have AA:=wI hinj hi A
   have F:e∈es.toList:=by unfold leftOf at he; rw [Array.toList_filter] at he; exact (List.mem_filter.1 he).1
   have f:c=c:=rfl
   have B:N.heap=w.heap:=by rcases H with rfl|rfl<;>rfl
   refine k1 x v hp AA _ _ (G.put hd' _) (hs.mv i hC ⟨⟨R,es,c,since,seen.push e.born,c,?_,hi,?_,J,M,M,?_,fun q hq=>?_⟩,?_,fun q hq=> .inl hq,fun q hq=> .inl hq⟩)
   ·show (N.heap.setIfInBounds r _)[b]? =_
    rw [Array.getElem?_setIfInBounds_ne R,B]; exact X
   ·show (N.heap.setIfInBounds r _)[r]? =_
    rw [Array.getElem?_setIfInBounds_self_of_lt (by rw [B]; exact dY Y)]
   ·have T:leftOf es (seen.push e.born)=(leftOf es seen).filter (fun z=> !(z.born==e.born)):=by
     unfold leftOf
     rw [Array.filter_filter]
     congr 1
     funext z
     simp only [Array.contains_push,Bool.not_or]
     rw [Bool.and_comm]
    rw [T,Array.toList_filter]
    have key: ∀ (l:List MapEntry) (ll:List (K×Value)),(∀ z∈l,z∈es.toList)→l.map (fun (e:MapEntry)=>(e.key,e.val))=ll.map (fun p=>(kV p.1,p.2))→
     (l.filter (fun z=> !(z.born==e.born))).map (fun (e:MapEntry)=>(e.key,e.val))=(cq ll x).map (fun p=>(kV p.1,p.2)):=by
     intro l
     induction l with
     |nil=>intro ll _ h; cases ll with
      |nil=>rfl
      |cons p ll=>simp at h
     |cons z l ih=>
      intro ll hz h
      cases ll with
      |nil=>simp at h
      |cons p ll=>
       simp only [List.map_cons,List.cons.injEq,Prod.mk.injEq] at h
       have ih':=ih ll (fun y hy=>hz y (by simp [hy])) h.2
       have AB:(z.born=e.born)↔(p.1=x):=by
        constructor
        ·intro hb
         have:z=e:=Dm hi.born (hz z sm) F hb
         rw [this] at h
         have:=h.1.1.symm.trans hk.symm
         exact hinj _ _ this
        ·intro hx
         have W:z.key=e.key:=by rw [h.1.1,hx,hk]
         rw [Cl hinj hi (hz z sm) F W]
       unfold cq at ih' ⊢
       by_cases hx:p.1=x
       ·rw [List.filter_cons_of_neg (by simp [AB.2 hx]),List.filter_cons_of_neg (by simp [hx])]; exact ih'
       ·rw [List.filter_cons_of_pos (by simpa using fun hb=>hx (AB.1 hb)),List.filter_cons_of_pos (by simpa using hx)]
        simp only [List.map_cons,h.1.1,h.1.2,ih']
    exact key _ _ (fun z hz=>by unfold leftOf at hz; rw [Array.toList_filter] at hz; exact (List.mem_filter.1 hz).1) A
   ·cases hq
    exact ⟨e,seen,F,U,U,hk.symm,hv.symm⟩
   ·refine ⟨?_,?_,?_,?_,fun q hq hn=>?_⟩
    ·rcases H with rfl|rfl<;>rfl
    ·rcases H with rfl|rfl<;>rfl
    ·rcases H with rfl|rfl<;>rfl
    ·show w.heap.size≤(N.heap.setIfInBounds r _).size
     simp [B]
    ·show (N.heap.setIfInBounds r _)[q]? =_
     rw [Array.getElem?_setIfInBounds_ne (fun e=>hn e.symm),B]
theorem jc {xi:Operand} {r b:Nat} {m left:List (K×Value)} {x:K} {v:Value} (i:Nat) (hg:ju ops L g=true) (hm:ev L xi=some (.pointer (some ⟨r,0,none⟩))) (hC:C[i]? =some (zC kV r b m left (some (x,v)))):
 SD E ops ⟨dst,.entry xi,ty,ps,af,g⟩ D L C (.tuple [kV x,v].toArray):=
 dE hg sm fun a w F hs=>by
  obtain ⟨N,es,c,since,seen,st,J,hi,M,H,O,AA,G,B⟩:=hs.holds _ (aR hC)
  obtain ⟨e,A,he,rfl,rfl,hk,hv⟩:=B _ rfl
  have:=run_entry_at (P:=E.P) w r b since A es st e M J he hi.born
  simp [execOp,F.ev hm,this,hk,hv]
theorem jg (hinj: ∀ x y,kV x=kV y→x=y) {β:Type} {f:β→Value} {xi:Operand} {r b:Nat} {m:List (K×Value)} {ll:List (K×β)} {cur:Option (K×Value)} (i:Nat) (hg:ju ops L g=true) (hm:ev L xi=some (.pointer (some ⟨r,0,none⟩))) (hC:C[i]? =some (zC kV r b m (bL f ll) cur)) (hd:Nat.blt d E.n=true)
 (k0:ll=[]→RJ E ops Q rest D ((d,.tuple [.bool false].toArray)::L) C)
 (k1: ∀ x y,(x,y)∈ll→(ll.map (·.1)).Nodup→RJ E ops Q rest D ((d,.tuple [.bool true,kV x,f y].toArray)::L) (C.set i (zC kV r b m (bL f (cq ll x)) (some (x,f y))))):
 RJ E ops Q (⟨some d,.next xi false,ty,ps,af,g⟩::rest) D L C:=by
 refine Hs hinj i hg hm hC hd (fun h=>k0 (List.map_eq_nil_iff.1 h)) (fun x v B hn=>?_)
 obtain ⟨p,hp,A⟩:=List.mem_map.1 B
 simp only [Prod.mk.injEq] at A
 obtain ⟨rfl,rfl⟩:=A
 have:=k1 p.1 p.2 hp (by simpa [bL,Function.comp_def] using hn)
 rwa [lK] at this
theorem zd {t kt et:TypeId} {xm xk xv:Operand} {b:Nat} {x:K} {v:Value} {m m':List (K×Value)} {C':List aq} (i:Nat) (hg:ju ops L g=true) (hm:ev L xm=some (.map (some b))) (hk:ev L xk=some (kV x)) (hv:ev L xv=some v)
 (ht:E.P.underlying t=some (.map kt et)) (hkt:uD E.P kt kV) (hC:C[i]? =some (gZ kV b m)) (hm':dL m x v=m') (hC':C.set i (gZ kV b m')=C') (k:RJ E ops Q rest D L C'):
 RJ E ops Q (⟨none,.insert t xm xk xv,ty,ps,af,g⟩::rest) D L C:=by
 subst hm' hC'
 intro a w A hs
 unfold rD
 rw [if_pos (dK A hg)]
 obtain ⟨es,c,he,hi⟩:=hs.holds _ (aR hC)
 have B:(getObj b).run E.P w= .ok (.map es c) w:=MapKept.run_getObj_map he
 rcases oV (P:=E.P) (w:=w) (x:=x) hkt hi with ⟨AA,F⟩|⟨j,N,AA,F,J⟩
 ·refine rr (w':={w with heap:=w.heap.setIfInBounds b (.map (es.push {key:=kV x,val:=v,born:=c}) (c+1))}) sm ?_ ?_
  ·simp [execOp,A.ev hm,A.ev hk,A.ev hv,Instr.mapUpdate,run_underlying ht,B,iH hkt,AA,MapKept.run_setObj_map _ he]
  ·refine k _ _ ⟨A.defers,A.size,A.at_⟩ (hs.Dt (b:=b) i hC U U (nc _) (fun _ h=>h) ⟨_,_,o_ he,?_⟩)
   have:dL m x v=m++[(x,v)]:=by unfold dL; rw [F]; rfl
   rw [this]; exact hi.push F v
 ·have M:=hi.size
  have G:j<es.size:=by have:=(List.getElem?_eq_some_iff.1 F).1; omega
  have H:(es[j]).key=kV x:=by
   have:=congrArg (fun l=>l[j]?) hi.list
   simp [G,F] at this
   exact this.1
  refine rr (w':={w with heap:=w.heap.setIfInBounds b (.map (es.modify j fun e=>{e with key:=kV x,val:=v}) c)}) sm ?_ ?_
  ·simp [execOp,A.ev hm,A.ev hk,A.ev hv,Instr.mapUpdate,run_underlying ht,B,iH hkt,AA,MapKept.run_setObj_map _ he,Instr.keyThatStays,G,H,hkt.bits x]
  ·exact k _ _ ⟨A.defers,A.size,A.at_⟩ (hs.Dt (b:=b) i hC U U (nc _) (fun _ h=>h) ⟨_,_,o_ he,hi.set F J v⟩)
end
end
end
section
open Go.RowKit
def UE {σ:Type} (w0:World) (P:Program) (l:Nat) (step:σ→List Value→σ→Prop) (J:σ→aq→Prop) (Z:aq→Prop):Prop:=
 ∀ k x k' A w,step k x k'→J k A→w0.heap.size≤w.heap.size→A.holds w→YieldAt (Fw none) 0 P l x.toArray w fun e w'=>
  (e= .returned (.bool true)∧ ∃ B,J k' B∧Mv A B w w')∨(e= .returned (.bool false)∧ ∃ B,Z B∧Mv A B w w')
def Iu {σ:Type} (J:σ→aq→Prop) (Z:aq→Prop) (fin:σ→Prop) (A0:aq) (w0:World) (e:Ending) (w':World):Prop:=
 ∃ v,e= .returned v∧((∃ s B,fin s∧J s B∧Mv A0 B w0 w')∨ ∃ B,Z B∧Mv A0 B w0 w')
structure DL {σ:Type} (P:Program) (f:FuncId) (fi ca:List Value) (Cp:List aq) (s0:σ) (step:σ→List Value→σ→Prop) (fin:σ→Prop):Prop where
 go:se P f=true
 run: ∀ (l:Nat) (J:σ→aq→Prop) (Z:aq→Prop) (A0:aq) (w:World),UE w P l step J Z→J s0 A0→A0.holds w→(∀ A∈Cp,A.holds w)→(∀ A∈Cp,Dv A0 A.ro)→
  Calls P f (fi++Value.func (.yield l) #[] #[]::ca).toArray w (Iu J Z fin A0 w)
theorem Kp {σ:Type} {J:σ→aq→Prop} {Z:aq→Prop} {n:σ} {fin:σ→Prop} {A0 B:aq} {w0 w:World} {C:List aq} {v:Value} (i:Nat) (hC:C[i]? =some B) (hfin:fin n) (hJ:J n B) (hF:Fo A0 w0 B) (hs:St ⟨A0.wf,fun _=>True⟩ w0 C w):Iu J Z fin A0 w0 (.returned v) w:=
 ⟨v,rfl,.inl ⟨n,B,hfin,hJ,hs.holds B (aR hC),hs.keeps,fun b hb=>(hs.own B (aR hC) b hb).symm,hF⟩⟩
theorem rF {σ:Type} {J:σ→aq→Prop} {Z:aq→Prop} {fin:σ→Prop} {A0 B:aq} {w0 w:World} {C:List aq} {v:Value} (i:Nat) (hC:C[i]? =some B) (hJ:Z B) (hF:Fo A0 w0 B) (hs:St ⟨A0.wf,fun _=>True⟩ w0 C w):Iu J Z fin A0 w0 (.returned v) w:=
 ⟨v,rfl,.inr ⟨B,hJ,hs.holds B (aR hC),hs.keeps,fun b hb=>(hs.own B (aR hC) b hb).symm,hF⟩⟩
theorem tJ {σ:Type} {P:Program} {f:FuncId} {fn:Func} {c:Code} {fi ca:List Value} {Cp:List aq} {s0:σ} {step:σ→List Value→σ→Prop} {fin:σ→Prop} (hgo:se P f=true) (hf:P.funcs[f]? =some fn) (hb:fn.body=some c) (hn:Nat.ble (fi.length+ca.length+1) fn.ntmps=true)
 (h: ∀ (l:Nat) (J:σ→aq→Prop) (Z:aq→Prop) (A0:aq) (w0:World) (Q:cU),UE w0 P l step J Z→J s0 A0→Fo A0 w0 A0→
  (∀ D L C,LJ ⟨P,none,fn.ntmps,⟨A0.wf,fun _=>True⟩,w0⟩ fn (Iu J Z fin A0 w0) D L C→KJ ⟨P,none,fn.ntmps,⟨A0.wf,fun _=>True⟩,w0⟩ (Q .ret) D L C)→
  (∀ D L C,LJ ⟨P,none,fn.ntmps,⟨A0.wf,fun _=>True⟩,w0⟩ fn (Iu J Z fin A0 w0) D L C→KJ ⟨P,none,fn.ntmps,⟨A0.wf,fun _=>True⟩,w0⟩ (Q .normal) D L C)→
  WJ ⟨P,none,fn.ntmps,⟨A0.wf,fun _=>True⟩,w0⟩ c Q [] (QS (fi++Value.func (.yield l) #[] #[]::ca)) (A0::Cp.map aq.ro)):DL P f fi ca Cp s0 step fin:=by
 refine ⟨hgo,fun l J Z A0 w hY hJ hA F E=>?_⟩
 refine DK hf hb (by simpa [Nat.add_assoc] using hn) (h l J Z A0 w · hY hJ (fun b hb=> .inl hb)) ?_
 have G:=tw F
 refine ⟨dJ.refl _ _,fun A hA'=>?_,List.Pairwise.cons (fun B hB=>?_) G.sep,fun A hA' b hb=>?_,fun _ _ _ _=> .inr trivial⟩
 ·rcases List.mem_cons.1 hA' with rfl|hA'
  ·exact hA
  ·exact G.holds A hA'
 ·obtain ⟨B',hB',rfl⟩:=List.mem_map.1 hB
  exact E B' hB'
 ·rcases List.mem_cons.1 hA' with rfl|hA'
  ·exact .inr hb
  ·obtain ⟨B',hB',rfl⟩:=List.mem_map.1 hA'
   exact hb.elim
section
variable {E:eY} {ops:Array Oper} {Q:cU} {rest:List Oper} {D:List Deferred} {L:List (Nat×Value)} {C:List aq}
variable {d:Nat} {ty:TypeId} {ps:String} {af:Array Edge} {g:Option (Nat×Bool)}
/-- a call of yield -/
theorem ku {σ:Type} {fop:Operand} {xs:Array Operand} {ts:Array TypeId} {l:Nat} {k k':σ} {vs:List Value} {step:σ→List Value→σ→Prop} {J:σ→aq→Prop} {Z:aq→Prop} {A0 A:aq} {w1:World} (i:Nat) (hw1:w1.heap.size≤E.w0.heap.size) (hY:UE w1 E.P l step J Z) (hJ:J k A) (hF:Fo A0 w1 A) (hg:ju ops L g=true) (hf:ev L fop=some (.func (.yield l) #[] #[]))
 (hx:evs L xs.toList=some vs) (hk:step k vs k') (hC:C[i]? =some A) (hd:Nat.blt d E.n=true)
 (k1: ∀ B,J k' B→Fo A0 w1 B→RJ E ops Q rest D ((d,.bool true)::L) (C.set i B))
 (k2: ∀ B,Z B→Fo A0 w1 B→RJ E ops Q rest D ((d,.bool false)::L) (C.set i B)):
 RJ E ops Q (⟨some d,.call {callee:= .value fop,args:=xs,argTypes:=ts},ty,ps,af,g⟩::rest) D L C:=by
 intro a w F hs
 have hd':d<E.n:=by rw [← Nat.blt_eq]; exact hd
 unfold rD
 rw [if_pos (dK F hg)]
 have K:xs.map a.eval=vs.toArray:=by
  have:=F.evs hx
  apply Array.ext'
  simp [this]
 obtain ⟨fn,tmps,assign,body,hy,hr⟩:=hY k vs k' A w hk hJ (Nat.le_trans hw1 hs.keeps.size) (hs.holds A (aR hC))
 have H:(execOp a.eval ⟨some d,.call {callee:= .value fop,args:=xs,argTypes:=ts},ty,ps,af,g⟩).run E.P w= .ok (.round l fn tmps assign body) w:=by
  simp [execOp,resolve,F.ev hf,Deferred.ofValue,invoke,K,hy]
 refine ⟨fun _ _=>trivial,?_⟩
 rw [Oper.semAt_eq _ _ _ sm,H]
 refine ⟨fun h=>by simp at h,?_⟩
 have G: ∀ (B:aq) (w':World),Mv A B w w'→Fo A0 w1 B:=fun B w' m b hb=>by
  rcases m.e_ b hb with AA|AA
  ·exact hF b AA
  ·exact .inr (Nat.le_trans hw1 (Nat.le_trans hs.keeps.size AA))
 have hr':RoundIn (Fw E.r) 0 E.P l fn tmps assign body w _:=hr
 refine hr'.mono fun e w' he=>?_
 rcases he with ⟨rfl,B,hB,m⟩|⟨rfl,B,hB,m⟩
 ·exact k1 B hB (G B w' m) _ _ (F.put hd' _) (hs.mv i hC m)
 ·exact k2 B hB (G B w' m) _ _ (F.put hd' _) (hs.mv i hC m)
end
theorem nx {σ:Type} {E:eY} {Q:cU} {D:List Deferred} {L L0:List (Nat×Value)} {C F:List aq} {g:Operand} {ps:Array Tmp} {assign body:Code} {f:FuncId} {fi ca:List Value} {Cp:List aq} {s0:σ} {step:σ→List Value→σ→Prop} {fin_:σ→Prop} {ι κ:Type}
 (inv:σ→ι→Prop) (Ci:σ→ι→List aq) (invx:Code→κ→Prop) (Cx:Code→κ→List aq) (isJ isF:List Nat) (y0:ι)
 (hr:E.r=none) (hg:ev L g=some (.func (.func f) fi.toArray ca.toArray)) (hs:DL E.P f fi ca Cp s0 step fin_)
 (hnd:decide (isJ++isF).Nodup=true) (hJ:kj C isJ=Ci s0 y0) (hF:kj C isF=F) (h0:inv s0 y0) (hCp: ∀ A∈Cp,∃ B∈F,Mx B A)
 (hps: ∀ k x k',step k x k'→x.length=ps.size) (hpn:ps.toList.all (fun t=>Nat.blt t E.n)=true) (hL:dh L L0)
 (round: ∀ (k:σ) (x:List Value) (k':σ) (y:ι) (l:Nat) (ra rb:Loop) (S:BS) (w0:World) (K:Act→World→Prop) (Qr:cU),E.w0.heap.size≤w0.heap.size→step k x k'→inv k y→
  (∀ L' C',WJ ⟨E.P,some l,E.n,S,w0⟩ body Qr [] L' (lg l (.loop rb)::C')→KJ ⟨E.P,some l,E.n,S,w0⟩ K [] L' (lg l (.loop ra)::C'))→
  (∀ y' L' C',inv k' y'→(∀ w,St S w0 C' w→St S w0 (lg l (.loop rb)::Ci k' y') w)→KJ ⟨E.P,some l,E.n,S,w0⟩ (Qr .normal) [] L' C')→
  (∀ id z L' C',invx (.exit id) z→(∀ w,St S w0 C' w→St S w0 (lg l (.loop rb)::Cx (.exit id) z) w)→KJ ⟨E.P,some l,E.n,S,w0⟩ (Qr (.exit id)) [] L' C')→
  (∀ z L' C',invx .ret z→(∀ w,St S w0 C' w→St S w0 (lg l (.loop rb)::Cx .ret z) w)→KJ ⟨E.P,some l,E.n,S,w0⟩ (Qr .ret) [] L' C')→
  WJ ⟨E.P,some l,E.n,S,w0⟩ assign (Exit.then K (fun _ _ _=>False)) [] (Cr ps.toList x L0) (lg l (.loop ra)::Ci k y))
 (fin: ∀ r s y,fin_ s→inv s y→KJ E (Q .normal) (lq r::D) L0 (lg r (.deferred (some []))::(F++Ci s y)))
 (finx: ∀ r id z,invx (.exit id) z→KJ E (Q (.exit id)) (lq r::D) L0 (lg r (.deferred (some []))::(F++Cx (.exit id) z)))
 (finr: ∀ r z,invx .ret z→KJ E (Q .ret) (lq r::D) L0 (lg r (.deferred (some []))::(F++Cx .ret z))):WJ E (.rangeFunc g ps assign body) Q D L C:=by
 intro a w hf q
 refine wpIn_rangeFunc fun fn _=>?_
 show ∃ l lq w₁ d w₁' f args w₂,(Instr.enterLoop fn a.tmps ps assign body E.r).run E.P w= .ok (l,lq) w₁∧_
 rw [hr]
 obtain ⟨rec,G⟩: ∃ rec:LoopState→Option Code→Loop,rec=fun st pe=>{state:=st,pending:=pe,fn,tmps:=a.tmps,params:=ps,assign,body,defers:=w.heap.size}:=⟨_,rfl⟩
 obtain ⟨W1,R⟩: ∃ W1,(w.alloc (.deferred (some []))).alloc (.loop (rec .ready none))=W1:=⟨_,rfl⟩
 have A0:a.eval g= .func (.func f) fi.toArray ca.toArray:=hf.ev hg
 have p:(Instr.enterLoop fn a.tmps ps assign body none).run E.P w= .ok (w.heap.size+1,[lq w.heap.size]) W1:=by
  rw [← R,G]; exact run_enterLoop_outer _ _ _ _ _
 -- the state with the record and the block
 have u:St E.S E.w0 ((lg (w.heap.size+1) (.loop (rec .ready none))::Ci s0 y0)++(lg w.heap.size (.deferred (some []))::F)) W1:=by
  have X:St E.S E.w0 (Ci s0 y0++F) w:=St.kj (isJ++isF) hnd (by have X:=hJ; have j:=hF; unfold Go.Proofs.YtadjgjnicdcjbaaGreatDoor.kj at X j ⊢; rw [List.filterMap_append,X,j]) q
  have hn:Of w W1 [lg (w.heap.size+1) (.loop (rec .ready none)),lg w.heap.size (.deferred (some []))]:=by
   refine ⟨fun A hA=>?_,fun A hA b hb=>?_,?_⟩
   ·rcases List.mem_cons.1 hA with rfl|hA
    ·show W1.heap[w.heap.size+1]? =_
     rw [← R]; have:=World.alloc_heap_new (w.alloc (.deferred (some []))) (.loop (rec .ready none)); rwa [World.size_alloc] at this
    ·simp only [bS] at hA; subst hA
     show W1.heap[w.heap.size]? =_
     rw [← R]; exact (Below.heap_alloc _ _ _ sm).trans (World.alloc_heap_new w _)
   ·rcases List.mem_cons.1 hA with rfl|hA
    ·have:b=w.heap.size+1:=hb
     omega
    ·simp only [bS] at hA; subst hA
     have:b=w.heap.size:=hb
     omega
   ·refine List.Pairwise.cons (fun B hB b X j=>?_) (List.pairwise_singleton _ _)
    simp only [bS] at hB; subst hB
    have V:b=w.heap.size+1:=X
    have O:b=w.heap.size:=j
    omega
  have hk:dJ no w W1:=by rw [← R]; exact (dJ.alloc no w _).trans (dJ.alloc no _ _)
  have j:=X.grow hk hn
  refine j.perm ?_
  simp only [List.cons_append,List.nil_append]
  exact List.Perm.cons _ (List.perm_middle.symm)
 have Y:=u.tied
 obtain ⟨H,A5⟩:=List.pairwise_cons.1 Y.sep
 have Ah:=Y.holds _ (cb ..)
 let J:σ→aq→Prop:=fun k A=> ∃ y,inv k y∧A=bw (lg (w.heap.size+1) (.loop (rec .ready none))::Ci k y)
 let Z:aq→Prop:=fun A=> ∃ c z,(c= .ret∨ ∃ id,c= .exit id)∧invx c z∧A=bw (lg (w.heap.size+1) (.loop (rec .done (some c)))::Cx c z)
 refine ⟨w.heap.size+1,[lq w.heap.size],W1,{target:= .fn (.func f) ca.toArray,args:=fi.toArray++ #[.func (.yield (w.heap.size+1)) #[] #[]]},W1,f,
  (fi++Value.func (.yield (w.heap.size+1)) #[] #[]::ca).toArray,W1,p,?_,fun _ _=>trivial,?_,fun h=>by simp at h,?_⟩
 ·simp only [resolve,A0]
  simp [Deferred.ofValue,Act.eval]
 ·have:fi.toArray++ #[Value.func (.yield (w.heap.size+1)) #[] #[]]++ca.toArray=(fi++Value.func (.yield (w.heap.size+1)) #[] #[]::ca).toArray:=by simp
  simp [invoke,pJ hs.go]
 ·refine (qN E.r (hs.run (w.heap.size+1) J Z _ W1 ?_ ⟨y0,h0,U⟩ Ah ?_ ?_)).mono ?_
  ·-- a round
   rintro k x k' A W hx ⟨y,hy,rfl⟩ Al hA
   have hl:W.heap[w.heap.size+1]? =some (.loop (rec .ready none)):=hA.1 _ (cb ..)
   have AC:=run_yield (P:=E.P) (args:=x.toArray) hl (by rw [G]; simpa using hps k x k' hx)
   rw [G] at AC
   refine ⟨fn,_,assign,body,AC,roundIn_of_wpIn trivial ?_⟩
   let A:aq:=bw (lg (w.heap.size+1) (.loop (rec .ready none))::Ci k y)
   have A1:Fr E.n [] (Cr ps.toList x L0) {tmps:=(ps.zip x.toArray).foldl (fun tmps (t,a)=>tmps.setIfInBounds t a) a.tmps,defers:=[]}:=by
    have X:=K2 ps.toList x L0 a.tmps (fun t ht=>by have:=List.all_eq_true.1 hpn t ht; rwa [Nat.blt_eq] at this) ⟨rfl,hf.size,fun t v hv=>hf.at_ t v (hL t v hv)⟩
    rw [← Array.foldl_toList]
    simpa using X
   have o: ∀ (c:Option Code) (b:Bool),({rec .busy none with state:=if b then .ready else .done,pending:=c}:Loop)=rec (if b then .ready else .done) c:=fun c b=>by rw [G]
   have T: ∀ (c:Option Code) (N:World) (C':List aq) (S:BS),St S W (lg (w.heap.size+1) (.loop (rec .busy none))::C') N→
    ∃ M,(Instr.endRound (w.heap.size+1) c).run E.P N= .ok (.bool c.isNone) M∧St S W (lg (w.heap.size+1) (.loop (rec (if c.isNone then .ready else .done) c))::C') M:=fun c N C' S H=>by
    have AB:N.heap[w.heap.size+1]? =some (.loop (rec .busy none)):=H.holds _ (cb ..)
    refine ⟨_,run_endRound c AB,?_⟩
    have:=H.Dt (b:=w.heap.size+1) (A':=lg (w.heap.size+1) (.loop (rec (if c.isNone then .ready else .done) c))) 0 rfl rfl rfl (jn _) (fun _ h=>h) (World.putObj_heap_same (dY AB))
    rw [o]
    exact this
   refine round k x k' y (w.heap.size+1) (rec .ready none) (rec .busy none) ⟨A.wf,A.e_⟩ W _ (roundPost E.P (w.heap.size+1) (fun e w'=>(e= .returned (.bool true)∧ ∃ B,J k' B∧Mv A B W w')∨(e= .returned (.bool false)∧ ∃ B,Z B∧Mv A B W w'))) (Nat.le_trans (Nat.le_trans q.keeps.size (by rw [← R]; simp; omega)) Al) hx hy ?_ ?_ ?_ ?_ _ _ A1 (St.Gf hA)
   ·intro L' C' hW a1 N i H
    have AB:N.heap[w.heap.size+1]? =some (.loop (rec .ready none)):=H.holds _ (cb ..)
    refine ⟨_,run_beginRound AB (by rw [G]),hW _ _ i ?_⟩
    have:=H.Dt (b:=w.heap.size+1) (A':=lg (w.heap.size+1) (.loop (rec .busy none))) 0 rfl rfl rfl (jn _) (fun _ h=>h) (World.putObj_heap_same (dY AB))
    have e:({rec .ready none with state:= .busy}:Loop)=rec .busy none:=by rw [G]
    rw [e]; exact this
   ·intro y' L' C' hy' hC' a1 N i H
    obtain ⟨M,V,O⟩:=T none N _ _ (hC' _ H)
    exact ⟨_,M,V,.inl ⟨U,_,⟨y',hy',U⟩,Mv.of O⟩⟩
   ·intro id z L' C' hz hC' a1 N i H
    obtain ⟨M,V,O⟩:=T (some (.exit id)) N _ _ (hC' _ H)
    exact ⟨_,M,V,.inr ⟨U,_,⟨_,z,.inr ⟨id,U⟩,hz,U⟩,Mv.of O⟩⟩
   ·intro z L' C' hz hC' a1 N i H
    obtain ⟨M,V,O⟩:=T (some .ret) N _ _ (hC' _ H)
    exact ⟨_,M,V,.inr ⟨U,_,⟨_,z,.inl U,hz,U⟩,Mv.of O⟩⟩
  ·intro A hA
   obtain ⟨B,hB,hc⟩:=hCp A hA
   exact hc.holds _ (Y.holds B (cR _ (cR _ hB)))
  ·intro A hA b hb hb'
   obtain ⟨B,hB,hc⟩:=hCp A hA
   exact ⟨(H B (cR _ hB) b hb (hc.e_ b hb')).1,fun h=>h⟩
  ·rintro e w' ⟨v,rfl,hh⟩
   have AA:Fr E.n (lq w.heap.size::D) L0 {a with defers:=[lq w.heap.size]++a.defers}:=⟨by simp [hf.defers],hf.size,fun t v hv=>hf.at_ t v (hL t v hv)⟩
   have hleave: ∀ (st:LoopState) (c:Option Code) (C':List aq),st≠ .busy→Mv (bw (lg (w.heap.size+1) (.loop (rec .ready none))::Ci s0 y0)) (bw (lg (w.heap.size+1) (.loop (rec st c))::C')) W1 w'→
    ∃ M,(Instr.endLoop (w.heap.size+1)).run E.P w'= .ok c M∧St E.S E.w0 (lg w.heap.size (.deferred (some []))::(F++C')) M:=fun st c C' A3 m=>by
    have X:=(Y.mv 0 rfl m).ib
    have h1':St E.S E.w0 ((lg (w.heap.size+1) (.loop (rec st c))::C')++(lg w.heap.size (.deferred (some []))::F)) w':=X
    have AB:w'.heap[w.heap.size+1]? =some (.loop (rec st c)):=h1'.holds (lg (w.heap.size+1) (.loop (rec st c))) sm
    refine ⟨_,by have:=run_endLoop (P:=E.P) AB (by rw [G]; exact A3); rw [this,G],?_⟩
    have j:=h1'.Dt (b:=w.heap.size+1) (A':=lg (w.heap.size+1) (.loop {rec st c with state:= .exhausted})) 0 rfl rfl rfl (jn _) (fun _ h=>h) (World.putObj_heap_same (dY AB))
    have h3:St E.S E.w0 (C'++(lg w.heap.size (.deferred (some []))::F)) _:=j.take (List.sublist_cons_self _ _)
    rw [G] at h3
    refine h3.perm ?_
    exact (List.perm_append_comm).trans sm
   rcases hh with ⟨s,B,A2,⟨y,hy,rfl⟩,m⟩|⟨B,⟨c,z,hc,hz,rfl⟩,m⟩
   ·obtain ⟨M,V,O⟩:=hleave .ready none _ sm m
    exact ⟨none,M,V,fin w.heap.size s y A2 hy _ _ AA O⟩
   ·obtain ⟨M,V,O⟩:=hleave .done (some c) _ sm m
    refine ⟨some c,M,V,?_⟩
    rcases hc with rfl|⟨id,rfl⟩
    ·exact wpIn_ret (finr w.heap.size z hz _ _ AA O)
    ·exact wpIn_exit (finx w.heap.size id z hz _ _ AA O)
end
section
open Go.RowKit
/-- where a row lies, and its capacity -/
abbrev RA:=OA×Nat
/-- what is asked of memory by all elements -/
def aV {M A:Type} (f:M→A→List aq):List M→List A→List aq
 |m::ms,a::asl=>f m a++aV f ms asl
 |_,_=>[]
theorem bM {M A:Type} {f:M→A→List aq}: ∀ {ms:List M} {asl:List A} {k:Nat} {m:M} {a:A} {X:aq},ms[k]? =some m→asl[k]? =some a→X∈f m a→X∈aV f ms asl
 |[],_,k,m,a,X,h,_,_=>by simp at h
 |_::_,[],k,m,a,X,_,h,_=>by simp at h
 |x::ms,y::asl,0,m,a,X,h,h2,hX=>by
  simp at h h2; subst h h2
  exact List.mem_append_left _ hX
 |x::ms,y::asl,k+1,m,a,X,h,h2,hX=>List.mem_append_right _ (bM (ms:=ms) (asl:=asl) (k:=k) (by simpa using h) (by simpa using h2) hX)
theorem jH {M A:Type} {f:M→A→List aq}: ∀ {ms:List M} {asl:List A} {X:aq},X∈aV f ms asl→ ∃ (k:Nat) (m:M) (a:A),ms[k]? =some m∧asl[k]? =some a∧X∈f m a
 |[],_,X,h=>by cases h
 |_::_,[],X,h=>by cases h
 |x::ms,y::asl,X,h=>by
  rcases List.mem_append.1 h with h|h
  ·exact ⟨0,x,y,U,U,h⟩
  ·obtain ⟨k,m,a,B,C,D⟩:=jH h
   exact ⟨k+1,m,a,by simpa using B,by simpa using C,D⟩
theorem jN {M A:Type} {f:M→A→List aq}: ∀ {ms:List M} {asl:List A} {ns:List M} {bs:List A},ms.length=asl.length→aV f (ms++ns) (asl++bs)=aV f ms asl++aV f ns bs
 |[],[],ns,bs,_=>rfl
 |[],_::_,ns,bs,h=>by simp at h
 |_::_,[],ns,bs,h=>by simp at h
 |x::ms,y::asl,ns,bs,h=>by
  simp only [List.cons_append,aV,List.append_assoc]
  rw [jN (by simpa using h)]
theorem dA {M A β:Type} {f:M→A→β} {ms:List M} {asl:List A} {k:Nat} {m:M} {a:A} (h:ms[k]? =some m) (h2:asl[k]? =some a):(List.zipWith f ms asl)[k]? =some (f m a):=by
 rw [List.getElem?_zipWith,h,h2]
theorem du {C L:List aq} {A:aq} (i:Nat) (hC:C[i]? =some (eX L).ro) (hm:A∈L):il C A.holds:=fun w hw=>hw _ (aR hC) A hm
theorem cL {M A:Type} {f g:M→A→List aq} {ms:List M} {asl:List A} {C:List aq} (i:Nat) (hC:C[i]? =some (bw (aV g ms asl))) (h: ∀ m a w,(∀ X∈g m a,X.holds w)→ ∀ X∈f m a,X.holds w):il C (eX (aV f ms asl)).holds:=fun w hw X hX=>by
 have hb:=hw _ (aR hC)
 obtain ⟨k,m,a,B,D,E⟩:=jH hX
 exact h m a w (fun Y hY=>hb.1 Y (bM B D hY)) X E
/-- a row that is part of another one -/
theorem N5 {C:List aq} {A:OA} {n k sz:Nat} {es:List (List Value)} (hR:il C (rd A n sz es).holds) (hk:k≤n):il C (rd A k sz (es.take k)).holds:=fun w hw=>by
 obtain ⟨D,E,F⟩:=hR w hw
 refine ⟨by rw [List.length_take,D]; omega,fun x hx=>E x (List.mem_of_mem_take hx),fun hp=>?_⟩
 have G:0<k:=Nat.pos_of_mul_pos_right hp
 have hs:0<sz:=Nat.pos_of_mul_pos_left hp
 obtain ⟨ad,hA,B⟩:=F (Nat.mul_pos I hs)
 refine ⟨ad,hA,fun i e j v he hv=>B i e j v ?_ hv⟩
 rw [List.getElem?_take] at he
 split at he
 ·exact he
 ·cases he
section
variable {E:eY} {ops:Array Oper} {Q:cU} {rest:List Oper} {D:List Deferred} {L:List (Nat×Value)} {C:List aq}
variable {d:Nat} {ty:TypeId} {ps:String} {af:Array Edge} {g:Option (Nat×Bool)}
/-- an element of a slice that is the head of a row -/
theorem Tn (k:Nat) {x ix:Operand} {A:OA} {n n' c sz e t:Nat} {es:List (List Value)} {j:Int} (h:bF E.n ops L d g x ix=some (.slice A n' c,.int .i64 j)) (hR:il C (rd A n sz es).holds)
 (ht:tE E.P t=some (e,sz)) (hz:0<sz) (hj:j=(k:Int)) (hk:k<n') (hn:n'≤n):SE E ops ⟨some d,.indexAddr t x ix,ty,ps,af,g⟩ D L C (.pointer (lL A (k*sz))) d:=IA k h (N5 hR hn) ht hz hj hk
end
theorem St.tie {S:BS} {w0 w:World} {C:List aq} {A:aq} {L L':List aq} (h:St S w0 (A::bw L::C) w) (e:L++[A]=L'):St S w0 (bw L'::C) w:=by
 subst e
 have B:St S w0 (bw L::A::C) w:=h.perm (List.Perm.swap _ _ _)
 have D:St S w0 (L++(A::C)) w:=B.ib
 have E:St S w0 ((L++[A])++C) w:=by simpa using D
 exact E.tied
theorem St.Qa {S:BS} {w0 w:World} {C:List aq} (h:St S w0 C w):St S w0 (bw []::C) w:=St.tied (C1:=[]) h
section
variable {E:eY} {Q:cU} {D:List Deferred} {L:List (Nat×Value)} {C:List aq}
theorem oy {c:Code} (h:WJ E c Q D L (bw []::C)):WJ E c Q D L C:=fun a w hf hs=>h a w hf hs.Qa
theorem x8 {ops:Array Oper} {rest:List Oper} (h:RJ E ops Q rest D L (bw []::C)):RJ E ops Q rest D L C:=fun a w hf hs=>h a w hf hs.Qa
theorem B_ {K:Act→World→Prop} {C1:List aq} {A:aq} {X X':List aq} (i j:Nat) (hn:decide (j::i::(List.range C.length).filter fun k=>k != i&&k != j).Nodup=true) (hC:kj C (j::i::(List.range C.length).filter fun k=>k != i&&k != j)=A::bw X::C1) (e:X++[A]=X')
 (h:KJ E K D L (bw X'::C1)):KJ E K D L C:=fun a w hf hs=>h a w hf ((St.kj _ hn hC hs).tie e)
theorem Pf {ops:Array Oper} {rest:List Oper} {C1:List aq} {A:aq} {X X':List aq} (i j:Nat) (hn:decide (j::i::(List.range C.length).filter fun k=>k != i&&k != j).Nodup=true) (hC:kj C (j::i::(List.range C.length).filter fun k=>k != i&&k != j)=A::bw X::C1) (e:X++[A]=X')
 (h:RJ E ops Q rest D L (bw X'::C1)):RJ E ops Q rest D L C:=fun a w hf hs=>h a w hf ((St.kj _ hn hC hs).tie e)
end
end
section
open Go.RowKit
abbrev dw:aa→Value:=fun s=>vA (aa.cells s)
abbrev dU:aB→Value:=fun s=>vA (aB.cells s)
abbrev TM:=List (Int×aa)
abbrev FM:=List (aB×Int)
def gD {α:Type} (m:α) (b:Nat):List Value:=[Value.map (some b)]
def ru (m:TM) (b:Nat):List aq:=[gZ iV b (bL dw m)]
def nT (m:FM) (b:Nat):List aq:=[gZ dU b (bL iV m)]
theorem wW {M A:Type} {f:M→A→List aq}: ∀ (m:M) (a:A) (w:World),(∀ X∈f m a,X.holds w)→ ∀ X∈f m a,X.holds w:=fun _ _ _ h=>h
/-- untied -/
theorem Nd {E:eY} {ops:Array Oper} {Q:cU} {rest:List Oper} {D:List Deferred} {L:List (Nat×Value)} {C X C1:List aq} (i:Nat) (hn:decide (i::(List.range C.length).filter fun k=>k != i).Nodup=true) (hC:kj C (i::(List.range C.length).filter fun k=>k != i)=bw X::C1)
 (h:RJ E ops Q rest D L (X++C1)):RJ E ops Q rest D L C:=fun a w hf hs=>h a w hf (St.ib (St.kj _ hn hC hs))
end
section
def cE (ln:ck) (rd:eB) (e:List Int) (tms:List TM):bO:=⟨rd.Start,rd.fZ,e,tms,ln.cW,ln.eV,(rd.ag.n:Int)⟩
def O2 (o:Int×aa):List Value:=[.int .i64 o.1,.agg (aa.cells o.2).toArray]
structure HL (w:bO):Prop where
 n:w.n≤6
 times:w.vm.length=w.n
 now:0≤w.Start∧w.Start≤w.fZ∧w.fZ≤86400000
 least: ∀ x∈w.pT,1≤x∧x≤500000000
 Gr: ∀ t∈w.vm,∀ p∈t,(0≤p.1∧p.1≤10)∧0≤p.2.Lo∧p.2.Lo≤p.2.Hi∧p.2.Hi≤86400000
theorem HL.opt {w:bO} (h:HL w) {b:Nat} {o:Int×aa} (ho:o∈iq w b):(-1≤o.1∧o.1≤10)∧0≤o.2.Lo∧o.2.Lo≤o.2.Hi∧o.2.Hi≤86400000:=by
 unfold iq tR at ho
 rcases List.mem_cons.1 ho with rfl|ho
 ·have:=h.now; simp only; omega
 ·cases ht:w.vm[b]? with
  |none=>simp [ht] at ho
  |some t=>
   rw [ht] at ho
   have:=h.Gr t (aR ht) o ho
   omega
theorem HL.bR {w:bO} (h:HL w) (b:Nat):0≤bR w b∧bR w b≤500000000:=by
 unfold Go.Proofs.YtadjgjnicdcjbaaGreatDoor.bR
 cases ht:w.pT[b]? with
 |none=>simp
 |some x=>have:=h.least x (aR ht); simp only [Option.getD_some]; omega
theorem uv (s:Int):(0≤(fc s).right∧0≤(fc s).eL)∧(fc s).right+(fc s).eL=1:=by unfold fc; split<;>simp
theorem LD {w:bO} (h:HL w): ∀ (b:Nat) p,p∈fwd w b→(0≤p.2∧p.2≤86400000)∧(0≤p.1.right∧0≤p.1.eL)∧p.1.right+p.1.eL=(b:Int):=by
 intro b
 induction b with
 |zero=>
  intro p hp
  simp only [fwd,bS] at hp
  subst hp
  have:=h.now; simp only; omega
 |succ b ih=>
  intro q hq
  obtain ⟨p,hp,o,ho,e⟩:=fG.1 hq
  have A:=ih p hp
  have B:=h.opt ho
  have C:=h.bR b
  have D:=h.now
  have E:=uv o.1
  unfold kH at e
  split at e
  ·simp only [Option.some.injEq] at e
   subst e
   simp only [di]
   omega
  ·cases e
theorem RH {w:bO} (h:HL w): ∀ (k:Nat) p,p∈bwd w k→(-(500000000*(k:Int))≤p.2∧p.2≤86400000)∧(0≤p.1.right∧0≤p.1.eL)∧p.1.right+p.1.eL≤(k:Int):=by
 intro k
 induction k with
 |zero=>
  intro p hp
  simp only [bwd,bS] at hp
  subst hp
  have:=h.now; simp only; omega
 |succ k ih=>
  intro q hq
  simp only [bwd,d_,List.mem_flatMap,List.mem_filterMap] at hq
  rcases hq with rfl|⟨p,hp,o,ho,e⟩
  ·have:=h.now; simp only; omega
  ·have A:=ih p hp
   have B:=h.opt ho
   have C:=h.bR (w.n-(k+1))
   have D:=h.now
   have E:=uv o.1
   unfold nV at e
   split at e
   ·simp only [Option.some.injEq] at e
    subst e
    simp only [di]
    omega
   ·cases e
theorem Lt {w:bO} (h:HL w) {b:Nat} {p:aB×Int} (hp:p∈back w b):(-3000000000≤p.2∧p.2≤86400000)∧(0≤p.1.right∧0≤p.1.eL)∧p.1.right+p.1.eL≤6:=by
 have:=RH h _ _ hp
 have:=h.n
 omega
theorem xp {w:bO} {b:Nat} {t:TM} (ht:w.vm[b]? =some t) {o:Int×aa}:o∈iq w b↔o=(-1,⟨w.Start,w.fZ⟩)∨o∈t:=by
 unfold iq tR; rw [ht]; simp
theorem lR {K β:Type} [DecidableEq K] {l:List (K×β)} {x:K} {y:β} (hn:(l.map (·.1)).Nodup) (hm:(x,y)∈l) {o:K×β} (h:o∈l):o∈cq l x∨o=(x,y):=by
 by_cases e:o.1=x
 ·right
  obtain ⟨k,v⟩:=o
  simp only at e
  subst e
  have B:=(jX hn).1 h
  have A:=(jX hn).1 hm
  rw [B] at A
  cases A; rfl
 ·exact .inl (j7.2 ⟨h,e⟩)
theorem HS {K β:Type} [DecidableEq K] {t l ys:List (K×β)} {x:K} {y:β} (hn:(l.map (·.1)).Nodup) (hm:(x,y)∈l) (h: ∀ o∈t,o∈l∨o∈ys): ∀ o∈t,o∈cq l x∨o∈ys++[(x,y)]:=fun o ho=>by
 rcases h o ho with h|h
 ·rcases lR hn hm h with h|h
  ·exact .inl h
  ·exact .inr (by simp [h])
 ·exact .inr (by simp [h])
theorem mC {K β:Type} [DecidableEq K] {t l:List (K×β)} {x:K} (h: ∀ o∈l,o∈t): ∀ o∈cq l x,o∈t:=fun o ho=>h o (j7.1 ho).1
theorem IH {w:bO} {m left:List (aB×Int)} (h: ∀ p∈m,p∈left∨kq w p.1=false) (h0:left=[]):ji w m=false:=by
 unfold ji
 rw [List.any_eq_false]
 intro p hp
 rcases h p hp with q|q
 ·rw [h0] at q; cases q
 ·simp [q]
theorem Ng {w:bO} {m:List (aB×Int)} {p:aB×Int} (hp:p∈m) (h:kq w p.1=true):ji w m=true:=List.any_eq_true.2 ⟨p,hp,h⟩
theorem Jl {w:bO} {m left:List (aB×Int)} {t:aB} {v:Int} (hn:(left.map (·.1)).Nodup) (hm:(t,v)∈left) (h: ∀ p∈m,p∈left∨kq w p.1=false) (hf:kq w t=false): ∀ p∈m,p∈cq left t∨kq w p.1=false:=fun p hp=>by
 rcases h p hp with q|q
 ·rcases lR hn hm q with q|q
  ·exact .inl q
  ·right; rw [q]; exact hf
 ·exact .inr q
/-- what the maps of a watch are -/
structure xL (w:bO) (fs:List (List (aB×Int))):Prop where
 len:fs.length=w.n+1
 min: ∀ (b:Nat) m,fs[b]? =some m→sS m (fwd w b)
 keys: ∀ (b:Nat) m,fs[b]? =some m→(m.map (·.1)).Nodup
structure uI (w:bO) (bs:List (List (aB×Int))):Prop where
 len:bs.length=w.n+1
 max: ∀ (b:Nat) m,bs[b]? =some m→vn m (back w b)
 keys: ∀ (b:Nat) m,bs[b]? =some m→(m.map (·.1)).Nodup
theorem xL.mem {w:bO} {fs:List (List (aB×Int))} (h:xL w fs) {b:Nat} {m:List (aB×Int)} (hm:fs[b]? =some m) {p:aB×Int} (hp:p∈m):p∈fwd w b:=(h.min b m hm).1 _ _ ((fm (h.keys b m hm)).1 hp)
theorem uI.mem {w:bO} {fs:List (List (aB×Int))} (h:uI w fs) {b:Nat} {m:List (aB×Int)} (hm:fs[b]? =some m) {p:aB×Int} (hp:p∈m):p∈back w b:=(h.max b m hm).1 _ _ ((fm (h.keys b m hm)).1 hp)
theorem Hp {w:bO} {b:Nat} {t l ys:List (Int×aa)} (ht:w.vm[b]? =some t) (h: ∀ o∈t,o∈l∨o∈ys) (h0:l=[]) (hs:(-1,(⟨w.Start,w.fZ⟩:aa))∈ys): ∀ o∈iq w b,o∈ys:=fun o ho=>by
 rcases (xp ht).1 ho with rfl|ho
 ·exact hs
 ·rcases h o ho with q|q
  ·rw [h0] at q; cases q
  ·exact q
end
section
/-- by these options all is yielded -/
def lu (w:bO) (b:Nat) (mf mb:List (aB×Int)) (os ys:List (Int×aa)):Prop:= ∀ o∈os,∀ p∈mf,∀ u∈mb,∀ q,mu w b p u o=some q→q∈ys
def ni (w:bO) (b:Nat) (mf mb:List (aB×Int)) (o:Int×aa) (left:List (aB×Int)) (ys:List (Int×aa)):Prop:= ∀ p∈mf,p∈left∨ ∀ u∈mb,∀ q,mu w b p u o=some q→q∈ys
def ng (w:bO) (b:Nat) (mb:List (aB×Int)) (o:Int×aa) (p:aB×Int) (left:List (aB×Int)) (ys:List (Int×aa)):Prop:= ∀ u∈mb,u∈left∨ ∀ q,mu w b p u o=some q→q∈ys
variable {w:bO} {b:Nat} {mf mb left:List (aB×Int)} {o x:Int×aa} {os ys:List (Int×aa)} {p u:aB×Int}
theorem lu.nil:lu w b mf mb [] ys:=fun o ho=>by cases ho
theorem lu.app (h:lu w b mf mb os ys):lu w b mf mb os (ys++[x]):=fun o ho p hp u hu q e=>List.mem_append_left _ (h o ho p hp u hu q e)
theorem ni.app (h:ni w b mf mb o left ys):ni w b mf mb o left (ys++[x]):=fun p hp=>(h p hp).imp id fun h u hu q e=>List.mem_append_left _ (h u hu q e)
theorem ni.start:ni w b mf mb o mf ys:=fun p hp=> .inl hp
theorem ng.start:ng w b mb o p mb ys:=fun p hp=> .inl hp
theorem ng.skip {t:aB} {v:Int} (hn:(left.map (·.1)).Nodup) (hm:(t,v)∈left) (h:ng w b mb o p left ys) (he:mu w b p (t,v) o=none):ng w b mb o p (cq left t) ys:=fun u hu=>by
 rcases h u hu with q|q
 ·rcases lR hn hm q with q|q
  ·exact .inl q
  ·right; intro z hz; rw [q,he] at hz; cases hz
 ·exact .inr q
theorem ng.U9 {t:aB} {v:Int} (hn:(left.map (·.1)).Nodup) (hm:(t,v)∈left) (h:ng w b mb o p left ys) (he:mu w b p (t,v) o=some x):ng w b mb o p (cq left t) (ys++[x]):=fun u hu=>by
 rcases h u hu with q|q
 ·rcases lR hn hm q with q|q
  ·exact .inl q
  ·right; intro z hz; rw [q,he] at hz; cases hz; simp
 ·right; intro z hz; exact List.mem_append_left _ (q z hz)
theorem ni.next {t:aB} {v:Int} {l2:List (aB×Int)} (hn:(left.map (·.1)).Nodup) (hm:(t,v)∈left) (h:ni w b mf mb o left ys) (hq:ng w b mb o (t,v) l2 ys) (h0:l2=[]):ni w b mf mb o (cq left t) ys:=fun p hp=>by
 rcases h p hp with q|q
 ·rcases lR hn hm q with q|q
  ·exact .inl q
  ·right; intro u hu z hz; subst q
   rcases hq u hu with q|q
   ·rw [h0] at q; cases q
   ·exact q z hz
 ·exact .inr q
theorem lu.next (h:lu w b mf mb os ys) (hp:ni w b mf mb o left ys) (h0:left=[]):lu w b mf mb (os++[o]) ys:=fun o' ho p hp' u hu q e=>by
 rcases List.mem_append.1 ho with ho|ho
 ·exact h o' ho p hp' u hu q e
 ·simp only [bS] at ho; subst ho
  rcases hp p hp' with z|z
  ·rw [h0] at z; cases z
  ·exact z u hu q e
theorem lu.fin (h:lu w b mf mb os ys) (ho: ∀ o∈iq w b,o∈os): ∀ q∈pU w b mf mb,q∈ys:=fun q hq=>by
 obtain ⟨o,A,p,B,u,C,e⟩:=g_.1 hq
 exact h o (ho o A) p B u C q e
theorem Hr (h:max (p.2+bR w b) o.2.Lo≤min u.2 o.2.Hi) (h2:kq w (di (di p.1 u.1) (fc o.1))=true):mu w b p u o=some (o.1,⟨max (p.2+bR w b) o.2.Lo,min u.2 o.2.Hi⟩):=by
 unfold mu jr xG; rw [if_pos ⟨h,h2⟩]
theorem I5 (h: ¬ max (p.2+bR w b) o.2.Lo≤min u.2 o.2.Hi):mu w b p u o=none:=by
 unfold mu jr; rw [if_neg (fun q=>h q.1)]
theorem Hm (h2:kq w (di (di p.1 u.1) (fc o.1))=false):mu w b p u o=none:=by
 unfold mu xG; rw [if_neg (fun q=>by rw [h2] at q; exact absurd q.2 dc)]
theorem nM {v:Int} (h:w.pT[b]? =some v):bR w b=v:=by unfold bR; rw [h]; rfl
theorem CJ {t q:aB} {v z y:Int} (hy:w.pT[b]? =some y) (h:max (v+y) o.2.Lo≤min z o.2.Hi) (h2:kq w (di (di t q) (fc o.1))=true):mu w b (t,v) (q,z) o=some (o.1,⟨max (v+y) o.2.Lo,min z o.2.Hi⟩):=by
 have e:=nM hy
 subst e
 exact Hr h h2
theorem GZ {t q:aB} {v z y:Int} (hy:w.pT[b]? =some y) (h: ¬ max (v+y) o.2.Lo≤min z o.2.Hi):mu w b (t,v) (q,z) o=none:=by
 have e:=nM hy
 subst e
 exact I5 h
theorem oo {m:List (aB×Int)} {k:aB} {y:Int} (h:(m.map (·.1)).Nodup):((dL m k y).map (·.1)).Nodup:=by
 unfold dL
 by_cases hx:(m.lookup k).isSome
 ·rw [if_pos hx,List.map_map]
  have e:m.map ((fun p=>p.1)∘fun p=>if p.1=k then (k,y) else p)=m.map (·.1):=by
   apply List.map_congr_left
   intro p _
   simp only [Function.comp]
   split
   ·rename_i e; exact e.symm
   ·rfl
  rw [e]; exact h
 ·rw [if_neg hx,List.map_append,List.nodup_append]
  refine ⟨h,sm,?_⟩
  intro a ha c hc
  simp only [List.map_cons,List.map_nil,bS] at hc
  rw [hc]
  obtain ⟨p,hp,rfl⟩:=List.mem_map.1 ha
  have hn:m.lookup k=none:=by cases h0:m.lookup k with
   |none=>rfl
   |some v=>exact absurd (by rw [h0]; rfl) hx
  exact g4.1 hn p hp
theorem CC {m:List (aB×Int)} {q:aB×Int} (h:(m.map (·.1)).Nodup):((o9 m q).map (·.1)).Nodup:=by
 unfold o9; split
 ·exact oo h
 ·split
  ·exact oo h
  ·exact h
theorem CY {m:List (aB×Int)} {q:aB×Int} (h:(m.map (·.1)).Nodup):((oS m q).map (·.1)).Nodup:=by
 unfold oS; split
 ·exact oo h
 ·split
  ·exact oo h
  ·exact h
/-- a map of the first times, on its way -/
structure wo (w:bO) (b:Nat) (m:List (aB×Int)):Prop where
 snd:vk m (fwd w (b+1))
 keys:(m.map (·.1)).Nodup
structure vC (w:bO) (b:Nat) (m:List (aB×Int)):Prop where
 snd:vk m (back w b)
 keys:(m.map (·.1)).Nodup
 zero: ∃ v,m.lookup ⟨0,0⟩=some v∧w.fZ≤v
theorem KY (h:max (p.2+bR w b) o.2.Lo≤min o.2.Hi w.fZ):kH w b p o=some (di p.1 (fc o.1),max (p.2+bR w b) o.2.Lo):=by unfold kH; rw [if_pos h]
theorem Nc (h: ¬ max (p.2+bR w b) o.2.Lo≤min o.2.Hi w.fZ):kH w b p o=none:=by unfold kH; rw [if_neg h]
theorem I8 (h:o.2.Lo≤min p.2 o.2.Hi):nV w b p o=some (di p.1 (fc o.1),min p.2 o.2.Hi-bR w b):=by unfold nV; rw [if_pos h]
theorem Np (h: ¬ o.2.Lo≤min p.2 o.2.Hi):nV w b p o=none:=by unfold nV; rw [if_neg h]
theorem wo.start:wo w b []:=⟨fun t v h=>by simp at h,List.nodup_nil⟩
theorem wo.add {m:List (aB×Int)} {q:aB×Int} (h:wo w b m) (hp:p∈fwd w b) (ho:o∈iq w b) (he:kH w b p o=some q):wo w b (o9 m q):=⟨HY h.snd (fG.2 ⟨p,hp,o,ho,he⟩),CC h.keys⟩
theorem vC.start (hb:b<w.n):vC w b [(⟨0,0⟩,w.fZ)]:=⟨fun t v h=>by
 obtain ⟨rfl,rfl⟩:=oU.1 h
 exact (o0 hb).2 (.inl U),sm,w.fZ,oU.2 ⟨U,U⟩,Int.le_refl _⟩
theorem vC.add {m:List (aB×Int)} {q:aB×Int} (hb:b<w.n) (h:vC w b m) (hp:p∈back w (b+1)) (ho:o∈iq w b) (he:nV w b p o=some q):vC w b (oS m q):=⟨Hj h.snd ((o0 hb).2 (.inr ⟨p,hp,o,ho,he⟩)),CY h.keys,by
 obtain ⟨v,A,C⟩:=h.zero
 obtain ⟨v',B,D⟩:=p_ (q:=q) _ _ A
 exact ⟨v',B,I⟩⟩
theorem iY.none_ {m:List (aB×Int)} (h:iY w b m p os) (he:kH w b p o=none):iY w b m p (os++[o]):=h.add (xY.refl _) fun q hq=>by rw [he] at hq; cases hq
theorem iY.IX {m:List (aB×Int)} {q:aB×Int} (h:iY w b m p os) (he:kH w b p o=some q):iY w b (o9 m q) p (os++[o]):=h.add vj fun q' hq=>by rw [he] at hq; cases hq; exact Ho
theorem iW.none_ {m:List (aB×Int)} (h:iW w b m p os) (he:nV w b p o=none):iW w b m p (os++[o]):=h.add (xI.refl _) fun q hq=>by rw [he] at hq; cases hq
theorem iW.IX {m:List (aB×Int)} {q:aB×Int} (h:iW w b m p os) (he:nV w b p o=some q):iW w b (oS m q) p (os++[o]):=h.add p_ fun q' hq=>by rw [he] at hq; cases hq; exact Ia
/-- what of a map of the beam before is used already -/
def j1 (w:bO) (b:Nat) (mb m left:List (aB×Int)):Prop:= ∀ p∈mb,p∈left∨iY w b m p (iq w b)
def jw (w:bO) (b:Nat) (mb m left:List (aB×Int)):Prop:= ∀ p∈mb,p∈left∨iW w b m p (iq w b)
theorem j1.start {m:List (aB×Int)}:j1 w b mb m mb:=fun p hp=> .inl hp
theorem jw.start {m:List (aB×Int)}:jw w b mb m mb:=fun p hp=> .inl hp
theorem j1.lower {m m':List (aB×Int)} (h:j1 w b mb m left) (hl:xY m m'):j1 w b mb m' left:=fun p hp=>(h p hp).imp id fun h=>h.lower hl
theorem jw.upper {m m':List (aB×Int)} (h:jw w b mb m left) (hl:xI m m'):jw w b mb m' left:=fun p hp=>(h p hp).imp id fun h=>h.upper hl
theorem j1.next {m:List (aB×Int)} {t:aB} {v:Int} (hn:(left.map (·.1)).Nodup) (hm:(t,v)∈left) (h:j1 w b mb m left) (hd:iY w b m (t,v) os) (ho: ∀ o∈iq w b,o∈os):j1 w b mb m (cq left t):=fun p hp=>by
 rcases h p hp with q|q
 ·rcases lR hn hm q with q|q
  ·exact .inl q
  ·right; rw [q]; exact hd.sub ho
 ·exact .inr q
theorem jw.next {m:List (aB×Int)} {t:aB} {v:Int} (hn:(left.map (·.1)).Nodup) (hm:(t,v)∈left) (h:jw w b mb m left) (hd:iW w b m (t,v) os) (ho: ∀ o∈iq w b,o∈os):jw w b mb m (cq left t):=fun p hp=>by
 rcases h p hp with q|q
 ·rcases lR hn hm q with q|q
  ·exact .inl q
  ·right; rw [q]; exact hd.sub ho
 ·exact .inr q
theorem j1.fin {m:List (aB×Int)} (h:j1 w b mb m left) (h0:left=[]): ∀ p∈mb,iY w b m p (iq w b):=fun p hp=>by
 rcases h p hp with q|q
 ·rw [h0] at q; cases q
 ·exact q
theorem jw.fin {m:List (aB×Int)} (h:jw w b mb m left) (h0:left=[]): ∀ p∈mb,iW w b m p (iq w b):=fun p hp=>by
 rcases h p hp with q|q
 ·rw [h0] at q; cases q
 ·exact q
end
section
def mh (a b:aa):aa:=⟨a.Lo+b.Lo,a.Hi+b.Hi⟩
def dx:aa:=⟨0,0⟩
def ko (a:aa) (l:List aa):aa:=l.foldl mh a
def lj (z:aa):Prop:=(-1000000000≤z.Lo∧z.Lo≤1000000000)∧ -1000000000≤z.Hi∧z.Hi≤1000000000
theorem yE {a:aa} {l:List aa} {i:Nat} {z:aa} (h:l[i]? =some z):ko a (l.take (i+1))=mh (ko a (l.take i)) z:=by
 rw [List.take_add_one,h]; unfold ko; simp
theorem QN {a:aa} {l:List aa} (ha:lj a) (hl: ∀ z∈l,lj z): ∀ i:Nat,(-1000000000-1000000000*(i:Int)≤(ko a (l.take i)).Lo∧(ko a (l.take i)).Lo≤1000000000+1000000000*(i:Int))∧ -1000000000-1000000000*(i:Int)≤(ko a (l.take i)).Hi∧(ko a (l.take i)).Hi≤1000000000+1000000000*(i:Int):=by
 intro i
 induction i with
 |zero=>unfold lj at ha; simp [ko]; omega
 |succ i ih=>
  cases h:l[i]? with
  |none=>rw [List.take_add_one,h]; simp only [Option.toList_none,List.append_nil]; omega
  |some z=>
   have hz:=hl z (aR h)
   unfold lj at hz
   rw [yE h]
   simp only [mh]
   omega
theorem JB {a:aa} {l:List aa} {i:Nat} (h:l.length≤i):ko a (l.take i)=ko a l:=by rw [List.take_of_length_le h]
theorem nH {a z:aa}:vA (aa.cells (ko a [z]))=vA (aa.cells (mh a z)):=rfl
theorem C5 {a y z:aa}:vA (aa.cells (ko a [y,z]))=vA (aa.cells (mh (mh a y) z)):=rfl
/-- how long the run is from one mark, over so many stretches; by how much it falls -/
def eA (ts:List al) (f:Nat):Nat→aa
 |0=>dx
 |k+1=>match ts[f+k]? with
  |some x=>mh (eA ts f k) x.kD
  |none=>eA ts f k
def f_ (ts:List al) (f:Nat):Nat→aa
 |0=>dx
 |k+1=>match ts[f+k]? with
  |some x=>mh (f_ ts f k) x.lP
  |none=>f_ ts f k
theorem pg {ts:List al} {f k:Nat} {x:al} (h:ts[f+k]? =some x):eA ts f (k+1)=mh (eA ts f k) x.kD:=by simp [eA,h]
theorem pq {ts:List al} {f k:Nat} {x:al} (h:ts[f+k]? =some x):f_ ts f (k+1)=mh (f_ ts f k) x.lP:=by simp [f_,h]
theorem l6 {ts:List al} (ht: ∀ x∈ts,bJ x) (f:Nat): ∀ k:Nat,(0≤(eA ts f k).Lo∧(eA ts f k).Lo≤(eA ts f k).Hi)∧(eA ts f k).Hi≤30000*(k:Int):=by
 intro k
 induction k with
 |zero=>simp [eA,dx]
 |succ k ih=>
  simp only [eA]
  cases h:ts[f+k]? with
  |none=>simp only; omega
  |some x=>
   have hx:=(ht x (aR h)).2.1
   simp only [dI] at hx
   simp only [mh]
   omega
theorem FT {ts:List al} (ht: ∀ x∈ts,bJ x) (f:Nat): ∀ k:Nat,(0≤(f_ ts f k).Lo∧(f_ ts f k).Lo≤(f_ ts f k).Hi)∧(f_ ts f k).Hi≤5000*(k:Int):=by
 intro k
 induction k with
 |zero=>simp [f_,dx]
 |succ k ih=>
  simp only [f_]
  cases h:ts[f+k]? with
  |none=>simp only; omega
  |some x=>
   have hx:=(ht x (aR h)).2.2.1
   simp only [dI] at hx
   simp only [mh]
   omega
theorem qI {ts:List al} (ht: ∀ x∈ts,bJ x) {f k:Nat} (hk:k≤13):lj (eA ts f k):=by
 have:=l6 ht f k; unfold lj; omega
theorem wH {ts:List al} (ht: ∀ x∈ts,bJ x) {f k:Nat} (hk:k≤13):lj (f_ ts f k):=by
 have:=FT ht f k; unfold lj; omega
theorem uT {x:al} (h:bJ x):lj x.kD:=by have:=h.2.1; simp only [dI] at this; unfold lj; omega
theorem ud {x:al} (h:bJ x):lj x.lP:=by have:=h.2.2.1; simp only [dI] at this; unfold lj; omega
theorem zq {ts:List al} (h: ¬ (if cT ts=true then (0:Int) else 10)=0):cT ts=false∧(if cT ts=true then (0:Int) else 10)=10:=by
 cases ht:cT ts with
 |true=>rw [ht] at h; exact absurd rfl h
 |false=>exact ⟨rfl,rfl⟩
theorem EZ {ts:List al} (h:(if cT ts=true then (0:Int) else 10)=0):cT ts=true:=by
 cases ht:cT ts with
 |true=>rfl
 |false=>rw [ht] at h; exact absurd h dc
/-- what the iterator of marks yields -/
def sT (ts:List al) (f:Nat):List (List Value):=(List.range (ts.length-f+1)).map fun (k:Nat)=>[.agg (eA ts f k).cells.toArray,.agg (f_ ts f k).cells.toArray]
theorem t_ {ts:List al} {f:Nat}:(sT ts f).length=ts.length-f+1:=by simp [sT]
theorem yG {ts:List al} {f k:Nat} (h:k≤ts.length-f):(sT ts f)[k]? =some [.agg (eA ts f k).cells.toArray,.agg (f_ ts f k).cells.toArray]:=by
 simp [sT,List.getElem?_range (show k<ts.length-f+1 by omega)]
theorem GG {ts:List al} {f k:Nat} {x:List Value} (h:(sT ts f)[k]? =some x):k≤ts.length-f∧x=[.agg (eA ts f k).cells.toArray,.agg (f_ ts f k).cells.toArray]:=by
 have hi:k<ts.length-f+1:=by
  have:=(List.getElem?_eq_some_iff.1 h).1
  simpa [sT] using this
 rw [yG I] at h
 exact ⟨I,(Option.some.inj h).symm⟩
theorem D3 {ts:List al} {f:Nat}: ∀ x∈sT ts f,x.length=2:=fun x hx=>by
 obtain ⟨k,_,rfl⟩:=List.mem_map.1 hx; rfl
end
section
def fj (ts:List al) (s:cD):Prop:=(0≤s.aY∧s.aY<(ts.length:Int))∧ ∃ x,ts[s.aY.toNat]? =some x∧dI s.mG 0 (x.kD.Lo-1)
noncomputable instance (ts:List al) (s:cD):Decidable (fj ts s):=Classical.propDecidable _
theorem Dg {ts:List al} {s:cD} {x:al} (h:0≤s.aY∧s.aY<(ts.length:Int)) (hx:ts[s.aY.toNat]? =some x):fj ts s↔dI s.mG 0 (x.kD.Lo-1):=
 ⟨fun A=>by obtain ⟨y,hy,B⟩:=A.2; rw [hx] at hy; cases hy; exact B,fun A=>⟨h,x,hx,A⟩⟩
theorem Cs {ts:List al} {s:cD} (h: ¬ (0≤s.aY∧s.aY<(ts.length:Int))): ¬ fj ts s:=fun A=>h A.1
theorem z4 {ts:List al} {s:cD} (ht: ∀ x∈ts,bJ x) (h:fj ts s):(0≤s.mG.Lo∧s.mG.Lo≤s.mG.Hi)∧s.mG.Hi≤30000:=by
 obtain ⟨x,hx,A⟩:=h.2
 have:=(ht x (aR hx)).2.1
 simp only [dI] at A this
 omega
theorem Ej {ts:List al} {a:cD}:vB (decide (∀ s∈[a],fj ts s))=vB (decide (fj ts a)):=congrArg _ (decide_eq_decide.2 sm)
theorem Ev {ts:List al} {a b:cD}:vB (decide (∀ s∈[a,b],fj ts s))=vB (decide (fj ts a∧fj ts b)):=congrArg _ (decide_eq_decide.2 sm)
def oe (z:aa):aa:=⟨-z.Hi,-z.Lo⟩
def My (ts:List al) (s:cD):aa:=mh (eA ts 0 s.aY.toNat) s.mG
noncomputable def Gq (ts:List al) (s:cD):Int:=if cT ts=true then (if fj ts s then 0 else 12) else 10
noncomputable def QV (ts:List al) (s:cD):aa:=if Gq ts s=0 then My ts s else dx
theorem KE {ts:List al} {s:cD} (h:cT ts=false):Gq ts s=10∧QV ts s=dx:=by
 have e:Gq ts s=10:=by unfold Gq; rw [h]; rfl
 exact ⟨e,by unfold QV; rw [e]; rfl⟩
theorem Mh {ts:List al} {s:cD} (h:cT ts=true) (h2: ¬ fj ts s):Gq ts s=12∧QV ts s=dx:=by
 have e:Gq ts s=12:=by unfold Gq; rw [if_pos h,if_neg h2]
 exact ⟨e,by unfold QV; rw [e]; rfl⟩
theorem xe {ts:List al} {s:cD} (h:cT ts=true) (h2:fj ts s):Gq ts s=0∧QV ts s=My ts s:=by
 have e:Gq ts s=0:=by unfold Gq; rw [if_pos h,if_pos h2]
 exact ⟨e,if_pos e⟩
theorem FW {ts:List al} {s:cD} (h:cT ts=true):Gq ts s=0↔fj ts s:=by
 unfold Gq; rw [if_pos h]; split<;>simp [*]
def wV (ts:List al) (a b:cD):aa:=eA ts (min a.aY b.aY).toNat (max a.aY b.aY-min a.aY b.aY).toNat
def jP (ts:List al) (a b:cD):aa:=mh (mh (if b.aY<a.aY then oe (wV ts a b) else wV ts a b) b.mG) (oe a.mG)
noncomputable def lJ (ts:List al) (a b:cD):Int:=if cT ts=true then (if fj ts a∧fj ts b then 0 else 12) else 10
noncomputable def kK (ts:List al) (a b:cD):aa:=if lJ ts a b=0 then jP ts a b else dx
theorem uC {ts:List al} {a b:cD} (h:cT ts=false):lJ ts a b=10∧kK ts a b=dx:=by
 have e:lJ ts a b=10:=by unfold lJ; rw [h]; rfl
 exact ⟨e,by unfold kK; rw [e]; rfl⟩
theorem oW {ts:List al} {a b:cD} (h:cT ts=true) (h2: ¬ (fj ts a∧fj ts b)):lJ ts a b=12∧kK ts a b=dx:=by
 have e:lJ ts a b=12:=by unfold lJ; rw [if_pos h,if_neg h2]
 exact ⟨e,by unfold kK; rw [e]; rfl⟩
theorem k7 {ts:List al} {a b:cD} (h:cT ts=true) (h2:fj ts a∧fj ts b):lJ ts a b=0∧kK ts a b=jP ts a b:=by
 have e:lJ ts a b=0:=by unfold lJ; rw [if_pos h,if_pos h2]
 exact ⟨e,if_pos e⟩
theorem zY {z:aa} (h:lj z):lj (oe z):=by unfold lj oe at *; simp only; omega
theorem qd {ts:List al} {s:cD} (ht: ∀ x∈ts,bJ x) (h:fj ts s):lj s.mG:=by have:=z4 ht h; unfold lj; omega
theorem PZ {ts:List al} {a b:cD} (ht: ∀ x∈ts,bJ x) (hl:ts.length≤12) (ha:fj ts a) (hb:fj ts b):(0≤(wV ts a b).Lo∧(wV ts a b).Lo≤(wV ts a b).Hi)∧(wV ts a b).Hi≤360000:=by
 have h:=l6 ht (min a.aY b.aY).toNat (max a.aY b.aY-min a.aY b.aY).toNat
 have A:=ha.1
 have B:=hb.1
 unfold wV
 omega
theorem xP {ts:List al} {a b:cD} (ht: ∀ x∈ts,bJ x) (hl:ts.length≤12) (ha:fj ts a) (hb:fj ts b):(-400000≤(jP ts a b).Lo∧(jP ts a b).Lo≤(jP ts a b).Hi)∧(jP ts a b).Hi≤400000:=by
 have h:=PZ ht hl ha hb
 have A:=z4 ht ha
 have B:=z4 ht hb
 unfold jP mh oe
 split<;>simp only <;>omega
theorem RL {ts:List al} {s:cD} (ht: ∀ x∈ts,bJ x) (hl:ts.length≤12) (h:fj ts s):(0≤(My ts s).Lo∧(My ts s).Lo≤(My ts s).Hi)∧(My ts s).Hi≤400000:=by
 have A:=l6 ht 0 s.aY.toNat
 have B:=z4 ht h
 have C:=h.1
 unfold My mh
 simp only; omega
theorem GS {α:Type} {p:Nat→α→Bool} {l:List α}:((l.zipIdx.filter fun q=>p q.2 q.1).map fun q=>(q.2:Int))=[]↔ ∀ (i:Nat) x,l[i]? =some x→p i x=false:=by
 rw [List.map_eq_nil_iff,List.filter_eq_nil_iff]
 constructor
 ·intro h i x hx
  have:=h (x,i) (by rw [List.mem_zipIdx_iff_getElem?]; simpa using hx)
  simpa using this
 ·rintro h ⟨x,i⟩ hm
  rw [List.mem_zipIdx_iff_getElem?] at hm
  simpa using h i x (by simpa using hm)
/-- the places of a list at which something is so -/
def r8 {α:Type} (p:Nat→α→Bool) (l:List α) (n:Nat):List Int:=(((l.take n).zipIdx.filter fun q=>p q.2 q.1).map fun q=>(q.2:Int))
theorem Iy {α:Type} {p:Nat→α→Bool} {l:List α} {i:Nat} {x:α} (hx:l[i]? =some x) (h:p i x=true):r8 p l (i+1)=r8 p l i++[(i:Int)]:=by
 have hi:=(List.getElem?_eq_some_iff.1 hx).1
 unfold r8
 rw [List.take_add_one,hx,List.zipIdx_append,List.filter_append,List.map_append]
 simp [Nat.min_eq_left (Nat.le_of_lt hi),h]
theorem NB {α:Type} {p:Nat→α→Bool} {l:List α} {i:Nat} {x:α} (hx:l[i]? =some x) (h:p i x=false):r8 p l (i+1)=r8 p l i:=by
 have hi:=(List.getElem?_eq_some_iff.1 hx).1
 unfold r8
 rw [List.take_add_one,hx,List.zipIdx_append,List.filter_append,List.map_append]
 simp [Nat.min_eq_left (Nat.le_of_lt hi),h]
theorem BR {α:Type} {p:Nat→α→Bool} {l:List α} {n:Nat}:(r8 p l n).length≤n:=by
 unfold r8
 rw [List.length_map]
 refine Nat.le_trans (List.length_filter_le _ _) ?_
 rw [List.length_zipIdx,List.length_take]; omega
def II {α:Type} (p:Nat→α→Bool) (l:List α):List Int:=r8 p l l.length
theorem NH {α:Type} {p:Nat→α→Bool} {l:List α} {n:Nat} (h:n=l.length):r8 p l n=II p l:=by rw [h]; rfl
theorem Ht {α:Type} {p:Nat→α→Bool} {l:List α}:(II p l).length=0↔ ∀ (i:Nat) x,l[i]? =some x→p i x=false:=by
 unfold II r8
 rw [List.length_eq_zero_iff,List.take_length]
 exact GS
end
section
theorem zu (p:Int→Bool) (n:Nat): ∃ r:Int,r=((List.range n).findIdx fun (k:Nat)=>p (k:Int):Nat):=⟨_,rfl⟩
noncomputable def fg (p:Int→Bool) (n:Nat):Int:=Classical.choose (zu p n)
theorem sw (p:Int→Bool) (n:Nat):fg p n=((List.range n).findIdx fun (k:Nat)=>p (k:Int):Nat):=Classical.choose_spec (zu p n)
theorem ij {p:Int→Bool} {n:Nat}:0≤fg p n∧fg p n≤n:=by
 rw [sw]
 have:=List.findIdx_le_length (xs:=List.range n) (p:=fun (k:Nat)=>p (k:Int))
 rw [List.length_range] at this
 omega
theorem uf {p:Int→Bool} {n:Nat} {x:Int} (h0:0≤x) (h:x<fg p n):p x=false:=by
 have hb:=ij (p:=p) (n:=n)
 rw [sw] at h
 have B:x.toNat<(List.range n).findIdx fun (k:Nat)=>p (k:Int):=by omega
 have A:=List.not_of_lt_findIdx B
 simp only [List.getElem_range] at A
 rw [show (x.toNat:Int)=x by omega] at A
 simpa using A
theorem zb {p:Int→Bool} {n:Nat} (h:fg p n<n):p (fg p n)=true:=by
 rw [sw] at h ⊢
 have A:((List.range n).findIdx fun (k:Nat)=>p (k:Int))<(List.range n).length:=by rw [List.length_range]; omega
 have:=List.findIdx_getElem (w:=A)
 simpa using this
theorem zw {p:Int→Bool} {n:Nat} {r:Int} (h0:0≤r) (hn:r<n) (hr:p r=true) (hb: ∀ x,0≤x→x<r→p x=false):fg p n=r:=by
 have A:=ij (p:=p) (n:=n)
 rcases Int.lt_trichotomy (fg p n) r with h|h|h
 ·have:=hb _ A.1 h
  have e:=zb (p:=p) (n:=n) I
  rw [e] at this; cases this
 ·exact h
 ·have:=uf h0 h
  rw [hr] at this; cases this
end
section
def pa (n by_:Int):Int:=(n+by_-1)/by_
/-- by how much a sync may be off -/
def sf (c:ar) (at_:Int) (x:cw):Int:=pa (c.dg*max (at_-x.At) (x.At-at_)) 1000000
def lU (c:ar) (at_:Int) (s:aa) (x:cw):aa:=⟨max s.Lo (x.eo.Lo-sf c at_ x),min s.Hi (x.eo.Hi+sf c at_ x)⟩
def gh (c:ar) (at_:Int) (k:Nat):aa:=(c.bo.take k).foldl (lU c at_) ⟨-1099511627776,1099511627776⟩
def ik (c:ar) (at_:Int):aa:=c.bo.foldl (lU c at_) ⟨-1099511627776,1099511627776⟩
theorem jS {c:ar} {at_:Int} {k:Nat} {x:cw} (h:c.bo[k]? =some x):gh c at_ (k+1)=lU c at_ (gh c at_ k) x:=by
 unfold gh; rw [List.take_add_one,h,List.foldl_append]; rfl
theorem nK {c:ar} {at_:Int} {k:Nat} (h:c.bo.length≤k):gh c at_ k=ik c at_:=by unfold gh ik; rw [List.take_of_length_le h]
def ke (c:ar) (i:Nat):Int:=if i=0 then-1 else ((c.bo[i-1]?).map (·.At)).getD 0
def ff (c:ar) (i:Nat) (x:cw):Prop:=(ke c i<x.At∧x.At≤86400000)∧ -10000≤x.eo.Lo∧x.eo.Lo≤x.eo.Hi∧x.eo.Hi≤10000
def ny (c:ar) (x o:cw):Prop:=x.eo.Lo-o.eo.Hi≤pa (c.dg*(x.At-o.At)) 1000000∧o.eo.Lo-x.eo.Hi≤pa (c.dg*(x.At-o.At)) 1000000
structure eT (c:ar):Prop where
 rH:0≤c.dg∧c.dg≤1000
 len:1≤c.bo.length∧c.bo.length≤5
 sync: ∀ (i:Nat) x,c.bo[i]? =some x→ff c i x
 pair: ∀ (i k:Nat) x o,c.bo[i]? =some x→k<i→c.bo[k]? =some o→ny c x o
noncomputable instance (c:ar):Decidable (eT c):=Classical.propDecidable _
theorem gr {c:ar} {i:Nat} (h:i=0):ke c i= -1:=if_pos h
theorem xV {c:ar} {i:Nat} {y:cw} (h:0<i) (hy:c.bo[i-1]? =some y):ke c i=y.At:=by unfold ke; rw [if_neg I,hy]; rfl
theorem n9 {c:ar} {i:Nat} {y:cw} (hy:c.bo[i]? =some y):ke c (i+1)=y.At:=by unfold ke; rw [if_neg I,Nat.add_sub_cancel,hy]; rfl
/-- the times of the syncs -/
theorem MP {c:ar} (h: ∀ (i:Nat) x,c.bo[i]? =some x→ff c i x): ∀ (i:Nat) x,c.bo[i]? =some x→0≤x.At∧ ∀ (k:Nat) o,k<i→c.bo[k]? =some o→o.At<x.At:=by
 intro i
 induction i with
 |zero=>
  intro x hx
  have:=(h 0 x hx).1.1
  rw [gr rfl] at this
  exact ⟨I,fun k o hk=>by omega⟩
 |succ i ih=>
  intro x hx
  have hi:=(List.getElem?_eq_some_iff.1 hx).1
  have hy:c.bo[i]? =some (c.bo[i]'I):=eC I
  have B:=ih _ hy
  have A:=(h (i+1) x hx).1.1
  rw [n9 hy] at A
  refine ⟨I,fun k o hk ho=>?_⟩
  by_cases e:k=i
  ·subst e; rw [hy] at ho; cases ho; exact A
  ·have:=B.2 k o I ho; omega
theorem eT.uH {c:ar} (h:eT c) {i:Nat} {x:cw} (hx:c.bo[i]? =some x):(0≤x.At∧x.At≤86400000)∧ -10000≤x.eo.Lo∧x.eo.Lo≤x.eo.Hi∧x.eo.Hi≤10000:=by
 have A:=h.sync i x hx
 exact ⟨⟨(MP h.sync i x hx).1,A.1.2⟩,A.2⟩
theorem Fv {d a b:Int} (hd:0≤d∧d≤1000) (ha:0≤a∧a≤90000000) (hb:0≤b∧b≤90000000):0≤d*max (a-b) (b-a)∧d*max (a-b) (b-a)≤90000000000:=by
 have:=Qw (a:=d) (b:=max (a-b) (b-a)) (A:=1000) (B:=90000000) hd.1 hd.2 I I
 omega
theorem uU {c:ar} {at_:Int} {x:cw} (hd:0≤c.dg∧c.dg≤1000) (ha:0≤at_∧at_≤90000000) (hx:0≤x.At∧x.At≤86400000):0≤sf c at_ x∧sf c at_ x≤90001:=by
 have h:=Fv hd ha (show 0≤x.At∧x.At≤90000000 by omega)
 unfold sf pa; omega
theorem Bh {c:ar} {at_:Int} (h:eT c) (ha:0≤at_∧at_≤90000000): ∀ k:Nat,(-1099511627776≤(gh c at_ k).Lo∧(gh c at_ k).Lo≤10000)∧ -10000≤(gh c at_ k).Hi∧(gh c at_ k).Hi≤1099511627776:=by
 intro k
 induction k with
 |zero=>simp [gh]
 |succ k ih=>
  cases hx:c.bo[k]? with
  |none=>unfold gh at ih ⊢; rw [List.take_add_one,hx]; simpa using ih
  |some x=>
   have hb:=h.uH hx
   have ho:=uU h.rH ha hb.1
   rw [jS hx]
   unfold lU
   simp only
   omega
theorem qg {c:ar} {at_:Int} (h:eT c) (ha:0≤at_∧at_≤90000000):(-110000≤(ik c at_).Lo∧(ik c at_).Lo≤10000)∧ -10000≤(ik c at_).Hi∧(ik c at_).Hi≤110000:=by
 obtain ⟨n,hn⟩: ∃ n,c.bo.length=n+1:=⟨c.bo.length-1,by have:=h.len; omega⟩
 have hx:c.bo[n]? =some (c.bo[n]'I):=eC I
 have hb:=h.uH hx
 have ho:=uU h.rH ha hb.1
 have A:=Bh h ha n
 rw [← nK (k:=n+1) I,jS hx]
 unfold lU
 simp only
 omega
/-- as time goes on, time and what a clock may be ahead, together, never go back -/
theorem DC {c:ar} (h:eT c) {a b:Int} (ha:0≤a) (hab:a≤b) (hb:b≤90000000): ∀ k:Nat,(a+(gh c a k).Lo≤b+(gh c b k).Lo∨(gh c a k).Lo= -1099511627776)∧a+(gh c a k).Hi≤b+(gh c b k).Hi:=by
 have step: ∀ (x:cw),0≤x.At∧x.At≤86400000→ ∀ a b:Int,0≤a→a≤b→b≤90000000→sf c a x≤sf c b x+(b-a)∧sf c b x≤sf c a x+(b-a):=by
  intro x hx a b ha hab hb
  have hd:=h.rH
  have e: ∀ u v:Int,u≤v+1000000*(b-a)→pa u 1000000≤pa v 1000000+(b-a):=by intro u v C; unfold pa; omega
  have m: ∀ p q:Int,p≤q+(b-a)→c.dg*p≤c.dg*q+1000000*(b-a):=by
   intro p q A
   have D:c.dg*p≤c.dg*(q+(b-a)):=Int.mul_le_mul_of_nonneg_left A hd.1
   have E:c.dg*(q+(b-a))=c.dg*q+c.dg*(b-a):=Int.mul_add _ _ _
   have F:c.dg*(b-a)≤1000*(b-a):=Int.mul_le_mul_of_nonneg_right hd.2 I
   omega
  exact ⟨e _ _ (m _ _ I),e _ _ (m _ _ I)⟩
 intro k
 induction k with
 |zero=>simp [gh]; omega
 |succ k ih=>
  cases hx:c.bo[k]? with
  |none=>
   have e: ∀ t,gh c t (k+1)=gh c t k:=fun t=>by unfold gh; rw [List.take_add_one,hx]; simp
   rw [e,e]; exact ih
  |some x=>
   have hs:=h.uH hx
   have:=step x hs.1 a b ha hab hb
   have B:=uU (at_:=a) h.rH ⟨ha,I⟩ hs.1
   rw [jS hx,jS hx]
   unfold lU
   simp only
   omega
theorem oh {c:ar} (h:eT c) {a b:Int} (ha:0≤a) (hab:a≤b) (hb:b≤90000000):a+(ik c a).Lo≤b+(ik c b).Lo∧a+(ik c a).Hi≤b+(ik c b).Hi:=by
 have A:=DC h ha hab hb c.bo.length
 have B:=qg h (at_:=a) ⟨ha,I⟩
 rw [nK (Nat.le_refl _),nK (Nat.le_refl _)] at A
 omega
noncomputable def lW (l:a_) (i:Nat):Int:=match l.ae[i]? with
 |some b=>if i=0 then (My l.aP b.mH).Lo else (match l.ae[i-1]? with
  |some a=>(jP l.aP a.mH b.mH).Lo
  |none=>0)
 |none=>0
theorem yO {l:a_} {b:bD} (h:l.ae[0]? =some b):lW l 0=(My l.aP b.mH).Lo:=by unfold lW; rw [h]; rfl
theorem C_ {l:a_} {i:Nat} {a b:bD} (hi:0<i) (h:l.ae[i]? =some b) (ha:l.ae[i-1]? =some a):lW l i=(jP l.aP a.mH b.mH).Lo:=by unfold lW; rw [h,ha]; simp only; rw [if_neg I]
def jZ (l:a_) (b:bD):Prop:=fj l.aP b.mH∧0≤b.jK∧b.jK<(l.ak.length:Int)
def gj (l:a_):Prop:=(1≤l.g9∧l.g9≤5000)∧(1≤(l.ak.length:Int)∧(l.ak.length:Int)≤4)∧(1≤(l.ae.length:Int)∧(l.ae.length:Int)≤6)∧(0≤l.cH∧l.cH≤(l.ae.length:Int)-1)∧(0≤l.eV∧l.eV≤3)∧0≤l.cW∧l.cW≤3
structure k9 (l:a_):Prop where
 head:gj l
 clock: ∀ c∈l.ak,eT c
 vG: ∀ b∈l.ae,jZ l b
 Rc: ∀ i,i<l.ae.length→1≤lW l i
noncomputable instance (l:a_):Decidable (k9 l):=Classical.propDecidable _
noncomputable def dq (l:a_):Int:=if cT l.aP=true then (if k9 l then 0 else 50) else 10
theorem yS {l:a_} (h:cT l.aP=false):dq l=10:=by unfold dq; rw [h]; rfl
theorem qE {l:a_} (h:cT l.aP=true) (h2: ¬ k9 l):dq l=50:=by unfold dq; rw [if_pos h,if_neg h2]
theorem xW {l:a_} (h:cT l.aP=true) (h2:k9 l):dq l=0:=by unfold dq; rw [if_pos h,if_pos h2]
theorem gF {l:a_} (h:dq l=0):cT l.aP=true∧k9 l:=by
 unfold dq at h
 split at h
 ·split at h
  ·exact ⟨asm,asm⟩
  ·omega
 ·omega
theorem Gn {l:a_} (ht:cT l.aP=true) (hb: ∀ b∈l.ae,jZ l b) (i:Nat): -400000≤lW l i∧lW l i≤400000:=by
 have A:=jU ht
 have hl:=kM ht
 unfold lW
 cases h:l.ae[i]? with
 |none=>simp
 |some b=>
  have B:=(hb b (aR h)).1
  simp only
  split
  ·have:=RL A hl B; omega
  ·cases h2:l.ae[i-1]? with
   |none=>simp
   |some a=>
    have C:=(hb a (aR h2)).1
    have:=xP A hl C B
    simp only; omega
def pN (l:a_) (s:aK):ar:=((l.ae[s.gd.toNat]?).bind fun b=>l.ak[b.jK.toNat]?).getD ⟨0,[]⟩
def fY (c:ar) (r t:Int):Bool:=decide (r≤t+(ik c t).Hi)
def fW (c:ar) (r t:Int):Bool:=decide (r<t+(ik c t).Lo)
noncomputable def qh (c:ar) (r:Int):aa:=⟨fg (fY c r) 86400001,fg (fW c r) 86400001-1⟩
noncomputable def cz (l:a_) (s:aK):aa:=qh (pN l s) s.Read
noncomputable def dN (l:a_) (i:Nat):Int:=pa (1000*lW l i) l.g9
end
section
open Go.RowKit
def Bb (n:Int):Int:=IntKind.i64.wrap n
theorem AP {n:Int} (h:qx n):Bb n=n:=lY h
theorem Sb (n:Int): -9223372036854775808≤Bb n∧Bb n≤9223372036854775807:=by
 unfold Bb
 rw [IntKind.wrap_i64]
 omega
section
variable {P:Program} {t:TypeId} {x y:Operand} {a b:Int}
theorem P8:gP P .add t x y (.int .i64 a) (.int .i64 b) (.int .i64 (Bb (a+b))):=fun w=>by simp [eqGuard_add,binOp_add,Op.intArith,Bb]
theorem Lu:gP P .sub t x y (.int .i64 a) (.int .i64 b) (.int .i64 (Bb (a-b))):=fun w=>by simp [eqGuard_sub,binOp_sub,Op.intArith,Bb]
theorem PH:gP P .mul t x y (.int .i64 a) (.int .i64 b) (.int .i64 (Bb (a*b))):=fun w=>by simp [eqGuard_mul,binOp_mul,Op.intArith,Bb]
end
/-- divided, and rounded up, as it comes out -/
def Sp (n by_:Int):Int:=(Bb (Bb (n+by_)-1)).tdiv by_
theorem Qd {a b:Int} (ha: -9223372036854775808≤a∧a≤9223372036854775807) (hb:2≤b):qx (a.tdiv b):=by
 have A:a.tdiv b=a/b+if a % b≠0∧a<0 then 1 else 0:=by
  rcases Int.lt_or_le a 0 with h|h
  ·rw [Int.tdiv_eq_ediv]
   have:b.sign=1:=Int.sign_eq_one_of_pos I
   rw [this]
   by_cases hd:b∣a
   ·have:a % b=0:=Int.emod_eq_zero_of_dvd hd
    simp [hd,this]
   ·have:a % b≠0:=fun e=>hd (Int.dvd_of_emod_eq_zero e)
    have hn: ¬ 0≤a:=by omega
    simp [hd,this,h,hn]
  ·rw [Int.tdiv_eq_ediv_of_nonneg h]
   have: ¬ a<0:=by omega
   simp [this]
 have B:a/b*b+a % b=a:=by rw [Int.mul_comm]; exact Int.mul_ediv_add_emod a b
 have C:0≤a % b:=Int.emod_nonneg _ I
 have D:a % b<b:=Int.emod_lt_of_pos _ I
 have E: -9223372036854775808≤a/b∧a/b≤4611686018427387904:=by
  constructor
  ·refine Int.le_ediv_of_mul_le I ?_
   have:(-9223372036854775808:Int)*b≤ -9223372036854775808*1:=Int.mul_le_mul_of_nonpos_left I I
   omega
  ·refine Int.ediv_le_of_le_mul I ?_
   have:(4611686018427387904:Int)*2≤4611686018427387904*b:=Int.mul_le_mul_of_nonneg_left hb I
   omega
 rw [A]
 unfold qx
 split<;>omega
theorem Q3 {n by_:Int} (h0:0≤n) (h1:n≤1000000000000000000) (hb:1≤by_∧by_≤1000000000000):Sp n by_=(n+by_-1)/by_:=by
 unfold Sp
 rw [AP (show qx (n+by_) from ⟨I,I⟩),AP (show qx (n+by_-1) from ⟨I,I⟩),Int.tdiv_eq_ediv_of_nonneg I]
end
section
def lZ (c:ar) (i:Nat) (x:cw) (k:Nat):Prop:=ff c i x∧ ∀ (j:Nat) o,j<k→c.bo[j]? =some o→ny c x o
def sv (c:ar) (n:Nat):Prop:= ∀ (i:Nat) x,i<n→c.bo[i]? =some x→lZ c i x i
noncomputable instance (c:ar) (i:Nat) (x:cw) (k:Nat):Decidable (lZ c i x k):=Classical.propDecidable _
instance (c:ar) (i:Nat) (x:cw):Decidable (ff c i x):=by unfold ff; infer_instance
theorem DG {c:ar} {i:Nat} {x:cw}:lZ c i x 0↔ff c i x:=⟨fun h=>h.1,fun h=>⟨h,fun j o hj=>by omega⟩⟩
theorem su {c:ar} {i k:Nat} {x o:cw} (h:c.bo[k]? =some o):lZ c i x (k+1)↔lZ c i x k∧ny c x o:=by
 constructor
 ·intro hr
  exact ⟨⟨hr.1,fun j o' hj ho=>hr.2 j o' I ho⟩,hr.2 k o I h⟩
 ·rintro ⟨hr,hp⟩
  refine ⟨hr.1,fun j o' hj ho=>?_⟩
  by_cases e:j=k
  ·subst e; rw [h] at ho; cases ho; exact hp
  ·exact hr.2 j o' I ho
theorem HQ {c:ar}:sv c 0:=fun i x hi=>by omega
theorem He {c:ar} {i:Nat} {x:cw} (h:sv c i) (hx:c.bo[i]? =some x) (hr:lZ c i x i):sv c (i+1):=fun j y hj hy=>by
 by_cases e:j=i
 ·subst e; rw [hx] at hy; cases hy; exact hr
 ·exact h j y I hy
theorem LU {c:ar} {i:Nat} {x:cw} (hx:c.bo[i]? =some x) (h: ¬ lZ c i x i): ¬ eT c:=fun hc=>h ⟨hc.sync i x hx,fun j o hj ho=>hc.pair i j x o hx hj ho⟩
theorem HD {c:ar} (h1:0≤c.dg∧c.dg≤1000) (h2:1≤c.bo.length∧c.bo.length≤5) (h:sv c c.bo.length):eT c:=
 ⟨h1,h2,fun i x hx=>(h i x (List.getElem?_eq_some_iff.1 hx).1 hx).1,fun i k x o hx hk ho=>(h i x (List.getElem?_eq_some_iff.1 hx).1 hx).2 k o hk ho⟩
/-- syncs so far -/
theorem uX {c:ar} {n:Nat} (h: ∀ (i:Nat) x,i<n→c.bo[i]? =some x→ff c i x): ∀ (i:Nat) x,i<n→c.bo[i]? =some x→0≤x.At∧ ∀ (k:Nat) o,k<i→c.bo[k]? =some o→o.At<x.At:=by
 intro i
 induction i with
 |zero=>
  intro x hn hx
  have:=(h 0 x hn hx).1.1
  rw [gr rfl] at this
  exact ⟨I,fun k o hk=>by omega⟩
 |succ i ih=>
  intro x hn hx
  have hi:=(List.getElem?_eq_some_iff.1 hx).1
  have hy:c.bo[i]? =some (c.bo[i]'I):=eC I
  have B:=ih _ I hy
  have A:=(h (i+1) x hn hx).1.1
  rw [n9 hy] at A
  refine ⟨I,fun k o hk ho=>?_⟩
  by_cases e:k=i
  ·subst e; rw [hy] at ho; cases ho; exact A
  ·have:=B.2 k o I ho; omega
theorem Ju {c:ar} {i:Nat} (hi:i≤c.bo.length) (h: ∀ (j:Nat) y,j<i→c.bo[j]? =some y→ff c j y): -1≤ke c i∧ke c i≤86400000:=by
 cases i with
 |zero=>rw [gr rfl]; omega
 |succ i=>
  have hy:c.bo[i]? =some (c.bo[i]'I):=eC I
  have A:=(uX (n:=i+1) h i _ I hy).1
  have B:=(h i _ I hy).1.2
  rw [n9 hy]; omega
theorem PB {c:ar} {i:Nat} (hi:i≤c.bo.length) (h:sv c i): -1≤ke c i∧ke c i≤86400000:=Ju hi fun j y hj hy=>(h j y hj hy).1
theorem uL {c:ar} {i k:Nat} {x o:cw} (hs: ∀ (j:Nat) y,j<i→c.bo[j]? =some y→ff c j y) (hx:c.bo[i]? =some x) (hok:ff c i x) (hk:k<i) (ho:c.bo[k]? =some o):
 (0≤o.At∧o.At<x.At∧x.At≤86400000)∧(-10000≤x.eo.Lo∧x.eo.Lo≤x.eo.Hi∧x.eo.Hi≤10000)∧ -10000≤o.eo.Lo∧o.eo.Lo≤o.eo.Hi∧o.eo.Hi≤10000:=by
 have h: ∀ (j:Nat) y,j<i+1→c.bo[j]? =some y→ff c j y:=fun j y hj hy=>by
  by_cases e:j=i
  ·subst e; rw [hx] at hy; cases hy; exact hok
  ·exact hs j y I hy
 have A:=(uX h i x I hx).2 k o hk ho
 have B:=(uX h k o I ho).1
 exact ⟨⟨B,A,hok.1.2⟩,hok.2,(h k o I ho).2⟩
theorem NU {d a b:Int} (hd:0≤d∧d≤1000) (h:0≤b∧b<a∧a≤86400000):Sp (Bb (d*Bb (a-b))) 1000000=pa (d*(a-b)) 1000000:=by
 have C:0≤d*(a-b)∧d*(a-b)≤90000000000:=by
  have:=Qw (a:=d) (b:=a-b) (A:=1000) (B:=90000000) hd.1 hd.2 I I
  omega
 rw [AP (show qx (a-b) from ⟨I,I⟩),AP (show qx (d*(a-b)) from ⟨I,I⟩),Q3 C.1 I I]
 rfl
/-- what is asked of a line, however wrong it is -/
structure ep (l:a_) (asl:List RA):Prop where
 sJ:l.aP.length≤1000000
 side: ∀ x∈l.aP,0≤x.i_∧x.i_≤255
 sI:l.ak.length≤1000000
 oF:asl.length=l.ak.length
 sE:l.ae.length≤1000000
 Rb: ∀ (k:Nat) m (a:RA),l.ak[k]? =some m→asl[k]? =some a→m.bo.length≤a.2∧m.bo.length≤1000000
noncomputable instance (l:a_):Decidable (gj l):=by unfold gj; infer_instance
noncomputable instance (l:a_) (b:bD):Decidable (jZ l b):=Classical.propDecidable _
theorem yM {l:a_} (h:gj l) (h2: ∀ c∈l.ak,eT c) (h3: ∀ b∈l.ae,jZ l b) (h4: ∀ i,i<l.ae.length→1≤lW l i):k9 l:=⟨h,h2,h3,h4⟩
theorem EW {l:a_}:((!(l.ak.any fun m=> !decide (eT m)))=true)↔ ∀ c∈l.ak,eT c:=by simp
theorem Ha {l:a_}:((!(l.ae.any fun b=> !decide (jZ l b)))=true)↔ ∀ b∈l.ae,jZ l b:=by simp
theorem kS {c:ar} (h:eT c) {r x:Int} (h0:0≤x) (h1:x<86400001):
 (x<fg (fY c r) 86400001→fY c r x=false)∧(fg (fY c r) 86400001≤x→fY c r x=true)∧(x<fg (fW c r) 86400001→fW c r x=false)∧(fg (fW c r) 86400001≤x→fW c r x=true):=by
 have up: ∀ (q:Int→Bool),(∀ a b,0≤a→a≤b→b<86400001→q a=true→q b=true)→fg q 86400001≤x→q x=true:=fun q hq hx=>by
  have hb:=ij (p:=q) (n:=86400001)
  exact hq _ _ hb.1 hx h1 (zb I)
 refine ⟨uf h0,up _ fun a b ha A hb hq=>?_,uf h0,up _ fun a b ha A hb hq=>?_⟩
 ·have:=oh h ha A I
  simp only [fY,decide_eq_true_eq] at hq ⊢; omega
 ·have:=oh h ha A I
  simp only [fW,decide_eq_true_eq] at hq ⊢; omega
theorem w6 {l:a_} {s:aK} {b:bD} {c:ar} (hb:l.ae[s.gd.toNat]? =some b) (hc:l.ak[b.jK.toNat]? =some c):pN l s=c:=by
 unfold pN; rw [hb]; simp only [Option.bind_some]; rw [hc]; rfl
end
section
def mN (sg:List aK) (i:Nat):aK:=if i=0 then ⟨-1,0⟩ else (sg[i-1]?).getD ⟨-1,0⟩
theorem py {sg:List aK} {i:Nat} {s:aK} (h:sg[i]? =some s):mN sg (i+1)=s:=by unfold mN; rw [if_neg I,Nat.add_sub_cancel,h]; rfl
def lf (l:a_) (s:aK):Prop:=(0≤s.gd∧s.gd≤(l.ae.length:Int)-1)∧0≤s.Read∧s.Read≤86400000
def kb (l:a_) (sg:List aK) (i:Nat) (s:aK):Prop:=lf l s∧ ¬ s.gd<(mN sg i).gd∧ ¬ (s.gd=(mN sg i).gd∧s.Read≤(mN sg i).Read)
def qn (l:a_) (sg:List aK) (i:Nat):Prop:= ∀ (j:Nat) s,j<i→sg[j]? =some s→kb l sg j s
structure e9 (l:a_) (r:cv):Prop where
 time:0≤r.Start∧r.Start≤r.fZ∧r.fZ≤86400000
 len:r.ag.length≤10
 sig: ∀ (i:Nat) s,r.ag[i]? =some s→kb l r.ag i s
noncomputable instance (l:a_) (r:cv):Decidable (e9 l r):=Classical.propDecidable _
theorem zL {l:a_} {sg:List aK}:qn l sg 0:=fun j s hj=>absurd hj (Nat.not_lt_zero _)
theorem lz {l:a_} {sg:List aK} {i:Nat} {s:aK} (h:qn l sg i) (hs:sg[i]? =some s) (ho:kb l sg i s):qn l sg (i+1):=fun j z hj hz=>by
 rcases Nat.lt_or_ge j i with q|q
 ·exact h j z q hz
 ·obtain rfl:j=i:=by omega
  rw [hs] at hz; cases hz; exact ho
theorem BM {l:a_} {r:cv} {i:Nat} (h1:0≤r.Start∧r.Start≤r.fZ∧r.fZ≤86400000) (h2:r.ag.length≤10) (h:qn l r.ag i) (hi:r.ag.length≤i):e9 l r:=
 ⟨h1,h2,fun j s hs=>h j s (by have:=(List.getElem?_eq_some_iff.1 hs).1; omega) hs⟩
noncomputable def nJ (l:a_) (sg:List aK) (b k:Nat):Option (Int×aa):=(sg[k]?).bind fun s=>if s.gd=(b:Int)∧(cz l s).Lo≤(cz l s).Hi then some ((k:Int),cz l s) else none
noncomputable def kN (l:a_) (sg:List aK) (i b:Nat):TM:=(List.range i).filterMap (nJ l sg b)
noncomputable def dQ (l:a_) (sg:List aK) (i:Nat):List TM:=(List.range l.ae.length).map (kN l sg i)
noncomputable def cJ (l:a_) (n:Nat):List Int:=(List.range n).map (dN l)
theorem vw {l:a_} {n:Nat}:cJ l (n+1)=cJ l n++[dN l n]:=by simp [cJ,List.range_succ]
theorem dV {l:a_} {n:Nat}:(cJ l n).length=n:=by simp [cJ]
theorem jl {l:a_} {sg:List aK} {i:Nat}:(dQ l sg i).length=l.ae.length:=by simp [dQ]
theorem o5 {l:a_} {sg:List aK} {i b:Nat} (h:b<l.ae.length):(dQ l sg i)[b]? =some (kN l sg i b):=by simp [dQ,h]
theorem po {l:a_} {sg:List aK} {b k:Nat} {q:Int×aa}:nJ l sg b k=some q↔ ∃ s,sg[k]? =some s∧(s.gd=(b:Int)∧(cz l s).Lo≤(cz l s).Hi)∧q=((k:Int),cz l s):=by
 unfold nJ
 cases h:sg[k]? with
 |none=>simp
 |some s=>
  simp only [Option.bind_some,Option.some.injEq]
  by_cases e:s.gd=(b:Int)∧(cz l s).Lo≤(cz l s).Hi
  ·rw [if_pos e]
   constructor
   ·intro h; cases h; exact ⟨s,rfl,e,rfl⟩
   ·rintro ⟨s',rfl,_,rfl⟩; rfl
  ·rw [if_neg e]
   constructor
   ·intro h; cases h
   ·rintro ⟨s',rfl,e',_⟩; exact absurd e' e
theorem rR {l:a_} {sg:List aK} {i b:Nat} {q:Int×aa}:q∈kN l sg i b↔ ∃ k,k<i∧ ∃ s,sg[k]? =some s∧(s.gd=(b:Int)∧(cz l s).Lo≤(cz l s).Hi)∧q=((k:Int),cz l s):=by
 unfold kN
 simp only [List.mem_filterMap,List.mem_range,po]
theorem kR {l:a_} {sg:List aK} {i b:Nat}:kN l sg (i+1) b=kN l sg i b++(nJ l sg b i).toList:=by
 unfold kN
 rw [List.range_succ,List.filterMap_append]
 congr 1
theorem DS {l:a_} {sg:List aK}:dQ l sg 0=List.replicate l.ae.length []:=by
 unfold dQ
 rw [List.eq_replicate_iff]
 refine ⟨sm,fun t ht=>?_⟩
 obtain ⟨b,_,rfl⟩:=List.mem_map.1 ht
 rfl
theorem wF {l:a_} {sg:List aK} {i:Nat} {s:aK} (hs:sg[i]? =some s) (h: ¬ (cz l s).Lo≤(cz l s).Hi):dQ l sg (i+1)=dQ l sg i:=by
 unfold dQ
 apply List.map_congr_left
 intro b _
 rw [kR]
 have:nJ l sg b i=none:=by
  cases e:nJ l sg b i with
  |none=>rfl
  |some q=>obtain ⟨s',A,⟨_,B⟩,_⟩:=po.1 e; rw [hs] at A; cases A; exact absurd B h
 rw [this]; simp
theorem yL {l:a_} {sg:List aK} {i:Nat} {s:aK} (hs:sg[i]? =some s) (hb:0≤s.gd∧s.gd≤(l.ae.length:Int)-1) (h:(cz l s).Lo≤(cz l s).Hi) {x:TM} (hx:(dQ l sg i)[s.gd.toNat]? =some x):
 (dQ l sg i).set s.gd.toNat (dL x (i:Int) (cz l s))=dQ l sg (i+1):=by
 have A:s.gd.toNat<l.ae.length:=by omega
 rw [o5 A] at hx
 cases hx
 have B:dL (kN l sg i s.gd.toNat) (i:Int) (cz l s)=kN l sg (i+1) s.gd.toNat:=by
  have hn:(kN l sg i s.gd.toNat).lookup (i:Int)=none:=g4.2 fun p hp e=>by
   obtain ⟨k,hk,_,_,_,rfl⟩:=rR.1 hp
   simp only at e; omega
  have ho:nJ l sg s.gd.toNat i=some ((i:Int),cz l s):=po.2 ⟨s,hs,⟨I,h⟩,rfl⟩
  rw [kR,ho]
  unfold dL; rw [hn]; rfl
 rw [B]
 apply List.ext_getElem?
 intro b
 rw [List.getElem?_set]
 by_cases e:s.gd.toNat=b
 ·rw [if_pos e,jl,← e,if_pos A,o5 A]
 ·rw [if_neg e]
  by_cases hb':b<l.ae.length
  ·rw [o5 hb',o5 hb',kR]
   have:nJ l sg b i=none:=by
    cases e2:nJ l sg b i with
    |none=>rfl
    |some q=>obtain ⟨s',C,⟨D,_⟩,_⟩:=po.1 e2; rw [hs] at C; cases C; exact absurd I e
   rw [this]; simp
  ·rw [List.getElem?_eq_none (by rw [jl]; omega),List.getElem?_eq_none (by rw [jl]; omega)]
noncomputable def cj (l:a_) (r:cv):bO:=⟨r.Start,r.fZ,cJ l l.ae.length,dQ l r.ag r.ag.length,l.cW,l.eV,(r.ag.length:Int)⟩
theorem Kw {l:a_} (ht:cT l.aP=true) (h:k9 l) {i:Nat} (hi:i<l.ae.length):1≤dN l i∧dN l i≤500000000:=by
 have A:=Gn ht h.vG i
 have B:=h.Rc i hi
 have C:=h.head.1
 unfold dN pa
 refine ⟨(Int.le_ediv_iff_mul_le I).2 I,?_⟩
 have:(1000*lW l i+l.g9-1)/l.g9≤1000*lW l i+l.g9-1:=Int.ediv_le_self _ I
 omega
theorem NI (l:a_) (s:aK):0≤(cz l s).Lo∧(cz l s).Hi≤86400000:=by
 have A:=ij (p:=fY (pN l s) s.Read) (n:=86400001)
 have B:=ij (p:=fW (pN l s) s.Read) (n:=86400001)
 unfold cz qh
 simp only
 omega
theorem o4 {l:a_} {r:cv} (ht:cT l.aP=true) (h:k9 l) (hr:e9 l r):HL (cj l r):=by
 have hh:=h.head
 unfold gj at hh
 refine ⟨?_,by simp [cj,jl,bO.n,dV],hr.time,fun x hx=>?_,fun t A p hp=>?_⟩
 ·show (cJ l l.ae.length).length≤6
  rw [dV]; omega
 ·obtain ⟨i,hi,rfl⟩:=List.mem_map.1 hx
  exact Kw ht h (List.mem_range.1 hi)
 ·obtain ⟨b,hb,rfl⟩:=List.mem_map.1 A
  obtain ⟨k,hk,s,hs,⟨_,B⟩,rfl⟩:=rR.1 hp
  have C:=NI l s
  have D:=hr.len
  simp only
  omega
noncomputable def eu (l:a_) (r:cv) (me:Int):Int:=if dq l=0 then (if e9 l r then (if me=0 then (if jC (cj l r)=[] then 8 else 0) else me) else 51) else dq l
theorem od {l:a_} {r:cv} {me:Int} (h: ¬ dq l=0):eu l r me=dq l:=if_neg h
theorem jd {l:a_} {r:cv} {me:Int} (h:dq l=0) (h2: ¬ e9 l r):eu l r me=51:=by unfold eu; rw [if_pos h,if_neg h2]
theorem qJ {l:a_} {r:cv} {me:Int} (h:dq l=0) (h2:e9 l r) (h3: ¬ me=0):eu l r me=me:=by unfold eu; rw [if_pos h,if_pos h2,if_neg h3]
theorem pf {l:a_} {r:cv} {me:Int} (h:dq l=0) (h2:e9 l r) (h3:me=0) (h4:jC (cj l r)=[]):eu l r me=8:=by unfold eu; rw [if_pos h,if_pos h2,if_pos h3,if_pos h4]
theorem lS {l:a_} {r:cv} {me:Int} (h:dq l=0) (h2:e9 l r) (h3:me=0) (h4: ¬ jC (cj l r)=[]):eu l r me=0:=by unfold eu; rw [if_pos h,if_pos h2,if_pos h3,if_neg h4]
theorem jY {l:a_} {r:cv} {me:Int} (h:eu l r me=0):dq l=0∧e9 l r∧me=0∧ ¬ jC (cj l r)=[]:=by
 unfold eu at h
 split at h
 ·split at h
  ·split at h
   ·split at h
    ·omega
    ·exact ⟨asm,asm,asm,asm⟩
   ·omega
  ·omega
 ·omega
end
section
def wR (l:List Int):Int:=(l.drop 1).foldl min (l.headD 0)
def DR (l:List Int):Int:=(l.drop 1).foldl max (l.headD 0)
theorem By: ∀ (l:List Int) (a:Int),(l.foldl min a=a∨l.foldl min a∈l)∧l.foldl min a≤a∧ ∀ x∈l,l.foldl min a≤x
 |[],a=>⟨.inl rfl,sm,sm⟩
 |y::l,a=>by
  obtain ⟨A,C,B⟩:=By l (min a y)
  simp only [List.foldl_cons]
  refine ⟨?_,I,?_⟩
  ·rcases A with A|A
   ·rw [A]
    rcases Int.le_total a y with q|q
    ·left; omega
    ·right; rw [show min a y=y by omega]; simp
   ·right; exact cR _ A
  ·intro x hx
   rcases List.mem_cons.1 hx with rfl|hx
   ·omega
   ·exact B x hx
theorem Co: ∀ (l:List Int) (a:Int),(l.foldl max a=a∨l.foldl max a∈l)∧a≤l.foldl max a∧ ∀ x∈l,x≤l.foldl max a
 |[],a=>⟨.inl rfl,sm,sm⟩
 |y::l,a=>by
  obtain ⟨A,C,B⟩:=Co l (max a y)
  simp only [List.foldl_cons]
  refine ⟨?_,I,?_⟩
  ·rcases A with A|A
   ·rw [A]
    rcases Int.le_total a y with q|q
    ·right; rw [show max a y=y by omega]; simp
    ·left; omega
   ·right; exact cR _ A
  ·intro x hx
   rcases List.mem_cons.1 hx with rfl|hx
   ·omega
   ·exact B x hx
theorem Gw {l:List Int} (h:l≠[]):wR l∈l∧ ∀ x∈l,wR l≤x:=by
 cases l with
 |nil=>exact absurd rfl h
 |cons y ys=>
  obtain ⟨A,B,C⟩:=By ys y
  refine ⟨?_,fun x hx=>?_⟩
  ·rcases A with A|A
   ·simp [wR,A]
   ·exact cR _ (by simpa [wR] using A)
  ·rcases List.mem_cons.1 hx with rfl|hx
   ·simpa [wR] using B
   ·simpa [wR] using C x hx
theorem OO {l:List Int} (h:l≠[]):DR l∈l∧ ∀ x∈l,x≤DR l:=by
 cases l with
 |nil=>exact absurd rfl h
 |cons y ys=>
  obtain ⟨A,B,C⟩:=Co ys y
  refine ⟨?_,fun x hx=>?_⟩
  ·rcases A with A|A
   ·simp [DR,A]
   ·exact cR _ (by simpa [DR] using A)
  ·rcases List.mem_cons.1 hx with rfl|hx
   ·simpa [DR] using B
   ·simpa [DR] using C x hx
noncomputable def kU (l:a_) (r:cv):List Int:=if eu l r 0=0 then jC (cj l r) else []
theorem lT {l:a_} {r:cv} (h:eu l r 0=0):kU l r=jC (cj l r):=if_pos h
theorem uh {l:a_} {r:cv} (h: ¬ eu l r 0=0):kU l r=[]:=if_neg h
theorem uN {l:a_} {r:cv} (h:eu l r 0=0):kU l r≠[]:=by rw [lT h]; exact (jY h).2.2.2
noncomputable def EL (l:a_) (r:cv):Int:=if eu l r 0=0 then (if l.cH<wR (kU l r) then 2 else if DR (kU l r)≤l.cH then 0 else 1) else 0
noncomputable def jA (l:a_) (b:Int):Int:=if 0≤b∧b≤(l.ae.length:Int)-1 then 0 else 2
theorem wx {l:a_} {b:Int} (h:0≤b∧b≤(l.ae.length:Int)-1):jA l b=0:=if_pos h
theorem Dy {l:a_} {b:Int} (h:jA l b=0):0≤b∧b≤(l.ae.length:Int)-1:=by
 unfold jA at h
 split at h
 ·assumption
 ·omega
noncomputable def mz (l:a_) (r:cv) (b:Nat):aa:=vt (l8 (cj l r) b)
noncomputable def eK (l:a_) (r:cv) (b:Int):Int:=if eu l r (jA l b)=0 then (if mz l r b.toNat=mE then 6 else 0) else eu l r (jA l b)
noncomputable def eQ (l:a_) (r:cv) (b:Int):aa:=if eK l r b=0 then mz l r b.toNat else dx
theorem nO {l:a_} {r:cv} {b:Int} (h: ¬ eu l r (jA l b)=0):eK l r b=eu l r (jA l b)∧eQ l r b=dx:=by
 have e:eK l r b=eu l r (jA l b):=if_neg h
 exact ⟨e,by unfold eQ; rw [if_neg (by rw [e]; exact h)]⟩
theorem qa {l:a_} {r:cv} {b:Nat} (h:eu l r (jA l b)=0) (h2:mz l r b=mE):eK l r b=6∧eQ l r b=dx:=by
 have e:eK l r b=6:=by unfold eK; rw [if_pos h,Int.toNat_natCast,if_pos h2]
 exact ⟨e,by unfold eQ; rw [if_neg (by rw [e]; omega)]⟩
theorem oi {l:a_} {r:cv} {b:Nat} (h:eu l r (jA l b)=0) (h2: ¬ mz l r b=mE):eK l r b=0∧eQ l r b=mz l r b:=by
 have e:eK l r b=0:=by unfold eK; rw [if_pos h,Int.toNat_natCast,if_neg h2]
 exact ⟨e,by unfold eQ; rw [if_pos e,Int.toNat_natCast]⟩
theorem IE {w:bO} (h:HL w) {b:Nat} {q:Int×aa} (hq:q∈l8 w b):0≤q.2.Lo∧q.2.Lo≤q.2.Hi∧q.2.Hi≤86400000:=by
 have A:=mY hq
 obtain ⟨o,ho,p,hp,u,hu,e⟩:=g_.1 hq
 obtain ⟨_,_,rfl⟩:=jo.1 e
 have B:=h.opt ho
 simp only [jr] at A ⊢
 omega
theorem xj {l:a_} {r:cv} {b:Int} (h:eK l r b=0):0≤(eQ l r b).Lo∧(eQ l r b).Lo≤(eQ l r b).Hi∧(eQ l r b).Hi≤86400000:=by
 have ho:eu l r (jA l b)=0:=by
  by_cases e:eu l r (jA l b)=0
  ·exact e
  ·rw [(nO e).1] at h; exact absurd h e
 obtain ⟨B,C,_⟩:=jY ho
 obtain ⟨ht,A⟩:=gF B
 have hw:=o4 ht A C
 have hv:eQ l r b=mz l r b.toNat:=by unfold eQ; rw [if_pos h]
 have hn:mz l r b.toNat≠mE:=fun e=>by unfold eK at h; rw [if_pos ho,if_pos e] at h; omega
 have hh:=uA (l:=l8 (cj l r) b.toNat) fun q hq=>mY hq
 rw [hv]
 unfold mz at hn ⊢
 rcases hh with ⟨_,e⟩|hh
 ·exact absurd e hn
 ·obtain ⟨x,hx,ex⟩:=hh.lo
  obtain ⟨y,hy,ey⟩:=hh.hi
  have:=IE hw hx
  have:=IE hw hy
  have:=hh.le
  omega
noncomputable def Ao (l:a_) (r:cv):aa:=if eK l r l.cH=0 then ⟨(eQ l r l.cH).Lo-r.Start,(eQ l r l.cH).Hi-r.Start⟩ else dx
theorem AJ {l:a_} {r:cv} (h:eK l r l.cH=0):Ao l r=⟨(eQ l r l.cH).Lo-r.Start,(eQ l r l.cH).Hi-r.Start⟩:=if_pos h
theorem DN {l:a_} {r:cv} (h: ¬ eK l r l.cH=0):Ao l r=dx:=if_neg h
theorem u7 {l:a_} {r:cv} {b:Int} (h:eK l r b=0):e9 l r:=by
 by_cases e:eu l r (jA l b)=0
 ·exact (jY e).2.1
 ·rw [(nO e).1] at h; exact absurd h e
theorem zm {k:List (Int×aa)} {h:aa} {q:Int×aa} {z:aa} (hh:ki k h) (hq:q.2.Lo≤q.2.Hi) (hz:mj h q.2=z):ki (k++[q]) z:=by subst hz; exact uK hh hq
end
section
set_option maxRecDepth 20000
def Rv:al:=⟨1,⟨10000,10200⟩,⟨0,100⟩,⟨0,0⟩,0,0⟩
def ym:ar:=⟨100,[⟨0,⟨0,2⟩⟩,⟨100000,⟨5,6⟩⟩]⟩
def Ra (o:Int):bD:=⟨⟨0,⟨o,o⟩⟩,0⟩
def nU (f:Int):a_:=⟨[Rv],2000,[ym],[Ra 1000,Ra 4000,Ra 9000],1,f,1⟩
def mJ:cv:=⟨10000,20000,[⟨0,10600⟩,⟨0,11000⟩,⟨1,12600⟩]⟩
theorem KP:cT [Rv]=true:=by decide
theorem wu:eT ym:=by
 have hi: ∀ (i:Nat) (x:cw),ym.bo[i]? =some x→i=0∧x=⟨0,⟨0,2⟩⟩∨i=1∧x=⟨100000,⟨5,6⟩⟩:=fun i x h=>by
  match i with
  |0=>left; simp [ym] at h; exact ⟨rfl,h.symm⟩
  |1=>right; simp [ym] at h; exact ⟨rfl,h.symm⟩
  |n+2=>simp [ym] at h
 refine ⟨dc,dc,fun i x hx=>?_,fun i k x o hx hk ho=>?_⟩
 ·rcases hi i x hx with ⟨rfl,rfl⟩|⟨rfl,rfl⟩<;>(unfold ff; decide)
 ·rcases hi i x hx with ⟨rfl,rfl⟩|⟨rfl,rfl⟩
  ·omega
  ·rcases hi k o ho with ⟨rfl,rfl⟩|⟨rfl,rfl⟩
   ·unfold ny; decide
   ·omega
theorem zZ {o:Int} (h:0≤o∧o<10000):fj [Rv] ⟨0,⟨o,o⟩⟩:=⟨sm,Rv,rfl,by show o≤o∧0≤o∧o≤10000-1; omega⟩
theorem Nh {f:Int} (hf:0≤f∧f≤3):k9 (nU f):=by
 refine ⟨?_,fun c hc=>?_,fun b hb=>?_,fun i hi=>?_⟩
 ·unfold gj; simp [nU]; omega
 ·simp [nU] at hc; subst hc; exact wu
 ·simp [nU] at hb
  rcases hb with rfl|rfl|rfl
  ·exact ⟨zZ I,by simp [Ra,nU]⟩
  ·exact ⟨zZ I,by simp [Ra,nU]⟩
  ·exact ⟨zZ I,by simp [Ra,nU]⟩
 ·have A:i<3:=hi
  have:i=0∨i=1∨i=2:=by omega
  rcases this with rfl|rfl|rfl
  ·show (1:Int)≤lW (nU 0) 0; decide
  ·show (1:Int)≤lW (nU 0) 1; decide
  ·show (1:Int)≤lW (nU 0) 2; decide
def mV:a_:=nU 1
theorem Pv:dq mV=0:=xW KP (Nh I)
theorem AN {r x:Int} (h0:0<x) (h1:x≤86400000) (hy:fY ym r x=true) (hn:fY ym r (x-1)=false):fg (fY ym r) 86400001=x:=
 zw I I hy fun z hz A=>by
  cases e:fY ym r z with
  |false=>rfl
  |true=>
   unfold fY at e hn
   have:=(oh wu hz (show z≤x-1 by omega) I).2
   have B:=of_decide_eq_true e
   have C:=of_decide_eq_false hn
   omega
theorem zU {r x:Int} (h0:0<x) (h1:x≤86400000) (hy:fW ym r x=true) (hn:fW ym r (x-1)=false):fg (fW ym r) 86400001=x:=
 zw I I hy fun z hz A=>by
  cases e:fW ym r z with
  |false=>rfl
  |true=>
   unfold fW at e hn
   have:=(oh wu hz (show z≤x-1 by omega) I).1
   have B:=of_decide_eq_true e
   have C:=of_decide_eq_false hn
   omega
theorem TD:qh ym 10600=⟨10596,10602⟩:=by unfold qh; rw [AN (x:=10596) I I dc dc,zU (x:=10603) I I dc dc]; rfl
theorem Sr:qh ym 11000=⟨10996,11002⟩:=by unfold qh; rw [AN (x:=10996) I I dc dc,zU (x:=11003) I I dc dc]; rfl
theorem Tt:qh ym 12600=⟨12596,12602⟩:=by unfold qh; rw [AN (x:=12596) I I dc dc,zU (x:=12603) I I dc dc]; rfl
def SZ (f:Int):bO:=⟨10000,20000,[500,1500,2500],[[(0,⟨10596,10602⟩),(1,⟨10996,11002⟩)],[(2,⟨12596,12602⟩)],[]],1,f,3⟩
theorem S3 (f:Int):cz (nU f) ⟨0,10600⟩=⟨10596,10602⟩:=TD
theorem RR (f:Int):cz (nU f) ⟨0,11000⟩=⟨10996,11002⟩:=Sr
theorem Sd (f:Int):cz (nU f) ⟨1,12600⟩=⟨12596,12602⟩:=Tt
theorem Jd (f:Int):dQ (nU f) mJ.ag 3=[[(0,⟨10596,10602⟩),(1,⟨10996,11002⟩)],[(2,⟨12596,12602⟩)],[]]:=by
 have o: ∀ b:Nat,kN (nU f) mJ.ag 3 b=(nJ (nU f) mJ.ag b 0).toList++((nJ (nU f) mJ.ag b 1).toList++(nJ (nU f) mJ.ag b 2).toList):=fun b=>by
  rw [kR,kR,kR]; simp [kN]
 have A: ∀ b:Nat,nJ (nU f) mJ.ag b 0=if (0:Int)=(b:Int) then some (0,⟨10596,10602⟩) else none:=fun b=>by
  show (if (0:Int)=(b:Int)∧(cz (nU f) ⟨0,10600⟩).Lo≤(cz (nU f) ⟨0,10600⟩).Hi then some ((0:Int),cz (nU f) ⟨0,10600⟩) else none)=_
  rw [S3]; by_cases h:(0:Int)=(b:Int)
  ·rw [if_pos h,if_pos ⟨h,dc⟩]<;>rfl
  ·rw [if_neg h,if_neg fun q=>h q.1]
 have B: ∀ b:Nat,nJ (nU f) mJ.ag b 1=if (0:Int)=(b:Int) then some (1,⟨10996,11002⟩) else none:=fun b=>by
  show (if (0:Int)=(b:Int)∧(cz (nU f) ⟨0,11000⟩).Lo≤(cz (nU f) ⟨0,11000⟩).Hi then some ((1:Int),cz (nU f) ⟨0,11000⟩) else none)=_
  rw [RR]; by_cases h:(0:Int)=(b:Int)
  ·rw [if_pos h,if_pos ⟨h,dc⟩]<;>rfl
  ·rw [if_neg h,if_neg fun q=>h q.1]
 have C: ∀ b:Nat,nJ (nU f) mJ.ag b 2=if (1:Int)=(b:Int) then some (2,⟨12596,12602⟩) else none:=fun b=>by
  show (if (1:Int)=(b:Int)∧(cz (nU f) ⟨1,12600⟩).Lo≤(cz (nU f) ⟨1,12600⟩).Hi then some ((2:Int),cz (nU f) ⟨1,12600⟩) else none)=_
  rw [Sd]; by_cases h:(1:Int)=(b:Int)
  ·rw [if_pos h,if_pos ⟨h,dc⟩]<;>rfl
  ·rw [if_neg h,if_neg fun q=>h q.1]
 show [kN (nU f) mJ.ag 3 0,kN (nU f) mJ.ag 3 1,kN (nU f) mJ.ag 3 2]=_
 rw [o,o,o,A,A,A,B,B,B,C,C,C]
 rfl
theorem Bl (f:Int):cj (nU f) mJ=SZ f:=by
 unfold cj SZ
 rw [show mJ.ag.length=3 from rfl,Jd]
 rfl
theorem NF (f:Int):e9 (nU f) mJ:=by
 refine ⟨dc,dc,fun i s hs=>?_⟩
 match i with
 |0=>simp [mJ] at hs; subst hs; unfold kb lf; simp [nU,mN]
 |1=>simp [mJ] at hs; subst hs; unfold kb lf; simp [nU,mN,mJ]
 |2=>simp [mJ] at hs; subst hs; unfold kb lf; simp [nU,mN,mJ]
 |n+3=>simp [mJ] at hs
theorem Ir:jC (cj mV mJ)=[2,3]:=by rw [show cj mV mJ=SZ 1 from Bl 1]; decide
theorem JR:eu mV mJ 0=0:=lS Pv (NF 1) rfl (by rw [Ir]; decide)
theorem I4 {b:Nat} (hb:b<3):eu mV mJ (jA mV b)=0:=by rw [wx (by show 0≤(b:Int)∧(b:Int)≤3-1; omega)]; exact JR
theorem OB {b:Nat} {z:aa} (hb:b<3) (hz:vt (l8 (SZ 1) b)=z) (hn:z≠mE):eK mV mJ b=0∧eQ mV mJ b=z:=by
 have e:mz mV mJ b=z:=by unfold mz; rw [show cj mV mJ=SZ 1 from Bl 1]; exact hz
 have h:=oi (I4 hb) (by rw [e]; exact hn)
 exact ⟨h.1,h.2.trans e⟩
theorem w8:eK mV mJ 1=0∧eQ mV mJ 1=⟨12596,12602⟩:=OB (b:=1) I dc dc
theorem EI:eK mV mJ mV.cH=0∧Ao mV mJ=⟨2596,2602⟩:=by
 refine ⟨w8.1,?_⟩
 rw [AJ (l:=mV) (r:=mJ) w8.1]
 rw [show eQ mV mJ mV.cH=⟨12596,12602⟩ from w8.2]
 rfl
theorem Tg (f:Int) {a:OA} {c:Nat} (hc:2≤c):ep (nU f) [(a,c)]:=by
 refine ⟨by simp [nU],?_,by simp [nU],U,by simp [nU],fun k m a' hm ha=>?_⟩
 ·intro x hx; simp [nU] at hx; subst hx; simp [Rv]
 ·match k with
  |0=>simp [nU] at hm ha; subst hm; subst ha; simp [ym]; exact hc
  |n+1=>simp at ha
end
section
def mK (l:a_):Prop:=(20<(l.aP.length:Int)∨8<(l.ak.length:Int)∨10<(l.ae.length:Int))∨ ∃ c∈l.ak,10<(c.bo.length:Int)
noncomputable instance (l:a_):Decidable (mK l):=Classical.propDecidable _
/-- what is asked of a line that comes in -/
structure ti (l:a_) (az:List RA):Prop where
 sJ:l.aP.length≤9223372036854775807
 side: ∀ x∈l.aP,0≤x.i_∧x.i_≤255
 sI:l.ak.length≤9223372036854775807
 oF:az.length=l.ak.length
 sE:l.ae.length≤9223372036854775807
 Rb: ∀ (k:Nat) m (a:RA),l.ak[k]? =some m→az[k]? =some a→m.bo.length≤a.2∧m.bo.length≤9223372036854775807
def AQ (l:a_) (i:Nat):Prop:= ∀ (j:Nat) c,j<i→l.ak[j]? =some c→(c.bo.length:Int)≤10
theorem Jb {l:a_} {i:Nat} (h: ¬ (20<(l.aP.length:Int))∧ ¬ (8<(l.ak.length:Int))∧ ¬ (10<(l.ae.length:Int))) (hi:l.ak.length≤i) (hs:AQ l i): ¬ mK l:=by
 rintro (A|⟨c,hc,B⟩)
 ·omega
 ·obtain ⟨k,hk⟩:=List.getElem?_of_mem hc
  have:=hs k c (by have:=(List.getElem?_eq_some_iff.1 hk).1; omega) hk
  omega
theorem Kc {l:a_} {i:Nat} {c:ar} (hc:l.ak[i]? =some c) (h:10<(c.bo.length:Int)):mK l:= .inr ⟨c,aR hc,h⟩
theorem lI {α:Type} {l:List α} {P:Nat→α→Prop} {i:Nat} {x:α} (h: ∀ (j:Nat) y,j<i→l[j]? =some y→P j y) (hx:l[i]? =some x) (hp:P i x): ∀ (j:Nat) y,j<i+1→l[j]? =some y→P j y:=fun j y hj hy=>by
 by_cases e:j=i
 ·subst e; rw [hx] at hy; cases hy; exact hp
 ·exact h j y I hy
theorem xh {α:Type} {l:List α} {P:Nat→α→Prop} {i:Nat} (hi:l.length≤i) (h: ∀ (j:Nat) y,j<i→l[j]? =some y→P j y): ∀ (j:Nat) y,l[j]? =some y→P j y:=fun j y hy=>h j y (by have:=(List.getElem?_eq_some_iff.1 hy).1; omega) hy
theorem xT {α:Type} {l:List α} {P:α→Prop} {i:Nat} (hi:l.length≤i) (h: ∀ (j:Nat) y,j<i→l[j]? =some y→P y): ∀ y∈l,P y:=fun y hy=>by
 obtain ⟨k,hk⟩:=List.getElem?_of_mem hy
 exact xh (P:=fun _ y=>P y) hi h k y hk
theorem JS {l:a_} (h: ¬ mK l):(l.aP.length:Int)≤20∧(l.ak.length:Int)≤8∧(l.ae.length:Int)≤10∧ ∀ c∈l.ak,(c.bo.length:Int)≤10:=by
 unfold mK at h
 rw [not_or] at h
 refine ⟨I,I,I,fun c hc=>?_⟩
 have:=h.2
 rcases Int.lt_or_le 10 (c.bo.length:Int) with q|q
 ·exact absurd ⟨c,hc,q⟩ this
 ·exact q
theorem ti.small {l:a_} {az:List RA} (h:ti l az) (hg: ¬ mK l):ep l az:=by
 have A:=JS hg
 exact ⟨I,h.side,I,h.oF,I,fun k m a hm ha=>⟨(h.Rb k m a hm ha).1,by have:=A.2.2.2 m (aR hm); omega⟩⟩
def Gm (c:ar) (x:cw) (k:Nat):Prop:= ∀ (j:Nat) o,j<k→c.bo[j]? =some o→ny c x o
def td (c:ar) (m:Nat):Prop:= ∀ (i:Nat) x,i<m→c.bo[i]? =some x→Gm c x i
theorem K7 {c:ar} {m:Nat} (h1:0≤c.dg∧c.dg≤1000) (h2:1≤c.bo.length∧c.bo.length≤5) (hs: ∀ (i:Nat) x,c.bo[i]? =some x→ff c i x) (hm:c.bo.length≤m) (hp:td c m):eT c:=
 ⟨h1,h2,hs,fun i k x o hx hk ho=>hp i x (by have:=(List.getElem?_eq_some_iff.1 hx).1; omega) hx k o hk ho⟩
theorem Ep {c:ar} {m k:Nat} (h:td c m) (hk: ∀ y,c.bo[m]? =some y→Gm c y k) (e:k=m):td c (m+1):=by
 subst e
 intro i x hi hx
 by_cases e:i=k
 ·subst e; exact hk x hx
 ·exact h i x I hx
noncomputable def kI (c:ar) (at_:Int) (i:Nat):aa:=if i=0 then dx else gh c at_ i
theorem D5 {c:ar} {at_:Int} {i:Nat} (h:eT c) (hi:c.bo.length≤i):kI c at_ i=ik c at_:=by
 have:=h.len
 unfold kI; rw [if_neg I,nK hi]
theorem AV {c:ar} {at_:Int} {i:Nat} {x:cw} (h:eT c) (ha:0≤at_∧at_≤90000000) (hx:c.bo[i]? =some x) (hi:i=0):
 kI c at_ (i+1)=⟨max (x.eo.Lo-sf c at_ x) (x.eo.Lo-sf c at_ x),min (x.eo.Hi+sf c at_ x) (x.eo.Hi+sf c at_ x)⟩:=by
 subst hi
 have hb:=h.uH hx
 have ho:=uU h.rH ha hb.1
 unfold kI
 rw [if_neg I,jS hx]
 unfold lU gh
 simp only [List.take_zero,List.foldl_nil,aa.mk.injEq]
 omega
theorem B0 {c:ar} {at_:Int} {i:Nat} {x:cw} (hx:c.bo[i]? =some x) (hi: ¬ i=0):kI c at_ (i+1)=⟨max (kI c at_ i).Lo (x.eo.Lo-sf c at_ x),min (kI c at_ i).Hi (x.eo.Hi+sf c at_ x)⟩:=by
 unfold kI
 rw [if_neg I,if_neg hi,jS hx]; rfl
def g6 (ts:List al) (n:Nat):List aa:=(List.range n).map fun k=>eA ts 0 k
theorem Cy {ts:List al} {n:Nat}:g6 ts (n+1)=g6 ts n++[eA ts 0 n]:=by simp [g6,List.range_succ]
theorem ox {ts:List al} {n:Nat}:(g6 ts n).length=n:=by simp [g6]
theorem pG {ts:List al} {n k:Nat} {x:aa} (h:(g6 ts n)[k]? =some x):x=eA ts 0 k:=by
 unfold g6 at h
 rw [fq] at h
 cases hk:(List.range n)[k]? with
 |none=>simp [hk] at h
 |some v=>
  have:=List.getElem?_eq_some_iff.1 hk
  simp at this
  simp [hk] at h
  rw [← h,← this.2]
theorem ET {ts:List al} {a b:cD} (h:b.aY<a.aY):jP ts a b=oe (jP ts b a):=by
 unfold jP
 rw [if_pos h,if_neg I]
 unfold wV
 rw [Int.min_comm b.aY a.aY,Int.max_comm b.aY a.aY]
 unfold oe mh
 simp only [aa.mk.injEq]
 omega
theorem qB {ts:List al} {a b:cD} (h: ¬ b.aY<a.aY):jP ts a b=mh (mh (eA ts a.aY.toNat (b.aY-a.aY).toNat) b.mG) (oe a.mG):=by
 unfold jP wV
 rw [if_neg h,Int.min_eq_left I,Int.max_eq_right I]
end
section
def ir (m:List ax) (a:cO):List aq:=rd a.1.1 m.length 7 (List.zipWith ax.cells m a.2)::aV ax.g0 m a.2
structure QX (h:List ax) (a:cO):Prop where
 len:h.length≤1000000
 oF:a.2.length=h.length
 sig: ∀ d∈h,d.cr.ag.length≤1000000
structure e7 (r:bT) (az:List RA) (ha:List cO):Prop where
 line:ep r.ao az
 iN:r.aQ.length≤1000000
 draw:r.bQ.length≤12
 iO:r.ay.length≤1000000
 has:ha.length=r.ay.length
 oM: ∀ (k:Nat) h (a:cO),r.ay[k]? =some h→ha[k]? =some a→QX h a
structure qP (r:bT) (az:List RA) (ha:List cO):Prop where
 line:ti r.ao az
 iN:r.aQ.length≤9223372036854775807
 draw:r.bQ.length≤9223372036854775807
 iO:r.ay.length≤9223372036854775807
 has:ha.length=r.ay.length
 oM: ∀ (k:Nat) h (a:cO),r.ay[k]? =some h→ha[k]? =some a→h.length≤9223372036854775807∧a.2.length=h.length∧ ∀ d∈h,d.cr.ag.length≤9223372036854775807
def oZ (h:List ax):Prop:=8<(h.length:Int)∨ ∃ d∈h,15<(d.cr.ag.length:Int)
def oE (r:bT):Prop:=(mK r.ao∨8<(r.aQ.length:Int)∨8<(r.bQ.length:Int)∨5<(r.ay.length:Int))∨ ∃ h∈r.ay,oZ h
noncomputable instance (r:bT):Decidable (oE r):=Classical.propDecidable _
theorem NL {r:bT} (h: ¬ oE r): ¬ mK r.ao∧(r.aQ.length:Int)≤8∧(r.bQ.length:Int)≤8∧(r.ay.length:Int)≤5∧ ∀ h∈r.ay,(h.length:Int)≤8∧ ∀ d∈h,(d.cr.ag.length:Int)≤15:=by
 unfold oE at h
 obtain ⟨A,B⟩:=not_or.1 h
 obtain ⟨C,E⟩:=not_or.1 A
 refine ⟨C,I,I,I,fun x hx=>?_⟩
 have hn: ¬ oZ x:=fun q=>B ⟨x,hx,q⟩
 obtain ⟨F,D⟩:=not_or.1 hn
 refine ⟨I,fun d hd=>?_⟩
 rcases Int.lt_or_le 15 (d.cr.ag.length:Int) with q|q
 ·exact absurd ⟨d,hd,q⟩ D
 ·exact q
theorem qP.small {r:bT} {az:List RA} {ha:List cO} (h:qP r az ha) (hg: ¬ oE r):e7 r az ha:=by
 have B:=NL hg
 refine ⟨h.line.small B.1,I,I,I,h.has,fun k x a hx A=>?_⟩
 have C:=B.2.2.2.2 x (aR hx)
 have D:=h.oM k x a hx A
 exact ⟨I,D.2.1,fun d hd=>by have:=C.2 d hd; omega⟩
def my (r:cv):Prop:=r.Start=0∧r.fZ=0∧(r.ag.length:Int)=0
instance (r:cv):Decidable (my r):=by unfold my; infer_instance
def iL (s:aa):Prop:=1≤s.Lo∧s.Lo≤s.Hi∧s.Hi≤600000
instance (s:aa):Decidable (iL s):=by unfold iL; infer_instance
def hU (l:a_) (d:ax):Prop:=if d.Out=true then d.eI=false∧d.Time=dx∧my d.cr else if d.eI=true then iL d.Time∧my d.cr else eK l d.cr l.cH=0∧d.Time=dx
noncomputable instance (l:a_) (d:ax):Decidable (hU l d):=Classical.propDecidable _
noncomputable def dv (l:a_) (d:ax):aa:=if d.Out=true∨d.eI=true then d.Time else Ao l d.cr
/-- which kind a descent is of -/
def ot (d:ax):Int:=if d.Out=true then 0 else if d.eI=true then 1 else 2
theorem Ob {w:bO} (h:HL w): ∀ (b:Nat) (p:aB×Int),p∈fwd w b→w.Start≤p.2:=by
 have hl: ∀ b,0≤bR w b:=fun b=>by
  unfold bR
  cases e:w.pT[b]? with
  |none=>simp
  |some x=>have:=h.least x (aR e); simp; omega
 intro b
 induction b with
 |zero=>intro p hp; simp only [fwd,bS] at hp; subst hp; exact Int.le_refl _
 |succ b ih=>
  intro q hq
  obtain ⟨p,hp,o,ho,e⟩:=fG.1 hq
  unfold kH at e
  split at e
  ·simp only [Option.some.injEq] at e
   subst e
   have:=ih p hp
   have:=hl b
   simp only; omega
  ·cases e
theorem Na {l:a_} {r:cv} {b:Int} (h:eK l r b=0):r.Start≤(eQ l r b).Lo:=by
 have ho:eu l r (jA l b)=0:=by
  by_cases e:eu l r (jA l b)=0
  ·exact e
  ·rw [(nO e).1] at h; exact absurd h e
 obtain ⟨B,C,_⟩:=jY ho
 obtain ⟨ht,A⟩:=gF B
 have hw:=o4 ht A C
 have hv:eQ l r b=mz l r b.toNat:=by unfold eQ; rw [if_pos h]
 have hn:mz l r b.toNat≠mE:=fun e=>by unfold eK at h; rw [if_pos ho,if_pos e] at h; omega
 have hh:=uA (l:=l8 (cj l r) b.toNat) fun q hq=>mY hq
 rw [hv]
 unfold mz at hn ⊢
 rcases hh with ⟨_,e⟩|hh
 ·exact absurd e hn
 ·obtain ⟨x,hx,ex⟩:=hh.lo
  obtain ⟨o,ho,p,hp,u,hu,e⟩:=g_.1 hx
  obtain ⟨_,_,rfl⟩:=jo.1 e
  have D:r.Start≤p.2:=Ob hw _ p hp
  have E:0≤bR (cj l r) b.toNat:=by
   unfold bR
   cases e:(cj l r).pT[b.toNat]? with
   |none=>simp
   |some x=>have:=hw.least x (aR e); simp; omega
  simp only [jr] at ex
  omega
theorem FI {l:a_} {d:ax} (h:hU l d):0≤(dv l d).Lo∧(dv l d).Lo≤(dv l d).Hi∧(dv l d).Hi≤86400000:=by
 unfold hU at h
 unfold dv
 split at h
 ·rename_i q; rw [if_pos (Or.inl q),h.2.1]; simp [dx]
 ·rename_i q
  split at h
  ·rename_i A
   rw [if_pos (Or.inr A)]
   obtain ⟨⟨B,C,D⟩,_⟩:=h
   omega
  ·rename_i A
   rw [if_neg (fun z=>z.elim q A),AJ h.1]
   have B:=xj h.1
   have C:=(u7 h.1).time
   have D:=Na h.1
   simp only
   omega
theorem Gt {l:a_} {d:ax} (h:d.Out=true):dv l d=d.Time:=if_pos (Or.inl h)
theorem AR {l:a_} {d:ax} (h:d.Out=false∧d.eI=true):dv l d=d.Time:=if_pos (Or.inr h.2)
theorem wb {l:a_} {d:ax} (h:d.Out=false∧d.eI=false):dv l d=Ao l d.cr:=if_neg (by simp [h])
theorem qs {l:a_} {d:ax} (h:d.Out=true):hU l d=(d.eI=false∧d.Time=dx∧my d.cr):=if_pos h
theorem tf {l:a_} {d:ax} (h:d.Out=false∧d.eI=true):hU l d=(iL d.Time∧my d.cr):=by unfold hU; rw [if_neg (by simp [h]),if_pos h.2]
theorem sM {l:a_} {d:ax} (h:d.Out=false∧d.eI=false):hU l d=(eK l d.cr l.cH=0∧d.Time=dx):=by unfold hU; rw [if_neg (by simp [h]),if_neg (by simp [h])]
structure eP (r:bT):Prop where
 num:1≤(r.aQ.length:Int)∧(r.aQ.length:Int)≤5
 x7:0≤r.iK∧r.iK≤5
 nh:1≤(r.ay.length:Int)∧(r.ay.length:Int)≤3
 ids: ∀ (i:Nat) x,r.aQ[i]? =some x→(0≤x∧x≤9999)∧ ∀ y,0<i→r.aQ[i-1]? =some y→y<x
 draw:r.bQ.Perm ((List.range r.aQ.length).map fun (k:Nat)=>(k:Int))
 oM: ∀ h∈r.ay,h.length=r.aQ.length∧ ∀ d∈h,hU r.ao d
noncomputable instance (r:bT):Decidable (eP r):=Classical.propDecidable _
noncomputable def cK (r:bT):Int:=if dq r.ao=0 then (if eP r then 0 else 60) else dq r.ao
end
section
theorem nP {α β:Type} {f g:α→Option β}: ∀ {l:List α},(∀ x∈l,f x=g x)→l.filterMap f=l.filterMap g
 |[],_=>rfl
 |x::l,h=>by simp only [List.filterMap_cons,h x cb,nP (l:=l) (fun y hy=>h y (cR _ hy))]
abbrev gY:=List (Int×aa)
/-- the sum of a sled in some heats, the first ones -/
noncomputable def fJ (l:a_) (hs:List (List ax)) (i:Nat):Nat→Option aa
 |0=>some ⟨0,0⟩
 |k+1=>match fJ l hs i k,(hs[k]?).bind (·[i]?) with
  |some s,some d=>if d.Out=true then none else some ⟨s.Lo+(dv l d).Lo/10,s.Hi+(dv l d).Hi/10⟩
  |_,_=>none
noncomputable def dW (l:a_) (hs:List (List ax)) (n h i:Nat):gY:=(List.range n).filterMap fun q=>(fJ l hs q (if q<i then h+1 else h)).map fun s=>((q:Int),s)
noncomputable def eD (r:bT) (k:Nat):gY:=(List.range r.aQ.length).filterMap fun q=>(fJ r.ao r.ay q k).map fun s=>((q:Int),s)
noncomputable def aF (r:bT):gY:=eD r r.ay.length
section
variable {l:a_} {hs:List (List ax)} {n h i q:Nat} {s:aa} {d:ax}
theorem Dd:dW l hs n h 0=(List.range n).filterMap fun q=>(fJ l hs q h).map fun s=>((q:Int),s):=by
 unfold dW
 apply nP
 intro q _
 rw [if_neg (Nat.not_lt_zero _)]
theorem NX:dW l hs n h n=dW l hs n (h+1) 0:=by
 rw [Dd]
 unfold dW
 apply nP
 intro q hq
 rw [if_pos (List.mem_range.1 hq)]
theorem GL {x:List ax} (hx:hs[h]? =some x) (hd:x[i]? =some d) (ho:d.Out=true):fJ l hs i (h+1)=none:=by
 unfold fJ
 rw [hx]
 simp only [Option.bind_some,hd]
 cases fJ l hs i h with
 |none=>rfl
 |some s=>simp [ho]
theorem E4 (h0:fJ l hs i h=none):fJ l hs i (h+1)=none:=by unfold fJ; rw [h0]
theorem DM {x:List ax} (hx:hs[h]? =some x) (hd:x[i]? =some d) (ho: ¬ d.Out=true) (hs0:fJ l hs i h=some s):fJ l hs i (h+1)=some ⟨s.Lo+(dv l d).Lo/10,s.Hi+(dv l d).Hi/10⟩:=by
 unfold fJ
 rw [hx,hs0]
 simp only [Option.bind_some,hd,if_neg ho]
end
section
variable {l:a_} {hs:List (List ax)} {n h i q:Nat} {s t:aa}
theorem Q8 {K β:Type} [DecidableEq K] {L Y:List (K×β)} {t:K}:(L++Y).lookup t=match L.lookup t with |some v=>some v|none=>Y.lookup t:=by
 induction L with
 |nil=>rfl
 |cons p L ih=>
  obtain ⟨k,u⟩:=p
  by_cases e:t==k
  ·simp [List.lookup,e]
  ·have:(t==k)=false:=by simpa using e
   simp only [List.cons_append,List.lookup,this,ih]
theorem o7 {f:Nat→Option aa}: ∀ (n i:Nat),((List.range n).filterMap fun q=>(f q).map fun s=>((q:Int),s)).lookup (i:Int)=if i<n then f i else none
 |0,i=>by simp
 |n+1,i=>by
  rw [List.range_succ,List.filterMap_append,Q8,o7 n i]
  by_cases c:i<n
  ·rw [if_pos c,if_pos I]
   cases e:f i with
   |some s=>rfl
   |none=>
    simp only
    cases e2:f n with
    |none=>simp [e2]
    |some u=>
     have:((i:Int)==(n:Int))=false:=by simp only [beq_eq_false_iff_ne,ne_eq]; omega
     simp [e2,List.lookup,this]
  ·rw [if_neg c]
   simp only
   by_cases A:i=n
   ·subst A
    rw [if_pos I]
    cases e2:f i with
    |none=>simp [e2]
    |some u=>simp [e2]
   ·rw [if_neg I]
    have:((i:Int)==(n:Int))=false:=by simp only [beq_eq_false_iff_ne,ne_eq]; omega
    cases e2:f n with
    |none=>simp [e2]
    |some u=>simp [e2,List.lookup,this]
theorem wY:(dW l hs n h i).lookup (q:Int)=if q<n then fJ l hs q (if q<i then h+1 else h) else none:=o7 n q
theorem Qc {f g:Nat→Option aa} {n i:Nat} (hi:i<n) {s:aa} (hf:(f i).isSome=true) (hg:g i=some s) (hfg: ∀ q,q≠i→f q=g q):dL ((List.range n).filterMap fun q=>(f q).map fun s=>((q:Int),s)) (i:Int) s=(List.range n).filterMap fun q=>(g q).map fun s=>((q:Int),s):=by
 unfold dL
 rw [if_pos (by rw [o7,if_pos hi]; exact hf),List.map_filterMap]
 apply nP
 intro q _
 by_cases e:q=i
 ·subst e
  obtain ⟨u,hu⟩:=Option.isSome_iff_exists.1 hf
  rw [hu,hg]; simp
 ·rw [hfg q e]
  cases g q with
  |none=>rfl
  |some u=>
   have: ¬ ((q:Int)=(i:Int)):=by omega
   simp [this]
theorem Qh {f g:Nat→Option aa} {n i:Nat} (hg:g i=none) (hfg: ∀ q,q≠i→f q=g q):cq ((List.range n).filterMap fun q=>(f q).map fun s=>((q:Int),s)) (i:Int)=(List.range n).filterMap fun q=>(g q).map fun s=>((q:Int),s):=by
 unfold cq
 rw [List.filter_filterMap]
 apply nP
 intro q _
 by_cases e:q=i
 ·subst e
  rw [hg]
  cases f q with
  |none=>rfl
  |some u=>simp
 ·rw [hfg q e]
  cases g q with
  |none=>rfl
  |some u=>
   have: ¬ ((q:Int)=(i:Int)):=by omega
   simp [this]
theorem MG (hi:i<n) (h0:(fJ l hs i h).isSome=true) (h1:fJ l hs i (h+1)=some s):dL (dW l hs n h i) (i:Int) s=dW l hs n h (i+1):=by
 unfold dW
 refine Qc hi (by rw [if_neg (Nat.lt_irrefl i)]; exact h0) (by rw [if_pos (Nat.lt_succ_self i)]; exact h1) fun q hq=>?_
 by_cases c:q<i
 ·rw [if_pos c,if_pos I]
 ·rw [if_neg c,if_neg I]
theorem FG (h1:fJ l hs i (h+1)=none):cq (dW l hs n h i) (i:Int)=dW l hs n h (i+1):=by
 unfold dW
 refine Qh (by rw [if_pos (Nat.lt_succ_self i)]; exact h1) fun q hq=>?_
 by_cases c:q<i
 ·rw [if_pos c,if_pos I]
 ·rw [if_neg c,if_neg I]
end
theorem CP {r:bT} {k i:Nat}:(eD r k).lookup (i:Int)=if i<r.aQ.length then fJ r.ao r.ay i k else none:=o7 _ _
def mQ (m:gY) (i:Int):gY:=m.filter fun p=> !decide (p.1=i)
def gG (m:gY) (i n:Int):Nat:=(mQ m i).countP fun p=>decide (p.2.Hi<n)
def jt (m:gY) (i n:Int):Nat:=(mQ m i).countP fun p=>decide (p.2.Lo<n)
def jF (m:gY) (i:Int) (own:aa):List Int:=own.Lo::((mQ m i).flatMap fun p=>[p.2.Lo+1,p.2.Hi+1]).filter fun n=>decide (own.Lo≤n∧n≤own.Hi)
def sk (m:gY) (i:Int) (own:aa) (k:Int):Prop:= ∃ n∈jF m i own,(gG m i n:Int)+1≤k∧k≤(jt m i n:Int)+1
noncomputable instance (m:gY) (i:Int) (own:aa) (k:Int):Decidable (sk m i own k):=Classical.propDecidable _
noncomputable def c_ (m:gY) (i:Int) (own:aa):List Int:=((List.range m.length).map fun (k:Nat)=>(k:Int)+1).filter fun k=>decide (sk m i own k)
section
variable {m:gY} {i:Int} {own:aa}
theorem HV {a b:Int} (h:a≤b):gG m i a≤gG m i b:=List.countP_mono_left fun p _ q=>fI (by have:=of_decide_eq_true q; omega)
theorem LZ {a b:Int} (h:a≤b):jt m i a≤jt m i b:=List.countP_mono_left fun p _ q=>fI (by have:=of_decide_eq_true q; omega)
/-- what a point stands for -/
theorem Iv {x:Int} (h1:own.Lo≤x) (h2:x≤own.Hi): ∃ n∈jF m i own,n≤x∧gG m i n=gG m i x∧jt m i n=jt m i x:=by
 -- the greatest point that is no greater
 have key: ∀ (d:Nat) (x:Int),own.Lo≤x→x≤own.Hi→(x-own.Lo).toNat=d→ ∃ n∈jF m i own,n≤x∧gG m i n=gG m i x∧jt m i n=jt m i x:=by
  intro d
  induction d with
  |zero=>
   intro x h1 h2 hd
   have:x=own.Lo:=by omega
   exact ⟨own.Lo,cb ..,I,by rw [this],by rw [this]⟩
  |succ d ih=>
   intro x h1 h2 hd
   by_cases c:x∈jF m i own
   ·exact ⟨x,c,Int.le_refl _,U,U⟩
   ·obtain ⟨n,hn,D,B,C⟩:=ih (x-1) I I I
    have A: ∀ p∈mQ m i,p.2.Lo+1≠x∧p.2.Hi+1≠x:=fun p hp=>by
     constructor<;>intro e<;>apply c<;>refine cR _ (List.mem_filter.2 ⟨List.mem_flatMap.2 ⟨p,hp,by rw [← e]; simp⟩,fI ⟨h1,h2⟩⟩)
    refine ⟨n,hn,I,?_,?_⟩
    ·rw [B]
     unfold gG
     apply List.countP_congr
     intro p hp
     have:=(A p hp).2
     rw [decide_eq_true_eq,decide_eq_true_eq]
     omega
    ·rw [C]
     unfold jt
     apply List.countP_congr
     intro p hp
     have:=(A p hp).1
     rw [decide_eq_true_eq,decide_eq_true_eq]
     omega
 exact key _ x h1 h2 U
theorem Kf {n:Int} (ho:own.Lo≤own.Hi) (h:n∈jF m i own):own.Lo≤n∧n≤own.Hi:=by
 rcases List.mem_cons.1 h with rfl|h
 ·omega
 ·exact of_decide_eq_true (List.mem_filter.1 h).2
/-- a rank comes about at some sum -/
theorem qq (ho:own.Lo≤own.Hi) {k:Int}:sk m i own k↔ ∃ x,own.Lo≤x∧x≤own.Hi∧(gG m i x:Int)+1≤k∧k≤(jt m i x:Int)+1:=by
 constructor
 ·rintro ⟨n,hn,A,B⟩
  have:=Kf ho hn
  exact ⟨n,this.1,this.2,A,B⟩
 ·rintro ⟨x,A,B,E,F⟩
  obtain ⟨n,hn,_,C,D⟩:=Iv (m:=m) (i:=i) A B
  exact ⟨n,hn,by rw [C]; exact E,by rw [D]; exact F⟩
theorem Kd (hi:m.lookup i≠none) {x:Int}:jt m i x+1≤m.length:=by
 unfold jt
 refine Nat.lt_of_le_of_lt List.countP_le_length ?_
 unfold mQ
 obtain ⟨v,hv⟩:=Option.ne_none_iff_exists'.1 hi
 have hm: ∃ p∈m,p.1=i:=by
  clear hi
  induction m with
  |nil=>simp at hv
  |cons p m ih=>
   obtain ⟨a,b⟩:=p
   by_cases e:i=a
   ·exact ⟨_,cb ..,e.symm⟩
   ·have:(i==a)=false:=by simpa using e
    simp only [List.lookup,this] at hv
    obtain ⟨p,hp,e⟩:=ih hv
    exact ⟨p,cR _ hp,e⟩
 obtain ⟨p,hp,e⟩:=hm
 refine Nat.lt_of_le_of_ne (List.length_filter_le _ _) fun q=>?_
 have:=(List.filter_eq_self (p:=fun p:Int×aa=> !decide (p.1=i))).1 (List.filter_sublist.eq_of_length q) p hp
 simp [e] at this
theorem qR (hi:m.lookup i≠none) {k:Int}:k∈c_ m i own↔sk m i own k:=by
 unfold c_
 rw [List.mem_filter,ua,decide_eq_true_eq]
 constructor
 ·rintro ⟨_,h⟩; exact h
 ·intro h
  refine ⟨?_,h⟩
  obtain ⟨n,_,A,B⟩:=h
  have:=Kd hi (x:=n)
  exact ⟨(k-1).toNat,List.mem_range.2 I,I⟩
end
end
section
def qc (l:List Int):List (List Value):=l.map fun x=>[vI x]
theorem tU {l:List Int}:(qc l).length=l.length:=by simp [qc]
theorem Hv {l:List Int} {k:Nat} {x:Int} (h:l[k]? =some x):(qc l)[k]? =some [vI x]:=by simp [qc,h]
theorem H7 {l:List Int} {k:Nat} {x:List Value} (h:(qc l)[k]? =some x): ∃ y,l[k]? =some y∧x=[vI y]:=by
 simp only [qc,fq,Option.map_eq_some_iff] at h
 obtain ⟨y,hy,rfl⟩:=h
 exact ⟨y,hy,U⟩
theorem D8 {l:List Int}: ∀ x∈qc l,x.length=1:=fun x hx=>by
 simp only [qc,ua] at hx
 obtain ⟨y,_,rfl⟩:=hx
 rfl
theorem yq {l:List Int}:l.take (qc l).length=l:=by rw [tU,List.take_of_length_le (Nat.le_refl _)]
theorem j0 {l:List Int} {k:Nat} {x:Int} (h:l[k]? =some x):l.take (k+1)=l.take k++[x]:=by
 rw [List.take_add_one,h]; rfl
def df (l:List Int):List Int:=l.mergeSort fun a b=>decide (a≤b)
theorem fx {l:List Int}:(df l).Perm l:=List.mergeSort_perm _ _
theorem kW {l:List Int}:(df l).Pairwise (· ≤ ·):=by
 have:=List.pairwise_mergeSort (le:=fun (a b:Int)=>decide (a≤b)) (fun a b c A B=>by simp at A B ⊢; omega) (fun a b=>by simp; omega) l
 exact this.imp fun h=>by simpa using h
@[simp] theorem gl {l:List Int}:(df l).length=l.length:=fx.length_eq
theorem qM {l m:List Int} (h1:m.Perm l) (h2:m.Pairwise (· ≤ ·)):m=df l:=rO (h1.trans fx.symm) h2 kW
end
section
open Go.RowKit
def sC (s:br):List Value:=[vS s.a s.n s.c]
theorem zh: ∀ s,(sC s).length=1:=fun s=>rfl
theorem I7 (l:List br): ∀ v∈(l.map sC).flatten,v.oneCell'=true:=mq (fun s=>rfl) l
def CQ (l:List aa) (a:RA):br:=⟨a.1,l.length,a.2⟩
def El (l:List aa) (a:RA):List Value:=[vS a.1 l.length a.2]
def MA (l:List aa) (a:RA):List aq:=[rd a.1 l.length 2 (l.map aa.cells)]
def Du (l:List aa) (a:RA):List aq:=[own a.1 a.2 L4 2 (l.map aa.cells)]
theorem zc {ls:List (List aa)} {az:List RA}:(List.zipWith CQ ls az).map sC=List.zipWith El ls az:=by
 rw [List.map_zipWith]; rfl
theorem tT: ∀ (m:List aa) (a:RA) (w:World),(∀ X∈Du m a,X.holds w)→ ∀ X∈MA m a,X.holds w:=fun m a w h X hX=>by
 simp only [MA,bS] at hX
 subst hX
 have:=nN (h _ (List.mem_singleton.2 rfl))
 simpa using this
theorem wX {l:List (List aa)} {bz:List RA}:(bw (aV Du l bz)).wr=true:=by
 show (aV Du l bz).all (·.wr)=true
 rw [eZ]
 intro X hX
 obtain ⟨k,m,a,_,_,h⟩:=jH hX
 simp only [Du,bS] at h
 subst h; rfl
theorem mS {ls:List (List aa)} {az:List RA} (h:az.length=ls.length):(List.zipWith El ls az).length=ls.length:=by simp [h]
noncomputable def gu (r:bT) (i:Nat):List (List aa):=(r.ay.take i).map fun h=>h.map (dv r.ao)
noncomputable def cN (r:bT):List (List aa):=gu r r.ay.length
section
variable {r:bT} {i:Nat} {h:List ax} {tz:List RA} {a:RA}
theorem vc (hh:r.ay[i]? =some h):gu r (i+1)=gu r i++[h.map (dv r.ao)]:=by unfold gu; rw [List.take_add_one,hh,List.map_append]; rfl
theorem kG (hi:i≤r.ay.length):(gu r i).length=i:=by unfold gu; rw [List.length_map,List.length_take]; omega
theorem dy:(cN r).length=r.ay.length:=kG (Nat.le_refl _)
theorem E0 (hh:r.ay[i]? =some h):(cN r)[i]? =some (h.map (dv r.ao)):=by
 unfold cN gu
 rw [List.take_length,fq,hh]; rfl
theorem zI {m:List aa} (hh:r.ay[i]? =some h) (hm:(cN r)[i]? =some m):m=h.map (dv r.ao):=by
 rw [E0 hh] at hm
 exact (Option.some.inj hm).symm
theorem tW (hh:r.ay[i]? =some h) (hl:tz.length=i):List.zipWith CQ (gu r (i+1)) (tz++[a])=List.zipWith CQ (gu r i) tz++[CQ (h.map (dv r.ao)) a]:=by
 have hi:=(List.getElem?_eq_some_iff.1 hh).1
 rw [vc hh,List.zipWith_append (by rw [kG I,hl])]
 rfl
theorem Bs (hh:r.ay[i]? =some h) (hl:tz.length=i):aV Du (gu r i) tz++[own a.1 a.2 L4 2 ((h.map (dv r.ao)).map aa.cells)]=aV Du (gu r (i+1)) (tz++[a]):=by
 have hi:=(List.getElem?_eq_some_iff.1 hh).1
 rw [vc hh,jN (by rw [kG I,hl])]
 simp [aV,Du]
end
theorem yJ {lo hi:Int} {l:List Int}:pW lo hi l=true↔ ∀ x∈l,lo≤x∧x≤hi:=by
 unfold pW
 rw [Bool.not_eq_true',List.any_eq_false]
 constructor
 ·intro h x hx; have:=h x hx; simp only [decide_eq_true_eq] at this; omega
 ·intro h x hx; have:=h x hx; simp only [decide_eq_true_eq]; omega
abbrev G6 (n:Nat):List Int:=(List.range n).map fun (k:Nat)=>(k:Int)
theorem wP (n:Nat):(G6 n).Pairwise (· ≤ ·):=by
 unfold G6
 rw [List.pairwise_map]
 exact List.pairwise_lt_range.imp fun h=>by omega
theorem vg {l:List Int} {n:Nat} (h:l.Perm (G6 n)):df l=G6 n:=(qM h.symm (wP n)).symm
theorem GB {l:List Int} {n:Nat} (hl:l.length=n) (h: ∀ j,j<n→ ∀ x,(df l)[j]? =some x→x=(j:Int)):l.Perm (G6 n):=by
 have e:df l=G6 n:=by
  apply List.ext_getElem
  ·simp [hl]
  ·intro j A B
   have C:j<n:=by simpa using B
   have:=h j C _ (eC A)
   simpa using this
 rw [← e]; exact fx.symm
def qV (r:bT) (i:Nat):Prop:= ∀ j,j<i→(∀ x,(df r.bQ)[j]? =some x→x=(j:Int))∧ ∀ x y,r.aQ[j]? =some x→0<j→r.aQ[j-1]? =some y→y<x
def EG (r:bT) (h:List ax):Prop:=h.length=r.aQ.length∧ ∀ d∈h,hU r.ao d
def j_ (r:bT) (i:Nat):Prop:= ∀ (j:Nat) h,j<i→r.ay[j]? =some h→EG r h
def oj (l:a_) (h:List ax) (k:Nat):Prop:= ∀ (j:Nat) d,j<k→h[j]? =some d→hU l d
section
variable {r:bT} {i:Nat}
theorem Ex:qV r 0:=fun j hj=>absurd hj (Nat.not_lt_zero _)
theorem w7 {x:Int} (h:qV r i) (hd:(df r.bQ)[i]? =some x) (e:x=(i:Int)) (hs: ∀ x y,r.aQ[i]? =some x→0<i→r.aQ[i-1]? =some y→y<x):qV r (i+1):=fun j hj=>by
 rcases Nat.lt_or_ge j i with q|q
 ·exact h j q
 ·obtain rfl:j=i:=by omega
  exact ⟨fun y hy=>by rw [hd] at hy; cases hy; exact e,hs⟩
theorem wQ:j_ r 0:=fun j h hj=>absurd hj (Nat.not_lt_zero _)
theorem xo {h:List ax} (hh:j_ r i) (hx:r.ay[i]? =some h) (ho:EG r h):j_ r (i+1):=fun j y hj hy=>by
 rcases Nat.lt_or_ge j i with q|q
 ·exact hh j y q hy
 ·obtain rfl:j=i:=by omega
  rw [hx] at hy; cases hy; exact ho
theorem u0 {l:a_} {h:List ax}:oj l h 0:=fun j d hj=>absurd hj (Nat.not_lt_zero _)
theorem uZ {l:a_} {h:List ax} {d:ax} (ht:oj l h i) (hx:h[i]? =some d) (ho:hU l d):oj l h (i+1):=fun j y hj hy=>by
 rcases Nat.lt_or_ge j i with q|q
 ·exact ht j y q hy
 ·obtain rfl:j=i:=by omega
  rw [hx] at hy; cases hy; exact ho
theorem Fl {h:List ax} (hl:h.length=r.aQ.length) (ht:oj r.ao h i) (hi:h.length≤i):EG r h:=⟨hl,fun d hd=>by
 obtain ⟨j,hj⟩:=List.getElem?_of_mem hd
 exact ht j d (by have:=(List.getElem?_eq_some_iff.1 hj).1; omega) hj⟩
theorem Jy {n:Nat} (hn:n=r.aQ.length) (h1:1≤(r.aQ.length:Int)∧(r.aQ.length:Int)≤5) (h2:r.bQ.length=r.aQ.length) (h3:0≤r.iK∧r.iK≤5) (h4:1≤(r.ay.length:Int)∧(r.ay.length:Int)≤3) (h5:pW 0 9999 r.aQ=true)
 (h6:qV r n) (h7:j_ r i) (hi:r.ay.length≤i):eP r:=by
 subst hn
 refine ⟨h1,h3,h4,fun k x hx=>⟨yJ.1 h5 x (aR hx),fun y hk hy=>?_⟩,GB h2 fun j hj=>(h6 j hj).1,fun h hh=>?_⟩
 ·exact (h6 k (List.getElem?_eq_some_iff.1 hx).1).2 x y hx hk hy
 ·obtain ⟨j,hj⟩:=List.getElem?_of_mem hh
  exact h7 j h (by have:=(List.getElem?_eq_some_iff.1 hj).1; omega) hj
theorem eP.yn (h:eP r):r.bQ.length=r.aQ.length:=by have:=h.draw.length_eq; simpa using this
theorem eP.ins (h:eP r):pW 0 9999 r.aQ=true:=yJ.2 fun x hx=>by
 obtain ⟨j,hj⟩:=List.getElem?_of_mem hx
 exact (h.ids j x hj).1
theorem eP.drawn (h:eP r) {x:Int} (hx:(df r.bQ)[i]? =some x):x=(i:Int):=by
 rw [vg h.draw] at hx
 have hi:=(List.getElem?_eq_some_iff.1 hx).1
 simp at hi
 rw [fq,List.getElem?_range hi] at hx
 exact (Option.some.inj hx).symm
theorem eP.Ah (h:eP r):j_ r i:=fun j x _ hx=>h.oM x (aR hx)
theorem yX (h: ¬ dq r.ao=0):cK r=dq r.ao:=if_neg h
theorem kx (h:dq r.ao=0) (hn: ¬ eP r):cK r=60:=by unfold cK; rw [if_pos h,if_neg hn]
theorem C6 (h:dq r.ao=0) (hn:eP r):cK r=0:=by unfold cK; rw [if_pos h,if_pos hn]
theorem iI (h:cK r=0):dq r.ao=0∧eP r:=by
 unfold cK at h
 split at h
 ·split at h
  ·exact ⟨asm,asm⟩
  ·cases h
 ·exact absurd h asm
end
section
variable {r:bT} {k i n h:Nat} {s:aa} {l:a_} {hs:List (List ax)}
theorem z7: ∀ {k:Nat} {s:aa},j_ r k→k≤r.ay.length→fJ r.ao r.ay i k=some s→0≤s.Lo∧s.Lo≤s.Hi∧s.Hi≤8640000*(k:Int)
 |0,s,_,_,h=>by
  simp only [fJ,Option.some.injEq] at h
  subst h; simp
 |k+1,s,hh,hk,h=>by
  unfold fJ at h
  split at h
  ·rename_i u d hu hd
   split at h
   ·cases h
   ·cases h
    have A:=z7 (fun j x hj hx=>hh j x I hx) I hu
    obtain ⟨x,hx,hd⟩:=Option.bind_eq_some_iff.1 hd
    have B:=FI ((hh k x I hx).2 d (aR hd))
    simp only
    push_cast
    omega
  ·cases h
theorem Nm:dL (dW l hs i 0 0) (i:Int) ⟨0,0⟩=dW l hs (i+1) 0 0:=by
 have A:(dW l hs i 0 0).lookup (i:Int)=none:=by rw [wY,if_neg (Nat.lt_irrefl i)]
 unfold dL
 rw [A]
 simp only [Option.isSome_none,Bool.false_eq_true,if_false]
 unfold dW
 rw [List.range_succ,List.filterMap_append]
 simp [fJ]
theorem KD (hi:i<n):(dW l hs n h i).lookup (i:Int)=fJ l hs i h:=by rw [wY,if_pos hi,if_neg (Nat.lt_irrefl i)]
theorem Iq {α β:Type} {f:α→β} {tr:List β} {ht:List α} {x:β} {d:α} (e:tr=ht.map f) (hx:tr[i]? =some x) (hd:ht[i]? =some d):x=f d:=by
 rw [e,fq,hd] at hx
 exact (Option.some.inj hx).symm
theorem Od:dW r.ao r.ay r.aQ.length h 0=eD r h:=Dd
end
end
section
def vy (key:Int→Int) (l:List Int) (x:Int):List Int:=l.takeWhile (fun y=>decide (key y≤key x))++x::l.dropWhile (fun y=>decide (key y≤key x))
def er (key:Int→Int) (l:List Int):List Int:=l.foldl (vy key) []
def Et (key:Int→Int) (l:List Int):Prop:=l.Pairwise fun a b=>key a≤key b
section
variable {key:Int→Int} {l A B D:List Int} {x u v:Int} {i j:Nat}
theorem GO:(vy key l x).Perm (x::l):=by
 unfold vy
 refine List.perm_middle.trans ?_
 rw [List.takeWhile_append_dropWhile]
theorem OY (hA: ∀ y∈A,key y≤key x) (hB: ∀ y∈B,key x<key y):(A++B).takeWhile (fun y=>decide (key y≤key x))=A∧(A++B).dropWhile (fun y=>decide (key y≤key x))=B:=by
 induction A with
 |nil=>
  cases B with
  |nil=>simp
  |cons b B=>
   have h:=hB b cb
   have:decide (key b≤key x)=false:=cf I
   rw [List.nil_append,List.takeWhile_cons,List.dropWhile_cons,this]
   exact ⟨U,U⟩
 |cons a A ih=>
  have h:=ih fun y hy=>hA y (cR _ hy)
  have:decide (key a≤key x)=true:=fI (hA a cb)
  simp only [List.cons_append,List.takeWhile,List.dropWhile,this]
  exact ⟨by rw [h.1],h.2⟩
theorem xB (hA: ∀ y∈A,key y≤key x) (hB: ∀ y∈B,key x<key y):vy key (A++B) x=A++x::B:=by
 unfold vy
 rw [(OY hA hB).1,(OY hA hB).2]
theorem Ca (x:Int): ∀ {l:List Int},Et key l→ ∃ A B,l=A++B∧(∀ y∈A,key y≤key x)∧ ∀ y∈B,key x<key y
 |[],_=>⟨[],[],rfl,(fun y h=>by cases h),fun y h=>by cases h⟩
 |a::l,h=>by
  unfold Et at h
  rw [List.pairwise_cons] at h
  by_cases c:key a≤key x
  ·obtain ⟨A,B,e,hA,hB⟩:=Ca x (l:=l) h.2
   refine ⟨a::A,B,by rw [e]; rfl,fun y hy=>?_,hB⟩
   rcases List.mem_cons.1 hy with rfl|hy
   ·exact c
   ·exact hA y hy
  ·refine ⟨[],a::l,rfl,fun y hy=>(by cases hy),fun y hy=>?_⟩
   rcases List.mem_cons.1 hy with rfl|hy
   ·omega
   ·have:=h.1 y hy; omega
theorem Ov (h:Et key l):Et key (vy key l x):=by
 obtain ⟨A,B,rfl,hA,hB⟩:=Ca x h
 rw [xB hA hB]
 unfold Et at h ⊢
 rw [List.pairwise_append] at h ⊢
 refine ⟨h.1,List.pairwise_cons.2 ⟨fun y hy=>by have:=hB y hy; omega,h.2.1⟩,fun y hy z hz=>?_⟩
 rcases List.mem_cons.1 hz with rfl|hz
 ·exact hA y hy
 ·exact h.2.2 y hy z hz
theorem Da:er key (l++[x])=vy key (er key l) x:=by unfold er; rw [List.foldl_append]; rfl
theorem BH (h:l[i]? =some x):er key (l.take (i+1))=vy key (er key (l.take i)) x:=by rw [j0 h,Da]
theorem x3: ∀ {l m:List Int},(l.foldl (vy key) m).Perm (m++l)
 |[],m=>by simp
 |x::l,m=>(x3 (l:=l) (m:=vy key m x)).trans (((GO).append_right l).trans (by
  rw [List.cons_append]
  exact List.perm_middle.symm))
theorem qj:(er key l).Perm l:=by simpa [er] using x3 (key:=key) (l:=l) (m:=[])
theorem Bn: ∀ {l m:List Int},Et key m→Et key (l.foldl (vy key) m)
 |[],m,h=>h
 |x::l,m,h=>Bn (l:=l) (Ov h)
theorem uY:Et key (er key l):=Bn List.Pairwise.nil
theorem kz:(er key l).length=l.length:=qj.length_eq
def C9 (key:Int→Int) (l:List Int) (i j:Nat) (D:List Int):Prop:= ∃ A B x,l[i]? =some x∧A.length=j∧er key (l.take i)=A++B∧(∀ y∈B,key x<key y)∧D=A++x::(B++l.drop (i+1))
def tp (key:Int→Int) (l:List Int) (i:Nat) (D:List Int):Prop:=D=er key (l.take i)++l.drop i
theorem IJ (h:0<l.length):tp key l 1 l:=by
 cases l with
 |nil=>simp at h
 |cons a l=>simp [tp,er,vy]
theorem Ix (hi:l.length≤i) (h:tp key l i D):D=er key l:=by
 subst h; rw [List.take_of_length_le hi,List.drop_of_length_le hi,List.append_nil]
theorem Ee (hi:i<l.length) (h:tp key l i D):C9 key l i i D:=by
 have hx:l[i]? =some l[i]:=eC hi
 refine ⟨er key (l.take i),[],l[i],hx,by rw [kz,List.length_take]; omega,sm,fun y hy=>(by cases hy),?_⟩
 rw [h,List.nil_append,List.drop_eq_getElem_cons hi]
theorem wZ: ∀ {A:List Int},0<A.length→ ∃ A' y,A=A'++[y]:=fun {A} h=>⟨A.dropLast,A.getLast (by intro e; subst e; simp at h),(List.dropLast_concat_getLast _).symm⟩
theorem GJ (hj:0<j) (h:C9 key l i j D) (hu:D[j]? =some u) (hv:D[j-1]? =some v) (hlt:key u<key v):C9 key l i (j-1) ((D.set j v).set (j-1) u):=by
 obtain ⟨A,B,x,hx,hl,he,hB,rfl⟩:=h
 obtain ⟨A',y,rfl⟩:=wZ (A:=A) I
 simp only [List.length_append,List.length_cons,List.length_nil] at hl
 subst hl
 have C:(A'++[y]++x::(B++l.drop (i+1)))=A'++y::x::(B++l.drop (i+1)):=by simp
 rw [C] at hu hv ⊢
 rw [List.getElem?_append_right I,show A'.length+(0+1)-A'.length=1 by omega] at hu
 rw [show A'.length+(0+1)-1=A'.length by omega,List.getElem?_append_right (Nat.le_refl _),Nat.sub_self] at hv
 simp at hu hv
 subst hu hv
 refine ⟨A',y::B,x,hx,I,by rw [he]; simp,fun z hz=>?_,?_⟩
 ·rcases List.mem_cons.1 hz with rfl|hz
  ·exact hlt
  ·exact hB z hz
 ·rw [show A'.length+(0+1)-1=A'.length by omega,List.set_append_right _ _ I,List.set_append_right _ _ (Nat.le_refl _),show A'.length+(0+1)-A'.length=1 by omega,Nat.sub_self]
  simp
theorem zF (h:C9 key l i j D) (hc: ∀ A,A.length=j→(∃ C,D=A++C)→Et key A→ ∀ x,l[i]? =some x→D[j]? =some x→ ∀ y∈A,key y≤key x):tp key l (i+1) D:=by
 obtain ⟨A,B,x,hx,hl,he,hB,rfl⟩:=h
 unfold tp
 have E:Et key (A++B):=he▸uY
 rw [BH hx,he,xB (hc A hl ⟨_,rfl⟩ (by unfold Et at E ⊢; rw [List.pairwise_append] at E; exact E.1) x hx (by rw [List.getElem?_append_right I,← hl]; simp)) hB]
 simp
theorem za (hj: ¬ 0<j) (h:C9 key l i j D):tp key l (i+1) D:=zF h fun A hl _ _ x _ _ y hy=>by
 have:A=[]:=jD I
 subst this; cases hy
theorem yT (hj:0<j) (h:C9 key l i j D) (hu:D[j]? =some u) (hv:D[j-1]? =some v) (hlt: ¬ key u<key v):tp key l (i+1) D:=zF h fun A hl hC hA x hx hd y hy=>by
 obtain ⟨C,hC⟩:=hC
 obtain ⟨A',z,rfl⟩:=wZ (A:=A) I
 simp only [List.length_append,List.length_cons,List.length_nil] at hl
 rw [hd] at hu; cases hu
 have e:D[j-1]? =some z:=by
  rw [hC,List.append_assoc,List.getElem?_append_right I,show j-1-A'.length=0 by omega]; simp
 rw [e] at hv; cases hv
 unfold Et at hA
 rw [List.pairwise_append] at hA
 rcases List.mem_append.1 hy with hy|hy
 ·have:=hA.2.2 y hy v sm; omega
 ·rw [bS] at hy; subst hy; omega
end
end
section
def rJ (k:Nat) (l:List Int):List Int:=(l.take k).reverse++l.drop k
def G9 (l:List Int) (k i:Nat) (D:List Int):Prop:=D.length=l.length∧ ∀ p,p<l.length→D[p]? =l[if p<k∧(p<i∨k≤p+i) then k-1-p else p]?
section
variable {l D:List Int} {k i j:Nat} {u v:Int}
theorem j6:(rJ k l).length=l.length:=by unfold rJ; rw [List.length_append,List.length_reverse,List.length_take,List.length_drop]; omega
theorem Mr:G9 l k 0 l:=⟨rfl,fun p hp=>by rw [if_neg I]⟩
theorem IP (hk:k≤l.length) (hij:i<j) (hj:j+i+1=k) (h:G9 l k i D) (hu:D[i]? =some u) (hv:D[j]? =some v):G9 l k (i+1) ((D.set i v).set j u):=by
 refine ⟨by rw [List.length_set,List.length_set]; exact h.1,fun p hp=>?_⟩
 have hl:=h.1
 have hi:=h.2 i I
 have A:=h.2 j I
 rw [hu,if_neg I] at hi
 rw [hv,if_neg I] at A
 by_cases B:p=j
 ·subst B
  rw [List.getElem?_set_self (by rw [List.length_set]; omega),if_pos I,show k-1-p=i by omega,hi]
 ·rw [List.getElem?_set_ne (fun e=>B e.symm)]
  by_cases C:p=i
  ·subst C
   rw [List.getElem?_set_self I,if_pos I,show k-1-p=j by omega,A]
  ·rw [List.getElem?_set_ne (fun e=>C e.symm),h.2 p hp]
   by_cases c:p<k∧(p<i∨k≤p+i)
   ·rw [if_pos c,if_pos I]
   ·rw [if_neg c,if_neg I]
theorem Oj (hk:k≤l.length) (hi:k≤2*i+1) (h:G9 l k i D):D=rJ k l:=by
 apply List.ext_getElem?
 intro p
 by_cases hp:p<l.length
 ·rw [h.2 p hp]
  unfold rJ
  by_cases c:p<k
  ·rw [List.getElem?_append_left (by rw [List.length_reverse,List.length_take]; omega),List.getElem?_reverse (by rw [List.length_take]; omega),List.length_take,Nat.min_eq_left hk,List.getElem?_take]
   rw [if_pos (show k-1-p<k by omega)]
   by_cases A:p<k∧(p<i∨k≤p+i)
   ·rw [if_pos A]
   ·rw [if_neg A,show k-1-p=p by omega]
  ·rw [if_neg I,List.getElem?_append_right (by rw [List.length_reverse,List.length_take]; omega),List.length_reverse,List.length_take,Nat.min_eq_left hk,List.getElem?_drop,show k+(p-k)=p by omega]
 ·rw [List.getElem?_eq_none (by rw [h.1]; omega),List.getElem?_eq_none (by rw [j6]; omega)]
end
end
end Go.Proofs.YtadjgjnicdcjbaaGreatDoor
